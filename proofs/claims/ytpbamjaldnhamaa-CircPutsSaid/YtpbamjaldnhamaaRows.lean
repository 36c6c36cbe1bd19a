/-
  No cell of these rows narrows 'for every input' (looked for: loops, veiled, ifaces, maps, wideKeys, modest, calm, conditions, laid).
  DERIVED. THE GIVEN ROWS OF THIS SEAT. 3 by the template 'for every input the law returns true; each argument reads behind the call as it read before'; 0 by the template 'total and deterministic' (their statements: YtpbamjaldnhamaaTotals.lean).
  GIVEN WITH THE SEED: the statements are not yours to turn. If you find one false, say at which input.
  Laid BY PROGRAM, IN A SANDBOX (cutbox-rows.mjs): the forced cells as the released guide's own fill.sh prints them over the translation 1d1bb812612e9e0b… (all of the seat's roots in one cut). By AI agents, Wed Nov 11 2026. No macro, syntax, notation, axiom, sorry.
-/
import Derived.Test.YtpbamjaldnhamaaChecked
import GoSem.Claim
import GoSem.ClaimJoined
import GoSem.ClaimMapViews
import Derived.JoinedTies
import Derived.KernelRfl
namespace Go.Proofs.Ytpbamjaldnhamaa
/- THE CELL 'sum', in the pinned program and in every row, IS THE sha256 OF THE DUMP (.gsa) THAT YtpbamjaldnhamaaProg.lean LOADS. Nothing in Lean hashes anything: it is a label: what it is worth is what the hold of that sum in a sandbox is worth. -/
noncomputable def Try.pinned : Pinned := { name := "ytpbamjaldnhamaa", sum := "1d1bb812612e9e0ba63774de042374a442928644f1de912c26cd428dc40af558", checked := Try.checked }
namespace Rows
def none {H : Type} : Left H := { results := [], args := [] }

/-- 'spoondriftlaw04.CircOrders': WHATEVER THE INPUT: true; the input reads as it did. -/
def circOrdersSpec : ChangeSpec := { name := "circOrders", fn := fun _ => fun
  | [d1, d2, d3, d4] => { results := [.lit (.bool true)], args := [d1, d2, d3, d4] }
  | _ => none }
def circOrdersRow : OpenClaim := { program := "ytpbamjaldnhamaa", sum := "1d1bb812612e9e0ba63774de042374a442928644f1de912c26cd428dc40af558", func := "spoondrift/spoondriftlaw04.CircOrders", spec := "circOrders", unfollowed := true, recurses := true, apart := false }
def CircOrdersSaid : Prop := circOrdersRow.holds Try.pinned (OpenSpec.ofChange circOrdersSpec)

/-- ITS FALSE NEIGHBOUR: 'it returns false'. Refute it at one input. -/
def circOrdersWrong : ChangeSpec := { name := "circOrders", fn := fun _ => fun
  | [d1, d2, d3, d4] => { results := [.lit (.bool false)], args := [d1, d2, d3, d4] }
  | _ => none }
def CircOrdersWrongFalsely : Prop := circOrdersRow.holds Try.pinned (OpenSpec.ofChange circOrdersWrong)

/-- 'spoondriftlaw04.CircChecks': WHATEVER THE INPUT: true; the input reads as it did. -/
def circChecksSpec : ChangeSpec := { name := "circChecks", fn := fun _ => fun
  | [d1, d2, d3] => { results := [.lit (.bool true)], args := [d1, d2, d3] }
  | _ => none }
def circChecksRow : OpenClaim := { program := "ytpbamjaldnhamaa", sum := "1d1bb812612e9e0ba63774de042374a442928644f1de912c26cd428dc40af558", func := "spoondrift/spoondriftlaw04.CircChecks", spec := "circChecks", unfollowed := true, recurses := true, apart := false }
def CircChecksSaid : Prop := circChecksRow.holds Try.pinned (OpenSpec.ofChange circChecksSpec)

/-- ITS FALSE NEIGHBOUR: 'it returns false'. Refute it at one input. -/
def circChecksWrong : ChangeSpec := { name := "circChecks", fn := fun _ => fun
  | [d1, d2, d3] => { results := [.lit (.bool false)], args := [d1, d2, d3] }
  | _ => none }
def CircChecksWrongFalsely : Prop := circChecksRow.holds Try.pinned (OpenSpec.ofChange circChecksWrong)

/-- 'spoondriftlaw04.CircPuts': WHATEVER THE INPUT: true; the input reads as it did. -/
def circPutsSpec : ChangeSpec := { name := "circPuts", fn := fun _ => fun
  | [d1, d2, d3, d4, d5] => { results := [.lit (.bool true)], args := [d1, d2, d3, d4, d5] }
  | _ => none }
def circPutsRow : OpenClaim := { program := "ytpbamjaldnhamaa", sum := "1d1bb812612e9e0ba63774de042374a442928644f1de912c26cd428dc40af558", func := "spoondrift/spoondriftlaw04.CircPuts", spec := "circPuts", unfollowed := true, recurses := true, apart := false }
def CircPutsSaid : Prop := circPutsRow.holds Try.pinned (OpenSpec.ofChange circPutsSpec)

/-- ITS FALSE NEIGHBOUR: 'it returns false'. Refute it at one input. -/
def circPutsWrong : ChangeSpec := { name := "circPuts", fn := fun _ => fun
  | [d1, d2, d3, d4, d5] => { results := [.lit (.bool false)], args := [d1, d2, d3, d4, d5] }
  | _ => none }
def CircPutsWrongFalsely : Prop := circPutsRow.holds Try.pinned (OpenSpec.ofChange circPutsWrong)

/- THE SECOND FORM. 'bulk': how many values and letters a reading holds, each counted each time it is reached (what is shared counts as often as it is met; a slice's spare places count too). A statement '..UptoSaid' is the law's where the arguments, and the package variables that the reading takes, are together of bulk at most 1048576: NARROWER than '..Said'. Prove '..Said' where nothing that the law and all that it calls make is longer than what came in: it says more and counts as full. Else prove '..UptoSaid'. A law counts once. -/
mutual
def uptoBulk {H : Type} : DataW H → Nat
  | .lit (.string bytes) => bytes.length + 1
  | .lit _ => 1
  | .nil => 1
  | .ptr d => uptoBulk d + 1
  | .slice elems spare => uptoBulkAll elems + uptoBulkAll spare + 1
  | .agg parts => uptoBulkAll parts + 1
  | .iface _ d => uptoBulk d + 1
  | .map entries => uptoBulkEntries entries + 1
  | .held _ => 1
def uptoBulkAll {H : Type} : List (DataW H) → Nat
  | [] => 0
  | d :: r => uptoBulk d + uptoBulkAll r
def uptoBulkEntries {H : Type} : List (Lit × DataW H) → Nat
  | [] => 0
  | x :: r => uptoBulkEntry x + uptoBulkEntries r
def uptoBulkEntry {H : Type} : Lit × DataW H → Nat
  | (.string bytes, d) => bytes.length + uptoBulk d + 1
  | (_, d) => uptoBulk d + 1
 end
def uptoSmall : (H : Type) → List (DataW H) → Bool := fun _ ds => decide (uptoBulkAll ds ≤ 1048576)
def OpenSpec.upto (s : _root_.Go.ChangeSpec) : _root_.Go.OpenSpec := { _root_.Go.OpenSpec.ofChange s with cond := some uptoSmall }

/-- 'spoondriftlaw04.CircOrders', WHERE WHAT IT READS IS OF BULK AT MOST 1048576: true; the input reads as it did. -/
def circOrdersUptoRow : OpenClaim := { program := "ytpbamjaldnhamaa", sum := "1d1bb812612e9e0ba63774de042374a442928644f1de912c26cd428dc40af558", func := "spoondrift/spoondriftlaw04.CircOrders", spec := "circOrders", unfollowed := true, recurses := true, apart := false, narrowed := true }
def CircOrdersUptoSaid : Prop := circOrdersUptoRow.holds Try.pinned (OpenSpec.upto circOrdersSpec)

/-- 'spoondriftlaw04.CircChecks', WHERE WHAT IT READS IS OF BULK AT MOST 1048576: true; the input reads as it did. -/
def circChecksUptoRow : OpenClaim := { program := "ytpbamjaldnhamaa", sum := "1d1bb812612e9e0ba63774de042374a442928644f1de912c26cd428dc40af558", func := "spoondrift/spoondriftlaw04.CircChecks", spec := "circChecks", unfollowed := true, recurses := true, apart := false, narrowed := true }
def CircChecksUptoSaid : Prop := circChecksUptoRow.holds Try.pinned (OpenSpec.upto circChecksSpec)

/-- 'spoondriftlaw04.CircPuts', WHERE WHAT IT READS IS OF BULK AT MOST 1048576: true; the input reads as it did. -/
def circPutsUptoRow : OpenClaim := { program := "ytpbamjaldnhamaa", sum := "1d1bb812612e9e0ba63774de042374a442928644f1de912c26cd428dc40af558", func := "spoondrift/spoondriftlaw04.CircPuts", spec := "circPuts", unfollowed := true, recurses := true, apart := false, narrowed := true }
def CircPutsUptoSaid : Prop := circPutsUptoRow.holds Try.pinned (OpenSpec.upto circPutsSpec)

end Rows
end Go.Proofs.Ytpbamjaldnhamaa
