/-
  NARROWER THAN 'FOR EVERY INPUT', by the rows' own cells (each row's printed sentence says how): SchedEarly: laid.
  DERIVED. THE GIVEN ROWS OF THIS SEAT. 1 by the template 'for every input the law returns true; each argument reads behind the call as it read before'; 0 by the template 'total and deterministic' (their statements: YtknbjjlaocecdaaDoorTotals.lean).
  GIVEN WITH THE SEED: the statements are not yours to turn. If you find one false, say at which input.
  Laid BY PROGRAM, IN A SANDBOX (cutbox-rows.mjs): the forced cells as the released guide's own fill.sh prints them over the translation a8944d4fed24d60d… (all of the seat's roots in one cut). By AI agents, Wed Nov 11 2026. No macro, syntax, notation, axiom, sorry.
-/
import Derived.Test.YtknbjjlaocecdaaDoorChecked
import GoSem.Claim
import GoSem.ClaimJoined
import GoSem.ClaimMapViews
import Derived.JoinedTies
import Derived.KernelRfl
namespace Go.Proofs.YtknbjjlaocecdaaDoor
/- THE CELL 'sum', in the pinned program and in every row, IS THE sha256 OF THE DUMP (.gsa) THAT YtknbjjlaocecdaaDoorProg.lean LOADS. Nothing in Lean hashes anything: it is a label: what it is worth is what the hold of that sum in a sandbox is worth. -/
noncomputable def Tryd.pinned : Pinned := { name := "ytknbjjlaocecdaadoor", sum := "a8944d4fed24d60dc70f049185ad28029cb73d2c1f79ffb7799537616e80fe3e", checked := Tryd.checked }
namespace Rows
def none {H : Type} : Left H := { results := [], args := [] }

/- WHAT THE LISTED PACKAGE-LEVEL VARIABLES READ AS WHEN THE CALL BEGINS. Each datum BY PROGRAM (the guide's laid-datum.mjs) off the statement by which the dump's own 'gosem.cut.vars' lays the variable. In a bare row this is a premise. The card (YtknbjjlaocecdaaDoorCards.lean) ties it to the program's text. -/
def laid_spoondrift_sched_asks {H : Type} : DataW H := .iface "func table" (.agg [.agg [.iface "func" (.lit (.string [115, 112, 111, 111, 110, 100, 114, 105, 102, 116, 47, 115, 99, 104, 101, 100, 46, 97, 115, 107, 115, 36, 49])), .lit (.int .i64 15)], .agg [.iface "func" (.lit (.string [115, 112, 111, 111, 110, 100, 114, 105, 102, 116, 47, 115, 99, 104, 101, 100, 46, 97, 115, 107, 115, 36, 50])), .lit (.int .i64 7)]])
def laid_spoondrift_spoondriftkit_All {H : Type} : DataW H := .slice [.lit (.int .i64 1), .lit (.int .i64 2), .lit (.int .i64 3), .lit (.int .i64 4), .lit (.int .i64 5), .lit (.int .i64 6), .lit (.int .i64 7), .lit (.int .i64 8), .lit (.int .i64 9), .lit (.int .i64 10), .lit (.int .i64 11), .lit (.int .i64 12)] []

/-- 'spoondriftlaw24.SchedEarly': WHATEVER THE INPUT: true; the input reads as it did. -/
def schedEarlySpec : ChangeSpec := { name := "schedEarly", fn := fun _ => fun
  | [d1, d2, d3, d4] => { results := [.lit (.bool true)], args := [d1, d2, d3, d4] }
  | _ => none }
def schedEarlyRow : OpenClaim := { program := "ytknbjjlaocecdaadoor", sum := "a8944d4fed24d60dc70f049185ad28029cb73d2c1f79ffb7799537616e80fe3e", func := "spoondrift/spoondriftlaw24.SchedEarly", spec := "schedEarly", inPlace := ["slices.overlaps[int]"], unfollowed := true, recurses := true, named := ["spoondrift/spoondriftkit.All", "spoondrift/sched.asks"], plainKeys := false, apart := false, laid := [("spoondrift/sched.asks", laid_spoondrift_sched_asks), ("spoondrift/spoondriftkit.All", laid_spoondrift_spoondriftkit_All)] }
def SchedEarlySaid : Prop := schedEarlyRow.holds Tryd.pinned (OpenSpec.ofChange schedEarlySpec)

/-- ITS FALSE NEIGHBOUR: 'it returns false'. Refute it at one input. -/
def schedEarlyWrong : ChangeSpec := { name := "schedEarly", fn := fun _ => fun
  | [d1, d2, d3, d4] => { results := [.lit (.bool false)], args := [d1, d2, d3, d4] }
  | _ => none }
def SchedEarlyWrongFalsely : Prop := schedEarlyRow.holds Tryd.pinned (OpenSpec.ofChange schedEarlyWrong)

/- THE SECOND FORM. 'bulk': how many values and letters a reading holds, each counted each time it is reached (what is shared counts as often as it is met; a slice's spare places count too). A statement '..UptoSaid' is the law's where the arguments, and the package variables that the reading takes, are together of bulk at most 1048576: NARROWER than '..Said'. Prove '..Said' where nothing that the law and all that it calls make is longer than what came in: it says more and counts as full. Else prove '..UptoSaid'. A law counts once. -/
mutual
def uptoBulk {H : Type} : DataW H → Nat
  | .lit (.string bytes) => bytes.length + 1
  | .lit _ => 1
  | .nil => 1
  | .ptr d => uptoBulk d + 1
  | .slice elems spare => uptoBulkAll elems + uptoBulkAll spare + 1
  | .agg parts => uptoBulkAll parts + 1
  | .iface _ d => uptoBulk d + 1
  | .map entries => uptoBulkEntries entries + 1
  | .held _ => 1
def uptoBulkAll {H : Type} : List (DataW H) → Nat
  | [] => 0
  | d :: r => uptoBulk d + uptoBulkAll r
def uptoBulkEntries {H : Type} : List (Lit × DataW H) → Nat
  | [] => 0
  | x :: r => uptoBulkEntry x + uptoBulkEntries r
def uptoBulkEntry {H : Type} : Lit × DataW H → Nat
  | (.string bytes, d) => bytes.length + uptoBulk d + 1
  | (_, d) => uptoBulk d + 1
 end
def uptoSmall : (H : Type) → List (DataW H) → Bool := fun _ ds => decide (uptoBulkAll ds ≤ 1048576)
def OpenSpec.upto (s : _root_.Go.ChangeSpec) : _root_.Go.OpenSpec := { _root_.Go.OpenSpec.ofChange s with cond := some uptoSmall }

/-- 'spoondriftlaw24.SchedEarly', WHERE WHAT IT READS IS OF BULK AT MOST 1048576: true; the input reads as it did. -/
def schedEarlyUptoRow : OpenClaim := { program := "ytknbjjlaocecdaadoor", sum := "a8944d4fed24d60dc70f049185ad28029cb73d2c1f79ffb7799537616e80fe3e", func := "spoondrift/spoondriftlaw24.SchedEarly", spec := "schedEarly", inPlace := ["slices.overlaps[int]"], unfollowed := true, recurses := true, named := ["spoondrift/spoondriftkit.All", "spoondrift/sched.asks"], plainKeys := false, apart := false, laid := [("spoondrift/sched.asks", laid_spoondrift_sched_asks), ("spoondrift/spoondriftkit.All", laid_spoondrift_spoondriftkit_All)], narrowed := true }
def SchedEarlyUptoSaid : Prop := schedEarlyUptoRow.holds Tryd.pinned (OpenSpec.upto schedEarlySpec)

end Rows
end Go.Proofs.YtknbjjlaocecdaaDoor
