/-
  NARROWER THAN 'FOR EVERY INPUT', by the rows' own cells (each row's printed sentence says how): CircLayered: laid · CircBack: laid · CircTraced: laid · CircCancelled: laid · CircCut: laid · CircRelabelled: laid.
  DERIVED. THE GIVEN ROWS OF THIS SEAT. 6 by the template 'for every input the law returns true; each argument reads behind the call as it read before'; 0 by the template 'total and deterministic' (their statements: YtpbamjaldnhamaaDoorTotals.lean).
  GIVEN WITH THE SEED: the statements are not yours to turn. If you find one false, say at which input.
  Laid BY PROGRAM, IN A SANDBOX (cutbox-rows.mjs): the forced cells as the released guide's own fill.sh prints them over the translation a04400daa914f9a9… (all of the seat's roots in one cut). By AI agents, Wed Nov 11 2026. No macro, syntax, notation, axiom, sorry.
-/
import Derived.Test.YtpbamjaldnhamaaDoorChecked
import GoSem.Claim
import GoSem.ClaimJoined
import GoSem.ClaimMapViews
import Derived.JoinedTies
import Derived.KernelRfl
namespace Go.Proofs.YtpbamjaldnhamaaDoor
/- THE CELL 'sum', in the pinned program and in every row, IS THE sha256 OF THE DUMP (.gsa) THAT YtpbamjaldnhamaaDoorProg.lean LOADS. Nothing in Lean hashes anything: it is a label: what it is worth is what the hold of that sum in a sandbox is worth. -/
noncomputable def Tryd.pinned : Pinned := { name := "ytpbamjaldnhamaadoor", sum := "a04400daa914f9a975890672080bb823a2fad694e34c0731ddbe10c84d12b75e", checked := Tryd.checked }
namespace Rows
def none {H : Type} : Left H := { results := [], args := [] }

/- WHAT THE LISTED PACKAGE-LEVEL VARIABLES READ AS WHEN THE CALL BEGINS. Each datum BY PROGRAM (the guide's laid-datum.mjs) off the statement by which the dump's own 'gosem.cut.vars' lays the variable. In a bare row this is a premise. The card (YtpbamjaldnhamaaDoorCards.lean) ties it to the program's text. -/
def laid_spoondrift_spoondriftkit_All {H : Type} : DataW H := .slice [.lit (.int .i64 1), .lit (.int .i64 2), .lit (.int .i64 3), .lit (.int .i64 4), .lit (.int .i64 5), .lit (.int .i64 6), .lit (.int .i64 7), .lit (.int .i64 8), .lit (.int .i64 9), .lit (.int .i64 10), .lit (.int .i64 11), .lit (.int .i64 12)] []

/-- 'spoondriftlaw04.CircLayered': WHATEVER THE INPUT: true; the input reads as it did. -/
def circLayeredSpec : ChangeSpec := { name := "circLayered", fn := fun _ => fun
  | [d1, d2] => { results := [.lit (.bool true)], args := [d1, d2] }
  | _ => none }
def circLayeredRow : OpenClaim := { program := "ytpbamjaldnhamaadoor", sum := "a04400daa914f9a975890672080bb823a2fad694e34c0731ddbe10c84d12b75e", func := "spoondrift/spoondriftlaw04.CircLayered", spec := "circLayered", inPlace := ["slices.overlaps[int]"], unfollowed := true, recurses := true, named := ["spoondrift/spoondriftkit.All"], apart := false, laid := [("spoondrift/spoondriftkit.All", laid_spoondrift_spoondriftkit_All)] }
def CircLayeredSaid : Prop := circLayeredRow.holds Tryd.pinned (OpenSpec.ofChange circLayeredSpec)

/-- ITS FALSE NEIGHBOUR: 'it returns false'. Refute it at one input. -/
def circLayeredWrong : ChangeSpec := { name := "circLayered", fn := fun _ => fun
  | [d1, d2] => { results := [.lit (.bool false)], args := [d1, d2] }
  | _ => none }
def CircLayeredWrongFalsely : Prop := circLayeredRow.holds Tryd.pinned (OpenSpec.ofChange circLayeredWrong)

/-- 'spoondriftlaw04.CircBack': WHATEVER THE INPUT: true; the input reads as it did. -/
def circBackSpec : ChangeSpec := { name := "circBack", fn := fun _ => fun
  | [d1, d2] => { results := [.lit (.bool true)], args := [d1, d2] }
  | _ => none }
def circBackRow : OpenClaim := { program := "ytpbamjaldnhamaadoor", sum := "a04400daa914f9a975890672080bb823a2fad694e34c0731ddbe10c84d12b75e", func := "spoondrift/spoondriftlaw04.CircBack", spec := "circBack", inPlace := ["slices.overlaps[int]"], unfollowed := true, recurses := true, named := ["spoondrift/spoondriftkit.All"], apart := false, laid := [("spoondrift/spoondriftkit.All", laid_spoondrift_spoondriftkit_All)] }
def CircBackSaid : Prop := circBackRow.holds Tryd.pinned (OpenSpec.ofChange circBackSpec)

/-- ITS FALSE NEIGHBOUR: 'it returns false'. Refute it at one input. -/
def circBackWrong : ChangeSpec := { name := "circBack", fn := fun _ => fun
  | [d1, d2] => { results := [.lit (.bool false)], args := [d1, d2] }
  | _ => none }
def CircBackWrongFalsely : Prop := circBackRow.holds Tryd.pinned (OpenSpec.ofChange circBackWrong)

/-- 'spoondriftlaw04.CircTraced': WHATEVER THE INPUT: true; the input reads as it did. -/
def circTracedSpec : ChangeSpec := { name := "circTraced", fn := fun _ => fun
  | [d1, d2, d3] => { results := [.lit (.bool true)], args := [d1, d2, d3] }
  | _ => none }
def circTracedRow : OpenClaim := { program := "ytpbamjaldnhamaadoor", sum := "a04400daa914f9a975890672080bb823a2fad694e34c0731ddbe10c84d12b75e", func := "spoondrift/spoondriftlaw04.CircTraced", spec := "circTraced", inPlace := ["slices.overlaps[int]"], unfollowed := true, recurses := true, named := ["spoondrift/spoondriftkit.All"], apart := false, laid := [("spoondrift/spoondriftkit.All", laid_spoondrift_spoondriftkit_All)] }
def CircTracedSaid : Prop := circTracedRow.holds Tryd.pinned (OpenSpec.ofChange circTracedSpec)

/-- ITS FALSE NEIGHBOUR: 'it returns false'. Refute it at one input. -/
def circTracedWrong : ChangeSpec := { name := "circTraced", fn := fun _ => fun
  | [d1, d2, d3] => { results := [.lit (.bool false)], args := [d1, d2, d3] }
  | _ => none }
def CircTracedWrongFalsely : Prop := circTracedRow.holds Tryd.pinned (OpenSpec.ofChange circTracedWrong)

/-- 'spoondriftlaw04.CircCancelled': WHATEVER THE INPUT: true; the input reads as it did. -/
def circCancelledSpec : ChangeSpec := { name := "circCancelled", fn := fun _ => fun
  | [d1, d2, d3] => { results := [.lit (.bool true)], args := [d1, d2, d3] }
  | _ => none }
def circCancelledRow : OpenClaim := { program := "ytpbamjaldnhamaadoor", sum := "a04400daa914f9a975890672080bb823a2fad694e34c0731ddbe10c84d12b75e", func := "spoondrift/spoondriftlaw04.CircCancelled", spec := "circCancelled", inPlace := ["slices.overlaps[int]", "slices.overlaps[spoondrift/api.Gate]"], unfollowed := true, recurses := true, named := ["spoondrift/spoondriftkit.All"], apart := false, laid := [("spoondrift/spoondriftkit.All", laid_spoondrift_spoondriftkit_All)] }
def CircCancelledSaid : Prop := circCancelledRow.holds Tryd.pinned (OpenSpec.ofChange circCancelledSpec)

/-- ITS FALSE NEIGHBOUR: 'it returns false'. Refute it at one input. -/
def circCancelledWrong : ChangeSpec := { name := "circCancelled", fn := fun _ => fun
  | [d1, d2, d3] => { results := [.lit (.bool false)], args := [d1, d2, d3] }
  | _ => none }
def CircCancelledWrongFalsely : Prop := circCancelledRow.holds Tryd.pinned (OpenSpec.ofChange circCancelledWrong)

/-- 'spoondriftlaw04.CircCut': WHATEVER THE INPUT: true; the input reads as it did. -/
def circCutSpec : ChangeSpec := { name := "circCut", fn := fun _ => fun
  | [d1, d2, d3, d4] => { results := [.lit (.bool true)], args := [d1, d2, d3, d4] }
  | _ => none }
def circCutRow : OpenClaim := { program := "ytpbamjaldnhamaadoor", sum := "a04400daa914f9a975890672080bb823a2fad694e34c0731ddbe10c84d12b75e", func := "spoondrift/spoondriftlaw04.CircCut", spec := "circCut", inPlace := ["slices.overlaps[int]"], unfollowed := true, recurses := true, named := ["spoondrift/spoondriftkit.All"], apart := false, laid := [("spoondrift/spoondriftkit.All", laid_spoondrift_spoondriftkit_All)] }
def CircCutSaid : Prop := circCutRow.holds Tryd.pinned (OpenSpec.ofChange circCutSpec)

/-- ITS FALSE NEIGHBOUR: 'it returns false'. Refute it at one input. -/
def circCutWrong : ChangeSpec := { name := "circCut", fn := fun _ => fun
  | [d1, d2, d3, d4] => { results := [.lit (.bool false)], args := [d1, d2, d3, d4] }
  | _ => none }
def CircCutWrongFalsely : Prop := circCutRow.holds Tryd.pinned (OpenSpec.ofChange circCutWrong)

/-- 'spoondriftlaw04.CircRelabelled': WHATEVER THE INPUT: true; the input reads as it did. -/
def circRelabelledSpec : ChangeSpec := { name := "circRelabelled", fn := fun _ => fun
  | [d1, d2, d3] => { results := [.lit (.bool true)], args := [d1, d2, d3] }
  | _ => none }
def circRelabelledRow : OpenClaim := { program := "ytpbamjaldnhamaadoor", sum := "a04400daa914f9a975890672080bb823a2fad694e34c0731ddbe10c84d12b75e", func := "spoondrift/spoondriftlaw04.CircRelabelled", spec := "circRelabelled", inPlace := ["slices.overlaps[int]"], unfollowed := true, recurses := true, named := ["spoondrift/spoondriftkit.All"], apart := false, laid := [("spoondrift/spoondriftkit.All", laid_spoondrift_spoondriftkit_All)] }
def CircRelabelledSaid : Prop := circRelabelledRow.holds Tryd.pinned (OpenSpec.ofChange circRelabelledSpec)

/-- ITS FALSE NEIGHBOUR: 'it returns false'. Refute it at one input. -/
def circRelabelledWrong : ChangeSpec := { name := "circRelabelled", fn := fun _ => fun
  | [d1, d2, d3] => { results := [.lit (.bool false)], args := [d1, d2, d3] }
  | _ => none }
def CircRelabelledWrongFalsely : Prop := circRelabelledRow.holds Tryd.pinned (OpenSpec.ofChange circRelabelledWrong)

/- THE SECOND FORM. 'bulk': how many values and letters a reading holds, each counted each time it is reached (what is shared counts as often as it is met; a slice's spare places count too). A statement '..UptoSaid' is the law's where the arguments, and the package variables that the reading takes, are together of bulk at most 1048576: NARROWER than '..Said'. Prove '..Said' where nothing that the law and all that it calls make is longer than what came in: it says more and counts as full. Else prove '..UptoSaid'. A law counts once. -/
mutual
def uptoBulk {H : Type} : DataW H → Nat
  | .lit (.string bytes) => bytes.length + 1
  | .lit _ => 1
  | .nil => 1
  | .ptr d => uptoBulk d + 1
  | .slice elems spare => uptoBulkAll elems + uptoBulkAll spare + 1
  | .agg parts => uptoBulkAll parts + 1
  | .iface _ d => uptoBulk d + 1
  | .map entries => uptoBulkEntries entries + 1
  | .held _ => 1
def uptoBulkAll {H : Type} : List (DataW H) → Nat
  | [] => 0
  | d :: r => uptoBulk d + uptoBulkAll r
def uptoBulkEntries {H : Type} : List (Lit × DataW H) → Nat
  | [] => 0
  | x :: r => uptoBulkEntry x + uptoBulkEntries r
def uptoBulkEntry {H : Type} : Lit × DataW H → Nat
  | (.string bytes, d) => bytes.length + uptoBulk d + 1
  | (_, d) => uptoBulk d + 1
 end
def uptoSmall : (H : Type) → List (DataW H) → Bool := fun _ ds => decide (uptoBulkAll ds ≤ 1048576)
def OpenSpec.upto (s : _root_.Go.ChangeSpec) : _root_.Go.OpenSpec := { _root_.Go.OpenSpec.ofChange s with cond := some uptoSmall }

/-- 'spoondriftlaw04.CircLayered', WHERE WHAT IT READS IS OF BULK AT MOST 1048576: true; the input reads as it did. -/
def circLayeredUptoRow : OpenClaim := { program := "ytpbamjaldnhamaadoor", sum := "a04400daa914f9a975890672080bb823a2fad694e34c0731ddbe10c84d12b75e", func := "spoondrift/spoondriftlaw04.CircLayered", spec := "circLayered", inPlace := ["slices.overlaps[int]"], unfollowed := true, recurses := true, named := ["spoondrift/spoondriftkit.All"], apart := false, laid := [("spoondrift/spoondriftkit.All", laid_spoondrift_spoondriftkit_All)], narrowed := true }
def CircLayeredUptoSaid : Prop := circLayeredUptoRow.holds Tryd.pinned (OpenSpec.upto circLayeredSpec)

/-- 'spoondriftlaw04.CircBack', WHERE WHAT IT READS IS OF BULK AT MOST 1048576: true; the input reads as it did. -/
def circBackUptoRow : OpenClaim := { program := "ytpbamjaldnhamaadoor", sum := "a04400daa914f9a975890672080bb823a2fad694e34c0731ddbe10c84d12b75e", func := "spoondrift/spoondriftlaw04.CircBack", spec := "circBack", inPlace := ["slices.overlaps[int]"], unfollowed := true, recurses := true, named := ["spoondrift/spoondriftkit.All"], apart := false, laid := [("spoondrift/spoondriftkit.All", laid_spoondrift_spoondriftkit_All)], narrowed := true }
def CircBackUptoSaid : Prop := circBackUptoRow.holds Tryd.pinned (OpenSpec.upto circBackSpec)

/-- 'spoondriftlaw04.CircTraced', WHERE WHAT IT READS IS OF BULK AT MOST 1048576: true; the input reads as it did. -/
def circTracedUptoRow : OpenClaim := { program := "ytpbamjaldnhamaadoor", sum := "a04400daa914f9a975890672080bb823a2fad694e34c0731ddbe10c84d12b75e", func := "spoondrift/spoondriftlaw04.CircTraced", spec := "circTraced", inPlace := ["slices.overlaps[int]"], unfollowed := true, recurses := true, named := ["spoondrift/spoondriftkit.All"], apart := false, laid := [("spoondrift/spoondriftkit.All", laid_spoondrift_spoondriftkit_All)], narrowed := true }
def CircTracedUptoSaid : Prop := circTracedUptoRow.holds Tryd.pinned (OpenSpec.upto circTracedSpec)

/-- 'spoondriftlaw04.CircCancelled', WHERE WHAT IT READS IS OF BULK AT MOST 1048576: true; the input reads as it did. -/
def circCancelledUptoRow : OpenClaim := { program := "ytpbamjaldnhamaadoor", sum := "a04400daa914f9a975890672080bb823a2fad694e34c0731ddbe10c84d12b75e", func := "spoondrift/spoondriftlaw04.CircCancelled", spec := "circCancelled", inPlace := ["slices.overlaps[int]", "slices.overlaps[spoondrift/api.Gate]"], unfollowed := true, recurses := true, named := ["spoondrift/spoondriftkit.All"], apart := false, laid := [("spoondrift/spoondriftkit.All", laid_spoondrift_spoondriftkit_All)], narrowed := true }
def CircCancelledUptoSaid : Prop := circCancelledUptoRow.holds Tryd.pinned (OpenSpec.upto circCancelledSpec)

/-- 'spoondriftlaw04.CircCut', WHERE WHAT IT READS IS OF BULK AT MOST 1048576: true; the input reads as it did. -/
def circCutUptoRow : OpenClaim := { program := "ytpbamjaldnhamaadoor", sum := "a04400daa914f9a975890672080bb823a2fad694e34c0731ddbe10c84d12b75e", func := "spoondrift/spoondriftlaw04.CircCut", spec := "circCut", inPlace := ["slices.overlaps[int]"], unfollowed := true, recurses := true, named := ["spoondrift/spoondriftkit.All"], apart := false, laid := [("spoondrift/spoondriftkit.All", laid_spoondrift_spoondriftkit_All)], narrowed := true }
def CircCutUptoSaid : Prop := circCutUptoRow.holds Tryd.pinned (OpenSpec.upto circCutSpec)

/-- 'spoondriftlaw04.CircRelabelled', WHERE WHAT IT READS IS OF BULK AT MOST 1048576: true; the input reads as it did. -/
def circRelabelledUptoRow : OpenClaim := { program := "ytpbamjaldnhamaadoor", sum := "a04400daa914f9a975890672080bb823a2fad694e34c0731ddbe10c84d12b75e", func := "spoondrift/spoondriftlaw04.CircRelabelled", spec := "circRelabelled", inPlace := ["slices.overlaps[int]"], unfollowed := true, recurses := true, named := ["spoondrift/spoondriftkit.All"], apart := false, laid := [("spoondrift/spoondriftkit.All", laid_spoondrift_spoondriftkit_All)], narrowed := true }
def CircRelabelledUptoSaid : Prop := circRelabelledUptoRow.holds Tryd.pinned (OpenSpec.upto circRelabelledSpec)

end Rows
end Go.Proofs.YtpbamjaldnhamaaDoor
