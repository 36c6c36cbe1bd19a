/-
  DERIVED. GIVEN WITH THE SEED: THE CARDS: each row of YtknbjjlaocecdaaDoorRows.lean that lists a variable, with what it lists TIED to the program's text (the seventh form; the later family's looks); each row that meets fmt, with fmt's text TOLD by the authors' own Lean function (tested against real Go, not proved from fmt's source: count such statements apart). THE CARD IS WHAT COUNTS. Prove the row's statement (the work); the ties are given (YtknbjjlaocecdaaDoorTie.lean); close each card by the builder's one call (the guide's Derived/Test/ToyasCard.lean, 'card_holds'). Laid BY PROGRAM, IN A SANDBOX (cutbox-door.mjs). By AI agents, Wed Nov 11 2026. No macro, syntax, notation, axiom, sorry.
-/
import Derived.Test.YtknbjjlaocecdaaDoorRows
import GoSem.ClaimSeven
namespace Go.Proofs.YtknbjjlaocecdaaDoor
namespace Rows

/-- THE TIED CARD OF 'spoondriftlaw24.SchedEarly'. -/
def schedEarlyCard : Claim7 := { stood := { row := schedEarlyRow, standIns := [], harness := (true, "3065f6df490a0e1e412e874bea6eb2246eecad5a9b4e9754107d7bf351a826c8"), looks := false }, kinds := [], alts := [], laidByText := true, laidKinds := [.funcs, .widerDeep], laidTests := true, laidLooks := .later }
def SchedEarlyCardSaid : Prop := Claim7.holds Tryd.pinned (.plain (OpenSpec.ofChange schedEarlySpec)) schedEarlyCard

/-- THE SECOND FORM's CARD OF 'spoondriftlaw24.SchedEarly'. -/
def schedEarlyUptoCard : Claim7 := { stood := { row := schedEarlyUptoRow, standIns := [], harness := (true, "3065f6df490a0e1e412e874bea6eb2246eecad5a9b4e9754107d7bf351a826c8"), looks := false }, kinds := [], alts := [], laidByText := true, laidKinds := [.funcs, .widerDeep], laidTests := true, laidLooks := .later }
def SchedEarlyUptoCardSaid : Prop := Claim7.holds Tryd.pinned (.plain (OpenSpec.upto schedEarlySpec)) schedEarlyUptoCard
end Rows
end Go.Proofs.YtknbjjlaocecdaaDoor
