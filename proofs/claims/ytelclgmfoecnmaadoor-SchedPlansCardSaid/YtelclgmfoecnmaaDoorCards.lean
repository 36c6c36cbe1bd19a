/-
  DERIVED. GIVEN WITH THE SEED: THE CARDS: each row of YtelclgmfoecnmaaDoorRows.lean that lists a variable, with what it lists TIED to the program's text (the seventh form; the later family's looks); each row that meets fmt, with fmt's text TOLD by the authors' own Lean function (tested against real Go, not proved from fmt's source: count such statements apart). THE CARD IS WHAT COUNTS. Prove the row's statement (the work); the ties are given (YtelclgmfoecnmaaDoorTie.lean); close each card by the builder's one call (the guide's Derived/Test/ToyasCard.lean, 'card_holds'). Laid BY PROGRAM, IN A SANDBOX (cutbox-door.mjs). By AI agents, Wed Nov 11 2026. No macro, syntax, notation, axiom, sorry.
-/
import Derived.Test.YtelclgmfoecnmaaDoorRows
import GoSem.ClaimSeven
namespace Go.Proofs.YtelclgmfoecnmaaDoor
namespace Rows

/-- THE TIED CARD OF 'spoondriftlaw24.SchedPlans'. -/
def schedPlansCard : Claim7 := { stood := { row := schedPlansRow, standIns := [], harness := (true, "a50a372d700325912ff420c9924614906ec9bb61dae3bd580c0649014d4b0e8c"), looks := false }, kinds := [], alts := [], laidByText := true, laidKinds := [.funcs], laidTests := true, laidLooks := .later }
def SchedPlansCardSaid : Prop := Claim7.holds Tryd.pinned (.plain (OpenSpec.ofChange schedPlansSpec)) schedPlansCard

/-- THE SECOND FORM's CARD OF 'spoondriftlaw24.SchedPlans'. -/
def schedPlansUptoCard : Claim7 := { stood := { row := schedPlansUptoRow, standIns := [], harness := (true, "a50a372d700325912ff420c9924614906ec9bb61dae3bd580c0649014d4b0e8c"), looks := false }, kinds := [], alts := [], laidByText := true, laidKinds := [.funcs], laidTests := true, laidLooks := .later }
def SchedPlansUptoCardSaid : Prop := Claim7.holds Tryd.pinned (.plain (OpenSpec.upto schedPlansSpec)) schedPlansUptoCard
end Rows
end Go.Proofs.YtelclgmfoecnmaaDoor
