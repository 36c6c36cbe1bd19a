/-
  DERIVED. GIVEN WITH THE SEED: THE CARDS: each row of YtdiojhjojmmahabDoorRows.lean that lists a variable, with what it lists TIED to the program's text (the seventh form; the later family's looks); each row that meets fmt, with fmt's text TOLD by the authors' own Lean function (tested against real Go, not proved from fmt's source: count such statements apart). THE CARD IS WHAT COUNTS. Prove the row's statement (the work); the ties are given (YtdiojhjojmmahabDoorTie.lean); close each card by the builder's one call (the guide's Derived/Test/ToyasCard.lean, 'card_holds'). Laid BY PROGRAM, IN A SANDBOX (cutbox-door.mjs). By AI agents, Wed Nov 11 2026. No macro, syntax, notation, axiom, sorry.
-/
import Derived.Test.YtdiojhjojmmahabDoorRows
import GoSem.ClaimSeven
namespace Go.Proofs.YtdiojhjojmmahabDoor
namespace Rows

/-- THE TIED CARD OF 'spoondriftlaw24.SchedChains'. -/
def schedChainsCard : Claim7 := { stood := { row := schedChainsRow, standIns := [], harness := (true, "8b16756b9d6ebe88223129e70ccfb5140298cd50c8f34c49a75202c8a2895d57"), looks := false }, kinds := [], alts := [], laidByText := true, laidKinds := [.funcs], laidTests := true, laidLooks := .later }
def SchedChainsCardSaid : Prop := Claim7.holds Tryd.pinned (.plain (OpenSpec.ofChange schedChainsSpec)) schedChainsCard

/-- THE SECOND FORM's CARD OF 'spoondriftlaw24.SchedChains'. -/
def schedChainsUptoCard : Claim7 := { stood := { row := schedChainsUptoRow, standIns := [], harness := (true, "8b16756b9d6ebe88223129e70ccfb5140298cd50c8f34c49a75202c8a2895d57"), looks := false }, kinds := [], alts := [], laidByText := true, laidKinds := [.funcs], laidTests := true, laidLooks := .later }
def SchedChainsUptoCardSaid : Prop := Claim7.holds Tryd.pinned (.plain (OpenSpec.upto schedChainsSpec)) schedChainsUptoCard
end Rows
end Go.Proofs.YtdiojhjojmmahabDoor
