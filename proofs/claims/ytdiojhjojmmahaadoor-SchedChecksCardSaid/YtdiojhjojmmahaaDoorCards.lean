/-
  DERIVED. GIVEN WITH THE SEED: THE CARDS: each row of YtdiojhjojmmahaaDoorRows.lean that lists a variable, with what it lists TIED to the program's text (the seventh form; the later family's looks); each row that meets fmt, with fmt's text TOLD by the authors' own Lean function (tested against real Go, not proved from fmt's source: count such statements apart). THE CARD IS WHAT COUNTS. Prove the row's statement (the work); the ties are given (YtdiojhjojmmahaaDoorTie.lean); close each card by the builder's one call (the guide's Derived/Test/ToyasCard.lean, 'card_holds'). Laid BY PROGRAM, IN A SANDBOX (cutbox-door.mjs). By AI agents, Wed Nov 11 2026. No macro, syntax, notation, axiom, sorry.
-/
import Derived.Test.YtdiojhjojmmahaaDoorRows
import GoSem.ClaimSeven
namespace Go.Proofs.YtdiojhjojmmahaaDoor
namespace Rows

/-- THE TIED CARD OF 'spoondriftlaw24.SchedChecks'. -/
def schedChecksCard : Claim7 := { stood := { row := schedChecksRow, standIns := [], harness := (true, "fee6babbe3ef44bceb16f6dcbae23dbe619b06f67ab82eb1ec7b645ace51ba7f"), looks := false }, kinds := [], alts := [], laidByText := true, laidKinds := [.funcs], laidTests := true, laidLooks := .later }
def SchedChecksCardSaid : Prop := Claim7.holds Tryd.pinned (.plain (OpenSpec.ofChange schedChecksSpec)) schedChecksCard

/-- THE SECOND FORM's CARD OF 'spoondriftlaw24.SchedChecks'. -/
def schedChecksUptoCard : Claim7 := { stood := { row := schedChecksUptoRow, standIns := [], harness := (true, "fee6babbe3ef44bceb16f6dcbae23dbe619b06f67ab82eb1ec7b645ace51ba7f"), looks := false }, kinds := [], alts := [], laidByText := true, laidKinds := [.funcs], laidTests := true, laidLooks := .later }
def SchedChecksUptoCardSaid : Prop := Claim7.holds Tryd.pinned (.plain (OpenSpec.upto schedChecksSpec)) schedChecksUptoCard
end Rows
end Go.Proofs.YtdiojhjojmmahaaDoor
