/-
  DERIVED. GIVEN WITH THE SEED: THE CARDS: each row of YtpbamjaldnhamaaDoorRows.lean that lists a variable, with what it lists TIED to the program's text (the seventh form; the later family's looks); each row that meets fmt, with fmt's text TOLD by the authors' own Lean function (tested against real Go, not proved from fmt's source: count such statements apart). THE CARD IS WHAT COUNTS. Prove the row's statement (the work); the ties are given (YtpbamjaldnhamaaDoorTie.lean); close each card by the builder's one call (the guide's Derived/Test/ToyasCard.lean, 'card_holds'). Laid BY PROGRAM, IN A SANDBOX (cutbox-door.mjs). By AI agents, Wed Nov 11 2026. No macro, syntax, notation, axiom, sorry.
-/
import Derived.Test.YtpbamjaldnhamaaDoorRows
import GoSem.ClaimSeven
namespace Go.Proofs.YtpbamjaldnhamaaDoor
namespace Rows

/-- THE TIED CARD OF 'spoondriftlaw04.CircLayered'. -/
def circLayeredCard : Claim7 := { stood := { row := circLayeredRow, standIns := [], harness := (true, "6404f132bab1088799fff36f3cbd5b37e6949cea78a5d1b4eb7bd26f771a0276"), looks := false }, kinds := [], alts := [], laidByText := true, laidKinds := [.widerDeep], laidTests := true, laidLooks := .later }
def CircLayeredCardSaid : Prop := Claim7.holds Tryd.pinned (.plain (OpenSpec.ofChange circLayeredSpec)) circLayeredCard

/-- THE TIED CARD OF 'spoondriftlaw04.CircBack'. -/
def circBackCard : Claim7 := { stood := { row := circBackRow, standIns := [], harness := (true, "6404f132bab1088799fff36f3cbd5b37e6949cea78a5d1b4eb7bd26f771a0276"), looks := false }, kinds := [], alts := [], laidByText := true, laidKinds := [.widerDeep], laidTests := true, laidLooks := .later }
def CircBackCardSaid : Prop := Claim7.holds Tryd.pinned (.plain (OpenSpec.ofChange circBackSpec)) circBackCard

/-- THE TIED CARD OF 'spoondriftlaw04.CircTraced'. -/
def circTracedCard : Claim7 := { stood := { row := circTracedRow, standIns := [], harness := (true, "6404f132bab1088799fff36f3cbd5b37e6949cea78a5d1b4eb7bd26f771a0276"), looks := false }, kinds := [], alts := [], laidByText := true, laidKinds := [.widerDeep], laidTests := true, laidLooks := .later }
def CircTracedCardSaid : Prop := Claim7.holds Tryd.pinned (.plain (OpenSpec.ofChange circTracedSpec)) circTracedCard

/-- THE TIED CARD OF 'spoondriftlaw04.CircCancelled'. -/
def circCancelledCard : Claim7 := { stood := { row := circCancelledRow, standIns := [], harness := (true, "6404f132bab1088799fff36f3cbd5b37e6949cea78a5d1b4eb7bd26f771a0276"), looks := false }, kinds := [], alts := [], laidByText := true, laidKinds := [.widerDeep], laidTests := true, laidLooks := .later }
def CircCancelledCardSaid : Prop := Claim7.holds Tryd.pinned (.plain (OpenSpec.ofChange circCancelledSpec)) circCancelledCard

/-- THE TIED CARD OF 'spoondriftlaw04.CircCut'. -/
def circCutCard : Claim7 := { stood := { row := circCutRow, standIns := [], harness := (true, "6404f132bab1088799fff36f3cbd5b37e6949cea78a5d1b4eb7bd26f771a0276"), looks := false }, kinds := [], alts := [], laidByText := true, laidKinds := [.widerDeep], laidTests := true, laidLooks := .later }
def CircCutCardSaid : Prop := Claim7.holds Tryd.pinned (.plain (OpenSpec.ofChange circCutSpec)) circCutCard

/-- THE TIED CARD OF 'spoondriftlaw04.CircRelabelled'. -/
def circRelabelledCard : Claim7 := { stood := { row := circRelabelledRow, standIns := [], harness := (true, "6404f132bab1088799fff36f3cbd5b37e6949cea78a5d1b4eb7bd26f771a0276"), looks := false }, kinds := [], alts := [], laidByText := true, laidKinds := [.widerDeep], laidTests := true, laidLooks := .later }
def CircRelabelledCardSaid : Prop := Claim7.holds Tryd.pinned (.plain (OpenSpec.ofChange circRelabelledSpec)) circRelabelledCard

/-- THE SECOND FORM's CARD OF 'spoondriftlaw04.CircLayered'. -/
def circLayeredUptoCard : Claim7 := { stood := { row := circLayeredUptoRow, standIns := [], harness := (true, "6404f132bab1088799fff36f3cbd5b37e6949cea78a5d1b4eb7bd26f771a0276"), looks := false }, kinds := [], alts := [], laidByText := true, laidKinds := [.widerDeep], laidTests := true, laidLooks := .later }
def CircLayeredUptoCardSaid : Prop := Claim7.holds Tryd.pinned (.plain (OpenSpec.upto circLayeredSpec)) circLayeredUptoCard

/-- THE SECOND FORM's CARD OF 'spoondriftlaw04.CircBack'. -/
def circBackUptoCard : Claim7 := { stood := { row := circBackUptoRow, standIns := [], harness := (true, "6404f132bab1088799fff36f3cbd5b37e6949cea78a5d1b4eb7bd26f771a0276"), looks := false }, kinds := [], alts := [], laidByText := true, laidKinds := [.widerDeep], laidTests := true, laidLooks := .later }
def CircBackUptoCardSaid : Prop := Claim7.holds Tryd.pinned (.plain (OpenSpec.upto circBackSpec)) circBackUptoCard

/-- THE SECOND FORM's CARD OF 'spoondriftlaw04.CircTraced'. -/
def circTracedUptoCard : Claim7 := { stood := { row := circTracedUptoRow, standIns := [], harness := (true, "6404f132bab1088799fff36f3cbd5b37e6949cea78a5d1b4eb7bd26f771a0276"), looks := false }, kinds := [], alts := [], laidByText := true, laidKinds := [.widerDeep], laidTests := true, laidLooks := .later }
def CircTracedUptoCardSaid : Prop := Claim7.holds Tryd.pinned (.plain (OpenSpec.upto circTracedSpec)) circTracedUptoCard

/-- THE SECOND FORM's CARD OF 'spoondriftlaw04.CircCancelled'. -/
def circCancelledUptoCard : Claim7 := { stood := { row := circCancelledUptoRow, standIns := [], harness := (true, "6404f132bab1088799fff36f3cbd5b37e6949cea78a5d1b4eb7bd26f771a0276"), looks := false }, kinds := [], alts := [], laidByText := true, laidKinds := [.widerDeep], laidTests := true, laidLooks := .later }
def CircCancelledUptoCardSaid : Prop := Claim7.holds Tryd.pinned (.plain (OpenSpec.upto circCancelledSpec)) circCancelledUptoCard

/-- THE SECOND FORM's CARD OF 'spoondriftlaw04.CircCut'. -/
def circCutUptoCard : Claim7 := { stood := { row := circCutUptoRow, standIns := [], harness := (true, "6404f132bab1088799fff36f3cbd5b37e6949cea78a5d1b4eb7bd26f771a0276"), looks := false }, kinds := [], alts := [], laidByText := true, laidKinds := [.widerDeep], laidTests := true, laidLooks := .later }
def CircCutUptoCardSaid : Prop := Claim7.holds Tryd.pinned (.plain (OpenSpec.upto circCutSpec)) circCutUptoCard

/-- THE SECOND FORM's CARD OF 'spoondriftlaw04.CircRelabelled'. -/
def circRelabelledUptoCard : Claim7 := { stood := { row := circRelabelledUptoRow, standIns := [], harness := (true, "6404f132bab1088799fff36f3cbd5b37e6949cea78a5d1b4eb7bd26f771a0276"), looks := false }, kinds := [], alts := [], laidByText := true, laidKinds := [.widerDeep], laidTests := true, laidLooks := .later }
def CircRelabelledUptoCardSaid : Prop := Claim7.holds Tryd.pinned (.plain (OpenSpec.upto circRelabelledSpec)) circRelabelledUptoCard
end Rows
end Go.Proofs.YtpbamjaldnhamaaDoor
