/-
  DERIVED. GIVEN WITH THE SEED: THE PROGRAM's TIES (one call each: nine closed facts by the kernel) AND EACH ROW's TIE, after the 31st guide's Derived/Test/Toyas{Tie, Card}.lean. No idea stands in it: it is a product of the set-up. Laid BY PROGRAM, IN A SANDBOX (cutbox-door.mjs). By AI agents, Wed Nov 11 2026. No macro, syntax, notation, axiom, sorry.
-/
import Derived.Test.YtknbjjlaocecdaaDoorRows
import Derived.LaidByTextLater
import Derived.SevenTiedAt
import Derived.LaidSub
import Derived.LaidOnce
namespace Go.Proofs.YtknbjjlaocecdaaDoor
open Go
set_option maxRecDepth 100000
theorem seatTie1 : Tryd.prog.laidByTextLater [("spoondrift/sched.asks", Rows.laid_spoondrift_sched_asks), ("spoondrift/spoondriftkit.All", Rows.laid_spoondrift_spoondriftkit_All)] [.funcs, .widerDeep] true :=
  Program.laidByTextLater_by_one 21 8 13 (by kernel_rfl) (by kernel_rfl) (by kernel_rfl) (by kernel_rfl) (by kernel_rfl) (by kernel_rfl) (fun _ _ => by kernel_rfl)
theorem noOwnUnsafe : Tryd.pinned.checked.prog.headLifts.contains "ownunsafe" = false := by kernel_rfl
theorem tie : Tryd.prog.laidByTextLater [("spoondrift/sched.asks", Rows.laid_spoondrift_sched_asks), ("spoondrift/spoondriftkit.All", Rows.laid_spoondrift_spoondriftkit_All)] [.funcs, .widerDeep] true :=
  Program.laidByTextLater.sub seatTie1 ["spoondrift/sched.asks", "spoondrift/spoondriftkit.All"] (by kernel_rfl) (by kernel_rfl)
theorem schedEarly_row_tie : Rows.schedEarlyRow.laidByTextAt .later Tryd.pinned [.funcs, .widerDeep] true :=
  OpenClaim.laidByTextAt_later rfl rfl tie noOwnUnsafe
theorem schedEarlyUpto_row_tie : Rows.schedEarlyUptoRow.laidByTextAt .later Tryd.pinned [.funcs, .widerDeep] true :=
  OpenClaim.laidByTextAt_later rfl rfl tie noOwnUnsafe
end Go.Proofs.YtknbjjlaocecdaaDoor
