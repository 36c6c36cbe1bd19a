/- SchedChecks, part 5: the canonical machine and the runs of the program's functions on it. No conditions. -/
import Derived.Test.YtdiojhjojmmahaaDoorCkP4
set_option linter.unusedSectionVars false
set_option linter.unusedVariables false
set_option linter.unusedSimpArgs false
namespace Go.Canon
set_option linter.unusedVariables false
set_option linter.unusedSimpArgs false
open Go
variable {t : Clk} {c : Circ}
theorem gt_cast {a b : Nat} : gtI (a : Int) (b : Int) = decide (a > b) := by simp [gtI]
theorem ge_nn {a : Nat} : geI (a : Int) (0 : Int) = true := by simp [geI]
theorem great24_eq : m_spoondriftlaw24_great (t, ()) = some (b1 (decide (t.1.length > 20) || decide (t.2.2.1.length > 40))) := by
  have key : ∀ (C : Cmb) [CmbOk C], M_spoondriftlaw24_great C (t, ()) = some (b1 (decide (t.1.length > 20) || decide (t.2.2.1.length > 40))) := by
    intro C _
    unfold M_spoondriftlaw24_great
    simp only [join_real, ofNat_c, gt_cast]
    cases decide (t.1.length > 20) <;> rfl
  exact key realC
def greatC (c : Circ) : Bool := decide (c.2.2.1.length > 130) || c.2.2.1.any fun g => decide (g.2.1.length > 6)
theorem greatC_small (h : greatC c = false) : Small c := by
  simp only [greatC, Bool.or_eq_false_iff, decide_eq_false_iff_not, List.any_eq_false, decide_eq_true_eq] at h
  exact ⟨by omega, fun g hg => by have := h.2 g hg; omega⟩
theorem great_1_eq {g : Gate} : m_spoondriftkit_Great_1 (g, ()) = some (b1 (decide (g.2.1.length > 6))) := by
  show some (b1 (gtI (g.2.1.length : Int) ((6 : Nat) : Int))) = _
  rw [gt_cast]
theorem great_eq : m_spoondriftkit_Great (c, ()) = some (b1 (greatC c)) := by
  have key : ∀ (C : Cmb) [CmbOk C], M_spoondriftkit_Great C (c, ()) = some (b1 (greatC c)) := by
    intro C _
    unfold M_spoondriftkit_Great greatC
    simp only [join_real, ofNat_c, gt_cast]
    by_cases h : c.2.2.1.length > 130
    · rw [decide_eq_true h]; rfl
    · rw [decide_eq_false h, cond_false, Bool.false_or]
      refine (loop_any2 (l := c.2.2.1) (p := fun g => decide (g.2.1.length > 6)) (R := some (b1 true)) (E := some (b1 false)) (n := fuelL) st1 (fuel_big (by omega)) (fun k hk again => ?_) fun again => ?_).trans ?_
      · simp only [cast0, ofNat_c, lt_cast, decide_true, decide_false, cond_true, cond_false, inB_cast, grd_real, join_real, Int.toNat_natCast, Option.elim_some, Bool.true_and, Bool.false_or, Bool.or_true, Bool.and_true, Bool.or_false, cond_tf, hk, getD_in hk, great_1_eq, wrap_nat (show k < 4294967296 by omega), ge_nn]
      · simp only [ofNat_c, lt_cast, decide_true, decide_false, cond_true, cond_false, inB_cast, grd_real, join_real, Int.toNat_natCast, Option.elim_some, Bool.true_and, Bool.false_or, Bool.or_true, Bool.and_true, Bool.or_false, cond_tf, Nat.lt_irrefl]; rfl
      · cases c.2.2.1.any (fun g => decide (g.2.1.length > 6)) <;> rfl
  exact key realC
theorem clone_eq {l : List Int} (h : l.length ≤ 1000000) : m_slices_Clone (l, ()) = some (((), ()), (l, ()), ()) := by
  show (bif leN (l.length * 8) roomB then some (((), ()), (l, ()), ()) else none) = _
  rw [room_ok h (by decide)]; rfl
theorem own24_eq (h1 : t.1.length ≤ 20) (h2 : t.2.2.1.length ≤ 40) : m_spoondriftref24_Own (t, ()) = some ((t, ()), ()) := by
  have key : ∀ (C : Cmb) [CmbOk C], M_spoondriftref24_Own C (t, ()) = some ((t, ()), ()) := by
    intro C _
    unfold M_spoondriftref24_Own
    simp only [grd_real, Bool.true_and, Nat.zero_add]
    rw [room_ok (by omega) (by decide), room_ok (by omega) (by decide)]
    rfl
  exact key realC
theorem own_eq (h : Small c) : m_spoondriftkit_Own (c, ()) = some ((c, ()), ()) := by
  have key : ∀ (C : Cmb) [CmbOk C], M_spoondriftkit_Own C (c, ()) = some ((c, ()), ()) := by
    intro C _
    unfold M_spoondriftkit_Own
    dsimp only
    refine loop_run (C := C) (fun k : Nat => ((((k : Int), ()), (c.1, c.2.1, (), ()), (c.2.2.1.take k, ()), ()) : (Int × Unit) × (Int × Int × Unit × Unit) × (List Gate × Unit) × Unit)) c.2.2.1.length fuelL (fuel_big (by have := h.1; omega)) (fun k hk again => ?_) fun again => ?_
    · have hw := h.2 _ (List.getElem_mem hk)
      have hn := h.1
      have e : c.2.2.1.take (k + 1) = c.2.2.1.take k ++ [c.2.2.1[k]] := by rw [List.take_add_one, List.getElem?_eq_getElem hk]; rfl
      rw [e]
      simp only [ofNat_c, lt_cast, decide_true, decide_false, cond_true, cond_false, inB_cast, grd_real, join_real, Int.toNat_natCast, Option.elim_some, Bool.true_and, Bool.false_or, Bool.or_true, Bool.and_true, Bool.or_false, cond_tf, hk, getD_in hk, clone_eq (show (c.2.2.1[k]).2.1.length ≤ 1000000 by omega), wrap_nat (show k < 4294967296 by omega), List.length_singleton, List.length_take]
      rw [room_ok (by omega) (by decide)]
      rfl
    · simp only [ofNat_c, lt_cast, decide_true, decide_false, cond_true, cond_false, inB_cast, grd_real, join_real, Int.toNat_natCast, Option.elim_some, Bool.true_and, Bool.false_or, Bool.or_true, Bool.and_true, Bool.or_false, cond_tf, Nat.lt_irrefl, List.take_length]
  exact key realC
theorem equal_eq {l : List Int} (h : l.length < 4294967296) : m_slices_Equal (l, l, ()) = some (b1 true) := by
  have key : ∀ (C : Cmb) [CmbOk C], M_slices_Equal C (l, l, ()) = some (b1 true) := by
    intro C _
    unfold M_slices_Equal
    dsimp only
    rw [len_ne, decide_eq_false (by simp), cond_false]
    refine loop_run (C := C) st1 l.length fuelL (fuel_big h) (fun k hk again => ?_) fun again => ?_
    · simp only [cast0, ofNat_c, lt_cast, decide_true, decide_false, cond_true, cond_false, inB_cast, grd_real, join_real, Int.toNat_natCast, Option.elim_some, Bool.true_and, Bool.false_or, Bool.or_true, Bool.and_true, Bool.or_false, cond_tf, hk, wrap_nat (show k < 4294967296 by omega), bne_self_eq_false]
    · simp only [ofNat_c, lt_cast, decide_true, decide_false, cond_true, cond_false, inB_cast, grd_real, join_real, Int.toNat_natCast, Option.elim_some, Bool.true_and, Bool.false_or, Bool.or_true, Bool.and_true, Bool.or_false, cond_tf, Nat.lt_irrefl]
  exact key realC
theorem same24_eq (h1 : t.1.length ≤ 20) (h2 : t.2.2.1.length ≤ 40) : m_spoondriftref24_Same (t, t, ()) = some (b1 true) := by
  have key : ∀ (C : Cmb) [CmbOk C], M_spoondriftref24_Same C (t, t, ()) = some (b1 true) := by
    intro C _
    unfold M_spoondriftref24_Same
    dsimp only
    rw [join_real]
    simp only [len_ne, bne_self_eq_false, cond_false, ne_eq, not_true, decide_false]
    refine loop_run (C := C) st1 t.1.length fuelL (fuel_big (by omega)) (fun k hk again => ?_) fun again => ?_
    · simp only [cast0, ofNat_c, lt_cast, decide_true, decide_false, cond_true, cond_false, inB_cast, grd_real, join_real, Int.toNat_natCast, Option.elim_some, Bool.true_and, Bool.false_or, Bool.or_true, Bool.and_true, Bool.or_false, cond_tf, hk, wrap_nat (show k < 4294967296 by omega), bne_self_eq_false]
    · simp only [ofNat_c, lt_cast, decide_true, decide_false, cond_true, cond_false, inB_cast, grd_real, join_real, Int.toNat_natCast, Option.elim_some, Bool.true_and, Bool.false_or, Bool.or_true, Bool.and_true, Bool.or_false, cond_tf, Nat.lt_irrefl]
      refine loop_run (C := C) st1 t.2.2.1.length fuelL (fuel_big (by omega)) (fun k hk again => ?_) fun again => ?_
      · simp only [cast0, ofNat_c, lt_cast, decide_true, decide_false, cond_true, cond_false, inB_cast, grd_real, join_real, Int.toNat_natCast, Option.elim_some, Bool.true_and, Bool.false_or, Bool.or_true, Bool.and_true, Bool.or_false, cond_tf, hk, wrap_nat (show k < 4294967296 by omega), beq_self_eq_true, bne_self_eq_false]
      · simp only [ofNat_c, lt_cast, decide_true, decide_false, cond_true, cond_false, inB_cast, grd_real, join_real, Int.toNat_natCast, Option.elim_some, Bool.true_and, Bool.false_or, Bool.or_true, Bool.and_true, Bool.or_false, cond_tf, Nat.lt_irrefl]
  exact key realC
theorem sameGate_eq {g : Gate} (h : g.2.1.length < 4294967296) : m_spoondriftkit_SameGate (g, g, ()) = some (b1 true) := by
  have key : ∀ (C : Cmb) [CmbOk C], M_spoondriftkit_SameGate C (g, g, ()) = some (b1 true) := by
    intro C _
    unfold M_spoondriftkit_SameGate
    simp only [join_real, beq_self_eq_true, cond_true, equal_eq h, Option.elim_some]
  exact key realC
theorem same_eq (h : Small c) : m_spoondriftkit_Same (c, c, ()) = some (b1 true) := by
  have key : ∀ (C : Cmb) [CmbOk C], M_spoondriftkit_Same C (c, c, ()) = some (b1 true) := by
    intro C _
    unfold M_spoondriftkit_Same
    dsimp only
    rw [join_real]
    simp only [len_ne, beq_self_eq_true, cond_true, ne_eq, not_true, decide_false, cond_false]
    refine loop_run (C := C) st1 c.2.2.1.length fuelL (fuel_big (by have := h.1; omega)) (fun k hk again => ?_) fun again => ?_
    · have hw := h.2 _ (List.getElem_mem hk)
      have hn := h.1
      simp only [cast0, ofNat_c, lt_cast, decide_true, decide_false, cond_true, cond_false, inB_cast, grd_real, join_real, Int.toNat_natCast, Option.elim_some, Bool.true_and, Bool.false_or, Bool.or_true, Bool.and_true, Bool.or_false, cond_tf, hk, getD_in hk, sameGate_eq (h.wires hk), wrap_nat (show k < 4294967296 by omega), Bool.not_true]
    · simp only [ofNat_c, lt_cast, decide_true, decide_false, cond_true, cond_false, inB_cast, grd_real, join_real, Int.toNat_natCast, Option.elim_some, Bool.true_and, Bool.false_or, Bool.or_true, Bool.and_true, Bool.or_false, cond_tf, Nat.lt_irrefl]
  exact key realC
end Go.Canon
namespace Go.Canon
set_option linter.unusedVariables false
set_option linter.unusedSimpArgs false
open Go
variable {t : Clk} {c : Circ}
end Go.Canon
namespace Go.Canon
set_option linter.unusedVariables false
set_option linter.unusedSimpArgs false
open Go
variable {t : Clk} {c : Circ}
end Go.Canon
namespace Go.Canon
set_option linter.unusedVariables false
set_option linter.unusedSimpArgs false
open Go
variable {t : Clk} {c : Circ}
end Go.Canon
namespace Go.Canon
set_option linter.unusedVariables false
set_option linter.unusedSimpArgs false
open Go
variable {t : Clk} {c : Circ}
theorem ne0_t {e : Int} (h : e ≠ 0) : (e != ((0 : Nat) : Int)) = true := by
  show (e != 0) = true
  simpa using h
theorem ne0_f : ((0 : Int) != ((0 : Nat) : Int)) = false := rfl
theorem ok_of (h : Small c) (ht : t.2.2.1.length ≤ 40) (h2 : ∀ p ∈ t.2.2.1, List.length p = 2) (e : chk24 t c = 0) : Ok t c := ⟨h, ht, e, h2⟩
end Go.Canon
namespace Go.Canon
set_option linter.unusedVariables false
set_option linter.unusedSimpArgs false
open Go
variable {t : Clk} {c : Circ}
end Go.Canon
namespace Go.Canon
set_option linter.unusedVariables false
set_option linter.unusedSimpArgs false
open Go
variable {t : Clk} {c : Circ}
end Go.Canon
namespace Go.Canon
open Go
set_option maxRecDepth 100000
set_option maxHeartbeats 0
set_option linter.unusedVariables false
noncomputable section
def M_spoondriftref24_Holds (C : Cmb) (x : ((List Int) × Int × (List (List Int)) × Unit) × (Int × Int × (List (Int × (List Int) × Int × Int × Unit)) × Unit) × Int × Int × Unit) : Option ((Int × Int × Unit) × Unit) := (fun (t : El kT) (c : El cT) (j i : El iT) => (m_spoondriftref24_Check (t, c, ())).elim none fun (val : (Int × PUnit) × PUnit) => bif val.fst.fst != Int.ofNat 0 then some ((Int.ofNat 0, val.fst.fst, ()), ()) else C.join (fun (x : (Bool × PUnit) × PUnit) => bif x.fst.fst then some ((Int.ofNat 0, Int.ofNat 1, ()), ()) else bif geI j i then some ((Int.ofNat 0, Int.ofNat 15, ()), ()) else C.grd (inB j c.snd.snd.fst.length) (C.grd (inB i c.snd.snd.fst.length) ((m_spoondriftref24_after (t, c.snd.snd.fst.getD (Int.toNat j) (0, [], 0, 0, ()), c.snd.snd.fst.getD (Int.toNat i) (0, [], 0, 0, ()), ())).elim none fun (val : (Int × PUnit) × PUnit) => bif ltI val.fst.fst (Int.ofNat 0) then some ((Int.ofNat 0, Int.ofNat 6, ()), ()) else some ((val.fst.fst, Int.ofNat 0, ()), ())))) fun (kont : (Bool × PUnit) × PUnit → Option ((Int × Int × PUnit) × PUnit)) => bif ltI j (Int.ofNat 0) then kont ((true, ()), ()) else bif bif false then true else geI j (Int.ofNat c.snd.snd.fst.length) then kont ((true, ()), ()) else bif bif false then true else ltI i (Int.ofNat 0) then kont ((true, ()), ()) else kont ((bif false then true else geI i (Int.ofNat c.snd.snd.fst.length), ()), ())) x.1 x.2.1 x.2.2.1 x.2.2.2.1
def m_spoondriftref24_Holds : ((List Int) × Int × (List (List Int)) × Unit) × (Int × Int × (List (Int × (List Int) × Int × Int × Unit)) × Unit) × Int × Int × Unit → Option ((Int × Int × Unit) × Unit) := M_spoondriftref24_Holds realC
def M_sched_Check (C : Cmb) (x : ((List Int) × Int × (List (List Int)) × Unit) × (Int × Int × (List (Int × (List Int) × Int × Int × Unit)) × Unit) × Unit) : Option ((Int × Unit) × Unit) := (fun (t : El kT) (c : El cT) => (m_sched_opened (t, c, ())).elim none fun (val : (Option ((Int × Int × List (Int × List Int × Int × Int × PUnit) × PUnit) × List Int × Int × List (List Int × Bool) × PUnit) × Int × PUnit) × PUnit) => some ((val.fst.snd.fst, ()), ())) x.1 x.2.1
def m_sched_Check : ((List Int) × Int × (List (List Int)) × Unit) × (Int × Int × (List (Int × (List Int) × Int × Int × Unit)) × Unit) × Unit → Option ((Int × Unit) × Unit) := M_sched_Check realC
def M_spoondriftref24_Disturb (C : Cmb) (x : ((List Int) × Int × (List (List Int)) × Unit) × (Int × Int × (List (Int × (List Int) × Int × Int × Unit)) × Unit) × Int × Int × Unit) : Option ((Bool × Int × Unit) × Unit) := (fun (t : El kT) (c : El cT) (i j : El iT) => (m_spoondriftref24_Check (t, c, ())).elim none fun (val : (Int × PUnit) × PUnit) => bif val.fst.fst != Int.ofNat 0 then some ((false, val.fst.fst, ()), ()) else C.join (fun (x : (Bool × PUnit) × PUnit) => bif x.fst.fst then some ((false, Int.ofNat 1, ()), ()) else bif i == j then some ((false, Int.ofNat 5, ()), ()) else C.grd (inB i c.snd.snd.fst.length) (C.grd (inB j c.snd.snd.fst.length) ((m_spoondriftref24_disturb (t, c.snd.snd.fst.getD (Int.toNat i) (0, [], 0, 0, ()), c.snd.snd.fst.getD (Int.toNat j) (0, [], 0, 0, ()), ())).elim none fun (val : (Bool × PUnit) × PUnit) => some ((val.fst.fst, Int.ofNat 0, ()), ())))) fun (kont : (Bool × PUnit) × PUnit → Option ((Bool × Int × PUnit) × PUnit)) => bif ltI j (Int.ofNat 0) then kont ((true, ()), ()) else bif bif false then true else geI j (Int.ofNat c.snd.snd.fst.length) then kont ((true, ()), ()) else bif bif false then true else ltI i (Int.ofNat 0) then kont ((true, ()), ()) else kont ((bif false then true else geI i (Int.ofNat c.snd.snd.fst.length), ()), ())) x.1 x.2.1 x.2.2.1 x.2.2.2.1
def m_spoondriftref24_Disturb : ((List Int) × Int × (List (List Int)) × Unit) × (Int × Int × (List (Int × (List Int) × Int × Int × Unit)) × Unit) × Int × Int × Unit → Option ((Bool × Int × Unit) × Unit) := M_spoondriftref24_Disturb realC
def M_spoondriftlaw24_SchedChecks (C : Cmb) (x : ((List Int) × Int × (List (List Int)) × Unit) × (Int × Int × (List (Int × (List Int) × Int × Int × Unit)) × Unit) × Int × Int × Unit) : Option ((Bool × Unit) × Unit) := (fun (t : El kT) (c : El cT) (i j : El iT) => (m_spoondriftlaw24_great (t, ())).elim none fun (val : (Bool × PUnit) × PUnit) => bif val.fst.fst then (m_spoondriftlaw24_awake ()).elim none fun (val : (Bool × PUnit) × PUnit) => some ((val.fst.fst, ()), ()) else (m_spoondriftkit_Great (c, ())).elim none fun (val : (Bool × PUnit) × PUnit) => bif bif false then true else val.fst.fst then (m_spoondriftlaw24_awake ()).elim none fun (val : (Bool × PUnit) × PUnit) => some ((val.fst.fst, ()), ()) else (m_spoondriftref24_Own (t, ())).elim none fun (val : ((List Int × Int × List (List Int) × PUnit) × PUnit) × PUnit) => (m_spoondriftkit_Own (c, ())).elim none fun (val_1 : ((Int × Int × List (Int × List Int × Int × Int × PUnit) × PUnit) × PUnit) × PUnit) => (m_sched_clock (val.fst.fst, ())).elim none fun (val_2 : (Int × PUnit) × PUnit) => bif val_2.fst.fst != Int.ofNat 0 then (m_spoondriftref24_Quiet (t, ())).elim none fun (val_3 : ((List Int × Int × List (List Int) × PUnit) × Int × PUnit) × PUnit) => (m_sched_Holds (val.fst.fst, val_1.fst.fst, j, i, ())).elim none fun (val_4 : (Int × Int × PUnit) × PUnit) => (m_spoondriftref24_Holds (t, c, j, i, ())).elim none fun (val_5 : (Int × Int × PUnit) × PUnit) => (m_sched_Check (val.fst.fst, val_1.fst.fst, ())).elim none fun (val_6 : (Int × PUnit) × PUnit) => (m_spoondriftref24_Check (t, c, ())).elim none fun (val_7 : (Int × PUnit) × PUnit) => bif val_6.fst.fst != val_7.fst.fst then some ((false, ()), ()) else (m_spoondriftref24_Same (([], Int.ofNat 0, [], ()), val_3.fst.fst, ())).elim none fun (val_8 : (Bool × PUnit) × PUnit) => bif bif false then true else !val_8.fst.fst then some ((false, ()), ()) else bif bif false then true else val_2.fst.fst != val_3.fst.snd.fst then some ((false, ()), ()) else bif bif false then true else val_4.fst.fst != val_5.fst.fst then some ((false, ()), ()) else bif bif false then true else val_4.fst.snd.fst != val_5.fst.snd.fst then some ((false, ()), ()) else (m_sched_Disturb (val.fst.fst, val_1.fst.fst, i, j, ())).elim none fun (val_9 : (Bool × Int × PUnit) × PUnit) => (m_spoondriftref24_Disturb (t, c, i, j, ())).elim none fun (val_10 : (Bool × Int × PUnit) × PUnit) => bif false != (val_9.fst.fst == val_10.fst.fst) then bif bif true then val_9.fst.snd.fst == val_10.fst.snd.fst else false then (m_spoondriftref24_Same (val.fst.fst, t, ())).elim none fun (val : (Bool × PUnit) × PUnit) => bif bif true then val.fst.fst else false then (m_spoondriftkit_Same (val_1.fst.fst, c, ())).elim none fun (val : (Bool × PUnit) × PUnit) => bif bif true then val.fst.fst else false then (m_spoondriftlaw24_awake ()).elim none fun (val : (Bool × PUnit) × PUnit) => some ((bif true then val.fst.fst else false, ()), ()) else some ((false, ()), ()) else some ((false, ()), ()) else some ((false, ()), ()) else some ((false, ()), ()) else (m_slices_Clone (val.fst.fst.fst, ())).elim none fun (val_3 : (PUnit × PUnit) × (List Int × PUnit) × PUnit) => (m_spoondriftref24_Quiet (t, ())).elim none fun (val_4 : ((List Int × Int × List (List Int) × PUnit) × Int × PUnit) × PUnit) => (m_sched_Holds (val.fst.fst, val_1.fst.fst, j, i, ())).elim none fun (val_5 : (Int × Int × PUnit) × PUnit) => (m_spoondriftref24_Holds (t, c, j, i, ())).elim none fun (val_6 : (Int × Int × PUnit) × PUnit) => (m_sched_Check (val.fst.fst, val_1.fst.fst, ())).elim none fun (val_7 : (Int × PUnit) × PUnit) => (m_spoondriftref24_Check (t, c, ())).elim none fun (val_8 : (Int × PUnit) × PUnit) => bif val_7.fst.fst != val_8.fst.fst then some ((false, ()), ()) else (m_spoondriftref24_Same ((val_3.snd.fst.fst, val.fst.fst.snd.fst, [], ()), val_4.fst.fst, ())).elim none fun (val_9 : (Bool × PUnit) × PUnit) => bif bif false then true else !val_9.fst.fst then some ((false, ()), ()) else bif bif false then true else Int.ofNat 0 != val_4.fst.snd.fst then some ((false, ()), ()) else bif bif false then true else val_5.fst.fst != val_6.fst.fst then some ((false, ()), ()) else bif bif false then true else val_5.fst.snd.fst != val_6.fst.snd.fst then some ((false, ()), ()) else C.grd true ((m_sched_Disturb (val.fst.fst, val_1.fst.fst, i, j, ())).elim none fun (val_10 : (Bool × Int × PUnit) × PUnit) => (m_spoondriftref24_Disturb (t, c, i, j, ())).elim none fun (val_11 : (Bool × Int × PUnit) × PUnit) => bif false != (val_10.fst.fst == val_11.fst.fst) then bif bif true then val_10.fst.snd.fst == val_11.fst.snd.fst else false then (m_spoondriftref24_Same (val.fst.fst, t, ())).elim none fun (val : (Bool × PUnit) × PUnit) => bif bif true then val.fst.fst else false then (m_spoondriftkit_Same (val_1.fst.fst, c, ())).elim none fun (val : (Bool × PUnit) × PUnit) => bif bif true then val.fst.fst else false then (m_spoondriftlaw24_awake ()).elim none fun (val : (Bool × PUnit) × PUnit) => some ((bif true then val.fst.fst else false, ()), ()) else some ((false, ()), ()) else some ((false, ()), ()) else some ((false, ()), ()) else some ((false, ()), ()))) x.1 x.2.1 x.2.2.1 x.2.2.2.1
def m_spoondriftlaw24_SchedChecks : ((List Int) × Int × (List (List Int)) × Unit) × (Int × Int × (List (Int × (List Int) × Int × Int × Unit)) × Unit) × Int × Int × Unit → Option ((Bool × Unit) × Unit) := M_spoondriftlaw24_SchedChecks realC
end
end Go.Canon
namespace Go.Canon
set_option linter.unusedVariables false
set_option linter.unusedSimpArgs false
open Go
variable {t : Clk} {c : Circ}
/-- Is there no gate with this number? -/
def outB (c : Circ) (z : Int) : Bool := decide (z < 0) || decide (z ≥ (c.2.2.1.length : Int))
theorem outB_nat {z : Int} (h : outB c z = false) : ∃ k : Nat, z = (k : Int) ∧ k < c.2.2.1.length := by
  simp only [outB, Bool.or_eq_false_iff, decide_eq_false_iff_not] at h
  exact ⟨z.toNat, by omega, by omega⟩
theorem p_has {l : List Int} (hl : l.length < 4294967296) {p : Plan} : m_sched_plan_has (p, l, ()) = some (b1 (!l.any (outB p.1))) := by
  have key : ∀ (C : Cmb) [CmbOk C], M_sched_plan_has C (p, l, ()) = some (b1 (!l.any (outB p.1))) := by
    intro C _
    unfold M_sched_plan_has
    simp only [join_real]
    refine (loop_any2 (l := l) (p := outB p.1) (R := some (b1 false)) (E := some (b1 true)) (n := fuelL) st1 (fuel_big hl) (fun k hk again => ?_) fun again => ?_).trans ?_
    · simp only [cast0, ofNat_c, lt_cast, decide_true, decide_false, cond_true, cond_false, inB_cast, grd_real, join_real, Int.toNat_natCast, Option.elim_some, Bool.true_and, Bool.false_or, Bool.or_true, Bool.and_true, Bool.or_false, cond_tf, hk, getD_in hk, wrap_nat (show k < 4294967296 by omega)]; simp only [ltI, geI]
      unfold outB
      cases decide (l[k] < 0) with
      | true => rfl
      | false => cases decide (l[k] ≥ (p.1.2.2.1.length : Int)) <;> rfl
    · simp only [ofNat_c, lt_cast, decide_true, decide_false, cond_true, cond_false, inB_cast, grd_real, join_real, Int.toNat_natCast, Option.elim_some, Bool.true_and, Bool.false_or, Bool.or_true, Bool.and_true, Bool.or_false, cond_tf, Nat.lt_irrefl]; rfl
    · cases l.any (outB p.1) <;> rfl
  exact key realC
abbrev ie (a e : Int) : (Int × Int × Unit) × Unit := ((a, e, ()), ())
abbrev be (a : Bool) (e : Int) : (Bool × Int × Unit) × Unit := ((a, e, ()), ())
theorem chkd (t : Clk) (c : Circ) : chk24 t c = 0 ∨ chk24 t c ≠ 0 := Decidable.em _
theorem check_eq (h : Small c) (ht : t.2.2.1.length ≤ 40) : m_sched_Check (t, c, ()) = some (i1 (chk24 t c)) := by
  show (m_sched_opened (t, c, ())).elim none _ = _
  rw [opened_eq h ht]; rfl
theorem holds_both (h : Small c) (ht : t.2.2.1.length ≤ 40) (h2 : ∀ p ∈ t.2.2.1, List.length p = 2) {i j : Int} : ∃ a e, m_sched_Holds (t, c, j, i, ()) = some (ie a e) ∧ m_spoondriftref24_Holds (t, c, j, i, ()) = some (ie a e) := by
  have pk : ∀ {r : (Int × Int × Unit) × Unit}, (∀ (C : Cmb) [CmbOk C], M_sched_Holds C (t, c, j, i, ()) = some r) → (∀ (C : Cmb) [CmbOk C], M_spoondriftref24_Holds C (t, c, j, i, ()) = some r) → ∃ a e, m_sched_Holds (t, c, j, i, ()) = some (ie a e) ∧ m_spoondriftref24_Holds (t, c, j, i, ()) = some (ie a e) := fun {r} h1 h2 => ⟨r.1.1, r.1.2.1, h1 realC, h2 realC⟩
  rcases chkd t c with e | e
  · have H := ok_of h ht h2 e
    have hhas := p_has (l := [j, i]) (by simp) (p := planS t c)
    have hany : [j, i].any (outB (planS t c).1) = (outB c j || outB c i) := by simp [planS]
    rw [hany] at hhas
    cases ho : outB c j || outB c i with
    | true =>
      rw [ho] at hhas
      refine pk (r := ie 0 1) (fun C _ => ?_) fun C _ => ?_
      · unfold M_sched_Holds
        simp only [ofNat_c, lt_cast, decide_true, decide_false, cond_true, cond_false, inB_cast, grd_real, join_real, Int.toNat_natCast, Option.elim_some, Bool.true_and, Bool.false_or, Bool.or_true, Bool.and_true, Bool.or_false, cond_tf, opened_eq h ht, e, if_true, ne0_f, hhas, Bool.not_true, Bool.not_false]; rfl
      · unfold M_spoondriftref24_Holds
        simp only [ofNat_c, lt_cast, decide_true, decide_false, cond_true, cond_false, inB_cast, grd_real, join_real, Int.toNat_natCast, Option.elim_some, Bool.true_and, Bool.false_or, Bool.or_true, Bool.and_true, Bool.or_false, cond_tf, check24_eq h ht, e, ne0_f]
        simp only [ltI, geI, show ((0 : Nat) : Int) = 0 from rfl]
        unfold outB at ho
        revert ho
        cases decide (j < 0) <;> cases decide (j ≥ (c.2.2.1.length : Int)) <;> cases decide (i < 0) <;> cases decide (i ≥ (c.2.2.1.length : Int)) <;> intro ho <;> first | rfl | cases ho
    | false =>
      rw [ho] at hhas
      simp only [Bool.or_eq_false_iff] at ho
      obtain ⟨jn, rfl, hj⟩ := outB_nat ho.1
      obtain ⟨n, rfl, hi⟩ := outB_nat ho.2
      have o4 : (outB c (jn : Int) || outB c (n : Int)) = false := by rw [ho.1, ho.2]; rfl
      have hlj := H.lenB hj
      have hla := H.lateB (g := gt c jn) (h := gt c n)
      have hge : geI (jn : Int) (n : Int) = decide (jn ≥ n) := by simp [geI]
      have hh : m_sched_plan_holds (planS t c, (jn : Int), (n : Int), ()) = some (b1 (meetB (gt c jn) (gt c n))) := p_holds H hi hj
      have hlen : m_sched_plan_length (planS t c, (jn : Int), ()) = some (i1 (lenG t (gt c jn))) := p_length H hj
      have hlate : m_sched_plan_late (planS t c, (jn : Int), (n : Int), ()) = some (i1 (lateG t (gt c jn) (gt c n))) := p_late H hi hj
      have haft : m_spoondriftref24_after (t, gt c jn, gt c n, ()) = some (i1 (aftS t (gt c jn) (gt c n))) := r_after H hi hj
      refine pk (r := if jn ≥ n then ie 0 15 else bif meetB (gt c jn) (gt c n) then ie (lenG t (gt c jn) + lateG t (gt c jn) (gt c n)) 0 else ie 0 6) (fun C _ => ?_) fun C _ => ?_
      · unfold M_sched_Holds
        simp only [ofNat_c, lt_cast, decide_true, decide_false, cond_true, cond_false, inB_cast, grd_real, join_real, Int.toNat_natCast, Option.elim_some, Bool.true_and, Bool.false_or, Bool.or_true, Bool.and_true, Bool.or_false, cond_tf, opened_eq h ht, e, if_true, ne0_f, hhas, Bool.not_true, Bool.not_false, hge, hh, hlen, hlate]
        rw [wrap_in (a := lenG t (gt c jn) + lateG t (gt c jn) (gt c n)) (by omega) (by omega)]
        by_cases hjn : jn ≥ n
        · rw [decide_eq_true hjn, if_pos hjn]; rfl
        · rw [decide_eq_false hjn, if_neg hjn]
          cases meetB (gt c jn) (gt c n) <;> rfl
      · unfold M_spoondriftref24_Holds
        simp only [ofNat_c, lt_cast, decide_true, decide_false, cond_true, cond_false, inB_cast, grd_real, join_real, Int.toNat_natCast, Option.elim_some, Bool.true_and, Bool.false_or, Bool.or_true, Bool.and_true, Bool.or_false, cond_tf, check24_eq h ht, e, ne0_f]
        simp only [Nat.not_lt_zero, decide_false, show geI (jn : Int) (c.2.2.1.length : Int) = false from decide_eq_false (by omega), show geI (n : Int) (c.2.2.1.length : Int) = false from decide_eq_false (by omega), cond_false, cond_true, hge, hj, hi, decide_true, gt_eq, haft, Option.elim_some]
        by_cases hjn : jn ≥ n
        · rw [decide_eq_true hjn, if_pos hjn]; rfl
        · rw [decide_eq_false hjn, if_neg hjn]
          unfold aftS
          cases meetB (gt c jn) (gt c n) with
          | false => rfl
          | true =>
            simp only [cond_true, cond_false]
            rw [show ltI (lenG t (gt c jn) + lateG t (gt c jn) (gt c n)) ((0 : Nat) : Int) = false from decide_eq_false (by omega)]; rfl
  · refine pk (r := ie 0 (chk24 t c)) (fun C _ => ?_) fun C _ => ?_
    · unfold M_sched_Holds
      simp only [ofNat_c, lt_cast, decide_true, decide_false, cond_true, cond_false, inB_cast, grd_real, join_real, Int.toNat_natCast, Option.elim_some, Bool.true_and, Bool.false_or, Bool.or_true, Bool.and_true, Bool.or_false, cond_tf, opened_eq h ht, if_neg e, ne0_t e]; rfl
    · unfold M_spoondriftref24_Holds
      simp only [ofNat_c, lt_cast, decide_true, decide_false, cond_true, cond_false, inB_cast, grd_real, join_real, Int.toNat_natCast, Option.elim_some, Bool.true_and, Bool.false_or, Bool.or_true, Bool.and_true, Bool.or_false, cond_tf, check24_eq h ht, ne0_t e]; rfl
theorem disturb_both (h : Small c) (ht : t.2.2.1.length ≤ 40) (h2 : ∀ p ∈ t.2.2.1, List.length p = 2) {i j : Int} : ∃ a e, m_sched_Disturb (t, c, i, j, ()) = some (be a e) ∧ m_spoondriftref24_Disturb (t, c, i, j, ()) = some (be a e) := by
  have pk : ∀ {r : (Bool × Int × Unit) × Unit}, (∀ (C : Cmb) [CmbOk C], M_sched_Disturb C (t, c, i, j, ()) = some r) → (∀ (C : Cmb) [CmbOk C], M_spoondriftref24_Disturb C (t, c, i, j, ()) = some r) → ∃ a e, m_sched_Disturb (t, c, i, j, ()) = some (be a e) ∧ m_spoondriftref24_Disturb (t, c, i, j, ()) = some (be a e) := fun {r} h1 h2 => ⟨r.1.1, r.1.2.1, h1 realC, h2 realC⟩
  rcases chkd t c with e | e
  · have H := ok_of h ht h2 e
    have hhas := p_has (l := [i, j]) (by simp) (p := planS t c)
    have hany : [i, j].any (outB (planS t c).1) = (outB c j || outB c i) := by simp [planS, Bool.or_comm]
    rw [hany] at hhas
    cases ho : outB c j || outB c i with
    | true =>
      rw [ho] at hhas
      refine pk (r := be false 1) (fun C _ => ?_) fun C _ => ?_
      · unfold M_sched_Disturb
        simp only [ofNat_c, lt_cast, decide_true, decide_false, cond_true, cond_false, inB_cast, grd_real, join_real, Int.toNat_natCast, Option.elim_some, Bool.true_and, Bool.false_or, Bool.or_true, Bool.and_true, Bool.or_false, cond_tf, opened_eq h ht, e, if_true, ne0_f, hhas, Bool.not_true, Bool.not_false]; rfl
      · unfold M_spoondriftref24_Disturb
        simp only [ofNat_c, lt_cast, decide_true, decide_false, cond_true, cond_false, inB_cast, grd_real, join_real, Int.toNat_natCast, Option.elim_some, Bool.true_and, Bool.false_or, Bool.or_true, Bool.and_true, Bool.or_false, cond_tf, check24_eq h ht, e, ne0_f]
        simp only [ltI, geI, show ((0 : Nat) : Int) = 0 from rfl]
        unfold outB at ho
        revert ho
        cases decide (j < 0) <;> cases decide (j ≥ (c.2.2.1.length : Int)) <;> cases decide (i < 0) <;> cases decide (i ≥ (c.2.2.1.length : Int)) <;> intro ho <;> first | rfl | cases ho
    | false =>
      rw [ho] at hhas
      simp only [Bool.or_eq_false_iff] at ho
      obtain ⟨jn, rfl, hj⟩ := outB_nat ho.1
      obtain ⟨n, rfl, hi⟩ := outB_nat ho.2
      have hd : m_sched_plan_disturb (planS t c, (n : Int), (jn : Int), ()) = some (b1 (distM (noisyB t) (gt c n) (gt c jn))) := p_disturb H hi hj H.says
      have hd2 : m_spoondriftref24_disturb (t, gt c n, gt c jn, ()) = some (b1 (distM (noisyB t) (gt c n) (gt c jn))) := r_disturb H hi hj
      refine pk (r := bif (n : Int) == (jn : Int) then be false 5 else be (distM (noisyB t) (gt c n) (gt c jn)) 0) (fun C _ => ?_) fun C _ => ?_
      · unfold M_sched_Disturb
        simp only [ofNat_c, lt_cast, decide_true, decide_false, cond_true, cond_false, inB_cast, grd_real, join_real, Int.toNat_natCast, Option.elim_some, Bool.true_and, Bool.false_or, Bool.or_true, Bool.and_true, Bool.or_false, cond_tf, opened_eq h ht, e, if_true, ne0_f, hhas, Bool.not_true, Bool.not_false, hd]
        cases (n : Int) == (jn : Int) <;> rfl
      · unfold M_spoondriftref24_Disturb
        simp only [ofNat_c, lt_cast, decide_true, decide_false, cond_true, cond_false, inB_cast, grd_real, join_real, Int.toNat_natCast, Option.elim_some, Bool.true_and, Bool.false_or, Bool.or_true, Bool.and_true, Bool.or_false, cond_tf, check24_eq h ht, e, ne0_f]
        simp only [Nat.not_lt_zero, decide_false, show geI (jn : Int) (c.2.2.1.length : Int) = false from decide_eq_false (by omega), show geI (n : Int) (c.2.2.1.length : Int) = false from decide_eq_false (by omega), cond_false, cond_true, hj, hi, decide_true, gt_eq, hd2, Option.elim_some]
        cases (n : Int) == (jn : Int) <;> rfl
  · refine pk (r := be false (chk24 t c)) (fun C _ => ?_) fun C _ => ?_
    · unfold M_sched_Disturb
      simp only [ofNat_c, lt_cast, decide_true, decide_false, cond_true, cond_false, inB_cast, grd_real, join_real, Int.toNat_natCast, Option.elim_some, Bool.true_and, Bool.false_or, Bool.or_true, Bool.and_true, Bool.or_false, cond_tf, opened_eq h ht, if_neg e, ne0_t e]
    · unfold M_spoondriftref24_Disturb
      simp only [ofNat_c, lt_cast, decide_true, decide_false, cond_true, cond_false, inB_cast, grd_real, join_real, Int.toNat_natCast, Option.elim_some, Bool.true_and, Bool.false_or, Bool.or_true, Bool.and_true, Bool.or_false, cond_tf, check24_eq h ht, ne0_t e]
theorem checks_law {i j : Int} (h2 : ∀ p ∈ t.2.2.1, List.length p = 2) : m_spoondriftlaw24_SchedChecks (t, c, i, j, ()) = some (b1 true) := by
  have aw : m_spoondriftlaw24_awake () = some (b1 true) := rfl
  have key : ∀ (C : Cmb) [CmbOk C], M_spoondriftlaw24_SchedChecks C (t, c, i, j, ()) = some (b1 true) := by
    intro C _
    unfold M_spoondriftlaw24_SchedChecks
    dsimp only
    rw [great24_eq, Option.elim_some]
    cases hg : decide (t.1.length > 20) || decide (t.2.2.1.length > 40) with
    | true => rfl
    | false =>
      show (m_spoondriftkit_Great (c, ())).elim none _ = _
      rw [great_eq, Option.elim_some]
      cases hg2 : greatC c with
      | true => rfl
      | false =>
        have hs := greatC_small hg2
        simp only [Bool.or_eq_false_iff, decide_eq_false_iff_not] at hg
        obtain ⟨a1, e1, x1, y1⟩ := holds_both (t := t) (i := i) (j := j) hs (by omega) h2
        obtain ⟨a2, e2, x2, y2⟩ := disturb_both (t := t) (i := i) (j := j) hs (by omega) h2
        have sm := same24_eq (t := t) (by omega) (by omega)
        show (m_spoondriftref24_Own (t, ())).elim none _ = _
        rw [own24_eq (by omega) (by omega), Option.elim_some, own_eq hs, Option.elim_some]
        simp only [clock_eq, Option.elim_some]
        by_cases e : clkE t = 0
        · have hq : quietS t = (t.1, t.2.1, [], ()) := if_pos e
          have sm2 := same24_eq (t := (t.1, t.2.1, [], ())) (show t.1.length ≤ 20 by omega) (Nat.zero_le _)
          simp only [e, show (((0 : Int)) != Int.ofNat 0) = false from rfl, cond_false, clone_eq (show t.1.length ≤ 1000000 by omega), quiet24_eq, hq, x1, y1, x2, y2, Option.elim_some, check_eq hs (show t.2.2.1.length ≤ 40 by omega), check24_eq hs (show t.2.2.1.length ≤ 40 by omega), bne_self_eq_false, sm2, Bool.not_true, grd_real, cond_true, beq_self_eq_true, show (false != true) = true from rfl, sm, same_eq hs, aw]
          rfl
        · have hq : quietS t = ([], 0, [], ()) := if_neg e
          have sm2 := same24_eq (t := ([], 0, [], ())) (Nat.zero_le _) (Nat.zero_le _)
          have hne : (clkE t != Int.ofNat 0) = true := ne0_t e
          have sm3 : m_spoondriftref24_Same (([], Int.ofNat 0, [], ()), ([], 0, [], ()), ()) = some (b1 true) := sm2
          simp only [hne, cond_true, cond_false, quiet24_eq, hq, x1, y1, x2, y2, Option.elim_some, check_eq hs (show t.2.2.1.length ≤ 40 by omega), check24_eq hs (show t.2.2.1.length ≤ 40 by omega), bne_self_eq_false, sm3, Bool.not_true, grd_real, beq_self_eq_true, show (false != true) = true from rfl, sm, same_eq hs, aw]
  exact key realC
end Go.Canon
