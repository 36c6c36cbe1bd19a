/- SchedChains, part 5: the canonical machine and the runs of the program's functions on it. No conditions. -/
import Derived.Test.YtdiojhjojmmahabDoorChP4
set_option linter.unusedSectionVars false
set_option linter.unusedVariables false
set_option linter.unusedSimpArgs false
namespace Go.Canon
set_option linter.unusedVariables false
set_option linter.unusedSimpArgs false
open Go
variable {t : Clk} {c : Circ}
end Go.Canon
namespace Go.Canon
set_option linter.unusedVariables false
set_option linter.unusedSimpArgs false
open Go
variable {t : Clk} {c : Circ}
end Go.Canon
namespace Go.Canon
open Go
set_option maxRecDepth 100000
set_option maxHeartbeats 0
set_option linter.unusedVariables false
noncomputable section
end
end Go.Canon
namespace Go.Canon
set_option linter.unusedVariables false
set_option linter.unusedSimpArgs false
open Go
variable {t : Clk} {c : Circ}
/-- Is there no gate with this number? -/
def outB (c : Circ) (z : Int) : Bool := decide (z < 0) || decide (z ≥ (c.2.2.1.length : Int))
theorem outB_nat {z : Int} (h : outB c z = false) : ∃ k : Nat, z = (k : Int) ∧ k < c.2.2.1.length := by
  simp only [outB, Bool.or_eq_false_iff, decide_eq_false_iff_not] at h
  exact ⟨z.toNat, by omega, by omega⟩
theorem p_has {l : List Int} (hl : l.length < 4294967296) {p : Plan} : m_sched_plan_has (p, l, ()) = some (b1 (!l.any (outB p.1))) := by
  have key : ∀ (C : Cmb) [CmbOk C], M_sched_plan_has C (p, l, ()) = some (b1 (!l.any (outB p.1))) := by
    intro C _
    unfold M_sched_plan_has
    simp only [join_real]
    refine (loop_any2 (l := l) (p := outB p.1) (R := some (b1 false)) (E := some (b1 true)) (n := fuelL) st1 (fuel_big hl) (fun k hk again => ?_) fun again => ?_).trans ?_
    · simp only [cast0, ofNat_c, lt_cast, decide_true, decide_false, cond_true, cond_false, inB_cast, grd_real, join_real, Int.toNat_natCast, Option.elim_some, Bool.true_and, Bool.false_or, Bool.or_true, Bool.and_true, Bool.or_false, cond_tf, hk, getD_in hk, wrap_nat (show k < 4294967296 by omega)]; simp only [ltI, geI]
      unfold outB
      cases decide (l[k] < 0) with
      | true => rfl
      | false => cases decide (l[k] ≥ (p.1.2.2.1.length : Int)) <;> rfl
    · simp only [ofNat_c, lt_cast, decide_true, decide_false, cond_true, cond_false, inB_cast, grd_real, join_real, Int.toNat_natCast, Option.elim_some, Bool.true_and, Bool.false_or, Bool.or_true, Bool.and_true, Bool.or_false, cond_tf, Nat.lt_irrefl]; rfl
    · cases l.any (outB p.1) <;> rfl
  exact key realC
abbrev ie (a e : Int) : (Int × Int × Unit) × Unit := ((a, e, ()), ())
end Go.Canon
namespace Go.Canon
set_option linter.unusedVariables false
set_option linter.unusedSimpArgs false
open Go
variable {t : Clk} {c : Circ} {R : List Int}
theorem snoc_ind {α : Type} {P : List α → Prop} (h0 : P []) (h1 : ∀ l x, P l → P (l ++ [x])) (l : List α) : P l := by
  have h : ∀ l : List α, P l.reverse := by
    intro l
    induction l with
    | nil => exact h0
    | cons x l ih => rw [List.reverse_cons]; exact h1 _ _ ih
  have := h l.reverse
  rwa [List.reverse_reverse] at this
/-- What a gate behind another one adds to a chain, with all behind it. -/
def sumK (t : Clk) (c : Circ) (R : List Int) (i k : Nat) : Int := lateG t (gt c i) (gt c k) + lenG t (gt c k) + R.getD k 0
def resStep (t : Clk) (c : Circ) (i : Nat) (R : List Int) (m : Int) (k : Nat) : Int := bif meetB (gt c i) (gt c k) then mx2 m (sumK t c R i k) else m
def resP (t : Clk) (c : Circ) (i : Nat) (R : List Int) : Int := (aftL (i + 1) c.2.2.1.length).foldl (resStep t c i R) 0
/-- What a chain has at most behind each gate. -/
def RestS (t : Clk) (c : Circ) (R : List Int) : Prop := ∀ i, i < c.2.2.1.length → R.getD i 0 = resP t c i R
theorem res_le {i : Nat} {R : List Int} {y : Int} : ∀ {l : List Nat} {m : Int}, l.foldl (resStep t c i R) m ≤ y ↔ m ≤ y ∧ ∀ k ∈ l, meetB (gt c i) (gt c k) = true → sumK t c R i k ≤ y
  | [], m => by simp
  | a :: l, m => by
    rw [List.foldl_cons, res_le (l := l)]
    unfold resStep mx2
    constructor
    · rintro ⟨h1, h2⟩
      cases hm : meetB (gt c i) (gt c a) with
      | false =>
        rw [hm, cond_false] at h1
        refine ⟨h1, fun j hj hmj => ?_⟩
        rcases List.mem_cons.1 hj with rfl | hj
        · rw [hm] at hmj; cases hmj
        · exact h2 j hj hmj
      | true =>
        rw [hm, cond_true] at h1
        have h3 : m ≤ y ∧ sumK t c R i a ≤ y := by split at h1 <;> omega
        refine ⟨h3.1, fun j hj hmj => ?_⟩
        rcases List.mem_cons.1 hj with rfl | hj
        · exact h3.2
        · exact h2 j hj hmj
    · rintro ⟨h1, h2⟩
      refine ⟨?_, fun j hj => h2 j (List.mem_cons_of_mem _ hj)⟩
      cases hm : meetB (gt c i) (gt c a) with
      | false => exact h1
      | true =>
        have := h2 a List.mem_cons_self hm
        rw [cond_true]
        split <;> omega
theorem res_ge {i : Nat} {R : List Int} {l : List Nat} {m : Int} : m ≤ l.foldl (resStep t c i R) m ∧ ∀ k ∈ l, meetB (gt c i) (gt c k) = true → sumK t c R i k ≤ l.foldl (resStep t c i R) m :=
  res_le.1 (Int.le_refl _)
theorem res_same {i : Nat} {a b : List Int} (h : SameL c i a b) : resP t c i a = resP t c i b := by
  unfold resP
  refine foldl_congr2 fun j hj m => ?_
  unfold resStep sumK
  rw [h j (aftL_mem.1 hj).1 (aftL_mem.1 hj).2]
/-- The gate behind another one on a greatest chain. -/
def nextK (t : Clk) (c : Circ) (R : List Int) (i : Nat) : Option Nat := (aftL (i + 1) c.2.2.1.length).find? fun k => meetB (gt c i) (gt c k) && sumK t c R i k == R.getD i 0
theorem next_some {R : List Int} {i k : Nat} (h : nextK t c R i = some k) : i < k ∧ k < c.2.2.1.length ∧ meetB (gt c i) (gt c k) = true ∧ sumK t c R i k = R.getD i 0 := by
  have h1 := List.find?_some h
  have h2 := aftL_mem.1 (List.mem_of_find?_eq_some h)
  simp only [Bool.and_eq_true, beq_iff_eq] at h1
  exact ⟨h2.1, h2.2, h1.1, h1.2⟩
def tailF (t : Clk) (c : Circ) (R : List Int) : Nat → Nat → List Int
  | 0, _ => []
  | f + 1, i => match nextK t c R i with
    | none => []
    | some k => (k : Int) :: tailF t c R f k
theorem tail_fuel {R : List Int} : ∀ (f g i : Nat), i < c.2.2.1.length → c.2.2.1.length ≤ f + i → c.2.2.1.length ≤ g + i → tailF t c R f i = tailF t c R g i
  | 0, g, i, hi, h1, h2 => by omega
  | f + 1, 0, i, hi, h1, h2 => by omega
  | f + 1, g + 1, i, hi, h1, h2 => by
    unfold tailF
    cases hn : nextK t c R i with
    | none => rfl
    | some k =>
      obtain ⟨a, b, _, _⟩ := next_some hn
      show _ :: _ = _ :: _
      rw [tail_fuel f g k b (by omega) (by omega)]
/-- What a greatest chain has behind a gate. -/
def tailS (t : Clk) (c : Circ) (R : List Int) (i : Nat) : List Int := tailF t c R c.2.2.1.length i
theorem tail_eq {R : List Int} {i : Nat} (hi : i < c.2.2.1.length) : tailS t c R i = match nextK t c R i with | none => [] | some k => (k : Int) :: tailS t c R k := by
  unfold tailS
  obtain ⟨n, hn⟩ : ∃ n, c.2.2.1.length = n + 1 := ⟨c.2.2.1.length - 1, by omega⟩
  rw [tail_fuel c.2.2.1.length (n + 1) i hi (by omega) (by omega)]
  conv => lhs; unfold tailF
  cases hk : nextK t c R i with
  | none => rfl
  | some k =>
    obtain ⟨a, b, _, _⟩ := next_some hk
    show _ :: _ = _ :: _
    rw [tail_fuel n c.2.2.1.length k b (by omega) (by omega)]
/-- How long chains from each gate on are. -/
def longL (t : Clk) (c : Circ) (R : List Int) : List Int := (List.range c.2.2.1.length).map fun i => lenG t (gt c i) + R.getD i 0
theorem longL_len {R : List Int} : (longL t c R).length = c.2.2.1.length := by simp [longL]
theorem longL_get {R : List Int} {i : Nat} (h : i < (longL t c R).length) : (longL t c R)[i] = lenG t (gt c i) + R.getD i 0 := by simp [longL]
def mostS (t : Clk) (c : Circ) (R : List Int) : Int := (longL t c R).foldl mx2 0
/-- The first gate of the first greatest chain. -/
def firstK (t : Clk) (c : Circ) (R : List Int) : Nat := (longL t c R).findIdx fun x => mostS t c R == x
def chainS (t : Clk) (c : Circ) (R : List Int) : List Int := if firstK t c R < c.2.2.1.length then (firstK t c R : Int) :: tailS t c R (firstK t c R) else []
theorem most_eq {R : List Int} {m : Int} (h0 : 0 ≤ m) (h1 : ∀ j, j < c.2.2.1.length → lenG t (gt c j) + R.getD j 0 ≤ m) (h2 : m = 0 ∨ ∃ j, j < c.2.2.1.length ∧ m = lenG t (gt c j) + R.getD j 0) : m = mostS t c R := by
  have a1 : mostS t c R ≤ m := fold_le h0 fun x hx => by
    obtain ⟨i, hi, rfl⟩ := List.getElem_of_mem hx
    rw [longL_get]
    exact h1 i (by rw [← longL_len (t := t) (c := c) (R := R)]; exact hi)
  have a2 : m ≤ mostS t c R := by
    obtain ⟨b1, b2⟩ := fold_ge (l := longL t c R) (m := 0)
    rcases h2 with h2 | ⟨j, hj, h2⟩
    · rw [h2]; exact b1
    · rw [h2]; exact b2 _ (List.mem_map.2 ⟨j, List.mem_range.2 hj, rfl⟩)
  omega
theorem first_is {R : List Int} (h : firstK t c R < c.2.2.1.length) : lenG t (gt c (firstK t c R)) + R.getD (firstK t c R) 0 = mostS t c R := by
  have h1 : firstK t c R < (longL t c R).length := by rw [longL_len]; exact h
  have h2 : (fun x => mostS t c R == x) ((longL t c R)[firstK t c R]) = true := List.findIdx_getElem (p := fun x => mostS t c R == x) (xs := longL t c R) (w := h1)
  rw [longL_get] at h2
  simp only [beq_iff_eq] at h2
  exact h2.symm
theorem first_le {R : List Int} {i : Nat} (hi : i < c.2.2.1.length) (h : lenG t (gt c i) + R.getD i 0 = mostS t c R) : firstK t c R ≤ i := by
  by_cases hh : i < firstK t c R
  · have := List.not_of_lt_findIdx (p := fun x => mostS t c R == x) (xs := longL t c R) hh
    rw [longL_get, h] at this
    simp at this
  · omega
/-- Rests, with what bounds them. -/
structure Rests (t : Clk) (c : Circ) (R : List Int) : Prop where
  len : R.length = c.2.2.1.length
  is : RestS t c R
  bd : ∀ j, j < c.2.2.1.length → 0 ≤ R.getD j 0 ∧ R.getD j 0 ≤ 300 * ((c.2.2.1.length : Int) - j)
theorem res_bound (H : Ok t c) {i : Nat} {R : List Int} (hi : i < c.2.2.1.length) (hb : ∀ j, i < j → j < c.2.2.1.length → 0 ≤ R.getD j 0 ∧ R.getD j 0 ≤ 300 * ((c.2.2.1.length : Int) - j)) : 0 ≤ resP t c i R ∧ resP t c i R ≤ 300 * ((c.2.2.1.length : Int) - i) := by
  refine ⟨res_ge.1, res_le.2 ⟨by omega, fun k hk _ => ?_⟩⟩
  obtain ⟨h1, h2⟩ := aftL_mem.1 hk
  have h3 := hb k h1 h2
  have h4 := H.lenB h2
  have h5 := H.lateB (g := gt c i) (h := gt c k)
  unfold sumK
  omega
theorem Rests.sum (S : Rests t c R) (H : Ok t c) {i k : Nat} (hk : k < c.2.2.1.length) : 1 ≤ sumK t c R i k := by
  have h3 := S.bd k hk
  have h4 := H.lenB hk
  have h5 := H.lateB (g := gt c i) (h := gt c k)
  unfold sumK
  omega
/-- Where nothing is held, nothing comes behind. -/
theorem Rests.none (S : Rests t c R) (H : Ok t c) {i : Nat} (hi : i < c.2.2.1.length) (h : R.getD i 0 ≤ 0) : nextK t c R i = none := by
  cases hn : nextK t c R i with
  | none => rfl
  | some k =>
    obtain ⟨a, b, e1, e2⟩ := next_some hn
    have := S.sum H (i := i) b
    omega
/-- The pass over the gates behind one: how long a chain is, and which gate comes next. -/
def passK (t : Clk) (c : Circ) (i : Nat) (R : List Int) (p : Int × Int) (k : Nat) : Int × Int := bif meetB (gt c i) (gt c k) && ltI p.1 (lenG t (gt c i) + sumK t c R i k) then (lenG t (gt c i) + sumK t c R i k, (k : Int)) else p
theorem passK_def {i x : Nat} {p : Int × Int} : passK t c i R p x = bif meetB (gt c i) (gt c x) && ltI p.1 (lenG t (gt c i) + sumK t c R i x) then (lenG t (gt c i) + sumK t c R i x, (x : Int)) else p := rfl
theorem passK_inv {i : Nat} {R : List Int} : ∀ (l : List Nat), (l.foldl (passK t c i R) (lenG t (gt c i), -1) = (lenG t (gt c i), -1) ∧ ∀ k ∈ l, meetB (gt c i) (gt c k) = true → sumK t c R i k ≤ 0) ∨
    ∃ pre k post, l = pre ++ k :: post ∧ meetB (gt c i) (gt c k) = true ∧ l.foldl (passK t c i R) (lenG t (gt c i), -1) = (lenG t (gt c i) + sumK t c R i k, (k : Int)) ∧ (∀ p ∈ pre, meetB (gt c i) (gt c p) = true → sumK t c R i p < sumK t c R i k) ∧ (∀ p ∈ post, meetB (gt c i) (gt c p) = true → sumK t c R i p ≤ sumK t c R i k) ∧ 0 < sumK t c R i k := by
  refine snoc_ind (.inl ⟨rfl, fun _ h => by cases h⟩) fun l x ih => ?_
  · rw [List.foldl_append, List.foldl_cons, List.foldl_nil]
    rcases ih with ⟨e, h⟩ | ⟨pre, k, post, e, hm, h, h1, h2, h3⟩
    · rw [e]
      rw [passK_def]
      cases hx : meetB (gt c i) (gt c x) with
      | false =>
        refine .inl ⟨rfl, fun k hk hmk => ?_⟩
        rcases List.mem_append.1 hk with hk | hk
        · exact h k hk hmk
        · rw [List.mem_singleton.1 hk, hx] at hmk; cases hmk
      | true =>
        by_cases hs : 0 < sumK t c R i x
        · refine .inr ⟨l, x, [], rfl, hx, ?_, fun p hp hmp => by have := h p hp hmp; omega, fun p hp => (by cases hp), hs⟩
          rw [show ltI (lenG t (gt c i), (-1 : Int)).1 (lenG t (gt c i) + sumK t c R i x) = true from decide_eq_true (by show lenG t (gt c i) < _; omega)]; rfl
        · refine .inl ⟨?_, fun k hk hmk => ?_⟩
          · rw [show ltI (lenG t (gt c i), (-1 : Int)).1 (lenG t (gt c i) + sumK t c R i x) = false from decide_eq_false (by show ¬ (lenG t (gt c i) < _); omega)]; rfl
          · rcases List.mem_append.1 hk with hk | hk
            · exact h k hk hmk
            · rw [List.mem_singleton.1 hk]; omega
    · rw [h]
      refine .inr ?_
      cases hx : meetB (gt c i) (gt c x) with
      | false =>
        refine ⟨pre, k, post ++ [x], by rw [e]; simp, hm, ?_, h1, fun p hp hmp => ?_, h3⟩
        · rw [passK_def, hx]; rfl
        · rcases List.mem_append.1 hp with hp | hp
          · exact h2 p hp hmp
          · rw [List.mem_singleton.1 hp, hx] at hmp; cases hmp
      | true =>
        by_cases hs : sumK t c R i k < sumK t c R i x
        · refine ⟨l, x, [], rfl, hx, ?_, fun p hp hmp => ?_, fun p hp => (by cases hp), by omega⟩
          · rw [passK_def, hx, show ltI (lenG t (gt c i) + sumK t c R i k, (k : Int)).1 (lenG t (gt c i) + sumK t c R i x) = true from decide_eq_true (by show lenG t (gt c i) + sumK t c R i k < _; omega)]; rfl
          · rw [e] at hp
            rcases List.mem_append.1 hp with hp | hp
            · have := h1 p hp hmp; omega
            · rcases List.mem_cons.1 hp with rfl | hp
              · exact hs
              · have := h2 p hp hmp; omega
        · refine ⟨pre, k, post ++ [x], by rw [e]; simp, hm, ?_, h1, fun p hp hmp => ?_, h3⟩
          · rw [passK_def, hx, show ltI (lenG t (gt c i) + sumK t c R i k, (k : Int)).1 (lenG t (gt c i) + sumK t c R i x) = false from decide_eq_false (by show ¬ (lenG t (gt c i) + sumK t c R i k < _); omega)]; rfl
          · rcases List.mem_append.1 hp with hp | hp
            · exact h2 p hp hmp
            · rw [List.mem_singleton.1 hp]; omega
def nxt (t : Clk) (c : Circ) (R : List Int) (i : Nat) : Int := match nextK t c R i with
  | none => -1
  | some k => (k : Int)
theorem passK_all (S : Rests t c R) (H : Ok t c) {i : Nat} (hi : i < c.2.2.1.length) : (aftL (i + 1) c.2.2.1.length).foldl (passK t c i R) (lenG t (gt c i), -1) = (lenG t (gt c i) + R.getD i 0, nxt t c R i) := by
  have hR := S.is i hi
  rcases passK_inv (t := t) (c := c) (i := i) (R := R) (aftL (i + 1) c.2.2.1.length) with ⟨e, h⟩ | ⟨pre, k, post, e, hm, h, h1, h2, h3⟩
  · have h0 : R.getD i 0 = 0 := by
      have a : resP t c i R ≤ 0 := res_le.2 ⟨Int.le_refl _, h⟩
      have := S.bd i hi
      omega
    rw [e, h0, Int.add_zero]
    unfold nxt
    rw [S.none H hi (by omega)]
  · have h0 : R.getD i 0 = sumK t c R i k := by
      have a : resP t c i R ≤ sumK t c R i k := res_le.2 ⟨by omega, fun p hp hmp => by
        rw [e] at hp
        rcases List.mem_append.1 hp with hp | hp
        · have := h1 p hp hmp; omega
        · rcases List.mem_cons.1 hp with rfl | hp
          · omega
          · exact h2 p hp hmp⟩
      have b : sumK t c R i k ≤ resP t c i R := (res_ge (m := 0)).2 k (by rw [e]; simp) hm
      omega
    rw [h, h0]
    have hn : nextK t c R i = some k := by
      unfold nextK
      rw [e, List.find?_append]
      have hp : pre.find? (fun k => meetB (gt c i) (gt c k) && sumK t c R i k == R.getD i 0) = .none := by
        rw [List.find?_eq_none]
        intro p hp hh
        simp only [Bool.and_eq_true, beq_iff_eq] at hh
        have := h1 p hp hh.1
        omega
      rw [hp, Option.none_or, List.find?_cons_of_pos]
      simp only [hm, h0, Bool.true_and, beq_self_eq_true]
    unfold nxt
    rw [hn]
end Go.Canon
namespace Go.Canon
open Go
set_option maxRecDepth 100000
set_option maxHeartbeats 0
set_option linter.unusedVariables false
noncomputable section
def M_spoondriftref24_step (C : Cmb) (x : ((List Int) × Int × (List (List Int)) × Unit) × (Int × (List Int) × Int × Int × Unit) × (Int × (List Int) × Int × Int × Unit) × Unit) : Option ((Int × Unit) × Unit) := (fun (t : El kT) (g h : El gT) => (m_spoondriftref24_after (t, g, h, ())).elim none fun (val : (Int × PUnit) × PUnit) => (m_spoondriftref24_long (t, g, ())).elim none fun (val_1 : (Int × PUnit) × PUnit) => (m_spoondriftref24_long (t, h, ())).elim none fun (val_2 : (Int × PUnit) × PUnit) => some ((IntKind.i64.wrap (IntKind.i64.wrap (val.fst.fst - val_1.fst.fst) + val_2.fst.fst), ()), ())) x.1 x.2.1 x.2.2.1
def m_spoondriftref24_step : ((List Int) × Int × (List (List Int)) × Unit) × (Int × (List Int) × Int × Int × Unit) × (Int × (List Int) × Int × Int × Unit) × Unit → Option ((Int × Unit) × Unit) := M_spoondriftref24_step realC
def M_spoondriftref24_Chain (C : Cmb) (x : ((List Int) × Int × (List (List Int)) × Unit) × (Int × Int × (List (Int × (List Int) × Int × Int × Unit)) × Unit) × Unit) : Option ((Unit × Int × Int × Unit) × ((List Int × Unit) × Unit)) := (fun (t : El kT) (c : El cT) => (m_spoondriftref24_Check (t, c, ())).elim none fun (val : (Int × PUnit) × PUnit) => bif val.fst.fst != Int.ofNat 0 then some (((), Int.ofNat 0, val.fst.fst, ()), ([], ()), ()) else C.grd (leI 0 (Int.ofNat c.snd.snd.fst.length) && eqI (Int.ofNat c.snd.snd.fst.length) (Int.ofNat c.snd.snd.fst.length) && leN ((Int.ofNat c.snd.snd.fst.length).toNat * 8) roomB) (C.loop (fun (x : (Int × Int × PUnit) × (List Int × PUnit) × PUnit) (again : (Int × Int × PUnit) × (List Int × PUnit) × PUnit → Option ((PUnit × Int × Int × PUnit) × (List Int × PUnit) × PUnit)) => bif geI x.fst.snd.fst (Int.ofNat 0) then C.loop (fun (x_1 : (Int × PUnit) × (List Int × PUnit) × PUnit) (again_1 : (Int × PUnit) × (List Int × PUnit) × PUnit → Option ((PUnit × Int × Int × PUnit) × (List Int × PUnit) × PUnit)) => bif ltI x_1.fst.fst (Int.ofNat c.snd.snd.fst.length) then C.grd (inB x.fst.snd.fst c.snd.snd.fst.length) (C.grd (inB x_1.fst.fst c.snd.snd.fst.length) ((m_spoondriftref24_after (t, c.snd.snd.fst.getD x.fst.snd.fst.toNat (0, [], 0, 0, ()), c.snd.snd.fst.getD x_1.fst.fst.toNat (0, [], 0, 0, ()), ())).elim none fun (val : (Int × PUnit) × PUnit) => C.join (fun (x : PUnit × (List Int × PUnit) × PUnit) => again_1 ((IntKind.i64.wrap (x_1.fst.fst + Int.ofNat 1), ()), (x.snd.fst.fst, ()), ())) fun (kont : PUnit × (List Int × PUnit) × PUnit → Option ((PUnit × Int × Int × PUnit) × (List Int × PUnit) × PUnit)) => bif geI val.fst.fst (Int.ofNat 0) then C.grd (inB x.fst.snd.fst x_1.snd.fst.fst.length) (C.grd (ltB x.fst.snd.fst.toNat x_1.snd.fst.fst.length) (C.grd (inB x.fst.snd.fst c.snd.snd.fst.length) (C.grd (inB x_1.fst.fst c.snd.snd.fst.length) ((m_spoondriftref24_step (t, c.snd.snd.fst.getD x.fst.snd.fst.toNat (0, [], 0, 0, ()), c.snd.snd.fst.getD x_1.fst.fst.toNat (0, [], 0, 0, ()), ())).elim none fun (val : (Int × PUnit) × PUnit) => C.grd (inB x_1.fst.fst x_1.snd.fst.fst.length) (C.grd (ltB x_1.fst.fst.toNat x_1.snd.fst.fst.length) (C.grd (inB x.fst.snd.fst x_1.snd.fst.fst.length) (C.grd (ltB x.fst.snd.fst.toNat x_1.snd.fst.fst.length) (kont ((), (x_1.snd.fst.fst.set x.fst.snd.fst.toNat (List.foldl mx2 (x_1.snd.fst.fst.getD x.fst.snd.fst.toNat 0) [IntKind.i64.wrap (val.fst.fst + x_1.snd.fst.fst.getD x_1.fst.fst.toNat 0)]), ()), ()))))))))) else kont ((), (x_1.snd.fst.fst, ()), ()))) else C.grd (inB x.fst.snd.fst c.snd.snd.fst.length) ((m_spoondriftref24_long (t, c.snd.snd.fst.getD x.fst.snd.fst.toNat (0, [], 0, 0, ()), ())).elim none fun (val : (Int × PUnit) × PUnit) => C.grd (inB x.fst.snd.fst x_1.snd.fst.fst.length) (C.grd (ltB x.fst.snd.fst.toNat x_1.snd.fst.fst.length) (again ((List.foldl mx2 x.fst.fst [IntKind.i64.wrap (val.fst.fst + x_1.snd.fst.fst.getD x.fst.snd.fst.toNat 0)], IntKind.i64.wrap (x.fst.snd.fst - Int.ofNat 1), ()), (x_1.snd.fst.fst, ()), ()))))) fuelL ((IntKind.i64.wrap (x.fst.snd.fst + Int.ofNat 1), ()), (x.snd.fst.fst, ()), ()) else C.loop (fun (x_1 : (PUnit × Int × Int × PUnit) × (List Int × PUnit) × PUnit) (again : (PUnit × Int × Int × PUnit) × (List Int × PUnit) × PUnit → Option ((PUnit × Int × Int × PUnit) × (List Int × PUnit) × PUnit)) => C.join (fun (x_2 : (Bool × PUnit) × PUnit) => bif x_2.fst.fst then C.grd (inB x_1.fst.snd.snd.fst c.snd.snd.fst.length) ((m_spoondriftref24_long (t, c.snd.snd.fst.getD x_1.fst.snd.snd.fst.toNat (0, [], 0, 0, ()), ())).elim none fun (val : (Int × PUnit) × PUnit) => C.join (fun (x_3 : (Int × PUnit) × PUnit) => C.grd (inB x_1.fst.snd.snd.fst x.snd.fst.fst.length) (C.grd (ltB x_1.fst.snd.snd.fst.toNat x.snd.fst.fst.length) (C.join (fun (x : (PUnit × Int × PUnit) × (List Int × PUnit) × PUnit) => again (((), x.fst.snd.fst, IntKind.i64.wrap (x_1.fst.snd.snd.fst + Int.ofNat 1), ()), (x.snd.fst.fst, ()), ())) fun (kont : (PUnit × Int × PUnit) × (List Int × PUnit) × PUnit → Option ((PUnit × Int × Int × PUnit) × (List Int × PUnit) × PUnit)) => bif IntKind.i64.wrap (x_3.fst.fst + x.snd.fst.fst.getD x_1.fst.snd.snd.fst.toNat 0) == x_1.fst.snd.fst then C.grd (true && leN ((x_1.snd.fst.fst.length + [x_1.fst.snd.snd.fst].length) * 8) roomB) (kont (((), IntKind.i64.wrap (x_1.fst.snd.fst - x_3.fst.fst), ()), (x_1.snd.fst.fst ++ [x_1.fst.snd.snd.fst], ()), ())) else kont (((), x_1.fst.snd.fst, ()), (x_1.snd.fst.fst, ()), ())))) fun (kont : (Int × PUnit) × PUnit → Option ((PUnit × Int × Int × PUnit) × (List Int × PUnit) × PUnit)) => bif gtI (Int.ofNat x_1.snd.fst.fst.length) (Int.ofNat 0) then C.grd (inB (IntKind.i64.wrap (Int.ofNat x_1.snd.fst.fst.length - Int.ofNat 1)) x_1.snd.fst.fst.length) (C.grd (ltB (IntKind.i64.wrap (Int.ofNat x_1.snd.fst.fst.length - Int.ofNat 1)).toNat x_1.snd.fst.fst.length) (C.grd (inB (x_1.snd.fst.fst.getD (IntKind.i64.wrap (Int.ofNat x_1.snd.fst.fst.length - Int.ofNat 1)).toNat 0) c.snd.snd.fst.length) (C.grd (inB x_1.fst.snd.snd.fst c.snd.snd.fst.length) ((m_spoondriftref24_after (t, c.snd.snd.fst.getD (x_1.snd.fst.fst.getD (IntKind.i64.wrap (Int.ofNat x_1.snd.fst.fst.length - Int.ofNat 1)).toNat 0).toNat (0, [], 0, 0, ()), c.snd.snd.fst.getD x_1.fst.snd.snd.fst.toNat (0, [], 0, 0, ()), ())).elim none fun (val : (Int × PUnit) × PUnit) => bif ltI val.fst.fst (Int.ofNat 0) then again (((), x_1.fst.snd.fst, IntKind.i64.wrap (x_1.fst.snd.snd.fst + Int.ofNat 1), ()), (x_1.snd.fst.fst, ()), ()) else C.grd (inB (x_1.snd.fst.fst.getD (IntKind.i64.wrap (Int.ofNat x_1.snd.fst.fst.length - Int.ofNat 1)).toNat 0) c.snd.snd.fst.length) (C.grd (inB x_1.fst.snd.snd.fst c.snd.snd.fst.length) ((m_spoondriftref24_step (t, c.snd.snd.fst.getD (x_1.snd.fst.fst.getD (IntKind.i64.wrap (Int.ofNat x_1.snd.fst.fst.length - Int.ofNat 1)).toNat 0).toNat (0, [], 0, 0, ()), c.snd.snd.fst.getD x_1.fst.snd.snd.fst.toNat (0, [], 0, 0, ()), ())).elim none fun (val : (Int × PUnit) × PUnit) => kont ((val.fst.fst, ()), ()))))))) else kont ((val.fst.fst, ()), ())) else some (((), x.fst.fst, Int.ofNat 0, ()), (x_1.snd.fst.fst, ()), ())) fun (kont : (Bool × PUnit) × PUnit → Option ((PUnit × Int × Int × PUnit) × (List Int × PUnit) × PUnit)) => bif ltI x_1.fst.snd.snd.fst (Int.ofNat c.snd.snd.fst.length) then kont ((bif true then gtI x_1.fst.snd.fst (Int.ofNat 0) else false, ()), ()) else kont ((false, ()), ())) fuelL (((), x.fst.fst, Int.ofNat 0, ()), ([], ()), ())) fuelL ((Int.ofNat 0, IntKind.i64.wrap (Int.ofNat c.snd.snd.fst.length - Int.ofNat 1), ()), (List.replicate (Int.ofNat c.snd.snd.fst.length).toNat (Int.ofNat 0), ()), ()))) x.1 x.2.1
def m_spoondriftref24_Chain : ((List Int) × Int × (List (List Int)) × Unit) × (Int × Int × (List (Int × (List Int) × Int × Int × Unit)) × Unit) × Unit → Option ((Unit × Int × Int × Unit) × ((List Int × Unit) × Unit)) := M_spoondriftref24_Chain realC
def M_spoondriftref24_Shows (C : Cmb) (x : ((List Int) × Int × (List (List Int)) × Unit) × (Int × Int × (List (Int × (List Int) × Int × Int × Unit)) × Unit) × (List Int) × Unit) : Option ((Int × Int × Unit) × Unit) := (fun (t : El kT) (c : El cT) (chain : El iT.sl) => (m_spoondriftref24_Check (t, c, ())).elim none fun (val : (Int × PUnit) × PUnit) => bif val.fst.fst != Int.ofNat 0 then some ((Int.ofNat 0, val.fst.fst, ()), ()) else C.loop (fun (x : (Int × PUnit) × PUnit) (again : (Int × PUnit) × PUnit → Option ((Int × Int × PUnit) × PUnit)) => bif ltI x.fst.fst (Int.ofNat (List.length chain)) then C.grd (inB x.fst.fst (List.length chain)) (C.join (fun (x_1 : (Bool × PUnit) × PUnit) => bif x_1.fst.fst then some ((Int.ofNat 0, Int.ofNat 1, ()), ()) else again ((IntKind.i64.wrap (x.fst.fst + Int.ofNat 1), ()), ())) fun (kont : (Bool × PUnit) × PUnit → Option ((Int × Int × PUnit) × PUnit)) => bif ltI (List.getD chain x.fst.fst.toNat 0) (Int.ofNat 0) then kont ((true, ()), ()) else kont ((bif false then true else geI (List.getD chain x.fst.fst.toNat 0) (Int.ofNat c.snd.snd.fst.length), ()), ())) else C.loop (fun (x : (Int × PUnit) × PUnit) (again : (Int × PUnit) × PUnit → Option ((Int × Int × PUnit) × PUnit)) => bif ltI x.fst.fst (Int.ofNat (List.length chain)) then C.grd (inB x.fst.fst (List.length chain)) (C.grd (inB (IntKind.i64.wrap (x.fst.fst - Int.ofNat 1)) (List.length chain)) (bif leI (List.getD chain x.fst.fst.toNat 0) (List.getD chain (IntKind.i64.wrap (x.fst.fst - Int.ofNat 1)).toNat 0) then some ((Int.ofNat 0, Int.ofNat 15, ()), ()) else again ((IntKind.i64.wrap (x.fst.fst + Int.ofNat 1), ()), ()))) else C.loop (fun (x : (Int × Int × PUnit) × PUnit) (again : (Int × Int × PUnit) × PUnit → Option ((Int × Int × PUnit) × PUnit)) => bif ltI x.fst.snd.fst (Int.ofNat (List.length chain)) then C.grd (inB x.fst.snd.fst (List.length chain)) (bif x.fst.snd.fst == Int.ofNat 0 then C.grd (inB (List.getD chain x.fst.snd.fst.toNat 0) c.snd.snd.fst.length) ((m_spoondriftref24_long (t, c.snd.snd.fst.getD (List.getD chain x.fst.snd.fst.toNat 0).toNat (0, [], 0, 0, ()), ())).elim none fun (val : (Int × PUnit) × PUnit) => again ((val.fst.fst, IntKind.i64.wrap (x.fst.snd.fst + Int.ofNat 1), ()), ())) else C.grd (inB (IntKind.i64.wrap (x.fst.snd.fst - Int.ofNat 1)) (List.length chain)) (C.grd (inB (List.getD chain (IntKind.i64.wrap (x.fst.snd.fst - Int.ofNat 1)).toNat 0) c.snd.snd.fst.length) (C.grd (inB (List.getD chain x.fst.snd.fst.toNat 0) c.snd.snd.fst.length) ((m_spoondriftref24_after (t, c.snd.snd.fst.getD (List.getD chain (IntKind.i64.wrap (x.fst.snd.fst - Int.ofNat 1)).toNat 0).toNat (0, [], 0, 0, ()), c.snd.snd.fst.getD (List.getD chain x.fst.snd.fst.toNat 0).toNat (0, [], 0, 0, ()), ())).elim none fun (val : (Int × PUnit) × PUnit) => bif ltI val.fst.fst (Int.ofNat 0) then some ((Int.ofNat 0, Int.ofNat 6, ()), ()) else C.grd (inB (List.getD chain x.fst.snd.fst.toNat 0) c.snd.snd.fst.length) ((m_spoondriftref24_step (t, c.snd.snd.fst.getD (List.getD chain (IntKind.i64.wrap (x.fst.snd.fst - Int.ofNat 1)).toNat 0).toNat (0, [], 0, 0, ()), c.snd.snd.fst.getD (List.getD chain x.fst.snd.fst.toNat 0).toNat (0, [], 0, 0, ()), ())).elim none fun (val : (Int × PUnit) × PUnit) => again ((IntKind.i64.wrap (x.fst.fst + val.fst.fst), IntKind.i64.wrap (x.fst.snd.fst + Int.ofNat 1), ()), ())))))) else some ((x.fst.fst, Int.ofNat 0, ()), ())) fuelL ((Int.ofNat 0, Int.ofNat 0, ()), ())) fuelL ((Int.ofNat 1, ()), ())) fuelL ((Int.ofNat 0, ()), ())) x.1 x.2.1 x.2.2.1
def m_spoondriftref24_Shows : ((List Int) × Int × (List (List Int)) × Unit) × (Int × Int × (List (Int × (List Int) × Int × Int × Unit)) × Unit) × (List Int) × Unit → Option ((Int × Int × Unit) × Unit) := M_spoondriftref24_Shows realC
def M_spoondriftlaw24_SchedChains (C : Cmb) (x : ((List Int) × Int × (List (List Int)) × Unit) × (Int × Int × (List (Int × (List Int) × Int × Int × Unit)) × Unit) × (List Int) × Unit) : Option ((Bool × Unit) × Unit) := (fun (t : El kT) (c : El cT) (chain : El iT.sl) => C.join (fun (x : (Bool × PUnit) × PUnit) => bif x.fst.fst then (m_spoondriftlaw24_awake ()).elim none fun (val : (Bool × PUnit) × PUnit) => some ((val.fst.fst, ()), ()) else (m_spoondriftref24_Own (t, ())).elim none fun (val : ((List Int × Int × List (List Int) × PUnit) × PUnit) × PUnit) => (m_spoondriftkit_Own (c, ())).elim none fun (val_1 : ((Int × Int × List (Int × List Int × Int × Int × PUnit) × PUnit) × PUnit) × PUnit) => (m_slices_Clone (chain, ())).elim none fun (val_2 : (PUnit × PUnit) × (List Int × PUnit) × PUnit) => (m_sched_Chain (val.fst.fst, val_1.fst.fst, ())).elim none fun (val_3 : (PUnit × Int × Int × PUnit) × (List Int × PUnit) × PUnit) => (m_spoondriftref24_Chain (t, c, ())).elim none fun (val_4 : (PUnit × Int × Int × PUnit) × (List Int × PUnit) × PUnit) => (m_sched_Shows (val.fst.fst, val_1.fst.fst, val_2.snd.fst.fst, ())).elim none fun (val_5 : (Int × Int × PUnit) × PUnit) => (m_spoondriftref24_Shows (t, c, chain, ())).elim none fun (val_6 : (Int × Int × PUnit) × PUnit) => C.join (fun (x : (Bool × PUnit) × PUnit) => some ((x.fst.fst, ()), ())) fun (kont : (Bool × PUnit) × PUnit → Option ((Bool × PUnit) × PUnit)) => (m_slices_Equal (val_3.snd.fst.fst, val_4.snd.fst.fst, ())).elim none fun (val_7 : (Bool × PUnit) × PUnit) => bif bif true then val_7.fst.fst else false then bif bif true then val_3.fst.snd.fst == val_4.fst.snd.fst else false then bif bif true then val_3.fst.snd.snd.fst == val_4.fst.snd.snd.fst else false then bif bif true then val_5.fst.fst == val_6.fst.fst else false then bif bif true then val_5.fst.snd.fst == val_6.fst.snd.fst else false then (m_spoondriftref24_Same (val.fst.fst, t, ())).elim none fun (val : (Bool × PUnit) × PUnit) => bif bif true then val.fst.fst else false then (m_spoondriftkit_Same (val_1.fst.fst, c, ())).elim none fun (val : (Bool × PUnit) × PUnit) => bif bif true then val.fst.fst else false then (m_slices_Equal (val_2.snd.fst.fst, chain, ())).elim none fun (val : (Bool × PUnit) × PUnit) => bif bif true then val.fst.fst else false then (m_spoondriftlaw24_awake ()).elim none fun (val : (Bool × PUnit) × PUnit) => kont ((bif true then val.fst.fst else false, ()), ()) else kont ((false, ()), ()) else kont ((false, ()), ()) else kont ((false, ()), ()) else kont ((false, ()), ()) else kont ((false, ()), ()) else kont ((false, ()), ()) else kont ((false, ()), ()) else kont ((false, ()), ())) fun (kont : (Bool × PUnit) × PUnit → Option ((Bool × PUnit) × PUnit)) => (m_spoondriftlaw24_great (t, ())).elim none fun (val : (Bool × PUnit) × PUnit) => bif val.fst.fst then kont ((true, ()), ()) else (m_spoondriftkit_Great (c, ())).elim none fun (val : (Bool × PUnit) × PUnit) => bif bif false then true else val.fst.fst then kont ((true, ()), ()) else kont ((bif false then true else gtI (Int.ofNat (List.length chain)) (Int.ofNat 140), ()), ())) x.1 x.2.1 x.2.2.1
def m_spoondriftlaw24_SchedChains : ((List Int) × Int × (List (List Int)) × Unit) × (Int × Int × (List (Int × (List Int) × Int × Int × Unit)) × Unit) × (List Int) × Unit → Option ((Bool × Unit) × Unit) := M_spoondriftlaw24_SchedChains realC
end
end Go.Canon
namespace Go.Canon
set_option linter.unusedVariables false
set_option linter.unusedSimpArgs false
open Go
variable {t : Clk} {c : Circ} {R : List Int}
theorem r_step (H : Ok t c) {i j : Nat} (hi : i < c.2.2.1.length) (hj : j < c.2.2.1.length) (hm : meetB (gt c j) (gt c i) = true) : m_spoondriftref24_step (t, gt c j, gt c i, ()) = some (i1 (lateG t (gt c j) (gt c i) + lenG t (gt c i))) := by
  have hlj := H.lenB hj
  have hli := H.lenB hi
  have hla := H.lateB (g := gt c j) (h := gt c i)
  have a1 : m_spoondriftref24_after (t, gt c j, gt c i, ()) = some (i1 (aftS t (gt c j) (gt c i))) := r_after H hi hj
  have a2 : m_spoondriftref24_long (t, gt c j, ()) = some (i1 (lenG t (gt c j))) := r_long H hj
  have a3 : m_spoondriftref24_long (t, gt c i, ()) = some (i1 (lenG t (gt c i))) := r_long H hi
  show (m_spoondriftref24_after (t, gt c j, gt c i, ())).elim none _ = _
  rw [a1, Option.elim_some, a2, Option.elim_some, a3, Option.elim_some]
  unfold aftS
  rw [hm, cond_true]
  show some (((IntKind.i64.wrap (IntKind.i64.wrap (lenG t (gt c j) + lateG t (gt c j) (gt c i) - lenG t (gt c j)) + lenG t (gt c i)), ()), ())) = _
  rw [wrap_in (a := lenG t (gt c j) + lateG t (gt c j) (gt c i) - lenG t (gt c j)) (by omega) (by omega), wrap_in (by omega) (by omega)]
  show some (i1 _) = some (i1 _)
  congr 2; omega
abbrev LC := (Unit × Int × Int × Unit) × (List Int × Unit) × Unit
abbrev lc (m e : Int) (l : List Int) : LC := (((), m, e, ()), (l, ()), ())
theorem set_self {l : List Int} {i : Nat} (h : i < l.length) (e : l.getD i 0 = 0) : l.set i 0 = l := by
  apply List.ext_getElem?
  intro j
  rw [List.getElem?_set]
  by_cases hij : i = j
  · subst hij
    rw [if_pos rfl, if_pos h, List.getElem?_eq_getElem h, ← e, getD_in h]
  · rw [if_neg hij]
theorem max_mx2 {a b : Int} : List.foldl mx2 a [b] = mx2 a b := rfl
theorem last_get {pre : List Int} {j : Int} : (pre ++ [j]).getD pre.length 0 = j := getD_last
theorem r_chain (H : Ok t c) : ∃ R, Rests t c R ∧ m_spoondriftref24_Chain (t, c, ()) = some (lc (mostS t c R) 0 (chainS t c R)) := by
  have hn := H.n120
  have key : ∀ (C : Cmb) [CmbOk C], ∃ r : LC, (∃ R, Rests t c R ∧ r = lc (mostS t c R) 0 (chainS t c R)) ∧ M_spoondriftref24_Chain C (t, c, ()) = some r := by
    intro C _
    unfold M_spoondriftref24_Chain
    dsimp only
    have hg : (leI 0 (Int.ofNat c.2.2.1.length) && eqI (Int.ofNat c.2.2.1.length) (Int.ofNat c.2.2.1.length) && leN ((Int.ofNat c.2.2.1.length).toNat * 8) roomB) = true := by
      rw [show (Int.ofNat c.2.2.1.length).toNat = c.2.2.1.length from rfl, room_ok (by omega) (by decide)]
      simp [leI, eqI]
    have e0 : IntKind.i64.wrap (Int.ofNat c.2.2.1.length - Int.ofNat 1) = (c.2.2.1.length : Int) - 1 := wrap_in (by simp; omega) (by simp; omega)
    rw [check24_eq H.sm H.n40, Option.elim_some, H.e, show (((0 : Int)) != Int.ofNat 0) = false from rfl, cond_false, grd_real, hg, cond_true, e0]
    refine loop_ex (C := C) (fun x : (Int × Int × Unit) × (List Int × Unit) × Unit => ∃ k : Nat, x.1.2.1 = (k : Int) - 1 ∧ k ≤ c.2.2.1.length ∧ x.2.1.1.length = c.2.2.1.length ∧ (∀ j, k ≤ j → j < c.2.2.1.length → x.2.1.1.getD j 0 = resP t c j x.2.1.1 ∧ 0 ≤ x.2.1.1.getD j 0 ∧ x.2.1.1.getD j 0 ≤ 300 * ((c.2.2.1.length : Int) - j)) ∧ (∀ j, j < k → x.2.1.1.getD j 0 = 0) ∧
        0 ≤ x.1.1 ∧ (∀ j, k ≤ j → j < c.2.2.1.length → lenG t (gt c j) + x.2.1.1.getD j 0 ≤ x.1.1) ∧ (x.1.1 = 0 ∨ ∃ j, k ≤ j ∧ j < c.2.2.1.length ∧ x.1.1 = lenG t (gt c j) + x.2.1.1.getD j 0))
      (fun x => (x.1.2.1 + 1).toNat) (fun x (r : LC) => ∃ R, Rests t c R ∧ r = lc (mostS t c R) 0 (chainS t c R)) (fun x hI => ?_) fuelL (((0 : Int), (c.2.2.1.length : Int) - 1, ()), (List.replicate c.2.2.1.length 0, ()), ())
      ⟨c.2.2.1.length, rfl, Nat.le_refl _, List.length_replicate, fun j h1 h2 => by omega, fun j hj => by show (List.replicate c.2.2.1.length (0 : Int)).getD j 0 = 0; rw [List.getD_eq_getElem?_getD]; simp [hj], Int.le_refl _, fun j h1 h2 => by omega, .inl rfl⟩ (fuel_big (by show ((c.2.2.1.length : Int) - 1 + 1).toNat < _; omega))
    obtain ⟨⟨most, z, u1⟩, ⟨R, u2⟩, u3⟩ := x
    obtain ⟨k, hz, hk, hl, hI, h0, hm0, hm1, hm2⟩ := hI
    replace hz : z = (k : Int) - 1 := hz
    replace hl : R.length = c.2.2.1.length := hl
    replace hI : ∀ j, k ≤ j → j < c.2.2.1.length → R.getD j 0 = resP t c j R ∧ 0 ≤ R.getD j 0 ∧ R.getD j 0 ≤ 300 * ((c.2.2.1.length : Int) - j) := hI
    replace h0 : ∀ j, j < k → R.getD j 0 = 0 := h0
    replace hm0 : 0 ≤ most := hm0
    replace hm1 : ∀ j, k ≤ j → j < c.2.2.1.length → lenG t (gt c j) + R.getD j 0 ≤ most := hm1
    replace hm2 : most = 0 ∨ ∃ j, k ≤ j ∧ j < c.2.2.1.length ∧ most = lenG t (gt c j) + R.getD j 0 := hm2
    cases k with
    | zero =>
      subst hz
      have S : Rests t c R := ⟨hl, fun j hj => (hI j (Nat.zero_le _) hj).1, fun j hj => (hI j (Nat.zero_le _) hj).2⟩
      have em : most = mostS t c R := most_eq hm0 (fun j hj => hm1 j (Nat.zero_le _) hj) (hm2.imp id fun ⟨j, _, a, b⟩ => ⟨j, a, b⟩)
      refine .inl ⟨_, ⟨R, S, rfl⟩, fun again => ?_⟩
      show @Cmb.loop C _ _ _ fuelL (((), most, ((0 : Nat) : Int), ()), ([], ()), ()) = _
      have hmb : mostS t c R ≤ 40000 := fold_le (by decide) fun x hx => by
        obtain ⟨i, hi, rfl⟩ := List.getElem_of_mem hx
        rw [longL_get]
        rw [longL_len] at hi
        have := S.bd i hi
        have := H.lenB hi
        omega
      refine loop_meas1 (C := C) (fun x : (Unit × Int × Int × Unit) × (List Int × Unit) × Unit => ∃ i : Nat, x.1.2.2.1 = (i : Int) ∧ i ≤ c.2.2.1.length ∧ x.2.1.1.length ≤ i ∧ ((x.2.1.1 = [] ∧ x.1.2.1 = mostS t c R ∧ i ≤ firstK t c R) ∨
          ∃ (j : Nat) (pre : List Int), x.2.1.1 = pre ++ [(j : Int)] ∧ j < i ∧ x.1.2.1 = R.getD j 0 ∧ x.2.1.1 ++ tailS t c R j = chainS t c R ∧ ∀ q, j < q → q < i → ¬ (meetB (gt c j) (gt c q) = true ∧ sumK t c R j q = R.getD j 0)))
        (fun x => c.2.2.1.length - x.1.2.2.1.toNat) (fun x hx => ?_) fuelL (((), most, ((0 : Nat) : Int), ()), ([], ()), ()) ⟨0, rfl, Nat.zero_le _, Nat.le_refl _, .inl ⟨rfl, em, Nat.zero_le _⟩⟩ (fuel_big (by show c.2.2.1.length - _ < _; omega))
      obtain ⟨⟨u4, left, z, u5⟩, ⟨out, u6⟩, u7⟩ := x
      obtain ⟨i, hz, hi, ho, hx⟩ := hx
      replace hz : z = (i : Int) := hz
      subst hz
      replace ho : out.length ≤ i := ho
      replace hx : (out = [] ∧ left = mostS t c R ∧ i ≤ firstK t c R) ∨ ∃ (j : Nat) (pre : List Int), out = pre ++ [(j : Int)] ∧ j < i ∧ left = R.getD j 0 ∧ out ++ tailS t c R j = chainS t c R ∧ ∀ q, j < q → q < i → ¬ (meetB (gt c j) (gt c q) = true ∧ sumK t c R j q = R.getD j 0) := hx
      -- where it ends
      have done : (¬ i < c.2.2.1.length ∨ left ≤ 0) → out = chainS t c R := by
        intro hd
        rcases hx with ⟨rfl, rfl, hf⟩ | ⟨j, pre, rfl, hj, rfl, hc, hno⟩
        · unfold chainS
          rw [if_neg]
          intro hlt
          rcases hd with hd | hd
          · omega
          · have h1 := first_is hlt
            have h2 := H.lenB hlt
            have h3 := S.bd _ hlt
            omega
        · have hjn : j < c.2.2.1.length := by omega
          have hn : nextK t c R j = none := by
            rcases hd with hd | hd
            · cases hnx : nextK t c R j with
              | none => rfl
              | some k =>
                obtain ⟨a, b, e1, e2⟩ := next_some hnx
                exact (hno k a (by omega) ⟨e1, e2⟩).elim
            · exact S.none H hjn hd
          rw [tail_eq hjn, hn] at hc
          simpa using hc
      by_cases hlt : i < c.2.2.1.length
      · by_cases hleft : 0 < left
        · have hiR : i < R.length := by omega
          have hbi := S.bd i hlt
          have hli := H.lenB hlt
          have hlong : m_spoondriftref24_long (t, gt c i, ()) = some (i1 (lenG t (gt c i))) := r_long H hlt
          have hgl : gtI left ((0 : Nat) : Int) = true := decide_eq_true hleft
          rcases hx with ⟨rfl, rfl, hf⟩ | ⟨j, pre, rfl, hj, rfl, hc, hno⟩
          · refine ⟨some (bif lenG t (gt c i) + R.getD i 0 == mostS t c R then (((), R.getD i 0, ((i + 1 : Nat) : Int), ()), ([(i : Int)], ()), ()) else (((), mostS t c R, ((i + 1 : Nat) : Int), ()), ([], ()), ())), fun y hy => ?_, fun again2 => ?_⟩
            · cases hy
              cases he : lenG t (gt c i) + R.getD i 0 == mostS t c R with
              | true =>
                have he := eq_of_beq he
                have hfi : firstK t c R = i := by have := first_le hlt he; omega
                refine ⟨⟨i + 1, rfl, hlt, by show 1 ≤ i + 1; omega, .inr ⟨i, [], rfl, Nat.lt_succ_self _, rfl, ?_, fun q h1 h2 => by omega⟩⟩, by show c.2.2.1.length - (((i + 1 : Nat) : Int)).toNat < c.2.2.1.length - ((i : Int)).toNat; omega⟩
                show [(i : Int)] ++ tailS t c R i = chainS t c R
                unfold chainS
                rw [hfi, if_pos hlt]; rfl
              | false =>
                refine ⟨⟨i + 1, rfl, hlt, Nat.zero_le _, .inl ⟨rfl, rfl, ?_⟩⟩, by show c.2.2.1.length - (((i + 1 : Nat) : Int)).toNat < c.2.2.1.length - ((i : Int)).toNat; omega⟩
                by_cases hfi : firstK t c R = i
                · have := first_is (t := t) (c := c) (R := R) (by rw [hfi]; exact hlt)
                  rw [hfi] at this
                  rw [this] at he
                  simp at he
                · omega
            · simp only [ofNat_c, lt_cast, decide_true, decide_false, cond_true, cond_false, inB_cast, grd_real, join_real, Int.toNat_natCast, Option.elim_some, Bool.true_and, Bool.false_or, Bool.or_true, Bool.and_true, Bool.or_false, cond_tf, hlt, hgl, gt_eq, hlong, List.length_nil, Nat.lt_irrefl, hiR, ltb_in hiR, show gtI ((0 : Nat) : Int) ((0 : Nat) : Int) = false from rfl, List.length_singleton, List.nil_append, Nat.zero_add, wrap_nat (show i < 4294967296 by omega)]
              rw [wrap_in (a := lenG t (gt c i) + R.getD i 0) (by omega) (by omega), wrap_in (a := mostS t c R - lenG t (gt c i)) (by omega) (by omega), room_ok (by omega) (by decide)]
              cases he : lenG t (gt c i) + R.getD i 0 == mostS t c R with
              | true =>
                have he := eq_of_beq he
                rw [show mostS t c R - lenG t (gt c i) = R.getD i 0 by omega]; rfl
              | false => rfl
          · have hjn : j < c.2.2.1.length := by omega
            have hbj := S.bd j hjn
            have hla := H.lateB (g := gt c j) (h := gt c i)
            have hlj := H.lenB hjn
            have hpl : pre.length + 1 ≤ i := by simpa using ho
            have hlen : (pre ++ [(j : Int)]).length = pre.length + 1 := by simp
            have e1 : IntKind.i64.wrap (((pre.length + 1 : Nat) : Int) - ((1 : Nat) : Int)) = ((pre.length : Nat) : Int) := by
              rw [wrap_in (by omega) (by omega)]; omega
            have haft : m_spoondriftref24_after (t, gt c j, gt c i, ()) = some (i1 (aftS t (gt c j) (gt c i))) := r_after H hlt hjn
            have hg2 : gtI (((pre.length + 1 : Nat)) : Int) ((0 : Nat) : Int) = true := decide_eq_true (by omega)
            have hlt0 : ltI (aftS t (gt c j) (gt c i)) ((0 : Nat) : Int) = !meetB (gt c j) (gt c i) := by
              unfold aftS
              cases meetB (gt c j) (gt c i) with
              | false => rfl
              | true => exact decide_eq_false (by simp only [cond_true]; omega)
            refine ⟨some (bif meetB (gt c j) (gt c i) && sumK t c R j i == R.getD j 0 then (((), R.getD i 0, ((i + 1 : Nat) : Int), ()), (pre ++ [(j : Int)] ++ [(i : Int)], ()), ()) else (((), R.getD j 0, ((i + 1 : Nat) : Int), ()), (pre ++ [(j : Int)], ()), ())), fun y hy => ?_, fun again2 => ?_⟩
            · cases hy
              cases he : meetB (gt c j) (gt c i) && sumK t c R j i == R.getD j 0 with
              | true =>
                simp only [Bool.and_eq_true, beq_iff_eq] at he
                refine ⟨⟨i + 1, rfl, hlt, by show (pre ++ [(j : Int)] ++ [(i : Int)]).length ≤ i + 1; rw [List.length_append, hlen]; simp; omega, .inr ⟨i, pre ++ [(j : Int)], rfl, Nat.lt_succ_self _, rfl, ?_, fun q h1 h2 => by omega⟩⟩, by show c.2.2.1.length - (((i + 1 : Nat) : Int)).toNat < c.2.2.1.length - ((i : Int)).toNat; omega⟩
                have hnx : nextK t c R j = some i := by
                  cases hnx : nextK t c R j with
                  | none =>
                    have := List.find?_eq_none.1 hnx i (aftL_mem.2 ⟨hj, hlt⟩)
                    simp [he.1, he.2] at this
                  | some k =>
                    obtain ⟨a, b, f1, f2⟩ := next_some hnx
                    by_cases hki : k < i
                    · exact (hno k a hki ⟨f1, f2⟩).elim
                    · by_cases hik : i < k
                      · have := List.find?_eq_some_iff_append.1 hnx
                        obtain ⟨_, as, bs, hab, hall⟩ := this
                        have hmi : i ∈ aftL (j + 1) c.2.2.1.length := aftL_mem.2 ⟨hj, hlt⟩
                        have hia : i ∈ as := by
                          rw [hab] at hmi
                          rcases List.mem_append.1 hmi with h | h
                          · exact h
                          · rcases List.mem_cons.1 h with h | h
                            · omega
                            · exfalso
                              have hs : (aftL (j + 1) c.2.2.1.length).Pairwise (· < ·) := by
                                unfold aftL
                                rw [List.pairwise_map]
                                exact List.Pairwise.imp (fun h => by omega) List.pairwise_lt_range
                              rw [hab] at hs
                              have := (List.pairwise_cons.1 (List.pairwise_append.1 hs).2.1).1 i h
                              omega
                        have := hall i hia
                        simp [he.1, he.2] at this
                      · have : k = i := by omega
                        rw [this]
                rw [tail_eq hjn, hnx] at hc
                show pre ++ [(j : Int)] ++ [(i : Int)] ++ tailS t c R i = chainS t c R
                rw [← hc]
                simp
              | false =>
                refine ⟨⟨i + 1, rfl, hlt, by show (pre ++ [(j : Int)]).length ≤ i + 1; omega, .inr ⟨j, pre, rfl, by omega, rfl, hc, fun q h1 h2 => ?_⟩⟩, by show c.2.2.1.length - (((i + 1 : Nat) : Int)).toNat < c.2.2.1.length - ((i : Int)).toNat; omega⟩
                by_cases hqi : q < i
                · exact hno q h1 hqi
                · have : q = i := by omega
                  subst this
                  rintro ⟨f1, f2⟩
                  rw [f1, f2] at he
                  simp at he
            · simp only [ofNat_c, lt_cast, decide_true, decide_false, cond_true, cond_false, inB_cast, grd_real, join_real, Int.toNat_natCast, Option.elim_some, Bool.true_and, Bool.false_or, Bool.or_true, Bool.and_true, Bool.or_false, cond_tf, hlt, hgl, gt_eq, hlong, hlen, hg2, e1, last_get, Nat.lt_succ_self, ltb_in (show pre.length < pre.length + 1 by omega), hjn, haft, hlt0, hiR, ltb_in hiR, List.length_singleton, wrap_nat (show i < 4294967296 by omega)]
              cases hm : meetB (gt c j) (gt c i) with
              | false => rfl
              | true =>
                have hst := r_step H hlt hjn hm
                simp only [Bool.not_true, cond_false, hst, Option.elim_some, Bool.true_and]
                have hsum : lateG t (gt c j) (gt c i) + lenG t (gt c i) + R.getD i 0 = sumK t c R j i := rfl
                rw [wrap_in (a := lateG t (gt c j) (gt c i) + lenG t (gt c i) + R.getD i 0) (by omega) (by omega), hsum, wrap_in (a := R.getD j 0 - (lateG t (gt c j) (gt c i) + lenG t (gt c i))) (by omega) (by omega), room_ok (by omega) (by decide)]
                cases he : sumK t c R j i == R.getD j 0 with
                | true =>
                  have he := eq_of_beq he
                  rw [show R.getD j 0 - (lateG t (gt c j) (gt c i) + lenG t (gt c i)) = R.getD i 0 by omega]; rfl
                | false => rfl
        · refine ⟨none, fun _ h => (by cases h), fun again2 => ?_⟩
          have e := done (.inr (by omega))
          have hgl : gtI left ((0 : Nat) : Int) = false := decide_eq_false hleft
          simp only [ofNat_c, lt_cast, decide_true, decide_false, cond_true, cond_false, inB_cast, grd_real, join_real, Int.toNat_natCast, Option.elim_some, Bool.true_and, Bool.false_or, Bool.or_true, Bool.and_true, Bool.or_false, cond_tf, hlt, hgl]
          rw [e, em]; rfl
      · refine ⟨none, fun _ h => (by cases h), fun again2 => ?_⟩
        have e := done (.inl hlt)
        simp only [ofNat_c, lt_cast, decide_true, decide_false, cond_true, cond_false, inB_cast, grd_real, join_real, Int.toNat_natCast, Option.elim_some, Bool.true_and, Bool.false_or, Bool.or_true, Bool.and_true, Bool.or_false, cond_tf, hlt]
        rw [e, em]; rfl
    | succ i =>
      replace hz : z = (i : Int) := by omega
      subst hz
      have hlt : i < c.2.2.1.length := by omega
      have hiR : i < R.length := by omega
      have hli := H.lenB hlt
      have hb := res_bound H hlt (R := R) fun j h1 h2 => (hI j (by omega) h2).2
      have sm : ∀ q, i ≤ q → ∀ v, SameL c q R (R.set i v) := fun q hq v j h3 h4 => by rw [set_get hiR, if_neg (by omega)]
      have ei : IntKind.i64.wrap ((i : Int) - ((1 : Nat) : Int)) = (i : Int) - 1 := wrap_in (by omega) (by omega)
      refine .inr ⟨((mx2 most (lenG t (gt c i) + resP t c i R), (i : Int) - 1, ()), (R.set i (resP t c i R), ()), ()), ⟨i, rfl, Nat.le_of_lt hlt, by show (R.set i _).length = _; rw [List.length_set, hl], fun j h1 h2 => ?_, fun j h1 => ?_, ?_, fun j h1 h2 => ?_, ?_⟩, ?_, fun _ h => h, fun again => ?_⟩
      · show (R.set i (resP t c i R)).getD j 0 = resP t c j (R.set i (resP t c i R)) ∧ 0 ≤ (R.set i (resP t c i R)).getD j 0 ∧ (R.set i (resP t c i R)).getD j 0 ≤ _
        rw [← res_same (sm j (by omega) _), set_get hiR]
        by_cases hji : j = i
        · subst hji; rw [if_pos rfl]; exact ⟨rfl, hb⟩
        · rw [if_neg hji]; exact hI j (by omega) h2
      · show (R.set i (resP t c i R)).getD j 0 = 0
        rw [set_get hiR, if_neg (by omega)]; exact h0 j (by omega)
      · show 0 ≤ mx2 most _
        unfold mx2; split <;> omega
      · show lenG t (gt c j) + (R.set i (resP t c i R)).getD j 0 ≤ mx2 most _
        rw [set_get hiR]
        by_cases hji : j = i
        · subst hji; rw [if_pos rfl]; unfold mx2; split <;> omega
        · rw [if_neg hji]
          have := hm1 j (by omega) h2
          unfold mx2; split <;> omega
      · show mx2 most _ = 0 ∨ _
        unfold mx2
        split
        · exact .inr ⟨i, Nat.le_refl _, hlt, by show _ = lenG t (gt c i) + (R.set i (resP t c i R)).getD i 0; rw [set_get hiR, if_pos rfl]⟩
        · rcases hm2 with h | ⟨j, a, b, e⟩
          · exact .inl h
          · exact .inr ⟨j, by omega, b, by show _ = lenG t (gt c j) + (R.set i (resP t c i R)).getD j 0; rw [set_get hiR, if_neg (by omega)]; exact e⟩
      · show ((i : Int) - 1 + 1).toNat < ((i : Int) + 1).toNat
        omega
      have hal : (aftL (i + 1) c.2.2.1.length).length = c.2.2.1.length - (i + 1) := aftL_len
      simp only [ofNat_c, lt_cast, decide_true, decide_false, cond_true, cond_false, inB_cast, grd_real, join_real, Int.toNat_natCast, Option.elim_some, Bool.true_and, Bool.false_or, Bool.or_true, Bool.and_true, Bool.or_false, cond_tf, ge_nn', wrap_nat (show i < 4294967296 by omega)]
      have hRs : R = R.set i 0 := (set_self hiR (h0 i (Nat.lt_succ_self _))).symm
      have hst : ((((i + 1 : Nat) : Int), ()), (R, ()), ()) = (fun (q : Nat) (m : Int) => (((((i + 1 + q : Nat) : Int), ()), (R.set i m, ()), ()) : (Int × Unit) × (List Int × Unit) × Unit)) 0 0 := by
        show _ = ((((i + 1 + 0 : Nat) : Int), ()), (R.set i 0, ()), ())
        rw [← hRs]
      rw [hst]
      refine loop_fold (C := C) (l := aftL (i + 1) c.2.2.1.length) (f := resStep t c i R) (c := 0) (E := fun _ => _) (n := fuelL) (fun (q : Nat) (m : Int) => (((((i + 1 + q : Nat) : Int), ()), (R.set i m, ()), ()) : (Int × Unit) × (List Int × Unit) × Unit)) (fuel_big (by rw [hal]; omega)) (fun q hq again3 => ?_) fun again3 => ?_
      · rw [aftL_get]
        have hq0 := hq
        rw [hal] at hq
        have hbq : 0 ≤ (List.take q (aftL (i + 1) c.2.2.1.length)).foldl (resStep t c i R) 0 ∧ (List.take q (aftL (i + 1) c.2.2.1.length)).foldl (resStep t c i R) 0 ≤ 40000 := by
          refine ⟨res_ge.1, res_le.2 ⟨by decide, fun k hk _ => ?_⟩⟩
          obtain ⟨h1, h2⟩ := aftL_mem.1 (List.mem_of_mem_take hk)
          have h3 := (hI k (by omega) h2).2
          have h4 := H.lenB h2
          have h5 := H.lateB (g := gt c i) (h := gt c k)
          unfold sumK
          omega
        generalize (List.take q (aftL (i + 1) c.2.2.1.length)).foldl (resStep t c i R) 0 = m at hbq ⊢
        generalize hjj : i + 1 + q = j
        have hij : i < j := by omega
        have hj2 : j < c.2.2.1.length := by omega
        have hjR : j < R.length := by omega
        have hla := H.lateB (g := gt c i) (h := gt c j)
        have hlj := H.lenB hj2
        have hsj := (hI j (by omega) hj2).2
        have ej : i + 1 + (q + 1) = j + 1 := by omega
        have haft : m_spoondriftref24_after (t, gt c i, gt c j, ()) = some (i1 (aftS t (gt c i) (gt c j))) := r_after H hj2 hlt
        have hgj : (R.set i m).getD j 0 = R.getD j 0 := by rw [set_get hiR, if_neg (by omega)]
        have hgi : (R.set i m).getD i 0 = m := by rw [set_get hiR, if_pos rfl]
        simp only [ofNat_c, lt_cast, decide_true, decide_false, cond_true, cond_false, inB_cast, grd_real, join_real, Int.toNat_natCast, Option.elim_some, Bool.true_and, Bool.false_or, Bool.or_true, Bool.and_true, Bool.or_false, cond_tf, hj2, hlt, gt_eq, haft, List.length_set, hiR, hjR, ltb_in hiR, ltb_in hjR, ej, hgj, hgi, max_mx2, List.set_set, wrap_nat (show j < 4294967296 by omega), show ((0 : Nat) : Int) = 0 from rfl, aftS_ge H hli.1, resStep]
        cases hm : meetB (gt c i) (gt c j) with
        | false => rfl
        | true =>
          simp only [cond_true, r_step H hj2 hlt hm, Option.elim_some]
          have hsum : lateG t (gt c i) (gt c j) + lenG t (gt c j) + R.getD j 0 = sumK t c R i j := rfl
          rw [wrap_in (a := lateG t (gt c i) (gt c j) + lenG t (gt c j) + R.getD j 0) (by omega) (by omega), hsum]
      · have hlong : m_spoondriftref24_long (t, gt c i, ()) = some (i1 (lenG t (gt c i))) := r_long H hlt
        have hfold : (aftL (i + 1) c.2.2.1.length).foldl (resStep t c i R) 0 = resP t c i R := rfl
        rw [hal, hfold, show i + 1 + (c.2.2.1.length - (i + 1)) = c.2.2.1.length by omega]
        have hgi : (R.set i (resP t c i R)).getD i 0 = resP t c i R := by rw [set_get hiR, if_pos rfl]
        simp only [ofNat_c, lt_cast, decide_true, decide_false, cond_true, cond_false, inB_cast, grd_real, join_real, Int.toNat_natCast, Option.elim_some, Bool.true_and, Bool.false_or, Bool.or_true, Bool.and_true, Bool.or_false, cond_tf, Nat.lt_irrefl, hlt, gt_eq, hlong, List.length_set, hiR, ltb_in hiR, hgi, max_mx2]
        rw [wrap_in (a := lenG t (gt c i) + resP t c i R) (by omega) (by omega), ei]
  obtain ⟨r, ⟨R, S, rfl⟩, h2⟩ := key realC
  exact ⟨R, S, h2⟩
end Go.Canon
namespace Go.Canon
set_option linter.unusedVariables false
set_option linter.unusedSimpArgs false
open Go
variable {t : Clk} {c : Circ} {R : List Int}
theorem p_chain (H : Ok t c) (S : Rests t c R) : m_sched_Chain (t, c, ()) = some (lc (mostS t c R) 0 (chainS t c R)) := by
  have hn := H.n120
  have key : ∀ (C : Cmb) [CmbOk C], M_sched_Chain C (t, c, ()) = some (lc (mostS t c R) 0 (chainS t c R)) := by
    intro C _
    unfold M_sched_Chain
    dsimp only
    rw [opened_eq H.sm H.n40, Option.elim_some, H.e, if_pos rfl]
    simp only [show (((0 : Int)) != Int.ofNat 0) = false from rfl, cond_false, Option.elim_some]
    have hg : (leI 0 (Int.ofNat (planS t c).1.2.2.1.length) && eqI (Int.ofNat (planS t c).1.2.2.1.length) (Int.ofNat (planS t c).1.2.2.1.length) && leN ((Int.ofNat (planS t c).1.2.2.1.length).toNat * 8) roomB) = true := by
      show (leI 0 (Int.ofNat c.2.2.1.length) && eqI (Int.ofNat c.2.2.1.length) (Int.ofNat c.2.2.1.length) && leN ((Int.ofNat c.2.2.1.length).toNat * 8) roomB) = true
      rw [show (Int.ofNat c.2.2.1.length).toNat = c.2.2.1.length from rfl, room_ok (by omega) (by decide)]
      simp [leI, eqI]
    have e0 : IntKind.i64.wrap (Int.ofNat (planS t c).1.2.2.1.length - Int.ofNat 1) = (c.2.2.1.length : Int) - 1 := wrap_in (by simp [planS]; omega) (by simp [planS]; omega)
    rw [grd_real, hg, cond_true, grd_real, cond_true, e0]
    refine loop_meas1 (C := C) (fun x : (Int × Unit) × (List Int × Unit) × (List Int × Unit) × Unit => ∃ k : Nat, x.1.1 = (k : Int) - 1 ∧ k ≤ c.2.2.1.length ∧ x.2.1.1.length = c.2.2.1.length ∧ x.2.2.1.1.length = c.2.2.1.length ∧ ∀ j, k ≤ j → j < c.2.2.1.length → x.2.1.1.getD j 0 = lenG t (gt c j) + R.getD j 0 ∧ x.2.2.1.1.getD j 0 = nxt t c R j)
      (fun x => (x.1.1 + 1).toNat) (fun x hI => ?_) fuelL (((c.2.2.1.length : Int) - 1, ()), (List.replicate c.2.2.1.length 0, ()), (List.replicate c.2.2.1.length 0, ()), ())
      ⟨c.2.2.1.length, rfl, Nat.le_refl _, List.length_replicate, List.length_replicate, fun j h1 h2 => by omega⟩ (fuel_big (by show ((c.2.2.1.length : Int) - 1 + 1).toNat < _; omega))
    obtain ⟨⟨z, u1⟩, ⟨long, u2⟩, ⟨next, u3⟩, u4⟩ := x
    obtain ⟨k, hz, hk, hl1, hl2, hI⟩ := hI
    replace hz : z = (k : Int) - 1 := hz
    replace hl1 : long.length = c.2.2.1.length := hl1
    replace hl2 : next.length = c.2.2.1.length := hl2
    replace hI : ∀ j, k ≤ j → j < c.2.2.1.length → long.getD j 0 = lenG t (gt c j) + R.getD j 0 ∧ next.getD j 0 = nxt t c R j := hI
    cases k with
    | zero =>
      subst hz
      refine ⟨none, fun _ h => (by cases h), fun again => ?_⟩
      have el : long = longL t c R := by
        apply List.ext_getElem (by rw [hl1, longL_len])
        intro i h1 h2
        have := (hI i (Nat.zero_le _) (by omega)).1
        rw [getD_in h1] at this
        rw [this, longL_get]
      subst el
      have hpos : ∀ x ∈ longL t c R, 0 ≤ x := fun x hx => by
        obtain ⟨i, hi, rfl⟩ := List.getElem_of_mem hx
        rw [longL_get]
        rw [longL_len] at hi
        have := S.bd i hi
        have := H.lenB hi
        omega
      show (m_sched_greatest (longL t c R, ())).elim none _ = _
      rw [greatest_eq (by rw [longL_len]; omega), Option.elim_some, max_of_fold hpos]
      show (m_slices_Index (longL t c R, mostS t c R, ())).elim none _ = _
      rw [index_eq (by rw [longL_len]; omega), Option.elim_some]
      refine loop_meas1 (C := C) (fun x : (Unit × Int × Unit) × (List Int × Unit) × Unit => (x.1.2.1 = -1 ∧ x.2.1.1 = chainS t c R) ∨ ∃ i : Nat, x.1.2.1 = (i : Int) ∧ i < c.2.2.1.length ∧ x.2.1.1.length ≤ i ∧ x.2.1.1 ++ (i : Int) :: tailS t c R i = chainS t c R)
        (fun x => if x.1.2.1 < 0 then 0 else 1 + (c.2.2.1.length - x.1.2.1.toNat)) (fun x hx => ?_) fuelL _ ?_ ?_
      · obtain ⟨⟨u5, z, u6⟩, ⟨out, u7⟩, u8⟩ := x
        rcases hx with ⟨hz, ho⟩ | ⟨i, hz, hi, ho, hc⟩
        · replace hz : z = -1 := hz
          replace ho : out = chainS t c R := ho
          subst hz ho
          exact ⟨none, fun _ h => (by cases h), fun again2 => rfl⟩
        · replace hz : z = (i : Int) := hz
          subst hz
          replace ho : out.length ≤ i := ho
          replace hc : out ++ (i : Int) :: tailS t c R i = chainS t c R := hc
          have hin : i < next.length := by omega
          refine ⟨some (((), nxt t c R i, ()), (out ++ [(i : Int)], ()), ()), fun y hy => ?_, fun again2 => ?_⟩
          · cases hy
            cases hn : nextK t c R i with
            | none =>
              have e1 : nxt t c R i = -1 := by unfold nxt; rw [hn]
              refine ⟨.inl ⟨e1, ?_⟩, ?_⟩
              · show out ++ [(i : Int)] = _
                rw [← hc, tail_eq hi, hn]
              · show (if nxt t c R i < 0 then 0 else _) < (if (i : Int) < 0 then 0 else 1 + (c.2.2.1.length - (i : Int).toNat))
                rw [e1, if_pos (by decide), if_neg (by omega)]; omega
            | some k =>
              obtain ⟨a, b, _, _⟩ := next_some hn
              have e1 : nxt t c R i = (k : Int) := by unfold nxt; rw [hn]
              refine ⟨.inr ⟨k, e1, b, ?_, ?_⟩, ?_⟩
              · show (out ++ [(i : Int)]).length ≤ k
                simp; omega
              · show out ++ [(i : Int)] ++ (k : Int) :: tailS t c R k = _
                rw [← hc, tail_eq hi, hn]; simp
              · show (if nxt t c R i < 0 then 0 else 1 + (c.2.2.1.length - (nxt t c R i).toNat)) < (if (i : Int) < 0 then 0 else 1 + (c.2.2.1.length - (i : Int).toNat))
                rw [e1, if_neg (by omega), if_neg (by omega)]; omega
          · have h2 := (hI i (Nat.zero_le _) hi).2
            simp only [ofNat_c, lt_cast, decide_true, decide_false, cond_true, cond_false, inB_cast, grd_real, join_real, Int.toNat_natCast, Option.elim_some, Bool.true_and, Bool.false_or, Bool.or_true, Bool.and_true, Bool.or_false, cond_tf, ge_nn', hin, ltb_in hin, h2, List.length_singleton]
            rw [room_ok (by omega) (by decide)]
            rfl
      · show ((if (longL t c R).findIdx (fun x => mostS t c R == x) < (longL t c R).length then ((longL t c R).findIdx (fun x => mostS t c R == x) : Int) else -1) = -1 ∧ [] = chainS t c R) ∨ _
        by_cases hf : firstK t c R < c.2.2.1.length
        · refine .inr ⟨firstK t c R, ?_, hf, Nat.zero_le _, ?_⟩
          · show (if (longL t c R).findIdx (fun x => mostS t c R == x) < (longL t c R).length then _ else _) = _
            rw [longL_len]; exact if_pos hf
          · show [] ++ _ = _
            unfold chainS
            rw [if_pos hf]; rfl
        · refine .inl ⟨?_, ?_⟩
          · rw [longL_len]; exact if_neg hf
          · unfold chainS
            rw [if_neg hf]
      · refine fuel_big ?_
        have hb : ∀ z : Int, (if z < 0 then 0 else 1 + (c.2.2.1.length - z.toNat)) < 4294967296 := fun z => by split <;> omega
        exact hb _
    | succ i =>
      replace hz : z = (i : Int) := by omega
      subst hz
      have hlt : i < c.2.2.1.length := by omega
      have hil : i < long.length := by omega
      have hin : i < next.length := by omega
      have hli := H.lenB hlt
      have ei : IntKind.i64.wrap ((i : Int) - ((1 : Nat) : Int)) = (i : Int) - 1 := wrap_in (by omega) (by omega)
      refine ⟨some (((i : Int) - 1, ()), (long.set i (lenG t (gt c i) + R.getD i 0), ()), (next.set i (nxt t c R i), ()), ()), fun y hy => ?_, fun again => ?_⟩
      · cases hy
        refine ⟨⟨i, rfl, Nat.le_of_lt hlt, by show (long.set i _).length = _; rw [List.length_set, hl1], by show (next.set i _).length = _; rw [List.length_set, hl2], fun j h1 h2 => ?_⟩, ?_⟩
        · show (long.set i _).getD j 0 = _ ∧ (next.set i _).getD j 0 = _
          rw [set_get hil, set_get hin]
          by_cases hji : j = i
          · subst hji; rw [if_pos rfl, if_pos rfl]; exact ⟨rfl, rfl⟩
          · rw [if_neg hji, if_neg hji]; exact hI j (by omega) h2
        · show ((i : Int) - 1 + 1).toNat < ((i : Int) + 1).toNat
          omega
      have hal : (aftL (i + 1) c.2.2.1.length).length = c.2.2.1.length - (i + 1) := aftL_len
      have hlen : m_sched_plan_length (planS t c, (i : Int), ()) = some (i1 (lenG t (gt c i))) := p_length H hlt
      have hnl : (planS t c).1.2.2.1.length = c.2.2.1.length := rfl
      simp only [ofNat_c, lt_cast, decide_true, decide_false, cond_true, cond_false, inB_cast, grd_real, join_real, Int.toNat_natCast, Option.elim_some, Bool.true_and, Bool.false_or, Bool.or_true, Bool.and_true, Bool.or_false, cond_tf, ge_nn', hlen, hil, hin, ltb_in hil, ltb_in hin, wrap_nat (show i < 4294967296 by omega), hnl]
      have hall := passK_all S H hlt
      refine loop_fold (C := C) (l := aftL (i + 1) c.2.2.1.length) (f := passK t c i R) (c := (lenG t (gt c i), -1)) (E := fun _ => _) (n := fuelL) (fun (q : Nat) (p : Int × Int) => (((((i + 1 + q : Nat) : Int), ()), (long.set i p.1, ()), (next.set i p.2, ()), ()) : (Int × Unit) × (List Int × Unit) × (List Int × Unit) × Unit)) (fuel_big (by rw [hal]; omega)) (fun q hq again3 => ?_) fun again3 => ?_
      · rw [aftL_get]
        have hq0 := hq
        rw [hal] at hq
        generalize (List.take q (aftL (i + 1) c.2.2.1.length)).foldl (passK t c i R) (lenG t (gt c i), -1) = p
        obtain ⟨m, nx⟩ := p
        generalize hjj : i + 1 + q = j
        have hij : i < j := by omega
        have hj2 : j < c.2.2.1.length := by omega
        have hjl : j < long.length := by omega
        have hla := H.lateB (g := gt c i) (h := gt c j)
        have hlj := H.lenB hj2
        have hbj := S.bd j hj2
        have ej : i + 1 + (q + 1) = j + 1 := by omega
        have hgj : (long.set i m).getD j 0 = lenG t (gt c j) + R.getD j 0 := by rw [set_get hil, if_neg (by omega)]; exact (hI j (by omega) hj2).1
        have hgi : (long.set i m).getD i 0 = m := by rw [set_get hil, if_pos rfl]
        have hh : m_sched_plan_holds (planS t c, (i : Int), (j : Int), ()) = some (b1 (meetB (gt c i) (gt c j))) := p_holds H hj2 hlt
        have hlate : m_sched_plan_late (planS t c, (i : Int), (j : Int), ()) = some (i1 (lateG t (gt c i) (gt c j))) := p_late H hj2 hlt
        have hsum : lenG t (gt c i) + lateG t (gt c i) (gt c j) + (lenG t (gt c j) + R.getD j 0) = lenG t (gt c i) + sumK t c R i j := by unfold sumK; omega
        simp only [ofNat_c, lt_cast, decide_true, decide_false, cond_true, cond_false, inB_cast, grd_real, join_real, Int.toNat_natCast, Option.elim_some, Bool.true_and, Bool.false_or, Bool.or_true, Bool.and_true, Bool.or_false, cond_tf, hj2, hlen, hh, hlate, List.length_set, hil, hin, hjl, ltb_in hil, ltb_in hin, ltb_in hjl, ej, hgj, hgi, List.set_set, wrap_nat (show j < 4294967296 by omega), passK_def]
        rw [wrap_in (a := lenG t (gt c i) + lateG t (gt c i) (gt c j)) (by omega) (by omega), wrap_in (a := lenG t (gt c i) + lateG t (gt c i) (gt c j) + (lenG t (gt c j) + R.getD j 0)) (by omega) (by omega), hsum, gtI_lt]
        cases meetB (gt c i) (gt c j) with
        | false => rfl
        | true => cases ltI m (lenG t (gt c i) + sumK t c R i j) <;> rfl
      · rw [hal, hall, show i + 1 + (c.2.2.1.length - (i + 1)) = c.2.2.1.length by omega]
        simp only [ofNat_c, lt_cast, decide_true, decide_false, cond_true, cond_false, inB_cast, grd_real, join_real, Int.toNat_natCast, Option.elim_some, Bool.true_and, Bool.false_or, Bool.or_true, Bool.and_true, Bool.or_false, cond_tf, Nat.lt_irrefl]
        rw [ei]
  exact key realC
theorem chain_both (h : Small c) (ht : t.2.2.1.length ≤ 40) (h2 : ∀ p ∈ t.2.2.1, List.length p = 2) : ∃ m e l, l.length ≤ 1000000 ∧ m_sched_Chain (t, c, ()) = some (lc m e l) ∧ m_spoondriftref24_Chain (t, c, ()) = some (lc m e l) := by
  by_cases e : chk24 t c = 0
  · have H := ok_of h ht h2 e
    obtain ⟨R, S, hr⟩ := r_chain H
    refine ⟨_, 0, chainS t c R, ?_, p_chain H S, hr⟩
    have hn := H.n120
    have htl : ∀ f i, (tailF t c R f i).length ≤ f := by
      intro f
      induction f with
      | zero => intro i; exact Nat.le_refl _
      | succ f ih =>
        intro i
        unfold tailF
        cases nextK t c R i with
        | none => exact Nat.zero_le _
        | some k => have := ih k; show (_ :: _).length ≤ _; simp; omega
    unfold chainS tailS
    split
    · have := htl c.2.2.1.length (firstK t c R)
      simp; omega
    · exact Nat.zero_le _
  · refine ⟨0, chk24 t c, [], Nat.zero_le _, ?_, ?_⟩
    · have key : ∀ (C : Cmb) [CmbOk C], M_sched_Chain C (t, c, ()) = some (lc 0 (chk24 t c) []) := by
        intro C _
        unfold M_sched_Chain
        dsimp only
        rw [opened_eq h ht, Option.elim_some, if_neg e]
        show (bif chk24 t c != ((0 : Nat) : Int) then _ else _) = _
        rw [ne0_t e]; rfl
      exact key realC
    · have key : ∀ (C : Cmb) [CmbOk C], M_spoondriftref24_Chain C (t, c, ()) = some (lc 0 (chk24 t c) []) := by
        intro C _
        unfold M_spoondriftref24_Chain
        dsimp only
        rw [check24_eq h ht, Option.elim_some]
        show (bif chk24 t c != ((0 : Nat) : Int) then _ else _) = _
        rw [ne0_t e]; rfl
      exact key realC
end Go.Canon
namespace Go.Canon
set_option linter.unusedVariables false
set_option linter.unusedSimpArgs false
open Go
variable {t : Clk} {c : Circ}
/-- The number of a chain's k-th gate. -/
def idx (l : List Int) (k : Nat) : Nat := (l.getD k 0).toNat
/-- What the k-th gate adds. -/
def addC (t : Clk) (c : Circ) (l : List Int) (k : Nat) : Int := if k = 0 then lenG t (gt c (idx l 0)) else lateG t (gt c (idx l (k - 1))) (gt c (idx l k)) + lenG t (gt c (idx l k))
def badC (c : Circ) (l : List Int) (k : Nat) : Bool := decide (k ≠ 0) && !meetB (gt c (idx l (k - 1))) (gt c (idx l k))
def sumC (t : Clk) (c : Circ) (l : List Int) : Nat → Int
  | 0 => 0
  | k + 1 => sumC t c l k + addC t c l k
/-- What Shows hands back of a chain with right numbers. -/
def showR (t : Clk) (c : Circ) (l : List Int) : (Int × Int × Unit) × Unit :=
  bif (List.range (l.length - 1)).any (fun k => decide (l.getD (k + 1) 0 ≤ l.getD k 0)) then ie 0 15 else bif (List.range l.length).any (badC c l) then ie 0 6 else ie (sumC t c l l.length) 0
theorem shows_both (h : Small c) (ht : t.2.2.1.length ≤ 40) (h2 : ∀ p ∈ t.2.2.1, List.length p = 2) {l : List Int} (hl : l.length ≤ 140) : ∃ a e, m_sched_Shows (t, c, l, ()) = some (ie a e) ∧ m_spoondriftref24_Shows (t, c, l, ()) = some (ie a e) := by
  have pk : ∀ {r : (Int × Int × Unit) × Unit}, (∀ (C : Cmb) [CmbOk C], M_sched_Shows C (t, c, l, ()) = some r) → (∀ (C : Cmb) [CmbOk C], M_spoondriftref24_Shows C (t, c, l, ()) = some r) → ∃ a e, m_sched_Shows (t, c, l, ()) = some (ie a e) ∧ m_spoondriftref24_Shows (t, c, l, ()) = some (ie a e) := fun {r} h1 h2 => ⟨r.1.1, r.1.2.1, h1 realC, h2 realC⟩
  by_cases e : chk24 t c = 0
  · have H := ok_of h ht h2 e
    have hn := H.n120
    have hhas := p_has (l := l) (by omega) (p := planS t c)
    cases ho : l.any (outB c) with
    | true =>
      have ho' : l.any (outB (planS t c).1) = true := ho
      rw [ho'] at hhas
      refine pk (r := ie 0 1) (fun C _ => ?_) fun C _ => ?_
      · unfold M_sched_Shows
        simp only [ofNat_c, lt_cast, decide_true, decide_false, cond_true, cond_false, inB_cast, grd_real, join_real, Int.toNat_natCast, Option.elim_some, Bool.true_and, Bool.false_or, Bool.or_true, Bool.and_true, Bool.or_false, cond_tf, opened_eq h ht, e, if_true, ne0_f, hhas, Bool.not_true, Bool.not_false]; rfl
      · unfold M_spoondriftref24_Shows
        simp only [ofNat_c, lt_cast, decide_true, decide_false, cond_true, cond_false, inB_cast, grd_real, join_real, Int.toNat_natCast, Option.elim_some, Bool.true_and, Bool.false_or, Bool.or_true, Bool.and_true, Bool.or_false, cond_tf, check24_eq h ht, e, ne0_f]
        refine (loop_hit (C := C) (l := l) (p := outB c) (R := fun _ => some (ie 0 1)) (n := fuelL) st1 (fuel_big (by omega)) (find_any.2 ho) (fun k hk again => ?_)).trans rfl
        simp only [cast0, ofNat_c, lt_cast, decide_true, decide_false, cond_true, cond_false, inB_cast, grd_real, join_real, Int.toNat_natCast, Option.elim_some, Bool.true_and, Bool.false_or, Bool.or_true, Bool.and_true, Bool.or_false, cond_tf, hk, getD_in hk, wrap_nat (show k < 4294967296 by omega)]; simp only [ltI, geI]
        unfold outB
        cases decide (l[k] < 0) with
        | true => rfl
        | false => cases decide (l[k] ≥ (c.2.2.1.length : Int)) <;> rfl
    | false =>
      have ho' : l.any (outB (planS t c).1) = false := ho
      rw [ho'] at hhas
      have hin : ∀ k, k < l.length → l.getD k 0 = (idx l k : Int) ∧ idx l k < c.2.2.1.length := fun k hk => by
        have h1 := List.any_eq_false.1 ho _ (List.getElem_mem hk)
        obtain ⟨n, e1, e2⟩ := outB_nat (Bool.eq_false_iff.2 h1)
        unfold idx
        rw [getD_in hk, e1]
        exact ⟨rfl, e2⟩
      have hadd : ∀ k, k < l.length → 0 ≤ addC t c l k ∧ addC t c l k ≤ 200 := fun k hk => by
        unfold addC
        split
        · have := H.lenB (hin 0 (by omega)).2; omega
        · have := H.lenB (hin k hk).2
          have := H.lateB (g := gt c (idx l (k - 1))) (h := gt c (idx l k))
          omega
      have hsum : ∀ k, k ≤ l.length → 0 ≤ sumC t c l k ∧ sumC t c l k ≤ 200 * (k : Int) := by
        intro k
        induction k with
        | zero => intro _; exact ⟨Int.le_refl _, by show (0 : Int) ≤ 200 * ((0 : Nat) : Int); decide⟩
        | succ k ih =>
          intro hk
          have h1 := ih (by omega)
          have h2 := hadd k (by omega)
          show 0 ≤ sumC t c l k + addC t c l k ∧ sumC t c l k + addC t c l k ≤ _
          omega
      have hrl : (List.range (l.length - 1)).length = l.length - 1 := List.length_range
      have hr2 : (List.range l.length).length = l.length := List.length_range
      have ew : ∀ k : Nat, k < l.length → IntKind.i64.wrap (((k + 1 : Nat) : Int) - ((1 : Nat) : Int)) = (k : Int) := fun k hk => by
        rw [wrap_in (by omega) (by omega)]; omega
      refine pk (r := showR t c l) (fun C _ => ?_) fun C _ => ?_
      · unfold M_sched_Shows
        simp only [ofNat_c, lt_cast, decide_true, decide_false, cond_true, cond_false, inB_cast, grd_real, join_real, Int.toNat_natCast, Option.elim_some, Bool.true_and, Bool.false_or, Bool.or_true, Bool.and_true, Bool.or_false, cond_tf, opened_eq h ht, e, if_true, ne0_f, hhas, Bool.not_true, Bool.not_false]
        refine (loop_any2 (C := C) (l := List.range (l.length - 1)) (p := fun k => decide (l.getD (k + 1) 0 ≤ l.getD k 0)) (R := some (ie 0 15)) (E := some (bif (List.range l.length).any (badC c l) then ie 0 6 else ie (sumC t c l l.length) 0)) (n := fuelL) (fun k => ((((k + 1 : Nat) : Int), ()), ())) (fuel_big (by rw [hrl]; omega)) (fun k hk again => ?_) fun again => ?_).trans ?_
        · rw [hrl] at hk
          have hk1 : k + 1 < l.length := by omega
          have hk0 : k < l.length := by omega
          simp only [ofNat_c, lt_cast, decide_true, decide_false, cond_true, cond_false, inB_cast, grd_real, join_real, Int.toNat_natCast, Option.elim_some, Bool.true_and, Bool.false_or, Bool.or_true, Bool.and_true, Bool.or_false, cond_tf, hk1, hk0, ew k hk0, List.getElem_range, wrap_nat (show k + 1 < 4294967296 by omega)]
          rfl
        · have hnl : ¬ (l.length - 1 + 1 < l.length) := by omega
          rw [hrl]
          simp only [ofNat_c, lt_cast, decide_true, decide_false, cond_true, cond_false, inB_cast, grd_real, join_real, Int.toNat_natCast, Option.elim_some, Bool.true_and, Bool.false_or, Bool.or_true, Bool.and_true, Bool.or_false, cond_tf, hnl]
          refine (loop_any2 (C := C) (l := List.range l.length) (p := badC c l) (R := some (ie 0 6)) (E := some (ie (sumC t c l l.length) 0)) (n := fuelL) (fun k => ((sumC t c l k, (k : Int), ()), ())) (fuel_big (by rw [hr2]; omega)) (fun k hk again2 => ?_) fun again2 => ?_).trans ?_
          · rw [hr2] at hk
            obtain ⟨g1, g2⟩ := hin k hk
            have hlen : m_sched_plan_length (planS t c, (idx l k : Int), ()) = some (i1 (lenG t (gt c (idx l k)))) := p_length H g2
            have hs := hsum k (by omega)
            have hlk := H.lenB g2
            rw [List.getElem_range]
            cases k with
            | zero =>
              simp only [ofNat_c, lt_cast, decide_true, decide_false, cond_true, cond_false, inB_cast, grd_real, join_real, Int.toNat_natCast, Option.elim_some, Bool.true_and, Bool.false_or, Bool.or_true, Bool.and_true, Bool.or_false, cond_tf, hk, g1, hlen, show gtI ((0 : Nat) : Int) ((0 : Nat) : Int) = false from rfl, wrap_nat (show 0 < 4294967296 by omega)]
              show again2 _ = bif badC c l 0 then _ else again2 _
              rw [show badC c l 0 = false from rfl, cond_false]
              rw [wrap_in (a := sumC t c l 0 + lenG t (gt c (idx l 0))) (by omega) (by omega)]
              rfl
            | succ k =>
              have hk0 : k < l.length := by omega
              obtain ⟨g3, g4⟩ := hin k hk0
              have hla := H.lateB (g := gt c (idx l k)) (h := gt c (idx l (k + 1)))
              have hh : m_sched_plan_holds (planS t c, (idx l k : Int), (idx l (k + 1) : Int), ()) = some (b1 (meetB (gt c (idx l k)) (gt c (idx l (k + 1))))) := p_holds H g2 g4
              have hlate : m_sched_plan_late (planS t c, (idx l k : Int), (idx l (k + 1) : Int), ()) = some (i1 (lateG t (gt c (idx l k)) (gt c (idx l (k + 1))))) := p_late H g2 g4
              have hg : gtI ((k + 1 : Nat) : Int) ((0 : Nat) : Int) = true := decide_eq_true (by omega)
              have ebad : badC c l (k + 1) = !meetB (gt c (idx l k)) (gt c (idx l (k + 1))) := by
                show (decide (k + 1 ≠ 0) && _) = _
                rw [decide_eq_true (by omega)]; rfl
              have eadd : sumC t c l (k + 1 + 1) = sumC t c l (k + 1) + (lateG t (gt c (idx l k)) (gt c (idx l (k + 1))) + lenG t (gt c (idx l (k + 1)))) := by
                show _ + addC t c l (k + 1) = _
                unfold addC
                rw [if_neg (by omega)]; rfl
              simp only [ofNat_c, lt_cast, decide_true, decide_false, cond_true, cond_false, inB_cast, grd_real, join_real, Int.toNat_natCast, Option.elim_some, Bool.true_and, Bool.false_or, Bool.or_true, Bool.and_true, Bool.or_false, cond_tf, hk, hk0, hg, ew k hk0, g1, g3, hh, hlate, hlen, ebad, eadd, wrap_nat (show k + 1 < 4294967296 by omega)]
              rw [wrap_in (a := sumC t c l (k + 1) + lateG t (gt c (idx l k)) (gt c (idx l (k + 1)))) (by omega) (by omega), wrap_in (a := sumC t c l (k + 1) + lateG t (gt c (idx l k)) (gt c (idx l (k + 1))) + lenG t (gt c (idx l (k + 1)))) (by omega) (by omega), Int.add_assoc]
              cases meetB (gt c (idx l k)) (gt c (idx l (k + 1))) <;> rfl
          · rw [hr2]
            simp only [ofNat_c, lt_cast, decide_true, decide_false, cond_true, cond_false, inB_cast, grd_real, join_real, Int.toNat_natCast, Option.elim_some, Bool.true_and, Bool.false_or, Bool.or_true, Bool.and_true, Bool.or_false, cond_tf, Nat.lt_irrefl]; rfl
          · cases (List.range l.length).any (badC c l) <;> rfl
        · unfold showR
          cases (List.range (l.length - 1)).any (fun k => decide (l.getD (k + 1) 0 ≤ l.getD k 0)) <;> rfl
      · unfold M_spoondriftref24_Shows
        simp only [ofNat_c, lt_cast, decide_true, decide_false, cond_true, cond_false, inB_cast, grd_real, join_real, Int.toNat_natCast, Option.elim_some, Bool.true_and, Bool.false_or, Bool.or_true, Bool.and_true, Bool.or_false, cond_tf, check24_eq h ht, e, ne0_f]
        refine (loop_any2 (C := C) (l := l) (p := outB c) (R := some (ie 0 1)) (E := some (showR t c l)) (n := fuelL) st1 (fuel_big (by omega)) (fun k hk again => ?_) fun again => ?_).trans (by rw [ho]; rfl)
        · simp only [cast0, ofNat_c, lt_cast, decide_true, decide_false, cond_true, cond_false, inB_cast, grd_real, join_real, Int.toNat_natCast, Option.elim_some, Bool.true_and, Bool.false_or, Bool.or_true, Bool.and_true, Bool.or_false, cond_tf, hk, getD_in hk, wrap_nat (show k < 4294967296 by omega)]; simp only [ltI, geI]
          unfold outB
          cases decide (l[k] < 0) with
          | true => rfl
          | false => cases decide (l[k] ≥ (c.2.2.1.length : Int)) <;> rfl
        · simp only [ofNat_c, lt_cast, decide_true, decide_false, cond_true, cond_false, inB_cast, grd_real, join_real, Int.toNat_natCast, Option.elim_some, Bool.true_and, Bool.false_or, Bool.or_true, Bool.and_true, Bool.or_false, cond_tf, Nat.lt_irrefl]
          refine (loop_any2 (C := C) (l := List.range (l.length - 1)) (p := fun k => decide (l.getD (k + 1) 0 ≤ l.getD k 0)) (R := some (ie 0 15)) (E := some (bif (List.range l.length).any (badC c l) then ie 0 6 else ie (sumC t c l l.length) 0)) (n := fuelL) (fun k => ((((k + 1 : Nat) : Int), ()), ())) (fuel_big (by rw [hrl]; omega)) (fun k hk again => ?_) fun again => ?_).trans ?_
          · rw [hrl] at hk
            have hk1 : k + 1 < l.length := by omega
            have hk0 : k < l.length := by omega
            simp only [ofNat_c, lt_cast, decide_true, decide_false, cond_true, cond_false, inB_cast, grd_real, join_real, Int.toNat_natCast, Option.elim_some, Bool.true_and, Bool.false_or, Bool.or_true, Bool.and_true, Bool.or_false, cond_tf, hk1, hk0, ew k hk0, List.getElem_range, wrap_nat (show k + 1 < 4294967296 by omega)]
            rfl
          · have hnl : ¬ (l.length - 1 + 1 < l.length) := by omega
            rw [hrl]
            simp only [ofNat_c, lt_cast, decide_true, decide_false, cond_true, cond_false, inB_cast, grd_real, join_real, Int.toNat_natCast, Option.elim_some, Bool.true_and, Bool.false_or, Bool.or_true, Bool.and_true, Bool.or_false, cond_tf, hnl]
            refine (loop_any2 (C := C) (l := List.range l.length) (p := badC c l) (R := some (ie 0 6)) (E := some (ie (sumC t c l l.length) 0)) (n := fuelL) (fun k => ((sumC t c l k, (k : Int), ()), ())) (fuel_big (by rw [hr2]; omega)) (fun k hk again2 => ?_) fun again2 => ?_).trans ?_
            · rw [hr2] at hk
              obtain ⟨g1, g2⟩ := hin k hk
              have hlen : m_spoondriftref24_long (t, gt c (idx l k), ()) = some (i1 (lenG t (gt c (idx l k)))) := r_long H g2
              have hs := hsum k (by omega)
              have hlk := H.lenB g2
              rw [List.getElem_range]
              cases k with
              | zero =>
                simp only [ofNat_c, lt_cast, decide_true, decide_false, cond_true, cond_false, inB_cast, grd_real, join_real, Int.toNat_natCast, Option.elim_some, Bool.true_and, Bool.false_or, Bool.or_true, Bool.and_true, Bool.or_false, cond_tf, hk, g1, g2, gt_eq, hlen, show (((0 : Nat) : Int) == ((0 : Nat) : Int)) = true from rfl, wrap_nat (show 0 < 4294967296 by omega)]
                show again2 _ = bif badC c l 0 then _ else again2 _
                rw [show badC c l 0 = false from rfl, cond_false]
                show again2 ((lenG t (gt c (idx l 0)), _, ()), ()) = again2 ((0 + addC t c l 0, _, ()), ())
                rw [Int.zero_add]; rfl
              | succ k =>
                have hk0 : k < l.length := by omega
                obtain ⟨g3, g4⟩ := hin k hk0
                have hla := H.lateB (g := gt c (idx l k)) (h := gt c (idx l (k + 1)))
                have hlj := H.lenB g4
                have haft : m_spoondriftref24_after (t, gt c (idx l k), gt c (idx l (k + 1)), ()) = some (i1 (aftS t (gt c (idx l k)) (gt c (idx l (k + 1))))) := r_after H g2 g4
                have hg : (((k + 1 : Nat) : Int) == ((0 : Nat) : Int)) = false := by rw [beq_dec]; exact decide_eq_false (by omega)
                have hlt0 : ltI (aftS t (gt c (idx l k)) (gt c (idx l (k + 1)))) ((0 : Nat) : Int) = !meetB (gt c (idx l k)) (gt c (idx l (k + 1))) := by
                  unfold aftS
                  cases meetB (gt c (idx l k)) (gt c (idx l (k + 1))) with
                  | false => rfl
                  | true => exact decide_eq_false (by simp only [cond_true]; omega)
                have ebad : badC c l (k + 1) = !meetB (gt c (idx l k)) (gt c (idx l (k + 1))) := by
                  show (decide (k + 1 ≠ 0) && _) = _
                  rw [decide_eq_true (by omega)]; rfl
                have eadd : sumC t c l (k + 1 + 1) = sumC t c l (k + 1) + (lateG t (gt c (idx l k)) (gt c (idx l (k + 1))) + lenG t (gt c (idx l (k + 1)))) := by
                  show _ + addC t c l (k + 1) = _
                  unfold addC
                  rw [if_neg (by omega)]; rfl
                simp only [ofNat_c, lt_cast, decide_true, decide_false, cond_true, cond_false, inB_cast, grd_real, join_real, Int.toNat_natCast, Option.elim_some, Bool.true_and, Bool.false_or, Bool.or_true, Bool.and_true, Bool.or_false, cond_tf, hk, hk0, hg, ew k hk0, g1, g3, g2, g4, gt_eq, haft, hlt0, ebad, eadd, wrap_nat (show k + 1 < 4294967296 by omega)]
                cases hm : meetB (gt c (idx l k)) (gt c (idx l (k + 1))) with
                | false => rfl
                | true =>
                  simp only [Bool.not_true, cond_false, r_step H g2 g4 hm, Option.elim_some]
                  rw [wrap_in (a := sumC t c l (k + 1) + (lateG t (gt c (idx l k)) (gt c (idx l (k + 1))) + lenG t (gt c (idx l (k + 1))))) (by omega) (by omega)]
            · rw [hr2]
              simp only [ofNat_c, lt_cast, decide_true, decide_false, cond_true, cond_false, inB_cast, grd_real, join_real, Int.toNat_natCast, Option.elim_some, Bool.true_and, Bool.false_or, Bool.or_true, Bool.and_true, Bool.or_false, cond_tf, Nat.lt_irrefl]; rfl
            · cases (List.range l.length).any (badC c l) <;> rfl
          · unfold showR
            cases (List.range (l.length - 1)).any (fun k => decide (l.getD (k + 1) 0 ≤ l.getD k 0)) <;> rfl
  · refine pk (r := ie 0 (chk24 t c)) (fun C _ => ?_) fun C _ => ?_
    · unfold M_sched_Shows
      simp only [ofNat_c, lt_cast, decide_true, decide_false, cond_true, cond_false, inB_cast, grd_real, join_real, Int.toNat_natCast, Option.elim_some, Bool.true_and, Bool.false_or, Bool.or_true, Bool.and_true, Bool.or_false, cond_tf, opened_eq h ht, if_neg e, ne0_t e]; rfl
    · unfold M_spoondriftref24_Shows
      simp only [ofNat_c, lt_cast, decide_true, decide_false, cond_true, cond_false, inB_cast, grd_real, join_real, Int.toNat_natCast, Option.elim_some, Bool.true_and, Bool.false_or, Bool.or_true, Bool.and_true, Bool.or_false, cond_tf, check24_eq h ht, ne0_t e]; rfl
theorem chains_law {l : List Int} (h2 : ∀ p ∈ t.2.2.1, List.length p = 2) : m_spoondriftlaw24_SchedChains (t, c, l, ()) = some (b1 true) := by
  have aw : m_spoondriftlaw24_awake () = some (b1 true) := rfl
  have key : ∀ (C : Cmb) [CmbOk C], M_spoondriftlaw24_SchedChains C (t, c, l, ()) = some (b1 true) := by
    intro C _
    unfold M_spoondriftlaw24_SchedChains
    dsimp only
    rw [join_real, great24_eq, Option.elim_some]
    cases hg : decide (t.1.length > 20) || decide (t.2.2.1.length > 40) with
    | true => rfl
    | false =>
      show (m_spoondriftkit_Great (c, ())).elim none _ = _
      rw [great_eq, Option.elim_some]
      cases hg2 : greatC c with
      | true => rfl
      | false =>
        simp only [cond_false, ofNat_c, gt_cast]
        by_cases hl : l.length > 140
        · rw [decide_eq_true hl]; rfl
        · rw [decide_eq_false hl]
          have hs := greatC_small hg2
          simp only [Bool.or_eq_false_iff, decide_eq_false_iff_not] at hg
          obtain ⟨m1, e1, l1, hl1, x1, y1⟩ := chain_both (t := t) hs (by omega) h2
          obtain ⟨a2, e2, x2, y2⟩ := shows_both (t := t) (l := l) hs (by omega) h2 (by omega)
          have sm := same24_eq (t := t) (by omega) (by omega)
          simp only [cond_false, own24_eq (t := t) (by omega) (by omega), own_eq hs, clone_eq (show l.length ≤ 1000000 by omega), x1, y1, x2, y2, Option.elim_some, join_real, equal_eq (show l1.length < 4294967296 by omega), equal_eq (show l.length < 4294967296 by omega), beq_self_eq_true, cond_true, sm, same_eq hs, aw]
  exact key realC
end Go.Canon
