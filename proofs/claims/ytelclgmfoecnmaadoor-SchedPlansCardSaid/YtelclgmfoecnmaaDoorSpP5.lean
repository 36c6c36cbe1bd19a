/- SchedPlans, part 5: the canonical machine and the runs of the program's functions on it. No conditions. -/
import Derived.Test.YtelclgmfoecnmaaDoorSpP4
set_option linter.unusedSectionVars false
set_option linter.unusedVariables false
set_option linter.unusedSimpArgs false
namespace Go.Canon
set_option linter.unusedVariables false
set_option linter.unusedSimpArgs false
open Go
abbrev Clk := List Int × Int × List (List Int) × Unit
abbrev Plan := Circ × List Int × Int × List (List Int × Bool) × Unit
def offN (n : Int) : Bool := decide (n < 1) || decide (n > 100)
def offW (n : Int) : Bool := decide (n < 0) || decide (n > 100)
/-- The error of a clock, but for its pairs. -/
def clkE (t : Clk) : Int := if t.1.length ≠ 14 then 2 else bif t.1.any offN || offW t.2.1 then 3 else 0
theorem clock1_eq {n : Int} : m_sched_clock_1 (n, ()) = some (b1 (offN n)) := by
  have key : ∀ (C : Cmb) [CmbOk C], M_sched_clock_1 C (n, ()) = some (b1 (offN n)) := by
    intro C _
    unfold M_sched_clock_1 offN
    simp only [join_real]
    show (bif decide (n < 1) then _ else _) = _
    cases decide (n < 1) <;> rfl
  exact key realC
theorem len_ne {n m : Nat} : (Int.ofNat n != Int.ofNat m) = decide (n ≠ m) := by
  by_cases h : n = m
  · subst h; simp
  · rw [decide_eq_true h, bne_iff_ne]
    intro e; exact h (Int.ofNat.inj e)
theorem clock_eq {t : Clk} : m_sched_clock (t, ()) = some (i1 (clkE t)) := by
  have key : ∀ (C : Cmb) [CmbOk C], M_sched_clock C (t, ()) = some (i1 (clkE t)) := by
    intro C _
    unfold M_sched_clock clkE
    dsimp only
    rw [len_ne]
    by_cases h : t.1.length ≠ 14
    · rw [if_pos h, decide_eq_true h]; rfl
    · rw [if_neg h, decide_eq_false h, cond_false, join_real, join_real]
      have h : t.1.length = 14 := Decidable.not_not.1 h
      refine (loop_any2 (l := t.1) (p := offN) (R := some (i1 3)) (E := some (i1 (bif offW t.2.1 then 3 else 0))) (n := fuelL) st1 (fuel_big (by omega)) (fun k hk again => ?_) fun again => ?_).trans ?_
      · simp only [cast0, ofNat_c, lt_cast, decide_true, decide_false, cond_true, cond_false, inB_cast, grd_real, join_real, Int.toNat_natCast, Option.elim_some, Bool.true_and, Bool.false_or, Bool.or_true, Bool.and_true, Bool.or_false, cond_tf, hk, getD_in hk, clock1_eq, wrap_nat (show k < 4294967296 by omega)]
        cases offN t.1[k] with
        | false => rfl
        | true =>
          show (bif geI (k : Int) 0 then _ else _) = _
          rw [show geI (k : Int) 0 = true from decide_eq_true (by omega)]; rfl
      · rw [show ltI (st1 t.1.length).1.1 (Int.ofNat t.1.length) = false from decide_eq_false (by show ¬ ((t.1.length : Int) < _); rw [ofNat_c]; omega), cond_false]
        unfold offW
        show (bif false then _ else bif (bif false then true else decide (t.2.1 < 0)) then _ else _) = _
        simp only [cond_false]
        cases decide (t.2.1 < 0) with
        | true => rfl
        | false =>
          show (bif decide (t.2.1 > 100) then _ else _) = some (i1 (bif decide (t.2.1 > 100) then 3 else 0))
          cases decide (t.2.1 > 100) <;> rfl
      · cases t.1.any offN <;> rfl
  exact key realC
/-- What the reference's Quiet hands back. -/
def quietS (t : Clk) : Clk := if clkE t = 0 then (t.1, t.2.1, [], ()) else ([], 0, [], ())
theorem quiet24_eq {t : Clk} : m_spoondriftref24_Quiet (t, ()) = some ((quietS t, clkE t, ()), ()) := by
  have key : ∀ (C : Cmb) [CmbOk C], M_spoondriftref24_Quiet C (t, ()) = some ((quietS t, clkE t, ()), ()) := by
    intro C _
    unfold M_spoondriftref24_Quiet quietS clkE
    dsimp only
    rw [len_ne]
    by_cases h : t.1.length ≠ 14
    · rw [if_pos h, decide_eq_true h]; rfl
    · rw [if_neg h, decide_eq_false h, cond_false]
      have h : t.1.length = 14 := Decidable.not_not.1 h
      refine (loop_any2 (l := t.1) (p := offN) (R := some ((([], 0, [], ()), 3, ()), ())) (E := some ((if (bif offW t.2.1 then 3 else 0 : Int) = 0 then (t.1, t.2.1, [], ()) else ([], 0, [], ()), (bif offW t.2.1 then 3 else 0), ()), ())) (n := fuelL) (fun k => (((k : Int), ()), ((), (0 : Int), (), ()), ())) (fuel_big (by omega)) (fun k hk again => ?_) fun again => ?_).trans ?_
      · simp only [cast0, ofNat_c, lt_cast, decide_true, decide_false, cond_true, cond_false, inB_cast, grd_real, join_real, Int.toNat_natCast, Option.elim_some, Bool.true_and, Bool.false_or, Bool.or_true, Bool.and_true, Bool.or_false, cond_tf, hk, getD_in hk, wrap_nat (show k < 4294967296 by omega)]
        unfold offN
        show (bif decide (t.1[k] < 1) then _ else _) = _
        cases decide (t.1[k] < 1) with
        | true => rfl
        | false =>
          show (bif decide (t.1[k] > 100) then _ else _) = (bif decide (t.1[k] > 100) then _ else _)
          cases decide (t.1[k] > 100) <;> rfl
      · simp only [ofNat_c, lt_cast, decide_true, decide_false, cond_true, cond_false, inB_cast, grd_real, join_real, Int.toNat_natCast, Option.elim_some, Bool.true_and, Bool.false_or, Bool.or_true, Bool.and_true, Bool.or_false, cond_tf, Nat.lt_irrefl]
        unfold offW
        show (bif decide (t.2.1 < 0) then _ else _) = _
        cases h1 : decide (t.2.1 < 0) with
        | true => rfl
        | false =>
          show (bif decide (t.2.1 > 100) then _ else _) = _
          cases h2 : decide (t.2.1 > 100) with
          | true => rfl
          | false =>
            show (bif leN ((0 + t.1.length) * 8) roomB then _ else _) = _
            rw [h, show leN ((0 + 14) * 8) roomB = true from rfl]; rfl
      · cases t.1.any offN <;> cases offW t.2.1 <;> rfl
  exact key realC
def prB (p : List Int) (w : Int) : Bool := (decide (p.getD 0 0 < 0) || decide (p.getD 0 0 ≥ w)) || (decide (p.getD 1 0 < 0) || decide (p.getD 1 0 ≥ w))
def prE (p : List Int) (w : Int) : Int := bif prB p w then 1 else bif p.getD 0 0 == p.getD 1 0 then 4 else 0
def prsE (l : List (List Int)) (w : Int) : Int := if l.findIdx (fun p => prE p w != 0) < l.length then prE (l.getD (l.findIdx (fun p => prE p w != 0)) []) w else 0
/-- The error of a clock with a circuit. -/
def chk24 (t : Clk) (c : Circ) : Int := if clkE t ≠ 0 then clkE t else if chk c ≠ 0 then chk c else prsE t.2.2.1 c.1
theorem toN0 : Int.toNat 0 = 0 := rfl
theorem ltb0 : ltB 0 2 = true := rfl
theorem ltb1 : ltB 1 2 = true := rfl
theorem check24_eq {t : Clk} {c : Circ} (h : Small c) (ht : t.2.2.1.length ≤ 40) : m_spoondriftref24_Check (t, c, ()) = some (i1 (chk24 t c)) := by
  have key : ∀ (C : Cmb) [CmbOk C], M_spoondriftref24_Check C (t, c, ()) = some (i1 (chk24 t c)) := by
    intro C _
    unfold M_spoondriftref24_Check chk24
    dsimp only
    rw [quiet24_eq, Option.elim_some]
    by_cases h0 : clkE t ≠ 0
    · rw [if_pos h0]
      show (bif (clkE t != 0) then _ else _) = _
      rw [show (clkE t != 0) = true from by simpa using h0]; rfl
    rw [if_neg h0]
    show (bif (clkE t != 0) then _ else _) = _
    rw [show (clkE t != 0) = false from by simpa using h0, cond_false, ref_check h, Option.elim_some]
    by_cases h1 : chk c ≠ 0
    · rw [if_pos h1]
      show (bif (chk c != 0) then _ else _) = _
      rw [show (chk c != 0) = true from by simpa using h1]; rfl
    rw [if_neg h1]
    show (bif (chk c != 0) then _ else _) = _
    rw [show (chk c != 0) = false from by simpa using h1, cond_false]
    refine (loop_find2 (l := t.2.2.1) (p := fun p => prE p c.1 != 0) (R := fun k => some (i1 (prE (t.2.2.1.getD k []) c.1))) (E := some (i1 0)) (n := fuelL) st1 (fuel_big (by omega)) (fun k hk again => ?_) fun again => ?_).trans ?_
    · simp only [cast0, ofNat_c, lt_cast, decide_true, decide_false, cond_true, cond_false, inB_cast, grd_real, join_real, Int.toNat_natCast, Option.elim_some, Bool.true_and, Bool.false_or, Bool.or_true, Bool.and_true, Bool.or_false, cond_tf, hk, getD_in hk, wrap_nat (show k < 4294967296 by omega), toN0, ltb0, ltb1]; simp only [ltI, geI]
      unfold prE prB
      generalize t.2.2.1[k] = p
      cases decide (p.getD 0 0 < 0) <;> cases decide (p.getD 0 0 ≥ c.1) <;> cases decide (p.getD 1 0 < 0) <;> cases decide (p.getD 1 0 ≥ c.1) <;> cases p.getD 0 0 == p.getD 1 0 <;> rfl
    · simp only [ofNat_c, lt_cast, decide_true, decide_false, cond_true, cond_false, inB_cast, grd_real, join_real, Int.toNat_natCast, Option.elim_some, Bool.true_and, Bool.false_or, Bool.or_true, Bool.and_true, Bool.or_false, cond_tf, Nat.lt_irrefl]; rfl
    · unfold prsE
      split <;> rfl
  exact key realC
abbrev nIns (key : List Int) (x : Bool) (m : List (List Int × Bool)) : List (List Int × Bool) := insM (k := .arr 2 (.int .i64)) (v := .bool) key x m
abbrev nAt (key : List Int) (m : List (List Int × Bool)) : Bool := atM (k := .arr 2 (.int .i64)) (v := .bool) key false m
abbrev nPos (key : List Int) (m : List (List Int × Bool)) : Nat := posM (k := .arr 2 (.int .i64)) (v := .bool) key m
theorem put_n {key : List Int} {m : List (List Int × Bool)} : List.modify (nIns key (nAt key m) m) (nPos key m) (fun (e : List Int × Bool) => (e.1, true)) = nIns key true m := put_ins
theorem pos_n {key : List Int} {x : Bool} {m : List (List Int × Bool)} : decide (nPos key m < List.length (nIns key x m)) = true := decide_eq_true pos_in
/-- Which pairs disturb, as a map. -/
def nzS (m : List (List Int × Bool)) (p : List Int) : List (List Int × Bool) := insM (k := .arr 2 (.int .i64)) (v := .bool) [p.getD 1 0, p.getD 0 0] true (insM (k := .arr 2 (.int .i64)) (v := .bool) p true m)
def planS (t : Clk) (c : Circ) : Plan := (c, t.1, t.2.1, t.2.2.1.foldl nzS [], ())
theorem min_eq {a b : Int} : List.foldl mn2 a [b] = if b < a then b else a := rfl
theorem max_eq {a b : Int} : List.foldl mx2 a [b] = if b > a then b else a := rfl
theorem min_lt {a b : Int} : decide ((if b < a then b else a) < 0) = (decide (a < 0) || decide (b < 0)) := by
  split <;> (rw [Bool.eq_iff_iff]; simp; omega)
theorem max_ge {a b w : Int} : decide ((if b > a then b else a) ≥ w) = (decide (a ≥ w) || decide (b ≥ w)) := by
  split <;> (rw [Bool.eq_iff_iff]; simp; omega)
theorem opened_eq {t : Clk} {c : Circ} (h : Small c) (ht : t.2.2.1.length ≤ 40) : m_sched_opened (t, c, ()) = some ((if chk24 t c = 0 then some (planS t c) else none, chk24 t c, ()), ()) := by
  have key : ∀ (C : Cmb) [CmbOk C], M_sched_opened C (t, c, ()) = some ((if chk24 t c = 0 then some (planS t c) else none, chk24 t c, ()), ()) := by
    intro C _
    unfold M_sched_opened
    dsimp only
    rw [clock_eq, Option.elim_some]
    by_cases h0 : clkE t ≠ 0
    · have e : chk24 t c = clkE t := if_pos h0
      rw [e, if_neg h0]
      show (bif (clkE t != 0) then _ else _) = _
      rw [show (clkE t != 0) = true from by simpa using h0]; rfl
    show (bif (clkE t != 0) then _ else _) = _
    rw [show (clkE t != 0) = false from by simpa using h0, cond_false, circ_check h, Option.elim_some]
    by_cases h1 : chk c ≠ 0
    · have e : chk24 t c = chk c := by unfold chk24; rw [if_neg h0, if_pos h1]
      rw [e, if_neg h1]
      show (bif (chk c != 0) then _ else _) = _
      rw [show (chk c != 0) = true from by simpa using h1]; rfl
    show (bif (chk c != 0) then _ else _) = _
    rw [show (chk c != 0) = false from by simpa using h1, cond_false, grd_real, cond_true]
    have hc : t.1.length = 14 := by
      have h0 := Decidable.not_not.1 h0
      unfold clkE at h0
      split at h0
      · cases h0
      · rename_i hh; exact Decidable.not_not.1 hh
    have e : chk24 t c = prsE t.2.2.1 c.1 := by unfold chk24; rw [if_neg h0, if_neg h1]
    rw [e]
    refine (loop_find2 (l := t.2.2.1) (p := fun p => prE p c.1 != 0) (R := fun k => some ((none, prE (t.2.2.1.getD k []) c.1, ()), ())) (E := some ((some (planS t c), 0, ()), ())) (n := fuelL) (fun k => (((k : Int), ()), (t.2.2.1.take k).foldl nzS [], ())) (fuel_big (by omega)) (fun k hk again => ?_) fun again => ?_).trans ?_
    · have et : (t.2.2.1.take (k + 1)).foldl nzS [] = nzS ((t.2.2.1.take k).foldl nzS []) t.2.2.1[k] := by
        rw [List.take_add_one, List.getElem?_eq_getElem hk, List.foldl_append]; rfl
      rw [et]
      generalize (t.2.2.1.take k).foldl nzS [] = m
      simp only [cast0, ofNat_c, lt_cast, decide_true, decide_false, cond_true, cond_false, inB_cast, grd_real, join_real, Int.toNat_natCast, Option.elim_some, Bool.true_and, Bool.false_or, Bool.or_true, Bool.and_true, Bool.or_false, cond_tf, hk, getD_in hk, wrap_nat (show k < 4294967296 by omega), toN0, ltb0, ltb1, insMx, atMx, posMx, put_n, pos_n, min_eq, max_eq]; simp only [ltI, geI, min_lt, max_ge]
      unfold prE prB nzS
      generalize t.2.2.1[k] = p
      cases decide (p.getD 0 0 < 0) <;> cases decide (p.getD 0 0 ≥ c.1) <;> cases decide (p.getD 1 0 < 0) <;> cases decide (p.getD 1 0 ≥ c.1) <;> cases p.getD 0 0 == p.getD 1 0 <;> rfl
    · simp only [ofNat_c, lt_cast, decide_true, decide_false, cond_true, cond_false, inB_cast, grd_real, join_real, Int.toNat_natCast, Option.elim_some, Bool.true_and, Bool.false_or, Bool.or_true, Bool.and_true, Bool.or_false, cond_tf, Nat.lt_irrefl, List.take_length]
      have ec : ∀ z : List Int, z.length = 14 → cpyL z 0 (min t.1.length (14 - 0)) t.1 = t.1 := fun z hz => by
        unfold cpyL
        rw [hc, List.take_zero, List.nil_append, show min 14 (14 - 0) = 14 from rfl, List.take_of_length_le (by omega), List.drop_of_length_le (by omega), List.append_nil]
      unfold planS
      exact congrArg (fun q => some ((some (c, q, t.2.1, t.2.2.1.foldl nzS [], ()), (0 : Int), ()), ())) (ec _ rfl)
    · unfold prsE
      split
      · rename_i hh
        have hp := List.findIdx_getElem (w := hh)
        rw [getD_in hh]
        rw [if_neg (by simpa using hp)]
      · rfl
  exact key realC
end Go.Canon
namespace Go.Canon
set_option linter.unusedVariables false
set_option linter.unusedSimpArgs false
open Go
/-- A right clock and a right circuit. -/
structure Ok (t : Clk) (c : Circ) : Prop where
  sm : Small c
  n40 : t.2.2.1.length ≤ 40
  e : chk24 t c = 0
  two : ∀ p ∈ t.2.2.1, List.length p = 2
variable {t : Clk} {c : Circ}
theorem Ok.clk (H : Ok t c) : clkE t = 0 := by
  have := H.e
  unfold chk24 at this
  by_cases h : clkE t = 0
  · exact h
  · rw [if_pos h] at this; exact this
theorem Ok.chk (H : Ok t c) : chk c = 0 := by
  have := H.e
  unfold chk24 at this
  rw [if_neg (by simpa using H.clk)] at this
  by_cases h : Go.Canon.chk c = 0
  · exact h
  · rw [if_pos h] at this; exact this
theorem Ok.len14 (H : Ok t c) : t.1.length = 14 := by
  have h0 := H.clk
  unfold clkE at h0
  split at h0
  · cases h0
  · rename_i hh; exact Decidable.not_not.1 hh
theorem Ok.bnd (H : Ok t c) : (∀ n ∈ t.1, 1 ≤ n ∧ n ≤ 100) ∧ 0 ≤ t.2.1 ∧ t.2.1 ≤ 100 := by
  have h0 := H.clk
  unfold clkE at h0
  rw [if_neg (by simpa using H.len14)] at h0
  cases h : t.1.any offN || offW t.2.1 with
  | true => rw [h] at h0; cases h0
  | false =>
    simp only [Bool.or_eq_false_iff, List.any_eq_false] at h
    refine ⟨fun n hn => ?_, ?_⟩
    · have := h.1 n hn
      simp only [offN, Bool.or_eq_true, decide_eq_true_eq, not_or] at this
      omega
    · have := h.2
      simp only [offW, Bool.or_eq_false_iff, decide_eq_false_iff_not] at this
      omega
theorem chk_parts {c : Circ} (h0 : chk c = 0) : (1 ≤ c.1 ∧ c.1 ≤ 12 ∧ 0 ≤ c.2.1 ∧ c.2.1 ≤ 8) ∧ c.2.2.1.length ≤ 120 ∧ gatesE c.2.2.1 c.1 c.2.1 = 0 := by
  unfold chk at h0
  cases hb : (decide (c.1 < 1) || decide (c.1 > 12)) || (decide (c.2.1 < 0) || decide (c.2.1 > 8)) with
  | true => rw [hb, cond_true] at h0; cases h0
  | false =>
    rw [hb, cond_false] at h0
    obtain ⟨a, b⟩ := bounds_of hb
    split at h0
    · cases h0
    · exact ⟨⟨a.1, a.2, b.1, b.2⟩, by omega, h0⟩
theorem Ok.n120 (H : Ok t c) : c.2.2.1.length ≤ 120 := by
  exact (chk_parts H.chk).2.1
theorem chk_gate {c : Circ} (h0 : chk c = 0) {g : Gate} (hg : g ∈ c.2.2.1) : ckG g c.1 c.2.1 = 0 := by
  have h1 := (chk_parts h0).2.2
  unfold gatesE at h1
  split at h1
  · rename_i hh
    have hp := List.findIdx_getElem (w := hh)
    rw [getD_in hh] at h1
    rw [h1] at hp
    cases hp
  · rename_i hh
    have hn : c.2.2.1.any (fun g => ckG g c.1 c.2.1 != 0) = false := by
      cases hq : c.2.2.1.any (fun g => ckG g c.1 c.2.1 != 0) with
      | false => rfl
      | true => exact (hh (find_any.2 hq)).elim
    have := List.any_eq_false.1 hn g hg
    simpa using this
theorem ckG_kind {g : Gate} {w b : Int} (h : ckG g w b = 0) : 1 ≤ g.1 ∧ g.1 ≤ 14 := by
  unfold ckG at h
  split at h
  · cases h
  · rename_i h0
    unfold arS at h0
    split at h0
    · omega
    · split at h0
      · omega
      · split at h0
        · assumption
        · exact (h0 rfl).elim
/-- How long a gate is. -/
def lenG (t : Clk) (g : Gate) : Int := t.1.getD (g.1 - 1).toNat 0
def lateG (t : Clk) (g h : Gate) : Int := bif g.1 == 13 && h.2.2.2.1 == IntKind.i64.wrap (g.2.2.1 + 1) then t.2.1 else 0
/-- The gate with a number. -/
def gt (c : Circ) (i : Nat) : Gate := c.2.2.1.getD i (0, [], 0, 0, ())
theorem gt_mem {i : Nat} (hi : i < c.2.2.1.length) : gt c i ∈ c.2.2.1 := by
  unfold gt; rw [getD_in hi]; exact List.getElem_mem hi
theorem Ok.kind (H : Ok t c) {i : Nat} (hi : i < c.2.2.1.length) : 1 ≤ (gt c i).1 ∧ (gt c i).1 ≤ 14 := ckG_kind (chk_gate H.chk (gt_mem hi))
theorem Ok.lenB (H : Ok t c) {i : Nat} (hi : i < c.2.2.1.length) : 1 ≤ lenG t (gt c i) ∧ lenG t (gt c i) ≤ 100 := by
  obtain ⟨k1, k2⟩ := H.kind hi
  unfold lenG
  have hk : ((gt c i).1 - 1).toNat < t.1.length := by rw [H.len14]; omega
  rw [getD_in hk]
  exact H.bnd.1 _ (List.getElem_mem hk)
theorem Ok.wl (H : Ok t c) {i : Nat} (hi : i < c.2.2.1.length) : (gt c i).2.1.length < 4294967296 := Nat.lt_of_le_of_lt (H.sm.2 _ (gt_mem hi)) (by decide)
theorem Ok.lateB (H : Ok t c) {g h : Gate} : 0 ≤ lateG t g h ∧ lateG t g h ≤ 100 := by
  unfold lateG
  cases g.1 == 13 && h.2.2.2.1 == IntKind.i64.wrap (g.2.2.1 + 1) with
  | true => exact H.bnd.2
  | false => exact ⟨by simp, by simp⟩
theorem gt_eq {i : Nat} : c.2.2.1.getD i (0, [], 0, 0, ()) = gt c i := rfl
theorem p_length (H : Ok t c) {i : Nat} (hi : i < c.2.2.1.length) {m : List (List Int × Bool)} : m_sched_plan_length ((c, t.1, t.2.1, m, ()), (i : Int), ()) = some (i1 (lenG t (gt c i))) := by
  obtain ⟨k1, k2⟩ := H.kind hi
  have key : ∀ (C : Cmb) [CmbOk C], M_sched_plan_length C ((c, t.1, t.2.1, m, ()), (i : Int), ()) = some (i1 (lenG t (gt c i))) := by
    intro C _
    unfold M_sched_plan_length
    simp only [ofNat_c, lt_cast, decide_true, decide_false, cond_true, cond_false, inB_cast, grd_real, join_real, Int.toNat_natCast, Option.elim_some, Bool.true_and, Bool.false_or, Bool.or_true, Bool.and_true, Bool.or_false, cond_tf, hi, gt_eq]
    rw [wrap_in (by omega) (by omega), inB_z (by omega) (by omega)]
    rfl
  exact key realC
theorem p_holds (H : Ok t c) {i j : Nat} (hi : i < c.2.2.1.length) (hj : j < c.2.2.1.length) {m : List (List Int × Bool)} : m_sched_plan_holds ((c, t.1, t.2.1, m, ()), (j : Int), (i : Int), ()) = some (b1 (meetB (gt c j) (gt c i))) := by
  have key : ∀ (C : Cmb) [CmbOk C], M_sched_plan_holds C ((c, t.1, t.2.1, m, ()), (j : Int), (i : Int), ()) = some (b1 (meetB (gt c j) (gt c i))) := by
    intro C _
    unfold M_sched_plan_holds
    simp only [ofNat_c, lt_cast, decide_true, decide_false, cond_true, cond_false, inB_cast, grd_real, join_real, Int.toNat_natCast, Option.elim_some, Bool.true_and, Bool.false_or, Bool.or_true, Bool.and_true, Bool.or_false, cond_tf, hi, hj, gt_eq, meet_eq (H.wl hj) (H.wl hi)]
  exact key realC
theorem p_late (H : Ok t c) {i j : Nat} (hi : i < c.2.2.1.length) (hj : j < c.2.2.1.length) {m : List (List Int × Bool)} : m_sched_plan_late ((c, t.1, t.2.1, m, ()), (j : Int), (i : Int), ()) = some (i1 (lateG t (gt c j) (gt c i))) := by
  have key : ∀ (C : Cmb) [CmbOk C], M_sched_plan_late C ((c, t.1, t.2.1, m, ()), (j : Int), (i : Int), ()) = some (i1 (lateG t (gt c j) (gt c i))) := by
    intro C _
    unfold M_sched_plan_late lateG
    simp only [ofNat_c, lt_cast, decide_true, decide_false, cond_true, cond_false, inB_cast, grd_real, join_real, Int.toNat_natCast, Option.elim_some, Bool.true_and, Bool.false_or, Bool.or_true, Bool.and_true, Bool.or_false, cond_tf, hi, hj, gt_eq, reads_eq, show ((13 : Nat) : Int) = 13 from rfl]
    cases (gt c j).1 == 13 with
    | false => rfl
    | true =>
      simp only [cond_true, Bool.true_and]
      cases (gt c i).2.2.2.1 == IntKind.i64.wrap ((gt c j).2.2.1 + 1) <;> rfl
  exact key realC
end Go.Canon
namespace Go.Canon
set_option linter.unusedVariables false
set_option linter.unusedSimpArgs false
open Go
variable {t : Clk} {c : Circ}
/-- Is a pair of wires noisy? -/
def noisyB (t : Clk) (a b : Int) : Bool := t.2.2.1.any fun p => (a == p.getD 0 0 && b == p.getD 1 0) || (a == p.getD 1 0 && b == p.getD 0 0)
/-- Do two gates disturb one another? -/
def distB (t : Clk) (g h : Gate) : Bool := !(decide (g.2.1.length < 2) || decide (h.2.1.length < 2) || meetB g h) && g.2.1.any fun a => h.2.1.any fun b => noisyB t a b
theorem pair_eq {a b x y : Int} : ([a, b] == [x, y]) = (a == x && b == y) := by
  rw [Bool.eq_iff_iff]; simp
theorem two_eq {p : List Int} (h : p.length = 2) : p = [p.getD 0 0, p.getD 1 0] := by
  match p, h with
  | [x, y], _ => rfl
theorem at_fold {a b : Int} : ∀ {l : List (List Int)} {m : List (List Int × Bool)}, (∀ p ∈ l, List.length p = 2) → nAt [a, b] (l.foldl nzS m) = (nAt [a, b] m || l.any fun p => (a == p.getD 0 0 && b == p.getD 1 0) || (a == p.getD 1 0 && b == p.getD 0 0))
  | [], m, _ => by simp
  | p :: l, m, h => by
    rw [List.foldl_cons, at_fold (fun q hq => h q (List.mem_cons_of_mem _ hq)), List.any_cons]
    have hp := two_eq (h p List.mem_cons_self)
    have e : nAt [a, b] (nzS m p) = (((a == p.getD 0 0 && b == p.getD 1 0) || (a == p.getD 1 0 && b == p.getD 0 0)) || nAt [a, b] m) := by
      unfold nAt nzS
      rw [at_ins_list, at_ins_list, pair_eq]
      have e2 : ([a, b] == p) = (a == p.getD 0 0 && b == p.getD 1 0) := by
        rw [hp, pair_eq]; rfl
      rw [e2]
      cases (a == p.getD 1 0 && b == p.getD 0 0) <;> cases (a == p.getD 0 0 && b == p.getD 1 0) <;> simp
    rw [e]
    cases nAt [a, b] m <;> cases ((a == p.getD 0 0 && b == p.getD 1 0) || (a == p.getD 1 0 && b == p.getD 0 0)) <;> simp
theorem Ok.noisy (H : Ok t c) {a b : Int} : nAt [a, b] (t.2.2.1.foldl nzS []) = noisyB t a b := by
  rw [at_fold H.two]; rfl
theorem any_congr2 {α : Type} {l : List α} {f g : α → Bool} (h : ∀ x ∈ l, f x = g x) : l.any f = l.any g := by
  induction l with
  | nil => rfl
  | cons x l ih => rw [List.any_cons, List.any_cons, h x List.mem_cons_self, ih fun y hy => h y (List.mem_cons_of_mem _ hy)]
/-- The map of pairs says this of wires. -/
def saysN (m : List (List Int × Bool)) (f : Int → Int → Bool) : Prop := ∀ a b, nAt [a, b] m = f a b
def distM (f : Int → Int → Bool) (g h : Gate) : Bool := !(decide (g.2.1.length < 2) || decide (h.2.1.length < 2) || meetB g h) && g.2.1.any fun a => h.2.1.any fun b => f a b
theorem p_disturb (H : Ok t c) {i j : Nat} (hi : i < c.2.2.1.length) (hj : j < c.2.2.1.length) {m : List (List Int × Bool)} {f : Int → Int → Bool} (hm : saysN m f) : m_sched_plan_disturb ((c, t.1, t.2.1, m, ()), (i : Int), (j : Int), ()) = some (b1 (distM f (gt c i) (gt c j))) := by
  have key : ∀ (C : Cmb) [CmbOk C], M_sched_plan_disturb C ((c, t.1, t.2.1, m, ()), (i : Int), (j : Int), ()) = some (b1 (distM f (gt c i) (gt c j))) := by
    intro C _
    unfold M_sched_plan_disturb distM
    have hwi := H.wl hi
    have hwj := H.wl hj
    simp only [ofNat_c, lt_cast, decide_true, decide_false, cond_true, cond_false, inB_cast, grd_real, join_real, Int.toNat_natCast, Option.elim_some, Bool.true_and, Bool.false_or, Bool.or_true, Bool.and_true, Bool.or_false, cond_tf, hi, hj, gt_eq, meet_eq hwi hwj]
    cases decide ((gt c i).2.1.length < 2) with
    | true => rfl
    | false =>
      cases decide ((gt c j).2.1.length < 2) with
      | true => rfl
      | false =>
        cases meetB (gt c i) (gt c j) with
        | true => rfl
        | false =>
          simp only [cond_false, Bool.or_false, Bool.not_false, Bool.true_and]
          refine (loop_any2 (l := (gt c i).2.1) (p := fun a => (gt c j).2.1.any fun b => f a b) (R := some (b1 true)) (E := some (b1 false)) (n := fuelL) st1 (fuel_big hwi) (fun k hk again => ?_) fun again => ?_).trans ?_
          · simp only [cast0, ofNat_c, lt_cast, decide_true, decide_false, cond_true, cond_false, inB_cast, grd_real, join_real, Int.toNat_natCast, Option.elim_some, Bool.true_and, Bool.false_or, Bool.or_true, Bool.and_true, Bool.or_false, cond_tf, hk, getD_in hk, wrap_nat (show k < 4294967296 by omega)]
            refine (loop_any2 (l := (gt c j).2.1) (p := fun b => f (gt c i).2.1[k] b) (R := some (b1 true)) (E := again (st1 (k + 1))) (n := fuelL) st1 (fuel_big hwj) (fun q hq again2 => ?_) fun again2 => ?_).trans rfl
            · simp only [cast0, ofNat_c, lt_cast, decide_true, decide_false, cond_true, cond_false, inB_cast, grd_real, join_real, Int.toNat_natCast, Option.elim_some, Bool.true_and, Bool.false_or, Bool.or_true, Bool.and_true, Bool.or_false, cond_tf, hq, getD_in hq, wrap_nat (show q < 4294967296 by omega)]
              show (bif nAt [(gt c i).2.1[k], (gt c j).2.1[q]] m then _ else _) = _
              rw [hm]
            · simp only [ofNat_c, lt_cast, decide_true, decide_false, cond_true, cond_false, inB_cast, grd_real, join_real, Int.toNat_natCast, Option.elim_some, Bool.true_and, Bool.false_or, Bool.or_true, Bool.and_true, Bool.or_false, cond_tf, Nat.lt_irrefl]
          · simp only [ofNat_c, lt_cast, decide_true, decide_false, cond_true, cond_false, inB_cast, grd_real, join_real, Int.toNat_natCast, Option.elim_some, Bool.true_and, Bool.false_or, Bool.or_true, Bool.and_true, Bool.or_false, cond_tf, Nat.lt_irrefl]
          · cases (gt c i).2.1.any (fun a => (gt c j).2.1.any fun b => f a b) <;> rfl
  exact key realC
theorem p_on (H : Ok t c) {i : Nat} (hi : i < c.2.2.1.length) {s : Int} (hs : -1000000000 ≤ s ∧ s ≤ 1000000000) {m : List (List Int × Bool)} : m_sched_plan_on ((c, t.1, t.2.1, m, ()), (i : Int), s, ()) = some (((s, s + lenG t (gt c i), ()), ()), ()) := by
  have hb := H.lenB hi
  show (m_sched_plan_length ((c, t.1, t.2.1, m, ()), (i : Int), ())).elim none _ = _
  rw [p_length H hi]
  show some (((s, IntKind.i64.wrap (s + lenG t (gt c i)), ()), ()), ()) = _
  rw [wrap_in (by omega) (by omega)]
/-- Do two spans overlap? -/
def overB (a l b k : Int) : Bool := decide (a < b + k) && decide (b < a + l)
theorem p_over {a l b k : Int} (hl : 1 ≤ l) (hk : 1 ≤ k) : m_sched_span_overlaps ((a, a + l, ()), (b, b + k, ()), ()) = some (b1 (overB a l b k)) := by
  have key : ∀ (C : Cmb) [CmbOk C], M_sched_span_overlaps C ((a, a + l, ()), (b, b + k, ()), ()) = some (b1 (overB a l b k)) := by
    intro C _
    unfold M_sched_span_overlaps overB
    simp only [join_real, beq_dec, ltI]
    by_cases h1 : a = b
    · subst h1
      by_cases h2 : a + l = a + k
      · have : l = k := by omega
        subst this
        rw [decide_eq_true (show a < a + l by omega)]
        simp
      · simp [h2, show a < a + k by omega, show a < a + l by omega]
    · rw [decide_eq_false h1]
      simp only [Bool.false_and]
      cases decide (a < b + k) <;> cases decide (b < a + l) <;> rfl
  exact key realC
theorem r_long (H : Ok t c) {i : Nat} (hi : i < c.2.2.1.length) {q : List (List Int)} : m_spoondriftref24_long ((t.1, t.2.1, q, ()), gt c i, ()) = some (i1 (lenG t (gt c i))) := by
  obtain ⟨k1, k2⟩ := H.kind hi
  have key : ∀ (C : Cmb) [CmbOk C], M_spoondriftref24_long C ((t.1, t.2.1, q, ()), gt c i, ()) = some (i1 (lenG t (gt c i))) := by
    intro C _
    unfold M_spoondriftref24_long
    simp only [grd_real, show (Int.ofNat 1 : Int) = 1 from rfl]
    rw [wrap_in (by omega) (by omega), inB_z (by omega) (by rw [H.len14]; omega)]
    rfl
  exact key realC
def aftS (t : Clk) (g h : Gate) : Int := bif meetB g h then lenG t g + lateG t g h else -1
theorem r_after (H : Ok t c) {i j : Nat} (hi : i < c.2.2.1.length) (hj : j < c.2.2.1.length) {q : List (List Int)} : m_spoondriftref24_after ((t.1, t.2.1, q, ()), gt c j, gt c i, ()) = some (i1 (aftS t (gt c j) (gt c i))) := by
  have hb := H.lenB hj
  have hw := H.bnd.2
  have key : ∀ (C : Cmb) [CmbOk C], M_spoondriftref24_after C ((t.1, t.2.1, q, ()), gt c j, gt c i, ()) = some (i1 (aftS t (gt c j) (gt c i))) := by
    intro C _
    unfold M_spoondriftref24_after aftS lateG
    simp only [meet04_eq (H.wl hj) (H.wl hi), Option.elim_some, r_long H hj, join_real]
    cases meetB (gt c j) (gt c i) with
    | false => rfl
    | true =>
      simp only [Bool.not_true, cond_false, cond_true]
      rw [wrap_in (a := lenG t (gt c j) + t.2.1) (by omega) (by omega)]
      show (bif (gt c j).1 == 13 then _ else _) = _
      cases (gt c j).1 == 13 with
      | false => simp
      | true =>
        show (bif (gt c i).2.2.2.1 == IntKind.i64.wrap ((gt c j).2.2.1 + 1) then _ else _) = _
        cases (gt c i).2.2.2.1 == IntKind.i64.wrap ((gt c j).2.2.1 + 1) <;> simp
  exact key realC
end Go.Canon
namespace Go.Canon
set_option linter.unusedVariables false
set_option linter.unusedSimpArgs false
open Go
variable {t : Clk} {c : Circ}
theorem r_over {a l b k : Int} (ha : -1000000000 ≤ a ∧ a ≤ 1000000000) (hb : -1000000000 ≤ b ∧ b ≤ 1000000000) (hl : 1 ≤ l ∧ l ≤ 100) (hk : 1 ≤ k ∧ k ≤ 100) : m_spoondriftref24_overlap (a, l, b, k, ()) = some (b1 (overB a l b k)) := by
  have key : ∀ (C : Cmb) [CmbOk C], M_spoondriftref24_overlap C (a, l, b, k, ()) = some (b1 (overB a l b k)) := by
    intro C _
    unfold M_spoondriftref24_overlap overB
    simp only [join_real]
    rw [wrap_in (a := b + k) (by omega) (by omega), wrap_in (a := a + l) (by omega) (by omega)]
    show (bif decide (a < b + k) then _ else _) = _
    cases decide (a < b + k) <;> rfl
  exact key realC
theorem any_or {α : Type} {l : List α} {f g : α → Bool} : (l.any fun x => f x || g x) = (l.any f || l.any g) := by
  induction l with
  | nil => rfl
  | cons x l ih =>
    simp only [List.any_cons, ih]
    cases f x <;> cases g x <;> cases l.any f <;> cases l.any g <;> rfl
theorem any_swap {α β : Type} {l : List α} {m : List β} {f : α → β → Bool} : (l.any fun a => m.any fun b => f a b) = m.any fun b => l.any fun a => f a b := by
  rw [Bool.eq_iff_iff]
  simp only [List.any_eq_true]
  exact ⟨fun ⟨a, h1, b, h2, h3⟩ => ⟨b, h2, a, h1, h3⟩, fun ⟨b, h1, a, h2, h3⟩ => ⟨a, h2, b, h1, h3⟩⟩
theorem any_and {l m : List Int} {x y : Int} : (l.any fun a => m.any fun b => a == x && b == y) = (l.contains x && m.contains y) := by
  rw [Bool.eq_iff_iff]
  simp only [List.any_eq_true, Bool.and_eq_true, beq_iff_eq, List.contains_eq_mem, decide_eq_true_eq]
  exact ⟨fun ⟨a, h1, b, h2, e1, e2⟩ => ⟨e1 ▸ h1, e2 ▸ h2⟩, fun ⟨h1, h2⟩ => ⟨x, h1, y, h2, rfl, rfl⟩⟩
/-- Two gates disturb one another: told pair by pair. -/
theorem dist_pairs {g h : Gate} : (g.2.1.any fun a => h.2.1.any fun b => noisyB t a b) = t.2.2.1.any fun p => (g.2.1.contains (p.getD 0 0) && h.2.1.contains (p.getD 1 0)) || (g.2.1.contains (p.getD 1 0) && h.2.1.contains (p.getD 0 0)) := by
  unfold noisyB
  have e1 : (fun a => h.2.1.any fun b => t.2.2.1.any fun p => (a == p.getD 0 0 && b == p.getD 1 0) || (a == p.getD 1 0 && b == p.getD 0 0)) = fun a => t.2.2.1.any fun p => h.2.1.any fun b => (a == p.getD 0 0 && b == p.getD 1 0) || (a == p.getD 1 0 && b == p.getD 0 0) := by
    funext a; exact any_swap
  rw [e1, any_swap]
  refine any_congr2 fun p _ => ?_
  have e2 : (fun a => h.2.1.any fun b => (a == p.getD 0 0 && b == p.getD 1 0) || (a == p.getD 1 0 && b == p.getD 0 0)) = fun a => (h.2.1.any fun b => a == p.getD 0 0 && b == p.getD 1 0) || (h.2.1.any fun b => a == p.getD 1 0 && b == p.getD 0 0) := by
    funext a; exact any_or
  rw [e2, any_or, any_and, any_and]
theorem r_disturb (H : Ok t c) {i j : Nat} (hi : i < c.2.2.1.length) (hj : j < c.2.2.1.length) : m_spoondriftref24_disturb ((t.1, t.2.1, t.2.2.1, ()), gt c i, gt c j, ()) = some (b1 (distB t (gt c i) (gt c j))) := by
  have key : ∀ (C : Cmb) [CmbOk C], M_spoondriftref24_disturb C ((t.1, t.2.1, t.2.2.1, ()), gt c i, gt c j, ()) = some (b1 (distB t (gt c i) (gt c j))) := by
    intro C _
    unfold M_spoondriftref24_disturb distB
    have hwi := H.wl hi
    have hwj := H.wl hj
    rw [dist_pairs]
    generalize gt c i = g at hwi ⊢
    generalize gt c j = h at hwj ⊢
    simp only [ofNat_c, lt_cast, decide_true, decide_false, cond_true, cond_false, inB_cast, grd_real, join_real, Int.toNat_natCast, Option.elim_some, Bool.true_and, Bool.false_or, Bool.or_true, Bool.and_true, Bool.or_false, cond_tf, meet04_eq hwi hwj]
    cases decide (g.2.1.length < 2) with
    | true => rfl
    | false =>
      cases decide (h.2.1.length < 2) with
      | true => rfl
      | false =>
        cases meetB g h with
        | true => rfl
        | false =>
          simp only [cond_false, Bool.or_false, Bool.not_false, Bool.true_and]
          refine (loop_any2 (l := t.2.2.1) (p := fun p => (g.2.1.contains (p.getD 0 0) && h.2.1.contains (p.getD 1 0)) || (g.2.1.contains (p.getD 1 0) && h.2.1.contains (p.getD 0 0))) (R := some (b1 true)) (E := some (b1 false)) (n := fuelL) st1 (fuel_big (by have := H.n40; omega)) (fun k hk again => ?_) fun again => ?_).trans ?_
          · simp only [cast0, ofNat_c, lt_cast, decide_true, decide_false, cond_true, cond_false, inB_cast, grd_real, join_real, Int.toNat_natCast, Option.elim_some, Bool.true_and, Bool.false_or, Bool.or_true, Bool.and_true, Bool.or_false, cond_tf, hk, getD_in hk, wrap_nat (show k < 4294967296 by have := H.n40; omega), toN0, ltb0, ltb1, has24_eq hwi, has24_eq hwj]
            generalize t.2.2.1[k] = p
            cases g.2.1.contains (p.getD 0 0) <;> cases h.2.1.contains (p.getD 1 0) <;> cases g.2.1.contains (p.getD 1 0) <;> cases h.2.1.contains (p.getD 0 0) <;> rfl
          · simp only [ofNat_c, lt_cast, decide_true, decide_false, cond_true, cond_false, inB_cast, grd_real, join_real, Int.toNat_natCast, Option.elim_some, Bool.true_and, Bool.false_or, Bool.or_true, Bool.and_true, Bool.or_false, cond_tf, Nat.lt_irrefl]
          · cases t.2.2.1.any fun p => (g.2.1.contains (p.getD 0 0) && h.2.1.contains (p.getD 1 0)) || (g.2.1.contains (p.getD 1 0) && h.2.1.contains (p.getD 0 0)) <;> rfl
  exact key realC
end Go.Canon
namespace Go.Canon
set_option linter.unusedVariables false
set_option linter.unusedSimpArgs false
open Go
variable {t : Clk} {c : Circ}
/-- The greatest of some numbers; 0 if there is none. -/
def maxS : List Int → Int
  | [] => 0
  | x :: l => l.foldl mx2 x
theorem max_loop {x : Int} {l : List Int} (hl : l.length < 4294967290) : m_slices_Max (x :: l, ()) = some (i1 (l.foldl mx2 x)) := by
  have key : ∀ (C : Cmb) [CmbOk C], M_slices_Max C (x :: l, ()) = some (i1 (l.foldl mx2 x)) := by
    intro C _
    unfold M_slices_Max
    dsimp only
    rw [show ltI (Int.ofNat (x :: l).length) (Int.ofNat 1) = false from decide_eq_false (by simp; omega), cond_false, grd_real, show inB (Int.ofNat 0) (x :: l).length = true from inB_in (by simp), cond_true]
    refine (loop_fold (l := l) (f := mx2) (c := x) (E := fun m => some (i1 m)) (n := fuelL) (fun k m => ((m, ((k + 1 : Nat) : Int), ()), ())) (fuel_big (by omega)) (fun k hk again => ?_) fun again => ?_)
    · have h2 : k + 1 < (x :: l).length := by simp; omega
      simp only [ofNat_c, lt_cast, decide_true, decide_false, cond_true, cond_false, inB_cast, grd_real, join_real, Int.toNat_natCast, Option.elim_some, Bool.true_and, Bool.false_or, Bool.or_true, Bool.and_true, Bool.or_false, cond_tf, h2, getD_in h2, List.getElem_cons_succ, wrap_nat (show k + 1 < 4294967296 by omega)]
      rfl
    · simp only [ofNat_c, lt_cast, decide_true, decide_false, cond_true, cond_false, inB_cast, grd_real, join_real, Int.toNat_natCast, Option.elim_some, Bool.true_and, Bool.false_or, Bool.or_true, Bool.and_true, Bool.or_false, cond_tf, List.length_cons, Nat.lt_irrefl]
  exact key realC
theorem greatest_eq {l : List Int} (hl : l.length < 4294967290) : m_sched_greatest (l, ()) = some (i1 (maxS l)) := by
  cases l with
  | nil => rfl
  | cons x l =>
    show (bif Int.ofNat (x :: l).length == Int.ofNat 0 then some ((Int.ofNat 0, ()), ()) else (m_slices_Max (x :: l, ())).elim none fun v => some ((v.1.1, ()), ())) = _
    rw [show (Int.ofNat (x :: l).length == Int.ofNat 0) = false from by rw [beq_dec]; exact decide_eq_false (by simp; omega), cond_false, max_loop (by simp at hl; omega)]
    rfl
/-- The least time after those that hold a gate. -/
def aftStep (t : Clk) (c : Circ) (i : Nat) (starts : List Int) (m : Int) (j : Nat) : Int := bif meetB (gt c j) (gt c i) then mx2 m (starts.getD j 0 + lenG t (gt c j) + lateG t (gt c j) (gt c i)) else m
def aftP (t : Clk) (c : Circ) (i : Nat) (starts : List Int) : Int := (List.range i).foldl (aftStep t c i starts) 0
/-- Starts that are not too great. -/
def Bnd (B : Int) (l : List Int) : Prop := ∀ x ∈ l, -B ≤ x ∧ x ≤ B
theorem p_after (H : Ok t c) {i : Nat} (hi : i < c.2.2.1.length) {starts : List Int} (hs : i ≤ starts.length) (hb : Bnd 1000000 starts) {m : List (List Int × Bool)} : m_sched_plan_after ((c, t.1, t.2.1, m, ()), (i : Int), starts, ()) = some (i1 (aftP t c i starts)) := by
  have key : ∀ (C : Cmb) [CmbOk C], M_sched_plan_after C ((c, t.1, t.2.1, m, ()), (i : Int), starts, ()) = some (i1 (aftP t c i starts)) := by
    intro C _
    unfold M_sched_plan_after aftP
    dsimp only
    have hn := H.n120
    refine (loop_fold (l := List.range i) (f := aftStep t c i starts) (c := 0) (E := fun m => some (i1 m)) (n := fuelL) (fun k m => (((k : Int), ()), (m, ()), ())) (fuel_big (by rw [List.length_range]; omega)) (fun k hk again => ?_) fun again => ?_)
    · rw [List.length_range] at hk
      generalize (List.take k (List.range i)).foldl (aftStep t c i starts) 0 = acc
      have hj : k < c.2.2.1.length := by omega
      have hks : k < starts.length := by omega
      have hlb := H.lenB hj
      have hla := H.lateB (g := gt c k) (h := gt c i)
      have hsk := hb _ (List.getElem_mem hks)
      simp only [ofNat_c, lt_cast, decide_true, decide_false, cond_true, cond_false, inB_cast, grd_real, join_real, Int.toNat_natCast, Option.elim_some, Bool.true_and, Bool.false_or, Bool.or_true, Bool.and_true, Bool.or_false, cond_tf, hk, p_holds H hi hj, List.getElem_range, aftStep]
      cases meetB (gt c k) (gt c i) with
      | false => simp only [cond_false, wrap_nat (show k < 4294967296 by omega)]
      | true =>
        simp only [cond_true, hks, decide_true, p_length H hj, p_late H hi hj, Option.elim_some, getD_in hks]
        rw [wrap_in (a := starts[k] + lenG t (gt c k)) (by omega) (by omega), wrap_in (a := starts[k] + lenG t (gt c k) + lateG t (gt c k) (gt c i)) (by omega) (by omega), greatest_eq (by simp), wrap_nat (show k < 4294967296 by omega)]
        rfl
    · simp only [ofNat_c, lt_cast, decide_true, decide_false, cond_true, cond_false, inB_cast, grd_real, join_real, Int.toNat_natCast, Option.elim_some, Bool.true_and, Bool.false_or, Bool.or_true, Bool.and_true, Bool.or_false, cond_tf, List.length_range, Nat.lt_irrefl]
  exact key realC
end Go.Canon
namespace Go.Canon
set_option linter.unusedVariables false
set_option linter.unusedSimpArgs false
open Go
variable {t : Clk} {c : Circ}
def uptoS (a b : Nat) : List Int := (List.range (b - a)).map fun k => ((a + k : Nat) : Int)
theorem room_ok {n s : Nat} (hn : n ≤ 1000000) (hs : s ≤ 1000) : leN (n * s) roomB = true := by
  unfold leN roomB
  exact decide_eq_true (Nat.le_trans (Nat.mul_le_mul hn hs) (by decide))
theorem upto_eq {a b : Nat} (h : a ≤ b) (hb : b ≤ 100000) : m_sched_upto ((a : Int), (b : Int), ()) = some (((), ()), (uptoS a b, ()), ()) := by
  have key : ∀ (C : Cmb) [CmbOk C], M_sched_upto C ((a : Int), (b : Int), ()) = some (((), ()), (uptoS a b, ()), ()) := by
    intro C _
    unfold M_sched_upto
    dsimp only
    have e0 : (((), (a : Int), ()), (([] : List Int), ()), ()) = (fun k : Nat => ((((), ((a + k : Nat) : Int), ()), (uptoS a (a + k), ()), ()) : (Unit × Int × Unit) × (List Int × Unit) × Unit)) 0 := by
      simp [uptoS]
    rw [e0]
    refine (loop_run (C := C) (fun k : Nat => ((((), ((a + k : Nat) : Int), ()), (uptoS a (a + k), ()), ()) : (Unit × Int × Unit) × (List Int × Unit) × Unit)) (b - a) fuelL (fuel_big (by omega)) (fun k hk again => ?_) fun again => ?_)
    · have h2 : a + k < b := by omega
      have hl : (uptoS a (a + k)).length = k := by simp [uptoS]
      have e : uptoS a (a + (k + 1)) = uptoS a (a + k) ++ [((a + k : Nat) : Int)] := by
        unfold uptoS
        rw [show a + (k + 1) - a = k + 1 by omega, show a + k - a = k by omega, List.range_succ, List.map_append]
        rfl
      rw [e]
      simp only [ofNat_c, lt_cast, decide_true, decide_false, cond_true, cond_false, inB_cast, grd_real, join_real, Int.toNat_natCast, Option.elim_some, Bool.true_and, Bool.false_or, Bool.or_true, Bool.and_true, Bool.or_false, cond_tf, h2, hl, List.length_singleton, wrap_nat (show a + k < 4294967296 by omega)]
      rw [room_ok (by omega) (by decide)]
      rfl
    · rw [show a + (b - a) = b by omega]
      simp only [ofNat_c, lt_cast, decide_true, decide_false, cond_true, cond_false, inB_cast, grd_real, join_real, Int.toNat_natCast, Option.elim_some, Bool.true_and, Bool.false_or, Bool.or_true, Bool.and_true, Bool.or_false, cond_tf, Nat.lt_irrefl]
  exact key realC
end Go.Canon
namespace Go.Canon
set_option linter.unusedVariables false
set_option linter.unusedSimpArgs false
open Go
variable {t : Clk} {c : Circ}
/-- A gate that begins at x disturbs another one. -/
def hitB (t : Clk) (c : Circ) (f : Int → Int → Bool) (i : Nat) (starts : List Int) (x : Int) (j : Nat) : Bool := distM f (gt c i) (gt c j) && overB x (lenG t (gt c i)) (starts.getD j 0) (lenG t (gt c j))
/-- How many ends lie behind x. -/
def endsB (t : Clk) (c : Circ) (starts : List Int) (i : Nat) (x : Int) : Nat := ((List.range i).filter fun j => decide (x < starts.getD j 0 + lenG t (gt c j))).length
theorem ends_lt {starts : List Int} {i : Nat} {x y : Int} {j : Nat} (hj : j < i) (hy : y = starts.getD j 0 + lenG t (gt c j)) (hxy : x < y) : endsB t c starts i y < endsB t c starts i x := by
  unfold endsB
  have h1 : ∀ (l : List Nat), ((l.filter fun j => decide (y < starts.getD j 0 + lenG t (gt c j))).length ≤ (l.filter fun j => decide (x < starts.getD j 0 + lenG t (gt c j))).length) ∧ (j ∈ l → (l.filter fun j => decide (y < starts.getD j 0 + lenG t (gt c j))).length < (l.filter fun j => decide (x < starts.getD j 0 + lenG t (gt c j))).length) := by
    intro l
    induction l with
    | nil => exact ⟨Nat.le_refl _, fun h => by cases h⟩
    | cons a l ih =>
      simp only [List.filter_cons]
      by_cases ha : y < starts.getD a 0 + lenG t (gt c a)
      · have hx : x < starts.getD a 0 + lenG t (gt c a) := by omega
        simp only [decide_eq_true ha, decide_eq_true hx, if_true, List.length_cons]
        refine ⟨by omega, fun hm => ?_⟩
        rcases List.mem_cons.1 hm with rfl | hm
        · omega
        · have := ih.2 hm; omega
      · simp only [decide_eq_false ha, Bool.false_eq_true, if_false]
        by_cases hx : x < starts.getD a 0 + lenG t (gt c a)
        · simp only [decide_eq_true hx, if_true, List.length_cons]
          exact ⟨by omega, fun _ => by omega⟩
        · simp only [decide_eq_false hx, Bool.false_eq_true, if_false]
          refine ⟨ih.1, fun hm => ?_⟩
          rcases List.mem_cons.1 hm with rfl | hm
          · omega
          · exact ih.2 hm
  exact (h1 _).2 (List.mem_range.2 hj)
theorem upto_get {i k : Nat} (hk : k < i) : (uptoS 0 i).getD k 0 = (k : Int) := by
  have : k < (uptoS 0 i).length := by simp [uptoS]; exact hk
  rw [getD_in this]; simp [uptoS]
theorem upto_len {i : Nat} : (uptoS 0 i).length = i := by simp [uptoS]
/-- The least time from x on at which nothing is disturbed. -/
structure FreeS (t : Clk) (c : Circ) (f : Int → Int → Bool) (i : Nat) (starts : List Int) (x r : Int) : Prop where
  ge : x ≤ r
  no : ∀ j, j < i → hitB t c f i starts r j = false
  le : ∀ y, x ≤ y → (∀ j, j < i → hitB t c f i starts y j = false) → r ≤ y
theorem p_free (H : Ok t c) {i : Nat} (hi : i < c.2.2.1.length) {starts : List Int} (hs : i ≤ starts.length) (hb : Bnd 1000000 starts) {m : List (List Int × Bool)} {f : Int → Int → Bool} (hm : saysN m f) {x0 : Int} (hx : -2000000 ≤ x0 ∧ x0 ≤ 2000000) :
    ∃ r, (FreeS t c f i starts x0 r ∧ r ≤ 2000000) ∧ m_sched_plan_free ((c, t.1, t.2.1, m, ()), (i : Int), x0, uptoS 0 i, starts, ()) = some (i1 r) := by
  have key : ∀ (C : Cmb) [CmbOk C], ∃ r : (Int × Unit) × Unit, (FreeS t c f i starts x0 r.1.1 ∧ r.1.1 ≤ 2000000) ∧ M_sched_plan_free C ((c, t.1, t.2.1, m, ()), (i : Int), x0, uptoS 0 i, starts, ()) = some r := by
    intro C _
    unfold M_sched_plan_free
    dsimp only
    have hn := H.n120
    have hli := H.lenB hi
    refine loop_ex (fun x : (Int × Unit) × Unit => -2000000 ≤ x.1.1 ∧ x.1.1 ≤ 2000000) (fun x => endsB t c starts i x.1.1) (fun x (r : (Int × Unit) × Unit) => FreeS t c f i starts x.1.1 r.1.1 ∧ r.1.1 ≤ 2000000) (fun x hI => ?_) fuelL ((x0, ()), ()) hx (fuel_big (Nat.lt_of_le_of_lt (List.length_filter_le _ _) (by rw [List.length_range]; omega)))
    obtain ⟨⟨x, u⟩, u2⟩ := x
    have hI : -2000000 ≤ x ∧ x ≤ 2000000 := hI
    have hr : (List.range i).length = i := List.length_range
    generalize hfi : (List.range i).findIdx (hitB t c f i starts x) = j0
    by_cases hf : j0 < i
    · have hp : hitB t c f i starts x j0 = true := by
        have := List.findIdx_getElem (p := hitB t c f i starts x) (xs := List.range i) (w := by rw [hfi, hr]; exact hf)
        rw [List.getElem_range, hfi] at this
        exact this
      have hks : j0 < starts.length := by omega
      have hsk := hb _ (List.getElem_mem hks)
      have hlk := H.lenB (show j0 < c.2.2.1.length by omega)
      have hov : x < starts.getD j0 0 + lenG t (gt c j0) ∧ starts.getD j0 0 < x + lenG t (gt c i) ∧ distM f (gt c i) (gt c j0) = true := by
        simp only [hitB, overB, Bool.and_eq_true, decide_eq_true_eq] at hp
        exact ⟨hp.2.1, hp.2.2, hp.1⟩
      refine .inr ⟨((starts.getD j0 0 + lenG t (gt c j0), ()), ()), ⟨?_, ?_⟩, ends_lt hf rfl hov.1, fun r hr => ⟨⟨Int.le_trans (Int.le_of_lt hov.1) hr.1.ge, hr.1.no, fun y hy hno => hr.1.le y ?_ hno⟩, hr.2⟩, fun again => ?_⟩
      · show -2000000 ≤ starts.getD j0 0 + lenG t (gt c j0)
        omega
      · show starts.getD j0 0 + lenG t (gt c j0) ≤ 2000000
        rw [getD_in hks]; omega
      · show starts.getD j0 0 + lenG t (gt c j0) ≤ y
        have := hno j0 hf
        have hy : x ≤ y := hy
        simp only [hitB, hov.2.2, Bool.true_and, overB, Bool.and_eq_false_iff, decide_eq_false_iff_not] at this
        omega
      refine (loop_find2 (C := C) (l := List.range i) (p := hitB t c f i starts x) (R := fun k => again (((starts.getD k 0 + lenG t (gt c k)), ()), ())) (E := some ((x, ()), ())) (n := fuelL) (fun k => ((x, (k : Int), ()), ())) (fuel_big (by rw [List.length_range]; omega)) (fun k hk again2 => ?_) fun again2 => ?_).trans ?_
      · rw [List.length_range] at hk
        have hj : k < c.2.2.1.length := by omega
        have hks : k < starts.length := by omega
        have hsk := hb _ (List.getElem_mem hks)
        have hlk := H.lenB hj
        simp only [ofNat_c, lt_cast, decide_true, decide_false, cond_true, cond_false, inB_cast, grd_real, join_real, Int.toNat_natCast, Option.elim_some, Bool.true_and, Bool.false_or, Bool.or_true, Bool.and_true, Bool.or_false, cond_tf, upto_len, hk, upto_get hk, hks, List.getElem_range, p_disturb H hi hj hm, getD_in hks, p_on H hj (show -1000000000 ≤ starts[k] ∧ starts[k] ≤ 1000000000 by omega), p_on H hi (show -1000000000 ≤ x ∧ x ≤ 1000000000 by omega), p_over hli.1 hlk.1, hitB, wrap_nat (show k < 4294967296 by omega)]
        cases distM f (gt c i) (gt c k) <;> rfl
      · simp only [ofNat_c, lt_cast, decide_true, decide_false, cond_true, cond_false, inB_cast, grd_real, join_real, Int.toNat_natCast, Option.elim_some, Bool.true_and, Bool.false_or, Bool.or_true, Bool.and_true, Bool.or_false, cond_tf, upto_len, List.length_range, Nat.lt_irrefl]
      · rw [hfi, hr, if_pos hf]
    · refine .inl ⟨((x, ()), ()), ⟨⟨Int.le_refl _, fun j hj => ?_, fun y hy _ => hy⟩, hI.2⟩, fun again => ?_⟩
      · have hn2 : ¬ ((List.range i).any (hitB t c f i starts x) = true) := fun h => hf (by have := find_any.2 h; rw [hfi, hr] at this; exact this)
        have := List.any_eq_false.1 (Bool.eq_false_iff.2 hn2) j (List.mem_range.2 hj)
        exact Bool.eq_false_iff.2 this
      refine (loop_find2 (C := C) (l := List.range i) (p := hitB t c f i starts x) (R := fun k => again (((starts.getD k 0 + lenG t (gt c k)), ()), ())) (E := some ((x, ()), ())) (n := fuelL) (fun k => ((x, (k : Int), ()), ())) (fuel_big (by rw [List.length_range]; omega)) (fun k hk again2 => ?_) fun again2 => ?_).trans ?_
      · rw [List.length_range] at hk
        have hj : k < c.2.2.1.length := by omega
        have hks : k < starts.length := by omega
        have hsk := hb _ (List.getElem_mem hks)
        have hlk := H.lenB hj
        simp only [ofNat_c, lt_cast, decide_true, decide_false, cond_true, cond_false, inB_cast, grd_real, join_real, Int.toNat_natCast, Option.elim_some, Bool.true_and, Bool.false_or, Bool.or_true, Bool.and_true, Bool.or_false, cond_tf, upto_len, hk, upto_get hk, hks, List.getElem_range, p_disturb H hi hj hm, getD_in hks, p_on H hj (show -1000000000 ≤ starts[k] ∧ starts[k] ≤ 1000000000 by omega), p_on H hi (show -1000000000 ≤ x ∧ x ≤ 1000000000 by omega), p_over hli.1 hlk.1, hitB, wrap_nat (show k < 4294967296 by omega)]
        cases distM f (gt c i) (gt c k) <;> rfl
      · simp only [ofNat_c, lt_cast, decide_true, decide_false, cond_true, cond_false, inB_cast, grd_real, join_real, Int.toNat_natCast, Option.elim_some, Bool.true_and, Bool.false_or, Bool.or_true, Bool.and_true, Bool.or_false, cond_tf, upto_len, List.length_range, Nat.lt_irrefl]
      · rw [hfi, hr, if_neg hf]
  obtain ⟨r, h1, h2⟩ := key realC
  exact ⟨r.1.1, h1, h2⟩
end Go.Canon
namespace Go.Canon
set_option linter.unusedVariables false
set_option linter.unusedSimpArgs false
open Go
variable {t : Clk} {c : Circ}
theorem foldl_congr2 {α β : Type} {f g : β → α → β} : ∀ {l : List α} {b : β}, (∀ x ∈ l, ∀ b, f b x = g b x) → l.foldl f b = l.foldl g b
  | [], b, _ => rfl
  | x :: l, b, h => by
    rw [List.foldl_cons, List.foldl_cons, h x List.mem_cons_self]
    exact foldl_congr2 fun y hy => h y (List.mem_cons_of_mem _ hy)
/-- Only the starts before a gate matter. -/
def Same1 (i : Nat) (a b : List Int) : Prop := ∀ j, j < i → a.getD j 0 = b.getD j 0
theorem aft_same {i : Nat} {a b : List Int} (h : Same1 i a b) : aftP t c i a = aftP t c i b := by
  unfold aftP
  refine foldl_congr2 fun j hj m => ?_
  unfold aftStep
  rw [h j (List.mem_range.1 hj)]
theorem hit_same {i : Nat} {a b : List Int} (h : Same1 i a b) {f : Int → Int → Bool} {x : Int} {j : Nat} (hj : j < i) : hitB t c f i a x j = hitB t c f i b x j := by
  unfold hitB; rw [h j hj]
theorem free_same {i : Nat} {a b : List Int} (h : Same1 i a b) {f : Int → Int → Bool} {x r : Int} (H : FreeS t c f i a x r) : FreeS t c f i b x r :=
  ⟨H.ge, fun j hj => by rw [← hit_same h hj]; exact H.no j hj, fun y hy hn => H.le y hy fun j hj => by rw [hit_same h hj]; exact hn j hj⟩
/-- Early starts. -/
def EarlyS (t : Clk) (c : Circ) (f : Int → Int → Bool) (l : List Int) : Prop := ∀ i, i < l.length → FreeS t c f i l (aftP t c i l) (l.getD i 0)
theorem fold_bound {i : Nat} {starts : List Int} {B : Int} (hB : 0 ≤ B) (h : ∀ j, j < i → starts.getD j 0 + lenG t (gt c j) + lateG t (gt c j) (gt c i) ≤ B) : 0 ≤ aftP t c i starts ∧ aftP t c i starts ≤ B := by
  unfold aftP
  have key : ∀ (l : List Nat) (m : Int), (∀ j ∈ l, j < i) → 0 ≤ m → m ≤ B → 0 ≤ l.foldl (aftStep t c i starts) m ∧ l.foldl (aftStep t c i starts) m ≤ B := by
    intro l
    induction l with
    | nil => intro m _ h1 h2; exact ⟨h1, h2⟩
    | cons j l ih =>
      intro m hl h1 h2
      rw [List.foldl_cons]
      have hj := h j (hl j List.mem_cons_self)
      refine ih _ (fun q hq => hl q (List.mem_cons_of_mem _ hq)) ?_ ?_
      · unfold aftStep mx2
        cases meetB (gt c j) (gt c i) with
        | false => exact h1
        | true => simp only [cond_true]; split <;> omega
      · unfold aftStep mx2
        cases meetB (gt c j) (gt c i) with
        | false => exact h2
        | true => simp only [cond_true]; split <;> omega
  exact key _ 0 (fun j hj => List.mem_range.1 hj) (Int.le_refl _) hB
theorem free_bound (H : Ok t c) {i : Nat} (hi : i ≤ c.2.2.1.length) {starts : List Int} {f : Int → Int → Bool} {x r B : Int} (hf : FreeS t c f i starts x r) (hx : x ≤ B) (h : ∀ j, j < i → starts.getD j 0 + lenG t (gt c j) ≤ B) : r ≤ B := by
  refine hf.le B hx fun j hj => ?_
  have := h j hj
  unfold hitB overB
  rw [decide_eq_false (show ¬ B < starts.getD j 0 + lenG t (gt c j) by omega)]
  simp
theorem same_app {i : Nat} {l : List Int} {x : Int} (hi : i ≤ l.length) : Same1 i l (l ++ [x]) := fun j hj => by
  rw [List.getD_eq_getElem?_getD, List.getD_eq_getElem?_getD, List.getElem?_append_left (by omega)]
theorem getD_last {l : List Int} {x : Int} : (l ++ [x]).getD l.length 0 = x := by
  rw [List.getD_eq_getElem?_getD, List.getElem?_append_right (Nat.le_refl _)]; simp
/-- Starts so far. -/
structure Soon (t : Clk) (c : Circ) (f : Int → Int → Bool) (l : List Int) : Prop where
  le : l.length ≤ c.2.2.1.length
  is : EarlyS t c f l
  bd : ∀ j, j < l.length → 0 ≤ l.getD j 0 ∧ l.getD j 0 ≤ 300 * (j : Int)
theorem Soon.bnd {f : Int → Int → Bool} {l : List Int} (S : Soon t c f l) (H : Ok t c) : Bnd 1000000 l := fun x hx => by
  obtain ⟨j, hj, rfl⟩ := List.getElem_of_mem hx
  have := S.bd j hj
  rw [getD_in hj] at this
  have := H.n120
  have := S.le
  omega
theorem p_early (H : Ok t c) {m : List (List Int × Bool)} {f : Int → Int → Bool} (hm : saysN m f) :
    ∃ l, (Soon t c f l ∧ l.length = c.2.2.1.length) ∧ m_sched_plan_early ((c, t.1, t.2.1, m, ()), ()) = some (((), ()), (l, ()), ()) := by
  have key : ∀ (C : Cmb) [CmbOk C], ∃ r : (Unit × Unit) × (List Int × Unit) × Unit, (Soon t c f r.2.1.1 ∧ r.2.1.1.length = c.2.2.1.length) ∧ M_sched_plan_early C ((c, t.1, t.2.1, m, ()), ()) = some r := by
    intro C _
    unfold M_sched_plan_early
    dsimp only
    have hn := H.n120
    refine loop_ex (fun x : (Unit × Int × Unit) × (List Int × Unit) × Unit => Soon t c f x.2.1.1 ∧ x.1.2.1 = (x.2.1.1.length : Int)) (fun x => c.2.2.1.length - x.2.1.1.length) (fun x (r : (Unit × Unit) × (List Int × Unit) × Unit) => Soon t c f r.2.1.1 ∧ r.2.1.1.length = c.2.2.1.length) (fun x hI => ?_) fuelL (((), ((0 : Nat) : Int), ()), ([], ()), ()) ⟨⟨Nat.zero_le _, fun i hi => (by cases hi), fun j hj => (by cases hj)⟩, rfl⟩ (fuel_big (by omega))
    obtain ⟨⟨u1, z, u2⟩, ⟨l, u3⟩, u4⟩ := x
    obtain ⟨S, hz⟩ := hI
    have hz : z = (l.length : Int) := hz
    subst hz
    have S : Soon t c f l := S
    by_cases hlt : l.length < c.2.2.1.length
    · have hfb := fold_bound (t := t) (c := c) (i := l.length) (starts := l) (B := 300 * (l.length : Int)) (by omega) fun j hj => by
        have h1 := S.bd j hj
        have h2 := H.lenB (show j < c.2.2.1.length by omega)
        have h3 := H.lateB (g := gt c j) (h := gt c l.length)
        omega
      obtain ⟨r, ⟨hr, _⟩, he⟩ := p_free H hlt (Nat.le_refl _) (S.bnd H) hm (x0 := aftP t c l.length l) (by omega)
      have hrb : r ≤ 300 * (l.length : Int) := free_bound H (Nat.le_of_lt hlt) hr hfb.2 fun j hj => by
        have h1 := S.bd j hj
        have h2 := H.lenB (show j < c.2.2.1.length by omega)
        omega
      have hrg := hr.ge
      refine .inr ⟨(((), ((l.length + 1 : Nat) : Int), ()), (l ++ [r], ()), ()), ⟨⟨?_, fun i hi => ?_, fun j hj => ?_⟩, ?_⟩, ?_, fun _ h => h, fun again => ?_⟩
      · show (l ++ [r]).length ≤ _
        simp; omega
      · have hi : i < (l ++ [r]).length := hi
        show FreeS t c f i (l ++ [r]) (aftP t c i (l ++ [r])) ((l ++ [r]).getD i 0)
        by_cases hil : i < l.length
        · have sm := same_app (x := r) (Nat.le_of_lt hil)
          rw [← aft_same sm, ← same_app (x := r) (Nat.le_refl l.length) i hil]
          exact free_same sm (S.is i hil)
        · have : i = l.length := by simp at hi; omega
          subst this
          have sm := same_app (x := r) (Nat.le_refl l.length)
          rw [← aft_same sm, getD_last]
          exact free_same sm hr
      · have hj : j < (l ++ [r]).length := hj
        show 0 ≤ (l ++ [r]).getD j 0 ∧ (l ++ [r]).getD j 0 ≤ _
        by_cases hil : j < l.length
        · rw [← same_app (x := r) (Nat.le_refl l.length) j hil]; exact S.bd j hil
        · have : j = l.length := by simp at hj; omega
          subst this
          rw [getD_last]; omega
      · show ((l.length + 1 : Nat) : Int) = ((l ++ [r]).length : Int)
        simp
      · show c.2.2.1.length - (l ++ [r]).length < c.2.2.1.length - l.length
        simp; omega
      · have hu : m_sched_upto (((0 : Nat) : Int), (l.length : Int), ()) = some (((), ()), (uptoS 0 l.length, ()), ()) := upto_eq (Nat.zero_le _) (by omega)
        simp only [ofNat_c, lt_cast, decide_true, decide_false, cond_true, cond_false, inB_cast, grd_real, join_real, Int.toNat_natCast, Option.elim_some, Bool.true_and, Bool.false_or, Bool.or_true, Bool.and_true, Bool.or_false, cond_tf, hlt, p_after H hlt (Nat.le_refl _) (S.bnd H), hu, he, List.length_singleton, wrap_nat (show l.length < 4294967296 by omega)]
        rw [room_ok (by omega) (by decide)]
        rfl
    · have hl : l.length = c.2.2.1.length := by have := S.le; omega
      refine .inl ⟨(((), ()), (l, ()), ()), ⟨S, hl⟩, fun again => ?_⟩
      rw [hl]
      simp only [ofNat_c, lt_cast, decide_true, decide_false, cond_true, cond_false, inB_cast, grd_real, join_real, Int.toNat_natCast, Option.elim_some, Bool.true_and, Bool.false_or, Bool.or_true, Bool.and_true, Bool.or_false, cond_tf, Nat.lt_irrefl]
  obtain ⟨r, h1, h2⟩ := key realC
  exact ⟨r.2.1.1, h1, h2⟩
end Go.Canon
namespace Go.Canon
set_option linter.unusedVariables false
set_option linter.unusedSimpArgs false
open Go
variable {t : Clk} {c : Circ}
theorem free_unique {i : Nat} {starts : List Int} {f : Int → Int → Bool} {x r s : Int} (a : FreeS t c f i starts x r) (b : FreeS t c f i starts x s) : r = s := by
  have h1 := a.le s b.ge b.no
  have h2 := b.le r a.ge a.no
  omega
theorem early_unique {f : Int → Int → Bool} {a b : List Int} (hl : a.length = b.length) (ha : EarlyS t c f a) (hb : EarlyS t c f b) : a = b := by
  have key : ∀ i, i ≤ a.length → Same1 i a b := by
    intro i
    induction i with
    | zero => intro _ j hj; cases hj
    | succ i ih =>
      intro hi j hj
      have ih := ih (by omega)
      by_cases hji : j < i
      · exact ih j hji
      · have : j = i := by omega
        subst this
        have h1 := ha j (by omega)
        have h2 := hb j (by omega)
        rw [aft_same ih] at h1
        exact free_unique (free_same ih h1) h2
  apply List.ext_getElem hl
  intro i h1 h2
  have := key a.length (Nat.le_refl _) i h1
  rw [getD_in h1, getD_in h2] at this
  exact this
end Go.Canon
namespace Go.Canon
set_option linter.unusedVariables false
set_option linter.unusedSimpArgs false
open Go
variable {t : Clk} {c : Circ}
theorem touch_symm {g h : Gate} : touchB g h = touchB h g := by
  unfold touchB
  rw [BEq.comm (a := h.2.2.1) (b := g.2.2.1)]
  cases g.1 == 13 <;> cases h.1 == 13 <;> cases h.2.2.2.1 == IntKind.i64.wrap (g.2.2.1 + 1) <;> cases g.2.2.1 == h.2.2.1 <;> cases g.2.2.2.1 == IntKind.i64.wrap (h.2.2.1 + 1) <;> rfl
theorem any_contains {a b : List Int} : (a.any fun w => b.contains w) = b.any fun w => a.contains w := by
  rw [Bool.eq_iff_iff]
  simp only [List.any_eq_true, List.contains_eq_mem, decide_eq_true_eq]
  exact ⟨fun ⟨x, h1, h2⟩ => ⟨x, h2, h1⟩, fun ⟨x, h1, h2⟩ => ⟨x, h2, h1⟩⟩
theorem meet_symm {g h : Gate} : meetB g h = meetB h g := by
  unfold meetB; rw [any_contains, touch_symm]
theorem dist_symm {f : Int → Int → Bool} (hf : ∀ a b, f a b = f b a) {g h : Gate} : distM f g h = distM f h g := by
  unfold distM
  rw [meet_symm, any_swap]
  have e : (fun b => g.2.1.any fun a => f a b) = fun b => g.2.1.any fun a => f b a := by
    funext b; congr 1; funext a; exact hf a b
  rw [e]
  cases decide (g.2.1.length < 2) <;> cases decide (h.2.1.length < 2) <;> rfl
theorem noisy_symm {a b : Int} : noisyB t a b = noisyB t b a := by
  unfold noisyB
  refine any_congr2 fun p _ => ?_
  cases a == p.getD 0 0 <;> cases b == p.getD 1 0 <;> cases a == p.getD 1 0 <;> cases b == p.getD 0 0 <;> rfl
theorem dist_is {g h : Gate} : distM (noisyB t) g h = distB t g h := rfl
theorem r_all {n : Nat} (hb : n ≤ 100000) : m_spoondriftref24_all ((n : Int), ()) = some (((), ()), (uptoS 0 n, ()), ()) := by
  have key : ∀ (C : Cmb) [CmbOk C], M_spoondriftref24_all C ((n : Int), ()) = some (((), ()), (uptoS 0 n, ()), ()) := by
    intro C _
    unfold M_spoondriftref24_all
    dsimp only
    have e0 : (((), Int.ofNat 0, ()), (([] : List Int), ()), ()) = (fun k : Nat => ((((), (k : Int), ()), (uptoS 0 k, ()), ()) : (Unit × Int × Unit) × (List Int × Unit) × Unit)) 0 := by
      simp [uptoS]
    rw [e0]
    refine (loop_run (C := C) (fun k : Nat => ((((), (k : Int), ()), (uptoS 0 k, ()), ()) : (Unit × Int × Unit) × (List Int × Unit) × Unit)) n fuelL (fuel_big (by omega)) (fun k hk again => ?_) fun again => ?_)
    · have hl : (uptoS 0 k).length = k := by simp [uptoS]
      have e : uptoS 0 (k + 1) = uptoS 0 k ++ [(k : Int)] := by
        unfold uptoS
        rw [Nat.sub_zero, Nat.sub_zero, List.range_succ, List.map_append]
        simp
      rw [e]
      simp only [ofNat_c, lt_cast, decide_true, decide_false, cond_true, cond_false, inB_cast, grd_real, join_real, Int.toNat_natCast, Option.elim_some, Bool.true_and, Bool.false_or, Bool.or_true, Bool.and_true, Bool.or_false, cond_tf, hk, hl, List.length_singleton, wrap_nat (show k < 4294967296 by omega)]
      rw [room_ok (by omega) (by decide)]
      rfl
    · simp only [ofNat_c, lt_cast, decide_true, decide_false, cond_true, cond_false, inB_cast, grd_real, join_real, Int.toNat_natCast, Option.elim_some, Bool.true_and, Bool.false_or, Bool.or_true, Bool.and_true, Bool.or_false, cond_tf, Nat.lt_irrefl]
  exact key realC
/-- One step of the reference's pass. -/
def restR (t : Clk) (c : Circ) (i : Nat) (starts : List Int) (at_ : Int) (j : Nat) : Int :=
  bif distB t (gt c j) (gt c i) && overB (starts.getD j 0) (lenG t (gt c j)) at_ (lenG t (gt c i)) then starts.getD j 0 + lenG t (gt c j) else
  bif meetB (gt c j) (gt c i) then starts.getD j 0 + (lenG t (gt c j) + lateG t (gt c j) (gt c i)) else 0
def passR (t : Clk) (c : Circ) (i : Nat) (starts : List Int) (p : Int × Bool) (j : Nat) : Int × Bool :=
  if p.1 < restR t c i starts p.1 j then (restR t c i starts p.1 j, true) else p
end Go.Canon
namespace Go.Canon
set_option linter.unusedVariables false
set_option linter.unusedSimpArgs false
open Go
variable {t : Clk} {c : Circ}
theorem over_symm {a l b k : Int} : overB a l b k = overB b k a l := by
  unfold overB; exact Bool.and_comm _ _
/-- A time at which a gate may begin. -/
structure Val (t : Clk) (c : Circ) (i : Nat) (starts : List Int) (y : Int) : Prop where
  ge : 0 ≤ y
  meet : ∀ j, j < i → meetB (gt c j) (gt c i) = true → starts.getD j 0 + (lenG t (gt c j) + lateG t (gt c j) (gt c i)) ≤ y
  no : ∀ j, j < i → hitB t c (noisyB t) i starts y j = false
theorem hit_r {i : Nat} {starts : List Int} {y : Int} {j : Nat} : (distB t (gt c j) (gt c i) && overB (starts.getD j 0) (lenG t (gt c j)) y (lenG t (gt c i))) = hitB t c (noisyB t) i starts y j := by
  unfold hitB
  rw [over_symm, ← dist_is, dist_symm fun a b => noisy_symm]
theorem rest_le {i : Nat} {starts : List Int} {x y : Int} {j : Nat} (hj : j < i) (V : Val t c i starts y) (hx : x ≤ y) : restR t c i starts x j ≤ y := by
  unfold restR
  rw [hit_r]
  cases hh : hitB t c (noisyB t) i starts x j with
  | true =>
    have h2 := V.no j hj
    simp only [hitB, overB, Bool.and_eq_true, decide_eq_true_eq] at hh
    simp only [hitB, overB, hh.1, Bool.true_and, Bool.and_eq_false_iff, decide_eq_false_iff_not] at h2
    rw [cond_true]; omega
  | false =>
    rw [cond_false]
    cases hm : meetB (gt c j) (gt c i) with
    | true => exact V.meet j hj hm
    | false => exact V.ge
theorem pass_ok {i : Nat} {starts : List Int} : ∀ (l : List Nat) (p : Int × Bool), (∀ j ∈ l, j < i) →
    p.1 ≤ (l.foldl (passR t c i starts) p).1 ∧ (∀ y, Val t c i starts y → p.1 ≤ y → (l.foldl (passR t c i starts) p).1 ≤ y) ∧
    ((l.foldl (passR t c i starts) p).2 = false → p.2 = false ∧ (l.foldl (passR t c i starts) p).1 = p.1 ∧ ∀ j ∈ l, restR t c i starts p.1 j ≤ p.1) ∧
    ((l.foldl (passR t c i starts) p).2 = true → p.2 = true ∨ p.1 < (l.foldl (passR t c i starts) p).1)
  | [], p, _ => ⟨Int.le_refl _, fun _ _ h => h, fun h => ⟨h, rfl, fun _ hj => by cases hj⟩, fun h => .inl h⟩
  | j :: l, p, h => by
    have hj := h j List.mem_cons_self
    obtain ⟨a1, a2, a3, a4⟩ := pass_ok l (passR t c i starts p j) fun q hq => h q (List.mem_cons_of_mem _ hq)
    rw [List.foldl_cons]
    by_cases hr : p.1 < restR t c i starts p.1 j
    · have e : passR t c i starts p j = (restR t c i starts p.1 j, true) := if_pos hr
      rw [e] at a1 a2 a3 a4 ⊢
      refine ⟨by have a1 : restR t c i starts p.1 j ≤ _ := a1; omega, fun y V hy => a2 y V (rest_le hj V hy), fun hf => ?_, fun _ => .inr (by have a1 : restR t c i starts p.1 j ≤ _ := a1; omega)⟩
      have := (a3 hf).1
      cases this
    · have e : passR t c i starts p j = p := if_neg hr
      rw [e] at a1 a2 a3 a4 ⊢
      refine ⟨a1, a2, fun hf => ?_, a4⟩
      obtain ⟨b1, b2, b3⟩ := a3 hf
      refine ⟨b1, b2, fun q hq => ?_⟩
      rcases List.mem_cons.1 hq with rfl | hq
      · omega
      · exact b3 q hq
/-- What no pass raises is right. -/
theorem val_of {i : Nat} {starts : List Int} {x : Int} (h0 : 0 ≤ x) (h : ∀ j, j < i → restR t c i starts x j ≤ x) : Val t c i starts x := by
  refine ⟨h0, fun j hj hm => ?_, fun j hj => ?_⟩
  · have := h j hj
    unfold restR at this
    rw [hit_r] at this
    have hh : hitB t c (noisyB t) i starts x j = false := by
      unfold hitB distM
      rw [meet_symm, hm]
      simp
    rw [hh, hm, cond_false, cond_true] at this
    exact this
  · have := h j hj
    unfold restR at this
    rw [hit_r] at this
    cases hh : hitB t c (noisyB t) i starts x j with
    | false => rfl
    | true =>
      rw [hh, cond_true] at this
      simp only [hitB, overB, Bool.and_eq_true, decide_eq_true_eq] at hh
      omega
end Go.Canon
namespace Go.Canon
set_option linter.unusedVariables false
set_option linter.unusedSimpArgs false
open Go
variable {t : Clk} {c : Circ}
theorem aft_le {i : Nat} {starts : List Int} {y : Int} : aftP t c i starts ≤ y ↔ 0 ≤ y ∧ ∀ j, j < i → meetB (gt c j) (gt c i) = true → starts.getD j 0 + (lenG t (gt c j) + lateG t (gt c j) (gt c i)) ≤ y := by
  have key : ∀ (l : List Nat) (m : Int), l.foldl (aftStep t c i starts) m ≤ y ↔ m ≤ y ∧ ∀ j ∈ l, meetB (gt c j) (gt c i) = true → starts.getD j 0 + (lenG t (gt c j) + lateG t (gt c j) (gt c i)) ≤ y := by
    intro l
    induction l with
    | nil => intro m; simp
    | cons a l ih =>
      intro m
      rw [List.foldl_cons, ih]
      unfold aftStep mx2
      constructor
      · rintro ⟨h1, h2⟩
        cases hm : meetB (gt c a) (gt c i) with
        | false =>
          rw [hm, cond_false] at h1
          refine ⟨h1, fun j hj hmj => ?_⟩
          rcases List.mem_cons.1 hj with rfl | hj
          · rw [hm] at hmj; cases hmj
          · exact h2 j hj hmj
        | true =>
          rw [hm, cond_true] at h1
          have h3 : m ≤ y ∧ starts.getD a 0 + lenG t (gt c a) + lateG t (gt c a) (gt c i) ≤ y := by
            split at h1 <;> omega
          refine ⟨h3.1, fun j hj hmj => ?_⟩
          rcases List.mem_cons.1 hj with rfl | hj
          · omega
          · exact h2 j hj hmj
      · rintro ⟨h1, h2⟩
        refine ⟨?_, fun j hj => h2 j (List.mem_cons_of_mem _ hj)⟩
        cases hm : meetB (gt c a) (gt c i) with
        | false => exact h1
        | true =>
          have := h2 a List.mem_cons_self hm
          rw [cond_true]
          split <;> omega
  unfold aftP
  rw [key]
  simp only [List.mem_range]
end Go.Canon
namespace Go.Canon
set_option linter.unusedVariables false
set_option linter.unusedSimpArgs false
open Go
variable {t : Clk} {c : Circ}
theorem take_upto {i n : Nat} (h : i ≤ n) : (uptoS 0 n).take i = uptoS 0 i := by
  unfold uptoS
  rw [Nat.sub_zero, Nat.sub_zero, ← List.map_take, List.take_range, Nat.min_eq_left h]
theorem ltb_in {i n : Nat} (h : i < n) : ltB i n = true := decide_eq_true h
theorem Ok.says (H : Ok t c) : saysN (t.2.2.1.foldl nzS []) (noisyB t) := fun a b => H.noisy
theorem val_of_free {i : Nat} {starts : List Int} {r : Int} (F : FreeS t c (noisyB t) i starts (aftP t c i starts) r) : Val t c i starts r :=
  ⟨(aft_le.1 F.ge).1, (aft_le.1 F.ge).2, F.no⟩
theorem free_le_val {i : Nat} {starts : List Int} {r y : Int} (F : FreeS t c (noisyB t) i starts (aftP t c i starts) r) (V : Val t c i starts y) : r ≤ y :=
  F.le y (aft_le.2 ⟨V.ge, V.meet⟩) V.no
/-- The least right time is there. -/
theorem free_ex (H : Ok t c) {i : Nat} (hi : i < c.2.2.1.length) {starts : List Int} (hs : i ≤ starts.length) (hb : Bnd 1000000 starts) {x : Int} (hx : -2000000 ≤ x ∧ x ≤ 2000000) : ∃ r, FreeS t c (noisyB t) i starts x r := by
  obtain ⟨r, ⟨h, _⟩, _⟩ := p_free H hi hs hb H.says hx
  exact ⟨r, h⟩
theorem aftS_ge {g h : Gate} (H : Ok t c) (hg : 1 ≤ lenG t g) : geI (aftS t g h) 0 = meetB g h := by
  have := H.lateB (g := g) (h := h)
  unfold aftS geI
  cases meetB g h with
  | false => rfl
  | true => rw [cond_true]; exact decide_eq_true (by omega)
abbrev StE := (Int × Unit) × (List Int × Unit) × Unit
theorem set_get {l : List Int} {i j : Nat} {x : Int} (hi : i < l.length) : (l.set i x).getD j 0 = if j = i then x else l.getD j 0 := by
  rw [List.getD_eq_getElem?_getD, List.getD_eq_getElem?_getD, List.getElem?_set]
  by_cases h : i = j
  · subst h; simp [hi]
  · rw [if_neg h, if_neg (fun e => h e.symm)]
theorem r_early (H : Ok t c) : ∃ l, (EarlyS t c (noisyB t) l ∧ l.length = c.2.2.1.length) ∧ m_spoondriftref24_early (t, c, uptoS 0 c.2.2.1.length, ()) = some (((), ()), (l, ()), ()) := by
  have key : ∀ (C : Cmb) [CmbOk C], ∃ r : (Unit × Unit) × (List Int × Unit) × Unit, (EarlyS t c (noisyB t) r.2.1.1 ∧ r.2.1.1.length = c.2.2.1.length) ∧ M_spoondriftref24_early C (t, c, uptoS 0 c.2.2.1.length, ()) = some r := by
    intro C _
    unfold M_spoondriftref24_early
    dsimp only
    have hn := H.n120
    have hg : (leI 0 (Int.ofNat c.2.2.1.length) && eqI (Int.ofNat c.2.2.1.length) (Int.ofNat c.2.2.1.length) && leN ((Int.ofNat c.2.2.1.length).toNat * 8) roomB) = true := by
      rw [show (Int.ofNat c.2.2.1.length).toNat = c.2.2.1.length from rfl, room_ok (by omega) (by decide)]
      simp [leI, eqI]
    rw [grd_real, hg, cond_true]
    refine loop_ex (fun x : StE => ∃ k : Nat, x.1.1 = (k : Int) ∧ k ≤ c.2.2.1.length ∧ x.2.1.1.length = c.2.2.1.length ∧ Bnd 1000000 x.2.1.1 ∧ ∀ j, j < k → FreeS t c (noisyB t) j x.2.1.1 (aftP t c j x.2.1.1) (x.2.1.1.getD j 0) ∧ 0 ≤ x.2.1.1.getD j 0 ∧ x.2.1.1.getD j 0 ≤ 300 * (j : Int))
      (fun x => c.2.2.1.length - x.1.1.toNat) (fun x (r : (Unit × Unit) × (List Int × Unit) × Unit) => EarlyS t c (noisyB t) r.2.1.1 ∧ r.2.1.1.length = c.2.2.1.length) (fun x hI => ?_) fuelL ((((0 : Nat) : Int), ()), (List.replicate c.2.2.1.length 0, ()), ())
      ⟨0, rfl, Nat.zero_le _, List.length_replicate, fun x hx => by rw [(List.mem_replicate.1 hx).2]; decide, fun j hj => by omega⟩ (fuel_big (by omega))
    obtain ⟨⟨z, u1⟩, ⟨starts, u2⟩, u3⟩ := x
    obtain ⟨k, hz, hk, hl, hbd, hI⟩ := hI
    have hz : z = (k : Int) := hz
    subst hz
    have hl : starts.length = c.2.2.1.length := hl
    have hbd : Bnd 1000000 starts := hbd
    have hI : ∀ j, j < k → FreeS t c (noisyB t) j starts (aftP t c j starts) (starts.getD j 0) ∧ 0 ≤ starts.getD j 0 ∧ starts.getD j 0 ≤ 300 * (j : Int) := hI
    by_cases hlt : k < c.2.2.1.length
    · have hfb := fold_bound (t := t) (c := c) (i := k) (starts := starts) (B := 300 * (k : Int)) (by omega) fun j hj => by
        have h1 := hI j hj
        have h2 := H.lenB (show j < c.2.2.1.length by omega)
        have h3 := H.lateB (g := gt c j) (h := gt c k)
        omega
      obtain ⟨r, hr⟩ := free_ex H hlt (by omega) hbd (x := aftP t c k starts) (by omega)
      have hrb : r ≤ 300 * (k : Int) := free_bound H (Nat.le_of_lt hlt) hr hfb.2 fun j hj => by
        have h1 := hI j hj
        have h2 := H.lenB (show j < c.2.2.1.length by omega)
        omega
      have hr0 := (val_of_free hr).ge
      have hks : k < starts.length := by omega
      refine .inr ⟨((((k + 1 : Nat) : Int), ()), (starts.set k r, ()), ()), ⟨k + 1, rfl, hlt, by show (starts.set k r).length = _; rw [List.length_set, hl], fun x hx => ?_, fun j hj => ?_⟩, ?_, fun _ h => h, fun again => ?_⟩
      · rcases List.mem_or_eq_of_mem_set hx with h | h
        · exact hbd x h
        · subst h; omega
      · show FreeS t c (noisyB t) j (starts.set k r) (aftP t c j (starts.set k r)) ((starts.set k r).getD j 0) ∧ 0 ≤ (starts.set k r).getD j 0 ∧ (starts.set k r).getD j 0 ≤ _
        have sm : ∀ q, q ≤ k → Same1 q starts (starts.set k r) := fun q hq j hj => by rw [set_get hks, if_neg (by omega)]
        by_cases hjk : j < k
        · rw [← aft_same (sm j (by omega)), ← sm k (Nat.le_refl _) j hjk]
          exact ⟨free_same (sm j (by omega)) (hI j hjk).1, (hI j hjk).2⟩
        · have : j = k := by omega
          subst this
          rw [← aft_same (sm j (by omega)), set_get hks, if_pos rfl]
          exact ⟨free_same (sm j (by omega)) hr, hr0, hrb⟩
      · show c.2.2.1.length - (((k + 1 : Nat) : Int)).toNat < c.2.2.1.length - ((k : Int)).toNat
        rw [Int.toNat_natCast, Int.toNat_natCast]; omega
      have hlk := H.lenB hlt
      simp only [ofNat_c, lt_cast, decide_true, decide_false, cond_true, cond_false, inB_cast, grd_real, join_real, Int.toNat_natCast, Option.elim_some, Bool.true_and, Bool.false_or, Bool.or_true, Bool.and_true, Bool.or_false, cond_tf, upto_len, hlt]
      refine loop_meas (C := C) (fun x : (Int × Bool × Unit) × Unit => (0 ≤ x.1.1 ∧ x.1.1 ≤ r) ∧ (x.1.2.1 = false → x.1.1 = r)) (fun x => (r - x.1.1).toNat + (bif x.1.2.1 then 1 else 0)) (fun x hx => ?_) fuelL ((((0 : Nat) : Int), true, ()), ()) ⟨⟨Int.le_refl _, hr0⟩, fun h => by cases h⟩ (fuel_big (by show (r - ((0 : Nat) : Int)).toNat + 1 < _; omega))
      obtain ⟨⟨at_, b, u4⟩, u5⟩ := x
      obtain ⟨⟨hx1, hx2⟩, hx3⟩ := hx
      have hx1 : 0 ≤ at_ := hx1
      have hx2 : at_ ≤ r := hx2
      cases b with
      | false =>
        have hx3 : at_ = r := hx3 rfl
        subst hx3
        refine .inl fun again2 => ?_
        simp only [ofNat_c, lt_cast, decide_true, decide_false, cond_true, cond_false, inB_cast, grd_real, join_real, Int.toNat_natCast, Option.elim_some, Bool.true_and, Bool.false_or, Bool.or_true, Bool.and_true, Bool.or_false, cond_tf, upto_get hlt, hks, ltb_in hks, wrap_nat (show k < 4294967296 by omega)]
      | true =>
        have hpo : ∀ q, q ≤ k → _ := fun q hq => pass_ok (t := t) (c := c) (i := k) (starts := starts) ((List.range k).take q) (at_, false) fun j hj => List.mem_range.1 (List.mem_of_mem_take hj)
        have hfull : (List.range k).take k = List.range k := List.take_of_length_le (by rw [List.length_range]; omega)
        have hp := hpo k (Nat.le_refl _)
        rw [hfull] at hp
        generalize hfin : (List.range k).foldl (passR t c k starts) (at_, false) = fin at hp
        have hV := val_of_free hr
        have hp1 : at_ ≤ fin.1 := hp.1
        have hp2 := hp.2.1 r hV hx2
        refine .inr ⟨((fin.1, fin.2, ()), ()), ⟨⟨by show 0 ≤ fin.1; omega, hp2⟩, fun hf => ?_⟩, ?_, fun again2 => ?_⟩
        · obtain ⟨_, e, h⟩ := hp.2.2.1 hf
          have e : fin.1 = at_ := e
          have hv := val_of (t := t) (c := c) (i := k) (starts := starts) hx1 fun j hj => h j (List.mem_range.2 hj)
          have hle : r ≤ at_ := free_le_val hr hv
          have hx2 : at_ ≤ r := hx2
          show fin.1 = r
          omega
        · show (r - fin.1).toNat + (bif fin.2 then 1 else 0) < (r - at_).toNat + 1
          cases hf : fin.2 with
          | false => simp only [cond_false]; omega
          | true =>
            rcases hp.2.2.2 hf with h | h
            · cases h
            · have h : at_ < fin.1 := h
              simp only [cond_true]; omega
        have hnn : (leI 0 (k : Int) && leI (k : Int) (c.2.2.1.length : Int)) = true := by rw [nn_cast, le_cast, decide_eq_true (Nat.le_of_lt hlt)]; rfl
        simp only [ofNat_c, lt_cast, decide_true, decide_false, cond_true, cond_false, inB_cast, grd_real, join_real, Int.toNat_natCast, Option.elim_some, Bool.true_and, Bool.false_or, Bool.or_true, Bool.and_true, Bool.or_false, cond_tf, upto_len, hnn, take_upto (Nat.le_of_lt hlt)]
        rw [← hfin]
        refine loop_fold (C := C) (l := List.range k) (f := passR t c k starts) (c := (at_, false)) (E := fun p => again2 ((p.1, p.2, ()), ())) (n := fuelL) (fun j p => ((p.1, p.2, (j : Int), ()), ())) (fuel_big (by rw [List.length_range]; omega)) (fun j hj again3 => ?_) fun again3 => ?_
        · rw [List.length_range] at hj
          have hq := hpo j (Nat.le_of_lt hj)
          generalize (List.take j (List.range k)).foldl (passR t c k starts) (at_, false) = p at hq ⊢
          obtain ⟨p1, p2⟩ := p
          have q1 : at_ ≤ p1 := hq.1
          have q2 : p1 ≤ r := hq.2.1 r hV hx2
          have hj2 : j < c.2.2.1.length := by omega
          have hjs : j < starts.length := by omega
          have hlj := H.lenB hj2
          have hla := H.lateB (g := gt c j) (h := gt c k)
          have hsj := (hI j hj).2
          have hg : starts[j] = starts.getD j 0 := (getD_in hjs).symm
          have hlong : m_spoondriftref24_long (t, gt c j, ()) = some (i1 (lenG t (gt c j))) := r_long H hj2
          have hlong2 : m_spoondriftref24_long (t, gt c k, ()) = some (i1 (lenG t (gt c k))) := r_long H hlt
          have haft : m_spoondriftref24_after (t, gt c j, gt c k, ()) = some (i1 (aftS t (gt c j) (gt c k))) := r_after H hlt hj2
          have hdis : m_spoondriftref24_disturb (t, gt c j, gt c k, ()) = some (b1 (distB t (gt c j) (gt c k))) := r_disturb H hj2 hlt
          have hov := r_over (a := starts.getD j 0) (l := lenG t (gt c j)) (b := p1) (k := lenG t (gt c k)) (by omega) (by omega) hlj hlk
          simp only [ofNat_c, lt_cast, decide_true, decide_false, cond_true, cond_false, inB_cast, grd_real, join_real, Int.toNat_natCast, Option.elim_some, Bool.true_and, Bool.false_or, Bool.or_true, Bool.and_true, Bool.or_false, cond_tf, upto_len, hj, upto_get hj, upto_get hlt, hj2, hlt, gt_eq, haft, hdis, hlong, hlong2, hjs, ltb_in hjs, hov, List.getElem_range, aftS_ge H hlj.1, wrap_nat (show j < 4294967296 by omega), show ((0 : Nat) : Int) = 0 from rfl, passR, restR]
          rw [wrap_in (a := starts.getD j 0 + lenG t (gt c j)) (by omega) (by omega)]
          have hw : meetB (gt c j) (gt c k) = true → IntKind.wrap .i64 (starts.getD j 0 + aftS t (gt c j) (gt c k)) = starts.getD j 0 + (lenG t (gt c j) + lateG t (gt c j) (gt c k)) := fun hm => by
            unfold aftS
            rw [hm, cond_true, wrap_in (by omega) (by omega)]
          cases hd : distB t (gt c j) (gt c k) <;> cases ho : overB (starts.getD j 0) (lenG t (gt c j)) p1 (lenG t (gt c k)) <;> cases hm : meetB (gt c j) (gt c k) <;> simp only [cond_true, cond_false, Bool.and_true, Bool.and_false, Bool.true_and, Bool.false_and, ltI]
          all_goals first | rw [hw hm] | skip
          all_goals split
          all_goals first | rfl | (rename_i hh; first | rw [decide_eq_true hh] | rw [decide_eq_false hh]) ; rfl
        · simp only [ofNat_c, lt_cast, decide_true, decide_false, cond_true, cond_false, inB_cast, grd_real, join_real, Int.toNat_natCast, Option.elim_some, Bool.true_and, Bool.false_or, Bool.or_true, Bool.and_true, Bool.or_false, cond_tf, List.length_range, Nat.lt_irrefl]
    · have hk2 : k = c.2.2.1.length := by omega
      subst hk2
      refine .inl ⟨(((), ()), (starts, ()), ()), ⟨fun i hi => ?_, hl⟩, fun again => ?_⟩
      · have hi : i < starts.length := hi
        exact (hI i (by omega)).1
      · simp only [ofNat_c, lt_cast, decide_true, decide_false, cond_true, cond_false, inB_cast, grd_real, join_real, Int.toNat_natCast, Option.elim_some, Bool.true_and, Bool.false_or, Bool.or_true, Bool.and_true, Bool.or_false, cond_tf, upto_len, Nat.lt_irrefl]
  obtain ⟨r, h1, h2⟩ := key realC
  exact ⟨r.2.1.1, h1, h2⟩
end Go.Canon
namespace Go.Canon
set_option linter.unusedVariables false
set_option linter.unusedSimpArgs false
open Go
variable {t : Clk} {c : Circ}
theorem loop_hit {α σ β : Type} {C : Cmb} [CmbOk C] {l : List β} {p : β → Bool} {body : σ → (σ → Option α) → Option α} {R : Nat → Option α} (st : Nat → σ) {n : Nat} (hn : l.length < n) (hy : l.findIdx p < l.length)
    (h : ∀ k (hk : k < l.length) again, body (st k) again = bif p l[k] then R k else again (st (k + 1))) : @Cmb.loop C σ α body n (st 0) = R (l.findIdx p) :=
  loop_run st (l.findIdx p) n (by omega) (fun i hi again => by rw [h i (by omega), show p (l[i]'(by omega)) = false from by simpa using List.not_of_lt_findIdx hi]; rfl) fun again => by rw [h _ hy, List.findIdx_getElem (w := hy)]; rfl
theorem gt_cast {a b : Nat} : gtI (a : Int) (b : Int) = decide (a > b) := by simp [gtI]
theorem ge_nn {a : Nat} : geI (a : Int) (0 : Int) = true := by simp [geI]
theorem great24_eq : m_spoondriftlaw24_great (t, ()) = some (b1 (decide (t.1.length > 20) || decide (t.2.2.1.length > 40))) := by
  have key : ∀ (C : Cmb) [CmbOk C], M_spoondriftlaw24_great C (t, ()) = some (b1 (decide (t.1.length > 20) || decide (t.2.2.1.length > 40))) := by
    intro C _
    unfold M_spoondriftlaw24_great
    simp only [join_real, ofNat_c, gt_cast]
    cases decide (t.1.length > 20) <;> rfl
  exact key realC
def greatC (c : Circ) : Bool := decide (c.2.2.1.length > 130) || c.2.2.1.any fun g => decide (g.2.1.length > 6)
theorem greatC_small (h : greatC c = false) : Small c := by
  simp only [greatC, Bool.or_eq_false_iff, decide_eq_false_iff_not, List.any_eq_false, decide_eq_true_eq] at h
  exact ⟨by omega, fun g hg => by have := h.2 g hg; omega⟩
theorem great_1_eq {g : Gate} : m_spoondriftkit_Great_1 (g, ()) = some (b1 (decide (g.2.1.length > 6))) := by
  show some (b1 (gtI (g.2.1.length : Int) ((6 : Nat) : Int))) = _
  rw [gt_cast]
theorem great_eq : m_spoondriftkit_Great (c, ()) = some (b1 (greatC c)) := by
  have key : ∀ (C : Cmb) [CmbOk C], M_spoondriftkit_Great C (c, ()) = some (b1 (greatC c)) := by
    intro C _
    unfold M_spoondriftkit_Great greatC
    simp only [join_real, ofNat_c, gt_cast]
    by_cases h : c.2.2.1.length > 130
    · rw [decide_eq_true h]; rfl
    · rw [decide_eq_false h, cond_false, Bool.false_or]
      refine (loop_any2 (l := c.2.2.1) (p := fun g => decide (g.2.1.length > 6)) (R := some (b1 true)) (E := some (b1 false)) (n := fuelL) st1 (fuel_big (by omega)) (fun k hk again => ?_) fun again => ?_).trans ?_
      · simp only [cast0, ofNat_c, lt_cast, decide_true, decide_false, cond_true, cond_false, inB_cast, grd_real, join_real, Int.toNat_natCast, Option.elim_some, Bool.true_and, Bool.false_or, Bool.or_true, Bool.and_true, Bool.or_false, cond_tf, hk, getD_in hk, great_1_eq, wrap_nat (show k < 4294967296 by omega), ge_nn]
      · simp only [ofNat_c, lt_cast, decide_true, decide_false, cond_true, cond_false, inB_cast, grd_real, join_real, Int.toNat_natCast, Option.elim_some, Bool.true_and, Bool.false_or, Bool.or_true, Bool.and_true, Bool.or_false, cond_tf, Nat.lt_irrefl]; rfl
      · cases c.2.2.1.any (fun g => decide (g.2.1.length > 6)) <;> rfl
  exact key realC
theorem clone_eq {l : List Int} (h : l.length ≤ 1000000) : m_slices_Clone (l, ()) = some (((), ()), (l, ()), ()) := by
  show (bif leN (l.length * 8) roomB then some (((), ()), (l, ()), ()) else none) = _
  rw [room_ok h (by decide)]; rfl
theorem own24_eq (h1 : t.1.length ≤ 20) (h2 : t.2.2.1.length ≤ 40) : m_spoondriftref24_Own (t, ()) = some ((t, ()), ()) := by
  have key : ∀ (C : Cmb) [CmbOk C], M_spoondriftref24_Own C (t, ()) = some ((t, ()), ()) := by
    intro C _
    unfold M_spoondriftref24_Own
    simp only [grd_real, Bool.true_and, Nat.zero_add]
    rw [room_ok (by omega) (by decide), room_ok (by omega) (by decide)]
    rfl
  exact key realC
theorem own_eq (h : Small c) : m_spoondriftkit_Own (c, ()) = some ((c, ()), ()) := by
  have key : ∀ (C : Cmb) [CmbOk C], M_spoondriftkit_Own C (c, ()) = some ((c, ()), ()) := by
    intro C _
    unfold M_spoondriftkit_Own
    dsimp only
    refine loop_run (C := C) (fun k : Nat => ((((k : Int), ()), (c.1, c.2.1, (), ()), (c.2.2.1.take k, ()), ()) : (Int × Unit) × (Int × Int × Unit × Unit) × (List Gate × Unit) × Unit)) c.2.2.1.length fuelL (fuel_big (by have := h.1; omega)) (fun k hk again => ?_) fun again => ?_
    · have hw := h.2 _ (List.getElem_mem hk)
      have hn := h.1
      have e : c.2.2.1.take (k + 1) = c.2.2.1.take k ++ [c.2.2.1[k]] := by rw [List.take_add_one, List.getElem?_eq_getElem hk]; rfl
      rw [e]
      simp only [ofNat_c, lt_cast, decide_true, decide_false, cond_true, cond_false, inB_cast, grd_real, join_real, Int.toNat_natCast, Option.elim_some, Bool.true_and, Bool.false_or, Bool.or_true, Bool.and_true, Bool.or_false, cond_tf, hk, getD_in hk, clone_eq (show (c.2.2.1[k]).2.1.length ≤ 1000000 by omega), wrap_nat (show k < 4294967296 by omega), List.length_singleton, List.length_take]
      rw [room_ok (by omega) (by decide)]
      rfl
    · simp only [ofNat_c, lt_cast, decide_true, decide_false, cond_true, cond_false, inB_cast, grd_real, join_real, Int.toNat_natCast, Option.elim_some, Bool.true_and, Bool.false_or, Bool.or_true, Bool.and_true, Bool.or_false, cond_tf, Nat.lt_irrefl, List.take_length]
  exact key realC
theorem equal_eq {l : List Int} (h : l.length < 4294967296) : m_slices_Equal (l, l, ()) = some (b1 true) := by
  have key : ∀ (C : Cmb) [CmbOk C], M_slices_Equal C (l, l, ()) = some (b1 true) := by
    intro C _
    unfold M_slices_Equal
    dsimp only
    rw [len_ne, decide_eq_false (by simp), cond_false]
    refine loop_run (C := C) st1 l.length fuelL (fuel_big h) (fun k hk again => ?_) fun again => ?_
    · simp only [cast0, ofNat_c, lt_cast, decide_true, decide_false, cond_true, cond_false, inB_cast, grd_real, join_real, Int.toNat_natCast, Option.elim_some, Bool.true_and, Bool.false_or, Bool.or_true, Bool.and_true, Bool.or_false, cond_tf, hk, wrap_nat (show k < 4294967296 by omega), bne_self_eq_false]
    · simp only [ofNat_c, lt_cast, decide_true, decide_false, cond_true, cond_false, inB_cast, grd_real, join_real, Int.toNat_natCast, Option.elim_some, Bool.true_and, Bool.false_or, Bool.or_true, Bool.and_true, Bool.or_false, cond_tf, Nat.lt_irrefl]
  exact key realC
theorem same24_eq (h1 : t.1.length ≤ 20) (h2 : t.2.2.1.length ≤ 40) : m_spoondriftref24_Same (t, t, ()) = some (b1 true) := by
  have key : ∀ (C : Cmb) [CmbOk C], M_spoondriftref24_Same C (t, t, ()) = some (b1 true) := by
    intro C _
    unfold M_spoondriftref24_Same
    dsimp only
    rw [join_real]
    simp only [len_ne, bne_self_eq_false, cond_false, ne_eq, not_true, decide_false]
    refine loop_run (C := C) st1 t.1.length fuelL (fuel_big (by omega)) (fun k hk again => ?_) fun again => ?_
    · simp only [cast0, ofNat_c, lt_cast, decide_true, decide_false, cond_true, cond_false, inB_cast, grd_real, join_real, Int.toNat_natCast, Option.elim_some, Bool.true_and, Bool.false_or, Bool.or_true, Bool.and_true, Bool.or_false, cond_tf, hk, wrap_nat (show k < 4294967296 by omega), bne_self_eq_false]
    · simp only [ofNat_c, lt_cast, decide_true, decide_false, cond_true, cond_false, inB_cast, grd_real, join_real, Int.toNat_natCast, Option.elim_some, Bool.true_and, Bool.false_or, Bool.or_true, Bool.and_true, Bool.or_false, cond_tf, Nat.lt_irrefl]
      refine loop_run (C := C) st1 t.2.2.1.length fuelL (fuel_big (by omega)) (fun k hk again => ?_) fun again => ?_
      · simp only [cast0, ofNat_c, lt_cast, decide_true, decide_false, cond_true, cond_false, inB_cast, grd_real, join_real, Int.toNat_natCast, Option.elim_some, Bool.true_and, Bool.false_or, Bool.or_true, Bool.and_true, Bool.or_false, cond_tf, hk, wrap_nat (show k < 4294967296 by omega), beq_self_eq_true, bne_self_eq_false]
      · simp only [ofNat_c, lt_cast, decide_true, decide_false, cond_true, cond_false, inB_cast, grd_real, join_real, Int.toNat_natCast, Option.elim_some, Bool.true_and, Bool.false_or, Bool.or_true, Bool.and_true, Bool.or_false, cond_tf, Nat.lt_irrefl]
  exact key realC
theorem sameGate_eq {g : Gate} (h : g.2.1.length < 4294967296) : m_spoondriftkit_SameGate (g, g, ()) = some (b1 true) := by
  have key : ∀ (C : Cmb) [CmbOk C], M_spoondriftkit_SameGate C (g, g, ()) = some (b1 true) := by
    intro C _
    unfold M_spoondriftkit_SameGate
    simp only [join_real, beq_self_eq_true, cond_true, equal_eq h, Option.elim_some]
  exact key realC
theorem same_eq (h : Small c) : m_spoondriftkit_Same (c, c, ()) = some (b1 true) := by
  have key : ∀ (C : Cmb) [CmbOk C], M_spoondriftkit_Same C (c, c, ()) = some (b1 true) := by
    intro C _
    unfold M_spoondriftkit_Same
    dsimp only
    rw [join_real]
    simp only [len_ne, beq_self_eq_true, cond_true, ne_eq, not_true, decide_false, cond_false]
    refine loop_run (C := C) st1 c.2.2.1.length fuelL (fuel_big (by have := h.1; omega)) (fun k hk again => ?_) fun again => ?_
    · have hw := h.2 _ (List.getElem_mem hk)
      have hn := h.1
      simp only [cast0, ofNat_c, lt_cast, decide_true, decide_false, cond_true, cond_false, inB_cast, grd_real, join_real, Int.toNat_natCast, Option.elim_some, Bool.true_and, Bool.false_or, Bool.or_true, Bool.and_true, Bool.or_false, cond_tf, hk, getD_in hk, sameGate_eq (h.wires hk), wrap_nat (show k < 4294967296 by omega), Bool.not_true]
    · simp only [ofNat_c, lt_cast, decide_true, decide_false, cond_true, cond_false, inB_cast, grd_real, join_real, Int.toNat_natCast, Option.elim_some, Bool.true_and, Bool.false_or, Bool.or_true, Bool.and_true, Bool.or_false, cond_tf, Nat.lt_irrefl]
  exact key realC
end Go.Canon
namespace Go.Canon
set_option linter.unusedVariables false
set_option linter.unusedSimpArgs false
open Go
variable {t : Clk} {c : Circ}
theorem ge_nn' {a : Nat} : geI (a : Int) ((0 : Nat) : Int) = true := by simp [geI]
/-- The numbers from a on below n. -/
def aftL (a n : Nat) : List Nat := (List.range (n - a)).map fun k => a + k
theorem aftL_len {a n : Nat} : (aftL a n).length = n - a := by simp [aftL]
theorem aftL_get {a n k : Nat} (h : k < (aftL a n).length) : (aftL a n)[k] = a + k := by simp [aftL]
theorem aftL_mem {a n j : Nat} : j ∈ aftL a n ↔ a ≤ j ∧ j < n := by
  simp only [aftL, List.mem_map, List.mem_range]
  exact ⟨fun ⟨k, h1, h2⟩ => by omega, fun h => ⟨j - a, by omega, by omega⟩⟩
/-- The greatest time up to x at which nothing is disturbed. -/
structure FreeL (t : Clk) (c : Circ) (f : Int → Int → Bool) (i : Nat) (starts : List Int) (x r : Int) : Prop where
  le : r ≤ x
  no : ∀ j, i < j → j < c.2.2.1.length → hitB t c f i starts r j = false
  ge : ∀ y, y ≤ x → (∀ j, i < j → j < c.2.2.1.length → hitB t c f i starts y j = false) → y ≤ r
/-- The greatest time before those that a gate holds. -/
def capStep (t : Clk) (c : Circ) (i : Nat) (starts : List Int) (m : Int) (k : Nat) : Int := bif meetB (gt c i) (gt c k) then mn2 m (starts.getD k 0 - lateG t (gt c i) (gt c k) - lenG t (gt c i)) else m
def capP (t : Clk) (c : Circ) (i : Nat) (starts : List Int) (time : Int) : Int := (aftL (i + 1) c.2.2.1.length).foldl (capStep t c i starts) (time - lenG t (gt c i))
theorem le_cap {i : Nat} {starts : List Int} {time y : Int} : y ≤ capP t c i starts time ↔ y ≤ time - lenG t (gt c i) ∧ ∀ j, i < j → j < c.2.2.1.length → meetB (gt c i) (gt c j) = true → y ≤ starts.getD j 0 - (lenG t (gt c i) + lateG t (gt c i) (gt c j)) := by
  have key : ∀ (l : List Nat) (m : Int), y ≤ l.foldl (capStep t c i starts) m ↔ y ≤ m ∧ ∀ j ∈ l, meetB (gt c i) (gt c j) = true → y ≤ starts.getD j 0 - (lenG t (gt c i) + lateG t (gt c i) (gt c j)) := by
    intro l
    induction l with
    | nil => intro m; simp
    | cons a l ih =>
      intro m
      rw [List.foldl_cons, ih]
      unfold capStep mn2
      constructor
      · rintro ⟨h1, h2⟩
        cases hm : meetB (gt c i) (gt c a) with
        | false =>
          rw [hm, cond_false] at h1
          refine ⟨h1, fun j hj hmj => ?_⟩
          rcases List.mem_cons.1 hj with rfl | hj
          · rw [hm] at hmj; cases hmj
          · exact h2 j hj hmj
        | true =>
          rw [hm, cond_true] at h1
          have h3 : y ≤ m ∧ y ≤ starts.getD a 0 - lateG t (gt c i) (gt c a) - lenG t (gt c i) := by
            split at h1 <;> omega
          refine ⟨h3.1, fun j hj hmj => ?_⟩
          rcases List.mem_cons.1 hj with rfl | hj
          · omega
          · exact h2 j hj hmj
      · rintro ⟨h1, h2⟩
        refine ⟨?_, fun j hj => h2 j (List.mem_cons_of_mem _ hj)⟩
        cases hm : meetB (gt c i) (gt c a) with
        | false => exact h1
        | true =>
          have := h2 a List.mem_cons_self hm
          rw [cond_true]
          split <;> omega
  unfold capP
  rw [key]
  refine and_congr_right fun _ => ⟨fun h j h1 h2 => h j (aftL_mem.2 ⟨h1, h2⟩), fun h j hj => h j (aftL_mem.1 hj).1 (aftL_mem.1 hj).2⟩
/-- Late starts for a time. -/
def LateS (t : Clk) (c : Circ) (f : Int → Int → Bool) (time : Int) (l : List Int) : Prop := ∀ i, i < c.2.2.1.length → FreeL t c f i l (capP t c i l time) (l.getD i 0)
/-- Only the starts behind a gate matter. -/
def SameL (c : Circ) (i : Nat) (a b : List Int) : Prop := ∀ j, i < j → j < c.2.2.1.length → a.getD j 0 = b.getD j 0
theorem cap_same {i : Nat} {a b : List Int} {time : Int} (h : SameL c i a b) : capP t c i a time = capP t c i b time := by
  unfold capP
  refine foldl_congr2 fun j hj m => ?_
  unfold capStep
  rw [h j (aftL_mem.1 hj).1 (aftL_mem.1 hj).2]
theorem hitL_same {i : Nat} {a b : List Int} (h : SameL c i a b) {f : Int → Int → Bool} {x : Int} {j : Nat} (h1 : i < j) (h2 : j < c.2.2.1.length) : hitB t c f i a x j = hitB t c f i b x j := by
  unfold hitB; rw [h j h1 h2]
theorem freeL_same {i : Nat} {a b : List Int} (h : SameL c i a b) {f : Int → Int → Bool} {x r : Int} (H : FreeL t c f i a x r) : FreeL t c f i b x r :=
  ⟨H.le, fun j h1 h2 => by rw [← hitL_same h h1 h2]; exact H.no j h1 h2, fun y hy hn => H.ge y hy fun j h1 h2 => by rw [hitL_same h h1 h2]; exact hn j h1 h2⟩
theorem freeL_unique {i : Nat} {starts : List Int} {f : Int → Int → Bool} {x r s : Int} (a : FreeL t c f i starts x r) (b : FreeL t c f i starts x s) : r = s := by
  have h1 := a.ge s b.le b.no
  have h2 := b.ge r a.le a.no
  omega
theorem upto_getA {a b k : Nat} (hk : k < b - a) : (uptoS a b).getD k 0 = ((a + k : Nat) : Int) := by
  have : k < (uptoS a b).length := by simp [uptoS]; exact hk
  rw [getD_in this]; simp [uptoS]
theorem upto_lenA {a b : Nat} : (uptoS a b).length = b - a := by simp [uptoS]
/-- How many begins lie before x. -/
def begB (t : Clk) (c : Circ) (starts : List Int) (i : Nat) (x : Int) : Nat := ((List.range c.2.2.1.length).filter fun j => decide (starts.getD j 0 - lenG t (gt c i) < x)).length
theorem filter_lt {l : List Nat} {p q : Nat → Bool} {j : Nat} (hj : j ∈ l) (h1 : ∀ a, p a = true → q a = true) (h2 : p j = false) (h3 : q j = true) : (l.filter p).length < (l.filter q).length := by
  have h : ∀ (l : List Nat), ((l.filter p).length ≤ (l.filter q).length) ∧ (j ∈ l → (l.filter p).length < (l.filter q).length) := by
    intro l
    induction l with
    | nil => exact ⟨Nat.le_refl _, fun h => by cases h⟩
    | cons a l ih =>
      simp only [List.filter_cons]
      cases hp : p a with
      | true =>
        simp only [h1 a hp, if_true, List.length_cons]
        refine ⟨by omega, fun hm => ?_⟩
        rcases List.mem_cons.1 hm with rfl | hm
        · rw [h2] at hp; cases hp
        · have := ih.2 hm; omega
      | false =>
        simp only [Bool.false_eq_true, if_false]
        cases hq : q a with
        | true => simp only [if_true, List.length_cons]; exact ⟨by omega, fun _ => by omega⟩
        | false =>
          simp only [Bool.false_eq_true, if_false]
          refine ⟨ih.1, fun hm => ?_⟩
          rcases List.mem_cons.1 hm with rfl | hm
          · rw [h3] at hq; cases hq
          · exact ih.2 hm
  exact (h l).2 hj
theorem beg_lt {starts : List Int} {i : Nat} {x y : Int} {j : Nat} (hj : j < c.2.2.1.length) (hy : y = starts.getD j 0 - lenG t (gt c i)) (hxy : y < x) : begB t c starts i y < begB t c starts i x := by
  unfold begB
  refine filter_lt (j := j) (List.mem_range.2 hj) (fun a h => ?_) ?_ ?_
  · simp only [decide_eq_true_eq] at h ⊢; omega
  · rw [decide_eq_false]; omega
  · rw [decide_eq_true]; omega
theorem p_before (H : Ok t c) {i : Nat} (hi : i < c.2.2.1.length) {starts : List Int} (hs : starts.length = c.2.2.1.length) (hb : Bnd 1000000 starts) {m : List (List Int × Bool)} {f : Int → Int → Bool} (hm : saysN m f) {x0 : Int} (hx : -2000000 ≤ x0 ∧ x0 ≤ 2000000) :
    ∃ r, (FreeL t c f i starts x0 r ∧ -2000000 ≤ r) ∧ m_sched_plan_before ((c, t.1, t.2.1, m, ()), (i : Int), x0, uptoS (i + 1) c.2.2.1.length, starts, ()) = some (i1 r) := by
  have key : ∀ (C : Cmb) [CmbOk C], ∃ r : (Int × Unit) × Unit, (FreeL t c f i starts x0 r.1.1 ∧ -2000000 ≤ r.1.1) ∧ M_sched_plan_before C ((c, t.1, t.2.1, m, ()), (i : Int), x0, uptoS (i + 1) c.2.2.1.length, starts, ()) = some r := by
    intro C _
    unfold M_sched_plan_before
    dsimp only
    have hn := H.n120
    have hli := H.lenB hi
    refine loop_ex (fun x : (Int × Unit) × Unit => -2000000 ≤ x.1.1 ∧ x.1.1 ≤ 2000000) (fun x => begB t c starts i x.1.1) (fun x (r : (Int × Unit) × Unit) => FreeL t c f i starts x.1.1 r.1.1 ∧ -2000000 ≤ r.1.1) (fun x hI => ?_) fuelL ((x0, ()), ()) hx (fuel_big (Nat.lt_of_le_of_lt (List.length_filter_le _ _) (by rw [List.length_range]; omega)))
    obtain ⟨⟨x, u⟩, u2⟩ := x
    have hI : -2000000 ≤ x ∧ x ≤ 2000000 := hI
    have hr : (aftL (i + 1) c.2.2.1.length).length = c.2.2.1.length - (i + 1) := aftL_len
    have walk : ∀ again : (Int × Unit) × Unit → Option ((Int × Unit) × Unit), @Cmb.loop C ((Int × Int × Unit) × Unit) ((Int × Unit) × Unit) (fun (x : (Int × Int × PUnit) × PUnit) (again_1 : (Int × Int × PUnit) × PUnit → Option ((Int × PUnit) × PUnit)) => bif ltI x.fst.snd.fst (Int.ofNat (List.length (uptoS (i + 1) c.2.2.1.length))) then C.grd (inB x.fst.snd.fst (List.length (uptoS (i + 1) c.2.2.1.length))) (C.grd (inB (List.getD (uptoS (i + 1) c.2.2.1.length) x.fst.snd.fst.toNat 0) (List.length starts)) ((m_sched_plan_on ((c, t.1, t.2.1, m, ()), List.getD (uptoS (i + 1) c.2.2.1.length) x.fst.snd.fst.toNat 0, List.getD starts (List.getD (uptoS (i + 1) c.2.2.1.length) x.fst.snd.fst.toNat 0).toNat 0, ())).elim none fun (val : ((Int × Int × PUnit) × PUnit) × PUnit) => C.join (fun (x_1 : (Bool × PUnit) × PUnit) => bif x_1.fst.fst then (m_sched_plan_length ((c, t.1, t.2.1, m, ()), (i : Int), ())).elim none fun (val_1 : (Int × PUnit) × PUnit) => again ((IntKind.i64.wrap (val.fst.fst.fst - val_1.fst.fst), ()), ()) else again_1 ((x.fst.fst, IntKind.i64.wrap (x.fst.snd.fst + Int.ofNat 1), ()), ())) fun (kont : (Bool × PUnit) × PUnit → Option ((Int × PUnit) × PUnit)) => (m_sched_plan_disturb ((c, t.1, t.2.1, m, ()), (i : Int), List.getD (uptoS (i + 1) c.2.2.1.length) x.fst.snd.fst.toNat 0, ())).elim none fun (val_1 : (Bool × PUnit) × PUnit) => bif val_1.fst.fst then (m_sched_plan_on ((c, t.1, t.2.1, m, ()), (i : Int), x.fst.fst, ())).elim none fun (val_2 : ((Int × Int × PUnit) × PUnit) × PUnit) => (m_sched_span_overlaps (val_2.fst.fst, val.fst.fst, ())).elim none fun (val : (Bool × PUnit) × PUnit) => kont ((bif true then val.fst.fst else false, ()), ()) else kont ((false, ()), ()))) else some ((x.fst.fst, ()), ())) fuelL ((x, Int.ofNat 0, ()), ()) =
        if (aftL (i + 1) c.2.2.1.length).findIdx (hitB t c f i starts x) < (aftL (i + 1) c.2.2.1.length).length then again ((starts.getD (i + 1 + (aftL (i + 1) c.2.2.1.length).findIdx (hitB t c f i starts x)) 0 - lenG t (gt c i), ()), ()) else some ((x, ()), ()) := by
      intro again
      refine loop_find2 (C := C) (l := aftL (i + 1) c.2.2.1.length) (p := hitB t c f i starts x) (R := fun k => again ((starts.getD (i + 1 + k) 0 - lenG t (gt c i), ()), ())) (E := some ((x, ()), ())) (n := fuelL) (fun k => ((x, (k : Int), ()), ())) (fuel_big (by rw [hr]; omega)) (fun k hk again2 => ?_) fun again2 => ?_
      · have hk1 := hk
        rw [hr] at hk
        have hj : i + 1 + k < c.2.2.1.length := by omega
        have hks : i + 1 + k < starts.length := by omega
        have hsk := hb _ (List.getElem_mem hks)
        have hlk := H.lenB hj
        simp only [ofNat_c, lt_cast, decide_true, decide_false, cond_true, cond_false, inB_cast, grd_real, join_real, Int.toNat_natCast, Option.elim_some, Bool.true_and, Bool.false_or, Bool.or_true, Bool.and_true, Bool.or_false, cond_tf, upto_lenA, hk, upto_getA hk, hks, aftL_get, p_disturb H hi hj hm, getD_in hks, p_on H hj (show -1000000000 ≤ starts[i + 1 + k] ∧ starts[i + 1 + k] ≤ 1000000000 by omega), p_on H hi (show -1000000000 ≤ x ∧ x ≤ 1000000000 by omega), p_over hli.1 hlk.1, p_length H hi, hitB, wrap_nat (show k < 4294967296 by omega)]
        rw [wrap_in (a := starts[i + 1 + k] - lenG t (gt c i)) (by omega) (by omega)]
        cases distM f (gt c i) (gt c (i + 1 + k)) <;> rfl
      · simp only [ofNat_c, lt_cast, decide_true, decide_false, cond_true, cond_false, inB_cast, grd_real, join_real, Int.toNat_natCast, Option.elim_some, Bool.true_and, Bool.false_or, Bool.or_true, Bool.and_true, Bool.or_false, cond_tf, upto_lenA, hr, Nat.lt_irrefl]
    generalize hfi : (aftL (i + 1) c.2.2.1.length).findIdx (hitB t c f i starts x) = j0 at walk
    by_cases hf : j0 < (aftL (i + 1) c.2.2.1.length).length
    · have hp : hitB t c f i starts x (i + 1 + j0) = true := by
        have := List.findIdx_getElem (p := hitB t c f i starts x) (xs := aftL (i + 1) c.2.2.1.length) (w := by rw [hfi]; exact hf)
        rw [aftL_get, hfi] at this
        exact this
      have hj : i + 1 + j0 < c.2.2.1.length := by omega
      have hks : i + 1 + j0 < starts.length := by omega
      have hsk := hb _ (List.getElem_mem hks)
      have hlk := H.lenB hj
      have hov : x < starts.getD (i + 1 + j0) 0 + lenG t (gt c (i + 1 + j0)) ∧ starts.getD (i + 1 + j0) 0 < x + lenG t (gt c i) ∧ distM f (gt c i) (gt c (i + 1 + j0)) = true := by
        simp only [hitB, overB, Bool.and_eq_true, decide_eq_true_eq] at hp
        exact ⟨hp.2.1, hp.2.2, hp.1⟩
      refine .inr ⟨((starts.getD (i + 1 + j0) 0 - lenG t (gt c i), ()), ()), ⟨?_, ?_⟩, beg_lt hj rfl (show starts.getD (i + 1 + j0) 0 - lenG t (gt c i) < x by omega), fun r hr => ⟨⟨Int.le_trans hr.1.le (by show starts.getD (i + 1 + j0) 0 - lenG t (gt c i) ≤ x; omega), hr.1.no, fun y hy hno => hr.1.ge y ?_ hno⟩, hr.2⟩, fun again => ?_⟩
      · show -2000000 ≤ starts.getD (i + 1 + j0) 0 - lenG t (gt c i)
        rw [getD_in hks]; omega
      · show starts.getD (i + 1 + j0) 0 - lenG t (gt c i) ≤ 2000000
        rw [getD_in hks]; omega
      · show y ≤ starts.getD (i + 1 + j0) 0 - lenG t (gt c i)
        have := hno (i + 1 + j0) (by omega) hj
        have hy : y ≤ x := hy
        simp only [hitB, hov.2.2, Bool.true_and, overB, Bool.and_eq_false_iff, decide_eq_false_iff_not] at this
        omega
      · exact (walk again).trans (if_pos hf)
    · refine .inl ⟨((x, ()), ()), ⟨⟨Int.le_refl _, fun j h1 h2 => ?_, fun y hy _ => hy⟩, hI.1⟩, fun again => (walk again).trans (if_neg hf)⟩
      have hn2 : ¬ ((aftL (i + 1) c.2.2.1.length).any (hitB t c f i starts x) = true) := fun h => hf (by have := find_any.2 h; rw [hfi] at this; exact this)
      have := List.any_eq_false.1 (Bool.eq_false_iff.2 hn2) j (aftL_mem.2 ⟨h1, h2⟩)
      exact Bool.eq_false_iff.2 this
  obtain ⟨r, h1, h2⟩ := key realC
  exact ⟨r.1.1, h1, h2⟩
end Go.Canon
namespace Go.Canon
set_option linter.unusedVariables false
set_option linter.unusedSimpArgs false
open Go
variable {t : Clk} {c : Circ}
/-- A time at which a gate may begin, with those behind it as they are. -/
structure ValL (t : Clk) (c : Circ) (time : Int) (i : Nat) (starts : List Int) (y : Int) : Prop where
  le : y ≤ time - lenG t (gt c i)
  meet : ∀ j, i < j → j < c.2.2.1.length → meetB (gt c i) (gt c j) = true → y ≤ starts.getD j 0 - (lenG t (gt c i) + lateG t (gt c i) (gt c j))
  no : ∀ j, i < j → j < c.2.2.1.length → hitB t c (noisyB t) i starts y j = false
def mostL (t : Clk) (c : Circ) (i : Nat) (starts : List Int) (x : Int) (j : Nat) : Int :=
  bif distB t (gt c i) (gt c j) && overB (starts.getD j 0) (lenG t (gt c j)) x (lenG t (gt c i)) then mn2 (bif meetB (gt c i) (gt c j) then mn2 x (starts.getD j 0 - (lenG t (gt c i) + lateG t (gt c i) (gt c j))) else x) (starts.getD j 0 - lenG t (gt c i)) else
  bif meetB (gt c i) (gt c j) then mn2 x (starts.getD j 0 - (lenG t (gt c i) + lateG t (gt c i) (gt c j))) else x
def passL (t : Clk) (c : Circ) (i : Nat) (starts : List Int) (p : Int × Bool) (j : Nat) : Int × Bool :=
  if mostL t c i starts p.1 j < p.1 then (mostL t c i starts p.1 j, true) else p
theorem hit_l {i : Nat} {starts : List Int} {y : Int} {j : Nat} : (distB t (gt c i) (gt c j) && overB (starts.getD j 0) (lenG t (gt c j)) y (lenG t (gt c i))) = hitB t c (noisyB t) i starts y j := by
  unfold hitB
  rw [over_symm, ← dist_is]
theorem min_mn2 {a b : Int} : List.foldl mn2 a [b] = mn2 a b := rfl
theorem gtI_lt {a b : Int} : gtI a b = ltI b a := rfl
theorem passL_eq {i : Nat} {starts : List Int} {p : Int × Bool} {j : Nat} : passL t c i starts p j = bif ltI (mostL t c i starts p.1 j) p.1 then (mostL t c i starts p.1 j, true) else p := by
  unfold passL ltI
  by_cases h : mostL t c i starts p.1 j < p.1
  · rw [if_pos h, decide_eq_true h]; rfl
  · rw [if_neg h, decide_eq_false h]; rfl
theorem mn2_ge {a b y : Int} (h1 : y ≤ a) (h2 : y ≤ b) : y ≤ mn2 a b := by unfold mn2; split <;> omega
theorem most_ge {time : Int} {i : Nat} {starts : List Int} {x y : Int} {j : Nat} (h1 : i < j) (h2 : j < c.2.2.1.length) (V : ValL t c time i starts y) (hx : y ≤ x) : y ≤ mostL t c i starts x j := by
  unfold mostL
  rw [hit_l]
  have hm : y ≤ bif meetB (gt c i) (gt c j) then mn2 x (starts.getD j 0 - (lenG t (gt c i) + lateG t (gt c i) (gt c j))) else x := by
    cases hm : meetB (gt c i) (gt c j) with
    | true =>
      have := V.meet j h1 h2 hm
      rw [cond_true]; unfold mn2; split <;> omega
    | false => exact hx
  cases hh : hitB t c (noisyB t) i starts x j with
  | true =>
    have h3 := V.no j h1 h2
    simp only [hitB, overB, Bool.and_eq_true, decide_eq_true_eq] at hh
    simp only [hitB, overB, hh.1, Bool.true_and, Bool.and_eq_false_iff, decide_eq_false_iff_not] at h3
    rw [cond_true]; exact mn2_ge hm (by omega)
  | false => exact hm
theorem passL_ok {time : Int} {i : Nat} {starts : List Int} : ∀ (l : List Nat) (p : Int × Bool), (∀ j ∈ l, i < j ∧ j < c.2.2.1.length) →
    (l.foldl (passL t c i starts) p).1 ≤ p.1 ∧ (∀ y, ValL t c time i starts y → y ≤ p.1 → y ≤ (l.foldl (passL t c i starts) p).1) ∧
    ((l.foldl (passL t c i starts) p).2 = false → p.2 = false ∧ (l.foldl (passL t c i starts) p).1 = p.1 ∧ ∀ j ∈ l, p.1 ≤ mostL t c i starts p.1 j) ∧
    ((l.foldl (passL t c i starts) p).2 = true → p.2 = true ∨ (l.foldl (passL t c i starts) p).1 < p.1)
  | [], p, _ => ⟨Int.le_refl _, fun _ _ h => h, fun h => ⟨h, rfl, fun _ hj => by cases hj⟩, fun h => .inl h⟩
  | j :: l, p, h => by
    have hj := h j List.mem_cons_self
    obtain ⟨a1, a2, a3, a4⟩ := passL_ok (time := time) l (passL t c i starts p j) fun q hq => h q (List.mem_cons_of_mem _ hq)
    rw [List.foldl_cons]
    by_cases hr : mostL t c i starts p.1 j < p.1
    · have e : passL t c i starts p j = (mostL t c i starts p.1 j, true) := if_pos hr
      rw [e] at a1 a2 a3 a4 ⊢
      refine ⟨by have a1 : _ ≤ mostL t c i starts p.1 j := a1; omega, fun y V hy => a2 y V (most_ge hj.1 hj.2 V hy), fun hf => ?_, fun _ => .inr (by have a1 : _ ≤ mostL t c i starts p.1 j := a1; omega)⟩
      have := (a3 hf).1
      cases this
    · have e : passL t c i starts p j = p := if_neg hr
      rw [e] at a1 a2 a3 a4 ⊢
      refine ⟨a1, a2, fun hf => ?_, a4⟩
      obtain ⟨b1, b2, b3⟩ := a3 hf
      refine ⟨b1, b2, fun q hq => ?_⟩
      rcases List.mem_cons.1 hq with rfl | hq
      · omega
      · exact b3 q hq
theorem valL_of {time : Int} {i : Nat} {starts : List Int} {x : Int} (h0 : x ≤ time - lenG t (gt c i)) (h : ∀ j, i < j → j < c.2.2.1.length → x ≤ mostL t c i starts x j) : ValL t c time i starts x := by
  refine ⟨h0, fun j h1 h2 hm => ?_, fun j h1 h2 => ?_⟩
  · have := h j h1 h2
    unfold mostL at this
    rw [hit_l] at this
    have hh : hitB t c (noisyB t) i starts x j = false := by
      unfold hitB distM
      rw [hm]
      simp
    rw [hh, hm, cond_false, cond_true] at this
    unfold mn2 at this
    split at this <;> omega
  · have := h j h1 h2
    unfold mostL at this
    rw [hit_l] at this
    cases hh : hitB t c (noisyB t) i starts x j with
    | false => rfl
    | true =>
      rw [hh, cond_true] at this
      simp only [hitB, overB, Bool.and_eq_true, decide_eq_true_eq] at hh
      unfold mn2 at this
      split at this <;> cases hm : meetB (gt c i) (gt c j) <;> rw [hm] at this <;> simp only [cond_true, cond_false] at this <;> (try split at this) <;> omega
theorem valL_of_free {time : Int} {i : Nat} {starts : List Int} {r : Int} (F : FreeL t c (noisyB t) i starts (capP t c i starts time) r) : ValL t c time i starts r :=
  ⟨(le_cap.1 F.le).1, (le_cap.1 F.le).2, F.no⟩
theorem val_le_free {time : Int} {i : Nat} {starts : List Int} {r y : Int} (F : FreeL t c (noisyB t) i starts (capP t c i starts time) r) (V : ValL t c time i starts y) : y ≤ r :=
  F.ge y (le_cap.2 ⟨V.le, V.meet⟩) V.no
theorem freeL_ex (H : Ok t c) {i : Nat} (hi : i < c.2.2.1.length) {starts : List Int} (hs : starts.length = c.2.2.1.length) (hb : Bnd 1000000 starts) {x : Int} (hx : -2000000 ≤ x ∧ x ≤ 2000000) : ∃ r, FreeL t c (noisyB t) i starts x r := by
  obtain ⟨r, ⟨h, _⟩, _⟩ := p_before H hi hs hb H.says hx
  exact ⟨r, h⟩
theorem freeL_bound (H : Ok t c) {i : Nat} {starts : List Int} {f : Int → Int → Bool} {x r B : Int} (hf : FreeL t c f i starts x r) (hx : B ≤ x) (h : ∀ j, i < j → j < c.2.2.1.length → B ≤ starts.getD j 0 - lenG t (gt c i)) : B ≤ r := by
  refine hf.ge B hx fun j h1 h2 => ?_
  have := h j h1 h2
  unfold hitB overB
  rw [decide_eq_false (show ¬ starts.getD j 0 < B + lenG t (gt c i) by omega)]
  simp
theorem r_late (H : Ok t c) {time : Int} (ht : 0 ≤ time ∧ time ≤ 100000) : ∃ l, (LateS t c (noisyB t) time l ∧ l.length = c.2.2.1.length ∧ Bnd 200000 l) ∧ m_spoondriftref24_late (t, c, time, ()) = some (((), ()), (l, ()), ()) := by
  have key : ∀ (C : Cmb) [CmbOk C], ∃ r : (Unit × Unit) × (List Int × Unit) × Unit, (LateS t c (noisyB t) time r.2.1.1 ∧ r.2.1.1.length = c.2.2.1.length ∧ Bnd 200000 r.2.1.1) ∧ M_spoondriftref24_late C (t, c, time, ()) = some r := by
    intro C _
    unfold M_spoondriftref24_late
    dsimp only
    have hn := H.n120
    have hg : (leI 0 (Int.ofNat c.2.2.1.length) && eqI (Int.ofNat c.2.2.1.length) (Int.ofNat c.2.2.1.length) && leN ((Int.ofNat c.2.2.1.length).toNat * 8) roomB) = true := by
      rw [show (Int.ofNat c.2.2.1.length).toNat = c.2.2.1.length from rfl, room_ok (by omega) (by decide)]
      simp [leI, eqI]
    rw [grd_real, hg, cond_true]
    have e0 : IntKind.i64.wrap (Int.ofNat c.2.2.1.length - Int.ofNat 1) = (c.2.2.1.length : Int) - 1 := wrap_in (by simp; omega) (by simp; omega)
    rw [e0]
    refine loop_ex (fun x : StE => ∃ k : Nat, x.1.1 = (k : Int) - 1 ∧ k ≤ c.2.2.1.length ∧ x.2.1.1.length = c.2.2.1.length ∧ Bnd 200000 x.2.1.1 ∧ ∀ j, k ≤ j → j < c.2.2.1.length → FreeL t c (noisyB t) j x.2.1.1 (capP t c j x.2.1.1 time) (x.2.1.1.getD j 0) ∧ time - 300 * ((c.2.2.1.length : Int) - j) ≤ x.2.1.1.getD j 0 ∧ x.2.1.1.getD j 0 ≤ time)
      (fun x => (x.1.1 + 1).toNat) (fun x (r : (Unit × Unit) × (List Int × Unit) × Unit) => LateS t c (noisyB t) time r.2.1.1 ∧ r.2.1.1.length = c.2.2.1.length ∧ Bnd 200000 r.2.1.1) (fun x hI => ?_) fuelL (((c.2.2.1.length : Int) - 1, ()), (List.replicate c.2.2.1.length 0, ()), ())
      ⟨c.2.2.1.length, rfl, Nat.le_refl _, List.length_replicate, fun x hx => by rw [(List.mem_replicate.1 hx).2]; decide, fun j h1 h2 => by omega⟩ (fuel_big (by show ((c.2.2.1.length : Int) - 1 + 1).toNat < _; omega))
    obtain ⟨⟨z, u1⟩, ⟨starts, u2⟩, u3⟩ := x
    obtain ⟨k, hz, hk, hl, hbd, hI⟩ := hI
    replace hz : z = (k : Int) - 1 := hz
    replace hl : starts.length = c.2.2.1.length := hl
    replace hbd : Bnd 200000 starts := hbd
    replace hI : ∀ j, k ≤ j → j < c.2.2.1.length → FreeL t c (noisyB t) j starts (capP t c j starts time) (starts.getD j 0) ∧ time - 300 * ((c.2.2.1.length : Int) - j) ≤ starts.getD j 0 ∧ starts.getD j 0 ≤ time := hI
    cases k with
    | zero =>
      subst hz
      refine .inl ⟨(((), ()), (starts, ()), ()), ⟨fun i hi => ?_, hl, hbd⟩, fun again => ?_⟩
      · have hi : i < c.2.2.1.length := hi
        exact (hI i (Nat.zero_le _) hi).1
      · rfl
    | succ i =>
      replace hz : z = (i : Int) := by omega
      subst hz
      have hlt : i < c.2.2.1.length := by omega
      have hbd1 : Bnd 1000000 starts := fun x hx => by have := hbd x hx; omega
      have hli := H.lenB hlt
      have hcap : time - 300 * ((c.2.2.1.length : Int) - i) ≤ capP t c i starts time := le_cap.2 ⟨by omega, fun j h1 h2 _ => by
        have h3 := (hI j (by omega) h2).2
        have h4 := H.lateB (g := gt c i) (h := gt c j)
        omega⟩
      have hcap2 := (le_cap (t := t) (c := c) (i := i) (starts := starts) (time := time)).1 (Int.le_refl _)
      obtain ⟨r, hr⟩ := freeL_ex H hlt hl hbd1 (x := capP t c i starts time) (by omega)
      have hrb : time - 300 * ((c.2.2.1.length : Int) - i) ≤ r := freeL_bound H hr hcap fun j h1 h2 => by
        have h3 := (hI j (by omega) h2).2
        omega
      have hrt : r ≤ time - lenG t (gt c i) := Int.le_trans hr.le hcap2.1
      have his : i < starts.length := by omega
      refine .inr ⟨(((i : Int) - 1, ()), (starts.set i r, ()), ()), ⟨i, rfl, Nat.le_of_lt hlt, by show (starts.set i r).length = _; rw [List.length_set, hl], fun x hx => ?_, fun j h1 h2 => ?_⟩, ?_, fun _ h => h, fun again => ?_⟩
      · rcases List.mem_or_eq_of_mem_set hx with h | h
        · exact hbd x h
        · subst h; omega
      · show FreeL t c (noisyB t) j (starts.set i r) (capP t c j (starts.set i r) time) ((starts.set i r).getD j 0) ∧ _ ≤ (starts.set i r).getD j 0 ∧ (starts.set i r).getD j 0 ≤ _
        have sm : ∀ q, i ≤ q → SameL c q starts (starts.set i r) := fun q hq j h3 h4 => by rw [set_get his, if_neg (by omega)]
        by_cases hji : j = i
        · subst hji
          rw [← cap_same (sm j (by omega)), set_get his, if_pos rfl]
          exact ⟨freeL_same (sm j (by omega)) hr, hrb, by omega⟩
        · rw [← cap_same (sm j (by omega)), ← sm i (Nat.le_refl _) j (by omega) h2]
          have := hI j (by omega) h2
          exact ⟨freeL_same (sm j (by omega)) this.1, this.2⟩
      · show ((i : Int) - 1 + 1).toNat < ((i : Int) + 1).toNat
        omega
      have hlong : m_spoondriftref24_long (t, gt c i, ()) = some (i1 (lenG t (gt c i))) := r_long H hlt
      have ei : IntKind.i64.wrap ((i : Int) - 1) = (i : Int) - 1 := wrap_in (by omega) (by omega)
      simp only [ofNat_c, lt_cast, decide_true, decide_false, cond_true, cond_false, inB_cast, grd_real, join_real, Int.toNat_natCast, Option.elim_some, Bool.true_and, Bool.false_or, Bool.or_true, Bool.and_true, Bool.or_false, cond_tf, ge_nn', hlt, gt_eq, hlong]
      rw [wrap_in (a := time - lenG t (gt c i)) (by omega) (by omega)]
      refine loop_meas (C := C) (fun x : (Int × Bool × Unit) × Unit => (r ≤ x.1.1 ∧ x.1.1 ≤ time - lenG t (gt c i)) ∧ (x.1.2.1 = false → x.1.1 = r)) (fun x => (x.1.1 - r).toNat + (bif x.1.2.1 then 1 else 0)) (fun x hx => ?_) fuelL ((time - lenG t (gt c i), true, ()), ()) ⟨⟨hrt, Int.le_refl _⟩, fun h => by cases h⟩ (fuel_big (by show (time - lenG t (gt c i) - r).toNat + 1 < _; omega))
      obtain ⟨⟨at_, b, u4⟩, u5⟩ := x
      obtain ⟨⟨hx1, hx2⟩, hx3⟩ := hx
      cases b with
      | false =>
        have hx3 : at_ = r := hx3 rfl
        subst hx3
        refine .inl fun again2 => ?_
        simp only [ofNat_c, lt_cast, decide_true, decide_false, cond_true, cond_false, inB_cast, grd_real, join_real, Int.toNat_natCast, Option.elim_some, Bool.true_and, Bool.false_or, Bool.or_true, Bool.and_true, Bool.or_false, cond_tf, his, ltb_in his]
        rw [show ((1 : Nat) : Int) = 1 from rfl, ei]
      | true =>
        have hx1 : r ≤ at_ := hx1
        have hx2 : at_ ≤ time - lenG t (gt c i) := hx2
        have hal : (aftL (i + 1) c.2.2.1.length).length = c.2.2.1.length - (i + 1) := aftL_len
        have hpo : ∀ q, _ := fun q => passL_ok (t := t) (c := c) (time := time) (i := i) (starts := starts) ((aftL (i + 1) c.2.2.1.length).take q) (at_, false) fun j hj => aftL_mem.1 (List.mem_of_mem_take hj)
        have hfull : (aftL (i + 1) c.2.2.1.length).take (aftL (i + 1) c.2.2.1.length).length = aftL (i + 1) c.2.2.1.length := List.take_length
        have hp := hpo (aftL (i + 1) c.2.2.1.length).length
        rw [hfull] at hp
        generalize hfin : (aftL (i + 1) c.2.2.1.length).foldl (passL t c i starts) (at_, false) = fin at hp
        have hV := valL_of_free hr
        have hp1 : fin.1 ≤ at_ := hp.1
        have hp2 := hp.2.1 r hV hx1
        refine .inr ⟨((fin.1, fin.2, ()), ()), ⟨⟨hp2, by show fin.1 ≤ _; omega⟩, fun hf => ?_⟩, ?_, fun again2 => ?_⟩
        · obtain ⟨_, e, h⟩ := hp.2.2.1 hf
          have e : fin.1 = at_ := e
          have hv := valL_of (t := t) (c := c) (time := time) (i := i) (starts := starts) (x := at_) hx2 fun j h1 h2 => h j (aftL_mem.2 ⟨h1, h2⟩)
          have hle : at_ ≤ r := val_le_free hr hv
          show fin.1 = r
          omega
        · show (fin.1 - r).toNat + (bif fin.2 then 1 else 0) < (at_ - r).toNat + 1
          cases hf : fin.2 with
          | false => simp only [cond_false]; omega
          | true =>
            rcases hp.2.2.2 hf with h | h
            · cases h
            · have h : fin.1 < at_ := h
              simp only [cond_true]; omega
        simp only [ofNat_c, lt_cast, decide_true, decide_false, cond_true, cond_false, inB_cast, grd_real, join_real, Int.toNat_natCast, Option.elim_some, Bool.true_and, Bool.false_or, Bool.or_true, Bool.and_true, Bool.or_false, cond_tf, wrap_nat (show i < 4294967296 by omega)]
        rw [← hfin]
        refine loop_fold (C := C) (l := aftL (i + 1) c.2.2.1.length) (f := passL t c i starts) (c := (at_, false)) (E := fun p => again2 ((p.1, p.2, ()), ())) (n := fuelL) (fun q p => ((p.1, p.2, ((i + 1 + q : Nat) : Int), ()), ())) (fuel_big (by rw [hal]; omega)) (fun q hq again3 => ?_) fun again3 => ?_
        · have hq0 := hq
          rw [hal] at hq
          have hq2 := hpo q
          generalize (List.take q (aftL (i + 1) c.2.2.1.length)).foldl (passL t c i starts) (at_, false) = p at hq2 ⊢
          obtain ⟨p1, p2⟩ := p
          have q1 : p1 ≤ at_ := hq2.1
          have q2 : r ≤ p1 := hq2.2.1 r hV hx1
          rw [aftL_get]
          generalize hjj : i + 1 + q = j
          have hij : i < j := by omega
          have hj2 : j < c.2.2.1.length := by omega
          have hjs : j < starts.length := by omega
          have hlj := H.lenB hj2
          have hla := H.lateB (g := gt c i) (h := gt c j)
          have hsj := (hI j (by omega) hj2).2
          have hlong2 : m_spoondriftref24_long (t, gt c j, ()) = some (i1 (lenG t (gt c j))) := r_long H hj2
          have haft : m_spoondriftref24_after (t, gt c i, gt c j, ()) = some (i1 (aftS t (gt c i) (gt c j))) := r_after H hj2 hlt
          have hdis : m_spoondriftref24_disturb (t, gt c i, gt c j, ()) = some (b1 (distB t (gt c i) (gt c j))) := r_disturb H hlt hj2
          have hov := r_over (a := starts.getD j 0) (l := lenG t (gt c j)) (b := p1) (k := lenG t (gt c i)) (by omega) (by omega) hlj hli
          have ej : i + 1 + (q + 1) = j + 1 := by omega
          simp only [ofNat_c, lt_cast, decide_true, decide_false, cond_true, cond_false, inB_cast, grd_real, join_real, Int.toNat_natCast, Option.elim_some, Bool.true_and, Bool.false_or, Bool.or_true, Bool.and_true, Bool.or_false, cond_tf, hj2, hlt, gt_eq, haft, hdis, hlong2, hjs, ltb_in hjs, hov, aftS_ge H hli.1, ej, wrap_nat (show j < 4294967296 by omega), show ((0 : Nat) : Int) = 0 from rfl, passL_eq, mostL, min_mn2, gtI_lt]
          rw [wrap_in (a := starts.getD j 0 - lenG t (gt c i)) (by omega) (by omega)]
          have hw : meetB (gt c i) (gt c j) = true → IntKind.wrap .i64 (starts.getD j 0 - aftS t (gt c i) (gt c j)) = starts.getD j 0 - (lenG t (gt c i) + lateG t (gt c i) (gt c j)) := fun hm => by
            unfold aftS
            rw [hm, cond_true, wrap_in (by omega) (by omega)]
          cases hd : distB t (gt c i) (gt c j) <;> cases ho : overB (starts.getD j 0) (lenG t (gt c j)) p1 (lenG t (gt c i)) <;> cases hm : meetB (gt c i) (gt c j) <;> simp only [cond_true, cond_false, Bool.and_true, Bool.and_false, Bool.true_and, Bool.false_and]
          all_goals first | rw [hw hm] | skip
          all_goals generalize ltI _ p1 = bb
          all_goals cases bb <;> rfl
        · rw [hal, show i + 1 + (c.2.2.1.length - (i + 1)) = c.2.2.1.length by omega]
          simp only [ofNat_c, lt_cast, decide_true, decide_false, cond_true, cond_false, inB_cast, grd_real, join_real, Int.toNat_natCast, Option.elim_some, Bool.true_and, Bool.false_or, Bool.or_true, Bool.and_true, Bool.or_false, cond_tf, Nat.lt_irrefl]
  obtain ⟨r, h1, h2⟩ := key realC
  exact ⟨r.2.1.1, h1, h2⟩
end Go.Canon
namespace Go.Canon
set_option linter.unusedVariables false
set_option linter.unusedSimpArgs false
open Go
variable {t : Clk} {c : Circ}
theorem loop_meas1 {α σ : Type} {C : Cmb} [CmbOk C] {body : σ → (σ → Option α) → Option α} {r : Option α} (I : σ → Prop) (μ : σ → Nat) (step : ∀ x, I x → ∃ d : Option σ, (∀ y, d = some y → I y ∧ μ y < μ x) ∧ ∀ again, body x again = d.elim r again) (n : Nat) (x : σ) (hi : I x) (h : μ x < n) : @Cmb.loop C σ α body n x = r :=
  loop_meas I μ (fun x hx => by
    obtain ⟨d, h1, h2⟩ := step x hx
    cases d with
    | none => exact .inl h2
    | some y => exact .inr ⟨y, (h1 y rfl).1, (h1 y rfl).2, h2⟩) n x hi h
/-- What the program hands back of late starts. -/
def lateR (l : List Int) : (Unit × Bool × Unit) × (List Int × Unit) × Unit := bif l.any (fun x => decide (x < 0)) then (((), false, ()), ([], ()), ()) else (((), true, ()), (l, ()), ())
theorem p_latest (H : Ok t c) {m : List (List Int × Bool)} {f : Int → Int → Bool} (hm : saysN m f) {time : Int} (ht : 0 ≤ time ∧ time ≤ 100000) {L : List Int} (hL : LateS t c f time L) (hLl : L.length = c.2.2.1.length) (hLb : Bnd 200000 L) :
    m_sched_plan_latest ((c, t.1, t.2.1, m, ()), time, ()) = some (lateR L) := by
  have key : ∀ (C : Cmb) [CmbOk C], M_sched_plan_latest C ((c, t.1, t.2.1, m, ()), time, ()) = some (lateR L) := by
    intro C _
    unfold M_sched_plan_latest
    dsimp only
    have hn := H.n120
    have hg : (leI 0 (Int.ofNat c.2.2.1.length) && eqI (Int.ofNat c.2.2.1.length) (Int.ofNat c.2.2.1.length) && leN ((Int.ofNat c.2.2.1.length).toNat * 8) roomB) = true := by
      rw [show (Int.ofNat c.2.2.1.length).toNat = c.2.2.1.length from rfl, room_ok (by omega) (by decide)]
      simp [leI, eqI]
    rw [grd_real, hg, cond_true]
    have e0 : IntKind.i64.wrap (Int.ofNat c.2.2.1.length - Int.ofNat 1) = (c.2.2.1.length : Int) - 1 := wrap_in (by simp; omega) (by simp; omega)
    rw [e0]
    refine loop_meas1 (C := C) (fun x : StE => ∃ k : Nat, x.1.1 = (k : Int) - 1 ∧ k ≤ c.2.2.1.length ∧ x.2.1.1.length = c.2.2.1.length ∧ Bnd 200000 x.2.1.1 ∧ ∀ j, k ≤ j → j < c.2.2.1.length → x.2.1.1.getD j 0 = L.getD j 0 ∧ 0 ≤ L.getD j 0)
      (fun x => (x.1.1 + 1).toNat) (fun x hI => ?_) fuelL (((c.2.2.1.length : Int) - 1, ()), (List.replicate c.2.2.1.length 0, ()), ())
      ⟨c.2.2.1.length, rfl, Nat.le_refl _, List.length_replicate, fun x hx => by rw [(List.mem_replicate.1 hx).2]; decide, fun j h1 h2 => by omega⟩ (fuel_big (by show ((c.2.2.1.length : Int) - 1 + 1).toNat < _; omega))
    obtain ⟨⟨z, u1⟩, ⟨starts, u2⟩, u3⟩ := x
    obtain ⟨k, hz, hk, hl, hbd, hI⟩ := hI
    replace hz : z = (k : Int) - 1 := hz
    replace hl : starts.length = c.2.2.1.length := hl
    replace hbd : Bnd 200000 starts := hbd
    replace hI : ∀ j, k ≤ j → j < c.2.2.1.length → starts.getD j 0 = L.getD j 0 ∧ 0 ≤ L.getD j 0 := hI
    cases k with
    | zero =>
      subst hz
      refine ⟨none, fun _ h => (by cases h), fun again => ?_⟩
      have e : starts = L := by
        apply List.ext_getElem (by rw [hl, hLl])
        intro i h1 h2
        have := (hI i (Nat.zero_le _) (by omega)).1
        rw [getD_in h1, getD_in h2] at this
        exact this
      have ha : L.any (fun x => decide (x < 0)) = false := by
        rw [List.any_eq_false]
        intro x hx
        obtain ⟨i, hi, rfl⟩ := List.getElem_of_mem hx
        have := (hI i (Nat.zero_le _) (by omega)).2
        rw [getD_in hi] at this
        simp; omega
      unfold lateR
      rw [ha, e]
      rfl
    | succ i =>
      replace hz : z = (i : Int) := by omega
      subst hz
      have hlt : i < c.2.2.1.length := by omega
      have hbd1 : Bnd 1000000 starts := fun x hx => by have := hbd x hx; omega
      have hli := H.lenB hlt
      have his : i < starts.length := by omega
      have hiL : i < L.length := by omega
      have sm : SameL c i L starts := fun j h1 h2 => (hI j (by omega) h2).1.symm
      have hLi := hL i hlt
      rw [cap_same sm] at hLi
      have hLi := freeL_same sm hLi
      have hLib := hLb _ (List.getElem_mem hiL)
      rw [← getD_in (d := 0) hiL] at hLib
      have hcap2 := (le_cap (t := t) (c := c) (i := i) (starts := starts) (time := time)).1 (Int.le_refl _)
      have hcle := hLi.le
      obtain ⟨r, ⟨hr, hr2⟩, he⟩ := p_before H hlt hl hbd1 hm (x0 := capP t c i starts time) (by omega)
      have hrL : r = L.getD i 0 := freeL_unique hr hLi
      subst hrL
      have hu : m_sched_upto (((i + 1 : Nat) : Int), (c.2.2.1.length : Int), ()) = some (((), ()), (uptoS (i + 1) c.2.2.1.length, ()), ()) := upto_eq hlt (by omega)
      have ei : IntKind.i64.wrap ((i : Int) - ((1 : Nat) : Int)) = (i : Int) - 1 := wrap_in (by omega) (by omega)
      have he : m_sched_plan_before ((c, t.1, t.2.1, m, ()), (i : Int), (aftL (i + 1) c.2.2.1.length).foldl (capStep t c i starts) (time - lenG t (gt c i)), uptoS (i + 1) c.2.2.1.length, starts, ()) = some (i1 (L.getD i 0)) := he
      refine ⟨if L.getD i 0 < 0 then none else some (((i : Int) - 1, ()), (starts.set i (L.getD i 0), ()), ()), fun y hy => ?_, fun again => ?_⟩
      · split at hy
        · cases hy
        · rename_i h0
          cases hy
          refine ⟨⟨i, rfl, Nat.le_of_lt hlt, by show (starts.set i _).length = _; rw [List.length_set, hl], fun x hx => ?_, fun j h1 h2 => ?_⟩, ?_⟩
          · rcases List.mem_or_eq_of_mem_set hx with h | h
            · exact hbd x h
            · subst h; exact hLib
          · show (starts.set i (L.getD i 0)).getD j 0 = L.getD j 0 ∧ _
            rw [set_get his]
            by_cases hji : j = i
            · subst hji; rw [if_pos rfl]; exact ⟨rfl, by omega⟩
            · rw [if_neg hji]; exact hI j (by omega) h2
          · show ((i : Int) - 1 + 1).toNat < ((i : Int) + 1).toNat
            omega
      simp only [ofNat_c, lt_cast, decide_true, decide_false, cond_true, cond_false, inB_cast, grd_real, join_real, Int.toNat_natCast, Option.elim_some, Bool.true_and, Bool.false_or, Bool.or_true, Bool.and_true, Bool.or_false, cond_tf, ge_nn', p_length H hlt]
      rw [wrap_in (a := time - lenG t (gt c i)) (by omega) (by omega), wrap_nat (show i < 4294967296 by omega)]
      refine loop_fold (C := C) (l := aftL (i + 1) c.2.2.1.length) (f := capStep t c i starts) (c := time - lenG t (gt c i)) (E := fun _ => _)
        (n := fuelL) (fun q a => ((a, ((i + 1 + q : Nat) : Int), ()), ())) (fuel_big (by rw [aftL_len]; omega)) (fun q hq again3 => ?_) (fun again3 => ?_)
      · have hq0 := hq
        rw [aftL_len] at hq
        rw [aftL_get]
        generalize (List.take q (aftL (i + 1) c.2.2.1.length)).foldl (capStep t c i starts) (time - lenG t (gt c i)) = p
        generalize hjj : i + 1 + q = j
        have hij : i < j := by omega
        have hj2 : j < c.2.2.1.length := by omega
        have hjs : j < starts.length := by omega
        have hla := H.lateB (g := gt c i) (h := gt c j)
        have hsj := hbd1 _ (List.getElem_mem hjs)
        rw [← getD_in (d := 0) hjs] at hsj
        have ej : i + 1 + (q + 1) = j + 1 := by omega
        simp only [ofNat_c, lt_cast, decide_true, decide_false, cond_true, cond_false, inB_cast, grd_real, join_real, Int.toNat_natCast, Option.elim_some, Bool.true_and, Bool.false_or, Bool.or_true, Bool.and_true, Bool.or_false, cond_tf, hj2, hlt, hjs, ltb_in hjs, p_holds H hj2 hlt, p_late H hj2 hlt, p_length H hlt, ej, wrap_nat (show j < 4294967296 by omega), capStep]
        rw [wrap_in (a := starts.getD j 0 - lateG t (gt c i) (gt c j)) (by omega) (by omega), wrap_in (a := starts.getD j 0 - lateG t (gt c i) (gt c j) - lenG t (gt c i)) (by omega) (by omega)]
        cases meetB (gt c i) (gt c j) <;> rfl
      · rw [aftL_len, show i + 1 + (c.2.2.1.length - (i + 1)) = c.2.2.1.length by omega]
        simp only [ofNat_c, lt_cast, decide_true, decide_false, cond_true, cond_false, inB_cast, grd_real, join_real, Int.toNat_natCast, Option.elim_some, Bool.true_and, Bool.false_or, Bool.or_true, Bool.and_true, Bool.or_false, cond_tf, Nat.lt_irrefl, his, ltb_in his, hu, he, ei, set_get his, if_true]
        by_cases h0 : L.getD i 0 < 0
        · have ha : L.any (fun x => decide (x < 0)) = true := by
            rw [List.any_eq_true]
            exact ⟨L[i], List.getElem_mem hiL, by rw [← getD_in (d := 0) hiL]; exact decide_eq_true h0⟩
          rw [show ltI (L.getD i 0) ((0 : Nat) : Int) = true from decide_eq_true h0, if_pos h0]
          unfold lateR
          rw [ha]; rfl
        · rw [show ltI (L.getD i 0) ((0 : Nat) : Int) = false from decide_eq_false h0, if_neg h0]
          rfl
  exact key realC
end Go.Canon
namespace Go.Canon
set_option linter.unusedVariables false
set_option linter.unusedSimpArgs false
open Go
variable {t : Clk} {c : Circ}
/-- The ends of gates. -/
def endL (t : Clk) (c : Circ) (starts : List Int) : List Int := (List.range c.2.2.1.length).map fun i => starts.getD i 0 + lenG t (gt c i)
def endS (t : Clk) (c : Circ) (starts : List Int) : Int := (endL t c starts).foldl mx2 0
theorem max_of_fold {l : List Int} (h : ∀ x ∈ l, 0 ≤ x) : maxS l = l.foldl mx2 0 := by
  cases l with
  | nil => rfl
  | cons x l =>
    have := h x List.mem_cons_self
    show l.foldl mx2 x = l.foldl mx2 (mx2 0 x)
    rw [show mx2 0 x = x from by unfold mx2; split <;> omega]
theorem fold_le {B : Int} : ∀ {l : List Int} {m : Int}, m ≤ B → (∀ x ∈ l, x ≤ B) → l.foldl mx2 m ≤ B
  | [], m, h, _ => h
  | x :: l, m, h, hl => fold_le (l := l) (by have := hl x List.mem_cons_self; unfold mx2; split <;> omega) fun y hy => hl y (List.mem_cons_of_mem _ hy)
theorem fold_ge : ∀ {l : List Int} {m : Int}, m ≤ l.foldl mx2 m ∧ ∀ x ∈ l, x ≤ l.foldl mx2 m
  | [], m => ⟨Int.le_refl _, fun _ h => by cases h⟩
  | x :: l, m => by
    obtain ⟨h1, h2⟩ := fold_ge (l := l) (m := mx2 m x)
    have h3 : m ≤ mx2 m x ∧ x ≤ mx2 m x := by unfold mx2; split <;> omega
    rw [List.foldl_cons]
    refine ⟨by omega, fun y hy => ?_⟩
    rcases List.mem_cons.1 hy with rfl | hy
    · omega
    · exact h2 y hy
theorem endL_len {starts : List Int} : (endL t c starts).length = c.2.2.1.length := by simp [endL]
theorem endL_get {starts : List Int} {k : Nat} (h : k < (endL t c starts).length) : (endL t c starts)[k] = starts.getD k 0 + lenG t (gt c k) := by simp [endL]
theorem end_take {starts : List Int} {k : Nat} (h : k < c.2.2.1.length) : (endL t c starts).take (k + 1) = (endL t c starts).take k ++ [starts.getD k 0 + lenG t (gt c k)] := by
  have h1 : k < (endL t c starts).length := by rw [endL_len]; exact h
  rw [List.take_add_one, List.getElem?_eq_getElem h1, endL_get]; rfl
theorem p_end (H : Ok t c) {starts : List Int} (hs : starts.length = c.2.2.1.length) (hb : ∀ x ∈ starts, 0 ≤ x ∧ x ≤ 1000000) {m : List (List Int × Bool)} : m_sched_plan_end ((c, t.1, t.2.1, m, ()), starts, ()) = some (i1 (endS t c starts)) := by
  have key : ∀ (C : Cmb) [CmbOk C], M_sched_plan_end C ((c, t.1, t.2.1, m, ()), starts, ()) = some (i1 (endS t c starts)) := by
    intro C _
    unfold M_sched_plan_end
    dsimp only
    have hn := H.n120
    refine loop_run (C := C) (fun k : Nat => ((((), (k : Int), ()), ((endL t c starts).take k, ()), ()) : (Unit × Int × Unit) × (List Int × Unit) × Unit)) c.2.2.1.length fuelL (fuel_big (by omega)) (fun k hk again => ?_) fun again => ?_
    · have hks : k < starts.length := by omega
      have hb1 := hb _ (List.getElem_mem hks)
      rw [← getD_in (d := 0) hks] at hb1
      have hl := H.lenB hk
      rw [end_take hk]
      simp only [ofNat_c, lt_cast, decide_true, decide_false, cond_true, cond_false, inB_cast, grd_real, join_real, Int.toNat_natCast, Option.elim_some, Bool.true_and, Bool.false_or, Bool.or_true, Bool.and_true, Bool.or_false, cond_tf, hk, hks, p_length H hk, List.length_singleton, List.length_take, endL_len, wrap_nat (show k < 4294967296 by omega)]
      rw [wrap_in (a := starts.getD k 0 + lenG t (gt c k)) (by omega) (by omega), room_ok (by omega) (by decide)]
      rfl
    · have e : (endL t c starts).take c.2.2.1.length = endL t c starts := List.take_of_length_le (by rw [endL_len]; exact Nat.le_refl _)
      simp only [ofNat_c, lt_cast, decide_true, decide_false, cond_true, cond_false, inB_cast, grd_real, join_real, Int.toNat_natCast, Option.elim_some, Bool.true_and, Bool.false_or, Bool.or_true, Bool.and_true, Bool.or_false, cond_tf, hs, Nat.lt_irrefl, e]
      rw [greatest_eq (by rw [endL_len]; omega), max_of_fold fun x hx => ?_]
      · rfl
      · simp only [endL, List.mem_map, List.mem_range] at hx
        obtain ⟨i, hi, rfl⟩ := hx
        have his : i < starts.length := by omega
        have := hb _ (List.getElem_mem his)
        rw [← getD_in (d := 0) his] at this
        have := H.lenB hi
        omega
  exact key realC
theorem r_end (H : Ok t c) {starts : List Int} (hs : starts.length = c.2.2.1.length) (hb : ∀ x ∈ starts, 0 ≤ x ∧ x ≤ 1000000) {q : List (List Int)} : m_spoondriftref24_end ((t.1, t.2.1, q, ()), c, starts, ()) = some (i1 (endS t c starts)) := by
  have key : ∀ (C : Cmb) [CmbOk C], M_spoondriftref24_end C ((t.1, t.2.1, q, ()), c, starts, ()) = some (i1 (endS t c starts)) := by
    intro C _
    unfold M_spoondriftref24_end endS
    dsimp only
    have hn := H.n120
    refine loop_fold (C := C) (l := endL t c starts) (f := mx2) (c := 0) (E := fun m => some (i1 m)) (n := fuelL) (fun k m => ((m, (k : Int), ()), ())) (fuel_big (by rw [endL_len]; omega)) (fun k hk again => ?_) fun again => ?_
    · rw [endL_get]
      rw [endL_len] at hk
      have hks : k < starts.length := by omega
      have hb1 := hb _ (List.getElem_mem hks)
      rw [← getD_in (d := 0) hks] at hb1
      have hl := H.lenB hk
      simp only [ofNat_c, lt_cast, decide_true, decide_false, cond_true, cond_false, inB_cast, grd_real, join_real, Int.toNat_natCast, Option.elim_some, Bool.true_and, Bool.false_or, Bool.or_true, Bool.and_true, Bool.or_false, cond_tf, hk, hks, gt_eq, r_long H hk, wrap_nat (show k < 4294967296 by omega)]
      rw [wrap_in (a := starts.getD k 0 + lenG t (gt c k)) (by omega) (by omega)]
      rfl
    · rw [endL_len]
      simp only [ofNat_c, lt_cast, decide_true, decide_false, cond_true, cond_false, inB_cast, grd_real, join_real, Int.toNat_natCast, Option.elim_some, Bool.true_and, Bool.false_or, Bool.or_true, Bool.and_true, Bool.or_false, cond_tf, Nat.lt_irrefl]
  exact key realC
abbrev LEs := (Unit × Int × Unit) × (List Int × Unit) × Unit
abbrev le (e : Int) (l : List Int) : LEs := (((), e, ()), (l, ()), ())
theorem ne0_t {e : Int} (h : e ≠ 0) : (e != ((0 : Nat) : Int)) = true := by
  show (e != 0) = true
  simpa using h
theorem ne0_f : ((0 : Int) != ((0 : Nat) : Int)) = false := rfl
theorem ok_of (h : Small c) (ht : t.2.2.1.length ≤ 40) (h2 : ∀ p ∈ t.2.2.1, List.length p = 2) (e : chk24 t c = 0) : Ok t c := ⟨h, ht, e, h2⟩
theorem early_both (h : Small c) (ht : t.2.2.1.length ≤ 40) (h2 : ∀ p ∈ t.2.2.1, List.length p = 2) : ∃ e l, l.length ≤ 1000000 ∧ m_sched_Early (t, c, ()) = some (le e l) ∧ m_spoondriftref24_Early (t, c, ()) = some (le e l) := by
  by_cases e : chk24 t c = 0
  · have H := ok_of h ht h2 e
    have hn := H.n120
    obtain ⟨l, ⟨hS, hl⟩, hp⟩ := p_early H H.says
    obtain ⟨l', ⟨hE, hl'⟩, hr⟩ := r_early H
    have hll : l = l' := early_unique (by rw [hl, hl']) hS.is hE
    subst hll
    refine ⟨0, l, by omega, ?_, ?_⟩
    · show (m_sched_opened (t, c, ())).elim none _ = _
      rw [opened_eq h ht, Option.elim_some, e, if_pos rfl]
      show (m_sched_plan_early (planS t c, ())).elim none _ = _
      unfold planS
      rw [hp]; rfl
    · show (m_spoondriftref24_Check (t, c, ())).elim none _ = _
      rw [check24_eq h ht, Option.elim_some, e]
      show (m_spoondriftref24_all ((c.2.2.1.length : Int), ())).elim none _ = _
      rw [r_all (by omega), Option.elim_some]
      show (m_spoondriftref24_early (t, c, uptoS 0 c.2.2.1.length, ())).elim none _ = _
      rw [hr]; rfl
  · refine ⟨chk24 t c, [], by decide, ?_, ?_⟩
    · show (m_sched_opened (t, c, ())).elim none _ = _
      rw [opened_eq h ht, Option.elim_some, if_neg e]
      show (bif chk24 t c != ((0 : Nat) : Int) then _ else _) = _
      rw [ne0_t e]; rfl
    · show (m_spoondriftref24_Check (t, c, ())).elim none _ = _
      rw [check24_eq h ht, Option.elim_some]
      show (bif chk24 t c != ((0 : Nat) : Int) then _ else _) = _
      rw [ne0_t e]; rfl
/-- What Late hands back of late starts. -/
def lateE (l : List Int) : LEs := bif l.any (fun x => decide (x < 0)) then le 13 [] else le 0 l
theorem late_both (h : Small c) (ht : t.2.2.1.length ≤ 40) (h2 : ∀ p ∈ t.2.2.1, List.length p = 2) {time : Int} : ∃ e l, l.length ≤ 1000000 ∧ m_sched_Late (t, c, time, ()) = some (le e l) ∧ m_spoondriftref24_Late (t, c, time, ()) = some (le e l) := by
  by_cases e : chk24 t c = 0
  · have H := ok_of h ht h2 e
    have hn := H.n120
    by_cases htm : 0 ≤ time ∧ time ≤ 100000
    · obtain ⟨L, ⟨hL, hl, hb⟩, hr⟩ := r_late H htm
      have hp := p_latest H H.says htm hL hl hb
      have e1 : ltI time ((0 : Nat) : Int) = false := decide_eq_false (by omega)
      have e2 : gtI time ((100000 : Nat) : Int) = false := decide_eq_false (by omega)
      refine ⟨(lateE L).1.2.1, (lateE L).2.1.1, ?_, ?_, ?_⟩
      · unfold lateE
        cases L.any (fun x => decide (x < 0)) with
        | true => show (0 : Nat) ≤ _; omega
        | false => show L.length ≤ _; omega
      · have key : ∀ (C : Cmb) [CmbOk C], M_sched_Late C (t, c, time, ()) = some (lateE L) := by
          intro C _
          unfold M_sched_Late
          have hp : m_sched_plan_latest (planS t c, time, ()) = some (lateR L) := hp
          simp only [ofNat_c, lt_cast, decide_true, decide_false, cond_true, cond_false, inB_cast, grd_real, join_real, Int.toNat_natCast, Option.elim_some, Bool.true_and, Bool.false_or, Bool.or_true, Bool.and_true, Bool.or_false, cond_tf, opened_eq h ht, e, if_true, ne0_f, e1, e2, hp]
          unfold lateR lateE
          cases L.any (fun x => decide (x < 0)) <;> rfl
        exact key realC
      · have key : ∀ (C : Cmb) [CmbOk C], M_spoondriftref24_Late C (t, c, time, ()) = some (lateE L) := by
          intro C _
          unfold M_spoondriftref24_Late
          simp only [ofNat_c, lt_cast, decide_true, decide_false, cond_true, cond_false, inB_cast, grd_real, join_real, Int.toNat_natCast, Option.elim_some, Bool.true_and, Bool.false_or, Bool.or_true, Bool.and_true, Bool.or_false, cond_tf, check24_eq h ht, e, ne0_f, e1, e2, hr]
          refine (loop_any2 (C := C) (l := L) (p := fun x => decide (x < 0)) (R := some (le 13 [])) (E := some (le 0 L)) (n := fuelL) st1 (fuel_big (by omega)) (fun k hk again => ?_) fun again => ?_).trans ?_
          · simp only [cast0, ofNat_c, lt_cast, decide_true, decide_false, cond_true, cond_false, inB_cast, grd_real, join_real, Int.toNat_natCast, Option.elim_some, Bool.true_and, Bool.false_or, Bool.or_true, Bool.and_true, Bool.or_false, cond_tf, hk, getD_in hk, ltb_in hk, wrap_nat (show k < 4294967296 by omega)]
            rfl
          · simp only [ofNat_c, lt_cast, decide_true, decide_false, cond_true, cond_false, inB_cast, grd_real, join_real, Int.toNat_natCast, Option.elim_some, Bool.true_and, Bool.false_or, Bool.or_true, Bool.and_true, Bool.or_false, cond_tf, Nat.lt_irrefl]; rfl
          · unfold lateE
            cases L.any (fun x => decide (x < 0)) <;> rfl
        exact key realC
    · refine ⟨3, [], by decide, ?_, ?_⟩
      · have key : ∀ (C : Cmb) [CmbOk C], M_sched_Late C (t, c, time, ()) = some (le 3 []) := by
          intro C _
          unfold M_sched_Late
          simp only [ofNat_c, lt_cast, decide_true, decide_false, cond_true, cond_false, inB_cast, grd_real, join_real, Int.toNat_natCast, Option.elim_some, Bool.true_and, Bool.false_or, Bool.or_true, Bool.and_true, Bool.or_false, cond_tf, opened_eq h ht, e, if_true, ne0_f]
          by_cases h1 : time < 0
          · rw [show ltI time ((0 : Nat) : Int) = true from decide_eq_true (by omega)]; rfl
          · rw [show ltI time ((0 : Nat) : Int) = false from decide_eq_false (by omega), show gtI time ((100000 : Nat) : Int) = true from decide_eq_true (by omega)]; rfl
        exact key realC
      · have key : ∀ (C : Cmb) [CmbOk C], M_spoondriftref24_Late C (t, c, time, ()) = some (le 3 []) := by
          intro C _
          unfold M_spoondriftref24_Late
          simp only [ofNat_c, lt_cast, decide_true, decide_false, cond_true, cond_false, inB_cast, grd_real, join_real, Int.toNat_natCast, Option.elim_some, Bool.true_and, Bool.false_or, Bool.or_true, Bool.and_true, Bool.or_false, cond_tf, check24_eq h ht, e, ne0_f]
          by_cases h1 : time < 0
          · rw [show ltI time ((0 : Nat) : Int) = true from decide_eq_true (by omega)]; rfl
          · rw [show ltI time ((0 : Nat) : Int) = false from decide_eq_false (by omega), show gtI time ((100000 : Nat) : Int) = true from decide_eq_true (by omega)]; rfl
        exact key realC
  · refine ⟨chk24 t c, [], by decide, ?_, ?_⟩
    · have key : ∀ (C : Cmb) [CmbOk C], M_sched_Late C (t, c, time, ()) = some (le (chk24 t c) []) := by
        intro C _
        unfold M_sched_Late
        simp only [ofNat_c, lt_cast, decide_true, decide_false, cond_true, cond_false, inB_cast, grd_real, join_real, Int.toNat_natCast, Option.elim_some, Bool.true_and, Bool.false_or, Bool.or_true, Bool.and_true, Bool.or_false, cond_tf, opened_eq h ht, if_neg e, ne0_t e]
      exact key realC
    · have key : ∀ (C : Cmb) [CmbOk C], M_spoondriftref24_Late C (t, c, time, ()) = some (le (chk24 t c) []) := by
        intro C _
        unfold M_spoondriftref24_Late
        simp only [ofNat_c, lt_cast, decide_true, decide_false, cond_true, cond_false, inB_cast, grd_real, join_real, Int.toNat_natCast, Option.elim_some, Bool.true_and, Bool.false_or, Bool.or_true, Bool.and_true, Bool.or_false, cond_tf, check24_eq h ht, ne0_t e]
      exact key realC
end Go.Canon
namespace Go.Canon
set_option linter.unusedVariables false
set_option linter.unusedSimpArgs false
open Go
variable {t : Clk} {c : Circ}
/-- The clock without pairs. -/
abbrev qt (t : Clk) : Clk := (t.1, t.2.1, [], ())
theorem Ok.quiet (H : Ok t c) : Ok (qt t) c := ⟨H.sm, Nat.zero_le _, by
  have e1 : clkE (qt t) = 0 := H.clk
  unfold chk24
  rw [if_neg (by simpa using e1), if_neg (by simpa using H.chk)]
  rfl, fun p hp => by cases hp⟩
theorem dist_f {g h : Gate} : distM (fun _ _ => false) g h = false := by
  unfold distM
  have e : (g.2.1.any fun a => h.2.1.any fun b => false) = false := by
    rw [List.any_eq_false]
    intro x _
    simp
  rw [e, Bool.and_false]
theorem hit_f {i : Nat} {starts : List Int} {x : Int} {j : Nat} : hitB t c (fun _ _ => false) i starts x j = false := by
  unfold hitB; rw [dist_f]; rfl
theorem late_ge (H : Ok t c) {E L : List Int} (hE : EarlyS t c (fun _ _ => false) E) (hEl : E.length = c.2.2.1.length) (hL : LateS t c (fun _ _ => false) (endS t c E) L) : ∀ i, i < c.2.2.1.length → E.getD i 0 ≤ L.getD i 0 := by
  have key : ∀ k j, c.2.2.1.length - k ≤ j → j < c.2.2.1.length → E.getD j 0 ≤ L.getD j 0 := by
    intro k
    induction k with
    | zero => intro j h1 h2; omega
    | succ k ih =>
      intro j h1 h2
      by_cases h3 : c.2.2.1.length - k ≤ j
      · exact ih j h3 h2
      · have hl := hL j h2
        refine Int.le_trans ?_ (hl.ge _ (Int.le_refl _) fun q _ _ => hit_f)
        rw [le_cap]
        refine ⟨?_, fun q h4 h5 hm => ?_⟩
        · have hme : E.getD j 0 + lenG t (gt c j) ∈ endL t c E := List.mem_map.2 ⟨j, List.mem_range.2 h2, rfl⟩
          have h6 := (fold_ge (l := endL t c E) (m := 0)).2 _ hme
          unfold endS; omega
        · have h6 := ih q (by omega) h5
          have h7 := (aft_le.1 (hE q (by omega)).ge).2 j h4 hm
          omega
  intro i hi
  exact key c.2.2.1.length i (by omega) hi
def slackL (c : Circ) (E L : List Int) : List Int := (List.range c.2.2.1.length).map fun i => L.getD i 0 - E.getD i 0
theorem slack_len {E L : List Int} : (slackL c E L).length = c.2.2.1.length := by simp [slackL]
theorem slack_take {E L : List Int} {k : Nat} (h : k < c.2.2.1.length) : (slackL c E L).take (k + 1) = (slackL c E L).take k ++ [L.getD k 0 - E.getD k 0] := by
  have h1 : k < (slackL c E L).length := by rw [slack_len]; exact h
  rw [List.take_add_one, List.getElem?_eq_getElem h1]; simp [slackL]
/-- All that is known of a quiet clock's early and late starts. -/
theorem slack_facts (H : Ok t c) : ∃ E L, (E.length = c.2.2.1.length ∧ L.length = c.2.2.1.length ∧ Bnd 200000 E ∧ Bnd 200000 L) ∧
    (∀ m, saysN m (fun _ _ => false) → m_sched_plan_early ((c, t.1, t.2.1, m, ()), ()) = some (((), ()), (E, ()), ()) ∧ m_sched_plan_end ((c, t.1, t.2.1, m, ()), E, ()) = some (i1 (endS t c E)) ∧ m_sched_plan_latest ((c, t.1, t.2.1, m, ()), endS t c E, ()) = some (((), true, ()), (L, ()), ())) ∧
    m_spoondriftref24_early (qt t, c, uptoS 0 c.2.2.1.length, ()) = some (((), ()), (E, ()), ()) ∧ m_spoondriftref24_end (qt t, c, E, ()) = some (i1 (endS t c E)) ∧ m_spoondriftref24_late (qt t, c, endS t c E, ()) = some (((), ()), (L, ()), ()) ∧ (∀ i, i < c.2.2.1.length → E.getD i 0 ≤ L.getD i 0) ∧ EarlyS (qt t) c (fun _ _ => false) E ∧ LateS (qt t) c (fun _ _ => false) (endS t c E) L ∧ 0 ≤ endS t c E := by
  have Hq := H.quiet
  have hn := H.n120
  obtain ⟨E, ⟨hE, hEl⟩, hrE⟩ := r_early Hq
  have hEb : ∀ x ∈ E, 0 ≤ x ∧ x ≤ 100000 := by
    obtain ⟨l, ⟨hS, hl⟩, hp⟩ := p_early (m := []) (f := noisyB (qt t)) Hq fun a b => rfl
    have hll : l = E := early_unique (by rw [hl, hEl]) hS.is hE
    subst hll
    intro x hx
    obtain ⟨j, hj, rfl⟩ := List.getElem_of_mem hx
    have := hS.bd j hj
    rw [getD_in hj] at this
    omega
  have hB : endS t c E ≤ 100000 := by
    obtain ⟨l, ⟨hS, hl⟩, hp⟩ := p_early (m := []) (f := noisyB (qt t)) Hq fun a b => rfl
    have hll : l = E := early_unique (by rw [hl, hEl]) hS.is hE
    subst hll
    refine fold_le (by decide) fun x hx => ?_
    simp only [endL, List.mem_map, List.mem_range] at hx
    obtain ⟨i, hi, rfl⟩ := hx
    have h1 := hS.bd i (by omega)
    have h2 := H.lenB hi
    omega
  have hB0 : 0 ≤ endS t c E := (fold_ge (l := endL t c E) (m := 0)).1
  obtain ⟨L, ⟨hL, hLl, hLb⟩, hrL⟩ := r_late Hq (time := endS t c E) ⟨hB0, hB⟩
  have hge := late_ge Hq (E := E) (L := L) hE hEl hL
  refine ⟨E, L, ⟨hEl, hLl, fun x hx => by have := hEb x hx; omega, hLb⟩, fun m hm => ⟨?_, ?_, ?_⟩, hrE, r_end H hEl (fun x hx => by have := hEb x hx; omega), hrL, hge, hE, hL, hB0⟩
  · obtain ⟨l, ⟨hS, hl⟩, hp⟩ := p_early Hq hm
    have hll : l = E := early_unique (by rw [hl, hEl]) hS.is hE
    subst hll
    exact hp
  · exact p_end H hEl fun x hx => by have := hEb x hx; omega
  · have := p_latest Hq hm (time := endS t c E) ⟨hB0, hB⟩ hL hLl hLb
    refine Eq.trans this ?_
    have ha : L.any (fun x => decide (x < 0)) = false := by
      rw [List.any_eq_false]
      intro x hx
      obtain ⟨i, hi, rfl⟩ := List.getElem_of_mem hx
      have h1 := hge i (by omega)
      have hiE : i < E.length := by omega
      have h2 := (hEb _ (List.getElem_mem hiE)).1
      rw [getD_in hi, getD_in hiE] at h1
      simp; omega
    unfold lateR
    rw [ha]; rfl
theorem slack_both (h : Small c) (ht : t.2.2.1.length ≤ 40) (h2 : ∀ p ∈ t.2.2.1, List.length p = 2) : ∃ e l, l.length ≤ 1000000 ∧ m_sched_Slack (t, c, ()) = some (le e l) ∧ m_spoondriftref24_Slack (t, c, ()) = some (le e l) := by
  by_cases e : chk24 t c = 0
  · have H := ok_of h ht h2 e
    have hn := H.n120
    obtain ⟨E, L, ⟨hEl, hLl, hEb, hLb⟩, hp, r1, r2, r3, hge, _⟩ := slack_facts H
    have hdb : ∀ k, k < c.2.2.1.length → IntKind.i64.wrap (L.getD k 0 - E.getD k 0) = L.getD k 0 - E.getD k 0 := fun k hk => by
      have hE := hEb _ (List.getElem_mem (show k < E.length by omega))
      have hL := hLb _ (List.getElem_mem (show k < L.length by omega))
      rw [getD_in (show k < E.length by omega), getD_in (show k < L.length by omega)]
      exact wrap_in (by omega) (by omega)
    refine ⟨0, slackL c E L, by rw [slack_len]; omega, ?_, ?_⟩
    · have key : ∀ (C : Cmb) [CmbOk C], M_sched_Slack C (t, c, ()) = some (le 0 (slackL c E L)) := by
        intro C _
        unfold M_sched_Slack
        dsimp only
        rw [clock_eq, Option.elim_some]
        have h0 : clkE t = 0 := H.clk
        show (bif (clkE t != 0) then _ else _) = _
        rw [show (clkE t != 0) = false from by simpa using h0, cond_false, circ_check h, Option.elim_some]
        have h1 : chk c = 0 := H.chk
        show (bif (chk c != 0) then _ else _) = _
        rw [show (chk c != 0) = false from by simpa using h1, cond_false, grd_real, cond_true]
        have hc : t.1.length = 14 := H.len14
        have e9 : prsE t.2.2.1 c.1 = 0 := by
          have := H.e
          unfold chk24 at this
          rw [if_neg (by simpa using h0), if_neg (by simpa using h1)] at this
          exact this
        have hno : ¬ t.2.2.1.findIdx (fun p => prE p c.1 != 0) < t.2.2.1.length := fun hh => by
          have hp := List.findIdx_getElem (w := hh)
          unfold prsE at e9
          rw [if_pos hh, getD_in hh] at e9
          rw [e9] at hp
          cases hp
        refine (loop_find2 (l := t.2.2.1) (p := fun p => prE p c.1 != 0) (R := fun k => some (le (prE (t.2.2.1.getD k []) c.1) [])) (E := some (le 0 (slackL c E L))) (n := fuelL) (fun k => (((k : Int), ()), (t.2.2.1.take k).foldl nzS [], ())) (fuel_big (by omega)) (fun k hk again => ?_) fun again => ?_).trans (if_neg hno)
        · have et : (t.2.2.1.take (k + 1)).foldl nzS [] = nzS ((t.2.2.1.take k).foldl nzS []) t.2.2.1[k] := by
            rw [List.take_add_one, List.getElem?_eq_getElem hk, List.foldl_append]; rfl
          rw [et]
          generalize (t.2.2.1.take k).foldl nzS [] = m
          simp only [cast0, ofNat_c, lt_cast, decide_true, decide_false, cond_true, cond_false, inB_cast, grd_real, join_real, Int.toNat_natCast, Option.elim_some, Bool.true_and, Bool.false_or, Bool.or_true, Bool.and_true, Bool.or_false, cond_tf, hk, getD_in hk, wrap_nat (show k < 4294967296 by omega), toN0, ltb0, ltb1, insMx, atMx, posMx, put_n, pos_n, min_eq, max_eq]; simp only [ltI, geI, min_lt, max_ge]
          unfold prE prB nzS
          generalize t.2.2.1[k] = p
          cases decide (p.getD 0 0 < 0) <;> cases decide (p.getD 0 0 ≥ c.1) <;> cases decide (p.getD 1 0 < 0) <;> cases decide (p.getD 1 0 ≥ c.1) <;> cases p.getD 0 0 == p.getD 1 0 <;> rfl
        · have ec : ∀ z : List Int, z.length = 14 → cpyL z 0 (min t.1.length (14 - 0)) t.1 = t.1 := fun z hz => by
            unfold cpyL
            rw [hc, List.take_zero, List.nil_append, show min 14 (14 - 0) = 14 from rfl, List.take_of_length_le (by omega), List.drop_of_length_le (by omega), List.append_nil]
          have ec2 : cpyL [Int.ofNat 0, Int.ofNat 0, Int.ofNat 0, Int.ofNat 0, Int.ofNat 0, Int.ofNat 0, Int.ofNat 0, Int.ofNat 0, Int.ofNat 0, Int.ofNat 0, Int.ofNat 0, Int.ofNat 0, Int.ofNat 0, Int.ofNat 0] (bif Nat.beq 14 0 then 0 else 0) (min t.1.length (14 - 0)) t.1 = t.1 := ec _ rfl
          obtain ⟨p1, p2, p3⟩ := hp [] fun a b => rfl
          rw [ec2]
          simp only [ofNat_c, lt_cast, decide_true, decide_false, cond_true, cond_false, inB_cast, grd_real, join_real, Int.toNat_natCast, Option.elim_some, Bool.true_and, Bool.false_or, Bool.or_true, Bool.and_true, Bool.or_false, cond_tf, Nat.lt_irrefl, p1, p2, p3]
          refine loop_run (C := C) (fun k : Nat => ((((), (k : Int), ()), ((slackL c E L).take k, ()), ()) : (Unit × Int × Unit) × (List Int × Unit) × Unit)) E.length fuelL (fuel_big (by omega)) (fun k hk again => ?_) fun again => ?_
          · have hkn : k < c.2.2.1.length := by omega
            rw [slack_take hkn]
            simp only [ofNat_c, lt_cast, decide_true, decide_false, cond_true, cond_false, inB_cast, grd_real, join_real, Int.toNat_natCast, Option.elim_some, Bool.true_and, Bool.false_or, Bool.or_true, Bool.and_true, Bool.or_false, cond_tf, hk, ltb_in hk, show k < L.length by omega, ltb_in (show k < L.length by omega), hdb k hkn, List.length_singleton, List.length_take, slack_len, wrap_nat (show k < 4294967296 by omega)]
            rw [room_ok (by omega) (by decide)]
            rfl
          · have e2 : (slackL c E L).take E.length = slackL c E L := List.take_of_length_le (by rw [slack_len]; omega)
            simp only [ofNat_c, lt_cast, decide_true, decide_false, cond_true, cond_false, inB_cast, grd_real, join_real, Int.toNat_natCast, Option.elim_some, Bool.true_and, Bool.false_or, Bool.or_true, Bool.and_true, Bool.or_false, cond_tf, Nat.lt_irrefl, e2]
            rfl
      exact key realC
    · have key : ∀ (C : Cmb) [CmbOk C], M_spoondriftref24_Slack C (t, c, ()) = some (le 0 (slackL c E L)) := by
        intro C _
        unfold M_spoondriftref24_Slack
        have hq : quietS t = qt t := by unfold quietS; rw [if_pos H.clk]
        simp only [ofNat_c, lt_cast, decide_true, decide_false, cond_true, cond_false, inB_cast, grd_real, join_real, Int.toNat_natCast, Option.elim_some, Bool.true_and, Bool.false_or, Bool.or_true, Bool.and_true, Bool.or_false, cond_tf, check24_eq h ht, e, ne0_f, quiet24_eq, hq, r_all (show c.2.2.1.length ≤ 100000 by omega), r1, r2, r3]
        refine loop_run (C := C) (fun k : Nat => ((((k : Int), ()), ((slackL c E L).take k ++ L.drop k, ()), ()) : (Int × Unit) × (List Int × Unit) × Unit)) L.length fuelL (fuel_big (by omega)) (fun k hk again => ?_) fun again => ?_
        · have hkn : k < c.2.2.1.length := by omega
          have hlen : ((slackL c E L).take k ++ L.drop k).length = L.length := by rw [List.length_append, List.length_take, List.length_drop, slack_len]; omega
          have hg : ((slackL c E L).take k ++ L.drop k).getD k 0 = L.getD k 0 := by
            rw [List.getD_eq_getElem?_getD, List.getD_eq_getElem?_getD, List.getElem?_append_right (by rw [List.length_take]; omega), List.length_take, slack_len, List.getElem?_drop]
            congr 2; omega
          have hset : ((slackL c E L).take k ++ L.drop k).set k (L.getD k 0 - E.getD k 0) = (slackL c E L).take (k + 1) ++ L.drop (k + 1) := by
            apply List.ext_getElem?
            intro i
            rw [List.getElem?_set, slack_take hkn]
            have hlk : ((slackL c E L).take k).length = k := by rw [List.length_take, slack_len]; omega
            by_cases h1 : k = i
            · subst h1
              rw [if_pos rfl, if_pos (by omega), List.append_assoc, List.getElem?_append_right (by omega), hlk, Nat.sub_self]
              rfl
            · rw [if_neg h1]
              by_cases h3 : i < k
              · rw [List.getElem?_append_left (by omega), List.getElem?_append_left (by rw [List.length_append, hlk]; simp; omega), List.getElem?_append_left (by omega)]
              · rw [List.getElem?_append_right (by omega), hlk, List.getElem?_append_right (by rw [List.length_append, hlk]; simp; omega), List.length_append, hlk, List.getElem?_drop, List.getElem?_drop]
                congr 1; simp; omega
          simp only [ofNat_c, lt_cast, decide_true, decide_false, cond_true, cond_false, inB_cast, grd_real, join_real, Int.toNat_natCast, Option.elim_some, Bool.true_and, Bool.false_or, Bool.or_true, Bool.and_true, Bool.or_false, cond_tf, hk, hlen, ltb_in hk, show k < E.length by omega, ltb_in (show k < E.length by omega), hg, hdb k hkn, hset, wrap_nat (show k < 4294967296 by omega)]
        · have e2 : (slackL c E L).take L.length = slackL c E L := List.take_of_length_le (by rw [slack_len]; omega)
          simp only [ofNat_c, lt_cast, decide_true, decide_false, cond_true, cond_false, inB_cast, grd_real, join_real, Int.toNat_natCast, Option.elim_some, Bool.true_and, Bool.false_or, Bool.or_true, Bool.and_true, Bool.or_false, cond_tf, Nat.lt_irrefl, e2, List.drop_length, List.append_nil]
          rfl
      exact key realC
  · refine ⟨chk24 t c, [], by decide, ?_, ?_⟩
    · have key : ∀ (C : Cmb) [CmbOk C], M_sched_Slack C (t, c, ()) = some (le (chk24 t c) []) := by
        intro C _
        unfold M_sched_Slack
        dsimp only
        rw [clock_eq, Option.elim_some]
        by_cases h0 : clkE t ≠ 0
        · have e : chk24 t c = clkE t := if_pos h0
          rw [e]
          have hb : (clkE t != 0) = true := by simpa using h0
          show (bif (clkE t != 0) then (bif (clkE t != 0) then _ else _) else _) = _
          rw [hb]; rfl
        show (bif (clkE t != 0) then _ else _) = _
        rw [show (clkE t != 0) = false from by simpa using h0, cond_false, circ_check h, Option.elim_some]
        by_cases h1 : chk c ≠ 0
        · have e : chk24 t c = chk c := by unfold chk24; rw [if_neg h0, if_pos h1]
          rw [e]
          have hb : (chk c != 0) = true := by simpa using h1
          show (bif (chk c != 0) then (bif (chk c != 0) then _ else _) else _) = _
          rw [hb]; rfl
        show (bif (chk c != 0) then _ else _) = _
        rw [show (chk c != 0) = false from by simpa using h1, cond_false, grd_real, cond_true]
        have e9 : chk24 t c = prsE t.2.2.1 c.1 := by unfold chk24; rw [if_neg h0, if_neg h1]
        have hyes : t.2.2.1.findIdx (fun p => prE p c.1 != 0) < t.2.2.1.length := by
          by_cases hh : t.2.2.1.findIdx (fun p => prE p c.1 != 0) < t.2.2.1.length
          · exact hh
          · rw [e9] at e; unfold prsE at e; rw [if_neg hh] at e; exact (e rfl).elim
        refine (loop_hit (l := t.2.2.1) (p := fun p => prE p c.1 != 0) (R := fun k => some (le (prE (t.2.2.1.getD k []) c.1) [])) (n := fuelL) (fun k => (((k : Int), ()), (t.2.2.1.take k).foldl nzS [], ())) (fuel_big (by omega)) hyes (fun k hk again => ?_)).trans ?_
        · have et : (t.2.2.1.take (k + 1)).foldl nzS [] = nzS ((t.2.2.1.take k).foldl nzS []) t.2.2.1[k] := by
            rw [List.take_add_one, List.getElem?_eq_getElem hk, List.foldl_append]; rfl
          rw [et]
          generalize (t.2.2.1.take k).foldl nzS [] = m
          simp only [cast0, ofNat_c, lt_cast, decide_true, decide_false, cond_true, cond_false, inB_cast, grd_real, join_real, Int.toNat_natCast, Option.elim_some, Bool.true_and, Bool.false_or, Bool.or_true, Bool.and_true, Bool.or_false, cond_tf, hk, getD_in hk, wrap_nat (show k < 4294967296 by omega), toN0, ltb0, ltb1, insMx, atMx, posMx, put_n, pos_n, min_eq, max_eq]; simp only [ltI, geI, min_lt, max_ge]
          unfold prE prB nzS
          generalize t.2.2.1[k] = p
          cases decide (p.getD 0 0 < 0) <;> cases decide (p.getD 0 0 ≥ c.1) <;> cases decide (p.getD 1 0 < 0) <;> cases decide (p.getD 1 0 ≥ c.1) <;> cases p.getD 0 0 == p.getD 1 0 <;> rfl
        · rw [e9]; unfold prsE; rw [if_pos hyes]
      exact key realC
    · have key : ∀ (C : Cmb) [CmbOk C], M_spoondriftref24_Slack C (t, c, ()) = some (le (chk24 t c) []) := by
        intro C _
        unfold M_spoondriftref24_Slack
        simp only [ofNat_c, lt_cast, decide_true, decide_false, cond_true, cond_false, inB_cast, grd_real, join_real, Int.toNat_natCast, Option.elim_some, Bool.true_and, Bool.false_or, Bool.or_true, Bool.and_true, Bool.or_false, cond_tf, check24_eq h ht, ne0_t e]
      exact key realC
end Go.Canon
namespace Go.Canon
set_option linter.unusedVariables false
set_option linter.unusedSimpArgs false
open Go
variable {t : Clk} {c : Circ}
theorem plans_law {time : Int} (h2 : ∀ p ∈ t.2.2.1, List.length p = 2) : m_spoondriftlaw24_SchedPlans (t, c, time, ()) = some (b1 true) := by
  have aw : m_spoondriftlaw24_awake () = some (b1 true) := rfl
  have key : ∀ (C : Cmb) [CmbOk C], M_spoondriftlaw24_SchedPlans C (t, c, time, ()) = some (b1 true) := by
    intro C _
    unfold M_spoondriftlaw24_SchedPlans
    dsimp only
    rw [join_real, great24_eq, Option.elim_some]
    cases hg : decide (t.1.length > 20) || decide (t.2.2.1.length > 40) with
    | true => rfl
    | false =>
      show (m_spoondriftkit_Great (c, ())).elim none _ = _
      rw [great_eq, Option.elim_some]
      cases hg2 : greatC c with
      | true => rfl
      | false =>
        have hs := greatC_small hg2
        simp only [Bool.or_eq_false_iff, decide_eq_false_iff_not] at hg
        obtain ⟨e1, l1, hl1, a1, b1⟩ := early_both (t := t) hs (by omega) h2
        obtain ⟨e2, l2, hl2, a2, b2⟩ := late_both (t := t) (time := time) hs (by omega) h2
        obtain ⟨e3, l3, hl3, a3, b3⟩ := slack_both (t := t) hs (by omega) h2
        show (m_spoondriftref24_Own (t, ())).elim none _ = _
        rw [own24_eq (by omega) (by omega), Option.elim_some, own_eq hs, Option.elim_some]
        simp only [a1, b1, a2, b2, a3, b3, Option.elim_some, join_real, equal_eq (show l1.length < 4294967296 by omega), equal_eq (show l2.length < 4294967296 by omega), equal_eq (show l3.length < 4294967296 by omega), beq_self_eq_true, cond_true, same24_eq (t := t) (by omega) (by omega), same_eq hs, aw]
  exact key realC
end Go.Canon
