/- CircCancelled, part 4: the canonical machine and the runs of the program's functions on it. No conditions. -/
import Derived.Test.YtpbamjaldnhamaaDoorCcP3
namespace Go.Canon
open Go Go.Proofs
set_option linter.unusedVariables false
set_option linter.unusedSimpArgs false
theorem flatten_next {gss : List (List G)} {j i : Nat} (hj : j < gss.length) (hi : ¬ ((i : Int) < (gss[j].length : Int))) : (gss.take j).flatten ++ gss[j].take i = (gss.take (j + 1)).flatten := by
  have e : gss[j].take i = gss[j] := List.take_of_length_le (by omega)
  rw [e, List.take_succ_eq_append_getElem hj, List.flatten_append]
  simp
theorem flatten_le {gss : List (List G)} {j i : Nat} (hj : j < gss.length) : ((gss.take j).flatten ++ gss[j].take i).length ≤ gss.flatten.length := by
  have h1 : gss.flatten = (gss.take j).flatten ++ (gss[j] ++ (gss.drop (j + 1)).flatten) := by
    conv => lhs; rw [← List.take_append_drop j gss, List.flatten_append, List.drop_eq_getElem_cons hj, List.flatten_cons]
  rw [h1]
  simp only [List.length_append, List.length_take]
  omega
theorem behind_ret (H : Heap) (p : Pl) (gss : List (List G)) (ps : List Pl) {S S' : Nat → Prop} (hv : Lists S H p ps gss) (hgs : ∀ j (h1 : j < gss.length) (h2 : j < ps.length), Gates S' H ps[j] gss[j]) (hn : gss.length < 4294967296) (hl : gss.flatten.length < 4294967296) (hw : ∀ gs ∈ gss, ∀ g ∈ gs, g.ws.length < 4294967296) :
    ∃ X p', Ret (tab Tryd.prog) 58 [.slice p.1 gss.length p.2] H (.slice p'.1 gss.flatten.length p'.2) (H ++ X) ∧ GatesZ H.length X p' gss.flatten := by
  have key := Ret_grow (T := tab Tryd.prog) (f := 58) (args := [.slice p.1 gss.length p.2]) (h := H) (fun u X => ∃ p' : Pl, u = .slice p'.1 gss.flatten.length p'.2 ∧ GatesZ H.length X p' gss.flatten) k68 rfl ?_
  · obtain ⟨u, X, hr, p', rfl, f1⟩ := key
    exact ⟨X, p', hr, f1⟩
  obtain ⟨hps, hc⟩ := hv
  refine AX_seq (AX_E (E_mv (v := .slice _ _ _) rfl (E_nil (AX_seq (AX_E (E_mv (v := .slice _ _ _) rfl (E_nil (AX_seq (AX_seq (AX_E (E_mv (v := .slice _ _ _) rfl (E_len (n := (gss).length) rfl (E_mv (v := .int .i64 (0)) rfl (E_nil (AX_block ?_)))))))))))))))
  refine AX_loopF (γ := Nat × Pl) (fun x => [(3, .slice (x.2).1 (((gss.take x.1).flatten)).length (x.2).2), (8, .slice p.1 gss.length p.2), (9, .int .i64 ((gss).length)), (10, .int .i64 ((x.1 : Int)))]) (fun x h_ m_ => (∃ z_, h_ = H ++ ([] ++ z_) ∧ Bld (H.length + 0) z_ x.2 ((gss.take x.1).flatten)) ∧ m_ = [] ∧ x.1 ≤ gss.length) (fun x => gss.length - x.1) (0, (none, 0)) ⟨rfl, rfl, rfl, rfl, trivial⟩ ⟨⟨[], app0 _ _, Bld.nil⟩, rfl, ?_⟩ ?_
  · simp
  rintro ⟨j, p0⟩ fr0 h0 m0 ⟨⟨z0, rfl, zf0⟩, rfl, inv0⟩ K0 hN0 hR0 hE0
  try dsimp only at zf0 inv0
  refine AX_nil ?_
  refine AX_seq (AX_E (E_lssS rfl rfl (fun c11 => ?_) (fun c11 => ?_)))
  · refine E_nil (AX_seq (AX_condT rfl (AX_skip (AX_seq (AX_block (AX_seq (AX_E (have hj1 : j < gss.length := (by omega); have hj2 : j < ps.length := (by omega); have hle : gss[j].length ≤ gss.flatten.length := (by have := flatten_le (i := gss[j].length) hj1; simp only [List.length_append, List.take_length] at this; omega); E_iaCb (j := j) (v := .slice ((ps[j]'hj2)).1 ((gss[j]'hj1)).length ((ps[j]'hj2)).2) rfl hc.app rfl rfl (by first | omega | (simp; done) | (simp; omega)) (lists_at hj1 hj2) fun b1 o1 w1 => (E_ldB (v := .slice _ _ _) rfl w1 (E_mv (v := .slice _ _ _) rfl (E_nil (AX_seq (AX_E (E_mv (v := .slice _ _ _) rfl (E_len (n := ((gss[j]'hj1)).length) rfl (E_mv (v := .int .i64 (0)) rfl (E_nil (AX_block ?_))))))))))))))))))
    refine AX_hp (h' := H ++ ([] ++ z0)) (by first | (simp only [List.append_assoc, List.append_nil, List.nil_append, List.cons_append, List.set_cons_zero, List.set_cons_succ]; done) | (simp only [List.append_assoc, List.append_nil, List.nil_append, List.cons_append, List.set_cons_zero, List.set_cons_succ]; rfl)) ?_
    refine AX_loopF (γ := Nat × Pl) (fun x => [(3, .slice (x.2).1 (((gss.take j).flatten ++ gss[j].take x.1)).length (x.2).2), (8, .slice p.1 gss.length p.2), (9, .int .i64 ((gss).length)), (10, .int .i64 ((j : Int))), (14, .slice ((ps[j]'hj2)).1 ((gss[j]'hj1)).length ((ps[j]'hj2)).2), (15, .int .i64 (((gss[j]'hj1)).length)), (16, .int .i64 ((x.1 : Int)))]) (fun x h_ m_ => (∃ z_, h_ = H ++ ([] ++ z_) ∧ Bld (H.length + 0) z_ x.2 ((gss.take j).flatten ++ gss[j].take x.1)) ∧ m_ = [] ∧ x.1 ≤ gss[j].length) (fun x => gss[j].length - x.1) (0, p0) ⟨(congrArg (fun l => Value.slice p0.1 (List.length l) p0.2) (show (gss.take j).flatten = (gss.take j).flatten ++ gss[j].take 0 by simp)), rfl, rfl, rfl, rfl, rfl, rfl, trivial⟩ ⟨⟨z0, rfl, (by simpa using zf0)⟩, rfl, ?_⟩ ?_
    · simp
    rintro ⟨i, p2⟩ fr2 h2 m2 ⟨⟨z2, rfl, zf2⟩, rfl, inv2⟩ K2 hN2 hR2 hE2
    try dsimp only at zf2 inv2
    refine AX_nil ?_
    refine AX_seq (AX_E (E_lssS rfl rfl (fun c17 => ?_) (fun c17 => ?_)))
    · refine E_nil (AX_seq (AX_condT rfl (AX_skip (AX_seq (AX_block (AX_seq (AX_E (have ix2 : i < ((gss[j]'hj1)).length := (by first | omega | (simp; done) | (simp; omega)); E_iaGb (j := i) rfl (hgs j hj1 hj2).app rfl rfl rfl ix2 fun b2 o2 q2 f2 w2 => (E_ldBN rfl w2 (E_new (E_stO (k := 0) rfl rfl (v := .agg _) rfl rfl rfl rfl (E_nil (AX_E (E_mv (v := .slice _ _ _) rfl (E_ldON (k := 0) rfl rfl ?_)))))))))))))))
      obtain ⟨X3, q3, hr3, f3, e3⟩ := pown_ret _ ((gss[j]'hj1)[i]'ix2) _ f2.app (by exact hw _ (List.getElem_mem hj1) _ (List.getElem_mem (by omega)))
      refine E_callX (X := X3) rfl (hr3) (E_mkS (cs := [.int .i64 (((gss[j]'hj1)[i]'ix2).k), .slice (q3).1 (((gss[j]'hj1)[i]'ix2).ws).length (q3).2, .int .i64 (((gss[j]'hj1)[i]'ix2).b), .int .i64 (((gss[j]'hj1)[i]'ix2).f)]) rfl (E_appG (A := []) (Z := z2) (W := ([CO.row [.int .i64 (((gss[j]'hj1)[i]'ix2).k), .slice (q2).1 (((gss[j]'hj1)[i]'ix2).ws).length (q2).2, .int .i64 (((gss[j]'hj1)[i]'ix2).b), .int .i64 (((gss[j]'hj1)[i]'ix2).f)] true none] ++ (X3 ++ [CO.row [.int .i64 (((gss[j]'hj1)[i]'ix2).k), .slice (q3).1 (((gss[j]'hj1)[i]'ix2).ws).length (q3).2, .int .i64 (((gss[j]'hj1)[i]'ix2).b), .int .i64 (((gss[j]'hj1)[i]'ix2).f)] true none]))) (gs' := (gss.take j).flatten ++ gss[j].take (i + 1)) (by first | (simp only [List.append_assoc, List.append_nil, List.nil_append, List.cons_append, List.set_cons_zero, List.set_cons_succ]; done) | (simp only [List.append_assoc, List.append_nil, List.nil_append, List.cons_append, List.set_cons_zero, List.set_cons_succ]; rfl)) (by rw [List.take_succ_eq_append_getElem (by omega), List.append_assoc]) (n := (H.length + 0)) (by simp) (zf2) rfl rfl (rowGet_own (k := 0) rfl) (IntsZ.inside f3 (by simp; omega)) (by have := flatten_le (i := i) hj1; omega) rfl fun z4n p4n hb4n => (E_mv (v := .slice _ _ _) rfl (E_nil (AX_E (E_addI rfl rfl (by first | omega | (simp; done) | (simp; omega)) (by first | omega | (simp; done) | (simp; omega)) (E_mv (v := .int .i64 (((i : Int) + 1))) rfl (E_nil ?_))))))))
      refine hN2 (i + 1, p4n) _ _ _ ⟨by first | rfl | (congr 1; omega), by first | rfl | (congr 1; omega), by first | rfl | (congr 1; omega), by first | rfl | (congr 1; omega), by first | rfl | (congr 1; omega), by first | rfl | (congr 1; omega), by first | rfl | (congr 1; omega), trivial⟩ ⟨⟨z4n, rfl, hb4n⟩, rfl, ?_⟩ ?_
      -- n1
      all_goals clear hN0 hR0 hE0 hN2 hR2 hE2
      · omega
      · (first | omega | (simp; omega))
    · refine E_nil (AX_seq (AX_condF rfl (AX_exit (hE2 _ _ _ _ ?_))))
      have e2 := flatten_next hj1 c17
      refine AX_hp (h' := H ++ ([] ++ z2)) (by first | (simp only [List.append_assoc, List.append_nil, List.nil_append, List.cons_append, List.set_cons_zero, List.set_cons_succ]; done) | (simp only [List.append_assoc, List.append_nil, List.nil_append, List.cons_append, List.set_cons_zero, List.set_cons_succ]; rfl)) ?_
      refine AX_E (E_addI rfl rfl (by first | omega | (simp; done) | (simp; omega)) (by first | omega | (simp; done) | (simp; omega)) (E_mv (v := .int .i64 (((j : Int) + 1))) rfl (E_nil ?_)))
      refine hN0 (j + 1, p2) _ _ _ ⟨by exact congrArg (fun l => Value.slice p2.1 (List.length l) p2.2) e2, by first | rfl | (congr 1; omega), by first | rfl | (congr 1; omega), by first | rfl | (congr 1; omega), trivial⟩ ⟨⟨z2, rfl, (by rw [← e2]; exact zf2)⟩, rfl, ?_⟩ ?_
      -- n2
      all_goals clear hN0 hR0 hE0 hN2 hR2 hE2
      · omega
      · (first | omega | (simp; omega))
  · refine E_nil (AX_seq (AX_condF rfl (AX_exit (hE0 _ _ _ _ ?_))))
    have e0 : gss.take j = gss := List.take_of_length_le (by omega)
    refine AX_hp (h' := H ++ ([] ++ z0)) (by first | (simp only [List.append_assoc, List.append_nil, List.nil_append, List.cons_append, List.set_cons_zero, List.set_cons_succ]; done) | (simp only [List.append_assoc, List.append_nil, List.nil_append, List.cons_append, List.set_cons_zero, List.set_cons_succ]; rfl)) ?_
    refine AX_seq (AX_E (E_mv (v := .slice _ _ _) rfl (E_mv (v := .slice _ _ _) rfl (E_nil (AX_ret ?_)))))
    refine ⟨_, rfl, by simp, ?_⟩
    obtain ⟨X, h1, h2⟩ := leafG (h := H) (h' := H ++ ([] ++ z0)) (A := []) (Z := z0) (u := Value.slice p0.1 ((gss.take j).flatten).length p0.2) rfl zf0.gates (by simp) sl_flat
    exact ⟨X, h1, p0, (show _ = Value.slice p0.1 ((gss.take j).flatten).length p0.2 from rfl).trans (by rw [e0] <;> rfl), by rw [e0] at h2; exact h2⟩
end Go.Canon
namespace Go.Canon
open Go Go.Proofs
set_option linter.unusedVariables false
set_option linter.unusedSimpArgs false
def freeTo (l : List G) (i k : Nat) : Prop := ∀ j, j < k → commM (l.getD j default) (l.getD i default)
instance (l : List G) (i k : Nat) : Decidable (freeTo l i k) := by unfold freeTo; infer_instance
/-- The gate that is taken next, of the first so many: -1 if there is none. -/
def nextM (l : List G) : Nat → Int
  | 0 => -1
  | i + 1 => if freeTo l i i ∧ (nextM l i < 0 ∨ beforeM (l.getD i default) (l.getD (nextM l i).toNat default)) then (i : Int) else nextM l i
theorem nextM_lt (l : List G) : ∀ i, -1 ≤ nextM l i ∧ nextM l i < i
  | 0 => by simp [nextM]
  | i + 1 => by
    have := nextM_lt l i
    unfold nextM
    split <;> omega
theorem nextM_pos (l : List G) : ∀ i, 0 < i → 0 ≤ nextM l i
  | 1, _ => by
    have : freeTo l 0 0 := fun j hj => by omega
    simp [nextM, this]
  | i + 2, _ => by
    have := nextM_pos l (i + 1) (by omega)
    unfold nextM
    split <;> omega
theorem next_take {l : List G} {i : Nat} (h1 : freeTo l i i) (h2 : nextM l i < 0 ∨ beforeM (l.getD i default) (l.getD (nextM l i).toNat default)) : nextM l (i + 1) = i := by rw [nextM, if_pos ⟨h1, h2⟩]
theorem next_skip {l : List G} {i : Nat} (h : ¬ (freeTo l i i ∧ (nextM l i < 0 ∨ beforeM (l.getD i default) (l.getD (nextM l i).toNat default)))) : nextM l (i + 1) = nextM l i := by rw [nextM, if_neg h]
theorem before_getD {l : List G} {i j : Nat} (hi : i < l.length) (hj : j < l.length) (h : beforeM l[i] l[j]) : beforeM (l.getD i default) (l.getD j default) := by rwa [getG_at hi, getG_at hj]
theorem before_getD2 {l : List G} {i j : Nat} (hi : i < l.length) (hj : j < l.length) (h : beforeM (l.getD i default) (l.getD j default)) : beforeM l[i] l[j] := by rwa [getG_at hi, getG_at hj] at h
def tidyL : Nat → List G → List G
  | 0, _ => []
  | n + 1, l => l.getD (nextM l l.length).toNat default :: tidyL n (l.eraseIdx (nextM l l.length).toNat)
def tidyM (c : C) : C := ⟨c.w, c.b, tidyL c.gs.length c.gs⟩
theorem tidyL_mem : ∀ (n : Nat) (l : List G), l.length = n → ∀ g ∈ tidyL n l, g ∈ l
  | 0, _, _, g, h => by simp [tidyL] at h
  | n + 1, l, hl, g, h => by
    have h1 := nextM_lt l l.length
    have h2 := nextM_pos l l.length (by omega)
    rw [tidyL, List.mem_cons] at h
    rcases h with rfl | h
    · rw [getG_at (show (nextM l l.length).toNat < l.length by omega)]; exact List.getElem_mem _
    · exact List.mem_of_mem_eraseIdx (tidyL_mem n _ (by rw [List.length_eraseIdx_of_lt (by omega)]; omega) g h)
theorem tidyL_len : ∀ (n : Nat) (l : List G), (tidyL n l).length = n
  | 0, _ => rfl
  | n + 1, l => by rw [tidyL, List.length_cons, tidyL_len]
theorem tidyL_step {l : List G} {b : Nat} (hb : nextM l l.length = (b : Int)) (hbl : b < l.length) : tidyL l.length l = l[b] :: tidyL (l.eraseIdx b).length (l.eraseIdx b) := by
  have h1 : (l.eraseIdx b).length = l.length - 1 := List.length_eraseIdx_of_lt hbl
  obtain ⟨m, hm⟩ : ∃ m, l.length = m + 1 := ⟨l.length - 1, by omega⟩
  have h2 : (l.eraseIdx b).length = m := by omega
  rw [h2, hm, tidyL, hb, Int.toNat_natCast, getG_at hbl]
end Go.Canon
namespace Go.Canon
open Go Go.Proofs
set_option linter.unusedVariables false
set_option linter.unusedSimpArgs false
/-- The last gate of the first k with which g does not commute, or that g undoes; -1 if there is none. -/
def scanM (l : List G) (g : G) : Nat → Int
  | 0 => -1
  | k + 1 => if undoM (l.getD k default) g ∨ ¬ commM (l.getD k default) g then (k : Int) else scanM l g k
theorem scanM_lt (l : List G) (g : G) : ∀ k, -1 ≤ scanM l g k ∧ scanM l g k < k
  | 0 => by simp [scanM]
  | k + 1 => by
    have := scanM_lt l g k
    unfold scanM
    split <;> omega
theorem scan_stop {l : List G} {g : G} {k : Nat} (hk : k - 1 < l.length) (h0 : 0 < k) (h : undoM l[k - 1] g ∨ ¬ commM l[k - 1] g) : scanM l g k = (k : Int) - 1 := by
  obtain ⟨m, rfl⟩ : ∃ m, k = m + 1 := ⟨k - 1, by omega⟩
  simp only [Nat.add_sub_cancel] at h
  rw [scanM, if_pos (by rwa [getG_at (by omega)])]
  omega
theorem scan_go {l : List G} {g : G} {k : Nat} (hk : k - 1 < l.length) (h0 : 0 < k) (h : ¬ undoM l[k - 1] g) (h2 : commM l[k - 1] g) : scanM l g k = scanM l g (k - 1) := by
  obtain ⟨m, rfl⟩ : ∃ m, k = m + 1 := ⟨k - 1, by omega⟩
  simp only [Nat.add_sub_cancel] at h h2
  rw [scanM, if_neg (by rw [getG_at (by omega)]; simp [h, h2]), Nat.add_sub_cancel]
def cstep (l : List G) (g : G) : List G := if 0 ≤ scanM l g l.length ∧ undoM (l.getD (scanM l g l.length).toNat default) g then l.eraseIdx (scanM l g l.length).toNat else l ++ [g]
def cancelL (gs : List G) : List G := gs.foldl cstep []
def cancelM (c : C) : C := ⟨c.w, c.b, cancelL c.gs⟩
theorem cancelL_next {gs : List G} {j : Nat} (hj : j < gs.length) : cancelL (gs.take (j + 1)) = cstep (cancelL (gs.take j)) gs[j] := by
  unfold cancelL
  rw [List.take_succ_eq_append_getElem hj, List.foldl_append]
  rfl
theorem cstep_mem {l : List G} {g x : G} (h : x ∈ cstep l g) : x ∈ l ∨ x = g := by
  unfold cstep at h
  split at h
  · exact .inl (List.mem_of_mem_eraseIdx h)
  · simpa using h
theorem cancelL_mem (gs : List G) : ∀ (l : List G) x, x ∈ gs.foldl cstep l → x ∈ l ∨ x ∈ gs := by
  induction gs with
  | nil => intro l x h; exact .inl h
  | cons g gs ih =>
    intro l x h
    rcases ih _ _ h with h | h
    · rcases cstep_mem h with h | h
      · exact .inl h
      · exact .inr (by simp [h])
    · exact .inr (by simp [h])
theorem cancelL_sub {gs : List G} {x : G} (h : x ∈ cancelL gs) : x ∈ gs := (cancelL_mem gs [] x h).resolve_left (by simp)
theorem cstep_rm {l : List G} {g : G} {k : Nat} (hk : k - 1 < l.length) (h0 : 0 < k) (he : scanM l g k = scanM l g l.length) (hu : undoM l[k - 1] g) : cstep l g = l.eraseIdx (k - 1) := by
  have hs := scan_stop hk h0 (.inl hu)
  rw [he] at hs
  have e : (scanM l g l.length).toNat = k - 1 := by omega
  rw [cstep, e, if_pos ⟨by omega, by rwa [getG_at hk]⟩]
theorem cstep_ap {l : List G} {g : G} {k : Nat} (hk : k - 1 < l.length) (h0 : 0 < k) (he : scanM l g k = scanM l g l.length) (hu : ¬ undoM l[k - 1] g) (hc : ¬ commM l[k - 1] g) : cstep l g = l ++ [g] := by
  have hs := scan_stop hk h0 (.inr hc)
  rw [he] at hs
  have e : (scanM l g l.length).toNat = k - 1 := by omega
  rw [cstep, e, if_neg (fun x => by have := x.2; rw [getG_at hk] at this; exact hu this)]
end Go.Canon
namespace Go.Canon
open Go Go.Proofs
set_option linter.unusedVariables false
set_option linter.unusedSimpArgs false
def kf97 : KFunc := ⟨1, 18, [.tmp 2], .seq (.reg [⟨some 2, .mv (.c (.int .i64 0)), none⟩] []) (.seq (.reg [⟨some 3, .mv (.c (.int .i64 0)), none⟩] []) (.seq (.seq (.reg [⟨some 6, .mv (.t 0), none⟩, ⟨some 7, .len (.t 6), none⟩, ⟨some 8, .mv (.c (.int .i64 0)), none⟩] []) (.block 0 (.loop (.seq (.reg [⟨some 9, .bin .lss (.t 8) (.t 7), none⟩] []) (.seq (.cond (.t 9) .skip (.exit 0)) (.seq (.block 1 (.seq (.reg [⟨some 10, .iaS (.t 6) (.t 8) 1, none⟩, ⟨some 11, .ld (.t 10) none, none⟩, ⟨some 5, .mv (.t 11), none⟩] []) (.seq (.reg [⟨some 12, .mv (.t 5), none⟩, ⟨some 13, .mv (.t 3), none⟩, ⟨some 14, .bin .neq (.t 12) (.t 13), none⟩] []) (.cond (.t 14) (.seq (.reg [⟨some 15, .mv (.t 5), none⟩, ⟨some 2, .mv (.t 15), none⟩] []) .ret) .skip)))) (.reg [⟨some 16, .bin .add (.t 8) (.c (.int .i64 1)), none⟩, ⟨some 8, .mv (.t 16), none⟩] []))))))) (.seq (.reg [⟨some 17, .mv (.t 3), none⟩, ⟨some 2, .mv (.t 17), none⟩] []) .ret)))⟩
theorem k97 : tab Tryd.prog 92 = some kf97 := by kernel_rfl
def kf70 : KFunc := ⟨2, 27, [.tmp 4], .seq (.reg [⟨some 2, .box (.t 0), none⟩, ⟨some 3, .box (.t 1), none⟩, ⟨some 4, .mv (.c (.int .i64 0)), none⟩] []) (.seq (.reg [⟨some 5, .fa (.t 2) 0, none⟩, ⟨some 6, .ld (.t 5) none, none⟩, ⟨some 7, .fa (.t 3) 0, none⟩, ⟨some 8, .ld (.t 7) none, none⟩, ⟨some 9, .call (.c (.func (.func 93) #[] #[])) [.t 6, .t 8], none⟩, ⟨some 10, .fa (.t 2) 1, none⟩, ⟨some 11, .ld (.t 10) none, none⟩, ⟨some 12, .fa (.t 3) 1, none⟩, ⟨some 13, .ld (.t 12) none, none⟩, ⟨some 14, .call (.c (.func (.func 94) #[] #[])) [.t 11, .t 13], none⟩, ⟨some 15, .fa (.t 2) 2, none⟩, ⟨some 16, .ld (.t 15) none, none⟩, ⟨some 17, .fa (.t 3) 2, none⟩, ⟨some 18, .ld (.t 17) none, none⟩, ⟨some 19, .call (.c (.func (.func 93) #[] #[])) [.t 16, .t 18], none⟩, ⟨some 20, .fa (.t 2) 3, none⟩, ⟨some 21, .ld (.t 20) none, none⟩, ⟨some 22, .fa (.t 3) 3, none⟩, ⟨some 23, .ld (.t 22) none, none⟩, ⟨some 24, .call (.c (.func (.func 93) #[] #[])) [.t 21, .t 23], none⟩, ⟨some 25, .mkS [.int .i64 0, .int .i64 0, .int .i64 0, .int .i64 0] 4 [(0, 1, .t 9), (1, 1, .t 14), (2, 1, .t 19), (3, 1, .t 24)], none⟩, ⟨some 26, .call (.c (.func (.func 92) #[] #[])) [.t 25], none⟩, ⟨some 4, .mv (.t 26), none⟩] [(4, 6), (4, 8), (4, 11), (9, 11), (4, 13), (9, 13), (4, 16), (9, 16), (14, 16), (4, 18), (9, 18), (14, 18)]) .ret)⟩
theorem k70 : tab Tryd.prog 67 = some kf70 := by kernel_rfl
def firstNZ : List Int → Int
  | [] => 0
  | x :: xs => if x ≠ 0 then x else firstNZ xs
theorem firstNZ_at : ∀ {l : List Int} {j : Nat} (hj : j < l.length), (∀ x ∈ l.take j, x = 0) → l[j] ≠ 0 → firstNZ l = l[j]
  | x :: xs, 0, _, _, h => by simp at h; simp [firstNZ, h]
  | x :: xs, j + 1, hj, H, h => by
    simp only [List.getElem_cons_succ] at h ⊢
    rw [firstNZ, if_neg (by simp [H x (by simp)])]
    exact firstNZ_at (by simpa using hj) (fun y hy => H y (by simp [hy])) h
theorem firstNZ_all : ∀ {l : List Int}, (∀ x ∈ l, x = 0) → firstNZ l = 0
  | [], _ => rfl
  | x :: xs, H => by rw [firstNZ, if_neg (by simp [H x (by simp)])]; exact firstNZ_all fun y hy => H y (by simp [hy])
theorem or_ret (H : Heap) (p : Pl) (l : List Int) {S : Nat → Prop} (hv : Ints S H p l) (hl : l.length < 4611686018427387904) : Ret (tab Tryd.prog) 92 [.slice p.1 l.length p.2] H (.int .i64 (firstNZ l)) H := by
  refine Ret_own k97 rfl ?_
  refine AX_seq (AX_E (E_mv (v := .int .i64 (0)) rfl (E_nil (AX_seq (AX_E (E_mv (v := .int .i64 (0)) rfl (E_nil (AX_seq (AX_seq (AX_E (E_mv (v := .slice _ _ _) rfl (E_len (n := (l).length) rfl (E_mv (v := .int .i64 (0)) rfl (E_nil (AX_block ?_)))))))))))))))
  refine AX_loopF (γ := Nat) (fun j => [(3, .int .i64 (0)), (6, .slice (p).1 (l).length (p).2), (7, .int .i64 ((l).length)), (8, .int .i64 ((j : Int)))]) (fun j h_ m_ => h_ = H ++ [] ∧ m_ = [] ∧ j ≤ l.length ∧ ∀ x ∈ l.take j, x = 0) (fun j => l.length - j) (0) ⟨rfl, rfl, rfl, rfl, trivial⟩ ⟨rfl, rfl, ?_⟩ ?_
  · simp
  rintro j fr0 h0 m0 ⟨rfl, rfl, inv0⟩ K0 hN0 hR0 hE0
  refine AX_seq (AX_E (E_lssS rfl rfl (fun c9 => ?_) (fun c9 => ?_)))
  · refine E_nil (AX_seq (AX_condT rfl (AX_skip (AX_seq (AX_block (AX_seq (AX_E (have ix1 : j < (l).length := (by first | omega | (simp; done) | (simp; omega)); E_iaIb (j := j) rfl hv rfl rfl rfl ix1 fun b1 o1 w1 => (E_ldB (v := .int .i64 (l[j]'ix1)) rfl w1 (E_mv (v := .int .i64 (l[j]'ix1)) rfl (E_nil (AX_seq (AX_E (E_mv (v := .int .i64 (l[j]'ix1)) rfl (E_mv (v := .int .i64 (0)) rfl (E_neqS rfl rfl (fun c14 => ?_) (fun c14 => ?_)))))))))))))))))
    · refine E_nil (AX_condT rfl (AX_seq (AX_E (E_mv (v := .int .i64 (l[j]'ix1)) rfl (E_mv (v := .int .i64 (l[j]'ix1)) rfl (E_nil (AX_ret (hR0 _ _ _ ?_))))))))
      refine ⟨_, rfl, by simp, ?_, forget_flat rfl (List.prefix_append _ _)⟩
      -- r1
      clear hN0 hR0 hE0
      refine congrArg (Value.int _) ?_
      rw [firstNZ_at (by omega) inv0.2 c14]
    · refine E_nil (AX_condF rfl (AX_skip (AX_E (E_addI rfl rfl (by first | omega | (simp; done) | (simp; omega)) (by first | omega | (simp; done) | (simp; omega)) (E_mv (v := .int .i64 (((j : Int) + 1))) rfl (E_nil ?_))))))
      refine hN0 (j + 1) _ _ _ ⟨by first | rfl | (congr 1; omega), by first | rfl | (congr 1; omega), by first | rfl | (congr 1; omega), by first | rfl | (congr 1; omega), trivial⟩ ⟨rfl, rfl, ?_⟩ ?_
      -- n2
      all_goals clear hN0 hR0 hE0
      · exact ⟨by omega, all_next (by omega) inv0.2 c14⟩
      · (first | omega | (simp; omega))
  · refine E_nil (AX_seq (AX_condF rfl (AX_exit (hE0 _ _ _ _ (AX_seq (AX_E (E_mv (v := .int .i64 (0)) rfl (E_mv (v := .int .i64 (0)) rfl (E_nil (AX_ret ?_))))))))))
    refine ⟨_, rfl, by simp, ?_, forget_flat rfl (List.prefix_append _ _)⟩
    -- r3
    clear hN0 hR0 hE0
    refine congrArg (Value.int _) ?_
    rw [firstNZ_all (all_all c9 inv0.2)]
def orderM (g h : G) : Int := firstNZ [cmpM g.k h.k, lexM g.ws h.ws, cmpM g.b h.b, cmpM g.f h.f]
theorem order_ret (H : Heap) (g h : G) (p q : Pl) {S S' : Nat → Prop} (hv : Ints S H p g.ws) (hu : Ints S' H q h.ws) (hg : g.ws.length < 4611686018427387904) : Ret (tab Tryd.prog) 67 [gv g p, gv h q] H (.int .i64 (orderM g h)) H := by
  refine Ret_own k70 rfl ?_
  refine AX_seq (AX_E (E_boxA rfl (E_boxA rfl (E_mv (v := .int .i64 (0)) rfl (E_nil (AX_seq (AX_E (E_fa rfl (E_ldO (k := 0) (v := .int .i64 (g.k)) rfl rfl (E_fa rfl (E_ldO (k := 1) (v := .int .i64 (h.k)) rfl rfl (E_callV rfl (cmp_ret _ _ _) (E_fa rfl (E_ldO (k := 0) (v := .slice _ _ _) rfl rfl (E_fa rfl (E_ldO (k := 1) (v := .slice _ _ _) rfl rfl (E_callV rfl (lex_ret _ _ _ _ _ hv.app hu.app (by first | omega | (simp; done) | (simp; omega))) (E_fa rfl (E_ldO (k := 0) (v := .int .i64 (g.b)) rfl rfl (E_fa rfl (E_ldO (k := 1) (v := .int .i64 (h.b)) rfl rfl (E_callV rfl (cmp_ret _ _ _) (E_fa rfl (E_ldO (k := 0) (v := .int .i64 (g.f)) rfl rfl (E_fa rfl (E_ldO (k := 1) (v := .int .i64 (h.f)) rfl rfl (E_callV rfl (cmp_ret _ _ _) (E_mkS (cs := [.int .i64 (cmpM (g.k) (h.k)), .int .i64 (lexM (g.ws) (h.ws)), .int .i64 (cmpM (g.b) (h.b)), .int .i64 (cmpM (g.f) (h.f))]) rfl (E_callV rfl (or_ret _ (some ⟨(H).length + 2, 0, none⟩, 4) [cmpM g.k h.k, lexM g.ws h.ws, cmpM g.b h.b, cmpM g.f h.f] (ints_own (k := 2) rfl) (by simp)) (E_mv (v := .int .i64 (orderM g h)) rfl (E_nil (AX_ret ?_))))))))))))))))))))))))))))))))
  refine ⟨_, rfl, by simp, ?_, forget_flat rfl (List.prefix_append _ _)⟩
  refine congrArg (Value.int _) ?_
  rfl
theorem lex_neg : ∀ {a b : List Int}, a.length = b.length → (lexM a b < 0 ↔ wsLt a b) ∧ (lexM a b = 0 ↔ a = b)
  | [], [], _ => by simp [lexM, wsLt]
  | x :: xs, y :: ys, h => by
    have ih := lex_neg (a := xs) (b := ys) (by simpa using h)
    simp only [lexM, wsLt, List.cons.injEq]
    by_cases e : x = y
    · subst e
      have : cmpM x x = 0 := cmpM_eq.2 rfl
      simp [this, ih]
    · have h1 : cmpM x y ≠ 0 := fun h => e (cmpM_eq.1 h)
      rw [if_pos h1, if_pos e]
      refine ⟨?_, by simp [e, h1]⟩
      unfold cmpM
      (repeat' split) <;> omega
  | [], _ :: _, h => by simp at h
  | _ :: _, [], h => by simp at h
theorem order_iff {g h : G} (hg : GR g) (hh : GR h) : orderM g h < 0 ↔ beforeM g h := by
  unfold orderM beforeM
  by_cases hk : g.k = h.k
  · have hl : g.ws.length = h.ws.length := by
      have a1 := hg.ar
      have a2 := hh.ar
      rw [hk] at a1
      omega
    obtain ⟨l1, l2⟩ := lex_neg hl
    have c0 : cmpM g.k h.k = 0 := cmpM_eq.2 hk
    rw [if_neg (by simp [hk])]
    by_cases hw : g.ws = h.ws
    · have w0 : lexM g.ws h.ws = 0 := l2.2 hw
      rw [if_neg (by simp [hw])]
      simp only [firstNZ, c0, w0, ne_eq, not_true, if_false]
      unfold cmpM
      (repeat' split) <;> omega
    · have w0 : lexM g.ws h.ws ≠ 0 := fun e => hw (l2.1 e)
      rw [if_pos hw]
      simp only [firstNZ, c0, ne_eq, not_true, if_false]
      rw [if_pos w0]
      exact l1
  · rw [if_pos hk]
    have c0 : cmpM g.k h.k ≠ 0 := fun e => hk (cmpM_eq.1 e)
    rw [firstNZ, if_pos c0]
    unfold cmpM
    (repeat' split) <;> omega
end Go.Canon
namespace Go.Canon
open Go Go.Proofs
set_option linter.unusedVariables false
set_option linter.unusedSimpArgs false
def kf67 : KFunc := ⟨2, 9, [.tmp 4], .seq (.reg [⟨some 2, .box (.t 0), none⟩, ⟨some 3, .box (.t 1), none⟩, ⟨some 4, .mv (.c (.bool false)), none⟩] []) (.seq (.reg [⟨some 5, .ld (.t 2) (some 4), none⟩, ⟨some 6, .ld (.t 3) (some 4), none⟩, ⟨some 7, .call (.c (.func (.func 65) #[] #[])) [.t 5, .t 6], none⟩, ⟨some 8, .not (.t 7), none⟩, ⟨some 4, .mv (.t 8), none⟩] []) .ret)⟩
theorem k67 : tab Tryd.prog 66 = some kf67 := by kernel_rfl
def kf69 : KFunc := ⟨2, 6, [.tmp 4], .seq (.reg [⟨some 2, .box (.t 0), none⟩, ⟨some 3, .box (.t 1), none⟩, ⟨some 4, .mv (.c .nilFunc), none⟩] []) (.seq (.reg [⟨some 5, .fn 79 [] [.t 3, .t 2], none⟩, ⟨some 4, .mv (.t 5), none⟩] []) .ret)⟩
theorem k69 : tab Tryd.prog 50 = some kf69 := by kernel_rfl
def kf96 : KFunc := ⟨3, 31, [], .seq (.reg [⟨some 5, .ld (.t 1) none, none⟩, ⟨some 6, .mv (.c (.int .i64 0)), none⟩] []) (.block 0 (.loop (.seq (.reg [⟨some 7, .bin .lss (.t 6) (.t 5), none⟩] []) (.seq (.cond (.t 7) .skip (.exit 0)) (.seq (.block 1 (.seq (.reg [⟨some 8, .mv (.t 6), none⟩, ⟨some 4, .mv (.t 8), none⟩] []) (.seq (.reg [⟨some 9, .fa (.t 2) 3, none⟩, ⟨some 10, .ld (.t 9) none, none⟩, ⟨some 11, .fa (.t 2) 0, none⟩, ⟨some 12, .fa (.t 11) 2, none⟩, ⟨some 13, .ld (.t 12) none, none⟩, ⟨some 14, .mv (.t 4), none⟩, ⟨some 15, .iaS (.t 13) (.t 14) 4, none⟩, ⟨some 16, .ld (.t 15) (some 4), none⟩, ⟨some 17, .fa (.t 2) 0, none⟩, ⟨some 18, .fa (.t 17) 2, none⟩, ⟨some 19, .ld (.t 18) none, none⟩, ⟨some 20, .ld (.t 1) none, none⟩, ⟨some 21, .iaS (.t 19) (.t 20) 4, none⟩, ⟨some 22, .ld (.t 21) (some 4), none⟩, ⟨some 23, .call (.t 10) [.t 16, .t 22], none⟩, ⟨some 24, .mv (.t 23), none⟩, ⟨some 25, .mv (.t 0), some (24, true)⟩, ⟨some 26, .mv (.t 4), some (24, true)⟩, ⟨some 27, .call (.t 25) [.t 26], some (24, true)⟩, ⟨some 28, .not (.t 27), some (24, true)⟩, ⟨some 29, .pick (.t 24) (.t 28) (.c (.bool false)), none⟩] []) (.cond (.t 29) .ret .skip)))) (.reg [⟨some 30, .bin .add (.t 6) (.c (.int .i64 1)), none⟩, ⟨some 6, .mv (.t 30), none⟩] []))))))⟩
theorem k96 : tab Tryd.prog 79 = some kf96 := by kernel_rfl
theorem near_ret (H : Heap) (g h : G) (p q : Pl) {S S' : Nat → Prop} (hv : Ints S H p g.ws) (hu : Ints S' H q h.ws) (hg : GR g) (hh : GR h) : Ret (tab Tryd.prog) 66 [gv g p, gv h q] H (.bool (decide (¬ commM g h))) H := by
  refine Ret_own k67 rfl ?_
  refine AX_seq (AX_E (E_boxA rfl (E_boxA rfl (E_mv (v := .bool _) rfl (E_nil (AX_seq (AX_E (E_ldON (k := 0) rfl rfl (E_ldON (k := 1) rfl rfl (E_callP rfl (pcomm_ret _ g h _ _ hv.app hu.app (by assumption) (by assumption)) (fun c7 => ?_) (fun c7 => ?_)))))))))))
  · refine E_notV rfl rfl (E_mv (v := .bool _) rfl (E_nil (AX_ret ?_)))
    refine ⟨_, rfl, by simp, ?_, forget_flat rfl (List.prefix_append _ _)⟩
    refine congrArg (Value.bool) ?_
    refine (decide_eq_false ?_).symm
    simpa using c7
  · refine E_notV rfl rfl (E_mv (v := .bool _) rfl (E_nil (AX_ret ?_)))
    refine ⟨_, rfl, by simp, ?_, forget_flat rfl (List.prefix_append _ _)⟩
    refine congrArg (Value.bool) ?_
    refine (decide_eq_true ?_).symm
    simpa using c7
theorem before1_call (l n : Nat) (P : Nat → Prop) [DecidablePred P] (I : Nat → Heap → Prop) (Stop : Heap → Prop) (bn bw ow : Nat) (on f : Nat) (gs : List G) (p : Pl) (w b : Int)
    (hI : ∀ i K, I i K → rowGet K ⟨bn, on, none⟩ 1 = some [.int .i64 (n : Int)] ∧ rowGet K ⟨bw, ow, none⟩ 4 = some [.int .i64 w, .int .i64 b, .slice p.1 gs.length p.2, .func (.func f) #[] #[]] ∧ Gates allB K p gs)
    (hn : n < gs.length) (hl : gs.length < 4294967296)
    (hnear : ∀ i (hi : i < n) (K : Heap) (q1 q2 : Pl), Ints allB K q1 gs[i].ws → Ints allB K q2 gs[n].ws → Ret (tab Tryd.prog) f [gv gs[i] q1, gv gs[n] q2] K (.bool (decide (P i))) K)
    (hskip : ∀ i K, i < n → I i K → ¬ P i → I (i + 1) K)
    (hyield : ∀ i K, i < n → I i K → P i → ARound (tab Tryd.prog) l [.int .i64 (i : Int)] K (fun v K' => (v = .bool true ∧ I (i + 1) K') ∨ (v = .bool false ∧ Stop K')))
    (H : Heap) (h0 : I 0 H) : ACall (tab Tryd.prog) 79 [.func (.yield l) #[] #[], .pointer (some ⟨bn, on, none⟩), .pointer (some ⟨bw, ow, none⟩)] H (fun _ K' => ∃ Kf, (I n Kf ∨ Stop Kf) ∧ K' = forget H (.tuple #[]) Kf) := by
  refine ACall_ownR k96 rfl ?_
  obtain ⟨e1, e2, e3⟩ := hI 0 H h0
  refine AX_seq (AX_E (E_ldB (v := .int .i64 ((n : Int))) rfl e1 (E_mv (v := .int .i64 (0)) rfl (E_nil (AX_block ?_)))))
  refine AX_loopF (γ := Nat) (fun i => [(0, .func (.yield l) #[] #[]), (1, .pointer (some ⟨bn, on, none⟩)), (2, .pointer (some ⟨bw, ow, none⟩)), (5, .int .i64 ((n : Int))), (6, .int .i64 ((i : Int)))]) (fun i h_ m_ => (I i h_) ∧ m_ = [] ∧ i ≤ n) (fun i => n - i) (0) ⟨rfl, rfl, rfl, rfl, rfl, trivial⟩ ⟨(by simpa using h0), rfl, ?_⟩ ?_
  · omega
  rintro i fr0 KH0 m0 ⟨hI0, rfl, inv0⟩ K0 hN0 hR0 hE0
  obtain ⟨a1, a2, a3⟩ := hI i KH0 hI0
  refine AX_nil ?_
  refine AX_seq (AX_E (E_lssS rfl rfl (fun c7 => ?_) (fun c7 => ?_)))
  · refine E_nil (AX_seq (AX_condT rfl (AX_skip (AX_seq (AX_block (AX_seq (AX_E (E_mv (v := .int .i64 ((i : Int))) rfl (E_mv (v := .int .i64 ((i : Int))) rfl (E_nil (AX_seq (AX_E (E_fa rfl (E_ldB (v := .func _ _ _) rfl (rowGet_c (j := 3) a2 rfl) (E_fa rfl (E_fa rfl (E_ldB (v := .slice _ _ _) rfl (rowGet_c (j := 2) a2 rfl) (E_mv (v := .int .i64 ((i : Int))) rfl (have ix1 : i < (gs).length := (by first | omega | (simp; done) | (simp; omega)); E_iaGb (j := i) rfl a3 rfl rfl rfl ix1 fun b1 o1 q1 f1 w1 => (E_ldBN rfl w1 (E_fa rfl (E_fa rfl (E_ldB (v := .slice _ _ _) rfl (rowGet_c (j := 2) a2 rfl) (E_ldB (v := .int .i64 ((n : Int))) rfl a1 (have ix2 : n < (gs).length := (by first | omega | (simp; done) | (simp; omega)); E_iaGb (j := n) rfl a3 rfl rfl (by first | rfl | omega) ix2 fun b2 o2 q2 f2 w2 => (E_ldBN rfl w2 (E_callP rfl (hnear i (by omega) _ _ _ f1.app.all f2.app.all) (fun c23 => ?_) (fun c23 => ?_))))))))))))))))))))))))))))
    · refine E_mv (v := .bool _) rfl (E_on rfl (E_mv (v := .func _ _ _) rfl (E_on rfl (E_mv (v := .int .i64 ((i : Int))) rfl (E_on rfl ?_)))))
      have hy := hyield i KH0 (by omega) hI0 c23
      rw [← List.append_nil KH0] at hy
      refine E_yield rfl rfl ((hy).mono ?_)
      rintro _ KY3 (⟨rfl, hY3⟩ | ⟨rfl, hY3⟩)
      · refine E_nilR (E_on rfl (E_notV rfl rfl (E_pickT rfl (v := .bool _) rfl (E_nil (AX_condF rfl (AX_skip (AX_E (E_addI rfl rfl (by first | omega | (simp; done) | (simp; omega)) (by first | omega | (simp; done) | (simp; omega)) (E_mv (v := .int .i64 (((i : Int) + 1))) rfl (E_nil ?_))))))))))
        refine hN0 (i + 1) _ _ _ ⟨by first | rfl | (congr 1; omega), by first | rfl | (congr 1; omega), by first | rfl | (congr 1; omega), by first | rfl | (congr 1; omega), by first | rfl | (congr 1; omega), trivial⟩ ⟨?_, rfl, ?_⟩ ?_
        all_goals clear hN0 hR0 hE0
        · simpa using hY3
        · omega
        · (first | omega | (simp; omega))
      · refine E_nilR (E_on rfl (E_notV rfl rfl (E_pickT rfl (v := .bool _) rfl (E_nil (AX_condT rfl (AX_ret (hR0 _ _ _ ?_)))))))
        refine ⟨.tuple #[], rfl, by simp, _, ?_, rfl⟩
        exact .inr (by simpa using hY3)
    · refine E_mv (v := .bool _) rfl (E_notT rfl (E_notT rfl (E_notT rfl (E_notT rfl (E_pickF rfl (v := .bool _) rfl (E_nil (AX_condF rfl (AX_skip (AX_E (E_addI rfl rfl (by first | omega | (simp; done) | (simp; omega)) (by first | omega | (simp; done) | (simp; omega)) (E_mv (v := .int .i64 (((i : Int) + 1))) rfl (E_nil ?_))))))))))))
      refine hN0 (i + 1) _ _ _ ⟨by first | rfl | (congr 1; omega), by first | rfl | (congr 1; omega), by first | rfl | (congr 1; omega), by first | rfl | (congr 1; omega), by first | rfl | (congr 1; omega), trivial⟩ ⟨?_, rfl, ?_⟩ ?_
      all_goals clear hN0 hR0 hE0
      · simpa using hskip i KH0 (by omega) hI0 c23
      · omega
      · (first | omega | (simp; omega))
  · refine E_nil (AX_seq (AX_condF rfl (AX_exit (hE0 _ _ _ _ ?_))))
    have en : i = n := by omega
    subst en
    refine ⟨.tuple #[], rfl, by simp, _, ?_, rfl⟩
    exact .inl (by simpa using hI0)
abbrev wcells (c : C) (p : Pl) (f : Nat) : List Value := [.int .i64 c.w, .int .i64 c.b, .slice p.1 c.gs.length p.2, .func (.func f) #[] #[]]
theorem pbefore_ret (H : Heap) (c : C) (p : Pl) (f : Nat) (n : Int) : Ret (tab Tryd.prog) 50 [.agg #[.int .i64 c.w, .int .i64 c.b, .slice p.1 c.gs.length p.2, .func (.func f) #[] #[]], .int .i64 n] H (.func (.func 79) #[] #[.pointer (some ⟨H.length + 1, 0, none⟩), .pointer (some ⟨H.length + 0, 0, none⟩)]) (H ++ [.row (wcells c p f) true none, .row [.int .i64 n] true none]) := by
  refine Ret_own k69 rfl ?_
  refine AX_seq (AX_E (E_boxA rfl (E_boxV (v := .int .i64 (n)) rfl rfl (E_mv (v := .nilFunc) rfl (E_nil (AX_seq (AX_E (E_fn (u := []) (v := [.pointer (some ⟨(H).length + 1, 0, none⟩), .pointer (some ⟨(H).length + 0, 0, none⟩)]) rfl rfl (E_mv (v := .func _ _ _) rfl (E_nil (AX_ret ?_)))))))))))
  exact ⟨_, rfl, by simp, rfl, forget_more rfl⟩
/-- A range over the neighbours before a gate whose body leaves at once. -/
theorem rf_leave {fi : FI} {fr : Nat → Value} {b L : Heap} {m : List Nat} {Q : Ex → (Nat → Value) → Heap → List Nat → Prop} {f : KO} {ps : List Nat} {id id' n f1 bn bw : Nat} {c : C} {p : Pl} (P : Nat → Prop) [DecidablePred P]
    (hf : f.ev fr = .func (.func 79) #[] #[.pointer (some ⟨bn, 0, none⟩), .pointer (some ⟨bw, 0, none⟩)]) (hps : ps.length = 1) (hid : (id' = id) = False) (hrd : fi.rd = none)
    (h1 : rowGet (b ++ L) ⟨bn, 0, none⟩ 1 = some [.int .i64 (n : Int)]) (h2 : rowGet (b ++ L) ⟨bw, 0, none⟩ 4 = some (wcells c p f1)) (h3 : Gates allB (b ++ L) p c.gs) (hn : n < c.gs.length) (hl : c.gs.length < 4294967296)
    (hnear : ∀ i (hi : i < n) (K : Heap) (q1 q2 : Pl), Ints allB K q1 c.gs[i].ws → Ints allB K q2 c.gs[n].ws → Ret (tab Tryd.prog) f1 [gv c.gs[i] q1, gv c.gs[n] q2] K (.bool (decide (P i))) K)
    (hN : (∀ i, i < n → ¬ P i) → ∀ R, Q .normal fr (b ++ (L ++ [.mark, .loop R])) ((b ++ L).length :: m)) (hE : (∃ i, i < n ∧ P i) → ∀ R, Q (.exit id') fr (b ++ (L ++ [.mark, .loop R])) ((b ++ L).length :: m)) :
    AX (tab Tryd.prog) fi (.rf f ps .skip (.block id (.exit id'))) fr (b ++ L) m Q := by
  refine AX_rf hf hrd ?_
  have hN' : (∀ i, i < n → ¬ P i) → ∀ R, Q .normal fr ((b ++ L) ++ [.mark, .loop R]) ((b ++ L).length :: m) := fun x R => by rw [List.append_assoc]; exact hN x R
  have hE' : (∃ i, i < n ∧ P i) → ∀ R, Q (.exit id') fr ((b ++ L) ++ [.mark, .loop R]) ((b ++ L).length :: m) := fun x R => by rw [List.append_assoc]; exact hE x R
  clear hN hE
  generalize b ++ L = h at *
  generalize hR : rec0 fi fr ps .skip (.block id (.exit id')) h.length = R
  have hR1 : R.st = .ready := by rw [← hR]; rfl
  have hR2 : R.pending = none := by rw [← hR]; rfl
  have hR3 : R.fi.rd = some (h.length + 1) := by rw [← hR]; rfl
  have hR4 : R.params.length = 1 := by rw [← hR]; exact hps
  have hR5 : R.assign = .skip := by rw [← hR]; rfl
  have hR6 : R.body = .block id (.exit id') := by rw [← hR]; rfl
  clear hR
  obtain ⟨st, pd, fi', fr', ps', a', b', bk⟩ := R
  simp only at hR1 hR2 hR3 hR4 hR5 hR6
  subst hR1 hR2 hR5 hR6
  have hget : ∀ r, (h ++ [CO.mark, .loop r])[h.length + 1]? = some (.loop r) := fun r => by rw [List.getElem?_append_right (by omega)]; simp
  have hset : ∀ r r', (h ++ [CO.mark, .loop r]).set (h.length + 1) (.loop r') = h ++ [.mark, .loop r'] := fun r r' => by rw [List.set_append_right _ _ (by omega)]; simp
  have key := before1_call (h.length + 1) n P (fun i K => K = h ++ [.mark, .loop ⟨.ready, none, fi', fr', ps', .skip, .block id (.exit id'), bk⟩] ∧ ∀ j, j < i → ¬ P j) (fun K => K = h ++ [.mark, .loop ⟨.done, some (.exit id'), fi', fr', ps', .skip, .block id (.exit id'), bk⟩] ∧ ∃ j, j < n ∧ P j) bn bw 0 0 f1 c.gs p c.w c.b ?_ hn hl hnear ?_ ?_ (h ++ [.mark, .loop ⟨.ready, none, fi', fr', ps', .skip, .block id (.exit id'), bk⟩]) ⟨rfl, fun j hj => by omega⟩
  · refine ACall.mono key ?_
    rintro _ K' ⟨Kf, hK | hK, rfl⟩
    · obtain ⟨rfl, hj⟩ := hK
      rw [forget_flat rfl (List.prefix_refl _)]
      refine ⟨_, hget _, by simp, ?_⟩
      rw [hset]
      exact hN' hj _
    · obtain ⟨rfl, hj⟩ := hK
      have hne : ¬ (h ++ [CO.mark, .loop ⟨.ready, none, fi', fr', ps', .skip, .block id (.exit id'), bk⟩] <+: h ++ [CO.mark, .loop ⟨.done, some (.exit id'), fi', fr', ps', .skip, .block id (.exit id'), bk⟩]) := by
        rintro ⟨t, ht⟩
        have := congrArg (fun l : Heap => l[h.length + 1]?) ht
        simp only [List.append_assoc] at this
        rw [List.getElem?_append_right (by omega), hget] at this
        simp only [show h.length + 1 - h.length = 1 by omega, List.cons_append, List.getElem?_cons_succ, List.getElem?_cons_zero] at this
        injection this with this
        injection this with this
        have := congrArg CLoop.st this
        cases this
      unfold forget
      rw [if_neg (fun x => hne x.2)]
      refine ⟨_, hget _, by simp, ?_⟩
      rw [hset]
      exact hE' hj _
  · rintro i K ⟨rfl, _⟩
    exact ⟨rowGet_base h1, rowGet_base h2, h3.app⟩
  · rintro i K hi ⟨rfl, hj⟩ hp
    refine ⟨rfl, fun j hjj => ?_⟩
    by_cases e : j = i
    · subst e; exact hp
    · exact hj j (by omega)
  · rintro i K hi ⟨rfl, hj⟩ hp
    refine ARound_of (hget _) (by simp [hR4]) rfl hR3 ?_
    refine AX_skip ⟨rfl, rfl, _, hget _, rfl, ?_⟩
    rw [hset]
    refine AX_block (AX_exit ?_)
    simp only [blockK, hid, if_false]
    refine ⟨by trivial, _, hget _, ?_⟩
    rw [hset]
    exact .inr ⟨by trivial, by first | rfl | trivial, ⟨i, hi, hp⟩⟩
end Go.Canon
namespace Go.Canon
open Go Go.Proofs
set_option linter.unusedVariables false
set_option linter.unusedSimpArgs false
def kf71 : KFunc := ⟨3, 33, [.tmp 6], .seq (.reg [⟨some 6, .mv (.c (.slice none 0 0)), none⟩] []) (.seq (.reg [⟨some 8, .mv (.t 0), none⟩, ⟨some 9, .mv (.t 1), none⟩, ⟨some 10, .mv (.t 2), none⟩, ⟨some 11, .mv (.t 0), none⟩, ⟨some 12, .len (.t 11), none⟩, ⟨some 13, .slS (.t 8) (some (.t 9)) (some (.t 10)) (some (.t 12)) 4, none⟩] []) (.seq (.seq (.reg [⟨some 14, .mv (.t 1), none⟩, ⟨some 15, .mv (.t 2), none⟩, ⟨some 16, .bin .eql (.t 14) (.t 15), none⟩] []) (.cond (.t 16) (.seq (.reg [⟨some 17, .mv (.t 0), none⟩, ⟨some 6, .mv (.t 17), none⟩] []) .ret) .skip)) (.seq (.reg [⟨some 18, .mv (.t 0), none⟩, ⟨some 19, .len (.t 18), none⟩, ⟨some 7, .mv (.t 19), none⟩] []) (.seq (.reg [⟨some 20, .mv (.t 0), none⟩, ⟨some 21, .mv (.t 1), none⟩, ⟨some 22, .slS (.t 20) none (some (.t 21)) none 4, none⟩, ⟨some 23, .mv (.t 0), none⟩, ⟨some 24, .mv (.t 2), none⟩, ⟨some 25, .slS (.t 23) (some (.t 24)) none none 4, none⟩, ⟨some 26, .app (.t 22) (.t 25) 4 48, none⟩, ⟨some 0, .mv (.t 26), none⟩] []) (.seq (.reg [⟨some 27, .mv (.t 0), none⟩, ⟨some 28, .mv (.t 0), none⟩, ⟨some 29, .len (.t 28), none⟩, ⟨some 30, .mv (.t 7), none⟩, ⟨some 31, .slS (.t 27) (some (.t 29)) (some (.t 30)) none 4, none⟩, ⟨none, .clr (.t 31) [.int .i64 0, .slice none 0 0, .int .i64 0, .int .i64 0], none⟩] []) (.seq (.reg [⟨some 32, .mv (.t 0), none⟩, ⟨some 6, .mv (.t 32), none⟩] []) .ret))))))⟩
theorem k71 : tab Tryd.prog 33 = some kf71 := by kernel_rfl
theorem delete_ret (K : Heap) (b k cap j : Nat) (cs : List Value) (gr : Option Nat) (hrow : K[b]? = some (.row cs true gr)) (hg : gr = none ∨ gr = some 4) (hj : j < k) (hk : k ≤ cap) (hfit : k * 4 ≤ cs.length) (hcell : ∀ v ∈ cs, isCell v = true) :
    ∃ cs', Ret (tab Tryd.prog) 33 [.slice (some ⟨b, 0, none⟩) k cap, .int .i64 (j : Int), .int .i64 ((j : Int) + 1)] K (.slice (some ⟨b, 0, none⟩) (k - 1) cap) (K.set b (.row cs' true gr)) ∧ cs'.length = cs.length ∧ (∀ v ∈ cs', isCell v = true) ∧ cs'.take ((k - 1) * 4) = cs.take (j * 4) ++ (cs.drop ((j + 1) * 4)).take ((k - (j + 1)) * 4) := by
  have hb := (List.getElem?_eq_some_iff.1 hrow).1
  let new := (cs.drop ((j + 1) * 4)).take ((k - (j + 1)) * 4)
  have hnl : new.length = (k - (j + 1)) * 4 := by simp only [new, List.length_take, List.length_drop]; omega
  have hnc : ∀ v ∈ new, isCell v = true := fun v hv => hcell v (List.mem_of_mem_drop (List.mem_of_mem_take hv))
  let cs1 := cs.take (j * 4) ++ new ++ cs.drop (j * 4 + new.length)
  have hl1 : cs1.length = cs.length := by simp only [cs1, List.length_append, List.length_take, List.length_drop, hnl]; omega
  let z : List Value := [.int .i64 0, .slice none 0 0, .int .i64 0, .int .i64 0]
  let cs2 := cs1.take ((k - 1) * 4) ++ z ++ cs1.drop ((k - 1) * 4 + z.length)
  refine ⟨cs2, ?_, ?_, ?_, ?_⟩
  · refine Ret_own k71 rfl ?_
    have r0 : (K ++ [])[b]? = some (.row cs true gr) := by rw [List.append_nil]; exact hrow
    have e1 : (some ⟨b, (j + 1) * 4, none⟩ : Option Addr) = (if cap = j + 1 then (some ⟨b, 0, none⟩ : Option Addr) else (some ⟨b, 0, none⟩ : Option Addr).map (·.add ((j + 1) * 4))) ∨ cap = j + 1 := by
      by_cases h : cap = j + 1
      · exact .inr h
      · left; rw [if_neg h]; simp [add_pl]
    have hC : Cells allB (K ++ []) 4 (some ⟨b, 0, none⟩, cap) k (cs.take (k * 4)) := ⟨by simp; omega, hk, .inr ⟨b, 0, cs, true, gr, rfl, trivial, r0, hg, .inr ⟨by omega, by rw [List.drop_zero]⟩⟩⟩
    have hx : (cs.take (k * 4)).drop ((j + 1) * 4) = new := by
      simp only [new]
      rw [List.drop_take, Nat.sub_mul]
    refine AX_seq (AX_E (E_mv (v := .slice _ _ _) rfl (E_nil (AX_seq (AX_E (E_mv (v := .slice (some ⟨b, 0, none⟩) k cap) rfl (E_mv (v := .int .i64 (j : Int)) rfl (E_mv (v := .int .i64 ((j : Int) + 1)) rfl (E_mv (v := .slice (some ⟨b, 0, none⟩) k cap) rfl (E_len (n := k) rfl ?_))))))))))
    refine E_sl3 (i1 := j) (i2 := j + 1) rfl r0 hg rfl rfl rfl (by omega) (by omega) hk fun v13 => ?_
    refine E_nil (AX_seq (AX_seq (AX_E (E_mv (v := .int .i64 (j : Int)) rfl (E_mv (v := .int .i64 ((j : Int) + 1)) rfl (E_eqlS rfl rfl (fun c => absurd c (by omega)) fun c => ?_))))))
    refine E_nil (AX_condF rfl (AX_skip (AX_seq (AX_E (E_mv (v := .slice (some ⟨b, 0, none⟩) k cap) rfl (E_len (n := k) rfl (E_mv (v := .int .i64 (k : Int)) rfl (E_nil (AX_seq (AX_E (E_mv (v := .slice (some ⟨b, 0, none⟩) k cap) rfl (E_mv (v := .int .i64 (j : Int)) rfl ?_))))))))))))
    refine E_slHi (p := (some ⟨b, 0, none⟩, cap)) (j := j) rfl hC rfl rfl (by omega) (E_mv (v := .slice (some ⟨b, 0, none⟩) k cap) rfl (E_mv (v := .int .i64 ((j : Int) + 1)) rfl ?_))
    refine E_slLo (p := (some ⟨b, 0, none⟩, cap)) (j := j + 1) rfl hC rfl rfl (by omega) ?_
    refine E_appIn (cs := cs) (gr := gr) (new := new) rfl rfl (by rw [← hx]; exact (hC.drop (by omega)).first) r0 (by omega) (by omega) hnl (List.all_eq_true.2 hnc) rfl ?_
    refine E_mv (v := .slice (some ⟨b, 0, none⟩) (j + (k - (j + 1))) cap) rfl (E_nil (AX_seq (AX_E (E_mv (v := .slice (some ⟨b, 0, none⟩) (j + (k - (j + 1))) cap) rfl (E_mv (v := .slice (some ⟨b, 0, none⟩) (j + (k - (j + 1))) cap) rfl (E_len (n := j + (k - (j + 1))) rfl (E_mv (v := .int .i64 (k : Int)) rfl ?_)))))))
    have r1 : ((K ++ []).set b (.row (cs.take (j * 4) ++ new ++ cs.drop (j * 4 + new.length)) true gr))[b]? = some (.row cs1 true gr) := by rw [List.getElem?_set_self (by simpa using hb)]
    refine E_slLH (i1 := j + (k - (j + 1))) (i2 := k) rfl r1 hg rfl rfl (by omega) hk (by omega) ?_
    have e2 : k - (j + (k - (j + 1))) = 1 := by omega
    have e3 : j + (k - (j + 1)) = k - 1 := by omega
    rw [e2, e3]
    refine E_clr1 (cs := cs1) (gr := gr) rfl rfl r1 (by omega) rfl rfl ?_
    refine E_nil (AX_seq (AX_E (E_mv (v := .slice (some ⟨b, 0, none⟩) (k - 1) cap) (by rw [← e3]; rfl) (E_mv (v := .slice (some ⟨b, 0, none⟩) (k - 1) cap) rfl (E_nil (AX_ret ?_))))))
    refine ⟨_, rfl, by simp, rfl, ?_⟩
    refine (forget_more (v := .slice (some ⟨b, 0, none⟩) (k - 1) cap) rfl).trans ?_
    show ((K ++ []).set b _).set b _ = _
    rw [List.set_set, List.append_nil]
  · simp only [cs2, List.length_append, List.length_take, List.length_drop, hl1, z, List.length_cons, List.length_nil]; omega
  · intro v hv
    have h1 : ∀ v ∈ cs1, isCell v = true := by
      intro v hv
      simp only [cs1, List.mem_append] at hv
      rcases hv with (hv | hv) | hv
      · exact hcell v (List.mem_of_mem_take hv)
      · exact hnc v hv
      · exact hcell v (List.mem_of_mem_drop hv)
    simp only [cs2, List.mem_append] at hv
    rcases hv with (hv | hv) | hv
    · exact h1 v (List.mem_of_mem_take hv)
    · simp only [z, List.mem_cons, List.not_mem_nil, or_false] at hv
      rcases hv with rfl | rfl | rfl | rfl <;> rfl
    · exact h1 v (List.mem_of_mem_drop hv)
  · simp only [cs2]
    rw [List.append_assoc, List.take_append_of_le_length (by simp [hl1]; omega), List.take_take, Nat.min_self]
    simp only [cs1]
    rw [List.take_append_of_le_length (by simp [hnl]; omega)]
    exact List.take_of_length_le (by simp [hnl]; omega)
end Go.Canon
namespace Go.Canon
open Go Go.Proofs
set_option linter.unusedVariables false
set_option linter.unusedSimpArgs false
def kf79 : KFunc := ⟨1, 11, [.tmp 2], .seq (.reg [⟨some 1, .box (.t 0), none⟩, ⟨some 2, .mv (.c (.bool false)), none⟩] []) (.seq (.reg [⟨some 3, .fa (.t 1) 0, none⟩, ⟨some 4, .ld (.t 3) none, none⟩, ⟨some 5, .bin .leq (.t 4) (.c (.int .i64 12)), none⟩, ⟨some 6, .mv (.t 5), none⟩, ⟨some 7, .fa (.t 1) 3, some (6, true)⟩, ⟨some 8, .ld (.t 7) none, some (6, true)⟩, ⟨some 9, .bin .eql (.t 8) (.c (.int .i64 0)), some (6, true)⟩, ⟨some 10, .pick (.t 6) (.t 9) (.c (.bool false)), none⟩, ⟨some 2, .mv (.t 10), none⟩] []) .ret)⟩
theorem k79 : tab Tryd.prog 82 = some kf79 := by kernel_rfl
def kf101 : KFunc := ⟨2, 8, [.tmp 3], .seq (.reg [⟨some 2, .box (.t 0), none⟩, ⟨some 3, .mv (.c (.bool false)), none⟩] []) (.seq (.reg [⟨some 4, .ld (.t 1) none, none⟩, ⟨some 5, .ld (.t 2) (some 4), none⟩, ⟨some 6, .call (.t 4) [.t 5], none⟩, ⟨some 7, .not (.t 6), none⟩, ⟨some 3, .mv (.t 7), none⟩] []) .ret)⟩
theorem k101 : tab Tryd.prog 102 = some kf101 := by kernel_rfl
def kf78 : KFunc := ⟨2, 9, [.tmp 4], .seq (.reg [⟨some 3, .box (.t 1), none⟩, ⟨some 4, .mv (.c (.bool false)), none⟩] []) (.seq (.reg [⟨some 5, .mv (.t 0), none⟩, ⟨some 6, .fn 102 [] [.t 3], none⟩, ⟨some 7, .call (.c (.func (.func 101) #[] #[])) [.t 5, .t 6], none⟩, ⟨some 8, .not (.t 7), none⟩, ⟨some 4, .mv (.t 8), none⟩] []) .ret)⟩
theorem k78 : tab Tryd.prog 81 = some kf78 := by kernel_rfl
def kf27 : KFunc := ⟨1, 13, [.tmp 2, .tmp 3], .seq (.reg [⟨some 1, .box (.t 0), none⟩, ⟨some 2, .mv (.c (.bool false)), none⟩, ⟨some 3, .mv (.c (.int .i64 0)), none⟩] []) (.seq (.seq (.reg [⟨some 5, .ld (.t 1) (some 3), none⟩, ⟨some 6, .call (.c (.func (.func 62) #[] #[])) [.t 5], none⟩, ⟨some 4, .mv (.t 6), none⟩] []) (.seq (.reg [⟨some 7, .mv (.t 4), none⟩, ⟨some 8, .bin .neq (.t 7) (.c (.int .i64 0)), none⟩] []) (.cond (.t 8) (.seq (.reg [⟨some 9, .mv (.t 4), none⟩, ⟨some 2, .mv (.c (.bool false)), none⟩, ⟨some 3, .mv (.t 9), none⟩] []) .ret) .skip))) (.seq (.reg [⟨some 10, .fa (.t 1) 2, none⟩, ⟨some 11, .ld (.t 10) none, none⟩, ⟨some 12, .call (.c (.func (.func 81) #[] #[])) [.t 11, .c (.func (.func 82) #[] #[])], none⟩, ⟨some 2, .mv (.t 12), none⟩, ⟨some 3, .mv (.c (.int .i64 0)), none⟩] []) .ret))⟩
theorem k27 : tab Tryd.prog 57 = some kf27 := by kernel_rfl
def plainM (c : C) : Prop := ∀ g ∈ c.gs, g.k < 13 ∧ g.f = 0
instance (c : C) : Decidable (plainM c) := by unfold plainM; infer_instance
theorem plain1_ret (H : Heap) (g : G) (p : Pl) (hg : GR g) : Ret (tab Tryd.prog) 82 [gv g p] H (.bool (decide (g.k < 13 ∧ g.f = 0))) H := by
  refine Ret_own k79 rfl ?_
  refine AX_seq (AX_E (E_boxA rfl (E_mv (v := .bool _) rfl (E_nil (AX_seq (AX_E (E_fa rfl (E_ldO (k := 0) (v := .int .i64 (g.k)) rfl rfl (E_leqS rfl rfl (fun c5 => ?_) (fun c5 => ?_))))))))))
  · refine E_mv (v := .bool _) rfl (E_on rfl (E_fa rfl (E_on rfl (E_ldO (k := 0) (v := .int .i64 (g.f)) rfl rfl (E_on rfl (E_eqlV rfl rfl (E_pickT rfl (v := .bool _) rfl (E_mv (v := .bool _) rfl (E_nil (AX_ret ?_))))))))))
    refine ⟨_, rfl, by simp, ?_, forget_flat rfl (List.prefix_append _ _)⟩
    refine congrArg (Value.bool) ?_
    refine decide_eq_decide.2 ?_
    omega
  · refine E_mv (v := .bool _) rfl (E_notT rfl (E_notT rfl (E_notT rfl (E_pickF rfl (v := .bool _) rfl (E_mv (v := .bool _) rfl (E_nil (AX_ret ?_)))))))
    refine ⟨_, rfl, by simp, ?_, forget_flat rfl (List.prefix_append _ _)⟩
    refine congrArg (Value.bool) ?_
    refine (decide_eq_false ?_).symm
    omega
theorem everyG1_ret (H : Heap) (g : G) (p : Pl) (b o : Nat) (f : Nat) (P : Prop) [Decidable P] (hr : rowGet H ⟨b, o, none⟩ 1 = some [.func (.func f) #[] #[]])
    (hf : ∀ K, H <+: K → Ret (tab Tryd.prog) f [gv g p] K (.bool (decide P)) K) : Ret (tab Tryd.prog) 102 [gv g p, .pointer (some ⟨b, o, none⟩)] H (.bool (decide ¬ P)) H := by
  refine Ret_own k101 rfl ?_
  refine AX_seq (AX_E (E_boxA rfl (E_mv (v := .bool _) rfl (E_nil (AX_seq (AX_E (E_ldB (v := .func _ _ _) rfl hr (E_ldON (k := 0) rfl rfl (E_callP rfl (hf _ (List.prefix_append _ _)) (fun c6 => ?_) (fun c6 => ?_))))))))))
  · refine E_notV rfl rfl (E_mv (v := .bool _) rfl (E_nil (AX_ret ?_)))
    refine ⟨_, rfl, by simp, ?_, forget_flat rfl (List.prefix_append _ _)⟩
    refine congrArg (Value.bool) ?_
    refine (decide_eq_false ?_).symm
    simp [*]
  · refine E_notV rfl rfl (E_mv (v := .bool _) rfl (E_nil (AX_ret ?_)))
    refine ⟨_, rfl, by simp, ?_, forget_flat rfl (List.prefix_append _ _)⟩
    refine congrArg (Value.bool) ?_
    refine (decide_eq_true ?_).symm
    simp [*]
theorem everyG_ret (H : Heap) (p : Pl) (l : List G) (f : Nat) (P : G → Prop) [DecidablePred P] {S : Nat → Prop} (hv : Gates S H p l) (hl : l.length < 4294967296)
    (hf : ∀ (g : G) (p : Pl) (K : Heap), H <+: K → g ∈ l → Ret (tab Tryd.prog) f [gv g p] K (.bool (decide (P g))) K) :
    Ret (tab Tryd.prog) 81 [.slice p.1 l.length p.2, .func (.func f) #[] #[]] H (.bool (decide (∀ x ∈ l, P x))) H := by
  refine Ret_own k78 rfl ?_
  refine AX_seq (AX_E (E_boxV (v := .func _ _ _) rfl rfl (E_mv (v := .bool _) rfl (E_nil (AX_seq (AX_E (E_mv (v := .slice _ _ _) rfl (E_fn (u := []) (v := [.pointer (some ⟨(H).length + 0, 0, none⟩)]) rfl rfl (E_callP rfl (containsfuncG_ret _ _ _ _ _ _ (fun x => ¬ P x) hv.app (by omega) (fun g p K hK hg _ => everyG1_ret K g p _ _ f (P g) (rowGet_pre (rowGet_own (k := 0) rfl) hK) (fun K2 h2 => hf g p K2 (((List.prefix_append _ _).trans hK).trans h2) hg))) (fun c7 => ?_) (fun c7 => ?_))))))))))
  · refine E_notV rfl rfl (E_mv (v := .bool _) rfl (E_nil (AX_ret ?_)))
    refine ⟨_, rfl, by simp, ?_, forget_flat rfl (List.prefix_append _ _)⟩
    refine congrArg (Value.bool) ?_
    refine (decide_eq_false ?_).symm
    first | (intro x hx; exact Decidable.byContradiction fun h => c7 ⟨x, hx, h⟩) | (obtain ⟨x, hx, h⟩ := c7; exact fun y => h (y x hx))
  · refine E_notV rfl rfl (E_mv (v := .bool _) rfl (E_nil (AX_ret ?_)))
    refine ⟨_, rfl, by simp, ?_, forget_flat rfl (List.prefix_append _ _)⟩
    refine congrArg (Value.bool) ?_
    refine (decide_eq_true ?_).symm
    first | (intro x hx; exact Decidable.byContradiction fun h => c7 ⟨x, hx, h⟩) | (obtain ⟨x, hx, h⟩ := c7; exact fun y => h (y x hx))
theorem pplain_ret (H : Heap) (c : C) (p : Pl) {S : Nat → Prop} (hv : Gates S H p c.gs) (hl : c.gs.length < 4294967296) : Ret (tab Tryd.prog) 57 [cv c p] H (.tuple #[.bool (if checkM c = 0 then decide (plainM c) else false), .int .i64 (checkM c)]) H := by
  refine Ret_own k27 rfl ?_
  refine AX_seq (AX_E (E_boxA rfl (E_mv (v := .bool _) rfl (E_mv (v := .int .i64 (0)) rfl (E_nil (AX_seq (AX_seq (AX_E (E_ldON (k := 0) rfl rfl (E_callV rfl (pcheck_ret _ c _ hv.app (by first | omega | (simp; done) | (simp; omega))) (E_mv (v := .int .i64 (checkM c)) rfl (E_nil (AX_seq (AX_E (E_mv (v := .int .i64 (checkM c)) rfl (E_neqS rfl rfl (fun c8 => ?_) (fun c8 => ?_)))))))))))))))))
  · refine E_nil (AX_condT rfl (AX_seq (AX_E (E_mv (v := .int .i64 (checkM c)) rfl (E_mv (v := .bool _) rfl (E_mv (v := .int .i64 (checkM c)) rfl (E_nil (AX_ret ?_))))))))
    refine ⟨_, rfl, by simp, ?_, forget_flat rfl (List.prefix_append _ _)⟩
    -- r1
    show Value.tuple #[.bool false, .int .i64 (checkM c)] = _
    first | (simp [*]; done) | (have h9 : plainM c := c12; simp [h9, c8]; done) | (have h9 : ¬ plainM c := c12; simp [h9, c8])
  · refine E_nil (AX_condF rfl (AX_skip (AX_seq (AX_E (E_fa rfl (E_ldO (k := 0) (v := .slice _ _ _) rfl rfl (E_callP rfl (everyG_ret _ _ _ _ (fun g => g.k < 13 ∧ g.f = 0) hv.app (by omega) (fun g p K hK hg => plain1_ret K g p ((CR.of c8).gr hg))) (fun c12 => ?_) (fun c12 => ?_))))))))
    · refine E_mv (v := .bool _) rfl (E_mv (v := .int .i64 (0)) rfl (E_nil (AX_ret ?_)))
      refine ⟨_, rfl, by simp, ?_, forget_flat rfl (List.prefix_append _ _)⟩
      -- r2
      show Value.tuple #[.bool true, .int .i64 (0)] = _
      first | (simp [*]; done) | (have h9 : plainM c := c12; simp [h9, c8]; done) | (have h9 : ¬ plainM c := c12; simp [h9, c8])
    · refine E_mv (v := .bool _) rfl (E_mv (v := .int .i64 (0)) rfl (E_nil (AX_ret ?_)))
      refine ⟨_, rfl, by simp, ?_, forget_flat rfl (List.prefix_append _ _)⟩
      -- r3
      show Value.tuple #[.bool false, .int .i64 (0)] = _
      first | (simp [*]; done) | (have h9 : plainM c := c12; simp [h9, c8]; done) | (have h9 : ¬ plainM c := c12; simp [h9, c8])
/-- The layer of gate i, by the first k before it, whose layers are out. -/
def layerTo (gs : List G) (out : List Int) (i : Nat) : Nat → Int
  | 0 => 0
  | k + 1 => if meetM (gs.getD i default) (gs.getD k default) ∧ layerTo gs out i k ≤ out.getD k 0 then out.getD k 0 + 1 else layerTo gs out i k
def layersL (gs : List G) : Nat → List Int
  | 0 => []
  | i + 1 => layersL gs i ++ [layerTo gs (layersL gs i) i i]
theorem layersL_len (gs : List G) : ∀ i, (layersL gs i).length = i
  | 0 => rfl
  | i + 1 => by rw [layersL, List.length_append, layersL_len gs i]; rfl
theorem layerTo_le {gs : List G} {out : List Int} {i : Nat} {B : Int} (hB : 0 ≤ B) (H : ∀ x ∈ out, 0 ≤ x ∧ x < B) : ∀ k, k ≤ out.length → 0 ≤ layerTo gs out i k ∧ layerTo gs out i k ≤ B
  | 0, _ => by simp [layerTo, hB]
  | k + 1, hk => by
    have := layerTo_le (i := i) (gs := gs) hB H k (by omega)
    have h2 := H (out.getD k 0) (by rw [← getD_at (show k < out.length by omega)]; exact List.getElem_mem _)
    unfold layerTo
    split <;> omega
theorem layersL_le (gs : List G) : ∀ i, ∀ x ∈ layersL gs i, 0 ≤ x ∧ x < (i : Int)
  | 0, x, h => by simp [layersL] at h
  | i + 1, x, h => by
    rw [layersL, List.mem_append] at h
    have ih := layersL_le gs i
    rcases h with h | h
    · have := ih x h; omega
    · simp only [List.mem_cons, List.not_mem_nil, or_false] at h
      subst h
      have := layerTo_le (gs := gs) (i := i) (B := (i : Int)) (by omega) ih i (by rw [layersL_len]; omega)
      omega
theorem layer_yes {gs : List G} {out : List Int} {i k : Nat} (hi : i < gs.length) (hk : k < gs.length) (ho : k < out.length) (h1 : meetM gs[i] gs[k]) (h2 : layerTo gs out i k ≤ out[k]) : layerTo gs out i (k + 1) = out[k] + 1 := by
  rw [layerTo, getG_at hi, getG_at hk, ← getD_at ho, if_pos ⟨h1, h2⟩]
theorem layer_no {gs : List G} {out : List Int} {i k : Nat} (hi : i < gs.length) (hk : k < gs.length) (h1 : ¬ meetM gs[i] gs[k]) : layerTo gs out i (k + 1) = layerTo gs out i k := by
  rw [layerTo, getG_at hi, getG_at hk, if_neg (fun x => h1 x.1)]
theorem layer_no2 {gs : List G} {out : List Int} {i k : Nat} (ho : k < out.length) (h2 : ¬ layerTo gs out i k ≤ out[k]) : layerTo gs out i (k + 1) = layerTo gs out i k := by
  rw [layerTo, ← getD_at ho, if_neg (fun x => h2 x.2)]
end Go.Canon
namespace Go.Canon
open Go Go.Proofs
set_option linter.unusedVariables false
set_option linter.unusedSimpArgs false
def depthL (l : List Int) : Int := l.foldl (fun n x => if n ≤ x then x + 1 else n) 0
theorem depthL_next {l : List Int} {j : Nat} (hj : j < l.length) : depthL (l.take (j + 1)) = if depthL (l.take j) ≤ l[j] then l[j] + 1 else depthL (l.take j) := by
  unfold depthL
  rw [List.take_succ_eq_append_getElem hj, List.foldl_append]
  rfl
def depthM (c : C) : Int := depthL (layersL c.gs c.gs.length)
end Go.Canon
namespace Go.Canon
open Go Go.Proofs
set_option linter.unusedVariables false
set_option linter.unusedSimpArgs false
end Go.Canon
namespace Go.Canon
open Go Go.Proofs
set_option linter.unusedVariables false
set_option linter.unusedSimpArgs false
def invG (g : G) : G := ⟨oppM g.k, g.ws, g.b, g.f⟩
def inverseE (c : C) : Int := if checkM c ≠ 0 then checkM c else if plainM c then 0 else 7
def inverseM (c : C) : C := if inverseE c = 0 then ⟨c.w, c.b, c.gs.reverse.map invG⟩ else ⟨0, 0, []⟩
end Go.Canon
namespace Go.Canon
open Go Go.Proofs
set_option linter.unusedVariables false
set_option linter.unusedSimpArgs false
theorem cells_own {sz : Nat} {h L : Heap} {k n : Nat} {cells : List Value} {wr : Bool} (hL : L[k]? = some (.row cells wr none)) (hl : cells.length = n * sz) : Cells allB (h ++ L) sz (some ⟨h.length + k, 0, none⟩, n) n cells :=
  ⟨hl, Nat.le_refl _, .inr ⟨h.length + k, 0, cells, wr, none, rfl, trivial, by rw [own_get]; exact hL, .inl rfl, .inr ⟨by omega, by rw [List.drop_zero, ← hl, List.take_length]⟩⟩⟩
theorem behind1_ret (h L : Heap) (k : Nat) (q : Pl) (gs : List G) {S : Nat → Prop} (hL : L[k]? = some (.row [.slice q.1 gs.length q.2] true none)) (hv : Gates S (h ++ L) q gs) (hl : gs.length < 4294967296) (hw : ∀ g ∈ gs, g.ws.length < 4294967296) :
    ∃ X p', Ret (tab Tryd.prog) 58 [.slice (some ⟨h.length + k, 0, none⟩) 1 1] (h ++ L) (.slice p'.1 gs.length p'.2) (h ++ L ++ X) ∧ GatesZ (h ++ L).length X p' gs := by
  have e : [gs].flatten = gs := by simp
  have := behind_ret (h ++ L) (some ⟨h.length + k, 0, none⟩, 1) [gs] [q] (S := allB) (S' := S) ⟨rfl, cells_own hL rfl⟩ (fun j h1 h2 => by
    have : j = 0 := by simpa using h1
    subst this
    exact hv) (by simp) (by rw [e]; exact hl) (fun gs' hg g hgg => by simp at hg; subst hg; exact hw g hgg)
  rwa [e] at this
end Go.Canon
namespace Go.Canon
open Go Go.Proofs
set_option linter.unusedVariables false
set_option linter.unusedSimpArgs false
end Go.Canon
namespace Go.Canon
open Go Go.Proofs
set_option linter.unusedVariables false
set_option linter.unusedSimpArgs false
end Go.Canon
namespace Go.Canon
open Go Go.Proofs
set_option linter.unusedVariables false
set_option linter.unusedSimpArgs false
def kf51 : KFunc := ⟨2, 8, [.cell 4 (some 4)], .seq (.reg [⟨some 4, .new [.int .i64 0, .slice none 0 0, .int .i64 0, .int .i64 0], none⟩] []) (.seq (.reg [⟨some 5, .mv (.t 0), none⟩, ⟨some 6, .mv (.t 1), none⟩, ⟨some 7, .mk [.int .i64 0, .slice none 0 0, .int .i64 0, .int .i64 0] [(0, 1, .t 5), (1, 1, .t 6)], none⟩, ⟨none, .st (.t 4) (.t 7) 4, none⟩] []) .ret)⟩
theorem k51 : tab Tryd.prog 54 = some kf51 := by kernel_rfl
end Go.Canon
namespace Go.Canon
open Go Go.Proofs
set_option linter.unusedVariables false
set_option linter.unusedSimpArgs false
end Go.Canon
namespace Go.Canon
open Go Go.Proofs
set_option linter.unusedVariables false
set_option linter.unusedSimpArgs false
/-- hh i: the objects that were there before, when the first i gates have been looked at. -/
theorem rf_go {fi : FI} {fr : Nat → Value} {m : List Nat} {Q : Ex → (Nat → Value) → Heap → List Nat → Prop} {f : KO} {ps : List Nat} {asg body : KC} {n f1 bn bw N : Nat} {c : C} {p : Pl} (P : Nat → Prop) [DecidablePred P] (hh : Nat → Heap) (hN : ∀ i, (hh i).length = N)
    (hf : f.ev fr = .func (.func 79) #[] #[.pointer (some ⟨bn, 0, none⟩), .pointer (some ⟨bw, 0, none⟩)]) (hps : ps.length = 1) (hrd : fi.rd = none)
    (h1 : ∀ i, rowGet (hh i) ⟨bn, 0, none⟩ 1 = some [.int .i64 (n : Int)]) (h2 : ∀ i, rowGet (hh i) ⟨bw, 0, none⟩ 4 = some (wcells c p f1)) (h3 : ∀ i, Gates allB (hh i) p c.gs) (hn : n < c.gs.length) (hl : c.gs.length < 4294967296)
    (hnear : ∀ i (hi : i < n) (K : Heap) (q1 q2 : Pl), Ints allB K q1 c.gs[i].ws → Ints allB K q2 c.gs[n].ws → Ret (tab Tryd.prog) f1 [gv c.gs[i] q1, gv c.gs[n] q2] K (.bool (decide (P i))) K)
    (hskip : ∀ i, i < n → ¬ P i → hh (i + 1) = hh i)
    (hround : ∀ i, i < n → P i → ∀ R : CLoop, AX (tab Tryd.prog) { fi with rd := some (N + 1) } asg (putAll fr ps [.int .i64 (i : Int)]) (hh i ++ [.mark, .loop { R with st := .ready }]) [] fun e fr1 k1 m1 => e = .normal ∧ m1 = [] ∧ k1 = hh i ++ [.mark, .loop { R with st := .ready }] ∧
      AX (tab Tryd.prog) { fi with rd := some (N + 1) } body fr1 (hh i ++ [.mark, .loop { R with st := .busy }]) [] fun e fr2 k2 m2 => e = .normal ∧ m2 = [] ∧ k2 = hh (i + 1) ++ [.mark, .loop { R with st := .busy }])
    (hQ : ∀ R, Q .normal fr (hh n ++ [.mark, .loop R]) (N :: m)) : AX (tab Tryd.prog) fi (.rf f ps asg body) fr (hh 0) m Q := by
  refine AX_rf hf hrd ?_
  have hl0 := hN 0
  rw [hl0]
  generalize hR : rec0 fi fr ps asg body N = R
  have hR1 : R.st = .ready := by rw [← hR]; rfl
  have hR2 : R.pending = none := by rw [← hR]; rfl
  have hR3 : R.fi = { fi with rd := some (N + 1) } := by rw [← hR]; rfl
  have hR4 : R.params = ps := by rw [← hR]; rfl
  have hR5 : R.assign = asg := by rw [← hR]; rfl
  have hR6 : R.body = body := by rw [← hR]; rfl
  have hR7 : R.fr = fr := by rw [← hR]; rfl
  clear hR
  obtain ⟨st, pd, fi', fr', ps', a', b', bk⟩ := R
  simp only at hR1 hR2 hR3 hR4 hR5 hR6 hR7
  subst hR1 hR2 hR3 hR4 hR5 hR6 hR7
  have hget : ∀ i r, (hh i ++ [CO.mark, .loop r])[N + 1]? = some (.loop r) := fun i r => by rw [List.getElem?_append_right (by have := hN i; omega), show N + 1 - (hh i).length = 1 by have := hN i; omega]; rfl
  have hset : ∀ i r r', (hh i ++ [CO.mark, .loop r]).set (N + 1) (.loop r') = hh i ++ [.mark, .loop r'] := fun i r r' => by rw [List.set_append_right _ _ (by have := hN i; omega), show N + 1 - (hh i).length = 1 by have := hN i; omega]; rfl
  have key := before1_call (N + 1) n P (fun i K => K = hh i ++ [.mark, .loop ⟨.ready, none, { fi with rd := some (N + 1) }, fr', ps', a', b', bk⟩]) (fun K => False) bn bw 0 0 f1 c.gs p c.w c.b ?_ hn hl hnear ?_ ?_ (hh 0 ++ [.mark, .loop ⟨.ready, none, { fi with rd := some (N + 1) }, fr', ps', a', b', bk⟩]) rfl
  · refine ACall.mono key ?_
    rintro _ K' ⟨Kf, hK | hK, rfl⟩
    · subst hK
      have hfg : forget (hh 0 ++ [.mark, .loop ⟨.ready, none, { fi with rd := some (N + 1) }, fr', ps', a', b', bk⟩]) (.tuple #[]) (hh n ++ [.mark, .loop ⟨.ready, none, { fi with rd := some (N + 1) }, fr', ps', a', b', bk⟩]) = hh n ++ [.mark, .loop ⟨.ready, none, { fi with rd := some (N + 1) }, fr', ps', a', b', bk⟩] := by
        unfold forget
        split
        · rename_i hx
          obtain ⟨t, ht⟩ := hx.2
          have hlen := congrArg List.length ht
          simp only [List.length_append, hN, List.length_cons, List.length_nil] at hlen
          have : t = [] := List.length_eq_zero_iff.1 (by omega)
          subst this
          rw [← ht, List.append_nil]
        · rfl
      rw [hfg]
      refine ⟨_, hget n _, by simp, ?_⟩
      rw [hset]
      exact hQ _
    · exact hK.elim
  · rintro i K rfl
    exact ⟨rowGet_base (h1 i), rowGet_base (h2 i), (h3 i).app⟩
  · rintro i K hi rfl hp
    rw [hskip i hi hp]
  · rintro i K hi rfl hp
    refine ARound_of (hget i _) (by simp [hps]) rfl rfl ?_
    refine (hround i hi hp ⟨.ready, none, { fi with rd := some (N + 1) }, fr', ps', a', b', bk⟩).mono ?_
    rintro e fr1 k1 m1 ⟨rfl, rfl, rfl, hb⟩
    refine ⟨rfl, rfl, _, hget i _, rfl, ?_⟩
    rw [hset]
    refine hb.mono ?_
    rintro e fr2 k2 m2 ⟨rfl, rfl, rfl⟩
    refine ⟨rfl, _, hget (i + 1) _, ?_⟩
    simp only
    rw [hset]
    exact .inl ⟨by first | rfl | trivial, by first | rfl | trivial⟩
end Go.Canon
namespace Go.Canon
open Go Go.Proofs
set_option linter.unusedVariables false
set_option linter.unusedSimpArgs false
def kf66 : KFunc := ⟨1, 13, [.cell 2 (some 4), .tmp 3], .seq (.reg [⟨some 1, .box (.t 0), none⟩, ⟨some 2, .new [.int .i64 0, .int .i64 0, .slice none 0 0, .nilFunc], none⟩, ⟨some 3, .mv (.c (.int .i64 0)), none⟩] []) (.seq (.seq (.reg [⟨some 5, .ld (.t 1) (some 3), none⟩, ⟨some 6, .call (.c (.func (.func 62) #[] #[])) [.t 5], none⟩, ⟨some 4, .mv (.t 6), none⟩] []) (.seq (.reg [⟨some 7, .mv (.t 4), none⟩, ⟨some 8, .bin .neq (.t 7) (.c (.int .i64 0)), none⟩] []) (.cond (.t 8) (.seq (.reg [⟨some 9, .mk [.int .i64 0, .int .i64 0, .slice none 0 0, .nilFunc] [], none⟩, ⟨some 10, .mv (.t 4), none⟩, ⟨none, .st (.t 2) (.t 9) 4, none⟩, ⟨some 3, .mv (.t 10), none⟩] []) .ret) .skip))) (.seq (.reg [⟨some 11, .ld (.t 1) (some 3), none⟩, ⟨some 12, .mk [.int .i64 0, .int .i64 0, .slice none 0 0, .nilFunc] [(0, 3, .t 11), (3, 1, .c (.func (.func 78) #[] #[]))], none⟩, ⟨none, .st (.t 2) (.t 12) 4, none⟩, ⟨some 3, .mv (.c (.int .i64 0)), none⟩] []) .ret))⟩
theorem k66 : tab Tryd.prog 48 = some kf66 := by kernel_rfl
theorem cloneG_ret (H : Heap) (p : Pl) (gs : List G) (ps : List Pl) {S : Nat → Prop} (hps : ps.length = gs.length) (hC : Cells S H 4 p gs.length (flat gs ps)) (hl : gs.length < 4294967296) (hne : gs ≠ []) : ∃ X, Ret (tab Tryd.prog) 68 [.slice p.1 gs.length p.2] H (.slice (some ⟨H.length + 1, 0, none⟩) gs.length gs.length) (H ++ X) ∧ X[1]? = some (.row (flat gs ps) true (some 4)) := by
  have hp : p.1 ≠ none := by
    intro e
    obtain ⟨h1, h2, ⟨h3, h4⟩ | ⟨b, o, cs, wr, gr, e1, _⟩⟩ := hC
    · exact hne (List.length_eq_zero_iff.1 (by omega))
    · rw [e] at e1; cases e1
  have key := Ret_grow (T := tab Tryd.prog) (f := 68) (args := [.slice p.1 gs.length p.2]) (h := H) (fun u X => u = .slice (some ⟨H.length + 1, 0, none⟩) gs.length gs.length ∧ X[1]? = some (.row (flat gs ps) true (some 4))) k72 rfl ?_
  · obtain ⟨u, X, hr, rfl, f1⟩ := key
    exact ⟨X, hr, f1⟩
  refine AX_seq (AX_E (E_mv (v := .slice _ _ _) rfl (E_nil (AX_seq (AX_seq (AX_E (E_mv (v := .slice _ _ _) rfl (E_eqN (b := (p).1.isNone) rfl (E_bs (fun c4 => ?_) (fun c4 => ?_))))))))))
  · exact (hp (by simpa using c4)).elim
  · refine E_nil (AX_condF rfl (AX_skip (AX_seq (AX_E (E_mkS (cs := []) rfl (E_mv (v := .slice _ _ _) rfl (E_app0 (k := 0) rfl rfl rfl (Cells.first hC.app) (by simp only [roomB]; omega) (flat_len _ _ hps) fun W q hW => (E_mv (v := .slice _ _ _) rfl (E_nil (AX_ret ?_))))))))))
    rcases hW with ⟨h0, rfl, rfl⟩ | ⟨_, rfl, rfl⟩
    · exact (hne (List.length_eq_zero_iff.1 h0)).elim
    · exact ⟨_, rfl, by simp, _, forget_more (v := .slice (some ⟨H.length + 1, 0, none⟩) gs.length gs.length) rfl, rfl, rfl⟩
theorem opened_ret (H : Heap) (c : C) (p : Pl) {S : Nat → Prop} (hv : Gates S H p c.gs) (hl : c.gs.length < 4294967296) (hc : checkM c = 0) : ∃ X, Ret (tab Tryd.prog) 48 [cv c p] H (.tuple #[.agg #[.int .i64 c.w, .int .i64 c.b, .slice p.1 c.gs.length p.2, .func (.func 78) #[] #[]], .int .i64 0]) (H ++ X) := by
  have key := Ret_grow (T := tab Tryd.prog) (f := 48) (args := [cv c p]) (h := H) (fun u X => u = .tuple #[.agg #[.int .i64 c.w, .int .i64 c.b, .slice p.1 c.gs.length p.2, .func (.func 78) #[] #[]], .int .i64 0]) k66 rfl ?_
  · obtain ⟨u, X, hr, rfl⟩ := key
    exact ⟨X, hr⟩
  refine AX_seq (AX_E (E_boxA rfl (E_new (E_mv (v := .int .i64 (0)) rfl (E_nil (AX_seq (AX_seq (AX_E (E_ldON (k := 0) rfl rfl (E_callV rfl (pcheck_ret _ c _ hv.app (by first | omega | (simp; done) | (simp; omega))) (E_mv (v := .int .i64 (checkM c)) rfl (E_nil (AX_seq (AX_E (E_mv (v := .int .i64 (checkM c)) rfl (E_neqS rfl rfl (fun c8 => ?_) (fun c8 => ?_)))))))))))))))))
  · exact (c8 hc).elim
  · refine E_nil (AX_condF rfl (AX_skip (AX_seq (AX_E (E_ldON (k := 0) rfl rfl (E_mk (cs := [.int .i64 (c.w), .int .i64 (c.b), .slice (p).1 (c.gs).length (p).2, .func (.func 78) #[] #[]]) rfl (E_stO (k := 1) rfl rfl (v := .agg _) rfl rfl rfl rfl (E_mv (v := .int .i64 (0)) rfl (E_nil (AX_ret ?_))))))))))
    refine ⟨_, res2 (res_cellN (k := 1) rfl rfl) (res_tmp rfl), by simp, ?_⟩
    obtain ⟨X, hX⟩ := forget_any (h := H) (u := .tuple #[.agg #[.int .i64 c.w, .int .i64 c.b, .slice p.1 c.gs.length p.2, .func (.func 78) #[] #[]], .int .i64 0]) (List.prefix_append H [CO.row [.int .i64 (c.w), .int .i64 (c.b), .slice (p).1 (c.gs).length (p).2] true none, CO.row [.int .i64 (c.w), .int .i64 (c.b), .slice (p).1 (c.gs).length (p).2, .func (.func 78) #[] #[]] true none])
    exact ⟨X, hX, rfl⟩
end Go.Canon
namespace Go.Canon
open Go Go.Proofs
set_option linter.unusedVariables false
set_option linter.unusedSimpArgs false
def kf80 : KFunc := ⟨3, 21, [], .seq (.reg [⟨some 4, .new [.int .i64 0], none⟩, ⟨none, .st (.t 4) (.c (.int .i64 0)) 1, none⟩] []) (.seq (.seq (.reg [⟨some 6, .ld (.t 1) (some 4), none⟩, ⟨some 7, .mv (.t 0), none⟩, ⟨some 8, .call (.c (.func (.func 50) #[] #[])) [.t 6, .t 7], none⟩] []) (.block 0 (.rf (.t 8) [9] (.reg [⟨some 5, .mv (.t 9), none⟩] []) (.block 1 (.reg [⟨some 10, .ld (.t 4) none, none⟩, ⟨some 11, .ld (.t 2) none, none⟩, ⟨some 12, .mv (.t 5), none⟩, ⟨some 13, .iaS (.t 11) (.t 12) 1, none⟩, ⟨some 14, .ld (.t 13) none, none⟩, ⟨some 15, .bin .add (.t 14) (.c (.int .i64 1)), none⟩, ⟨some 16, .mx [.t 10, .t 15], none⟩, ⟨none, .st (.t 4) (.t 16) 1, none⟩] []))))) (.reg [⟨some 17, .ld (.t 2) none, none⟩, ⟨some 18, .ld (.t 4) none, none⟩, ⟨some 19, .mkS [.int .i64 0] 1 [(0, 1, .t 18)], none⟩, ⟨some 20, .app (.t 17) (.t 19) 1 8, none⟩, ⟨none, .st (.t 2) (.t 20) 1, none⟩] []))⟩
theorem k80 : tab Tryd.prog 49 = some kf80 := by kernel_rfl
theorem lay_step {gs : List G} {out : List Int} {n i : Nat} (hn : n < gs.length) (hi : i < gs.length) (ho : i < out.length) (hm : meetM gs[i] gs[n]) : (if out[i] + 1 > layerTo gs out n i then out[i] + 1 else layerTo gs out n i) = layerTo gs out n (i + 1) := by
  have hm' := meet_symm.1 hm
  by_cases h : layerTo gs out n i ≤ out[i]
  · rw [layer_yes hn hi ho hm' h, if_pos (by omega)]
  · rw [layer_no2 ho h, if_neg (by omega)]
theorem rowGet_ownE {h L : Heap} {b k o n : Nat} {l : List Value} (hb : b = h.length + k) (hg : rowGet L ⟨k, o, none⟩ n = some l) : rowGet (h ++ L) ⟨b, o, none⟩ n = some l := hb ▸ rowGet_own hg
theorem Grown.lt {sz n k i : Nat} {Z : Heap} {p : Pl} {cells : List Value} (H : Grown sz n Z p k cells) (e : p.1 = some ⟨n + i, 0, none⟩) : i < Z.length := by
  obtain ⟨a, ⟨b, c⟩ | ⟨j, gr, e2, c, d⟩⟩ := H
  · rw [b] at e; cases e
  · rw [e2] at e
    have := (List.getElem?_eq_some_iff.1 c).1
    simp at e
    omega
theorem set_deep {H A Z : Heap} {N j : Nat} {ob : CO} (hN : N = H.length + A.length + j) : (H ++ (A ++ Z)).set N ob = H ++ (A ++ Z.set j ob) := by
  subst hN
  rw [← List.append_assoc, List.set_append_right _ _ (by simp), List.append_assoc]
  congr 3
  simp
abbrev workRow (c : C) (p0 : Pl) : CO := .row (wcells c p0 78) true none
theorem put_ret (H : Heap) (c : C) (p0 : Pl) (n : Nat) (Z : Heap) (p : Pl) (hv : Gates allB H p0 c.gs) (hr : CR c) (hn : n < c.gs.length) (hz : Grown 1 (H.length + 2) Z p (layersL c.gs n).length ((layersL c.gs n).map (.int .i64 ·))) :
    ∃ Z' p', Ret (tab Tryd.prog) 49 [.int .i64 (n : Int), .pointer (some ⟨H.length + 0, 0, none⟩), .pointer (some ⟨H.length + 1, 0, none⟩)] (H ++ ([workRow c p0, .row [.slice p.1 (layersL c.gs n).length p.2] true none] ++ Z)) (.tuple #[]) (H ++ ([workRow c p0, .row [.slice p'.1 (layersL c.gs (n + 1)).length p'.2] true none] ++ Z')) ∧ Grown 1 (H.length + 2) Z' p' (layersL c.gs (n + 1)).length ((layersL c.gs (n + 1)).map (.int .i64 ·)) := by
  have hnn := hr.n0
  have hll := layersL_len c.gs n
  have hlb := layersL_le c.gs n
  have key : ACall (tab Tryd.prog) 49 [.int .i64 (n : Int), .pointer (some ⟨H.length + 0, 0, none⟩), .pointer (some ⟨H.length + 1, 0, none⟩)] (H ++ ([workRow c p0, .row [.slice p.1 (layersL c.gs n).length p.2] true none] ++ Z)) fun u k => u = .tuple #[] ∧ ∃ Z' p', k = forget (H ++ ([workRow c p0, .row [.slice p.1 (layersL c.gs n).length p.2] true none] ++ Z)) (.tuple #[]) (H ++ ([workRow c p0, .row [.slice p'.1 (layersL c.gs (n + 1)).length p'.2] true none] ++ Z')) ∧ Grown 1 (H.length + 2) Z' p' (layersL c.gs (n + 1)).length ((layersL c.gs (n + 1)).map (.int .i64 ·)) := by
    refine ACall_ownR k80 rfl ?_
    refine AX_seq (AX_E (E_new (E_stO (k := 0) rfl rfl (v := .int .i64 (0)) rfl rfl rfl rfl (E_nil (AX_seq (AX_seq (AX_E (E_ldBN (cs := [.int .i64 (c.w), .int .i64 (c.b), .slice (p0).1 (c.gs).length (p0).2, .func (.func 78) #[] #[]]) rfl (rowGet_own (k := 0) rfl) (E_mv (v := .int .i64 ((n : Int))) rfl ?_)))))))))
    refine E_callX (X := [CO.row (wcells c p0 78) true none, CO.row [.int .i64 (n : Int)] true none]) rfl (pbefore_ret _ c p0 78 n) (E_nil (AX_block ?_))
    refine AX_hp (h' := (fun i => (H ++ ([CO.row (wcells c p0 78) true none, CO.row [.slice (p).1 ((layersL c.gs n)).length (p).2] true none] ++ Z)) ++ ([CO.row [.int .i64 (layerTo c.gs (layersL c.gs n) n i)] true none, CO.row (wcells c p0 78) true none, CO.row [.int .i64 (n : Int)] true none])) 0) (by first | (simp only [List.append_assoc, List.append_nil, List.nil_append, List.cons_append, List.set_cons_zero, List.set_cons_succ]; done) | (simp only [List.append_assoc, List.append_nil, List.nil_append, List.cons_append, List.set_cons_zero, List.set_cons_succ]; rfl)) ?_
    refine rf_go (n := n) (f1 := 78) (c := c) (p := p0) (N := ((H ++ ([CO.row (wcells c p0 78) true none, CO.row [.slice (p).1 ((layersL c.gs n)).length (p).2] true none] ++ Z))).length + 3) (fun i => meetM (c.gs.getD i default) (c.gs.getD n default)) (fun i => (H ++ ([CO.row (wcells c p0 78) true none, CO.row [.slice (p).1 ((layersL c.gs n)).length (p).2] true none] ++ Z)) ++ ([CO.row [.int .i64 (layerTo c.gs (layersL c.gs n) n i)] true none, CO.row (wcells c p0 78) true none, CO.row [.int .i64 (n : Int)] true none])) (fun i => by simp; omega) rfl rfl rfl (fun i => ?_) (fun i => ?_) (fun i => hv.app.app) hn (by omega) ?_ ?_ ?_ ?_
    · exact rowGet_ownE (k := 2) (by simp; omega) rfl
    · exact rowGet_ownE (k := 1) (by simp; omega) rfl
    · intro i hi K q1 q2 e1 e2
      have := pmeet_ret K c.gs[i] c.gs[n] q1 q2 e1 e2 (hr.gr (List.getElem_mem _)) (hr.gr (List.getElem_mem _))
      simpa only [getG_at hn, getG_at (show i < c.gs.length by omega)] using this
    · intro i hi hp
      have hm : ¬ meetM c.gs[n] c.gs[i] := fun h => hp (by rw [getG_at hn, getG_at (show i < c.gs.length by omega)]; exact meet_symm.1 h)
      simp only [layer_no hn (show i < c.gs.length by omega) hm]
    · intro i hi hp R
      have hm : meetM c.gs[i] c.gs[n] := by rw [getG_at hn, getG_at (show i < c.gs.length by omega)] at hp; exact hp
      have hil : i < (layersL c.gs n).length := by omega
      have hb := hlb _ (List.getElem_mem hil)
      have hz1 : Ints allB (H ++ ([CO.row (wcells c p0 78) true none, CO.row [.slice (p).1 ((layersL c.gs n)).length (p).2] true none] ++ Z)) p (layersL c.gs n) := hz.ints.at (by simp)
      refine AX_E (E_mv (v := .int .i64 (i : Int)) rfl (E_nil ⟨rfl, rfl, rfl, ?_⟩))
      refine AX_block (AX_E (E_ld1 (v := .int .i64 (layerTo c.gs (layersL c.gs n) n i)) rfl (rowGet_base (rowGet_own (k := 0) rfl)) (E_ld1 (v := .slice p.1 (layersL c.gs n).length p.2) rfl (rowGet_base (rowGet_base (rowGet_own (k := 1) rfl))) (E_mv (v := .int .i64 (i : Int)) rfl (E_iaI (j := i) rfl hz1.app.app rfl rfl rfl hil fun b1 o1 w1 => ?_)))))
      refine E_ld1 (v := .int .i64 (layersL c.gs n)[i]) rfl w1 (E_addI rfl rfl (by omega) (by omega) (E_mx2 rfl rfl ?_))
      refine E_hp (h' := (H ++ ([CO.row (wcells c p0 78) true none, CO.row [.slice (p).1 ((layersL c.gs n)).length (p).2] true none] ++ Z)) ++ [CO.row [.int .i64 (layerTo c.gs (layersL c.gs n) n i)] true none, CO.row (wcells c p0 78) true none, CO.row [.int .i64 (n : Int)] true none, .mark, .loop { R with st := .busy }]) (by first | (simp only [List.append_assoc, List.append_nil, List.nil_append, List.cons_append, List.set_cons_zero, List.set_cons_succ]; done) | (simp only [List.append_assoc, List.append_nil, List.nil_append, List.cons_append, List.set_cons_zero, List.set_cons_succ]; rfl)) ?_
      refine E_stO (k := 0) rfl rfl (v := .int _ _) rfl rfl rfl rfl (E_nil ⟨rfl, rfl, ?_⟩)
      simp only [← lay_step hn (show i < c.gs.length by omega) hil hm]
      first | (simp only [List.append_assoc, List.cons_append, List.nil_append, List.set_cons_zero]; done) | (simp only [List.append_assoc, List.cons_append, List.nil_append, List.set_cons_zero]; rfl)
    · intro R
      refine AX_hp (h' := (H ++ ([CO.row (wcells c p0 78) true none, CO.row [.slice (p).1 ((layersL c.gs n)).length (p).2] true none] ++ Z)) ++ [CO.row [.int .i64 (layerTo c.gs (layersL c.gs n) n n)] true none, CO.row (wcells c p0 78) true none, CO.row [.int .i64 ((n : Int))] true none, CO.mark, CO.loop R]) (by first | (simp only [List.append_assoc, List.append_nil, List.nil_append, List.cons_append, List.set_cons_zero, List.set_cons_succ]; done) | (simp only [List.append_assoc, List.append_nil, List.nil_append, List.cons_append, List.set_cons_zero, List.set_cons_succ]; rfl)) ?_
      refine AX_E (E_ldB (v := .slice _ _ _) rfl (rowGet_own (k := 1) rfl) (E_ldO (k := 0) (v := .int .i64 (layerTo c.gs (layersL c.gs n) n n)) rfl rfl (E_mkS (cs := [.int .i64 (layerTo c.gs (layersL c.gs n) n n)]) rfl (E_appI2 (A := [CO.row [.int .i64 (c.w), .int .i64 (c.b), .slice (p0).1 (c.gs).length (p0).2, .func (.func 78) #[] #[]] true none, CO.row [.slice (p).1 ((layersL c.gs n)).length (p).2] true none]) (Z := (Z ++ [CO.row [.int .i64 (layerTo c.gs (layersL c.gs n) n n)] true none, CO.row (wcells c p0 78) true none, CO.row [.int .i64 ((n : Int))] true none, CO.mark, CO.loop R, CO.row [.int .i64 (layerTo c.gs (layersL c.gs n) n n)] true none])) (l' := layersL c.gs (n + 1)) (by first | (simp only [List.append_assoc, List.append_nil, List.nil_append, List.cons_append, List.set_cons_zero, List.set_cons_succ]; done) | (simp only [List.append_assoc, List.append_nil, List.nil_append, List.cons_append, List.set_cons_zero, List.set_cons_succ]; rfl)) (by rw [layersL]) (n := (H.length + 2)) (by simp) hz.app rfl rfl (rowGet_own (k := 5) rfl) (by omega) rfl fun Z1 p1 hb1 hk1 => (E_stO (k := 1) rfl rfl (v := .slice _ _ _) rfl rfl rfl rfl (E_nil ?_))))))
      have hm : Z1[Z.length + 3]? = some .mark := by
        rw [hk1 (Z.length + 3) (by simp) (fun e => by have := hz.lt e; omega)]
        rw [List.getElem?_append_right (by omega)]
        simp
      have hN : ∀ (A : Heap) (N : Nat), A.length = 2 → N = H.length + 2 + (Z.length + 3) → (H ++ (A ++ Z1))[N]? = some .mark := by
        rintro A _ hA rfl
        rw [← List.append_assoc, List.getElem?_append_right (by simp; omega)]
        rw [← hm]; congr 1; simp; omega
      refine ⟨_, rfl, ?_, rfl, Z1.set (Z.length + 3) .gone, p1, ?_, hb1.gone hm⟩
      · intro x hx
        rw [List.mem_singleton.1 hx]
        exact hN [workRow c p0, .row [.slice p1.1 (layersL c.gs (n + 1)).length p1.2] true none] _ rfl (by simp; omega)
      · refine congrArg (forget _ _) ?_
        show List.set _ _ _ = _
        exact set_deep (H := H) (A := [workRow c p0, .row [.slice p1.1 (layersL c.gs (n + 1)).length p1.2] true none]) (Z := Z1) (N := (H ++ ([workRow c p0, .row [.slice p.1 (layersL c.gs n).length p.2] true none] ++ Z)).length + 3) (by simp; omega)
  obtain ⟨N, u, k, e, rfl, Z', p', rfl, hg⟩ := key
  refine ⟨Z', p', ⟨N, ?_⟩, hg⟩
  rw [e]
  refine congrArg some (Prod.ext rfl ?_)
  unfold forget
  rw [if_neg]
  rintro ⟨_, t, ht⟩
  have aux : ∀ L : Heap, (H ++ L)[H.length + 1]? = L[1]? := fun L => by rw [List.getElem?_append_right (by omega)]; congr 1; omega
  rw [List.append_assoc] at ht
  have := aux (([workRow c p0, CO.row [.slice p.1 (layersL c.gs n).length p.2] true none] ++ Z) ++ t)
  rw [ht, aux] at this
  have h1 := layersL_len c.gs (n + 1)
  simp [h1, hll] at this
end Go.Canon
namespace Go.Canon
open Go Go.Proofs
set_option linter.unusedVariables false
set_option linter.unusedSimpArgs false
def kf29 : KFunc := ⟨1, 29, [.tmp 2, .tmp 3], .seq (.reg [⟨some 1, .box (.t 0), none⟩, ⟨some 2, .mv (.c (.slice none 0 0)), none⟩, ⟨some 3, .mv (.c (.int .i64 0)), none⟩] []) (.seq (.reg [⟨some 10, .ld (.t 1) (some 3), none⟩, ⟨some 11, .call (.c (.func (.func 48) #[] #[])) [.t 10], none⟩, ⟨some 9, .mv (.t 11), none⟩, ⟨some 12, .ext (.t 9) 0, none⟩, ⟨some 13, .ext (.t 9) 1, none⟩, ⟨some 4, .new [.int .i64 0, .int .i64 0, .slice none 0 0, .nilFunc], none⟩, ⟨none, .st (.t 4) (.t 12) 4, none⟩, ⟨some 5, .mv (.t 13), none⟩] []) (.seq (.seq (.reg [⟨some 14, .mv (.t 5), none⟩, ⟨some 15, .bin .neq (.t 14) (.c (.int .i64 0)), none⟩] []) (.cond (.t 15) (.seq (.reg [⟨some 16, .mv (.t 5), none⟩, ⟨some 2, .mv (.c (.slice none 0 0)), none⟩, ⟨some 3, .mv (.t 16), none⟩] []) .ret) .skip)) (.seq (.reg [⟨some 6, .new [.slice none 0 0], none⟩] []) (.seq (.reg [⟨some 17, .fn 49 [] [.t 4, .t 6], none⟩, ⟨some 7, .mv (.t 17), none⟩] []) (.seq (.seq (.reg [⟨some 18, .fa (.t 1) 2, none⟩, ⟨some 19, .ld (.t 18) none, none⟩, ⟨some 20, .len (.t 19), none⟩, ⟨some 21, .mv (.c (.int .i64 0)), none⟩] []) (.block 0 (.loop (.seq (.reg [⟨some 22, .bin .lss (.t 21) (.t 20), none⟩] []) (.seq (.cond (.t 22) .skip (.exit 0)) (.seq (.block 1 (.seq (.reg [⟨some 23, .mv (.t 21), none⟩, ⟨some 8, .mv (.t 23), none⟩] []) (.reg [⟨some 24, .mv (.t 7), none⟩, ⟨some 25, .mv (.t 8), none⟩, ⟨some 26, .call (.t 24) [.t 25], none⟩] []))) (.reg [⟨some 27, .bin .add (.t 21) (.c (.int .i64 1)), none⟩, ⟨some 21, .mv (.t 27), none⟩] []))))))) (.seq (.reg [⟨some 28, .ld (.t 6) none, none⟩, ⟨some 2, .mv (.t 28), none⟩, ⟨some 3, .mv (.c (.int .i64 0)), none⟩] []) .ret))))))⟩
theorem k29 : tab Tryd.prog 11 = some kf29 := by kernel_rfl
theorem opened_bad (H : Heap) (c : C) (p : Pl) {S : Nat → Prop} (hv : Gates S H p c.gs) (hl : c.gs.length < 4294967296) (hc : checkM c ≠ 0) : ∃ X, Ret (tab Tryd.prog) 48 [cv c p] H (.tuple #[.agg #[.int .i64 0, .int .i64 0, .slice none 0 0, .nilFunc], .int .i64 (checkM c)]) (H ++ X) := by
  have key := Ret_grow (T := tab Tryd.prog) (f := 48) (args := [cv c p]) (h := H) (fun u X => u = .tuple #[.agg #[.int .i64 0, .int .i64 0, .slice none 0 0, .nilFunc], .int .i64 (checkM c)]) k66 rfl ?_
  · obtain ⟨u, X, hr, rfl⟩ := key
    exact ⟨X, hr⟩
  refine AX_seq (AX_E (E_boxA rfl (E_new (E_mv (v := .int .i64 (0)) rfl (E_nil (AX_seq (AX_seq (AX_E (E_ldON (k := 0) rfl rfl (E_callV rfl (pcheck_ret _ c _ hv.app (by first | omega | (simp; done) | (simp; omega))) (E_mv (v := .int .i64 (checkM c)) rfl (E_nil (AX_seq (AX_E (E_mv (v := .int .i64 (checkM c)) rfl (E_neqS rfl rfl (fun c8 => ?_) (fun c8 => ?_)))))))))))))))))
  · refine E_nil (AX_condT rfl (AX_seq (AX_E (E_mk (cs := [.int .i64 (0), .int .i64 (0), .slice none 0 0, .nilFunc]) rfl (E_mv (v := .int .i64 (checkM c)) rfl (E_stO (k := 1) rfl rfl (v := .agg _) rfl rfl rfl rfl (E_mv (v := .int .i64 (checkM c)) rfl (E_nil (AX_ret ?_)))))))))
    refine ⟨_, res2 (res_cellN (k := 1) rfl rfl) (res_tmp rfl), by simp, ?_⟩
    obtain ⟨X, hX⟩ := forget_any (h := H) (u := .tuple #[.agg #[.int .i64 0, .int .i64 0, .slice none 0 0, .nilFunc], .int .i64 (checkM c)]) (List.prefix_append H [CO.row [.int .i64 (c.w), .int .i64 (c.b), .slice (p).1 (c.gs).length (p).2] true none, CO.row [.int .i64 (0), .int .i64 (0), .slice none 0 0, .nilFunc] true none])
    exact ⟨X, hX, rfl⟩
  · exact (hc (by simpa using c8)).elim
def layersR (c : C) : List Int := if checkM c = 0 then layersL c.gs c.gs.length else []
theorem players_ret (H : Heap) (c : C) (p : Pl) {S : Nat → Prop} (hv : Gates S H p c.gs) (hl : c.gs.length < 4294967296) : ∃ X p', Ret (tab Tryd.prog) 11 [cv c p] H (.tuple #[.slice p'.1 (layersR c).length p'.2, .int .i64 (checkM c)]) (H ++ X) ∧ IntsZ H.length X p' (layersR c) := by
  have key := Ret_grow (T := tab Tryd.prog) (f := 11) (args := [cv c p]) (h := H) (fun u X => ∃ p' : Pl, u = .tuple #[.slice p'.1 (layersR c).length p'.2, .int .i64 (checkM c)] ∧ IntsZ H.length X p' (layersR c)) k29 rfl ?_
  · obtain ⟨u, X, hr, p', rfl, f1⟩ := key
    exact ⟨X, p', hr, f1⟩
  by_cases hc : checkM c = 0
  · have hr := CR.of hc
    have e5 : layersR c = layersL c.gs c.gs.length := if_pos hc
    refine AX_seq (AX_E (E_boxA rfl (E_mv (v := .slice _ _ _) rfl (E_mv (v := .int .i64 (0)) rfl (E_nil (AX_seq (AX_E (E_ldON (k := 0) rfl rfl ?_))))))))
    obtain ⟨XO1, hXO1⟩ := opened_ret (H ++ [CO.row [.int .i64 (c.w), .int .i64 (c.b), .slice (p).1 (c.gs).length (p).2] true none]) c p (hv.app) (by omega) hc
    refine E_callX (X := XO1) rfl (hXO1) (E_mv (v := .tuple _) rfl (E_ext (v := .agg _) rfl rfl (E_ext (v := .int .i64 (0)) rfl rfl (E_new (E_stO (k := 0) rfl rfl (v := .agg _) rfl rfl rfl rfl (E_mv (v := .int .i64 (0)) rfl (E_nil (AX_seq (AX_seq (AX_E (E_mv (v := .int .i64 (0)) rfl (E_neqS rfl rfl (fun c15 => ?_) (fun c15 => ?_)))))))))))))
    · exact (c15 rfl).elim
    · refine E_nil (AX_condF rfl (AX_skip (AX_seq (AX_E (E_new (E_nil (AX_seq (AX_E (E_fn (u := []) (v := [.pointer (some ⟨((H ++ ([CO.row [.int .i64 (c.w), .int .i64 (c.b), .slice (p).1 (c.gs).length (p).2] true none] ++ XO1))).length + 0, 0, none⟩), .pointer (some ⟨((H ++ ([CO.row [.int .i64 (c.w), .int .i64 (c.b), .slice (p).1 (c.gs).length (p).2] true none] ++ XO1))).length + 1, 0, none⟩)]) rfl rfl (E_mv (v := .func _ _ _) rfl (E_nil (AX_seq (AX_seq (AX_E (E_fa rfl (E_ldB (v := .slice _ _ _) rfl (rowGet_own (k := 0) rfl) (E_len (n := (c.gs).length) rfl (E_mv (v := .int .i64 (0)) rfl (E_nil (AX_block ?_))))))))))))))))))))
      let H1 : Heap := (H ++ ([CO.row [.int .i64 (c.w), .int .i64 (c.b), .slice (p).1 (c.gs).length (p).2] true none] ++ XO1))
      have hv1 : Gates S H1 p c.gs := hv.app
      refine AX_loopF (γ := Nat × Pl) (fun x => [(6, .pointer (some ⟨(H1).length + 1, 0, none⟩)), (7, .func (.func 49) #[] #[.pointer (some ⟨(H1).length + 0, 0, none⟩), .pointer (some ⟨(H1).length + 1, 0, none⟩)]), (20, .int .i64 ((c.gs).length)), (21, .int .i64 ((x.1 : Int)))]) (fun x h_ m_ => (∃ z_, h_ = H1 ++ ([CO.row [.int .i64 (c.w), .int .i64 (c.b), .slice (p).1 (c.gs).length (p).2, .func (.func 78) #[] #[]] true none, CO.row [.slice (x.2).1 ((layersL c.gs x.1)).length (x.2).2] true none] ++ z_) ∧ Grown 1 (H1.length + 2) z_ x.2 (layersL c.gs x.1).length ((layersL c.gs x.1).map (.int .i64 ·))) ∧ m_ = [] ∧ x.1 ≤ c.gs.length) (fun x => c.gs.length - x.1) (0, (none, 0)) ⟨rfl, rfl, rfl, rfl, trivial⟩ ⟨⟨[], app0 _ _, Grown.nil⟩, rfl, ?_⟩ ?_
      · simp
      rintro ⟨n, p1⟩ fr0 h0 m0 ⟨⟨z0, rfl, zf0⟩, rfl, inv0⟩ K0 hN0 hR0 hE0
      try dsimp only at zf0 inv0
      refine AX_nil ?_
      refine AX_seq (AX_E (E_lssS rfl rfl (fun c22 => ?_) (fun c22 => ?_)))
      · refine E_nil (AX_seq (AX_condT rfl (AX_skip (AX_seq (AX_block (AX_seq (AX_E (E_mv (v := .int .i64 ((n : Int))) rfl (E_mv (v := .int .i64 ((n : Int))) rfl (E_nil (AX_E (E_mv (v := .func _ _ _) rfl (E_mv (v := .int .i64 ((n : Int))) rfl ?_)))))))))))))
        obtain ⟨Z2, p2, r1, g1⟩ := put_ret H1 c p n z0 p1 hv1.all hr (by omega) zf0
        refine E_hp (h' := H1 ++ ([CO.row [.int .i64 (c.w), .int .i64 (c.b), .slice (p).1 (c.gs).length (p).2, .func (.func 78) #[] #[]] true none, CO.row [.slice (p1).1 ((layersL c.gs n)).length (p1).2] true none] ++ z0)) (by first | (simp only [List.append_assoc, List.append_nil, List.nil_append, List.cons_append, List.set_cons_zero, List.set_cons_succ]; done) | (simp only [List.append_assoc, List.append_nil, List.nil_append, List.cons_append, List.set_cons_zero, List.set_cons_succ]; rfl)) (E_callR rfl rfl (r1) (.inl rfl) (E_nil (AX_E (E_addI rfl rfl (by first | omega | (simp; done) | (simp; omega)) (by first | omega | (simp; done) | (simp; omega)) (E_mv (v := .int .i64 (((n : Int) + 1))) rfl (E_nil ?_))))))
        refine hN0 (n + 1, p2) _ _ _ ⟨by first | rfl | (congr 1; omega), by first | rfl | (congr 1; omega), by first | rfl | (congr 1; omega), by first | rfl | (congr 1; omega), trivial⟩ ⟨⟨Z2, rfl, g1⟩, rfl, ?_⟩ ?_
        all_goals clear hN0 hR0 hE0
        · omega
        · (first | omega | (simp; omega))
      · refine E_nil (AX_seq (AX_condF rfl (AX_exit (hE0 _ _ _ _ ?_))))
        have e0 : layersL c.gs n = layersR c := by rw [e5, show n = c.gs.length by omega]
        refine AX_hp (h' := H1 ++ ([CO.row [.int .i64 (c.w), .int .i64 (c.b), .slice (p).1 (c.gs).length (p).2, .func (.func 78) #[] #[]] true none, CO.row [.slice (p1).1 ((layersL c.gs n)).length (p1).2] true none] ++ z0)) (by first | (simp only [List.append_assoc, List.append_nil, List.nil_append, List.cons_append, List.set_cons_zero, List.set_cons_succ]; done) | (simp only [List.append_assoc, List.append_nil, List.nil_append, List.cons_append, List.set_cons_zero, List.set_cons_succ]; rfl)) ?_
        refine AX_seq (AX_E (E_ldO (k := 1) (v := .slice _ _ _) rfl rfl (E_mv (v := .slice _ _ _) rfl (E_mv (v := .int .i64 (0)) rfl (E_nil (AX_ret ?_))))))
        refine ⟨_, rfl, by simp, ?_⟩
        obtain ⟨X, h1, h2⟩ := leafI (h := H) (h' := H1 ++ ([CO.row [.int .i64 (c.w), .int .i64 (c.b), .slice (p).1 (c.gs).length (p).2, .func (.func 78) #[] #[]] true none, CO.row [.slice (p1).1 ((layersL c.gs n)).length (p1).2] true none] ++ z0)) (A := ([CO.row [.int .i64 c.w, .int .i64 c.b, .slice p.1 c.gs.length p.2] true none] ++ (XO1 ++ [CO.row [.int .i64 (c.w), .int .i64 (c.b), .slice (p).1 (c.gs).length (p).2, .func (.func 78) #[] #[]] true none, CO.row [.slice (p1).1 ((layersL c.gs n)).length (p1).2] true none]))) (Z := z0) (u := Value.tuple #[.slice p1.1 (layersL c.gs n).length p1.2, .int .i64 0]) (by simp [H1]) zf0.ints (by simp [H1]; omega) slt_flat
        exact ⟨X, h1, p1, (show _ = Value.tuple #[.slice p1.1 (layersL c.gs n).length p1.2, .int .i64 0] from rfl).trans (by rw [e0, hc]), by rw [e0] at h2; exact h2⟩
  · have e5 : layersR c = [] := if_neg hc
    refine AX_seq (AX_E (E_boxA rfl (E_mv (v := .slice _ _ _) rfl (E_mv (v := .int .i64 (0)) rfl (E_nil (AX_seq (AX_E (E_ldON (k := 0) rfl rfl ?_))))))))
    obtain ⟨XO1, hXO1⟩ := opened_bad (H ++ [CO.row [.int .i64 (c.w), .int .i64 (c.b), .slice (p).1 (c.gs).length (p).2] true none]) c p (hv.app) (by omega) hc
    refine E_callX (X := XO1) rfl (hXO1) (E_mv (v := .tuple _) rfl (E_ext (v := .agg _) rfl rfl (E_ext (v := .int .i64 ((checkM c))) rfl rfl (E_new (E_stO (k := 0) rfl rfl (v := .agg _) rfl rfl rfl rfl (E_mv (v := .int .i64 ((checkM c))) rfl (E_nil (AX_seq (AX_seq (AX_E (E_mv (v := .int .i64 ((checkM c))) rfl (E_neqS rfl rfl (fun c15 => ?_) (fun c15 => ?_)))))))))))))
    · refine E_nil (AX_condT rfl (AX_seq (AX_E (E_mv (v := .int .i64 ((checkM c))) rfl (E_mv (v := .slice _ _ _) rfl (E_mv (v := .int .i64 ((checkM c))) rfl (E_nil (AX_ret ?_))))))))
      refine ⟨_, rfl, by simp, [], forget_nil rfl ((List.prefix_append _ _).trans (List.prefix_append _ _)), (none, 0), ?_, ?_⟩
      · rw [e5]; rfl
      · rw [e5]; exact fun A hA => Ints.nil
    · exact (hc (by simpa using c15)).elim
end Go.Canon
namespace Go.Canon
open Go Go.Proofs
set_option linter.unusedVariables false
set_option linter.unusedSimpArgs false
def kf28 : KFunc := ⟨1, 27, [.tmp 2, .tmp 3], .seq (.reg [⟨some 1, .box (.t 0), none⟩, ⟨some 2, .mv (.c (.int .i64 0)), none⟩, ⟨some 3, .mv (.c (.int .i64 0)), none⟩] []) (.seq (.reg [⟨some 10, .ld (.t 1) (some 3), none⟩, ⟨some 11, .call (.c (.func (.func 11) #[] #[])) [.t 10], none⟩, ⟨some 9, .mv (.t 11), none⟩, ⟨some 12, .ext (.t 9) 0, none⟩, ⟨some 13, .ext (.t 9) 1, none⟩, ⟨some 4, .mv (.t 12), none⟩, ⟨some 5, .mv (.t 13), none⟩] []) (.seq (.reg [⟨some 6, .mv (.c (.int .i64 0)), none⟩] []) (.seq (.seq (.reg [⟨some 14, .mv (.t 4), none⟩, ⟨some 15, .len (.t 14), none⟩, ⟨some 16, .mv (.c (.int .i64 0)), none⟩] []) (.block 0 (.loop (.seq (.reg [⟨some 17, .bin .lss (.t 16) (.t 15), none⟩] []) (.seq (.cond (.t 17) .skip (.exit 0)) (.seq (.block 1 (.seq (.reg [⟨some 18, .iaS (.t 14) (.t 16) 1, none⟩, ⟨some 19, .ld (.t 18) none, none⟩, ⟨some 8, .mv (.t 19), none⟩] []) (.reg [⟨some 20, .mv (.t 6), none⟩, ⟨some 21, .mv (.t 8), none⟩, ⟨some 22, .bin .add (.t 21) (.c (.int .i64 1)), none⟩, ⟨some 23, .mx [.t 20, .t 22], none⟩, ⟨some 6, .mv (.t 23), none⟩] []))) (.reg [⟨some 24, .bin .add (.t 16) (.c (.int .i64 1)), none⟩, ⟨some 16, .mv (.t 24), none⟩] []))))))) (.seq (.reg [⟨some 25, .mv (.t 6), none⟩, ⟨some 26, .mv (.t 5), none⟩, ⟨some 2, .mv (.t 25), none⟩, ⟨some 3, .mv (.t 26), none⟩] []) .ret))))⟩
theorem k28 : tab Tryd.prog 12 = some kf28 := by kernel_rfl
theorem depthL_mx {l : List Int} {j : Nat} (hj : j < l.length) : (if l[j] + 1 > depthL (l.take j) then l[j] + 1 else depthL (l.take j)) = depthL (l.take (j + 1)) := by
  rw [depthL_next hj]
  split <;> split <;> omega
theorem layersR_le (c : C) : ∀ x ∈ layersR c, 0 ≤ x ∧ x < (c.gs.length : Int) := by
  intro x hx
  unfold layersR at hx
  split at hx
  · exact layersL_le _ _ x hx
  · simp at hx
def depthR (c : C) : Int := if checkM c = 0 then depthM c else 0
theorem depthR_eq (c : C) : depthL (layersR c) = depthR c := by
  unfold layersR depthR depthM; split <;> rfl
theorem pdepth_ret (H : Heap) (c : C) (p : Pl) {S : Nat → Prop} (hv : Gates S H p c.gs) (hl : c.gs.length < 4294967296) : Ret (tab Tryd.prog) 12 [cv c p] H (.tuple #[.int .i64 (depthR c), .int .i64 (checkM c)]) H := by
  have hlb := layersR_le c
  have hll : (layersR c).length ≤ c.gs.length := by
    unfold layersR; split
    · rw [layersL_len]; omega
    · simp
  refine Ret_own k28 rfl ?_
  refine AX_seq (AX_E (E_boxA rfl (E_mv (v := .int .i64 (0)) rfl (E_mv (v := .int .i64 (0)) rfl (E_nil (AX_seq (AX_E (E_ldON (k := 0) rfl rfl ?_))))))))
  obtain ⟨X1, q1, hr1, f1⟩ := players_ret (H ++ [CO.row [.int .i64 (c.w), .int .i64 (c.b), .slice (p).1 (c.gs).length (p).2] true none]) c _ hv.app (by omega)
  refine E_callX (X := X1) rfl (hr1) (E_mv (v := .tuple _) rfl (E_ext (v := .slice _ _ _) rfl rfl (E_ext (v := .int .i64 ((checkM c))) rfl rfl (E_mv (v := .slice _ _ _) rfl (E_mv (v := .int .i64 ((checkM c))) rfl (E_nil (AX_seq (AX_E (E_mv (v := .int .i64 (0)) rfl (E_nil (AX_seq (AX_seq (AX_E (E_mv (v := .slice _ _ _) rfl (E_len (n := ((layersR c)).length) rfl (E_mv (v := .int .i64 (0)) rfl (E_nil (AX_block ?_))))))))))))))))))
  refine AX_loopF (γ := Nat) (fun j => [(5, .int .i64 ((checkM c))), (6, .int .i64 (depthL ((layersR c).take j))), (14, .slice (q1).1 ((layersR c)).length (q1).2), (15, .int .i64 (((layersR c)).length)), (16, .int .i64 ((j : Int)))]) (fun j h_ m_ => h_ = (H ++ ([CO.row [.int .i64 (c.w), .int .i64 (c.b), .slice (p).1 (c.gs).length (p).2] true none] ++ X1)) ++ [] ∧ m_ = [] ∧ j ≤ (layersR c).length) (fun j => (layersR c).length - j) (0) ⟨rfl, rfl, rfl, rfl, rfl, trivial⟩ ⟨rfl, rfl, ?_⟩ ?_
  · simp
  rintro j fr0 h0 m0 ⟨rfl, rfl, inv0⟩ K0 hN0 hR0 hE0
  refine AX_seq (AX_E (E_lssS rfl rfl (fun c17 => ?_) (fun c17 => ?_)))
  · refine E_nil (AX_seq (AX_condT rfl (AX_skip (AX_seq (AX_block (AX_seq (AX_E (have ix2 : j < ((layersR c)).length := (by first | omega | (simp; done) | (simp; omega)); E_iaIb (j := j) rfl (f1.at rfl) rfl rfl rfl ix2 fun b2 o2 w2 => (E_ldB (v := .int .i64 ((layersR c)[j]'ix2)) rfl w2 (E_mv (v := .int .i64 ((layersR c)[j]'ix2)) rfl (E_nil (AX_E (E_mv (v := .int .i64 (depthL ((layersR c).take j))) rfl (E_mv (v := .int .i64 ((layersR c)[j]'ix2)) rfl (E_addI rfl rfl (by have := hlb _ (List.getElem_mem (show j < (layersR c).length by omega)); omega) (by have := hlb _ (List.getElem_mem (show j < (layersR c).length by omega)); omega) (E_mx2 rfl rfl (E_mv (v := .int .i64 ((if ((layersR c)[j]'ix2 + 1) > depthL ((layersR c).take j) then ((layersR c)[j]'ix2 + 1) else depthL ((layersR c).take j)))) rfl (E_nil (AX_E (E_addI rfl rfl (by first | omega | (simp; done) | (simp; omega)) (by first | omega | (simp; done) | (simp; omega)) (E_mv (v := .int .i64 (((j : Int) + 1))) rfl (E_nil ?_))))))))))))))))))))))
    refine hN0 (j + 1) _ _ _ ⟨by first | rfl | (congr 1; omega), by exact congrArg (Value.int _) (depthL_mx (by omega)), by first | rfl | (congr 1; omega), by first | rfl | (congr 1; omega), by first | rfl | (congr 1; omega), trivial⟩ ⟨rfl, rfl, ?_⟩ ?_
    -- n1
    all_goals clear hN0 hR0 hE0
    · omega
    · (first | omega | (simp; omega))
  · refine E_nil (AX_seq (AX_condF rfl (AX_exit (hE0 _ _ _ _ ?_))))
    have e0 : depthL ((layersR c).take j) = depthR c := by rw [List.take_of_length_le (by omega), depthR_eq]
    refine AX_seq (AX_E (E_mv (v := .int .i64 (depthL ((layersR c).take j))) rfl (E_mv (v := .int .i64 ((checkM c))) rfl (E_mv (v := .int .i64 (depthL ((layersR c).take j))) rfl (E_mv (v := .int .i64 ((checkM c))) rfl (E_nil (AX_ret ?_)))))))
    refine ⟨_, rfl, by simp, ?_, forget_flat rfl ((List.prefix_append _ _).trans (List.prefix_append _ _))⟩
    -- r2
    clear hN0 hR0 hE0
    show Value.tuple #[.int .i64 (depthL ((layersR c).take j)), .int .i64 ((checkM c))] = _
    rw [e0]
end Go.Canon
namespace Go.Canon
open Go Go.Proofs
set_option linter.unusedVariables false
set_option linter.unusedSimpArgs false
def kf17 : KFunc := ⟨1, 76, [.cell 2 (some 3), .tmp 3], .seq (.reg [⟨some 1, .box (.t 0), none⟩, ⟨some 2, .new [.int .i64 0, .int .i64 0, .slice none 0 0], none⟩, ⟨some 3, .mv (.c (.int .i64 0)), none⟩] []) (.seq (.reg [⟨some 11, .ld (.t 1) (some 3), none⟩, ⟨some 12, .call (.c (.func (.func 48) #[] #[])) [.t 11], none⟩, ⟨some 10, .mv (.t 12), none⟩, ⟨some 13, .ext (.t 10) 0, none⟩, ⟨some 14, .ext (.t 10) 1, none⟩, ⟨some 4, .new [.int .i64 0, .int .i64 0, .slice none 0 0, .nilFunc], none⟩, ⟨none, .st (.t 4) (.t 13) 4, none⟩, ⟨some 5, .mv (.t 14), none⟩] []) (.seq (.seq (.reg [⟨some 15, .mv (.t 5), none⟩, ⟨some 16, .bin .neq (.t 15) (.c (.int .i64 0)), none⟩] []) (.cond (.t 16) (.seq (.reg [⟨some 17, .mk [.int .i64 0, .int .i64 0, .slice none 0 0] [], none⟩, ⟨some 18, .mv (.t 5), none⟩, ⟨none, .st (.t 2) (.t 17) 3, none⟩, ⟨some 3, .mv (.t 18), none⟩] []) .ret) .skip)) (.seq (.reg [⟨some 19, .fa (.t 4) 3, none⟩, ⟨none, .st (.t 19) (.c (.func (.func 66) #[] #[])) 1, none⟩] []) (.seq (.reg [⟨some 20, .fa (.t 1) 2, none⟩, ⟨some 21, .ld (.t 20) none, none⟩, ⟨some 22, .mkS [.slice none 0 0] 1 [(0, 1, .t 21)], none⟩, ⟨some 23, .call (.c (.func (.func 58) #[] #[])) [.t 22], none⟩, ⟨some 6, .mv (.t 23), none⟩] []) (.seq (.reg [⟨some 24, .fa (.t 1) 0, none⟩, ⟨some 25, .ld (.t 24) none, none⟩, ⟨some 26, .fa (.t 1) 1, none⟩, ⟨some 27, .ld (.t 26) none, none⟩, ⟨some 28, .mk [.int .i64 0, .int .i64 0, .slice none 0 0] [(0, 1, .t 25), (1, 1, .t 27)], none⟩, ⟨some 7, .new [.int .i64 0, .int .i64 0, .slice none 0 0], none⟩, ⟨none, .st (.t 7) (.t 28) 3, none⟩] []) (.seq (.block 0 (.loop (.seq (.seq (.reg [⟨some 29, .mv (.t 6), none⟩, ⟨some 30, .len (.t 29), none⟩, ⟨some 31, .bin .gtr (.t 30) (.c (.int .i64 0)), none⟩] []) (.cond (.t 31) .skip (.exit 0))) (.block 1 (.seq .skip (.seq (.reg [⟨some 32, .mv (.t 6), none⟩, ⟨some 33, .fa (.t 4) 0, none⟩, ⟨some 34, .fa (.t 33) 2, none⟩, ⟨none, .st (.t 34) (.t 32) 1, none⟩] []) (.seq (.reg [⟨some 8, .mv (.c (.int .i64 (-1))), none⟩] []) (.seq .skip (.seq (.seq (.reg [⟨some 35, .mv (.t 6), none⟩, ⟨some 36, .len (.t 35), none⟩, ⟨some 37, .mv (.c (.int .i64 0)), none⟩] []) (.block 2 (.loop (.seq (.reg [⟨some 38, .bin .lss (.t 37) (.t 36), none⟩] []) (.seq (.cond (.t 38) .skip (.exit 2)) (.seq (.block 3 (.seq (.reg [⟨some 39, .mv (.t 37), none⟩, ⟨some 9, .mv (.t 39), none⟩] []) (.seq (.seq (.reg [⟨some 40, .ld (.t 4) (some 4), none⟩, ⟨some 41, .mv (.t 9), none⟩, ⟨some 42, .call (.c (.func (.func 50) #[] #[])) [.t 40, .t 41], none⟩] []) (.block 4 (.rf (.t 42) [43] .skip (.block 5 (.exit 3))))) (.seq (.reg [⟨some 44, .mv (.t 8), none⟩, ⟨some 45, .bin .lss (.t 44) (.c (.int .i64 0)), none⟩, ⟨some 46, .mv (.t 45), none⟩, ⟨some 47, .mv (.t 6), some (46, false)⟩, ⟨some 48, .mv (.t 9), some (46, false)⟩, ⟨some 49, .iaS (.t 47) (.t 48) 4, some (46, false)⟩, ⟨some 50, .ld (.t 49) (some 4), some (46, false)⟩, ⟨some 51, .mv (.t 6), some (46, false)⟩, ⟨some 52, .mv (.t 8), some (46, false)⟩, ⟨some 53, .iaS (.t 51) (.t 52) 4, some (46, false)⟩, ⟨some 54, .ld (.t 53) (some 4), some (46, false)⟩, ⟨some 55, .call (.c (.func (.func 67) #[] #[])) [.t 50, .t 54], some (46, false)⟩, ⟨some 56, .bin .lss (.t 55) (.c (.int .i64 0)), some (46, false)⟩, ⟨some 57, .pick (.t 46) (.c (.bool true)) (.t 56), none⟩] []) (.cond (.t 57) (.reg [⟨some 58, .mv (.t 9), none⟩, ⟨some 8, .mv (.t 58), none⟩] []) .skip))))) (.reg [⟨some 59, .bin .add (.t 37) (.c (.int .i64 1)), none⟩, ⟨some 37, .mv (.t 59), none⟩] []))))))) (.seq (.reg [⟨some 60, .fa (.t 7) 2, none⟩, ⟨some 61, .ld (.t 60) none, none⟩, ⟨some 62, .mv (.t 6), none⟩, ⟨some 63, .mv (.t 8), none⟩, ⟨some 64, .iaS (.t 62) (.t 63) 4, none⟩, ⟨some 65, .ld (.t 64) (some 4), none⟩, ⟨some 66, .mkS [.int .i64 0, .slice none 0 0, .int .i64 0, .int .i64 0] 1 [(0, 4, .t 65)], none⟩, ⟨some 67, .app (.t 61) (.t 66) 4 48, none⟩, ⟨some 68, .fa (.t 7) 2, none⟩, ⟨none, .st (.t 68) (.t 67) 1, none⟩] []) (.reg [⟨some 69, .mv (.t 6), none⟩, ⟨some 70, .call (.c (.func (.func 68) #[] #[])) [.t 69], none⟩, ⟨some 71, .mv (.t 8), none⟩, ⟨some 72, .mv (.t 8), none⟩, ⟨some 73, .bin .add (.t 72) (.c (.int .i64 1)), none⟩, ⟨some 74, .call (.c (.func (.func 33) #[] #[])) [.t 70, .t 71, .t 73], none⟩, ⟨some 6, .mv (.t 74), none⟩] []))))))))))) (.seq (.reg [⟨some 75, .ld (.t 7) (some 3), none⟩, ⟨none, .st (.t 2) (.t 75) 3, none⟩, ⟨some 3, .mv (.c (.int .i64 0)), none⟩] []) .ret)))))))⟩
theorem k17 : tab Tryd.prog 26 = some kf17 := by kernel_rfl
def dd (p q : Pl) : Prop := dis p q ∧ dis q p
theorem dd_symm {p q : Pl} (H : dd p q) : dd q p := ⟨H.2, H.1⟩
def wB (nX nO : Nat) : Nat → Prop := fun b => nX ≤ b ∧ b < nO
abbrev wrow (c : C) (v : Value) : CO := .row [.int .i64 c.w, .int .i64 c.b, v, .func (.func 66) #[] #[]] true none
abbrev crow (c : C) (p : Pl) (n : Nat) : CO := .row [.int .i64 c.w, .int .i64 c.b, .slice p.1 n p.2] true none
/-- Wires of a list's gates, in what does not change. -/
def Wires (S : Nat → Prop) (K : Heap) (gs : List G) (ps : List Pl) : Prop := ∀ i (h1 : i < gs.length) (h2 : i < ps.length), Ints S K ps[i] gs[i].ws
theorem Wires.snoc {K : Heap} {S : Nat → Prop} {gs : List G} {ps : List Pl} {g : G} {p : Pl} (W : Wires S K gs ps) (e : ps.length = gs.length) (h : Ints S K p g.ws) : Wires S K (gs ++ [g]) (ps ++ [p]) := by
  intro i h1 h2
  by_cases hi : i < gs.length
  · rw [List.getElem_append_left hi, List.getElem_append_left (by omega)]
    exact W i hi (by omega)
  · have : i = gs.length := by simp at h1; omega
    subst this
    rw [List.getElem_append_right (by omega), List.getElem_append_right (by omega)]
    simp only [e, Nat.sub_self, List.getElem_cons_zero]
    exact h
theorem Wires.erase {K : Heap} {S : Nat → Prop} {gs : List G} {ps : List Pl} {b : Nat} (W : Wires S K gs ps) (e : ps.length = gs.length) (hb : b < gs.length) : Wires S K (gs.eraseIdx b) (ps.eraseIdx b) := by
  intro i h1 h2
  rw [List.getElem_eraseIdx, List.getElem_eraseIdx]
  rw [List.length_eraseIdx_of_lt hb] at h1
  split
  · exact W i (by omega) (by omega)
  · exact W (i + 1) (by omega) (by omega)
theorem erase_perm {α : Type} (po pl : List α) (b : Nat) (hb : b < pl.length) : (po ++ pl).Perm ((po ++ [pl[b]]) ++ pl.eraseIdx b) := by
  rw [List.append_assoc]
  refine List.Perm.append_left _ ?_
  rw [List.singleton_append]
  induction pl generalizing b with
  | nil => simp at hb
  | cons x pl ih =>
    cases b with
    | zero => exact List.Perm.refl _
    | succ b =>
      simp only [List.getElem_cons_succ, List.eraseIdx_cons_succ]
      exact ((ih b (by simpa using hb)).cons x).trans (List.Perm.swap _ _ _)
structure TI (K0 : Heap) (c : C) (nW nX nO : Nat) (K : Heap) (m : List Nat) (lf : List G) (p1 : Pl) (ot : List G) (p2 : Pl) : Prop where
  hle : nO < K.length
  keep : ∀ b, b < nO → b ≠ nW → K[b]? = K0[b]?
  work : ∃ v, K[nW]? = some (wrow c v)
  out : K[nO]? = some (crow c p2 ot.length)
  mks : Mk (nO + 1) K m
  lists : ∃ pl po, pl.length = lf.length ∧ po.length = ot.length ∧ Cells (fun b => nX ≤ b ∧ b ≠ nO ∧ offP p2 b) K 4 p1 lf.length (flat lf pl) ∧ Grown 4 0 K p2 ot.length (flat ot po) ∧ (∀ a, p2.1 = some a → nO < a.block) ∧
    Wires (wB nX nO) K0 lf pl ∧ Wires (wB nX nO) K0 ot po ∧ (po ++ pl).Pairwise dd
theorem TI.step {K0 K K2 K3 K4 K5 K7 X z : Heap} {c : C} {nW nX nO b : Nat} {m m' : List Nat} {lf ot : List G} {p1 p2 : Pl} {pl po : List Pl} {cs' : List Value} {gr : Option Nat} (hWX : nW < nX) (hXO : nX ≤ nO)
    (I1 : nO < K.length) (I2 : ∀ b, b < nO → b ≠ nW → K[b]? = K0[b]?) (a1 : pl.length = lf.length) (a2 : po.length = ot.length) (a6 : Wires (wB nX nO) K0 lf pl) (a7 : Wires (wB nX nO) K0 ot po) (a8 : (po ++ pl).Pairwise dd) (a5 : ∀ a, p2.1 = some a → nO < a.block)
    (hb : b < lf.length) {v : Value} (h2 : K2 = K.set nW (wrow c v)) (h3 : K3 = K2 ++ z) (hm : Mk (nO + 1) K3 m') (g3 : Grown 4 0 K3 p2 ot.length (flat ot po))
    (l4 : K4.length = K3.length + 1) (g4 : Grown 4 0 K4 (some ⟨K3.length, 0, none⟩, ot.length + 1) (ot.length + 1) (flat ot po ++ gcells lf[b] (pl[b]'(by omega)))) (k4 : ∀ i, i < K3.length → offP p2 i → K4[i]? = K3[i]?)
    (h5 : K5 = K4.set nO (crow c (some ⟨K3.length, 0, none⟩, ot.length + 1) (ot.length + 1))) (h7 : K7 = (K5 ++ X).set (K5.length + 1) (.row cs' true gr)) (hX : 2 ≤ X.length) (hg : gr = none ∨ gr = some 4) (hcl : cs'.length = lf.length * 4) (hct : cs'.take ((lf.length - 1) * 4) = flat (lf.eraseIdx b) (pl.eraseIdx b)) :
    TI K0 c nW nX nO K7 m' (lf.eraseIdx b) (some ⟨K5.length + 1, 0, none⟩, lf.length) (ot ++ [lf[b]]) (some ⟨K3.length, 0, none⟩, ot.length + 1) := by
  have l2 : K2.length = K.length := by rw [h2]; simp
  have l3 : K3.length = K.length + z.length := by rw [h3]; simp [l2]
  have l5 : K5.length = K4.length := by rw [h5]; simp
  have l7 : K7.length = K5.length + X.length := by rw [h7]; simp
  have e2 : ∀ x, x ≠ nW → K2[x]? = K[x]? := fun x hx => by rw [h2, List.getElem?_set_ne (Ne.symm hx)]
  have e7 : ∀ x, x < K4.length → x ≠ nO → K7[x]? = K4[x]? := fun x hx hn => by
    rw [h7, List.getElem?_set_ne (by omega), pre_get (by omega), h5, List.getElem?_set_ne (Ne.symm hn)]
  have e3 : ∀ x, x < K.length → x ≠ nW → K3[x]? = K[x]? := fun x hx hn => by rw [h3, pre_get (by omega), e2 x hn]
  have eW : K3[nW]? = some (wrow c v) := by rw [h3, pre_get (by omega), h2, List.getElem?_set_self (by omega)]
  have off2 : ∀ x, x ≤ nO → offP p2 x := fun x hx a ha => by have := a5 a ha; omega
  have el : (lf.eraseIdx b).length = lf.length - 1 := List.length_eraseIdx_of_lt hb
  refine ⟨by omega, ?_, ⟨v, ?_⟩, ?_, ?_, pl.eraseIdx b, po ++ [pl[b]'(by omega)], ?_, ?_, ?_, ?_, ?_, ?_, ?_, ?_⟩
  · intro x hx hn
    rw [e7 x (by omega) (by omega), k4 x (by omega) (off2 x (by omega)), e3 x (by omega) hn, I2 x hx hn]
  · rw [e7 nW (by omega) (by omega), k4 nW (by omega) (off2 nW (by omega)), eW]
  · rw [h7, List.getElem?_set_ne (by omega), pre_get (by omega), h5, List.getElem?_set_self (by omega), List.length_append]
    rfl
  · intro x hx
    obtain ⟨x1, x2⟩ := hm x hx
    have xl := (List.getElem?_eq_some_iff.1 x2).1
    refine ⟨x1, ?_⟩
    rw [e7 x (by omega) (by omega)]
    by_cases ho : offP p2 x
    · rw [k4 x xl ho, x2]
    · refine (ho fun a ha e => ?_).elim
      obtain ⟨_, ⟨g, _⟩ | ⟨j, gr2, g, gj, _⟩⟩ := g3
      · rw [g] at ha; cases ha
      · rw [g] at ha
        injection ha with ha
        subst ha
        simp only [Nat.zero_add] at e
        subst e
        rw [gj] at x2; cases x2
  · rw [el, List.length_eraseIdx_of_lt (by omega), a1]
  · simp [a2]
  · refine ⟨?_, by simp only; omega, .inr ⟨K5.length + 1, 0, cs', true, gr, rfl, ⟨by omega, by omega, fun a ha => ?_⟩, ?_, hg, .inr ⟨by omega, ?_⟩⟩⟩
    · rw [flat_len _ _ (by rw [el, List.length_eraseIdx_of_lt (by omega), a1])]
    · simp only [Option.some.injEq] at ha; subst ha; simp only; omega
    · rw [h7, List.getElem?_set_self (by simp; omega)]
    · rw [List.drop_zero, el]; exact hct
  · rw [List.length_append, flat_append _ _ _ _ a2]
    have := g4.same (h' := K7) (fun a ha => by simp only [Option.some.injEq] at ha; subst ha; exact e7 _ (by simp only; omega) (by simp only; omega))
    simpa [flat] using this
  · intro a ha
    simp only [Option.some.injEq] at ha; subst ha; simp only; omega
  · exact a6.erase a1 hb
  · exact a7.snoc a2 (a6 b hb (by omega))
  · exact (erase_perm po pl b (by omega)).pairwise_iff (fun h => dd_symm h) |>.1 a8
theorem Grown.blk {sz k : Nat} {h : Heap} {p : Pl} {cells : List Value} {a : Addr} (H : Grown sz 0 h p k cells) (ha : p.1 = some a) : a.block < h.length := by
  obtain ⟨_, ⟨b, c⟩ | ⟨j, gr, e, c, d⟩⟩ := H
  · rw [b] at ha; cases ha
  · rw [e] at ha
    injection ha with ha
    subst ha
    have := (List.getElem?_eq_some_iff.1 c).1
    simp only; omega
theorem pw_dd {ps : List Pl} (H : ∀ i j (h1 : i < ps.length) (h2 : j < ps.length), i ≠ j → dis ps[i] ps[j]) : ps.Pairwise dd := by
  rw [List.pairwise_iff_getElem]
  intro i j h1 h2 hij
  exact ⟨H i j h1 h2 (by omega), H j i h2 h1 (by omega)⟩
theorem ptidy_good (H : Heap) (c : C) (p : Pl) {S : Nat → Prop} (hv : Gates S H p c.gs) (hl : c.gs.length < 4294967296) (hc : checkM c = 0) : ∃ X p', Ret (tab Tryd.prog) 26 [cv c p] H (.tuple #[cv (tidyM c) p', .int .i64 0]) (H ++ X) ∧ GatesZ H.length X p' (tidyM c).gs := by
  have key := Ret_grow (T := tab Tryd.prog) (f := 26) (args := [cv c p]) (h := H) (fun u X => ∃ p' : Pl, u = .tuple #[cv (tidyM c) p', .int .i64 0] ∧ GatesZ H.length X p' (tidyM c).gs) k17 rfl ?_
  · obtain ⟨u, X, hr, p', rfl, f1⟩ := key
    exact ⟨X, p', hr, f1⟩
  have hr := CR.of hc
  have hn := hr.n0
  refine AX_seq (AX_E (E_boxA rfl (E_new (E_mv (v := .int .i64 (0)) rfl (E_nil (AX_seq (AX_E (E_ldON (k := 0) rfl rfl ?_))))))))
  obtain ⟨XO1, hXO1⟩ := opened_ret (H ++ [CO.row [.int .i64 (c.w), .int .i64 (c.b), .slice (p).1 (c.gs).length (p).2] true none, CO.row [.int .i64 (0), .int .i64 (0), .slice none 0 0] true none]) c p (hv.app) (by omega) hc
  refine E_callX (X := XO1) rfl (hXO1) (E_mv (v := .tuple _) rfl (E_ext (v := .agg _) rfl rfl (E_ext (v := .int .i64 (0)) rfl rfl (E_new (E_stO (k := 0) rfl rfl (v := .agg _) rfl rfl rfl rfl (E_mv (v := .int .i64 (0)) rfl (E_nil (AX_seq (AX_seq (AX_E (E_mv (v := .int .i64 (0)) rfl (E_neqS rfl rfl (fun c16 => ?_) (fun c16 => ?_)))))))))))))
  · exact (c16 rfl).elim
  · refine E_nil (AX_condF rfl (AX_skip (AX_seq (AX_E (E_fa rfl (E_stO (k := 0) rfl rfl (v := .func _ _ _) rfl rfl rfl rfl (E_nil (AX_seq (AX_E (E_fa rfl (E_ldB (v := .slice _ _ _) rfl (rowGet_own (k := 0) rfl) (E_mkS (cs := [.slice (p).1 (c.gs).length (p).2]) rfl ?_))))))))))))
    obtain ⟨X2, x2, hr2, f2⟩ := behind1_ret ((H ++ ([CO.row [.int .i64 (c.w), .int .i64 (c.b), .slice (p).1 (c.gs).length (p).2] true none, CO.row [.int .i64 (0), .int .i64 (0), .slice none 0 0] true none] ++ XO1))) ([CO.row [.int .i64 (c.w), .int .i64 (c.b), .slice (p).1 (c.gs).length (p).2, .func (.func 66) #[] #[]] true none, CO.row [.slice (p).1 (c.gs).length (p).2] true none]) 1 (p) (c.gs) rfl hv.app.app (by omega) (fun g hg => by have := (hr.gr hg).len; omega)
    refine E_callX (X := X2) rfl (hr2) (E_mv (v := .slice _ _ _) rfl (E_nil (AX_seq (AX_E (E_fa rfl (E_ldB (v := .int .i64 (c.w)) rfl (rowGet_base (rowGet_own (k := 0) rfl)) (E_fa rfl (E_ldB (v := .int .i64 (c.b)) rfl (rowGet_base (rowGet_own (k := 0) rfl)) (E_mk (cs := [.int .i64 (c.w), .int .i64 (c.b), .slice none 0 0]) rfl (E_new (E_stO (k := 0) rfl rfl (v := .agg _) rfl rfl rfl rfl (E_nil (AX_seq (AX_block ?_))))))))))))))
    let nW : Nat := (H ++ ([CO.row [.int .i64 (c.w), .int .i64 (c.b), .slice (p).1 (c.gs).length (p).2] true none, CO.row [.int .i64 (0), .int .i64 (0), .slice none 0 0] true none] ++ XO1)).length
    let nX : Nat := ((H ++ ([CO.row [.int .i64 (c.w), .int .i64 (c.b), .slice (p).1 (c.gs).length (p).2] true none, CO.row [.int .i64 (0), .int .i64 (0), .slice none 0 0] true none] ++ XO1)) ++ [CO.row [.int .i64 (c.w), .int .i64 (c.b), .slice (p).1 (c.gs).length (p).2, .func (.func 66) #[] #[]] true none, CO.row [.slice (p).1 (c.gs).length (p).2] true none]).length
    let nO : Nat := ((H ++ ([CO.row [.int .i64 (c.w), .int .i64 (c.b), .slice (p).1 (c.gs).length (p).2] true none, CO.row [.int .i64 (0), .int .i64 (0), .slice none 0 0] true none] ++ XO1)) ++ ([CO.row [.int .i64 (c.w), .int .i64 (c.b), .slice (p).1 (c.gs).length (p).2, .func (.func 66) #[] #[]] true none, CO.row [.slice (p).1 (c.gs).length (p).2] true none] ++ X2)).length
    let KB : Heap := ((H ++ ([CO.row [.int .i64 (c.w), .int .i64 (c.b), .slice (p).1 (c.gs).length (p).2] true none, CO.row [.int .i64 (0), .int .i64 (0), .slice none 0 0] true none] ++ XO1)) ++ ([CO.row [.int .i64 (c.w), .int .i64 (c.b), .slice (p).1 (c.gs).length (p).2, .func (.func 66) #[] #[]] true none, CO.row [.slice (p).1 (c.gs).length (p).2] true none] ++ X2)) ++ [CO.row [.int .i64 (c.w), .int .i64 (c.b), .slice none 0 0] true none]
    obtain ⟨pz, hz1, hz2, hz3, hz4⟩ := f2.opn
    have hHW : nW = H.length + 2 + XO1.length := by first | (simp [nW]; done) | (simp [nW]; omega)
    have hWX : nX = nW + 2 := by first | (simp [nX, nW]; done) | (simp [nX, nW]; omega)
    have hXO : nO = nX + X2.length := by simp [nO, nX, nW]; omega
    have hKl : KB.length = nO + 1 := by simp [KB, nO]; omega
    have kW : KB[nW]? = some (wrow c (.slice p.1 c.gs.length p.2)) := by show (((H ++ ([CO.row [.int .i64 (c.w), .int .i64 (c.b), .slice (p).1 (c.gs).length (p).2] true none, CO.row [.int .i64 (0), .int .i64 (0), .slice none 0 0] true none] ++ XO1)) ++ ([CO.row [.int .i64 (c.w), .int .i64 (c.b), .slice (p).1 (c.gs).length (p).2, .func (.func 66) #[] #[]] true none, CO.row [.slice (p).1 (c.gs).length (p).2] true none] ++ X2)) ++ [CO.row [.int .i64 (c.w), .int .i64 (c.b), .slice none 0 0] true none])[(H ++ ([CO.row [.int .i64 (c.w), .int .i64 (c.b), .slice (p).1 (c.gs).length (p).2] true none, CO.row [.int .i64 (0), .int .i64 (0), .slice none 0 0] true none] ++ XO1)).length + 0]? = _; rw [List.append_assoc (H ++ ([CO.row [.int .i64 (c.w), .int .i64 (c.b), .slice (p).1 (c.gs).length (p).2] true none, CO.row [.int .i64 (0), .int .i64 (0), .slice none 0 0] true none] ++ XO1)), own_get]; rfl
    have kO : KB[nO]? = some (crow c (none, 0) 0) := by show (((H ++ ([CO.row [.int .i64 (c.w), .int .i64 (c.b), .slice (p).1 (c.gs).length (p).2] true none, CO.row [.int .i64 (0), .int .i64 (0), .slice none 0 0] true none] ++ XO1)) ++ ([CO.row [.int .i64 (c.w), .int .i64 (c.b), .slice (p).1 (c.gs).length (p).2, .func (.func 66) #[] #[]] true none, CO.row [.slice (p).1 (c.gs).length (p).2] true none] ++ X2)) ++ [CO.row [.int .i64 (c.w), .int .i64 (c.b), .slice none 0 0] true none])[((H ++ ([CO.row [.int .i64 (c.w), .int .i64 (c.b), .slice (p).1 (c.gs).length (p).2] true none, CO.row [.int .i64 (0), .int .i64 (0), .slice none 0 0] true none] ++ XO1)) ++ ([CO.row [.int .i64 (c.w), .int .i64 (c.b), .slice (p).1 (c.gs).length (p).2, .func (.func 66) #[] #[]] true none, CO.row [.slice (p).1 (c.gs).length (p).2] true none] ++ X2)).length + 0]? = _; rw [own_get]; rfl
    have kR : KB[H.length + 1]? = some (CO.row [.int .i64 0, .int .i64 0, .slice none 0 0] true none) := by show (((H ++ ([CO.row [.int .i64 (c.w), .int .i64 (c.b), .slice (p).1 (c.gs).length (p).2] true none, CO.row [.int .i64 (0), .int .i64 (0), .slice none 0 0] true none] ++ XO1)) ++ ([CO.row [.int .i64 (c.w), .int .i64 (c.b), .slice (p).1 (c.gs).length (p).2, .func (.func 66) #[] #[]] true none, CO.row [.slice (p).1 (c.gs).length (p).2] true none] ++ X2)) ++ [CO.row [.int .i64 (c.w), .int .i64 (c.b), .slice none 0 0] true none])[H.length + 1]? = _; rw [pre_get (by first | (simp; done) | (simp; omega)), pre_get (by first | (simp; done) | (simp; omega)), own_get]; rfl
    have kH : ∀ b, b < H.length → KB[b]? = H[b]? := fun b hb => by show (((H ++ ([CO.row [.int .i64 (c.w), .int .i64 (c.b), .slice (p).1 (c.gs).length (p).2] true none, CO.row [.int .i64 (0), .int .i64 (0), .slice none 0 0] true none] ++ XO1)) ++ ([CO.row [.int .i64 (c.w), .int .i64 (c.b), .slice (p).1 (c.gs).length (p).2, .func (.func 66) #[] #[]] true none, CO.row [.slice (p).1 (c.gs).length (p).2] true none] ++ X2)) ++ [CO.row [.int .i64 (c.w), .int .i64 (c.b), .slice none 0 0] true none])[b]? = _; rw [pre_get (by simp; omega), pre_get (by simp; omega), pre_get hb]
    have kC : Cells (segB nX X2.length) KB 4 x2 c.gs.length (flat c.gs pz) := by have := (hz2 ((H ++ ([CO.row [.int .i64 (c.w), .int .i64 (c.b), .slice (p).1 (c.gs).length (p).2] true none, CO.row [.int .i64 (0), .int .i64 (0), .slice none 0 0] true none] ++ XO1)) ++ [CO.row [.int .i64 (c.w), .int .i64 (c.b), .slice (p).1 (c.gs).length (p).2, .func (.func 66) #[] #[]] true none, CO.row [.slice (p).1 (c.gs).length (p).2] true none]) rfl).app (L := [CO.row [.int .i64 (c.w), .int .i64 (c.b), .slice none 0 0] true none]); rw [List.append_assoc (H ++ ([CO.row [.int .i64 (c.w), .int .i64 (c.b), .slice (p).1 (c.gs).length (p).2] true none, CO.row [.int .i64 (0), .int .i64 (0), .slice none 0 0] true none] ++ XO1))] at this; exact this
    have kI : Wires (wB nX nO) KB c.gs pz := fun i h1 h2 => by have := (hz3 i h1 h2 ((H ++ ([CO.row [.int .i64 (c.w), .int .i64 (c.b), .slice (p).1 (c.gs).length (p).2] true none, CO.row [.int .i64 (0), .int .i64 (0), .slice none 0 0] true none] ++ XO1)) ++ [CO.row [.int .i64 (c.w), .int .i64 (c.b), .slice (p).1 (c.gs).length (p).2, .func (.func 66) #[] #[]] true none, CO.row [.slice (p).1 (c.gs).length (p).2] true none]) rfl).app (L := [CO.row [.int .i64 (c.w), .int .i64 (c.b), .slice none 0 0] true none]); rw [List.append_assoc (H ++ ([CO.row [.int .i64 (c.w), .int .i64 (c.b), .slice (p).1 (c.gs).length (p).2] true none, CO.row [.int .i64 (0), .int .i64 (0), .slice none 0 0] true none] ++ XO1))] at this; exact this.congr (fun b hb => ⟨hb.1.1, by have := hb.1.2; omega⟩) fun _ _ _ => rfl
    refine AX_loopF (γ := List G × Pl × List G × Pl) (fun x => [(2, .pointer (some ⟨H.length + 1, 0, none⟩)), (4, .pointer (some ⟨nW, 0, none⟩)), (6, .slice (x.2.1).1 (x.1).length (x.2.1).2), (7, .pointer (some ⟨nO, 0, none⟩))]) (fun x h_ m_ => TI KB c nW nX nO h_ m_ x.1 x.2.1 x.2.2.1 x.2.2.2 ∧ ((∀ g ∈ x.1, g ∈ c.gs) ∧ x.2.2.1 ++ tidyL (x.1).length x.1 = tidyL c.gs.length c.gs ∧ (x.1).length ≤ c.gs.length ∧ (x.2.2.1).length ≤ c.gs.length)) (fun x => (x.1).length) (c.gs, x2, [], (none, 0)) ⟨rfl, rfl, rfl, rfl, trivial⟩ ⟨?_, ?_⟩ ?_
    · show TI KB c nW nX nO KB [] c.gs x2 [] (none, 0)
      exact ⟨by omega, fun _ _ _ => rfl, ⟨_, kW⟩, kO, Mk.nil, pz, [], hz1, rfl, kC.congr (fun b hb => ⟨hb.1, by have := hb.2; omega, fun a ha => by cases ha⟩) (fun _ _ _ => rfl), Grown.nil, (fun a ha => by cases ha), kI, (fun i h1 => by simp at h1), by simpa using pw_dd hz4⟩
    · simp
    rintro ⟨lf, p1, ot, p2⟩ fr0 KH0 mk0 ⟨hI0, inv0⟩ Kk0 hN0 hR0 hE0
    try dsimp only at hI0 inv0
    clear_value KB nO nX nW
    obtain ⟨hmem, htd, hln, hlo⟩ := inv0
    have hgr : ∀ g ∈ lf, GR g := fun g hg => hr.gr (hmem g hg)
    obtain ⟨pl, po, e1, e2, hlc, hog, hpo, hwl, hwo, hpw⟩ := hI0.lists
    obtain ⟨wv, hw⟩ := hI0.work
    have hle := hI0.hle
    have fO : rowGet KH0 ⟨nO, 0, none⟩ 3 = some [.int .i64 c.w, .int .i64 c.b, .slice p2.1 ot.length p2.2] := rowGet_all hI0.out rfl
    have fW : rowGet KH0 ⟨nW, 0, none⟩ 4 = some [.int .i64 c.w, .int .i64 c.b, wv, .func (.func 66) #[] #[]] := rowGet_all hw rfl
    have hR := (hI0.keep (H.length + 1) (by omega) (by omega)).trans kR
    have fR : rowGet KH0 ⟨H.length + 1, 0, none⟩ 3 = some [.int .i64 0, .int .i64 0, .slice none 0 0] := rowGet_all hR rfl
    have hin : Wires allB KH0 lf pl := fun i h1 h2 => (hwl i h1 h2).congr (fun _ _ => trivial) fun x hx _ => hI0.keep x hx.2 (by have := hx.1; omega)
    refine AX_nil ?_
    refine AX_seq (AX_seq (AX_E (E_mv (v := .slice _ _ _) rfl (E_len (n := (lf).length) rfl (E_gtrS rfl rfl (fun c31 => ?_) (fun c31 => ?_))))))
    · refine E_nil (AX_condT rfl (AX_skip (AX_block (AX_seq (AX_skip (AX_seq (AX_E (E_mv (v := .slice _ _ _) rfl (E_fa rfl (E_fa rfl (E_stX (v := .slice _ _ _) rfl rfl rfl rfl ((congrArg (fun h : Heap => h[nW]?) (List.append_nil _)).trans hw) (by simp) rfl rfl fun U2 hK2' => ?_)))))))))))
      have hK2 : U2 = KH0.set nW (wrow c (.slice p1.1 lf.length p1.2)) := by rw [hK2', List.append_nil]; rfl
      have lK2 : U2.length = KH0.length := by rw [hK2]; simp
      have nK2 : ∀ x, x ≠ nW → U2[x]? = KH0[x]? := fun x hx => by rw [hK2, List.getElem?_set_ne (Ne.symm hx)]
      have hw2 : U2[nW]? = some (wrow c (.slice p1.1 lf.length p1.2)) := by rw [hK2, List.getElem?_set_self (by omega)]
      have fW2 : rowGet U2 ⟨nW, 0, none⟩ 4 = some [.int .i64 c.w, .int .i64 c.b, .slice p1.1 lf.length p1.2, .func (.func 66) #[] #[]] := rowGet_all hw2 rfl
      have hO2 := (nK2 nO (by omega)).trans hI0.out
      have fO2 : rowGet U2 ⟨nO, 0, none⟩ 3 = some [.int .i64 c.w, .int .i64 c.b, .slice p2.1 ot.length p2.2] := rowGet_all hO2 rfl
      have hlc2 : Cells allB U2 4 p1 lf.length (flat lf pl) := hlc.congr (fun _ _ => trivial) fun x hx _ => nK2 x (by have := hx.1; omega)
      have hin2 : Wires allB U2 lf pl := fun i h1 h2 => (hwl i h1 h2).congr (fun _ _ => trivial) fun x hx _ => by rw [nK2 x (by have := hx.1; omega), hI0.keep x hx.2 (by have := hx.1; omega)]
      have hgs2 : Gates allB U2 p1 lf := ⟨pl, e1, hlc2, hin2⟩
      have hmk2 : Mk (nO + 1) U2 mk0 := hI0.mks.mono fun x hx h => by rw [nK2 x (by omega)]; exact h
      refine E_nil (AX_seq (AX_E (E_mv (v := .int .i64 ((-1))) rfl (E_nil (AX_seq (AX_skip (AX_seq (AX_seq (AX_E (E_mv (v := .slice _ _ _) rfl (E_len (n := (lf).length) rfl (E_mv (v := .int .i64 (0)) rfl (E_nil (AX_block ?_))))))))))))))
      refine AX_loopF (γ := Nat) (fun i => [(2, .pointer (some ⟨H.length + 1, 0, none⟩)), (4, .pointer (some ⟨nW, 0, none⟩)), (6, .slice (p1).1 (lf).length (p1).2), (7, .pointer (some ⟨nO, 0, none⟩)), (8, .int .i64 (nextM lf i)), (36, .int .i64 ((lf).length)), (37, .int .i64 ((i : Int)))]) (fun i h_ m_ => (∃ z_, h_ = U2 ++ ([] ++ z_)) ∧ Mk (nO + 1) h_ m_ ∧ i ≤ lf.length) (fun i => lf.length - i) (0) ⟨rfl, rfl, rfl, rfl, rfl, rfl, rfl, trivial⟩ ⟨⟨[], app0 _ _⟩, (by rw [List.append_nil]; exact hmk2), ?_⟩ ?_
      · simp
      rintro i fr2 h2 m2 ⟨⟨z2, rfl⟩, mk2, inv2⟩ K2 hN2 hR2 hE2
      refine AX_nil ?_
      refine AX_seq (AX_E (E_lssS rfl rfl (fun c38 => ?_) (fun c38 => ?_)))
      · refine E_nil (AX_seq (AX_condT rfl (AX_skip (AX_seq (AX_block (AX_seq (AX_E (E_mv (v := .int .i64 ((i : Int))) rfl (E_mv (v := .int .i64 ((i : Int))) rfl (E_nil (AX_seq (AX_seq (AX_E (E_ldBN rfl (rowGet_base fW2) (E_mv (v := .int .i64 ((i : Int))) rfl ?_)))))))))))))))
        refine E_callX (X := [CO.row [.int .i64 c.w, .int .i64 c.b, .slice p1.1 lf.length p1.2, .func (.func 66) #[] #[]] true none, CO.row [.int .i64 (i : Int)] true none]) rfl (pbefore_ret _ ⟨c.w, c.b, lf⟩ p1 _ i) (E_nil (AX_block ?_))
        refine rf_leave (c := ⟨c.w, c.b, lf⟩) (p := p1) (n := i) (f1 := 66) (fun j => ¬ commM (lf.getD j default) (lf.getD i default)) rfl rfl (by simp) rfl ?_ ?_ ?_ (show i < lf.length by omega) (show lf.length < 4294967296 by omega) ?_ ?_ ?_
        · exact rowGet_base (rowGet_ownE (k := 1) (by simp) rfl)
        · exact rowGet_base (rowGet_ownE (k := 0) (by simp) rfl)
        · exact hgs2.app.app.app
        · intro j hj K q1 q2 e3 e4
          have hjl : j < lf.length := by omega
          have hil : i < lf.length := by omega
          have := near_ret K lf[j] lf[i] q1 q2 e3 e4 (hgr _ (List.getElem_mem _)) (hgr _ (List.getElem_mem _))
          simpa only [getG_at hjl, getG_at hil] using this
        · intro hf R
          have hfree : freeTo lf i i := fun j hj => Decidable.not_not.1 (hf j hj)
          refine AX_seq (AX_E (E_mv (v := .int .i64 (nextM lf i)) rfl (E_lssS rfl rfl (fun c45 => ?_) (fun c45 => ?_))))
          · refine E_mv (v := .bool _) rfl (E_notF rfl (E_notF rfl (E_notF rfl (E_notF rfl (E_notF rfl (E_notF rfl (E_notF rfl (E_notF rfl (E_notF rfl (E_notF rfl (E_pickT rfl (v := .bool _) rfl (E_nil (AX_condT rfl (AX_E (E_mv (v := .int .i64 ((i : Int))) rfl (E_mv (v := .int .i64 ((i : Int))) rfl (E_nil (AX_E (E_addI rfl rfl (by first | omega | (simp; done) | (simp; omega)) (by first | omega | (simp; done) | (simp; omega)) (E_mv (v := .int .i64 (((i : Int) + 1))) rfl (E_nil ?_)))))))))))))))))))))
            refine hN2 (i + 1) _ _ _ ⟨by first | rfl | (congr 1; omega), by first | rfl | (congr 1; omega), by first | rfl | (congr 1; omega), by first | rfl | (congr 1; omega), by first | exact congrArg (Value.int _) (next_skip (fun x => hfree x.1)).symm | exact congrArg (Value.int _) (next_take hfree (.inl c45)).symm | exact congrArg (Value.int _) (next_take hfree (.inr (before_getD _ _ ((order_iff (hgr _ (List.getElem_mem _)) (hgr _ (List.getElem_mem _))).1 c56)))).symm | exact congrArg (Value.int _) (next_skip (fun x => x.2.elim c45 (fun y => c56 ((order_iff (hgr _ (List.getElem_mem _)) (hgr _ (List.getElem_mem _))).2 (before_getD2 _ _ y))))).symm, by first | rfl | (congr 1; omega), by first | rfl | (congr 1; omega), trivial⟩ ⟨⟨(z2 ++ [] ++ [CO.row [.int .i64 c.w, .int .i64 c.b, .slice p1.1 lf.length p1.2, .func (.func 66) #[] #[]] true none, CO.row [.int .i64 (i : Int)] true none] ++ [CO.mark, CO.loop R]), by first | (simp only [List.append_assoc, List.append_nil, List.nil_append, List.cons_append, List.set_cons_zero, List.set_cons_succ]; done) | (simp only [List.append_assoc, List.append_nil, List.nil_append, List.cons_append, List.set_cons_zero, List.set_cons_succ]; rfl)⟩, ?_, ?_⟩ ?_
            rotate_left
            -- n1
            all_goals clear hN0 hR0 hE0 hN2 hR2 hE2
            · omega
            · (first | omega | (simp; omega))
            · refine Mk.cons (Mk.app (Mk.app mk2)) (by simp; omega) ?_
              rw [List.append_nil, List.getElem?_append_right (Nat.le_refl _)]; simp
          · refine E_mv (v := .bool _) rfl (E_on rfl (E_mv (v := .slice _ _ _) rfl (E_on rfl (E_mv (v := .int .i64 ((i : Int))) rfl (E_on rfl (have ix3 : i < (lf).length := (by first | omega | (simp; done) | (simp; omega)); have iy3 : i < pl.length := (by omega); E_iaPb (j := i) rfl hlc2.app.app rfl e1 rfl rfl ix3 iy3 fun b3 o3 w3 => (E_on rfl (E_ldBN rfl w3 (E_on rfl (E_mv (v := .slice _ _ _) rfl (E_on rfl (E_mv (v := .int .i64 (nextM lf i)) rfl (E_on rfl (have ix4 : (nextM lf i).toNat < (lf).length := (by have := nextM_lt lf i; omega); have iy4 : (nextM lf i).toNat < pl.length := (by omega); E_iaPb (j := (nextM lf i).toNat) rfl hlc2.app.app rfl e1 rfl (by omega) ix4 iy4 fun b4 o4 w4 => (E_on rfl (E_ldBN rfl w4 (E_on rfl (E_callV rfl (order_ret _ (lf[i]'ix3) (lf[(nextM lf i).toNat]'ix4) _ _ (hin2 (i) ix3 iy3).app.app.app (hin2 ((nextM lf i).toNat) ix4 iy4).app.app.app (by have := (hgr _ (List.getElem_mem (show i < lf.length by omega))).len; omega)) (E_on rfl (E_lssS rfl rfl (fun c56 => ?_) (fun c56 => ?_)))))))))))))))))))))
            · refine E_pickF rfl (v := .bool _) rfl (E_nil (AX_condT rfl (AX_E (E_mv (v := .int .i64 ((i : Int))) rfl (E_mv (v := .int .i64 ((i : Int))) rfl (E_nil (AX_E (E_addI rfl rfl (by first | omega | (simp; done) | (simp; omega)) (by first | omega | (simp; done) | (simp; omega)) (E_mv (v := .int .i64 (((i : Int) + 1))) rfl (E_nil ?_))))))))))
              refine hN2 (i + 1) _ _ _ ⟨by first | rfl | (congr 1; omega), by first | rfl | (congr 1; omega), by first | rfl | (congr 1; omega), by first | rfl | (congr 1; omega), by first | exact congrArg (Value.int _) (next_skip (fun x => hfree x.1)).symm | exact congrArg (Value.int _) (next_take hfree (.inl c45)).symm | exact congrArg (Value.int _) (next_take hfree (.inr (before_getD _ _ ((order_iff (hgr _ (List.getElem_mem _)) (hgr _ (List.getElem_mem _))).1 c56)))).symm | exact congrArg (Value.int _) (next_skip (fun x => x.2.elim c45 (fun y => c56 ((order_iff (hgr _ (List.getElem_mem _)) (hgr _ (List.getElem_mem _))).2 (before_getD2 _ _ y))))).symm, by first | rfl | (congr 1; omega), by first | rfl | (congr 1; omega), trivial⟩ ⟨⟨(z2 ++ [] ++ [CO.row [.int .i64 c.w, .int .i64 c.b, .slice p1.1 lf.length p1.2, .func (.func 66) #[] #[]] true none, CO.row [.int .i64 (i : Int)] true none] ++ [CO.mark, CO.loop R]), by first | (simp only [List.append_assoc, List.append_nil, List.nil_append, List.cons_append, List.set_cons_zero, List.set_cons_succ]; done) | (simp only [List.append_assoc, List.append_nil, List.nil_append, List.cons_append, List.set_cons_zero, List.set_cons_succ]; rfl)⟩, ?_, ?_⟩ ?_
              rotate_left
              -- n2
              all_goals clear hN0 hR0 hE0 hN2 hR2 hE2
              · omega
              · (first | omega | (simp; omega))
              · refine Mk.cons (Mk.app (Mk.app mk2)) (by simp; omega) ?_
                rw [List.append_nil, List.getElem?_append_right (Nat.le_refl _)]; simp
            · refine E_pickF rfl (v := .bool _) rfl (E_nil (AX_condF rfl (AX_skip (AX_E (E_addI rfl rfl (by first | omega | (simp; done) | (simp; omega)) (by first | omega | (simp; done) | (simp; omega)) (E_mv (v := .int .i64 (((i : Int) + 1))) rfl (E_nil ?_)))))))
              refine hN2 (i + 1) _ _ _ ⟨by first | rfl | (congr 1; omega), by first | rfl | (congr 1; omega), by first | rfl | (congr 1; omega), by first | rfl | (congr 1; omega), by first | exact congrArg (Value.int _) (next_skip (fun x => hfree x.1)).symm | exact congrArg (Value.int _) (next_take hfree (.inl c45)).symm | exact congrArg (Value.int _) (next_take hfree (.inr (before_getD _ _ ((order_iff (hgr _ (List.getElem_mem _)) (hgr _ (List.getElem_mem _))).1 c56)))).symm | exact congrArg (Value.int _) (next_skip (fun x => x.2.elim c45 (fun y => c56 ((order_iff (hgr _ (List.getElem_mem _)) (hgr _ (List.getElem_mem _))).2 (before_getD2 _ _ y))))).symm, by first | rfl | (congr 1; omega), by first | rfl | (congr 1; omega), trivial⟩ ⟨⟨(z2 ++ [] ++ [CO.row [.int .i64 c.w, .int .i64 c.b, .slice p1.1 lf.length p1.2, .func (.func 66) #[] #[]] true none, CO.row [.int .i64 (i : Int)] true none] ++ [CO.mark, CO.loop R]), by first | (simp only [List.append_assoc, List.append_nil, List.nil_append, List.cons_append, List.set_cons_zero, List.set_cons_succ]; done) | (simp only [List.append_assoc, List.append_nil, List.nil_append, List.cons_append, List.set_cons_zero, List.set_cons_succ]; rfl)⟩, ?_, ?_⟩ ?_
              rotate_left
              -- n3
              all_goals clear hN0 hR0 hE0 hN2 hR2 hE2
              · omega
              · (first | omega | (simp; omega))
              · refine Mk.cons (Mk.app (Mk.app mk2)) (by simp; omega) ?_
                rw [List.append_nil, List.getElem?_append_right (Nat.le_refl _)]; simp
        · rintro ⟨j, hj, hp⟩ R
          have hfree : ¬ freeTo lf i i := fun x => hp (x j hj)
          refine AX_E (E_addI rfl rfl (by first | omega | (simp; done) | (simp; omega)) (by first | omega | (simp; done) | (simp; omega)) (E_mv (v := .int .i64 (((i : Int) + 1))) rfl (E_nil ?_)))
          refine hN2 (i + 1) _ _ _ ⟨by first | rfl | (congr 1; omega), by first | rfl | (congr 1; omega), by first | rfl | (congr 1; omega), by first | rfl | (congr 1; omega), by first | exact congrArg (Value.int _) (next_skip (fun x => hfree x.1)).symm | exact congrArg (Value.int _) (next_take hfree (.inl c45)).symm | exact congrArg (Value.int _) (next_take hfree (.inr (before_getD _ _ ((order_iff (hgr _ (List.getElem_mem _)) (hgr _ (List.getElem_mem _))).1 c56)))).symm | exact congrArg (Value.int _) (next_skip (fun x => x.2.elim c45 (fun y => c56 ((order_iff (hgr _ (List.getElem_mem _)) (hgr _ (List.getElem_mem _))).2 (before_getD2 _ _ y))))).symm, by first | rfl | (congr 1; omega), by first | rfl | (congr 1; omega), trivial⟩ ⟨⟨(z2 ++ [] ++ [CO.row [.int .i64 c.w, .int .i64 c.b, .slice p1.1 lf.length p1.2, .func (.func 66) #[] #[]] true none, CO.row [.int .i64 (i : Int)] true none] ++ [CO.mark, CO.loop R]), by first | (simp only [List.append_assoc, List.append_nil, List.nil_append, List.cons_append, List.set_cons_zero, List.set_cons_succ]; done) | (simp only [List.append_assoc, List.append_nil, List.nil_append, List.cons_append, List.set_cons_zero, List.set_cons_succ]; rfl)⟩, ?_, ?_⟩ ?_
          rotate_left
          -- n4
          all_goals clear hN0 hR0 hE0 hN2 hR2 hE2
          · omega
          · (first | omega | (simp; omega))
          · refine Mk.cons (Mk.app (Mk.app mk2)) (by simp; omega) ?_
            rw [List.append_nil, List.getElem?_append_right (Nat.le_refl _)]; simp
      · refine E_nil (AX_seq (AX_condF rfl (AX_exit (hE2 _ _ _ _ ?_))))
        have el : i = lf.length := by omega
        have hb1 := nextM_lt lf lf.length
        have hb2 := nextM_pos lf lf.length (by omega)
        obtain ⟨b, hb⟩ : ∃ b : Nat, nextM lf lf.length = (b : Int) := ⟨(nextM lf lf.length).toNat, by omega⟩
        have hbi : nextM lf i = (b : Int) := by rw [el]; exact hb
        have hbl : b < lf.length := by omega
        refine AX_seq (AX_E (E_fa rfl (E_ldB (v := .slice _ _ _) rfl (rowGet_c (j := 2) (rowGet_base fO2) rfl) (E_mv (v := .slice _ _ _) rfl (E_mv (v := .int .i64 (nextM lf i)) rfl (have ix5 : b < (lf).length := (by first | omega | (simp; done) | (simp; omega)); have iy5 : b < pl.length := (by omega); E_iaPb (j := b) rfl hlc2.app rfl e1 rfl (by first | rfl | omega) ix5 iy5 fun b5 o5 w5 => (E_ldBN rfl w5 (E_mkS (cs := [.int .i64 ((lf[b]'ix5).k), .slice ((pl[b]'iy5)).1 ((lf[b]'ix5).ws).length ((pl[b]'iy5)).2, .int .i64 ((lf[b]'ix5).b), .int .i64 ((lf[b]'ix5).f)]) rfl ?_))))))))
        obtain ⟨U3, hK3⟩ : ∃ K : Heap, K = (U2 ++ ([] ++ z2)) ++ [CO.row [.int .i64 ((lf[b]'ix5).k), .slice ((pl[b]'iy5)).1 ((lf[b]'ix5).ws).length ((pl[b]'iy5)).2, .int .i64 ((lf[b]'ix5).b), .int .i64 ((lf[b]'ix5).f)] true none] := ⟨_, rfl⟩
        have lK3 : KH0.length ≤ U3.length := by rw [hK3]; simp; omega
        have nK3 : ∀ x, x < KH0.length → x ≠ nW → U3[x]? = KH0[x]? := fun x hx hn => by rw [hK3, pre_get (by simp; omega), pre_get (by omega), nK2 x hn]
        have g3 : Grown 4 0 U3 p2 ot.length (flat ot po) := hog.same fun a ha => nK3 _ (hog.blk ha) (by have := hpo a ha; omega)
        have hO3 := (nK3 nO (by omega) (by omega)).trans hI0.out
        refine E_hp (h' := U3) hK3.symm (E_appK (k := ot.length) (kx := 1) (p := p2) (new := gcells lf[b] (pl[b]'(by omega))) g3 rfl rfl (by rw [hK3]; show (if 1 * 4 = 0 then some [] else rowGet _ ⟨_, _, none⟩ (1 * 4)) = _; exact rowGet_own (k := 0) rfl) (by decide) (by simp only [roomB]; omega) rfl rfl rfl fun U4 hl4 hg4 hk4 => ?_)
        have hO4 := (hk4 nO (by omega) (fun a ha e => by have := hpo a ha; omega)).trans hO3
        refine E_fa rfl (E_stX (v := .slice _ _ _) rfl rfl rfl rfl ((congrArg (fun h : Heap => h[nO]?) (List.append_nil _)).trans hO4) (by simp) rfl rfl fun U5 hK5' => ?_)
        have hK5 : U5 = U4.set nO (crow c (some ⟨U3.length, 0, none⟩, ot.length + 1) (ot.length + 1)) := by rw [hK5', List.append_nil]; rfl
        have lK5 : U5.length = U4.length := by rw [hK5]; simp
        have nK5 : ∀ x, x < KH0.length → x ≠ nW → x ≠ nO → offP p2 x → U5[x]? = KH0[x]? := fun x h1 h2 h3 h4 => by rw [hK5, List.getElem?_set_ne (Ne.symm h3), hk4 x (by omega) h4, nK3 x h1 h2]
        have hlc5 : Cells allB U5 4 p1 lf.length (flat lf pl) := hlc.congr (fun _ _ => trivial) fun x hx hl => nK5 x hl (by have := hx.1; omega) hx.2.1 hx.2.2
        have hne : lf ≠ [] := fun e => by rw [e] at hbl; simp at hbl
        refine E_nil (AX_E (E_mv (v := .slice _ _ _) rfl ?_))
        obtain ⟨X5, hX5, hX5r⟩ := cloneG_ret (U5 ++ []) p1 lf pl (S := allB) e1 hlc5.app (by omega) hne
        have hX5l : 2 ≤ X5.length := by have := (List.getElem?_eq_some_iff.1 hX5r).1; omega
        refine E_callX (X := X5) rfl (hX5) (E_mv (v := .int .i64 (nextM lf i)) rfl (E_mv (v := .int .i64 (nextM lf i)) rfl (E_addI rfl rfl (by first | omega | (simp; done) | (simp; omega)) (by first | omega | (simp; done) | (simp; omega)) ?_)))
        obtain ⟨cs7, hd7, hc7l, hc7c, hc7t⟩ := delete_ret ((U5 ++ ([] ++ X5)) ++ []) ((U5 ++ []).length + 1) lf.length lf.length b (flat lf pl) (some 4) (by rw [List.append_nil, List.append_nil, List.nil_append, List.getElem?_append_right (by omega), show U5.length + 1 - U5.length = 1 by omega]; exact hX5r) (.inr rfl) hbl (Nat.le_refl _) (by rw [flat_len _ _ e1]; omega) flat_cells
        rw [flat_len _ _ e1] at hc7l
        have hc7t : cs7.take ((lf.length - 1) * 4) = flat (lf.eraseIdx b) (pl.eraseIdx b) := by rw [hc7t, ← flat_erase e1, List.take_of_length_le (l := (flat lf pl).drop ((b + 1) * 4)) (by rw [List.length_drop, flat_len _ _ e1, Nat.sub_mul]; omega)]
        obtain ⟨U7, hK7⟩ : ∃ K : Heap, K = ((U5 ++ ([] ++ X5)) ++ []).set ((U5 ++ []).length + 1) (.row cs7 true (some 4)) := ⟨_, rfl⟩
        rw [← hK7, ← hbi] at hd7
        refine E_callR rfl rfl (hd7) (.inl rfl) (E_nilR (E_mv (v := .slice _ _ _) rfl (E_nil ?_)))
        refine hN0 (lf.eraseIdx b, (some ⟨U5.length + 1, 0, none⟩, lf.length), ot ++ [lf[b]], (some ⟨U3.length, 0, none⟩, ot.length + 1)) _ _ _ ⟨by first | rfl | (congr 1; omega), by first | rfl | (congr 1; omega), by first | rfl | (simp only [List.append_nil, List.length_eraseIdx_of_lt hbl]; done) | (simp only [List.append_nil, List.length_eraseIdx_of_lt hbl]; rfl), by first | rfl | (congr 1; omega), trivial⟩ ⟨?_, ?_⟩ ?_
        -- n5
        all_goals clear hN0 hR0 hE0 hN2 hR2 hE2
        · rw [List.append_nil]
          exact TI.step (m := mk0) (p1 := p1) (by omega) (by omega) hle hI0.keep e1 e2 hwl hwo hpw hpo hbl hK2 (by rw [hK3, List.append_assoc]) (by rw [hK3]; exact mk2.app) g3 hl4 hg4 hk4 hK5 (by rw [hK7]; simp) hX5l (.inr rfl) hc7l hc7t
        · exact ⟨fun g hg => hmem g (List.mem_of_mem_eraseIdx hg), by rw [List.append_assoc, ← htd, tidyL_step hb hbl]; rfl, by rw [List.length_eraseIdx_of_lt hbl]; omega, by have := congrArg List.length htd; simp only [List.length_append, tidyL_len] at this; simp only [List.length_append, List.length_cons, List.length_nil]; omega⟩
        · show (lf.eraseIdx b).length < lf.length
          rw [List.length_eraseIdx_of_lt hbl]; omega
    · refine E_nil (AX_condF rfl (AX_exit (hE0 _ _ _ _ ?_)))
      have hlf : lf = [] := List.length_eq_zero_iff.1 (by omega)
      have eot : tidyM c = ⟨c.w, c.b, ot⟩ := by subst hlf; simpa [tidyL, tidyM] using htd.symm
      refine AX_seq (AX_E (E_ldBN rfl fO (E_stX (v := .agg _) rfl rfl rfl rfl ((congrArg (fun h : Heap => h[H.length + 1]?) (List.append_nil _)).trans hR) (by simp) rfl rfl fun U9 hK9' => ?_)))
      refine E_mv (v := .int .i64 (0)) rfl (E_nil (AX_ret ?_))
      have h9 : U9 = KH0.set (H.length + 1) (crow c p2 ot.length) := by rw [hK9', List.append_nil]; rfl
      have n9 : ∀ x, x ≠ H.length + 1 → (U9 ++ [])[x]? = KH0[x]? := fun x hx => by rw [List.append_nil, h9, List.getElem?_set_ne (Ne.symm hx)]
      have hR9 : (U9 ++ [])[H.length + 1]? = some (crow c p2 ot.length) := by rw [List.append_nil, h9, List.getElem?_set_self (by omega)]
      have hm9 : Mk (nO + 1) (U9 ++ []) mk0 := hI0.mks.mono fun x hx h => by rw [n9 x (by omega)]; exact h
      refine ⟨_, res2 (resOf_at rfl (rowGet_all hR9 rfl)) (res_tmp rfl), hm9.marks, ?_⟩
      have hl9 : H.length ≤ (allGone mk0 (U9 ++ [])).length := by rw [allGone_len, List.append_nil, h9, List.length_set]; omega
      have hp9 : ∀ b, b < H.length → (allGone mk0 (U9 ++ []))[b]? = H[b]? := by
        intro b hb
        rw [allGone_get _ _ fun x hx e => by have := (hm9 x hx).1; omega, n9 b (by omega), hI0.keep b (by omega) (by omega), kH b hb]
      have hz9 : GatesP (fun b => H.length ≤ b) (allGone mk0 (U9 ++ [])) p2 ot := by
        refine ⟨po, e2, ?_, fun i g1 g2 => ?_, fun i j g1 g2 hij => ?_⟩
        · refine (hog.cellsK (S := fun b => nO < b) hpo).rows (fun b hb _ => by omega) fun b cs wr gr hb hr => hm9.row ?_
          rw [n9 b (by omega)]; exact hr
        · refine (hwo i g1 g2).rows (fun b hb _ => ⟨by have := hb.1; omega, fun a ha => by have := hpo a ha; have := hb.2; omega⟩) fun b cs wr gr hb hr => hm9.row ?_
          have := hb.1
          have := hb.2
          rw [n9 b (by omega), hI0.keep b (by omega) (by omega)]; exact hr
        · have := (List.pairwise_append.1 hpw).1
          rw [List.pairwise_iff_getElem] at this
          rcases Nat.lt_or_gt_of_ne hij with h | h
          · exact (this i j g1 g2 h).1
          · exact (this j i g2 g1 h).2
      obtain ⟨X, h1, h2⟩ := leafK (u := .tuple #[cv ⟨c.w, c.b, ot⟩ p2, .int .i64 0]) hl9 hp9 hz9 cvt_flat
      exact ⟨X, h1, p2, by rw [eot]; rfl, by rw [eot]; exact h2⟩
theorem ptidy_bad (H : Heap) (c : C) (p : Pl) {S : Nat → Prop} (hv : Gates S H p c.gs) (hl : c.gs.length < 4294967296) (hc : checkM c ≠ 0) : ∃ X, Ret (tab Tryd.prog) 26 [cv c p] H (.tuple #[cv ⟨0, 0, []⟩ (none, 0), .int .i64 (checkM c)]) (H ++ X) := by
  have key := Ret_grow (T := tab Tryd.prog) (f := 26) (args := [cv c p]) (h := H) (fun u X => u = .tuple #[cv ⟨0, 0, []⟩ (none, 0), .int .i64 (checkM c)]) k17 rfl ?_
  · obtain ⟨u, X, hr, rfl⟩ := key
    exact ⟨X, hr⟩
  refine AX_seq (AX_E (E_boxA rfl (E_new (E_mv (v := .int .i64 (0)) rfl (E_nil (AX_seq (AX_E (E_ldON (k := 0) rfl rfl ?_))))))))
  obtain ⟨XO1, hXO1⟩ := opened_bad (H ++ [CO.row [.int .i64 (c.w), .int .i64 (c.b), .slice (p).1 (c.gs).length (p).2] true none, CO.row [.int .i64 (0), .int .i64 (0), .slice none 0 0] true none]) c p (hv.app) (by omega) hc
  refine E_callX (X := XO1) rfl (hXO1) (E_mv (v := .tuple _) rfl (E_ext (v := .agg _) rfl rfl (E_ext (v := .int .i64 ((checkM c))) rfl rfl (E_new (E_stO (k := 0) rfl rfl (v := .agg _) rfl rfl rfl rfl (E_mv (v := .int .i64 ((checkM c))) rfl (E_nil (AX_seq (AX_seq (AX_E (E_mv (v := .int .i64 ((checkM c))) rfl (E_neqS rfl rfl (fun c16 => ?_) (fun c16 => ?_)))))))))))))
  · refine E_nil (AX_condT rfl (AX_seq (AX_E (E_mk (cs := [.int .i64 (0), .int .i64 (0), .slice none 0 0]) rfl (E_mv (v := .int .i64 ((checkM c))) rfl (E_hp (h' := H ++ ([CO.row [.int .i64 (c.w), .int .i64 (c.b), .slice (p).1 (c.gs).length (p).2] true none, CO.row [.int .i64 (0), .int .i64 (0), .slice none 0 0] true none] ++ (XO1 ++ [CO.row [.int .i64 (0), .int .i64 (0), .slice none 0 0, .nilFunc] true none]))) (by first | (simp only [List.append_assoc, List.append_nil, List.nil_append, List.cons_append, List.set_cons_zero, List.set_cons_succ]; done) | (simp only [List.append_assoc, List.append_nil, List.nil_append, List.cons_append, List.set_cons_zero, List.set_cons_succ]; rfl)) (E_stO (k := 1) rfl rfl (v := .agg _) rfl rfl rfl rfl (E_mv (v := .int .i64 ((checkM c))) rfl (E_nil (AX_ret ?_))))))))))
    obtain ⟨X, hX⟩ := forget_any (h := H) (u := .tuple #[cv ⟨0, 0, []⟩ (none, 0), .int .i64 (checkM c)]) (List.prefix_append H ([CO.row [.int .i64 (c.w), .int .i64 (c.b), .slice (p).1 (c.gs).length (p).2] true none, CO.row [.int .i64 (0), .int .i64 (0), .slice none 0 0] true none] ++ (XO1 ++ [CO.row [.int .i64 (0), .int .i64 (0), .slice none 0 0, .nilFunc] true none])))
    exact ⟨_, res2 (res_cellN (k := 1) rfl rfl) (res_tmp rfl), by simp, X, hX, rfl⟩
  · exact (hc (by simpa using c16)).elim
def tidyR (c : C) : C := if checkM c = 0 then tidyM c else ⟨0, 0, []⟩
theorem ptidy_ret (H : Heap) (c : C) (p : Pl) {S : Nat → Prop} (hv : Gates S H p c.gs) (hl : c.gs.length < 4294967296) : ∃ X p', Ret (tab Tryd.prog) 26 [cv c p] H (.tuple #[cv (tidyR c) p', .int .i64 (checkM c)]) (H ++ X) ∧ GatesZ H.length X p' (tidyR c).gs := by
  by_cases hc : checkM c = 0
  · rw [tidyR, if_pos hc, hc]
    exact ptidy_good H c p hv hl hc
  · rw [tidyR, if_neg hc]
    obtain ⟨X, hX⟩ := ptidy_bad H c p hv hl hc
    exact ⟨X, _, hX, fun A hA => GatesP.nil⟩
end Go.Canon
namespace Go.Canon
open Go Go.Proofs
set_option linter.unusedVariables false
set_option linter.unusedSimpArgs false
def kf18 : KFunc := ⟨2, 30, [.tmp 4, .tmp 5], .seq (.reg [⟨some 2, .box (.t 0), none⟩, ⟨some 3, .box (.t 1), none⟩, ⟨some 4, .mv (.c (.bool false)), none⟩, ⟨some 5, .mv (.c (.int .i64 0)), none⟩] []) (.seq (.seq (.reg [⟨some 11, .ld (.t 2) (some 3), none⟩, ⟨some 12, .ld (.t 3) (some 3), none⟩, ⟨some 13, .call (.c (.func (.func 61) #[] #[])) [.t 11, .t 12], none⟩, ⟨some 6, .mv (.t 13), none⟩] []) (.seq (.reg [⟨some 14, .mv (.t 6), none⟩, ⟨some 15, .bin .neq (.t 14) (.c (.int .i64 0)), none⟩] []) (.cond (.t 15) (.seq (.reg [⟨some 16, .mv (.t 6), none⟩, ⟨some 4, .mv (.c (.bool false)), none⟩, ⟨some 5, .mv (.t 16), none⟩] []) .ret) .skip))) (.seq (.reg [⟨some 18, .ld (.t 2) (some 3), none⟩, ⟨some 19, .call (.c (.func (.func 26) #[] #[])) [.t 18], none⟩, ⟨some 17, .mv (.t 19), none⟩, ⟨some 20, .ext (.t 17) 0, none⟩, ⟨some 21, .ext (.t 17) 1, none⟩, ⟨some 7, .new [.int .i64 0, .int .i64 0, .slice none 0 0], none⟩, ⟨none, .st (.t 7) (.t 20) 3, none⟩, ⟨some 8, .mv (.t 21), none⟩] []) (.seq (.reg [⟨some 23, .ld (.t 3) (some 3), none⟩, ⟨some 24, .call (.c (.func (.func 26) #[] #[])) [.t 23], none⟩, ⟨some 22, .mv (.t 24), none⟩, ⟨some 25, .ext (.t 22) 0, none⟩, ⟨some 26, .ext (.t 22) 1, none⟩, ⟨some 9, .new [.int .i64 0, .int .i64 0, .slice none 0 0], none⟩, ⟨none, .st (.t 9) (.t 25) 3, none⟩, ⟨some 10, .mv (.t 26), none⟩] []) (.seq (.reg [⟨some 27, .ld (.t 7) (some 3), none⟩, ⟨some 28, .ld (.t 9) (some 3), none⟩, ⟨some 29, .call (.c (.func (.func 71) #[] #[])) [.t 27, .t 28], none⟩, ⟨some 4, .mv (.t 29), none⟩, ⟨some 5, .mv (.c (.int .i64 0)), none⟩] []) .ret))))⟩
theorem k18 : tab Tryd.prog 29 = some kf18 := by kernel_rfl
theorem tidyR_lens {c : C} : lens (tidyR c).gs := by
  unfold tidyR
  split
  · rename_i h
    have hr := CR.of h
    have := hr.n0
    refine ⟨by simp only [tidyM, tidyL_len]; omega, fun g hg => ?_⟩
    have := (hr.gr (tidyL_mem _ _ rfl g hg)).len
    omega
  · exact ⟨by simp, fun g hg => by simp at hg⟩
def equalE (c d : C) : Int := if checkM c ≠ 0 then checkM c else checkM d
theorem equalE_0 {c d : C} (h : equalE c d = 0) : tidyR c = tidyM c ∧ tidyR d = tidyM d := by
  unfold equalE at h
  split at h
  · omega
  · rename_i h1
    exact ⟨if_pos (by omega), if_pos h⟩
theorem pequal_ret (H : Heap) (c d : C) (p q : Pl) (hv : Gates allB H p c.gs) (hu : Gates allB H q d.gs) (hl : c.gs.length < 4294967296) (hl2 : d.gs.length < 4294967296) : Ret (tab Tryd.prog) 29 [cv c p, cv d q] H (.tuple #[.bool (if equalE c d = 0 then decide (tidyM c = tidyM d) else false), .int .i64 (equalE c d)]) H := by
  refine Ret_own k18 rfl ?_
  refine AX_seq (AX_E (E_boxA rfl (E_boxA rfl (E_mv (v := .bool _) rfl (E_mv (v := .int .i64 (0)) rfl (E_nil (AX_seq (AX_seq (AX_E (E_ldON (k := 0) rfl rfl (E_ldON (k := 1) rfl rfl (E_callV rfl (checked_ret _ c d _ _ hv.app hu.app (by omega) (by omega)) (E_mv (v := .int .i64 (equalE c d)) rfl (E_nil (AX_seq (AX_E (E_mv (v := .int .i64 (equalE c d)) rfl (E_neqS rfl rfl (fun c15 => ?_) (fun c15 => ?_)))))))))))))))))))
  · refine E_nil (AX_condT rfl (AX_seq (AX_E (E_mv (v := .int .i64 (equalE c d)) rfl (E_mv (v := .bool _) rfl (E_mv (v := .int .i64 (equalE c d)) rfl (E_nil (AX_ret ?_))))))))
    refine ⟨_, rfl, by simp, ?_, forget_flat rfl (List.prefix_append _ _)⟩
    -- r1
    show Value.tuple #[.bool false, .int .i64 (equalE c d)] = _
    first | (rw [if_neg c15]; done) | (rw [if_neg c15]; rfl) | (obtain ⟨g1, g2⟩ := equalE_0 c15; rw [g1, g2] at c29; rw [if_pos c15, c15]; first | rw [decide_eq_true c29] | rw [decide_eq_false c29])
  · refine E_nil (AX_condF rfl (AX_skip (AX_seq (AX_E (E_ldON (k := 0) rfl rfl ?_)))))
    obtain ⟨X1, q1, hr1, f1⟩ := ptidy_ret (H ++ [CO.row [.int .i64 (c.w), .int .i64 (c.b), .slice (p).1 (c.gs).length (p).2] true none, CO.row [.int .i64 (d.w), .int .i64 (d.b), .slice (q).1 (d.gs).length (q).2] true none]) c _ hv.app (by omega)
    refine E_callX (X := X1) rfl (hr1) (E_mv (v := .tuple _) rfl (E_ext (v := .agg _) rfl rfl (E_ext (v := .int .i64 ((checkM c))) rfl rfl (E_new (E_stO (k := 0) rfl rfl (v := .agg _) rfl rfl rfl rfl (E_mv (v := .int .i64 ((checkM c))) rfl (E_nil (AX_seq (AX_E (E_ldBN (cs := [.int .i64 (d.w), .int .i64 (d.b), .slice (q).1 (d.gs).length (q).2]) rfl (rowGet_own (k := 1) rfl) ?_))))))))))
    obtain ⟨X2, q2, hr2, f2⟩ := ptidy_ret ((H ++ ([CO.row [.int .i64 (c.w), .int .i64 (c.b), .slice (p).1 (c.gs).length (p).2] true none, CO.row [.int .i64 (d.w), .int .i64 (d.b), .slice (q).1 (d.gs).length (q).2] true none] ++ X1)) ++ [CO.row [.int .i64 ((tidyR c).w), .int .i64 ((tidyR c).b), .slice (q1).1 ((tidyR c).gs).length (q1).2] true none]) d _ hu.app.app (by omega)
    refine E_callX (X := X2) rfl (hr2) (E_mv (v := .tuple _) rfl (E_ext (v := .agg _) rfl rfl (E_ext (v := .int .i64 ((checkM d))) rfl rfl (E_new (E_stO (k := 0) rfl rfl (v := .agg _) rfl rfl rfl rfl (E_mv (v := .int .i64 ((checkM d))) rfl (E_nil (AX_seq (AX_E (E_ldBN (cs := [.int .i64 ((tidyR c).w), .int .i64 ((tidyR c).b), .slice (q1).1 ((tidyR c).gs).length (q1).2]) rfl (rowGet_own (k := 0) rfl) (E_ldON (k := 0) rfl rfl (E_callP rfl (csame_ret _ (tidyR c) (tidyR d) _ _ (f1.at rfl).app.app (f2.at rfl).app tidyR_lens) (fun c29 => ?_) (fun c29 => ?_)))))))))))))
    · refine E_mv (v := .bool _) rfl (E_mv (v := .int .i64 (0)) rfl (E_nil (AX_ret ?_)))
      refine ⟨_, rfl, by simp, ?_, forget_flat rfl ((List.prefix_append _ _).trans ((List.prefix_append _ _).trans (List.prefix_append _ _)))⟩
      -- r2
      show Value.tuple #[.bool true, .int .i64 (0)] = _
      first | (rw [if_neg c15]; done) | (rw [if_neg c15]; rfl) | (obtain ⟨g1, g2⟩ := equalE_0 c15; rw [g1, g2] at c29; rw [if_pos c15, c15]; first | rw [decide_eq_true c29] | rw [decide_eq_false c29])
    · refine E_mv (v := .bool _) rfl (E_mv (v := .int .i64 (0)) rfl (E_nil (AX_ret ?_)))
      refine ⟨_, rfl, by simp, ?_, forget_flat rfl ((List.prefix_append _ _).trans ((List.prefix_append _ _).trans (List.prefix_append _ _)))⟩
      -- r3
      show Value.tuple #[.bool false, .int .i64 (0)] = _
      first | (rw [if_neg c15]; done) | (rw [if_neg c15]; rfl) | (obtain ⟨g1, g2⟩ := equalE_0 c15; rw [g1, g2] at c29; rw [if_pos c15, c15]; first | rw [decide_eq_true c29] | rw [decide_eq_false c29])
end Go.Canon
namespace Go.Canon
open Go Go.Proofs
set_option linter.unusedVariables false
set_option linter.unusedSimpArgs false
def kf74 : KFunc := ⟨1, 4, [.tmp 2], .seq (.reg [⟨some 1, .box (.t 0), none⟩, ⟨some 2, .mv (.c .nilFunc), none⟩] []) (.seq (.reg [⟨some 3, .fn 86 [] [.t 1], none⟩, ⟨some 2, .mv (.t 3), none⟩] []) .ret)⟩
theorem k74 : tab Tryd.prog 63 = some kf74 := by kernel_rfl
def kf100 : KFunc := ⟨2, 19, [], .seq (.reg [⟨some 4, .ld (.t 1) none, none⟩, ⟨some 5, .len (.t 4), none⟩, ⟨some 6, .bin .sub (.t 5) (.c (.int .i64 1)), none⟩, ⟨some 3, .mv (.t 6), none⟩] []) (.block 0 (.loop (.seq (.seq (.reg [⟨some 7, .mv (.t 3), none⟩, ⟨some 8, .bin .geq (.t 7) (.c (.int .i64 0)), none⟩] []) (.cond (.t 8) .skip (.exit 0))) (.seq (.block 1 (.seq (.reg [⟨some 11, .mv (.t 0), none⟩, ⟨some 12, .mv (.t 3), none⟩, ⟨some 13, .ld (.t 1) none, none⟩, ⟨some 14, .mv (.t 3), none⟩, ⟨some 15, .iaS (.t 13) (.t 14) 4, none⟩, ⟨some 16, .ld (.t 15) (some 4), none⟩, ⟨some 17, .call (.t 11) [.t 12, .t 16], none⟩, ⟨some 18, .not (.t 17), none⟩] []) (.cond (.t 18) .ret .skip))) (.reg [⟨some 9, .mv (.t 3), none⟩, ⟨some 10, .bin .sub (.t 9) (.c (.int .i64 1)), none⟩, ⟨some 3, .mv (.t 10), none⟩] [])))))⟩
theorem k100 : tab Tryd.prog 86 = some kf100 := by kernel_rfl
theorem backward_ret (H : Heap) (p : Pl) (n : Nat) : Ret (tab Tryd.prog) 63 [.slice p.1 n p.2] H (.func (.func 86) #[] #[.pointer (some ⟨H.length + 0, 0, none⟩)]) (H ++ [.row [.slice p.1 n p.2] true none]) := by
  refine Ret_own k74 rfl ?_
  refine AX_seq (AX_E (E_boxV (v := .slice _ _ _) rfl rfl (E_mv (v := .nilFunc) rfl (E_nil (AX_seq (AX_E (E_fn (u := []) (v := [.pointer (some ⟨(H).length + 0, 0, none⟩)]) rfl rfl (E_mv (v := .func _ _ _) rfl (E_nil (AX_ret ?_))))))))))
  exact ⟨_, rfl, by simp, rfl, forget_more rfl⟩
theorem back1_call (l : Nat) (I : Nat → Heap → Prop) (Stop : Heap → Prop) (bs os : Nat) (gs : List G) (p : Pl)
    (hI : ∀ k K, I k K → rowGet K ⟨bs, os, none⟩ 1 = some [.slice p.1 gs.length p.2] ∧ Gates allB K p gs) (hl : gs.length < 4294967296)
    (hyield : ∀ k K (hk : k < gs.length), I (k + 1) K → ∀ q, Ints allB K q gs[k].ws → ARound (tab Tryd.prog) l [.int .i64 (k : Int), gv gs[k] q] K (fun v K' => (v = .bool true ∧ I k K') ∨ (v = .bool false ∧ Stop K')))
    (H : Heap) (h0 : I gs.length H) : ACall (tab Tryd.prog) 86 [.func (.yield l) #[] #[], .pointer (some ⟨bs, os, none⟩)] H (fun _ K' => ∃ Kf, (I 0 Kf ∨ Stop Kf) ∧ K' = forget H (.tuple #[]) Kf) := by
  refine ACall_ownR k100 rfl ?_
  obtain ⟨e1, e2⟩ := hI _ H h0
  refine AX_seq (AX_E (E_ldB (v := .slice _ _ _) rfl e1 (E_len (n := (gs).length) rfl (E_subI rfl rfl (by first | omega | (simp; done) | (simp; omega)) (by first | omega | (simp; done) | (simp; omega)) (E_mv (v := .int .i64 (((gs).length - 1))) rfl (E_nil (AX_block ?_)))))))
  refine AX_loopF (γ := Nat) (fun k => [(0, .func (.yield l) #[] #[]), (1, .pointer (some ⟨bs, os, none⟩)), (3, .int .i64 (((k : Int) - 1)))]) (fun k h_ m_ => (I k h_) ∧ m_ = [] ∧ k ≤ gs.length) (fun k => k) (gs.length) ⟨rfl, rfl, rfl, trivial⟩ ⟨(by simpa using h0), rfl, ?_⟩ ?_
  · exact Nat.le_refl _
  rintro k fr0 KH0 m0 ⟨hI0, rfl, inv0⟩ K0 hN0 hR0 hE0
  obtain ⟨a1, a2⟩ := hI k KH0 hI0
  refine AX_nil ?_
  refine AX_seq (AX_seq (AX_E (E_mv (v := .int .i64 (((k : Int) - 1))) rfl (E_geqS rfl rfl (fun c8 => ?_) (fun c8 => ?_)))))
  · refine E_nil (AX_condT rfl (AX_skip (AX_seq (AX_block (AX_seq (AX_E (E_mv (v := .func _ _ _) rfl (E_mv (v := .int .i64 (((k : Int) - 1))) rfl (E_ldB (v := .slice _ _ _) rfl a1 (E_mv (v := .int .i64 (((k : Int) - 1))) rfl (have ix1 : k - 1 < (gs).length := (by first | omega | (simp; done) | (simp; omega)); E_iaGb (j := k - 1) rfl a2 rfl rfl (by first | rfl | omega) ix1 fun b1 o1 q1 f1 w1 => (E_ldBN rfl w1 ?_))))))))))))
    have hy := hyield (k - 1) KH0 (by omega) (by rw [show k - 1 + 1 = k by omega]; exact hI0) _ f1.all
    rw [← List.append_nil KH0, show ((k - 1 : Nat) : Int) = (k : Int) - 1 by omega] at hy
    refine E_yield rfl rfl ((hy).mono ?_)
    rintro _ KY2 (⟨rfl, hY2⟩ | ⟨rfl, hY2⟩)
    · refine E_nilR (E_notV rfl rfl (E_nil (AX_condF rfl (AX_skip (AX_E (E_mv (v := .int .i64 (((k : Int) - 1))) rfl (E_subI rfl rfl (by first | omega | (simp; done) | (simp; omega)) (by first | omega | (simp; done) | (simp; omega)) (E_mv (v := .int .i64 ((((k : Int) - 1) - 1))) rfl (E_nil ?_)))))))))
      refine hN0 (k - 1) _ _ _ ⟨by first | rfl | (congr 1; omega), by first | rfl | (congr 1; omega), by refine congrArg (Value.int _) ?_; omega, trivial⟩ ⟨?_, rfl, ?_⟩ ?_
      all_goals clear hN0 hR0 hE0
      · simpa using hY2
      · omega
      · omega
    · refine E_nilR (E_notV rfl rfl (E_nil (AX_condT rfl (AX_ret (hR0 _ _ _ ?_)))))
      refine ⟨.tuple #[], rfl, by simp, _, ?_, rfl⟩
      exact .inr (by simpa using hY2)
  · refine E_nil (AX_condF rfl (AX_exit (hE0 _ _ _ _ ?_)))
    have ek : k = 0 := by omega
    subst ek
    refine ⟨.tuple #[], rfl, by simp, _, ?_, rfl⟩
    exact .inl (by simpa using hI0)
/-- A list that has its row for itself, maybe with room behind it. -/
def OwnL (K : Heap) (p : Pl) (k : Nat) (cells : List Value) : Prop :=
  cells.length = k * 4 ∧ ((p = (none, 0) ∧ k = 0) ∨ ∃ b cs gr, p.1 = some ⟨b, 0, none⟩ ∧ K[b]? = some (.row cs true gr) ∧ (gr = none ∨ gr = some 4) ∧ k ≤ p.2 ∧ cs.length = p.2 * 4 ∧ cs.take (k * 4) = cells ∧ ∀ v ∈ cs, isCell v = true)
theorem OwnL.nil {K : Heap} : OwnL K (none, 0) 0 [] := ⟨rfl, .inl ⟨rfl, rfl⟩⟩
theorem OwnL.same {k : Nat} {h h' : Heap} {p : Pl} {cells : List Value} (H : OwnL h p k cells) (hh : ∀ a, p.1 = some a → h'[a.block]? = h[a.block]?) : OwnL h' p k cells := by
  obtain ⟨a, b | ⟨j, cs, gr, e, c, d⟩⟩ := H
  · exact ⟨a, .inl b⟩
  · exact ⟨a, .inr ⟨j, cs, gr, e, by rw [← c]; exact hh _ e, d⟩⟩
theorem OwnL.blk {k : Nat} {h : Heap} {p : Pl} {cells : List Value} {a : Addr} (H : OwnL h p k cells) (ha : p.1 = some a) : a.block < h.length := by
  obtain ⟨_, ⟨b, c⟩ | ⟨j, cs, gr, e, c, d⟩⟩ := H
  · rw [b] at ha; cases ha
  · rw [e] at ha
    injection ha with ha
    subst ha
    exact (List.getElem?_eq_some_iff.1 c).1
theorem OwnL.cells {k : Nat} {h : Heap} {p : Pl} {cells : List Value} {S : Nat → Prop} (H : OwnL h p k cells) (hS : ∀ a, p.1 = some a → S a.block) : Cells S h 4 p k cells := by
  obtain ⟨a, ⟨b, c⟩ | ⟨j, cs, gr, e, c, d, l1, l2, l3, _⟩⟩ := H
  · subst b c
    exact ⟨a, Nat.le_refl _, .inl ⟨rfl, rfl⟩⟩
  · exact ⟨a, l1, .inr ⟨j, 0, cs, true, gr, e, hS _ e, c, d, .inr ⟨by omega, by rw [List.drop_zero]; exact l3⟩⟩⟩
section
open Classical
variable {B : Nat → Prop} {T : Nat → Option KFunc} {fi : FI} {prs : List (Nat × Nat)} {i : Nat} {d : Option Nat} {r : List KOper} {fr : Nat → Value} {h : Heap} {m : List Nat} {K : (Nat → Value) → Heap → List Nat → Prop}
theorem E_appO {s x : KO} {bytes k cx : Nat} {ax : Option Addr} {p : Pl} {cells new : List Value} (ho : OwnL h p k cells) (hs : s.ev fr = .slice p.1 k p.2) (hx : x.ev fr = .slice ax 1 cx) (hnew : firstC h 4 1 (.slice ax 1 cx) = some new) (hroom : (k + 1) * bytes ≤ roomB) (hcell : new.all isCell = true) (hlen : new.length = 4) (hpr : prs.any (fun p => p.1 = i ∨ p.2 = i) = false)
    (H : ∀ h' p', h.length ≤ h'.length → OwnL h' p' (k + 1) (cells ++ new) → (∀ i, i < h.length → offP p i → h'[i]? = h[i]?) → (∀ a, p'.1 = some a → p.1 = some a ∨ a.block = h.length) → AE B T fi prs (i + 1) r (put fr d (.slice p'.1 (k + 1) p'.2)) (h' ++ []) m K) : AE B T fi prs i (⟨d, .app s x 4 bytes, none⟩ :: r) fr h m K := by
  have hnc : ∀ v ∈ new, isCell v = true := List.all_eq_true.1 hcell
  have grow : (Grown 4 0 h p k cells) → (∀ v ∈ cells, isCell v = true) → AE B T fi prs i (⟨d, .app s x 4 bytes, none⟩ :: r) fr h m K := fun hg hcc =>
    E_appK (kx := 1) hg hs hx hnew (by decide) hroom hcell (by omega) hpr fun h' l1 g1 k1 => by
      refine H h' (some ⟨h.length, 0, none⟩, k + 1) (by omega) ?_ k1 (fun a ha => .inr (by simp only [Option.some.injEq] at ha; subst ha; rfl))
      obtain ⟨a1, ⟨b1, b2⟩ | ⟨j, gr, e1, e2, e3⟩⟩ := g1
      · cases b1
      · refine ⟨a1, .inr ⟨h.length, cells ++ new, gr, rfl, ?_, e3, Nat.le_refl _, by simp only; omega, List.take_of_length_le (by omega), fun v hv => ?_⟩⟩
        · injection e1 with e1
          injection e1 with e1
          injection e1 with e1
          rw [Nat.zero_add] at e1
          rw [e1]; exact e2
        · rcases List.mem_append.1 hv with hv | hv
          · exact hcc v hv
          · exact hnc v hv
  obtain ⟨a, ⟨rfl, rfl⟩ | ⟨b, cs, gr, e, hrow, hg, l1, l2, l3, l4⟩⟩ := id ho
  · have : cells = [] := List.length_eq_zero_iff.1 (by omega)
    subst this
    exact grow Grown.nil (by simp)
  · by_cases hk : k = p.2
    · have hcs : cs = cells := by rw [← l3]; exact (List.take_of_length_le (by omega)).symm
      subst hcs
      exact grow ⟨a, .inr ⟨b, gr, by rw [Nat.zero_add]; exact Prod.ext e hk.symm, hrow, hg⟩⟩ l4
    · have hb := (List.getElem?_eq_some_iff.1 hrow).1
      rw [e] at hs
      refine E_appIn (kx := 1) hs hx hnew hrow (by omega) (by omega) (by omega) hcell hpr ?_
      have := H (h.set b (.row (cs.take (k * 4) ++ new ++ cs.drop (k * 4 + new.length)) true gr)) p (by simp) ?_ ?_ (fun a ha => .inl ha)
      · rw [e, List.append_nil] at this; exact this
      · refine ⟨by simp only [List.length_append]; omega, .inr ⟨b, _, gr, e, List.getElem?_set_self hb, hg, by omega, by simp only [List.length_append, List.length_take, List.length_drop]; omega, ?_, fun v hv => ?_⟩⟩
        · rw [l3, List.take_append_of_le_length (by simp only [List.length_append]; omega)]
          exact List.take_of_length_le (by simp only [List.length_append]; omega)
        · rcases List.mem_append.1 hv with hv | hv
          · rcases List.mem_append.1 hv with hv | hv
            · exact l4 v (List.mem_of_mem_take hv)
            · exact hnc v hv
          · exact l4 v (List.mem_of_mem_drop hv)
      · intro x hx ho
        rw [List.getElem?_set_ne (fun e2 => ho _ e e2)]
end
/-- A range over a list from its end, whose body may write one number (v) and leave. -/
theorem rb_rule {fi : FI} {fr : Nat → Value} {m : List Nat} {Q : Ex → (Nat → Value) → Heap → List Nat → Prop} {f : KO} {ps : List Nat} {asg body : KC} {gs : List G} {p : Pl} {bs N id : Nat} (hh : Int → Heap) (v0 : Int) (Inv : Nat → Prop) (Out : Int → Prop) (hN : ∀ v, (hh v).length = N)
    (hf : f.ev fr = .func (.func 86) #[] #[.pointer (some ⟨bs, 0, none⟩)]) (hps : ps.length = 2) (hrd : fi.rd = none) (hl : gs.length < 4294967296)
    (h1 : rowGet (hh v0) ⟨bs, 0, none⟩ 1 = some [.slice p.1 gs.length p.2]) (h3 : Gates allB (hh v0) p gs) (i0 : Inv gs.length) (hend : Inv 0 → Out v0)
    (hround : ∀ (R : CLoop) (Z : Heap) (k : Nat) (hk : k < gs.length), Inv (k + 1) → ∀ q, Ints allB (hh v0 ++ ([.mark, .loop { R with st := .ready }] ++ Z)) q gs[k].ws →
      AX (tab Tryd.prog) { fi with rd := some (N + 1) } asg (putAll fr ps [.int .i64 (k : Int), gv gs[k] q]) (hh v0 ++ ([.mark, .loop { R with st := .ready }] ++ Z)) [] fun e fr1 k1 m1 => e = .normal ∧ m1 = [] ∧ ∃ Z1, k1 = hh v0 ++ ([.mark, .loop { R with st := .ready }] ++ Z1) ∧
        AX (tab Tryd.prog) { fi with rd := some (N + 1) } body fr1 (hh v0 ++ ([.mark, .loop { R with st := .busy }] ++ Z1)) [] fun e fr2 k2 m2 => m2 = [] ∧ ∃ Z2 v, k2 = hh v ++ ([.mark, .loop { R with st := .busy }] ++ Z2) ∧ ((e = .normal ∧ v = v0 ∧ Inv k) ∨ (e = .exit id ∧ Out v)))
    (hX : ∀ h' m', Q (.exit id) fr h' m' = Q .normal fr h' m') (hQ : ∀ v R Z, Out v → Q .normal fr (hh v ++ ([.mark, .loop R] ++ Z)) (N :: m)) : AX (tab Tryd.prog) fi (.rf f ps asg body) fr (hh v0) m Q := by
  refine AX_rf hf hrd ?_
  have hl0 := hN v0
  rw [hl0]
  generalize hR : rec0 fi fr ps asg body N = R
  have hR1 : R.st = .ready := by rw [← hR]; rfl
  have hR2 : R.pending = none := by rw [← hR]; rfl
  have hR3 : R.fi = { fi with rd := some (N + 1) } := by rw [← hR]; rfl
  have hR4 : R.params = ps := by rw [← hR]; rfl
  have hR5 : R.assign = asg := by rw [← hR]; rfl
  have hR6 : R.body = body := by rw [← hR]; rfl
  have hR7 : R.fr = fr := by rw [← hR]; rfl
  clear hR
  obtain ⟨st, pd, fi', fr', ps', a', b', bk⟩ := R
  simp only at hR1 hR2 hR3 hR4 hR5 hR6 hR7
  subst hR1 hR2 hR3 hR4 hR5 hR6 hR7
  have hget : ∀ v r Z, (hh v ++ ([CO.mark, .loop r] ++ Z))[N + 1]? = some (.loop r) := fun v r Z => by rw [List.getElem?_append_right (by have := hN v; omega), show N + 1 - (hh v).length = 1 by have := hN v; omega]; rfl
  have hset : ∀ v r r' Z, (hh v ++ ([CO.mark, .loop r] ++ Z)).set (N + 1) (.loop r') = hh v ++ ([.mark, .loop r'] ++ Z) := fun v r r' Z => by rw [List.set_append_right _ _ (by have := hN v; omega), show N + 1 - (hh v).length = 1 by have := hN v; omega]; rfl
  have key := back1_call (N + 1) (fun k K => ∃ Z, K = hh v0 ++ ([.mark, .loop ⟨.ready, none, { fi with rd := some (N + 1) }, fr', ps', a', b', bk⟩] ++ Z) ∧ Inv k) (fun K => ∃ v Z, K = hh v ++ ([.mark, .loop ⟨.done, some (.exit id), { fi with rd := some (N + 1) }, fr', ps', a', b', bk⟩] ++ Z) ∧ Out v) bs 0 gs p ?_ hl ?_ (hh v0 ++ [.mark, .loop ⟨.ready, none, { fi with rd := some (N + 1) }, fr', ps', a', b', bk⟩]) ⟨[], by rw [List.append_nil], i0⟩
  · refine ACall.mono key ?_
    rintro _ K' ⟨Kf, hK | hK, rfl⟩
    · obtain ⟨Z, rfl, hi⟩ := hK
      rw [forget_flat rfl ⟨Z, by rw [List.append_assoc]⟩]
      have g1 := hget v0 ⟨.ready, none, { fi with rd := some (N + 1) }, fr', ps', a', b', bk⟩ []
      have g2 := hset v0 ⟨.ready, none, { fi with rd := some (N + 1) }, fr', ps', a', b', bk⟩ ⟨.exhausted, none, { fi with rd := some (N + 1) }, fr', ps', a', b', bk⟩ []
      rw [List.append_nil] at g1 g2
      refine ⟨_, g1, by simp, ?_⟩
      rw [g2]
      have := hQ v0 ⟨.exhausted, none, { fi with rd := some (N + 1) }, fr', ps', a', b', bk⟩ [] (hend hi)
      rwa [List.append_nil] at this
    · obtain ⟨v, Z, rfl, hi⟩ := hK
      have hne : ¬ (hh v0 ++ [CO.mark, .loop ⟨.ready, none, { fi with rd := some (N + 1) }, fr', ps', a', b', bk⟩] <+: hh v ++ ([CO.mark, .loop ⟨.done, some (.exit id), { fi with rd := some (N + 1) }, fr', ps', a', b', bk⟩] ++ Z)) := by
        rintro ⟨t, ht⟩
        have := congrArg (fun l : Heap => l[N + 1]?) ht
        rw [List.append_assoc, hget, hget] at this
        injection this with this
        injection this with this
        have := congrArg CLoop.st this
        cases this
      unfold forget
      rw [if_neg (fun x => hne x.2)]
      refine ⟨_, hget v _ Z, by simp, ?_⟩
      rw [hset]
      simp only
      rw [hX]
      exact hQ v _ Z hi
  · rintro k K ⟨Z, rfl, _⟩
    exact ⟨rowGet_base h1, h3.app⟩
  · rintro k K hk ⟨Z, rfl, hi⟩ q hq
    refine ARound_of (hget v0 _ Z) (by simp [hps]) rfl rfl ?_
    refine (hround ⟨.ready, none, { fi with rd := some (N + 1) }, fr', ps', a', b', bk⟩ Z k hk hi q hq).mono ?_
    rintro e fr1 k1 m1 ⟨rfl, rfl, Z1, rfl, hb⟩
    refine ⟨rfl, rfl, _, hget v0 _ Z1, rfl, ?_⟩
    rw [hset]
    refine hb.mono ?_
    rintro e fr2 k2 m2 ⟨rfl, Z2, v, rfl, ⟨rfl, rfl, hi2⟩ | ⟨rfl, ho⟩⟩
    · refine ⟨rfl, _, hget v _ Z2, ?_⟩
      simp only
      rw [hset]
      exact .inl ⟨by first | rfl | trivial, _, rfl, hi2⟩
    · refine ⟨rfl, _, hget v _ Z2, ?_⟩
      simp only
      rw [hset]
      exact .inr ⟨by first | rfl | trivial, v, Z2, rfl, ho⟩
end Go.Canon
namespace Go.Canon
open Go Go.Proofs
set_option linter.unusedVariables false
set_option linter.unusedSimpArgs false
def kf19 : KFunc := ⟨1, 63, [.cell 2 (some 3), .tmp 3], .seq (.reg [⟨some 1, .box (.t 0), none⟩, ⟨some 2, .new [.int .i64 0, .int .i64 0, .slice none 0 0], none⟩, ⟨some 3, .mv (.c (.int .i64 0)), none⟩] []) (.seq (.seq (.reg [⟨some 11, .ld (.t 1) (some 3), none⟩, ⟨some 12, .call (.c (.func (.func 62) #[] #[])) [.t 11], none⟩, ⟨some 4, .mv (.t 12), none⟩] []) (.seq (.reg [⟨some 13, .mv (.t 4), none⟩, ⟨some 14, .bin .neq (.t 13) (.c (.int .i64 0)), none⟩] []) (.cond (.t 14) (.seq (.reg [⟨some 15, .mk [.int .i64 0, .int .i64 0, .slice none 0 0] [], none⟩, ⟨some 16, .mv (.t 4), none⟩, ⟨none, .st (.t 2) (.t 15) 3, none⟩, ⟨some 3, .mv (.t 16), none⟩] []) .ret) .skip))) (.seq (.reg [⟨some 17, .fa (.t 1) 0, none⟩, ⟨some 18, .ld (.t 17) none, none⟩, ⟨some 19, .fa (.t 1) 1, none⟩, ⟨some 20, .ld (.t 19) none, none⟩, ⟨some 21, .mk [.int .i64 0, .int .i64 0, .slice none 0 0] [(0, 1, .t 18), (1, 1, .t 20)], none⟩, ⟨some 5, .new [.int .i64 0, .int .i64 0, .slice none 0 0], none⟩, ⟨none, .st (.t 5) (.t 21) 3, none⟩] []) (.seq (.seq (.reg [⟨some 22, .fa (.t 1) 2, none⟩, ⟨some 23, .ld (.t 22) none, none⟩, ⟨some 24, .mkS [.slice none 0 0] 1 [(0, 1, .t 23)], none⟩, ⟨some 25, .call (.c (.func (.func 58) #[] #[])) [.t 24], none⟩, ⟨some 26, .len (.t 25), none⟩, ⟨some 27, .mv (.c (.int .i64 0)), none⟩] []) (.block 0 (.loop (.seq (.reg [⟨some 28, .bin .lss (.t 27) (.t 26), none⟩] []) (.seq (.cond (.t 28) .skip (.exit 0)) (.seq (.block 1 (.seq (.reg [⟨some 29, .iaS (.t 25) (.t 27) 4, none⟩, ⟨some 30, .ld (.t 29) (some 4), none⟩, ⟨some 7, .new [.int .i64 0, .slice none 0 0, .int .i64 0, .int .i64 0], none⟩, ⟨none, .st (.t 7) (.t 30) 4, none⟩] []) (.seq .skip (.seq (.reg [⟨some 8, .new [.int .i64 0], none⟩, ⟨none, .st (.t 8) (.c (.int .i64 (-1))) 1, none⟩] []) (.seq .skip (.seq (.seq (.reg [⟨some 31, .fa (.t 5) 2, none⟩, ⟨some 32, .ld (.t 31) none, none⟩, ⟨some 33, .call (.c (.func (.func 63) #[] #[])) [.t 32], none⟩] []) (.block 2 (.rf (.t 33) [34, 35] (.seq (.reg [⟨some 9, .mv (.t 34), none⟩] []) (.reg [⟨some 10, .new [.int .i64 0, .slice none 0 0, .int .i64 0, .int .i64 0], none⟩, ⟨none, .st (.t 10) (.t 35) 4, none⟩] [])) (.block 3 (.block 4 (.seq (.reg [⟨some 37, .ld (.t 7) (some 4), none⟩, ⟨some 38, .ld (.t 10) (some 4), none⟩, ⟨some 39, .call (.c (.func (.func 64) #[] #[])) [.t 37, .t 38], none⟩, ⟨some 36, .mv (.t 39), none⟩] []) (.cond (.t 36) (.seq (.reg [⟨some 40, .mv (.t 9), none⟩, ⟨none, .st (.t 8) (.t 40) 1, none⟩] []) (.exit 2)) (.seq (.reg [⟨some 42, .ld (.t 7) (some 4), none⟩, ⟨some 43, .ld (.t 10) (some 4), none⟩, ⟨some 44, .call (.c (.func (.func 65) #[] #[])) [.t 42, .t 43], none⟩, ⟨some 45, .not (.t 44), none⟩, ⟨some 41, .mv (.t 45), none⟩] []) (.cond (.t 41) (.exit 2) .skip))))))))) (.seq (.reg [⟨some 46, .ld (.t 8) none, none⟩, ⟨some 47, .bin .lss (.t 46) (.c (.int .i64 0)), none⟩] []) (.cond (.t 47) (.reg [⟨some 48, .fa (.t 5) 2, none⟩, ⟨some 49, .ld (.t 48) none, none⟩, ⟨some 50, .ld (.t 7) (some 4), none⟩, ⟨some 51, .mkS [.int .i64 0, .slice none 0 0, .int .i64 0, .int .i64 0] 1 [(0, 4, .t 50)], none⟩, ⟨some 52, .app (.t 49) (.t 51) 4 48, none⟩, ⟨some 53, .fa (.t 5) 2, none⟩, ⟨none, .st (.t 53) (.t 52) 1, none⟩] []) (.reg [⟨some 54, .fa (.t 5) 2, none⟩, ⟨some 55, .ld (.t 54) none, none⟩, ⟨some 56, .ld (.t 8) none, none⟩, ⟨some 57, .ld (.t 8) none, none⟩, ⟨some 58, .bin .add (.t 57) (.c (.int .i64 1)), none⟩, ⟨some 59, .call (.c (.func (.func 33) #[] #[])) [.t 55, .t 56, .t 58], none⟩, ⟨some 60, .fa (.t 5) 2, none⟩, ⟨none, .st (.t 60) (.t 59) 1, none⟩] []))))))))) (.reg [⟨some 61, .bin .add (.t 27) (.c (.int .i64 1)), none⟩, ⟨some 27, .mv (.t 61), none⟩] []))))))) (.seq (.reg [⟨some 62, .ld (.t 5) (some 3), none⟩, ⟨none, .st (.t 2) (.t 62) 3, none⟩, ⟨some 3, .mv (.c (.int .i64 0)), none⟩] []) .ret))))⟩
theorem k19 : tab Tryd.prog 25 = some kf19 := by kernel_rfl
theorem scan_neg {l : List G} {g : G} (h : scanM l g 0 = scanM l g l.length) : cstep l g = l ++ [g] := by
  rw [cstep, if_neg (fun x => by rw [← h] at x; simp [scanM] at x)]
theorem scan_un {l : List G} {g : G} {k : Nat} (hk : k < l.length) (he : scanM l g (k + 1) = scanM l g l.length) (hu : undoM l[k] g) : cstep l g = l.eraseIdx k := cstep_rm (k := k + 1) (by simpa using hk) (by omega) he (by simpa using hu)
theorem scan_ap {l : List G} {g : G} {k : Nat} (hk : k < l.length) (he : scanM l g (k + 1) = scanM l g l.length) (hu : ¬ undoM l[k] g) (hc : ¬ commM l[k] g) : cstep l g = l ++ [g] := cstep_ap (k := k + 1) (by simpa using hk) (by omega) he (by simpa using hu) (by simpa using hc)
theorem scan_nx {l : List G} {g : G} {k : Nat} (hk : k < l.length) (he : scanM l g (k + 1) = scanM l g l.length) (hu : ¬ undoM l[k] g) (hc : commM l[k] g) : scanM l g k = scanM l g l.length := by
  rw [← he, scan_go (k := k + 1) (by simpa using hk) (by omega) (by simpa using hu) (by simpa using hc), Nat.add_sub_cancel]
structure CI (K0 : Heap) (c : C) (nO nX : Nat) (pz : List Pl) (j : Nat) (K : Heap) (m : List Nat) (lf : List G) (p1 : Pl) : Prop where
  hle : K0.length ≤ K.length
  keep : ∀ b, b < K0.length → b ≠ nO → K[b]? = K0[b]?
  out : K[nO]? = some (crow c p1 lf.length)
  mks : Mk K0.length K m
  lists : ∃ pl, pl.length = lf.length ∧ OwnL K p1 lf.length (flat lf pl) ∧ (∀ a, p1.1 = some a → K0.length ≤ a.block) ∧ Wires (wB nX K0.length) K0 lf pl ∧ pl.Pairwise dd ∧ ∀ q ∈ pl, q ∈ pz.take j
theorem OwnL.row {K : Heap} {p : Pl} {k : Nat} {cells : List Value} (H : OwnL K p k cells) (hk : 0 < k) : ∃ b cs gr, p.1 = some ⟨b, 0, none⟩ ∧ K[b]? = some (.row cs true gr) ∧ (gr = none ∨ gr = some 4) ∧ k ≤ p.2 ∧ cs.length = p.2 * 4 ∧ cs.take (k * 4) = cells ∧ ∀ v ∈ cs, isCell v = true := by
  obtain ⟨_, h | h⟩ := H
  · omega
  · exact h
theorem Mk.ne {n b : Nat} {h : Heap} {m : List Nat} {cs : List Value} {wr : Bool} {gr : Option Nat} (M : Mk n h m) (hb : h[b]? = some (.row cs wr gr)) : ∀ x ∈ m, x ≠ b := fun x hx e => by
  have := (M x hx).2
  rw [e, hb] at this
  cases this
theorem Mk.set {n b : Nat} {h : Heap} {m : List Nat} {o : CO} (M : Mk n h m) (hne : ∀ x ∈ m, x ≠ b) : Mk n (h.set b o) m := fun x hx => ⟨(M x hx).1, by rw [List.getElem?_set_ne (fun e => hne x hx e.symm)]; exact (M x hx).2⟩
theorem Mk.sub {n : Nat} {h h' : Heap} {m : List Nat} (M : Mk n h m) (hh : ∀ x ∈ m, h'[x]? = h[x]?) : Mk n h' m := fun x hx => ⟨(M x hx).1, by rw [hh x hx]; exact (M x hx).2⟩
theorem loop_row {A Z W : Heap} {x y : CLoop} {b : Nat} {cs : List Value} {wr : Bool} {gr : Option Nat} (h : (A ++ ([CO.mark, .loop x] ++ Z))[b]? = some (.row cs wr gr)) : (A ++ ([CO.mark, .loop y] ++ (Z ++ W)))[b]? = some (.row cs wr gr) := by
  by_cases hb : b < A.length
  · rw [pre_get hb] at h ⊢; exact h
  · obtain ⟨k, rfl⟩ : ∃ k, b = A.length + k := ⟨b - A.length, by omega⟩
    rw [own_get] at h ⊢
    match k, h with
    | 0, h => cases h
    | 1, h => cases h
    | k + 2, h =>
      have h' : Z[k]? = some (.row cs wr gr) := h
      show (Z ++ W)[k]? = _
      rw [pre_get (List.getElem?_eq_some_iff.1 h').1]; exact h'
theorem CI.stepA {K0 K KQ U4 : Heap} {c : C} {nO nX j : Nat} {pz pl : List Pl} {m m' : List Nat} {lf : List G} {p1 p4 pg : Pl} {g : G} {r : CO} (hO : nO < K0.length) (I : CI K0 c nO nX pz j K m lf p1)
    (e1 : pl.length = lf.length) (hpo : ∀ a, p1.1 = some a → K0.length ≤ a.block) (hwl : Wires (wB nX K0.length) K0 lf pl) (hpw : pl.Pairwise dd) (hsub : ∀ q ∈ pl, q ∈ pz.take j)
    (hQ : ∀ x, x < K.length → KQ[x]? = K[x]?) (lQ : K.length ≤ KQ.length) (mQ : Mk K0.length KQ m') (hown : OwnL KQ p1 lf.length (flat lf pl))
    (l4 : (KQ ++ [r]).length ≤ U4.length) (o4 : OwnL U4 p4 (lf.length + 1) (flat lf pl ++ gcells g pg)) (k4 : ∀ i, i < (KQ ++ [r]).length → offP p1 i → U4[i]? = (KQ ++ [r])[i]?) (b4 : ∀ a, p4.1 = some a → p1.1 = some a ∨ a.block = (KQ ++ [r]).length)
    (hg : Ints (wB nX K0.length) K0 pg g.ws) (hd : ∀ q ∈ pz.take j, dd q pg) (hm : pg ∈ pz.take (j + 1)) : CI K0 c nO nX pz (j + 1) (U4.set nO (crow c p4 (lf.length + 1))) m' (lf ++ [g]) p4 := by
  have hle := I.hle
  have l4' : KQ.length + 1 ≤ U4.length := by simpa using l4
  have off1 : ∀ x, x < K0.length → offP p1 x := fun x hx a ha => by have := hpo a ha; omega
  have b4' : ∀ a, p4.1 = some a → K0.length ≤ a.block := fun a ha => by
    rcases b4 a ha with h | h
    · exact hpo a h
    · rw [h]; simp; omega
  have g4 : ∀ x, x < K0.length → U4[x]? = K[x]? := fun x hx => by
    rw [k4 x (by simp; omega) (off1 x hx), pre_get (by omega), hQ x (by omega)]
  refine ⟨by rw [List.length_set]; omega, ?_, ?_, ?_, pl ++ [pg], ?_, ?_, b4', hwl.snoc e1 hg, ?_, ?_⟩
  · intro b hb hn
    rw [List.getElem?_set_ne (Ne.symm hn), g4 b hb, I.keep b hb hn]
  · rw [List.getElem?_set_self (by omega), List.length_append]; rfl
  · intro x hx
    obtain ⟨x1, x2⟩ := mQ x hx
    have xl := (List.getElem?_eq_some_iff.1 x2).1
    refine ⟨x1, ?_⟩
    rw [List.getElem?_set_ne (by omega), k4 x (by simp; omega) ?_, pre_get xl, x2]
    intro a ha e
    obtain ⟨_, ⟨h, _⟩ | ⟨b, cs, gr, h1, h2, _⟩⟩ := hown
    · rw [h] at ha; cases ha
    · rw [h1] at ha
      injection ha with ha
      subst ha
      simp only at e
      subst e
      rw [h2] at x2; cases x2
  · simp [e1]
  · rw [List.length_append, flat_append _ _ _ _ e1]
    have := o4.same (h' := U4.set nO (crow c p4 (lf.length + 1))) (fun a ha => by rw [List.getElem?_set_ne]; have := b4' a ha; omega)
    simpa [flat] using this
  · rw [List.pairwise_append]
    refine ⟨hpw, by simp, fun x hx y hy => ?_⟩
    rw [List.mem_singleton.1 hy]
    exact hd x (hsub x hx)
  · intro q hq
    rcases List.mem_append.1 hq with h | h
    · exact List.mem_of_mem_take (i := j) (l := pz.take (j + 1)) (by rw [List.take_take, Nat.min_eq_left (by omega)]; exact hsub q h)
    · rw [List.mem_singleton.1 h]; exact hm
theorem CI.stepD {K0 K KQ : Heap} {c : C} {nO nX j b cap b1 : Nat} {pz pl : List Pl} {m m' : List Nat} {lf : List G} {p1 : Pl} {cs cs' : List Value} {gr : Option Nat} (hO : nO < K0.length) (I : CI K0 c nO nX pz j K m lf p1)
    (e1 : pl.length = lf.length) (hpo : ∀ a, p1.1 = some a → K0.length ≤ a.block) (hwl : Wires (wB nX K0.length) K0 lf pl) (hpw : pl.Pairwise dd) (hsub : ∀ q ∈ pl, q ∈ pz.take j)
    (hQ : ∀ x, x < K.length → KQ[x]? = K[x]?) (lQ : K.length ≤ KQ.length) (mQ : Mk K0.length KQ m') (hb : b < lf.length)
    (h1 : p1 = (some ⟨b1, 0, none⟩, cap)) (hrow : KQ[b1]? = some (.row cs true gr)) (hgr : gr = none ∨ gr = some 4) (hk : lf.length ≤ cap) (hcl : cs.length = cap * 4) (hcs : cs.take (lf.length * 4) = flat lf pl)
    (hl' : cs'.length = cs.length) (hc' : ∀ v ∈ cs', isCell v = true) (ht' : cs'.take ((lf.length - 1) * 4) = cs.take (b * 4) ++ (cs.drop ((b + 1) * 4)).take ((lf.length - (b + 1)) * 4)) :
    CI K0 c nO nX pz (j + 1) ((KQ.set b1 (.row cs' true gr)).set nO (crow c p1 (lf.length - 1))) m' (lf.eraseIdx b) p1 := by
  have hle := I.hle
  have el : (lf.eraseIdx b).length = lf.length - 1 := List.length_eraseIdx_of_lt hb
  have hb1 := (List.getElem?_eq_some_iff.1 hrow).1
  have hp1 : K0.length ≤ b1 := by have := hpo ⟨b1, 0, none⟩ (by rw [h1]); exact this
  refine ⟨by simp; omega, ?_, ?_, ?_, pl.eraseIdx b, ?_, ?_, hpo, hwl.erase e1 hb, ?_, ?_⟩
  · intro x hx hn
    rw [List.getElem?_set_ne (Ne.symm hn), List.getElem?_set_ne (by omega), hQ x (by omega), I.keep x hx hn]
  · rw [List.getElem?_set_self (by simp; omega), el]
  · exact (mQ.set (mQ.ne hrow)).set (fun x hx => by have := (mQ x hx).1; omega)
  · rw [el, List.length_eraseIdx_of_lt (by omega), e1]
  · rw [el]
    refine ⟨?_, .inr ⟨b1, cs', gr, by rw [h1], ?_, hgr, by rw [h1]; simp only; omega, by rw [h1, hl']; exact hcl, ?_, hc'⟩⟩
    · rw [flat_len _ _ (by rw [el, List.length_eraseIdx_of_lt (by omega), e1]), el]
    · rw [List.getElem?_set_ne (by omega), List.getElem?_set_self hb1]
    · rw [ht', ← flat_erase e1, ← hcs, List.take_take, Nat.min_eq_left (by omega), List.drop_take, Nat.sub_mul]
  · exact hpw.sublist (List.eraseIdx_sublist _ _)
  · intro q hq
    exact List.mem_of_mem_take (i := j) (l := pz.take (j + 1)) (by rw [List.take_take, Nat.min_eq_left (by omega)]; exact hsub q (List.mem_of_mem_eraseIdx hq))
theorem pcancel_good (H : Heap) (c : C) (p : Pl) {S : Nat → Prop} (hv : Gates S H p c.gs) (hl : c.gs.length < 4294967296) (hc : checkM c = 0) : ∃ X p', Ret (tab Tryd.prog) 25 [cv c p] H (.tuple #[cv (cancelM c) p', .int .i64 0]) (H ++ X) ∧ GatesZ H.length X p' (cancelM c).gs := by
  have key := Ret_grow (T := tab Tryd.prog) (f := 25) (args := [cv c p]) (h := H) (fun u X => ∃ p' : Pl, u = .tuple #[cv (cancelM c) p', .int .i64 0] ∧ GatesZ H.length X p' (cancelM c).gs) k19 rfl ?_
  · obtain ⟨u, X, hr, p', rfl, f1⟩ := key
    exact ⟨X, p', hr, f1⟩
  have hr := CR.of hc
  have hn := hr.n0
  refine AX_seq (AX_E (E_boxA rfl (E_new (E_mv (v := .int .i64 (0)) rfl (E_nil (AX_seq (AX_seq (AX_E (E_ldON (k := 0) rfl rfl (E_callV rfl (pcheck_ret _ c _ hv.app (by first | omega | (simp; done) | (simp; omega))) (E_mv (v := .int .i64 (checkM c)) rfl (E_nil (AX_seq (AX_E (E_mv (v := .int .i64 (checkM c)) rfl (E_neqS rfl rfl (fun c14 => ?_) (fun c14 => ?_)))))))))))))))))
  · exact (c14 hc).elim
  · refine E_nil (AX_condF rfl (AX_skip (AX_seq (AX_E (E_fa rfl (E_ldO (k := 0) (v := .int .i64 (c.w)) rfl rfl (E_fa rfl (E_ldO (k := 0) (v := .int .i64 (c.b)) rfl rfl (E_mk (cs := [.int .i64 (c.w), .int .i64 (c.b), .slice none 0 0]) rfl (E_new (E_stO (k := 2) rfl rfl (v := .agg _) rfl rfl rfl rfl (E_nil (AX_seq (AX_seq (AX_E (E_fa rfl (E_ldO (k := 0) (v := .slice _ _ _) rfl rfl (E_mkS (cs := [.slice (p).1 (c.gs).length (p).2]) rfl ?_))))))))))))))))))
    obtain ⟨X1, x1, hr1, f1⟩ := behind1_ret (H) ([CO.row [.int .i64 (c.w), .int .i64 (c.b), .slice (p).1 (c.gs).length (p).2] true none, CO.row [.int .i64 (0), .int .i64 (0), .slice none 0 0] true none, CO.row [.int .i64 (c.w), .int .i64 (c.b), .slice none 0 0] true none, CO.row [.slice (p).1 (c.gs).length (p).2] true none]) 3 (p) (c.gs) rfl hv.app (by omega) (fun g hg => by have := (hr.gr hg).len; omega)
    refine E_callX (X := X1) rfl (hr1) (E_len (n := (c.gs).length) rfl (E_mv (v := .int .i64 (0)) rfl (E_nil (AX_block ?_))))
    let nO : Nat := H.length + 2
    let nX : Nat := H.length + 4
    let KB : Heap := (H ++ ([CO.row [.int .i64 (c.w), .int .i64 (c.b), .slice (p).1 (c.gs).length (p).2] true none, CO.row [.int .i64 (0), .int .i64 (0), .slice none 0 0] true none, CO.row [.int .i64 (c.w), .int .i64 (c.b), .slice none 0 0] true none, CO.row [.slice (p).1 (c.gs).length (p).2] true none] ++ X1))
    obtain ⟨pz, hz1, hz2, hz3, hz4⟩ := f1.opn
    have hKl : KB.length = H.length + 4 + X1.length := by simp [KB]; omega
    have kO : KB[nO]? = some (crow c (none, 0) 0) := by show (H ++ ([CO.row [.int .i64 (c.w), .int .i64 (c.b), .slice (p).1 (c.gs).length (p).2] true none, CO.row [.int .i64 (0), .int .i64 (0), .slice none 0 0] true none, CO.row [.int .i64 (c.w), .int .i64 (c.b), .slice none 0 0] true none, CO.row [.slice (p).1 (c.gs).length (p).2] true none] ++ X1))[H.length + 2]? = _; rw [own_get]; rfl
    have kR : KB[H.length + 1]? = some (CO.row [.int .i64 0, .int .i64 0, .slice none 0 0] true none) := by show (H ++ ([CO.row [.int .i64 (c.w), .int .i64 (c.b), .slice (p).1 (c.gs).length (p).2] true none, CO.row [.int .i64 (0), .int .i64 (0), .slice none 0 0] true none, CO.row [.int .i64 (c.w), .int .i64 (c.b), .slice none 0 0] true none, CO.row [.slice (p).1 (c.gs).length (p).2] true none] ++ X1))[H.length + 1]? = _; rw [own_get]; rfl
    have kH : ∀ b, b < H.length → KB[b]? = H[b]? := fun b hb => by show (H ++ ([CO.row [.int .i64 (c.w), .int .i64 (c.b), .slice (p).1 (c.gs).length (p).2] true none, CO.row [.int .i64 (0), .int .i64 (0), .slice none 0 0] true none, CO.row [.int .i64 (c.w), .int .i64 (c.b), .slice none 0 0] true none, CO.row [.slice (p).1 (c.gs).length (p).2] true none] ++ X1))[b]? = _; rw [pre_get hb]
    have kC : Cells (segB nX X1.length) KB 4 x1 c.gs.length (flat c.gs pz) := by have := hz2 (H ++ [CO.row [.int .i64 (c.w), .int .i64 (c.b), .slice (p).1 (c.gs).length (p).2] true none, CO.row [.int .i64 (0), .int .i64 (0), .slice none 0 0] true none, CO.row [.int .i64 (c.w), .int .i64 (c.b), .slice none 0 0] true none, CO.row [.slice (p).1 (c.gs).length (p).2] true none]) rfl; rw [List.append_assoc H] at this; exact this.congr (fun b hb => ⟨by have := hb.1; simp at this; exact this, by have := hb.2; simp at this; exact this⟩) (fun _ _ _ => rfl)
    have kI : Wires (wB nX KB.length) KB c.gs pz := fun i h1 h2 => by have := hz3 i h1 h2 (H ++ [CO.row [.int .i64 (c.w), .int .i64 (c.b), .slice (p).1 (c.gs).length (p).2] true none, CO.row [.int .i64 (0), .int .i64 (0), .slice none 0 0] true none, CO.row [.int .i64 (c.w), .int .i64 (c.b), .slice none 0 0] true none, CO.row [.slice (p).1 (c.gs).length (p).2] true none]) rfl; rw [List.append_assoc H] at this; exact this.congr (fun b hb => ⟨by have := hb.1.1; simp at this; exact this, by have := hb.1.2; simp at this; omega⟩) fun _ _ _ => rfl
    refine AX_loopF (γ := Nat × List G × Pl) (fun x => [(2, .pointer (some ⟨H.length + 1, 0, none⟩)), (5, .pointer (some ⟨nO, 0, none⟩)), (25, .slice (x1).1 (c.gs).length (x1).2), (26, .int .i64 ((c.gs).length)), (27, .int .i64 ((x.1 : Int)))]) (fun x h_ m_ => CI KB c nO nX pz x.1 h_ m_ x.2.1 x.2.2 ∧ (x.1 ≤ c.gs.length ∧ x.2.1 = cancelL (c.gs.take x.1) ∧ (x.2.1).length ≤ x.1)) (fun x => c.gs.length - x.1) (0, [], (none, 0)) ⟨rfl, rfl, rfl, rfl, rfl, trivial⟩ ⟨?_, ?_⟩ ?_
    · show CI KB c nO nX pz 0 (KB ++ []) [] [] (none, 0)
      rw [List.append_nil]
      exact ⟨Nat.le_refl _, fun _ _ _ => rfl, kO, Mk.nil, [], rfl, OwnL.nil, (fun a ha => by cases ha), (fun i h1 => by simp at h1), List.Pairwise.nil, by simp⟩
    · exact ⟨Nat.zero_le _, by simp [cancelL], by simp⟩
    rintro ⟨j, lf, p1⟩ fr0 KH0 mk0 ⟨hI0, inv0⟩ Kk0 hN0 hR0 hE0
    try dsimp only at hI0 inv0
    have hnO : nO < KB.length := by omega
    have hnX : nX = H.length + 4 := rfl
    have hnO2 : nO = H.length + 2 := rfl
    clear_value KB nO nX
    obtain ⟨hj, hlf, hln⟩ := inv0
    have hgr : ∀ g ∈ lf, GR g := fun g hg => hr.gr (List.mem_of_mem_take (cancelL_sub (hlf ▸ hg)))
    obtain ⟨pl, e1, hown, hpo, hwl, hpw, hsub⟩ := hI0.lists
    have hle := hI0.hle
    have fO : rowGet KH0 ⟨nO, 0, none⟩ 3 = some [.int .i64 c.w, .int .i64 c.b, .slice p1.1 lf.length p1.2] := rowGet_all hI0.out rfl
    have hR := (hI0.keep (H.length + 1) (by omega) (by omega)).trans kR
    have fR : rowGet KH0 ⟨H.length + 1, 0, none⟩ 3 = some [.int .i64 0, .int .i64 0, .slice none 0 0] := rowGet_all hR rfl
    have hcl : Cells allB KH0 4 x1 c.gs.length (flat c.gs pz) := kC.congr (fun _ _ => trivial) fun x hx _ => hI0.keep x (by have := hx.2; omega) (by have := hx.1; omega)
    have hin : Wires allB KH0 c.gs pz := fun i h1 h2 => (kI i h1 h2).congr (fun _ _ => trivial) fun x hx _ => hI0.keep x hx.2 (by have := hx.1; omega)
    have hwl0 : Wires allB KH0 lf pl := fun i h1 h2 => (hwl i h1 h2).congr (fun _ _ => trivial) fun x hx _ => hI0.keep x hx.2 (by have := hx.1; omega)
    have hgs0 : Gates allB KH0 p1 lf := ⟨pl, e1, hown.cells (fun _ _ => trivial), hwl0⟩
    refine AX_nil ?_
    refine AX_seq (AX_E (E_lssS rfl rfl (fun c28 => ?_) (fun c28 => ?_)))
    · refine E_nil (AX_seq (AX_condT rfl (AX_skip (AX_seq (AX_block (AX_seq (AX_E (have ix2 : j < (c.gs).length := (by first | omega | (simp; done) | (simp; omega)); have iy2 : j < pz.length := (by omega); E_iaPb (j := j) rfl hcl rfl hz1 rfl rfl ix2 iy2 fun b2 o2 w2 => (E_ldBN rfl w2 (E_new (E_stO (k := 0) rfl rfl (v := .agg _) rfl rfl rfl rfl (E_nil (AX_seq (AX_skip (AX_seq (AX_E (E_new (E_stO (k := 1) rfl rfl (v := .int .i64 ((-1))) rfl rfl rfl rfl (E_nil (AX_seq (AX_skip (AX_seq (AX_seq (AX_E (E_fa rfl (E_ldB (v := .slice _ _ _) rfl (rowGet_c (j := 2) fO rfl) ?_))))))))))))))))))))))))))
      refine E_callX (X := [CO.row [.slice p1.1 lf.length p1.2] true none]) rfl (backward_ret _ p1 lf.length) (E_nil (AX_block ?_))
      have hjl : j < c.gs.length := by omega
      have hGg : GR (c.gs[j]) := hr.gr (List.getElem_mem hjl)
      have hpz : j < pz.length := by omega
      have hwg : Ints (wB nX KB.length) KB pz[j] c.gs[j].ws := kI j hjl hpz
      have hwg0 : Ints allB KH0 pz[j] c.gs[j].ws := hin j hjl hpz
      obtain ⟨hh, hhe⟩ : ∃ hh : Int → Heap, ∀ v, hh v = KH0 ++ [CO.row (gcells c.gs[j] pz[j]) true none, CO.row [.int .i64 v] true none, CO.row [.slice p1.1 lf.length p1.2] true none] := ⟨_, fun _ => rfl⟩
      have hhl : ∀ v, (hh v).length = KH0.length + 3 := fun v => by rw [hhe]; simp
      have f7 : ∀ v, rowGet (hh v) ⟨KH0.length + 0, 0, none⟩ 4 = some (gcells c.gs[j] pz[j]) := fun v => by rw [hhe]; exact rowGet_own (k := 0) rfl
      have f8 : ∀ v, rowGet (hh v) ⟨KH0.length + 1, 0, none⟩ 1 = some [.int .i64 v] := fun v => by rw [hhe]; exact rowGet_own (k := 1) rfl
      have g8 : ∀ v, (hh v)[KH0.length + 1]? = some (CO.row [.int .i64 v] true none) := fun v => by rw [hhe, own_get]; rfl
      have s8 : ∀ v v' (Z : Heap), (hh v ++ Z).set (KH0.length + 1) (CO.row [.int .i64 v'] true none) = hh v' ++ Z := fun v v' Z => by rw [List.set_append_left _ _ (by rw [hhl]; omega), hhe, hhe, set_own]; rfl
      have hgl : ∀ v, Gates allB (hh v) p1 lf := fun v => by rw [hhe]; exact hgs0.app
      have hgi : ∀ v, Ints allB (hh v) pz[j] c.gs[j].ws := fun v => by rw [hhe]; exact hwg0.app
      refine AX_hp (h' := hh (-1)) (by rw [hhe, List.append_nil]; rfl) ?_
      refine rb_rule (id := 2) (bs := KH0.length + 2) (gs := lf) (p := p1) (N := KH0.length + 3) hh (-1) (fun k => scanM lf c.gs[j] k = scanM lf c.gs[j] lf.length) (fun v => (v < 0 ∧ cstep lf c.gs[j] = lf ++ [c.gs[j]]) ∨ ∃ b : Nat, b < lf.length ∧ v = (b : Int) ∧ cstep lf c.gs[j] = lf.eraseIdx b) hhl ?_ rfl rfl (by omega) ?_ (hgl _) rfl ?_ ?_ (fun _ _ => rfl) ?_
      · exact congrArg (fun n => Value.func (.func 86) #[] #[.pointer (some ⟨n, 0, none⟩)]) (by simp)
      · rw [hhe]; exact rowGet_own (k := 2) rfl
      · exact fun h => .inl ⟨by omega, scan_neg h⟩
      · intro R Z k hk hi q hq
        refine AX_nil (AX_seq (AX_E (E_mv (v := .int .i64 ((k : Int))) rfl (E_nil (AX_E (E_new (E_stO (k := 0) rfl rfl (v := .agg _) rfl rfl rfl rfl (E_nil ?_))))))))
        refine ⟨rfl, rfl, Z ++ [CO.row [.int .i64 ((lf[k]).k), .slice (q).1 ((lf[k]).ws).length (q).2, .int .i64 ((lf[k]).b), .int .i64 ((lf[k]).f)] true none], by first | (simp only [List.append_assoc, List.append_nil, List.nil_append, List.cons_append, List.set_cons_zero, List.set_cons_succ]; done) | (simp only [List.append_assoc, List.append_nil, List.nil_append, List.cons_append, List.set_cons_zero, List.set_cons_succ]; rfl), ?_⟩
        have f10 : rowGet (hh (-1) ++ ([CO.mark, .loop { R with st := .busy }] ++ (Z ++ [CO.row [.int .i64 ((lf[k]).k), .slice (q).1 ((lf[k]).ws).length (q).2, .int .i64 ((lf[k]).b), .int .i64 ((lf[k]).f)] true none]))) ⟨((hh (-1) ++ ([CO.mark, .loop { R with st := .ready }] ++ Z))).length + 0, 0, none⟩ 4 = some (gcells lf[k] q) := by
          rw [← List.append_assoc ([CO.mark, .loop { R with st := .busy }] : Heap), ← List.append_assoc (hh (-1))]
          exact rowGet_ownE (k := 0) (by simp) rfl
        have hq2 : Ints allB (hh (-1) ++ ([CO.mark, .loop { R with st := .busy }] ++ (Z ++ [CO.row [.int .i64 ((lf[k]).k), .slice (q).1 ((lf[k]).ws).length (q).2, .int .i64 ((lf[k]).b), .int .i64 ((lf[k]).f)] true none]))) q lf[k].ws := by
          exact Cells.rows hq (fun _ _ _ => trivial) fun x cs wr gr _ hx => loop_row hx
        refine AX_nil ?_
        have hGk : GR lf[k] := hgr _ (List.getElem_mem hk)
        refine AX_block (AX_block (AX_seq (AX_E (E_ldBN rfl (rowGet_base (f7 _)) (E_ldBN rfl f10 (E_callP rfl (pundo_ret _ (c.gs[j]) (lf[k]) _ _ (hgi _).app.app hq2.app (by assumption) (by assumption)) (fun c39 => ?_) (fun c39 => ?_)))))))
        · refine E_mv (v := .bool _) rfl (E_nil (AX_condT rfl (AX_seq (AX_E (E_mv (v := .int .i64 ((k : Int))) rfl (E_stX (v := .int _ _) rfl rfl rfl rfl ((congrArg (fun h : Heap => h[KH0.length + 1]?) (List.append_nil _)).trans ((pre_get (by rw [hhl]; omega)).trans (g8 _))) (by simp) rfl rfl fun KU hKU => ?_))))))
          have hKu := hKU
          rw [List.append_nil] at hKu
          have hKu := hKu.trans (s8 (-1) (k : Int) _)
          refine E_nil (AX_exit ?_)
          exact ⟨rfl, _, (k : Int), by rw [List.append_nil]; exact hKu, .inr ⟨rfl, .inr ⟨k, hk, rfl, scan_un hk hi ((undo_symm hGg hGk).1 c39)⟩⟩⟩
        · refine E_mv (v := .bool _) rfl (E_nil (AX_condF rfl (AX_seq (AX_E (E_ldBN rfl (rowGet_base (f7 _)) (E_ldBN rfl f10 (E_callP rfl (pcomm_ret _ (c.gs[j]) (lf[k]) _ _ (hgi _).app.app hq2.app (by assumption) (by assumption)) (fun c44 => ?_) (fun c44 => ?_))))))))
          · refine E_notV rfl rfl (E_mv (v := .bool _) rfl (E_nil (AX_condF rfl (AX_skip ?_))))
            exact ⟨rfl, _, -1, by rw [List.append_nil], .inl ⟨rfl, rfl, scan_nx hk hi (fun h => c39 ((undo_symm hGk hGg).1 h)) ((comm_symm hGg hGk).1 (by simpa using c44))⟩⟩
          · refine E_notV rfl rfl (E_mv (v := .bool _) rfl (E_nil (AX_condT rfl (AX_exit ?_))))
            exact ⟨rfl, _, -1, by rw [List.append_nil], .inr ⟨rfl, .inl ⟨by omega, scan_ap hk hi (fun h => c39 ((undo_symm hGk hGg).1 h)) (fun h => by have := (comm_symm hGk hGg).1 h; simp_all)⟩⟩⟩
      · intro v R Z ho
        obtain ⟨KQ, hKQ⟩ : ∃ K : Heap, K = hh v ++ ([CO.mark, .loop R] ++ Z) := ⟨_, rfl⟩
        rw [← hKQ]
        have lQ : KH0.length + 5 ≤ KQ.length := by rw [hKQ]; simp [hhl]; omega
        have nQ : ∀ x, x < KH0.length → KQ[x]? = KH0[x]? := fun x hx => by rw [hKQ, pre_get (by rw [hhl]; omega), hhe, pre_get hx]
        have mQ : Mk KB.length KQ ((KH0.length + 3) :: mk0) := Mk.cons (hI0.mks.sub fun x hx => nQ x (List.getElem?_eq_some_iff.1 (hI0.mks x hx).2).1) (by omega) (by rw [hKQ, List.getElem?_append_right (by rw [hhl]; omega), hhl, Nat.sub_self]; rfl)
        have oQ : OwnL KQ p1 lf.length (flat lf pl) := hown.same fun a ha => nQ _ (hown.blk ha)
        have fOQ : rowGet KQ ⟨nO, 0, none⟩ 3 = some [.int .i64 c.w, .int .i64 c.b, .slice p1.1 lf.length p1.2] := rowGet_all ((nQ nO (by omega)).trans hI0.out) rfl
        have f7Q : rowGet KQ ⟨KH0.length + 0, 0, none⟩ 4 = some (gcells c.gs[j] pz[j]) := by rw [hKQ]; exact rowGet_base (f7 v)
        have f8Q : rowGet KQ ⟨KH0.length + 1, 0, none⟩ 1 = some [.int .i64 v] := by rw [hKQ]; exact rowGet_base (f8 v)
        refine AX_nil ?_
        refine AX_seq (AX_E (E_ldB (v := .int .i64 (v)) rfl f8Q (E_lssS rfl rfl (fun c47 => ?_) (fun c47 => ?_))))
        · refine E_nil (AX_condT rfl (AX_E (E_fa rfl (E_ldB (v := .slice _ _ _) rfl (rowGet_c (j := 2) fOQ rfl) (E_ldBN rfl f7Q (E_mkS (cs := [.int .i64 ((c.gs[j]).k), .slice ((pz[j])).1 ((c.gs[j]).ws).length ((pz[j])).2, .int .i64 ((c.gs[j]).b), .int .i64 ((c.gs[j]).f)]) rfl (E_appO (k := lf.length) (p := p1) (new := gcells c.gs[j] pz[j]) (oQ.same (fun a ha => pre_get (by have := hown.blk ha; omega))) rfl rfl (by show (if 1 * 4 = 0 then some [] else rowGet _ ⟨_, _, none⟩ (1 * 4)) = _; exact rowGet_own (k := 0) rfl) (by simp only [roomB]; omega) rfl rfl rfl fun U4 p4 hl4 ho4 hk4 hb4 => ?_)))))))
          have hO4 := (hk4 nO (by simp; omega) (fun a ha e => by have := hpo a ha; omega)).trans ((pre_get (by omega)).trans ((nQ nO (by omega)).trans hI0.out))
          have fO4 : rowGet U4 ⟨nO, 0, none⟩ 3 = some [.int .i64 c.w, .int .i64 c.b, .slice p1.1 lf.length p1.2] := rowGet_all hO4 rfl
          refine E_fa rfl (E_stX (v := .slice _ _ _) rfl rfl rfl rfl ((congrArg (fun h : Heap => h[nO]?) (List.append_nil _)).trans hO4) (by simp) rfl rfl fun U5 hK5' => ?_)
          have hK5 : U5 = U4.set nO (crow c p4 (lf.length + 1)) := by rw [hK5', List.append_nil]; rfl
          have hcs : cstep lf c.gs[j] = lf ++ [c.gs[j]] := ho.elim (fun h => h.2) (fun ⟨b, _, hb, _⟩ => by omega)
          refine E_nil (AX_E (E_addI rfl rfl (by first | omega | (simp; done) | (simp; omega)) (by first | omega | (simp; done) | (simp; omega)) (E_mv (v := .int .i64 (((j : Int) + 1))) rfl (E_nil ?_))))
          refine hN0 (j + 1, lf ++ [c.gs[j]], p4) _ _ _ ⟨by first | rfl | (congr 1; omega), by rfl, by first | rfl | (congr 1; omega), by first | rfl | (congr 1; omega), by first | rfl | (congr 1; omega), trivial⟩ ⟨?_, ?_⟩ ?_
          -- n1
          all_goals clear hN0 hR0 hE0
          · rw [List.append_nil, hK5]
            exact CI.stepA hnO hI0 e1 hpo hwl hpw hsub nQ (by omega) mQ oQ hl4 ho4 hk4 hb4 hwg (fun q hq => by obtain ⟨i, hi, rfl⟩ := List.getElem_of_mem hq; have hi2 : i < j := (by simp at hi; omega); rw [List.getElem_take]; exact ⟨hz4 i j (by omega) hpz (by omega), hz4 j i hpz (by omega) (by omega)⟩) (by rw [List.take_succ_eq_append_getElem hpz]; exact List.mem_append_right _ (List.mem_singleton.2 rfl))
          · exact ⟨by omega, by rw [cancelL_next (by omega), ← hlf, hcs], by first | (rw [List.length_eraseIdx_of_lt hbl]; omega) | (simp; omega)⟩
          · (first | omega | (simp; omega))
        · refine E_nil (AX_condF rfl (AX_E (E_fa rfl (E_ldB (v := .slice _ _ _) rfl (rowGet_c (j := 2) fOQ rfl) (E_ldB (v := .int .i64 (v)) rfl f8Q (E_ldB (v := .int .i64 (v)) rfl f8Q (E_addI rfl rfl (by first | omega | (simp; done) | (simp; omega)) (by first | omega | (simp; done) | (simp; omega)) ?_)))))))
          obtain ⟨b, hbl, rfl, hcs⟩ : ∃ b : Nat, b < lf.length ∧ v = (b : Int) ∧ cstep lf c.gs[j] = lf.eraseIdx b := ho.elim (fun h => absurd h.1 c47) id
          obtain ⟨b1, cs, gr, r1, r2, r3, r4, r5, r6, r7⟩ := oQ.row (by omega)
          have hp1 : p1 = (some ⟨b1, 0, none⟩, p1.2) := Prod.ext r1 rfl
          have hb1 : KB.length ≤ b1 := hpo ⟨b1, 0, none⟩ r1
          obtain ⟨cs7, hd, hc7l, hc7c, hc7t⟩ := delete_ret (KQ ++ []) b1 lf.length p1.2 b cs gr (by rw [List.append_nil]; exact r2) r3 hbl r4 (by omega) r7
          obtain ⟨U7, hK7⟩ : ∃ K : Heap, K = (KQ ++ []).set b1 (.row cs7 true gr) := ⟨_, rfl⟩
          rw [← hK7] at hd
          rw [← r1] at hd
          rw [List.append_nil] at hK7
          have hO7 : U7[nO]? = some (crow c p1 lf.length) := by rw [hK7, List.getElem?_set_ne (by omega)]; exact (nQ nO (by omega)).trans hI0.out
          have fO7 : rowGet U7 ⟨nO, 0, none⟩ 3 = some [.int .i64 c.w, .int .i64 c.b, .slice p1.1 lf.length p1.2] := rowGet_all hO7 rfl
          refine E_callR rfl rfl (hd) (.inl rfl) (E_nilR (E_fa rfl (E_stX (v := .slice _ _ _) rfl rfl rfl rfl ((congrArg (fun h : Heap => h[nO]?) (List.append_nil _)).trans hO7) (by simp) rfl rfl fun U8 hK8' => ?_)))
          have hK8 : U8 = U7.set nO (crow c p1 (lf.length - 1)) := by rw [hK8', List.append_nil]; rfl
          refine E_nil (AX_E (E_addI rfl rfl (by first | omega | (simp; done) | (simp; omega)) (by first | omega | (simp; done) | (simp; omega)) (E_mv (v := .int .i64 (((j : Int) + 1))) rfl (E_nil ?_))))
          refine hN0 (j + 1, lf.eraseIdx b, p1) _ _ _ ⟨by first | rfl | (congr 1; omega), by rfl, by first | rfl | (congr 1; omega), by first | rfl | (congr 1; omega), by first | rfl | (congr 1; omega), trivial⟩ ⟨?_, ?_⟩ ?_
          -- n2
          all_goals clear hN0 hR0 hE0
          · rw [List.append_nil, hK8, hK7]
            exact CI.stepD hnO hI0 e1 hpo hwl hpw hsub nQ (by omega) mQ hbl hp1 r2 r3 r4 r5 r6 hc7l hc7c hc7t
          · exact ⟨by omega, by rw [cancelL_next (by omega), ← hlf, hcs], by first | (rw [List.length_eraseIdx_of_lt hbl]; omega) | (simp; omega)⟩
          · (first | omega | (simp; omega))
    · refine E_nil (AX_seq (AX_condF rfl (AX_exit (hE0 _ _ _ _ ?_))))
      have elf : lf = (cancelM c).gs := by rw [hlf, List.take_of_length_le (by omega)]; rfl
      refine AX_seq (AX_E (E_ldBN rfl fO (E_stX (v := .agg _) rfl rfl rfl rfl ((congrArg (fun h : Heap => h[H.length + 1]?) (List.append_nil _)).trans hR) (by simp) rfl rfl fun U9 hK9' => ?_)))
      refine E_mv (v := .int .i64 (0)) rfl (E_nil (AX_ret ?_))
      have h9 : U9 = KH0.set (H.length + 1) (crow c p1 lf.length) := by rw [hK9', List.append_nil]; rfl
      have n9 : ∀ x, x ≠ H.length + 1 → (U9 ++ [])[x]? = KH0[x]? := fun x hx => by rw [List.append_nil, h9, List.getElem?_set_ne (Ne.symm hx)]
      have hR9 : (U9 ++ [])[H.length + 1]? = some (crow c p1 lf.length) := by rw [List.append_nil, h9, List.getElem?_set_self (by omega)]
      have hm9 : Mk KB.length (U9 ++ []) mk0 := hI0.mks.mono fun x hx h => by rw [n9 x (by omega)]; exact h
      refine ⟨_, res2 (resOf_at rfl (rowGet_all hR9 rfl)) (res_tmp rfl), hm9.marks, ?_⟩
      have hl9 : H.length ≤ (allGone mk0 (U9 ++ [])).length := by rw [allGone_len, List.append_nil, h9, List.length_set]; omega
      have hp9 : ∀ b, b < H.length → (allGone mk0 (U9 ++ []))[b]? = H[b]? := by
        intro b hb
        rw [allGone_get _ _ fun x hx e => by have := (hm9 x hx).1; omega, n9 b (by omega), hI0.keep b (by omega) (by omega), kH b hb]
      have hz9 : GatesP (fun b => H.length ≤ b) (allGone mk0 (U9 ++ [])) p1 lf := by
        refine ⟨pl, e1, ?_, fun i g1 g2 => ?_, fun i j g1 g2 hij => ?_⟩
        · refine (hown.cells (S := fun b => KB.length ≤ b) hpo).rows (fun b hb _ => by omega) fun b cs wr gr hb hr => hm9.row ?_
          rw [n9 b (by omega)]; exact hr
        · refine (hwl i g1 g2).rows (fun b hb _ => ⟨by have := hb.1; omega, fun a ha => by have := hpo a ha; have := hb.2; omega⟩) fun b cs wr gr hb hr => hm9.row ?_
          have := hb.1
          have := hb.2
          rw [n9 b (by omega), hI0.keep b (by omega) (by omega)]; exact hr
        · rw [List.pairwise_iff_getElem] at hpw
          rcases Nat.lt_or_gt_of_ne hij with h | h
          · exact (hpw i j g1 g2 h).1
          · exact (hpw j i g2 g1 h).2
      obtain ⟨X, h1, h2⟩ := leafK (u := .tuple #[cv ⟨c.w, c.b, lf⟩ p1, .int .i64 0]) hl9 hp9 hz9 cvt_flat
      exact ⟨X, h1, p1, by rw [elf]; rfl, by rw [elf] at h2; exact h2⟩
theorem pcancel_bad (H : Heap) (c : C) (p : Pl) {S : Nat → Prop} (hv : Gates S H p c.gs) (hl : c.gs.length < 4294967296) (hc : checkM c ≠ 0) : ∃ X, Ret (tab Tryd.prog) 25 [cv c p] H (.tuple #[cv ⟨0, 0, []⟩ (none, 0), .int .i64 (checkM c)]) (H ++ X) := by
  have key := Ret_grow (T := tab Tryd.prog) (f := 25) (args := [cv c p]) (h := H) (fun u X => u = .tuple #[cv ⟨0, 0, []⟩ (none, 0), .int .i64 (checkM c)]) k19 rfl ?_
  · obtain ⟨u, X, hr, rfl⟩ := key
    exact ⟨X, hr⟩
  refine AX_seq (AX_E (E_boxA rfl (E_new (E_mv (v := .int .i64 (0)) rfl (E_nil (AX_seq (AX_seq (AX_E (E_ldON (k := 0) rfl rfl (E_callV rfl (pcheck_ret _ c _ hv.app (by first | omega | (simp; done) | (simp; omega))) (E_mv (v := .int .i64 (checkM c)) rfl (E_nil (AX_seq (AX_E (E_mv (v := .int .i64 (checkM c)) rfl (E_neqS rfl rfl (fun c14 => ?_) (fun c14 => ?_)))))))))))))))))
  · refine E_nil (AX_condT rfl (AX_seq (AX_E (E_mk (cs := [.int .i64 (0), .int .i64 (0), .slice none 0 0]) rfl (E_mv (v := .int .i64 (checkM c)) rfl (E_stO (k := 1) rfl rfl (v := .agg _) rfl rfl rfl rfl (E_mv (v := .int .i64 (checkM c)) rfl (E_nil (AX_ret ?_)))))))))
    obtain ⟨X, hX⟩ := forget_any (h := H) (u := .tuple #[cv ⟨0, 0, []⟩ (none, 0), .int .i64 (checkM c)]) (List.prefix_append H [CO.row [.int .i64 (c.w), .int .i64 (c.b), .slice (p).1 (c.gs).length (p).2] true none, CO.row [.int .i64 (0), .int .i64 (0), .slice none 0 0] true none])
    exact ⟨_, res2 (res_cellN (k := 1) rfl rfl) (res_tmp rfl), by simp, X, hX, rfl⟩
  · exact (hc (by simpa using c14)).elim
def cancelR (c : C) : C := if checkM c = 0 then cancelM c else ⟨0, 0, []⟩
theorem pcancel_ret (H : Heap) (c : C) (p : Pl) {S : Nat → Prop} (hv : Gates S H p c.gs) (hl : c.gs.length < 4294967296) : ∃ X p', Ret (tab Tryd.prog) 25 [cv c p] H (.tuple #[cv (cancelR c) p', .int .i64 (checkM c)]) (H ++ X) ∧ GatesZ H.length X p' (cancelR c).gs := by
  by_cases hc : checkM c = 0
  · rw [cancelR, if_pos hc, hc]
    exact pcancel_good H c p hv hl hc
  · rw [cancelR, if_neg hc]
    obtain ⟨X, hX⟩ := pcancel_bad H c p hv hl hc
    exact ⟨X, _, hX, fun A hA => GatesP.nil⟩
end Go.Canon
namespace Go.Canon
open Go Go.Proofs
set_option linter.unusedVariables false
set_option linter.unusedSimpArgs false
def kf84 : KFunc := ⟨1, 28, [], .seq (.reg [⟨some 4, .mv (.t 0), none⟩, ⟨some 5, .len (.t 4), none⟩, ⟨some 6, .bin .sub (.t 5) (.c (.int .i64 1)), none⟩, ⟨some 2, .mv (.c (.int .i64 0)), none⟩, ⟨some 3, .mv (.t 6), none⟩] []) (.block 0 (.loop (.seq (.seq (.reg [⟨some 7, .mv (.t 2), none⟩, ⟨some 8, .mv (.t 3), none⟩, ⟨some 9, .bin .lss (.t 7) (.t 8), none⟩] []) (.cond (.t 9) .skip (.exit 0))) (.seq (.block 1 (.reg [⟨some 14, .mv (.t 0), none⟩, ⟨some 15, .mv (.t 2), none⟩, ⟨some 16, .mv (.t 0), none⟩, ⟨some 17, .mv (.t 3), none⟩, ⟨some 18, .mv (.t 0), none⟩, ⟨some 19, .mv (.t 3), none⟩, ⟨some 20, .iaS (.t 18) (.t 19) 4, none⟩, ⟨some 21, .ld (.t 20) (some 4), none⟩, ⟨some 22, .mv (.t 0), none⟩, ⟨some 23, .mv (.t 2), none⟩, ⟨some 24, .iaS (.t 22) (.t 23) 4, none⟩, ⟨some 25, .ld (.t 24) (some 4), none⟩, ⟨some 26, .iaS (.t 14) (.t 15) 4, none⟩, ⟨none, .st (.t 26) (.t 21) 4, none⟩, ⟨some 27, .iaS (.t 16) (.t 17) 4, none⟩, ⟨none, .st (.t 27) (.t 25) 4, none⟩] [])) (.reg [⟨some 10, .mv (.t 2), none⟩, ⟨some 11, .bin .add (.t 10) (.c (.int .i64 1)), none⟩, ⟨some 12, .mv (.t 3), none⟩, ⟨some 13, .bin .sub (.t 12) (.c (.int .i64 1)), none⟩, ⟨some 2, .mv (.t 11), none⟩, ⟨some 3, .mv (.t 13), none⟩] [])))))⟩
theorem k84 : tab Tryd.prog 59 = some kf84 := by kernel_rfl
theorem flat_set {gs : List G} {ps : List Pl} (e : ps.length = gs.length) {i : Nat} (hi : i < gs.length) (g : G) (q : Pl) : (flat gs ps).take (i * 4) ++ gcells g q ++ (flat gs ps).drop (i * 4 + 4) = flat (gs.set i g) (ps.set i q) := by
  rw [show i * 4 + 4 = (i + 1) * 4 by omega, flat_take, flat_drop, List.set_eq_take_append_cons_drop, List.set_eq_take_append_cons_drop, if_pos hi, if_pos (by omega), flat_append _ _ _ _ (by simp [e]), List.append_assoc]
  rfl
theorem Cells.some' {S : Nat → Prop} {h : Heap} {sz n : Nat} {p : Pl} {cells : List Value} (H : Cells S h sz p n cells) (hn : n ≠ 0) : ∃ b o, p.1 = some ⟨b, o, none⟩ ∧ S b ∧ b < h.length := by
  obtain ⟨h1, h2, ⟨h3, h4⟩ | ⟨b, o, cs, wr, gr, e1, e2, e3, _⟩⟩ := H
  · omega
  · exact ⟨b, o, e1, e2, (List.getElem?_eq_some_iff.1 e3).1⟩
theorem Cells.at4 {S : Nat → Prop} {h : Heap} {n : Nat} {p : Pl} {gs : List G} {ps : List Pl} (H : Cells S h 4 p n (flat gs ps)) (hn : gs.length = n) (e : ps.length = gs.length) {b o j : Nat} (hp : p.1 = some ⟨b, o, none⟩) (h1 : j < gs.length) (h2 : j < ps.length) : rowGet h ⟨b, o + j * 4, none⟩ 4 = some (gcells gs[j] ps[j]) := by
  obtain ⟨b1, o1, e1, e2⟩ := H.row (j := j * 4) (k := 4) (by decide) (by omega)
  rw [hp] at e1
  injection e1 with e1
  injection e1 with e3 e4
  subst e3 e4
  rw [flat_at _ _ e j h1 h2] at e2
  exact e2
/-- A list of gates that is written where it lies. -/
structure RI (H : Heap) (S : Nat → Prop) (p : Pl) (n : Nat) (K : Heap) (gs : List G) (ps : List Pl) : Prop where
  len : K.length = H.length
  keep : ∀ x, offP p x → K[x]? = H[x]?
  row : ∀ a, p.1 = some a → ∃ cs gr, K[a.block]? = some (.row cs true gr)
  e1 : gs.length = n
  e2 : ps.length = n
  cells : Cells S K 4 p n (flat gs ps)
theorem RI.wr {H : Heap} {S : Nat → Prop} {p : Pl} {n : Nat} {K : Heap} {gs : List G} {ps : List Pl} (I : RI H S p n K gs ps) {b o : Nat} {cs l : List Value} {gr : Option Nat} {gs' : List G} {ps' : List Pl} (hp : p.1 = some ⟨b, o, none⟩) (hrow : K[b]? = some (.row cs true gr)) {j : Nat} (hj : j + l.length ≤ n * 4) (hn : n ≠ 0) (e1 : gs'.length = n) (e2 : ps'.length = n) (hc : (flat gs ps).take j ++ l ++ (flat gs ps).drop (j + l.length) = flat gs' ps') :
    o + j + l.length ≤ cs.length ∧ RI H S p n (K.set b (.row (cs.take (o + j) ++ l ++ cs.drop (o + j + l.length)) true gr)) gs' ps' := by
  obtain ⟨w1, w2⟩ := I.cells.write (l := l) hp hrow hj hn
  refine ⟨w1, ?_, fun x hx => ?_, fun a ha => ?_, e1, e2, by rw [← hc]; exact w2⟩
  · rw [List.length_set]; exact I.len
  · rw [List.getElem?_set_ne (hx _ hp)]; exact I.keep x hx
  · rw [hp] at ha
    injection ha with ha
    subst ha
    exact ⟨_, _, List.getElem?_set_self (List.getElem?_eq_some_iff.1 hrow).1⟩
theorem RI.put {H : Heap} {S : Nat → Prop} {p : Pl} {n : Nat} {K : Heap} {gs : List G} {ps : List Pl} (I : RI H S p n K gs ps) {b o : Nat} {cs : List Value} {gr : Option Nat} (hp : p.1 = some ⟨b, o, none⟩) (hrow : K[b]? = some (.row cs true gr)) {j : Nat} (hj : j < n) (g : G) (q : Pl) :
    o + j * 4 + 4 ≤ cs.length ∧ RI H S p n (K.set b (.row (cs.take (o + j * 4) ++ gcells g q ++ cs.drop (o + j * 4 + 4)) true gr)) (gs.set j g) (ps.set j q) :=
  I.wr (l := gcells g q) hp hrow (by simp; omega) (by omega) (by rw [List.length_set]; exact I.e1) (by rw [List.length_set]; exact I.e2) (flat_set (by rw [I.e1, I.e2]) (by rw [I.e1]; exact hj) g q)
/-- The first k and the last k have changed places. -/
def RevTo {α : Type} (l0 l : List α) (k : Nat) : Prop := ∀ x, x < l0.length → l[x]? = if x < k ∨ l0.length ≤ x + k then l0[l0.length - 1 - x]? else l0[x]?
theorem RevTo.step {α : Type} {l0 l : List α} {k j : Nat} (R : RevTo l0 l k) (hl : l.length = l0.length) (hk : k < j) (hj : j + k + 1 = l0.length) (h1 : k < l.length) (h2 : j < l.length) : RevTo l0 ((l.set k l[j]).set j l[k]) (k + 1) := by
  intro x hx
  have rk := R k (by omega)
  have rj := R j (by omega)
  rw [if_neg (by omega), List.getElem?_eq_getElem h1] at rk
  rw [if_neg (by omega), List.getElem?_eq_getElem h2] at rj
  rw [List.getElem?_set, List.getElem?_set]
  by_cases x1 : j = x
  · subst x1
    rw [if_pos rfl, if_pos (by simpa using h2), if_pos (by omega), rk, show l0.length - 1 - j = k by omega]
  · rw [if_neg x1]
    by_cases x2 : k = x
    · subst x2
      rw [if_pos rfl, if_pos h1, if_pos (by omega), rj, show l0.length - 1 - k = j by omega]
    · rw [if_neg x2, R x hx]
      by_cases c : x < k ∨ l0.length ≤ x + k
      · rw [if_pos c, if_pos (by omega)]
      · rw [if_neg c, if_neg (by omega)]
theorem RevTo.done {α : Type} {l0 l : List α} {k : Nat} (R : RevTo l0 l k) (hl : l.length = l0.length) (hk : l0.length ≤ 2 * k + 1) : l = l0.reverse := by
  apply List.ext_getElem?
  intro x
  by_cases hx : x < l0.length
  · rw [R x hx, List.getElem?_reverse hx]
    split
    · rfl
    · rw [show l0.length - 1 - x = x by omega]
  · rw [List.getElem?_eq_none (by omega), List.getElem?_eq_none (by simp; omega)]
theorem reverse_ret (H : Heap) (p : Pl) (gs : List G) (ps : List Pl) {S : Nat → Prop} (I0 : RI H S p gs.length H gs ps) (hl : gs.length < 4294967296) :
    ∃ K', Ret (tab Tryd.prog) 59 [.slice p.1 gs.length p.2] H (.tuple #[]) K' ∧ RI H S p gs.length K' gs.reverse ps.reverse := by
  have key : ACall (tab Tryd.prog) 59 [.slice p.1 gs.length p.2] H fun u k => u = .tuple #[] ∧ ∃ Kf, k = forget H (.tuple #[]) Kf ∧ RI H S p gs.length Kf gs.reverse ps.reverse := by
    refine ACall_ownR k84 rfl ?_
    refine AX_seq (AX_E (E_mv (v := .slice _ _ _) rfl (E_len (n := (gs).length) rfl (E_subI rfl rfl (by first | omega | (simp; done) | (simp; omega)) (by first | omega | (simp; done) | (simp; omega)) (E_mv (v := .int .i64 (0)) rfl (E_mv (v := .int .i64 (((gs).length - 1))) rfl (E_nil (AX_block ?_))))))))
    refine AX_loopF (γ := Nat × Int × List G × List Pl) (fun x => [(0, .slice p.1 gs.length p.2), (2, .int .i64 ((x.1 : Int))), (3, .int .i64 (x.2.1))]) (fun x h_ m_ => (m_ = [] ∧ RI H S p gs.length h_ x.2.2.1 x.2.2.2) ∧ (x.2.1 = (gs.length : Int) - 1 - x.1 ∧ x.1 ≤ gs.length ∧ RevTo gs x.2.2.1 x.1 ∧ RevTo ps x.2.2.2 x.1)) (fun x => gs.length - x.1) (0, (gs.length : Int) - 1, gs, ps) ⟨rfl, rfl, rfl, trivial⟩ ⟨?_, ?_⟩ ?_
    · exact ⟨rfl, by rw [List.append_nil]; exact I0⟩
    · dsimp only
      exact ⟨by omega, by omega, fun x hx => by rw [if_neg (by omega)], fun x hx => by rw [if_neg (by omega)]⟩
    rintro ⟨k, z, g1, q1⟩ fr0 KH0 mk0 ⟨hI0, inv0⟩ Kk0 hN0 hR0 hE0
    try dsimp only at hI0 inv0
    obtain ⟨rfl, R⟩ := hI0
    obtain ⟨hz, hk, v1, v2⟩ := inv0
    have a1 := R.e1
    have a2 := R.e2
    have a3 := I0.e2
    refine AX_nil ?_
    refine AX_seq (AX_seq (AX_E (E_mv (v := .int .i64 ((k : Int))) rfl (E_mv (v := .int .i64 (z)) rfl (E_lssS rfl rfl (fun c9 => ?_) (fun c9 => ?_))))))
    · refine E_nil (AX_condT rfl (AX_skip (AX_seq (AX_block (AX_E ?_)))))
      obtain ⟨jj, rfl⟩ : ∃ jj : Nat, z = (jj : Int) := ⟨z.toNat, by omega⟩
      obtain ⟨b, o, hp, _, hb⟩ := R.cells.some' (by omega)
      obtain ⟨cs, gr, hrow⟩ := R.row _ hp
      have h1 : k < g1.length := by omega
      have h2 : jj < g1.length := by omega
      have h3 : k < q1.length := by omega
      have h4 : jj < q1.length := by omega
      have fj := R.cells.at4 a1 (by omega) hp h2 h4
      have fk := R.cells.at4 a1 (by omega) hp h1 h3
      obtain ⟨w1, R2⟩ := R.put hp hrow (j := k) (by omega) g1[jj] q1[jj]
      obtain ⟨K2, hK2⟩ : ∃ K : Heap, K = KH0.set b (.row (cs.take (o + k * 4) ++ gcells g1[jj] q1[jj] ++ cs.drop (o + k * 4 + 4)) true gr) := ⟨_, rfl⟩
      rw [← hK2] at R2
      obtain ⟨cs2, gr2, hrow2⟩ := R2.row _ hp
      obtain ⟨w2, _⟩ := R2.put hp hrow2 (j := jj) (by omega) g1[k] q1[k]
      refine E_mv (v := .slice _ _ _) rfl (E_mv (v := .int .i64 ((k : Int))) rfl (E_mv (v := .slice _ _ _) rfl (E_mv (v := .int .i64 ((jj : Int))) rfl (E_mv (v := .slice _ _ _) rfl (E_mv (v := .int .i64 ((jj : Int))) rfl (E_iaS (congrArg (fun a => Value.slice a gs.length p.2) hp) rfl (by omega) (by omega) (E_ldBN rfl fj (E_mv (v := .slice _ _ _) rfl (E_mv (v := .int .i64 ((k : Int))) rfl (E_iaS (congrArg (fun a => Value.slice a gs.length p.2) hp) rfl (by omega) (by omega) (E_ldBN rfl fk (E_iaS (congrArg (fun a => Value.slice a gs.length p.2) hp) rfl (by omega) (by omega) (E_stX (l := gcells g1[jj] q1[jj]) (v := .agg _) rfl rfl rfl rfl ((congrArg (fun h : Heap => h[b]?) (List.append_nil _)).trans hrow) (by simpa using w1) rfl rfl fun K2' hK2' => ?_)))))))))))))
      obtain rfl : K2' = K2 := by rw [hK2', hK2, List.append_nil]; rfl
      refine E_iaS (congrArg (fun a => Value.slice a gs.length p.2) hp) rfl (by omega) (by omega) (E_stX (l := gcells g1[k] q1[k]) (v := .agg _) rfl rfl rfl rfl ((congrArg (fun h : Heap => h[b]?) (List.append_nil _)).trans hrow2) (by simpa using w2) rfl rfl fun K3 hK3 => ?_)
      rw [List.append_nil] at hK3
      refine E_nil (AX_E (E_mv (v := .int .i64 ((k : Int))) rfl (E_addI rfl rfl (by first | omega | (simp; done) | (simp; omega)) (by first | omega | (simp; done) | (simp; omega)) (E_mv (v := .int .i64 ((jj : Int))) rfl (E_subI rfl rfl (by first | omega | (simp; done) | (simp; omega)) (by first | omega | (simp; done) | (simp; omega)) (E_mv (v := .int .i64 (((k : Int) + 1))) rfl (E_mv (v := .int .i64 (((jj : Int) - 1))) rfl (E_nil ?_))))))))
      refine hN0 (k + 1, (jj : Int) - 1, (g1.set k g1[jj]).set jj g1[k], (q1.set k q1[jj]).set jj q1[k]) _ _ _ ⟨by first | rfl | (congr 1; omega), by first | rfl | (congr 1; omega), by first | rfl | (congr 1; omega), trivial⟩ ⟨?_, ?_⟩ ?_
      all_goals clear hN0 hR0 hE0
      · refine ⟨rfl, ?_⟩
        rw [List.append_nil]
        have := (R2.put hp hrow2 (j := jj) (by omega) g1[k] q1[k]).2
        rw [hK3]
        exact this
      · dsimp only
        exact ⟨by omega, by omega, v1.step a1 (by omega) (by omega) (by omega) (by omega), v2.step (by omega) (by omega) (by omega) (by omega) (by omega)⟩
      · omega
    · refine E_nil (AX_condF rfl (AX_exit (hE0 _ _ _ _ ?_)))
      refine ⟨.tuple #[], rfl, by simp, rfl, _, rfl, ?_⟩
      rw [List.append_nil, ← v1.done a1 (by omega), ← v2.done (by omega) (by omega)]
      exact R
  obtain ⟨n, u, k, e, rfl, Kf, rfl, R⟩ := key
  refine ⟨_, ⟨n, e⟩, ?_⟩
  have : forget H (.tuple #[]) Kf = Kf := by
    unfold forget; split
    · rename_i hx
      obtain ⟨t, ht⟩ := hx.2
      have hlen := congrArg List.length ht
      rw [List.length_append, R.len] at hlen
      have : t = [] := List.length_eq_zero_iff.1 (by omega)
      rw [← ht, this, List.append_nil]
    · rfl
  rw [this]
  exact R
end Go.Canon
