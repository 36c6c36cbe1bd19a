/- CircOrders, part 5: the canonical machine and the runs of the program's functions on it. No conditions. -/
import Derived.Test.YtpbamjaldnhamaaOrP4
namespace Go.Canon
open Go Go.Proofs
set_option linter.unusedVariables false
set_option linter.unusedSimpArgs false
def freeTo (l : List G) (i k : Nat) : Prop := ∀ j, j < k → commM (l.getD j default) (l.getD i default)
instance (l : List G) (i k : Nat) : Decidable (freeTo l i k) := by unfold freeTo; infer_instance
theorem freeTo_succ {l : List G} {i k : Nat} : freeTo l i (k + 1) ↔ freeTo l i k ∧ commM (l.getD k default) (l.getD i default) := by
  unfold freeTo
  constructor
  · intro H; exact ⟨fun j hj => H j (by omega), H k (by omega)⟩
  · rintro ⟨H, h⟩ j hj
    by_cases e : j = k
    · subst e; exact h
    · exact H j (by omega)
/-- The gate that is taken next, of the first so many: -1 if there is none. -/
def nextM (l : List G) : Nat → Int
  | 0 => -1
  | i + 1 => if freeTo l i i ∧ (nextM l i < 0 ∨ beforeM (l.getD i default) (l.getD (nextM l i).toNat default)) then (i : Int) else nextM l i
theorem nextM_lt (l : List G) : ∀ i, -1 ≤ nextM l i ∧ nextM l i < i
  | 0 => by simp [nextM]
  | i + 1 => by
    have := nextM_lt l i
    unfold nextM
    split <;> omega
theorem nextM_pos (l : List G) : ∀ i, 0 < i → 0 ≤ nextM l i
  | 1, _ => by
    have : freeTo l 0 0 := fun j hj => by omega
    simp [nextM, this]
  | i + 2, _ => by
    have := nextM_pos l (i + 1) (by omega)
    unfold nextM
    split <;> omega
theorem next_take {l : List G} {i : Nat} (h1 : freeTo l i i) (h2 : nextM l i < 0 ∨ beforeM (l.getD i default) (l.getD (nextM l i).toNat default)) : nextM l (i + 1) = i := by rw [nextM, if_pos ⟨h1, h2⟩]
theorem next_skip {l : List G} {i : Nat} (h : ¬ (freeTo l i i ∧ (nextM l i < 0 ∨ beforeM (l.getD i default) (l.getD (nextM l i).toNat default)))) : nextM l (i + 1) = nextM l i := by rw [nextM, if_neg h]
theorem before_getD {l : List G} {i j : Nat} (hi : i < l.length) (hj : j < l.length) (h : beforeM l[i] l[j]) : beforeM (l.getD i default) (l.getD j default) := by rwa [getG_at hi, getG_at hj]
theorem before_getD2 {l : List G} {i j : Nat} (hi : i < l.length) (hj : j < l.length) (h : beforeM (l.getD i default) (l.getD j default)) : beforeM l[i] l[j] := by rwa [getG_at hi, getG_at hj] at h
def tidyL : Nat → List G → List G
  | 0, _ => []
  | n + 1, l => l.getD (nextM l l.length).toNat default :: tidyL n (l.eraseIdx (nextM l l.length).toNat)
def tidyM (c : C) : C := ⟨c.w, c.b, tidyL c.gs.length c.gs⟩
theorem tidyL_mem : ∀ (n : Nat) (l : List G), l.length = n → ∀ g ∈ tidyL n l, g ∈ l
  | 0, _, _, g, h => by simp [tidyL] at h
  | n + 1, l, hl, g, h => by
    have h1 := nextM_lt l l.length
    have h2 := nextM_pos l l.length (by omega)
    rw [tidyL, List.mem_cons] at h
    rcases h with rfl | h
    · rw [getG_at (show (nextM l l.length).toNat < l.length by omega)]; exact List.getElem_mem _
    · exact List.mem_of_mem_eraseIdx (tidyL_mem n _ (by rw [List.length_eraseIdx_of_lt (by omega)]; omega) g h)
theorem tidyL_len : ∀ (n : Nat) (l : List G), (tidyL n l).length = n
  | 0, _ => rfl
  | n + 1, l => by rw [tidyL, List.length_cons, tidyL_len]
theorem tidyL_step {l : List G} {b : Nat} (hb : nextM l l.length = (b : Int)) (hbl : b < l.length) : tidyL l.length l = l[b] :: tidyL (l.eraseIdx b).length (l.eraseIdx b) := by
  have h1 : (l.eraseIdx b).length = l.length - 1 := List.length_eraseIdx_of_lt hbl
  obtain ⟨m, hm⟩ : ∃ m, l.length = m + 1 := ⟨l.length - 1, by omega⟩
  have h2 : (l.eraseIdx b).length = m := by omega
  rw [h2, hm, tidyL, hb, Int.toNat_natCast, getG_at hbl]
def kf10 : KFunc := ⟨1, 76, [.cell 2 (some 3)], .seq (.reg [⟨some 1, .box (.t 0), none⟩, ⟨some 2, .new [.int .i64 0, .int .i64 0, .slice none 0 0], none⟩] []) (.seq (.reg [⟨some 9, .mkS [] 0 [], none⟩, ⟨some 10, .fa (.t 1) 2, none⟩, ⟨some 11, .ld (.t 10) none, none⟩, ⟨some 12, .app (.t 9) (.t 11) 4 48, none⟩, ⟨some 3, .mv (.t 12), none⟩] []) (.seq (.reg [⟨some 4, .mv (.c (.slice none 0 0)), none⟩] []) (.seq (.block 0 (.loop (.seq (.seq (.reg [⟨some 13, .mv (.t 3), none⟩, ⟨some 14, .len (.t 13), none⟩, ⟨some 15, .bin .gtr (.t 14) (.c (.int .i64 0)), none⟩] []) (.cond (.t 15) .skip (.exit 0))) (.block 1 (.seq (.reg [⟨some 5, .mv (.c (.int .i64 (-1))), none⟩] []) (.seq (.seq (.reg [⟨some 6, .mv (.c (.int .i64 0)), none⟩] []) (.block 2 (.loop (.seq (.seq (.reg [⟨some 16, .mv (.t 6), none⟩, ⟨some 17, .mv (.t 3), none⟩, ⟨some 18, .len (.t 17), none⟩, ⟨some 19, .bin .lss (.t 16) (.t 18), none⟩] []) (.cond (.t 19) .skip (.exit 2))) (.seq (.block 3 (.seq (.reg [⟨some 7, .mv (.c (.bool true)), none⟩] []) (.seq (.seq (.reg [⟨some 8, .mv (.c (.int .i64 0)), none⟩] []) (.block 4 (.loop (.seq (.seq (.reg [⟨some 22, .mv (.t 8), none⟩, ⟨some 23, .mv (.t 6), none⟩, ⟨some 24, .bin .lss (.t 22) (.t 23), none⟩] []) (.cond (.t 24) .skip (.exit 4))) (.seq (.block 5 (.reg [⟨some 27, .mv (.t 7), none⟩, ⟨some 28, .mv (.t 27), none⟩, ⟨some 29, .mv (.t 3), some (28, true)⟩, ⟨some 30, .mv (.t 8), some (28, true)⟩, ⟨some 31, .iaS (.t 29) (.t 30) 4, some (28, true)⟩, ⟨some 32, .ld (.t 31) (some 4), some (28, true)⟩, ⟨some 33, .mv (.t 3), some (28, true)⟩, ⟨some 34, .mv (.t 6), some (28, true)⟩, ⟨some 35, .iaS (.t 33) (.t 34) 4, some (28, true)⟩, ⟨some 36, .ld (.t 35) (some 4), some (28, true)⟩, ⟨some 37, .call (.c (.func (.func 12) #[] #[])) [.t 32, .t 36], some (28, true)⟩, ⟨some 38, .pick (.t 28) (.t 37) (.c (.bool false)), none⟩, ⟨some 7, .mv (.t 38), none⟩] [])) (.reg [⟨some 25, .mv (.t 8), none⟩, ⟨some 26, .bin .add (.t 25) (.c (.int .i64 1)), none⟩, ⟨some 8, .mv (.t 26), none⟩] [])))))) (.seq (.reg [⟨some 39, .mv (.t 7), none⟩, ⟨some 40, .mv (.t 39), none⟩, ⟨some 41, .mv (.t 5), some (40, true)⟩, ⟨some 42, .bin .lss (.t 41) (.c (.int .i64 0)), some (40, true)⟩, ⟨some 43, .mv (.t 42), some (40, true)⟩, ⟨some 44, .mv (.t 3), some (43, false)⟩, ⟨some 45, .mv (.t 6), some (43, false)⟩, ⟨some 46, .iaS (.t 44) (.t 45) 4, some (43, false)⟩, ⟨some 47, .ld (.t 46) (some 4), some (43, false)⟩, ⟨some 48, .mv (.t 3), some (43, false)⟩, ⟨some 49, .mv (.t 5), some (43, false)⟩, ⟨some 50, .iaS (.t 48) (.t 49) 4, some (43, false)⟩, ⟨some 51, .ld (.t 50) (some 4), some (43, false)⟩, ⟨some 52, .call (.c (.func (.func 54) #[] #[])) [.t 47, .t 51], some (43, false)⟩, ⟨some 53, .pick (.t 43) (.c (.bool true)) (.t 52), some (40, true)⟩, ⟨some 54, .pick (.t 40) (.t 53) (.c (.bool false)), none⟩] []) (.cond (.t 54) (.reg [⟨some 55, .mv (.t 6), none⟩, ⟨some 5, .mv (.t 55), none⟩] []) .skip))))) (.reg [⟨some 20, .mv (.t 6), none⟩, ⟨some 21, .bin .add (.t 20) (.c (.int .i64 1)), none⟩, ⟨some 6, .mv (.t 21), none⟩] [])))))) (.seq (.reg [⟨some 56, .mv (.t 4), none⟩, ⟨some 57, .mv (.t 3), none⟩, ⟨some 58, .mv (.t 5), none⟩, ⟨some 59, .iaS (.t 57) (.t 58) 4, none⟩, ⟨some 60, .ld (.t 59) (some 4), none⟩, ⟨some 61, .mkS [.int .i64 0, .slice none 0 0, .int .i64 0, .int .i64 0] 1 [(0, 4, .t 60)], none⟩, ⟨some 62, .app (.t 56) (.t 61) 4 48, none⟩, ⟨some 4, .mv (.t 62), none⟩] []) (.reg [⟨some 63, .mkS [] 0 [], none⟩, ⟨some 64, .mv (.t 3), none⟩, ⟨some 65, .mv (.t 5), none⟩, ⟨some 66, .slS (.t 64) none (some (.t 65)) none 4, none⟩, ⟨some 67, .app (.t 63) (.t 66) 4 48, none⟩, ⟨some 68, .mv (.t 3), none⟩, ⟨some 69, .mv (.t 5), none⟩, ⟨some 70, .bin .add (.t 69) (.c (.int .i64 1)), none⟩, ⟨some 71, .slS (.t 68) (some (.t 70)) none none 4, none⟩, ⟨some 72, .app (.t 67) (.t 71) 4 48, none⟩, ⟨some 3, .mv (.t 72), none⟩] [(4, 8)])))))))) (.seq (.reg [⟨some 73, .ld (.t 1) (some 3), none⟩, ⟨some 74, .mv (.t 4), none⟩, ⟨some 75, .call (.c (.func (.func 55) #[] #[])) [.t 73, .t 74], none⟩, ⟨none, .st (.t 2) (.t 75) 3, none⟩] []) .ret))))⟩
theorem k10 : tab Try.prog 10 = some kf10 := by kernel_rfl
theorem tidy_ret (H : Heap) (c : C) (p : Pl) {S : Nat → Prop} (hv : Gates S H p c.gs) (hr : CR c) : ∃ X p', Ret (tab Try.prog) 10 [cv c p] H (cv (tidyM c) p') (H ++ X) ∧ GatesZ H.length X p' (tidyM c).gs := by
  have key := Ret_grow (T := tab Try.prog) (f := 10) (args := [cv c p]) (h := H) (fun u X => ∃ p' : Pl, u = cv (tidyM c) p' ∧ GatesZ H.length X p' (tidyM c).gs) k10 rfl ?_
  · obtain ⟨u, X, hr, p', rfl, f1⟩ := key
    exact ⟨X, p', hr, f1⟩
  have hn := hr.n0
  obtain ⟨ps0, hps0, hC0, hI0⟩ := id hv
  refine AX_seq (AX_E (E_boxA rfl (E_new (E_nil (AX_seq (AX_E (E_mkS (cs := []) rfl (E_fa rfl (E_ldO (k := 0) (v := .slice _ _ _) rfl rfl (E_app0 (k := 2) rfl rfl rfl (hC0.app).first (by simp only [roomB]; omega) (flat_len _ _ hps0) fun W q0 hW => (E_mv (v := .slice _ _ _) rfl (E_nil (AX_seq (AX_E (E_mv (v := .slice _ _ _) rfl (E_nil (AX_seq (AX_block ?_))))))))))))))))))
  refine AX_loopF (γ := List G × Pl × List G × Pl) (fun x => [(1, .pointer (some ⟨(H).length + 0, 0, none⟩)), (2, .pointer (some ⟨(H).length + 1, 0, none⟩)), (3, .slice (x.2.1).1 (x.1).length (x.2.1).2), (4, .slice (x.2.2.2).1 (x.2.2.1).length (x.2.2.2).2)]) (fun x h_ m_ => (∃ z_, h_ = H ++ ([CO.row [.int .i64 (c.w), .int .i64 (c.b), .slice (p).1 (c.gs).length (p).2] true none, CO.row [.int .i64 (0), .int .i64 (0), .slice none 0 0] true none] ++ z_) ∧ (Lst H (H.length + 2) z_ x.2.1 x.1 ∧ Lst H (H.length + 2) z_ x.2.2.2 x.2.2.1 ∧ dis x.2.1 x.2.2.2)) ∧ m_ = [] ∧ ((∀ g ∈ x.1, g ∈ c.gs) ∧ x.2.2.1 ++ tidyL (x.1).length x.1 = tidyL c.gs.length c.gs ∧ (x.1).length ≤ c.gs.length ∧ (x.2.2.1).length ≤ c.gs.length)) (fun x => (x.1).length) (c.gs, q0, [], (none, 0)) ⟨rfl, rfl, rfl, rfl, trivial⟩ ⟨⟨([CO.row [] true none] ++ W), rfl, ⟨Lst.lit hps0 hI0 hW rfl rfl, Lst.nil, dis_nil⟩⟩, rfl, ?_⟩ ?_
  · simp
  rintro ⟨lf, p1, ot, p2⟩ fr0 h0 m0 ⟨⟨z0, rfl, zf0⟩, rfl, inv0⟩ K0 hN0 hR0 hE0
  try dsimp only at zf0 inv0
  obtain ⟨ps1, hps1, hG1, hI1⟩ := id zf0.1
  obtain ⟨hmem, htd, hln, hlo⟩ := inv0
  have hgr : ∀ g ∈ lf, GR g := fun g hg => hr.gr (hmem g hg)
  refine AX_nil ?_
  refine AX_seq (AX_seq (AX_E (E_mv (v := .slice _ _ _) rfl (E_len (n := (lf).length) rfl (E_gtrS rfl rfl (fun c15 => ?_) (fun c15 => ?_))))))
  · refine E_nil (AX_condT rfl (AX_skip (AX_block (AX_seq (AX_E (E_mv (v := .int .i64 ((-1))) rfl (E_nil (AX_seq (AX_seq (AX_E (E_mv (v := .int .i64 (0)) rfl (E_nil (AX_block ?_)))))))))))))
    refine AX_loopF (γ := Nat) (fun i => [(1, .pointer (some ⟨(H).length + 0, 0, none⟩)), (2, .pointer (some ⟨(H).length + 1, 0, none⟩)), (3, .slice (p1).1 (lf).length (p1).2), (4, .slice (p2).1 (ot).length (p2).2), (5, .int .i64 (nextM lf i)), (6, .int .i64 ((i : Int)))]) (fun i h_ m_ => h_ = (H ++ ([CO.row [.int .i64 (c.w), .int .i64 (c.b), .slice (p).1 (c.gs).length (p).2] true none, CO.row [.int .i64 (0), .int .i64 (0), .slice none 0 0] true none] ++ z0)) ++ [] ∧ m_ = [] ∧ i ≤ lf.length) (fun i => lf.length - i) (0) ⟨rfl, rfl, rfl, rfl, rfl, rfl, trivial⟩ ⟨rfl, rfl, ?_⟩ ?_
    · simp
    rintro i fr2 h2 m2 ⟨rfl, rfl, inv2⟩ K2 hN2 hR2 hE2
    refine AX_seq (AX_seq (AX_E (E_mv (v := .int .i64 ((i : Int))) rfl (E_mv (v := .slice _ _ _) rfl (E_len (n := (lf).length) rfl (E_lssS rfl rfl (fun c19 => ?_) (fun c19 => ?_)))))))
    · refine E_nil (AX_condT rfl (AX_skip (AX_seq (AX_block (AX_seq (AX_E (E_mv (v := .bool _) rfl (E_nil (AX_seq (AX_seq (AX_E (E_mv (v := .int .i64 (0)) rfl (E_nil (AX_block ?_))))))))))))))
      refine AX_loopF (γ := Nat) (fun k => [(1, .pointer (some ⟨(H).length + 0, 0, none⟩)), (2, .pointer (some ⟨(H).length + 1, 0, none⟩)), (3, .slice (p1).1 (lf).length (p1).2), (4, .slice (p2).1 (ot).length (p2).2), (5, .int .i64 (nextM lf i)), (6, .int .i64 ((i : Int))), (7, .bool (decide (freeTo lf i k))), (8, .int .i64 ((k : Int)))]) (fun k h_ m_ => h_ = (H ++ ([CO.row [.int .i64 (c.w), .int .i64 (c.b), .slice (p).1 (c.gs).length (p).2] true none, CO.row [.int .i64 (0), .int .i64 (0), .slice none 0 0] true none] ++ z0)) ++ [] ∧ m_ = [] ∧ k ≤ i) (fun k => i - k) (0) ⟨rfl, rfl, rfl, rfl, rfl, rfl, (congrArg Value.bool (decide_eq_true (fun j hj => by omega)).symm), rfl, trivial⟩ ⟨rfl, rfl, ?_⟩ ?_
      · simp
      rintro k fr4 h4 m4 ⟨rfl, rfl, inv4⟩ K4 hN4 hR4 hE4
      refine AX_seq (AX_seq (AX_E (E_mv (v := .int .i64 ((k : Int))) rfl (E_mv (v := .int .i64 ((i : Int))) rfl (E_lssS rfl rfl (fun c24 => ?_) (fun c24 => ?_))))))
      · refine E_nil (AX_condT rfl (AX_skip (AX_seq (AX_block (AX_E (E_mv (v := .bool _) rfl (E_bs (fun c27 => ?_) (fun c27 => ?_))))))))
        · refine E_mv (v := .bool _) rfl (E_on rfl (E_mv (v := .slice _ _ _) rfl (E_on rfl (E_mv (v := .int .i64 ((k : Int))) rfl (E_on rfl (have ix1 : k < (lf).length := (by first | omega | (simp; done) | (simp; omega)); have iy1 : k < ps1.length := (by omega); E_iaPb (j := k) rfl (hG1.at (by simp)) rfl hps1 rfl rfl ix1 iy1 fun b1 o1 w1 => (E_on rfl (E_ldBN rfl w1 (E_on rfl (E_mv (v := .slice _ _ _) rfl (E_on rfl (E_mv (v := .int .i64 ((i : Int))) rfl (E_on rfl (have ix2 : i < (lf).length := (by first | omega | (simp; done) | (simp; omega)); have iy2 : i < ps1.length := (by omega); E_iaPb (j := i) rfl (hG1.at (by simp)) rfl hps1 rfl rfl ix2 iy2 fun b2 o2 w2 => (E_on rfl (E_ldBN rfl w2 (E_on rfl (E_callP rfl (comm_ret _ (lf[k]'ix1) (lf[i]'ix2) _ _ (hI1 (k) ix1 iy1).app.app (hI1 (i) ix2 iy2).app.app (hgr _ (List.getElem_mem _)) (hgr _ (List.getElem_mem _))) (fun c37 => ?_) (fun c37 => ?_)))))))))))))))))))
          · refine E_pickT rfl (v := .bool _) rfl (E_mv (v := .bool _) rfl (E_nil (AX_E (E_mv (v := .int .i64 ((k : Int))) rfl (E_addI rfl rfl (by first | omega | (simp; done) | (simp; omega)) (by first | omega | (simp; done) | (simp; omega)) (E_mv (v := .int .i64 (((k : Int) + 1))) rfl (E_nil ?_)))))))
            refine hN4 (k + 1) _ _ _ ⟨by first | rfl | (congr 1; omega), by first | rfl | (congr 1; omega), by first | rfl | (congr 1; omega), by first | rfl | (congr 1; omega), by first | rfl | (congr 1; omega), by first | rfl | (congr 1; omega), by first | exact congrArg Value.bool (decide_eq_true (freeTo_succ.2 ⟨by simpa using c27, by rw [getG_at (by omega), getG_at (by omega)]; exact c37⟩)).symm | exact congrArg Value.bool (decide_eq_false (fun x => c37 (by have := (freeTo_succ.1 x).2; rwa [getG_at (by omega), getG_at (by omega)] at this))).symm | exact congrArg Value.bool (decide_eq_false (fun x => by have := (freeTo_succ.1 x).1; simp_all)).symm, by first | rfl | (congr 1; omega), trivial⟩ ⟨rfl, rfl, ?_⟩ ?_
            -- n1
            all_goals clear hN0 hR0 hE0 hN2 hR2 hE2 hN4 hR4 hE4
            · omega
            · (first | omega | (simp; omega))
          · refine E_pickT rfl (v := .bool _) rfl (E_mv (v := .bool _) rfl (E_nil (AX_E (E_mv (v := .int .i64 ((k : Int))) rfl (E_addI rfl rfl (by first | omega | (simp; done) | (simp; omega)) (by first | omega | (simp; done) | (simp; omega)) (E_mv (v := .int .i64 (((k : Int) + 1))) rfl (E_nil ?_)))))))
            refine hN4 (k + 1) _ _ _ ⟨by first | rfl | (congr 1; omega), by first | rfl | (congr 1; omega), by first | rfl | (congr 1; omega), by first | rfl | (congr 1; omega), by first | rfl | (congr 1; omega), by first | rfl | (congr 1; omega), by first | exact congrArg Value.bool (decide_eq_true (freeTo_succ.2 ⟨by simpa using c27, by rw [getG_at (by omega), getG_at (by omega)]; exact c37⟩)).symm | exact congrArg Value.bool (decide_eq_false (fun x => c37 (by have := (freeTo_succ.1 x).2; rwa [getG_at (by omega), getG_at (by omega)] at this))).symm | exact congrArg Value.bool (decide_eq_false (fun x => by have := (freeTo_succ.1 x).1; simp_all)).symm, by first | rfl | (congr 1; omega), trivial⟩ ⟨rfl, rfl, ?_⟩ ?_
            -- n2
            all_goals clear hN0 hR0 hE0 hN2 hR2 hE2 hN4 hR4 hE4
            · omega
            · (first | omega | (simp; omega))
        · refine E_mv (v := .bool _) rfl (E_notT rfl (E_notT rfl (E_notT rfl (E_notT rfl (E_notT rfl (E_notT rfl (E_notT rfl (E_notT rfl (E_notT rfl (E_pickF rfl (v := .bool _) rfl (E_mv (v := .bool _) rfl (E_nil (AX_E (E_mv (v := .int .i64 ((k : Int))) rfl (E_addI rfl rfl (by first | omega | (simp; done) | (simp; omega)) (by first | omega | (simp; done) | (simp; omega)) (E_mv (v := .int .i64 (((k : Int) + 1))) rfl (E_nil ?_)))))))))))))))))
          refine hN4 (k + 1) _ _ _ ⟨by first | rfl | (congr 1; omega), by first | rfl | (congr 1; omega), by first | rfl | (congr 1; omega), by first | rfl | (congr 1; omega), by first | rfl | (congr 1; omega), by first | rfl | (congr 1; omega), by first | exact congrArg Value.bool (decide_eq_true (freeTo_succ.2 ⟨by simpa using c27, by rw [getG_at (by omega), getG_at (by omega)]; exact c37⟩)).symm | exact congrArg Value.bool (decide_eq_false (fun x => c37 (by have := (freeTo_succ.1 x).2; rwa [getG_at (by omega), getG_at (by omega)] at this))).symm | exact congrArg Value.bool (decide_eq_false (fun x => by have := (freeTo_succ.1 x).1; simp_all)).symm, by first | rfl | (congr 1; omega), trivial⟩ ⟨rfl, rfl, ?_⟩ ?_
          -- n3
          all_goals clear hN0 hR0 hE0 hN2 hR2 hE2 hN4 hR4 hE4
          · omega
          · (first | omega | (simp; omega))
      · refine E_nil (AX_condF rfl (AX_exit (hE4 _ _ _ _ ?_)))
        have e4 : freeTo lf i k = freeTo lf i i := by rw [show k = i by omega]
        refine AX_seq (AX_E (E_mv (v := .bool _) rfl (E_bs (fun c39 => ?_) (fun c39 => ?_))))
        · refine E_mv (v := .bool _) rfl (E_on rfl (E_mv (v := .int .i64 (nextM lf i)) rfl (E_on rfl (E_lssS rfl rfl (fun c42 => ?_) (fun c42 => ?_)))))
          · refine E_on rfl (E_mv (v := .bool _) rfl (E_notF rfl (E_notF rfl (E_notF rfl (E_notF rfl (E_notF rfl (E_notF rfl (E_notF rfl (E_notF rfl (E_notF rfl (E_on rfl (E_pickT rfl (v := .bool _) rfl (E_pickT rfl (v := .bool _) rfl (E_nil (AX_condT rfl (AX_E (E_mv (v := .int .i64 ((i : Int))) rfl (E_mv (v := .int .i64 ((i : Int))) rfl (E_nil (AX_E (E_mv (v := .int .i64 ((i : Int))) rfl (E_addI rfl rfl (by first | omega | (simp; done) | (simp; omega)) (by first | omega | (simp; done) | (simp; omega)) (E_mv (v := .int .i64 (((i : Int) + 1))) rfl (E_nil ?_))))))))))))))))))))))))
            refine hN2 (i + 1) _ _ _ ⟨by first | rfl | (congr 1; omega), by first | rfl | (congr 1; omega), by first | rfl | (congr 1; omega), by first | rfl | (congr 1; omega), by first | exact congrArg (Value.int _) (next_take (e4.mp (of_decide_eq_true c39)) (.inl c42)).symm | exact congrArg (Value.int _) (next_take (e4.mp (of_decide_eq_true c39)) (.inr (before_getD _ _ c52))).symm | exact congrArg (Value.int _) (next_skip (fun x => x.2.elim c42 (fun y => c52 (before_getD2 _ _ y)))).symm | exact congrArg (Value.int _) (next_skip (fun x => of_decide_eq_false c39 (e4.mpr x.1))).symm, by first | rfl | (congr 1; omega), trivial⟩ ⟨rfl, rfl, ?_⟩ ?_
            -- n4
            all_goals clear hN0 hR0 hE0 hN2 hR2 hE2 hN4 hR4 hE4
            · omega
            · (first | omega | (simp; omega))
          · refine E_on rfl (E_mv (v := .bool _) rfl (E_on rfl (E_mv (v := .slice _ _ _) rfl (E_on rfl (E_mv (v := .int .i64 ((i : Int))) rfl (E_on rfl (have ix3 : i < (lf).length := (by first | omega | (simp; done) | (simp; omega)); have iy3 : i < ps1.length := (by omega); E_iaPb (j := i) rfl (hG1.at (by simp)) rfl hps1 rfl rfl ix3 iy3 fun b3 o3 w3 => (E_on rfl (E_ldBN rfl w3 (E_on rfl (E_mv (v := .slice _ _ _) rfl (E_on rfl (E_mv (v := .int .i64 (nextM lf i)) rfl (E_on rfl (have ix4 : (nextM lf i).toNat < (lf).length := (by have := nextM_lt lf i; omega); have iy4 : (nextM lf i).toNat < ps1.length := (by omega); E_iaPb (j := (nextM lf i).toNat) rfl (hG1.at (by simp)) rfl hps1 rfl (by omega) ix4 iy4 fun b4 o4 w4 => (E_on rfl (E_ldBN rfl w4 (E_on rfl (E_callP rfl (before_ret _ (lf[i]'ix3) (lf[(nextM lf i).toNat]'ix4) _ _ (hI1 (i) ix3 iy3).app.app (hI1 ((nextM lf i).toNat) ix4 iy4).app.app (hgr _ (List.getElem_mem _)) (hgr _ (List.getElem_mem _))) (fun c52 => ?_) (fun c52 => ?_))))))))))))))))))))
            · refine E_on rfl (E_pickF rfl (v := .bool _) rfl (E_pickT rfl (v := .bool _) rfl (E_nil (AX_condT rfl (AX_E (E_mv (v := .int .i64 ((i : Int))) rfl (E_mv (v := .int .i64 ((i : Int))) rfl (E_nil (AX_E (E_mv (v := .int .i64 ((i : Int))) rfl (E_addI rfl rfl (by first | omega | (simp; done) | (simp; omega)) (by first | omega | (simp; done) | (simp; omega)) (E_mv (v := .int .i64 (((i : Int) + 1))) rfl (E_nil ?_)))))))))))))
              refine hN2 (i + 1) _ _ _ ⟨by first | rfl | (congr 1; omega), by first | rfl | (congr 1; omega), by first | rfl | (congr 1; omega), by first | rfl | (congr 1; omega), by first | exact congrArg (Value.int _) (next_take (e4.mp (of_decide_eq_true c39)) (.inl c42)).symm | exact congrArg (Value.int _) (next_take (e4.mp (of_decide_eq_true c39)) (.inr (before_getD _ _ c52))).symm | exact congrArg (Value.int _) (next_skip (fun x => x.2.elim c42 (fun y => c52 (before_getD2 _ _ y)))).symm | exact congrArg (Value.int _) (next_skip (fun x => of_decide_eq_false c39 (e4.mpr x.1))).symm, by first | rfl | (congr 1; omega), trivial⟩ ⟨rfl, rfl, ?_⟩ ?_
              -- n5
              all_goals clear hN0 hR0 hE0 hN2 hR2 hE2 hN4 hR4 hE4
              · omega
              · (first | omega | (simp; omega))
            · refine E_on rfl (E_pickF rfl (v := .bool _) rfl (E_pickT rfl (v := .bool _) rfl (E_nil (AX_condF rfl (AX_skip (AX_E (E_mv (v := .int .i64 ((i : Int))) rfl (E_addI rfl rfl (by first | omega | (simp; done) | (simp; omega)) (by first | omega | (simp; done) | (simp; omega)) (E_mv (v := .int .i64 (((i : Int) + 1))) rfl (E_nil ?_))))))))))
              refine hN2 (i + 1) _ _ _ ⟨by first | rfl | (congr 1; omega), by first | rfl | (congr 1; omega), by first | rfl | (congr 1; omega), by first | rfl | (congr 1; omega), by first | exact congrArg (Value.int _) (next_take (e4.mp (of_decide_eq_true c39)) (.inl c42)).symm | exact congrArg (Value.int _) (next_take (e4.mp (of_decide_eq_true c39)) (.inr (before_getD _ _ c52))).symm | exact congrArg (Value.int _) (next_skip (fun x => x.2.elim c42 (fun y => c52 (before_getD2 _ _ y)))).symm | exact congrArg (Value.int _) (next_skip (fun x => of_decide_eq_false c39 (e4.mpr x.1))).symm, by first | rfl | (congr 1; omega), trivial⟩ ⟨rfl, rfl, ?_⟩ ?_
              -- n6
              all_goals clear hN0 hR0 hE0 hN2 hR2 hE2 hN4 hR4 hE4
              · omega
              · (first | omega | (simp; omega))
        · refine E_mv (v := .bool _) rfl (E_notT rfl (E_notT rfl (E_notT rfl (E_notU rfl (E_notU rfl (E_notU rfl (E_notU rfl (E_notU rfl (E_notU rfl (E_notU rfl (E_notU rfl (E_notU rfl (E_notT rfl (E_pickF rfl (v := .bool _) rfl (E_nil (AX_condF rfl (AX_skip (AX_E (E_mv (v := .int .i64 ((i : Int))) rfl (E_addI rfl rfl (by first | omega | (simp; done) | (simp; omega)) (by first | omega | (simp; done) | (simp; omega)) (E_mv (v := .int .i64 (((i : Int) + 1))) rfl (E_nil ?_))))))))))))))))))))))
          refine hN2 (i + 1) _ _ _ ⟨by first | rfl | (congr 1; omega), by first | rfl | (congr 1; omega), by first | rfl | (congr 1; omega), by first | rfl | (congr 1; omega), by first | exact congrArg (Value.int _) (next_take (e4.mp (of_decide_eq_true c39)) (.inl c42)).symm | exact congrArg (Value.int _) (next_take (e4.mp (of_decide_eq_true c39)) (.inr (before_getD _ _ c52))).symm | exact congrArg (Value.int _) (next_skip (fun x => x.2.elim c42 (fun y => c52 (before_getD2 _ _ y)))).symm | exact congrArg (Value.int _) (next_skip (fun x => of_decide_eq_false c39 (e4.mpr x.1))).symm, by first | rfl | (congr 1; omega), trivial⟩ ⟨rfl, rfl, ?_⟩ ?_
          -- n7
          all_goals clear hN0 hR0 hE0 hN2 hR2 hE2 hN4 hR4 hE4
          · omega
          · (first | omega | (simp; omega))
    · refine E_nil (AX_condF rfl (AX_exit (hE2 _ _ _ _ ?_)))
      have el : i = lf.length := by omega
      have hb1 := nextM_lt lf lf.length
      have hb2 := nextM_pos lf lf.length (by omega)
      obtain ⟨b, hb⟩ : ∃ b : Nat, nextM lf lf.length = (b : Int) := ⟨(nextM lf lf.length).toNat, by omega⟩
      have hbi : nextM lf i = (b : Int) := by rw [el]; exact hb
      have hbl : b < lf.length := by omega
      refine AX_seq (AX_E (E_mv (v := .slice _ _ _) rfl (E_mv (v := .slice _ _ _) rfl (E_mv (v := .int .i64 (nextM lf i)) rfl (have ix5 : b < (lf).length := (by first | omega | (simp; done) | (simp; omega)); have iy5 : b < ps1.length := (by omega); E_iaPb (j := b) rfl (hG1.at (by simp)) rfl hps1 rfl (by first | rfl | omega) ix5 iy5 fun b5 o5 w5 => (E_ldBN rfl w5 (E_mkS (cs := [.int .i64 ((lf[b]'ix5).k), .slice ((ps1[b]'iy5)).1 ((lf[b]'ix5).ws).length ((ps1[b]'iy5)).2, .int .i64 ((lf[b]'ix5).b), .int .i64 ((lf[b]'ix5).f)]) rfl (E_appL (A := [CO.row [.int .i64 (c.w), .int .i64 (c.b), .slice (p).1 (c.gs).length (p).2] true none, CO.row [.int .i64 (0), .int .i64 (0), .slice none 0 0] true none]) (Z := (z0 ++ [CO.row [.int .i64 ((lf[b]'ix5).k), .slice ((ps1[b]'iy5)).1 ((lf[b]'ix5).ws).length ((ps1[b]'iy5)).2, .int .i64 ((lf[b]'ix5).b), .int .i64 ((lf[b]'ix5).f)] true none])) (gs' := ot ++ [lf[b]]) (by first | (simp only [List.append_assoc, List.append_nil, List.nil_append, List.cons_append, List.set_cons_zero, List.set_cons_succ]; done) | (simp only [List.append_assoc, List.append_nil, List.nil_append, List.cons_append, List.set_cons_zero, List.set_cons_succ]; rfl)) (rfl) (n := (H.length + 2)) (by simp) (zf0.2.1).app rfl rfl (rowGet_own (k := 0) rfl) (hI1 b (by omega) (by omega)) (by omega) rfl fun z6n p6n l6n k6n b6n => (E_mv (v := .slice _ _ _) rfl (E_nil (AX_E (E_mkS (cs := []) rfl (E_mv (v := .slice _ _ _) rfl (E_mv (v := .int .i64 (nextM lf i)) rfl ?_))))))))))))))
      obtain ⟨ps3, hps3, hG3, hI3⟩ := k6n _ _ zf0.1.app zf0.2.2
      refine E_slHi (j := b) rfl ((hG3.at (by simp)).app) rfl (by first | rfl | omega) (by omega) (E_app0 (k := 0) rfl rfl rfl (((hG3.at (by simp)).app).take (by omega)).first (by simp only [roomB]; omega) (((hG3.at (h := H) (L := [CO.row [.int .i64 (c.w), .int .i64 (c.b), .slice (p).1 (c.gs).length (p).2] true none, CO.row [.int .i64 (0), .int .i64 (0), .slice none 0 0] true none]) (by simp)).app (L := [])).take (by omega)).1 fun W3 q3 hW3 => E_nilR (E_mv (v := .slice _ _ _) rfl (E_mv (v := .int .i64 (nextM lf i)) rfl (E_addI rfl rfl (by first | omega | (simp; done) | (simp; omega)) (by first | omega | (simp; done) | (simp; omega)) (E_slLo (j := b + 1) rfl ((hG3.at (by simp)).app.app) rfl (by first | rfl | omega) (by omega) (E_app2 (Bs := (H ++ ([CO.row [.int .i64 (c.w), .int .i64 (c.b), .slice (p).1 (c.gs).length (p).2] true none, CO.row [.int .i64 (0), .int .i64 (0), .slice none 0 0] true none] ++ z6n))) (Z := [CO.row [] true none] ++ W3) (n := ((H ++ ([CO.row [.int .i64 (c.w), .int .i64 (c.b), .slice (p).1 (c.gs).length (p).2] true none, CO.row [.int .i64 (0), .int .i64 (0), .slice none 0 0] true none] ++ z6n))).length) (List.append_nil _) rfl (Grown.lit (((hG3.at (h := H) (L := [CO.row [.int .i64 (c.w), .int .i64 (c.b), .slice (p).1 (c.gs).length (p).2] true none, CO.row [.int .i64 (0), .int .i64 (0), .slice none 0 0] true none]) (by simp)).app (L := [])).take (by omega)).1 hW3 rfl rfl) rfl rfl (((hG3.at (by simp)).app.app).drop (by omega)).first (by simp only [roomB]; omega) (List.all_eq_true.2 fun v hv => flat_cells v (List.mem_of_mem_drop hv)) (((hG3.at (h := H) (L := [CO.row [.int .i64 (c.w), .int .i64 (c.b), .slice (p).1 (c.gs).length (p).2] true none, CO.row [.int .i64 (0), .int .i64 (0), .slice none 0 0] true none]) (by simp)).app (L := [])).drop (by omega)).1 rfl fun Y3 y3 hY3 hge3 => (E_mv (v := .slice _ _ _) rfl (E_nil ?_))))))))
      refine hN0 (lf.eraseIdx b, y3, ot ++ [lf[b]], p6n) _ _ _ ⟨by first | rfl | (congr 1; omega), by first | rfl | (congr 1; omega), by exact congrArg (fun n => Value.slice y3.1 n y3.2) (by rw [List.length_eraseIdx_of_lt hbl]; omega), by first | rfl | (congr 1; omega), trivial⟩ ⟨⟨(z6n ++ ([] ++ Y3)), by first | (simp only [List.append_assoc, List.append_nil, List.nil_append, List.cons_append, List.set_cons_zero, List.set_cons_succ]; done) | (simp only [List.append_assoc, List.append_nil, List.nil_append, List.cons_append, List.set_cons_zero, List.set_cons_succ]; rfl), ⟨Lst.erase hps3 hI3 hbl (by simp; omega) hY3 (by rw [List.length_eraseIdx_of_lt hbl]; omega), l6n.app, fun a b ha hb => by have h1 := hge3 a ha; have h2 := l6n.lt hb; simp at h1; omega⟩⟩, rfl, ?_⟩ ?_
      -- n8
      all_goals clear hN0 hR0 hE0 hN2 hR2 hE2
      · exact ⟨fun g hg => hmem g (List.mem_of_mem_eraseIdx hg), by rw [List.append_assoc, ← htd, tidyL_step hb hbl]; rfl, by rw [List.length_eraseIdx_of_lt hbl]; omega, by have := congrArg List.length htd; simp only [List.length_append, tidyL_len] at this; simp only [List.length_append, List.length_cons, List.length_nil]; omega⟩
      · show (lf.eraseIdx b).length < lf.length
        rw [List.length_eraseIdx_of_lt hbl]; omega
  · refine E_nil (AX_condF rfl (AX_exit (hE0 _ _ _ _ ?_)))
    have hlf : lf = [] := List.length_eq_zero_iff.1 (by omega)
    have eot : ot = (tidyM c).gs := by subst hlf; simpa [tidyL, tidyM] using htd
    have how : ∀ g ∈ ot, g.ws.length < 4294967296 := fun g hg => by have := (hr.gr (tidyL_mem _ _ rfl g (by rw [eot] at hg; exact hg))).len; omega
    refine AX_hp (h' := H ++ ([CO.row [.int .i64 (c.w), .int .i64 (c.b), .slice (p).1 (c.gs).length (p).2] true none, CO.row [.int .i64 (0), .int .i64 (0), .slice none 0 0] true none] ++ z0)) (by first | (simp only [List.append_assoc, List.append_nil, List.nil_append, List.cons_append, List.set_cons_zero, List.set_cons_succ]; done) | (simp only [List.append_assoc, List.append_nil, List.nil_append, List.cons_append, List.set_cons_zero, List.set_cons_succ]; rfl)) ?_
    refine AX_seq (AX_E (E_ldON (k := 0) rfl rfl (E_mv (v := .slice _ _ _) rfl ?_)))
    obtain ⟨X7, x7, hr7, f7⟩ := with_ret (H ++ ([CO.row [.int .i64 (c.w), .int .i64 (c.b), .slice (p).1 (c.gs).length (p).2] true none, CO.row [.int .i64 (0), .int .i64 (0), .slice none 0 0] true none] ++ z0)) c _ (ot) _ (zf0.2.1.gates (by simp)) (by omega) (how)
    refine E_callX (X := X7) rfl (hr7) (E_hp (h' := H ++ ([CO.row [.int .i64 (c.w), .int .i64 (c.b), .slice (p).1 (c.gs).length (p).2] true none, CO.row [.int .i64 (0), .int .i64 (0), .slice none 0 0] true none] ++ (z0 ++ X7))) (by first | (simp only [List.append_assoc, List.append_nil, List.nil_append, List.cons_append, List.set_cons_zero, List.set_cons_succ]; done) | (simp only [List.append_assoc, List.append_nil, List.nil_append, List.cons_append, List.set_cons_zero, List.set_cons_succ]; rfl)) (E_stO (k := 1) rfl rfl (v := .agg _) rfl rfl rfl rfl (E_nil (AX_ret ?_))))
    refine ⟨_, res1 (res_cellN (k := 1) rfl rfl), by simp, ?_⟩
    obtain ⟨X, h1, h2⟩ := leafG (h := H) (h' := H ++ ([CO.row [.int .i64 (c.w), .int .i64 (c.b), .slice (p).1 (c.gs).length (p).2] true none, CO.row [.int .i64 (c.w), .int .i64 (c.b), .slice (x7).1 (ot).length (x7).2] true none] ++ (z0 ++ X7))) (A := [CO.row [.int .i64 (c.w), .int .i64 (c.b), .slice (p).1 (c.gs).length (p).2] true none, CO.row [.int .i64 (c.w), .int .i64 (c.b), .slice (x7).1 (ot).length (x7).2] true none]) (Z := (z0 ++ X7)) (u := cv ⟨c.w, c.b, ot⟩ x7) rfl (GatesZ.pre (n := H.length + 2) (W := z0) f7 (by simp; omega)) (by simp) cv_flat
    exact ⟨X, h1, x7, (show _ = cv ⟨c.w, c.b, ot⟩ x7 from rfl).trans (by rw [eot] <;> rfl), by rw [eot] at h2; exact h2⟩
end Go.Canon
namespace Go.Canon
open Go Go.Proofs
set_option linter.unusedVariables false
set_option linter.unusedSimpArgs false
/-- The last gate of the first k with which g does not commute, or that g undoes; -1 if there is none. -/
def scanM (l : List G) (g : G) : Nat → Int
  | 0 => -1
  | k + 1 => if undoM (l.getD k default) g ∨ ¬ commM (l.getD k default) g then (k : Int) else scanM l g k
theorem scan_stop {l : List G} {g : G} {k : Nat} (hk : k - 1 < l.length) (h0 : 0 < k) (h : undoM l[k - 1] g ∨ ¬ commM l[k - 1] g) : scanM l g k = (k : Int) - 1 := by
  obtain ⟨m, rfl⟩ : ∃ m, k = m + 1 := ⟨k - 1, by omega⟩
  simp only [Nat.add_sub_cancel] at h
  rw [scanM, if_pos (by rwa [getG_at (by omega)])]
  omega
theorem scan_go {l : List G} {g : G} {k : Nat} (hk : k - 1 < l.length) (h0 : 0 < k) (h : ¬ undoM l[k - 1] g) (h2 : commM l[k - 1] g) : scanM l g k = scanM l g (k - 1) := by
  obtain ⟨m, rfl⟩ : ∃ m, k = m + 1 := ⟨k - 1, by omega⟩
  simp only [Nat.add_sub_cancel] at h h2
  rw [scanM, if_neg (by rw [getG_at (by omega)]; simp [h, h2]), Nat.add_sub_cancel]
def cstep (l : List G) (g : G) : List G := if 0 ≤ scanM l g l.length ∧ undoM (l.getD (scanM l g l.length).toNat default) g then l.eraseIdx (scanM l g l.length).toNat else l ++ [g]
def cancelL (gs : List G) : List G := gs.foldl cstep []
def cancelM (c : C) : C := ⟨c.w, c.b, cancelL c.gs⟩
theorem cancelL_next {gs : List G} {j : Nat} (hj : j < gs.length) : cancelL (gs.take (j + 1)) = cstep (cancelL (gs.take j)) gs[j] := by
  unfold cancelL
  rw [List.take_succ_eq_append_getElem hj, List.foldl_append]
  rfl
theorem cstep_mem {l : List G} {g x : G} (h : x ∈ cstep l g) : x ∈ l ∨ x = g := by
  unfold cstep at h
  split at h
  · exact .inl (List.mem_of_mem_eraseIdx h)
  · simpa using h
theorem cstep_len (l : List G) (g : G) : (cstep l g).length ≤ l.length + 1 := by
  unfold cstep
  split
  · have := List.length_eraseIdx_le l (scanM l g l.length).toNat; omega
  · simp
theorem cancelL_mem (gs : List G) : ∀ (l : List G) x, x ∈ gs.foldl cstep l → x ∈ l ∨ x ∈ gs := by
  induction gs with
  | nil => intro l x h; exact .inl h
  | cons g gs ih =>
    intro l x h
    rcases ih _ _ h with h | h
    · rcases cstep_mem h with h | h
      · exact .inl h
      · exact .inr (by simp [h])
    · exact .inr (by simp [h])
theorem cancelL_sub {gs : List G} {x : G} (h : x ∈ cancelL gs) : x ∈ gs := (cancelL_mem gs [] x h).resolve_left (by simp)
theorem cancelL_len (gs : List G) : ∀ l : List G, (gs.foldl cstep l).length ≤ l.length + gs.length := by
  induction gs with
  | nil => intro l; simp
  | cons g gs ih =>
    intro l
    have h1 := ih (cstep l g)
    have h2 := cstep_len l g
    simp only [List.foldl_cons, List.length_cons]
    omega
theorem cstep_rm {l : List G} {g : G} {k : Nat} (hk : k - 1 < l.length) (h0 : 0 < k) (he : scanM l g k = scanM l g l.length) (hu : undoM l[k - 1] g) : cstep l g = l.eraseIdx (k - 1) := by
  have hs := scan_stop hk h0 (.inl hu)
  rw [he] at hs
  have e : (scanM l g l.length).toNat = k - 1 := by omega
  rw [cstep, e, if_pos ⟨by omega, by rwa [getG_at hk]⟩]
theorem cstep_ap0 {l : List G} {g : G} {k : Nat} (hk : ¬ (0 ≤ (k : Int) - 1)) (he : scanM l g k = scanM l g l.length) : cstep l g = l ++ [g] := by
  have : k = 0 := by omega
  subst this
  rw [cstep, if_neg (fun x => by rw [← he] at x; simp [scanM] at x)]
theorem cstep_ap {l : List G} {g : G} {k : Nat} (hk : k - 1 < l.length) (h0 : 0 < k) (he : scanM l g k = scanM l g l.length) (hu : ¬ undoM l[k - 1] g) (hc : ¬ commM l[k - 1] g) : cstep l g = l ++ [g] := by
  have hs := scan_stop hk h0 (.inr hc)
  rw [he] at hs
  have e : (scanM l g l.length).toNat = k - 1 := by omega
  rw [cstep, e, if_neg (fun x => by have := x.2; rw [getG_at hk] at this; exact hu this)]
def kf11 : KFunc := ⟨1, 70, [.cell 2 (some 3)], .seq (.reg [⟨some 1, .box (.t 0), none⟩, ⟨some 2, .new [.int .i64 0, .int .i64 0, .slice none 0 0], none⟩] []) (.seq (.reg [⟨some 3, .mv (.c (.slice none 0 0)), none⟩] []) (.seq (.seq (.reg [⟨some 4, .mv (.c (.int .i64 0)), none⟩] []) (.block 0 (.loop (.seq (.seq (.reg [⟨some 7, .mv (.t 4), none⟩, ⟨some 8, .fa (.t 1) 2, none⟩, ⟨some 9, .ld (.t 8) none, none⟩, ⟨some 10, .len (.t 9), none⟩, ⟨some 11, .bin .lss (.t 7) (.t 10), none⟩] []) (.cond (.t 11) .skip (.exit 0))) (.seq (.block 1 (.seq (.reg [⟨some 14, .fa (.t 1) 2, none⟩, ⟨some 15, .ld (.t 14) none, none⟩, ⟨some 16, .mv (.t 4), none⟩, ⟨some 17, .iaS (.t 15) (.t 16) 4, none⟩, ⟨some 18, .ld (.t 17) (some 4), none⟩, ⟨some 5, .new [.int .i64 0, .slice none 0 0, .int .i64 0, .int .i64 0], none⟩, ⟨none, .st (.t 5) (.t 18) 4, none⟩] []) (.seq (.reg [⟨some 19, .mv (.t 3), none⟩, ⟨some 20, .len (.t 19), none⟩, ⟨some 21, .bin .sub (.t 20) (.c (.int .i64 1)), none⟩, ⟨some 6, .mv (.t 21), none⟩] []) (.seq (.block 2 (.loop (.seq (.seq (.reg [⟨some 22, .mv (.t 6), none⟩, ⟨some 23, .bin .geq (.t 22) (.c (.int .i64 0)), none⟩, ⟨some 24, .mv (.t 23), none⟩, ⟨some 25, .mv (.t 3), some (24, true)⟩, ⟨some 26, .mv (.t 6), some (24, true)⟩, ⟨some 27, .iaS (.t 25) (.t 26) 4, some (24, true)⟩, ⟨some 28, .ld (.t 27) (some 4), some (24, true)⟩, ⟨some 29, .ld (.t 5) (some 4), some (24, true)⟩, ⟨some 30, .call (.c (.func (.func 13) #[] #[])) [.t 28, .t 29], some (24, true)⟩, ⟨some 31, .not (.t 30), some (24, true)⟩, ⟨some 32, .pick (.t 24) (.t 31) (.c (.bool false)), none⟩, ⟨some 33, .mv (.t 32), none⟩, ⟨some 34, .mv (.t 3), some (33, true)⟩, ⟨some 35, .mv (.t 6), some (33, true)⟩, ⟨some 36, .iaS (.t 34) (.t 35) 4, some (33, true)⟩, ⟨some 37, .ld (.t 36) (some 4), some (33, true)⟩, ⟨some 38, .ld (.t 5) (some 4), some (33, true)⟩, ⟨some 39, .call (.c (.func (.func 12) #[] #[])) [.t 37, .t 38], some (33, true)⟩, ⟨some 40, .pick (.t 33) (.t 39) (.c (.bool false)), none⟩] []) (.cond (.t 40) .skip (.exit 2))) (.block 3 (.reg [⟨some 41, .mv (.t 6), none⟩, ⟨some 42, .bin .sub (.t 41) (.c (.int .i64 1)), none⟩, ⟨some 6, .mv (.t 42), none⟩] []))))) (.seq (.reg [⟨some 43, .mv (.t 6), none⟩, ⟨some 44, .bin .geq (.t 43) (.c (.int .i64 0)), none⟩, ⟨some 45, .mv (.t 44), none⟩, ⟨some 46, .mv (.t 3), some (45, true)⟩, ⟨some 47, .mv (.t 6), some (45, true)⟩, ⟨some 48, .iaS (.t 46) (.t 47) 4, some (45, true)⟩, ⟨some 49, .ld (.t 48) (some 4), some (45, true)⟩, ⟨some 50, .ld (.t 5) (some 4), some (45, true)⟩, ⟨some 51, .call (.c (.func (.func 13) #[] #[])) [.t 49, .t 50], some (45, true)⟩, ⟨some 52, .pick (.t 45) (.t 51) (.c (.bool false)), none⟩] []) (.cond (.t 52) (.reg [⟨some 53, .mkS [] 0 [], none⟩, ⟨some 54, .mv (.t 3), none⟩, ⟨some 55, .mv (.t 6), none⟩, ⟨some 56, .slS (.t 54) none (some (.t 55)) none 4, none⟩, ⟨some 57, .app (.t 53) (.t 56) 4 48, none⟩, ⟨some 58, .mv (.t 3), none⟩, ⟨some 59, .mv (.t 6), none⟩, ⟨some 60, .bin .add (.t 59) (.c (.int .i64 1)), none⟩, ⟨some 61, .slS (.t 58) (some (.t 60)) none none 4, none⟩, ⟨some 62, .app (.t 57) (.t 61) 4 48, none⟩, ⟨some 3, .mv (.t 62), none⟩] [(4, 8)]) (.reg [⟨some 63, .mv (.t 3), none⟩, ⟨some 64, .ld (.t 5) (some 4), none⟩, ⟨some 65, .mkS [.int .i64 0, .slice none 0 0, .int .i64 0, .int .i64 0] 1 [(0, 4, .t 64)], none⟩, ⟨some 66, .app (.t 63) (.t 65) 4 48, none⟩, ⟨some 3, .mv (.t 66), none⟩] []))))))) (.reg [⟨some 12, .mv (.t 4), none⟩, ⟨some 13, .bin .add (.t 12) (.c (.int .i64 1)), none⟩, ⟨some 4, .mv (.t 13), none⟩] [])))))) (.seq (.reg [⟨some 67, .ld (.t 1) (some 3), none⟩, ⟨some 68, .mv (.t 3), none⟩, ⟨some 69, .call (.c (.func (.func 55) #[] #[])) [.t 67, .t 68], none⟩, ⟨none, .st (.t 2) (.t 69) 3, none⟩] []) .ret)))⟩
theorem k11 : tab Try.prog 11 = some kf11 := by kernel_rfl
theorem cancel_ret (H : Heap) (c : C) (p : Pl) {S : Nat → Prop} (hv : Gates S H p c.gs) (hr : CR c) : ∃ X p', Ret (tab Try.prog) 11 [cv c p] H (cv (cancelM c) p') (H ++ X) ∧ GatesZ H.length X p' (cancelM c).gs := by
  have key := Ret_grow (T := tab Try.prog) (f := 11) (args := [cv c p]) (h := H) (fun u X => ∃ p' : Pl, u = cv (cancelM c) p' ∧ GatesZ H.length X p' (cancelM c).gs) k11 rfl ?_
  · obtain ⟨u, X, hr, p', rfl, f1⟩ := key
    exact ⟨X, p', hr, f1⟩
  have hn := hr.n0
  obtain ⟨ps0, hps0, hC0, hI0'⟩ := id hv
  have hI0 : ∀ i (h1 : i < c.gs.length) (h2 : i < ps0.length), Ints allB H ps0[i] c.gs[i].ws := fun i h1 h2 => (hI0' i h1 h2).all
  refine AX_seq (AX_E (E_boxA rfl (E_new (E_nil (AX_seq (AX_E (E_mv (v := .slice _ _ _) rfl (E_nil (AX_seq (AX_seq (AX_E (E_mv (v := .int .i64 (0)) rfl (E_nil (AX_block ?_))))))))))))))
  refine AX_loopF (γ := Nat × List G × Pl) (fun x => [(1, .pointer (some ⟨(H).length + 0, 0, none⟩)), (2, .pointer (some ⟨(H).length + 1, 0, none⟩)), (3, .slice (x.2.2).1 (x.2.1).length (x.2.2).2), (4, .int .i64 ((x.1 : Int)))]) (fun x h_ m_ => (∃ z_, h_ = H ++ ([CO.row [.int .i64 (c.w), .int .i64 (c.b), .slice (p).1 (c.gs).length (p).2] true none, CO.row [.int .i64 (0), .int .i64 (0), .slice none 0 0] true none] ++ z_) ∧ Lst H (H.length + 2) z_ x.2.2 x.2.1) ∧ m_ = [] ∧ (x.1 ≤ c.gs.length ∧ x.2.1 = cancelL (c.gs.take x.1) ∧ (x.2.1).length ≤ x.1)) (fun x => c.gs.length - x.1) (0, [], (none, 0)) ⟨rfl, rfl, rfl, rfl, trivial⟩ ⟨⟨[], app0 _ _, Lst.nil⟩, rfl, ?_⟩ ?_
  · exact ⟨Nat.zero_le _, by simp [cancelL], by simp⟩
  rintro ⟨j, lf, p1⟩ fr0 h0 m0 ⟨⟨z0, rfl, zf0⟩, rfl, inv0⟩ K0 hN0 hR0 hE0
  try dsimp only at zf0 inv0
  obtain ⟨ps1, hps1, hG1, hI1⟩ := id zf0
  obtain ⟨hj, hlf, hln⟩ := inv0
  have hgr : ∀ g ∈ lf, GR g := fun g hg => hr.gr (List.mem_of_mem_take (cancelL_sub (hlf ▸ hg)))
  refine AX_nil ?_
  refine AX_seq (AX_seq (AX_E (E_mv (v := .int .i64 ((j : Int))) rfl (E_fa rfl (E_ldB (v := .slice _ _ _) rfl (rowGet_own (k := 0) rfl) (E_len (n := (c.gs).length) rfl (E_lssS rfl rfl (fun c11 => ?_) (fun c11 => ?_))))))))
  · refine E_nil (AX_condT rfl (AX_skip (AX_seq (AX_block (AX_seq (AX_E (E_fa rfl (E_ldB (v := .slice _ _ _) rfl (rowGet_own (k := 0) rfl) (E_mv (v := .int .i64 ((j : Int))) rfl (have ix1 : j < (c.gs).length := (by first | omega | (simp; done) | (simp; omega)); have iy1 : j < ps0.length := (by omega); E_iaPb (j := j) rfl hC0.app rfl hps0 rfl rfl ix1 iy1 fun b1 o1 w1 => (E_ldBN rfl w1 (E_new (E_stO (k := 0) rfl rfl (v := .agg _) rfl rfl rfl rfl (E_nil (AX_seq (AX_E (E_mv (v := .slice _ _ _) rfl (E_len (n := (lf).length) rfl (E_subI rfl rfl (by first | omega | (simp; done) | (simp; omega)) (by first | omega | (simp; done) | (simp; omega)) (E_mv (v := .int .i64 (((lf).length - 1))) rfl (E_nil (AX_seq (AX_block ?_)))))))))))))))))))))))
    refine AX_loopF (γ := Nat) (fun k => [(1, .pointer (some ⟨(H).length + 0, 0, none⟩)), (2, .pointer (some ⟨(H).length + 1, 0, none⟩)), (3, .slice (p1).1 (lf).length (p1).2), (4, .int .i64 ((j : Int))), (5, .pointer (some ⟨((H ++ ([CO.row [.int .i64 (c.w), .int .i64 (c.b), .slice (p).1 (c.gs).length (p).2] true none, CO.row [.int .i64 (0), .int .i64 (0), .slice none 0 0] true none] ++ z0))).length + 0, 0, none⟩)), (6, .int .i64 (((k : Int) - 1)))]) (fun k h_ m_ => h_ = (H ++ ([CO.row [.int .i64 (c.w), .int .i64 (c.b), .slice (p).1 (c.gs).length (p).2] true none, CO.row [.int .i64 (0), .int .i64 (0), .slice none 0 0] true none] ++ z0)) ++ [CO.row [.int .i64 ((c.gs[j]'ix1).k), .slice ((ps0[j]'iy1)).1 ((c.gs[j]'ix1).ws).length ((ps0[j]'iy1)).2, .int .i64 ((c.gs[j]'ix1).b), .int .i64 ((c.gs[j]'ix1).f)] true none] ∧ m_ = [] ∧ (k ≤ lf.length ∧ scanM lf c.gs[j] k = scanM lf c.gs[j] lf.length)) (fun k => k) (lf.length) ⟨rfl, rfl, rfl, rfl, rfl, rfl, trivial⟩ ⟨rfl, rfl, ?_⟩ ?_
    · exact ⟨Nat.le_refl _, rfl⟩
    rintro k fr2 h2 m2 ⟨rfl, rfl, inv2⟩ K2 hN2 hR2 hE2
    refine AX_seq (AX_seq (AX_E (E_mv (v := .int .i64 (((k : Int) - 1))) rfl (E_geqS rfl rfl (fun c23 => ?_) (fun c23 => ?_)))))
    · refine E_mv (v := .bool _) rfl (E_on rfl (E_mv (v := .slice _ _ _) rfl (E_on rfl (E_mv (v := .int .i64 (((k : Int) - 1))) rfl (E_on rfl (have ix2 : k - 1 < (lf).length := (by first | omega | (simp; done) | (simp; omega)); have iy2 : k - 1 < ps1.length := (by omega); E_iaPb (j := k - 1) rfl (hG1.at (by simp)) rfl hps1 rfl (by first | rfl | omega) ix2 iy2 fun b2 o2 w2 => (E_on rfl (E_ldBN rfl w2 (E_on rfl (E_ldON (k := 0) rfl rfl (E_on rfl (E_callP rfl (undo_ret _ (lf[k - 1]'ix2) (c.gs[j]'ix1) _ _ (hI1 (k - 1) ix2 iy2).app.app (hI0 (j) ix1 iy1).app.app (hgr _ (List.getElem_mem _)) (hr.gr (List.getElem_mem _))) (fun c30 => ?_) (fun c30 => ?_)))))))))))))
      · refine E_on rfl (E_notV rfl rfl (E_pickT rfl (v := .bool _) rfl (E_mv (v := .bool _) rfl (E_notT rfl (E_notT rfl (E_notT rfl (E_notT rfl (E_notT rfl (E_notT rfl (E_pickF rfl (v := .bool _) rfl (E_nil (AX_condF rfl (AX_exit (hE2 _ _ _ _ (AX_seq (AX_E (E_mv (v := .int .i64 (((k : Int) - 1))) rfl (E_geqS rfl rfl (fun c44 => ?_) (fun c44 => ?_)))))))))))))))))))
        · refine E_mv (v := .bool _) rfl (E_on rfl (E_mv (v := .slice _ _ _) rfl (E_on rfl (E_mv (v := .int .i64 (((k : Int) - 1))) rfl (E_on rfl (have ix3 : k - 1 < (lf).length := (by first | omega | (simp; done) | (simp; omega)); have iy3 : k - 1 < ps1.length := (by omega); E_iaPb (j := k - 1) rfl (hG1.at (by simp)) rfl hps1 rfl (by first | rfl | omega) ix3 iy3 fun b3 o3 w3 => (E_on rfl (E_ldBN rfl w3 (E_on rfl (E_ldON (k := 0) rfl rfl (E_on rfl (E_callP rfl (undo_ret _ (lf[k - 1]'ix3) (c.gs[j]'ix1) _ _ (hI1 (k - 1) ix3 iy3).app.app (hI0 (j) ix1 iy1).app.app (hgr _ (List.getElem_mem _)) (hr.gr (List.getElem_mem _))) (fun c51 => ?_) (fun c51 => ?_)))))))))))))
          · refine E_pickT rfl (v := .bool _) rfl (E_nil (AX_condT rfl (AX_E ?_)))
            obtain ⟨b, hb⟩ : ∃ b, b = k - 1 := ⟨_, rfl⟩
            have hbl : b < lf.length := by omega
            refine E_hp (h' := ((H ++ ([CO.row [.int .i64 (c.w), .int .i64 (c.b), .slice (p).1 (c.gs).length (p).2] true none, CO.row [.int .i64 (0), .int .i64 (0), .slice none 0 0] true none] ++ z0)) ++ ([CO.row [.int .i64 ((c.gs[j]'ix1).k), .slice ((ps0[j]'iy1)).1 ((c.gs[j]'ix1).ws).length ((ps0[j]'iy1)).2, .int .i64 ((c.gs[j]'ix1).b), .int .i64 ((c.gs[j]'ix1).f)] true none] ++ [])) ++ []) (by simp only [List.append_nil]) (E_mkS (cs := []) rfl (E_mv (v := .slice _ _ _) rfl (E_mv (v := .int .i64 (((k : Int) - 1))) rfl (E_slHi (j := b) rfl ((hG1.at (by simp)).app.app) rfl (by first | rfl | omega) (by omega) (E_app0 (k := 0) rfl rfl rfl (((hG1.at (by simp)).app.app).take (by omega)).first (by simp only [roomB]; omega) (((hG1.at (h := H) (L := [CO.row [.int .i64 (c.w), .int .i64 (c.b), .slice (p).1 (c.gs).length (p).2] true none, CO.row [.int .i64 (0), .int .i64 (0), .slice none 0 0] true none]) (by simp)).app (L := [])).take (by omega)).1 fun W1 q1 hW1 => E_nilR (E_mv (v := .slice _ _ _) rfl (E_mv (v := .int .i64 (((k : Int) - 1))) rfl (E_addI rfl rfl (by first | omega | (simp; done) | (simp; omega)) (by first | omega | (simp; done) | (simp; omega)) (E_slLo (j := b + 1) rfl ((hG1.at (by simp)).app.app.app) rfl (by first | rfl | omega) (by omega) (E_app2 (Bs := ((H ++ ([CO.row [.int .i64 (c.w), .int .i64 (c.b), .slice (p).1 (c.gs).length (p).2] true none, CO.row [.int .i64 (0), .int .i64 (0), .slice none 0 0] true none] ++ z0)) ++ ([CO.row [.int .i64 ((c.gs[j]'ix1).k), .slice ((ps0[j]'iy1)).1 ((c.gs[j]'ix1).ws).length ((ps0[j]'iy1)).2, .int .i64 ((c.gs[j]'ix1).b), .int .i64 ((c.gs[j]'ix1).f)] true none] ++ []))) (Z := [CO.row [] true none] ++ W1) (n := (((H ++ ([CO.row [.int .i64 (c.w), .int .i64 (c.b), .slice (p).1 (c.gs).length (p).2] true none, CO.row [.int .i64 (0), .int .i64 (0), .slice none 0 0] true none] ++ z0)) ++ ([CO.row [.int .i64 ((c.gs[j]'ix1).k), .slice ((ps0[j]'iy1)).1 ((c.gs[j]'ix1).ws).length ((ps0[j]'iy1)).2, .int .i64 ((c.gs[j]'ix1).b), .int .i64 ((c.gs[j]'ix1).f)] true none] ++ []))).length) (List.append_nil _) rfl (Grown.lit (((hG1.at (h := H) (L := [CO.row [.int .i64 (c.w), .int .i64 (c.b), .slice (p).1 (c.gs).length (p).2] true none, CO.row [.int .i64 (0), .int .i64 (0), .slice none 0 0] true none]) (by simp)).app (L := [])).take (by omega)).1 hW1 rfl rfl) rfl rfl (((hG1.at (by simp)).app.app.app).drop (by omega)).first (by simp only [roomB]; omega) (List.all_eq_true.2 fun v hv => flat_cells v (List.mem_of_mem_drop hv)) (((hG1.at (h := H) (L := [CO.row [.int .i64 (c.w), .int .i64 (c.b), .slice (p).1 (c.gs).length (p).2] true none, CO.row [.int .i64 (0), .int .i64 (0), .slice none 0 0] true none]) (by simp)).app (L := [])).drop (by omega)).1 rfl fun Y1 y1 hY1 hge1 => (E_mv (v := .slice _ _ _) rfl (E_nil (AX_E (E_mv (v := .int .i64 ((j : Int))) rfl (E_addI rfl rfl (by first | omega | (simp; done) | (simp; omega)) (by first | omega | (simp; done) | (simp; omega)) (E_mv (v := .int .i64 (((j : Int) + 1))) rfl (E_nil ?_)))))))))))))))))
            refine hN0 (j + 1, lf.eraseIdx b, y1) _ _ _ ⟨by first | rfl | (congr 1; omega), by first | rfl | (congr 1; omega), by first | rfl | exact congrArg (fun n => Value.slice y1.1 n y1.2) (by rw [List.length_eraseIdx_of_lt hbl]; omega), by first | rfl | (congr 1; omega), trivial⟩ ⟨⟨(z0 ++ ([CO.row [.int .i64 ((c.gs[j]'ix1).k), .slice ((ps0[j]'iy1)).1 ((c.gs[j]'ix1).ws).length ((ps0[j]'iy1)).2, .int .i64 ((c.gs[j]'ix1).b), .int .i64 ((c.gs[j]'ix1).f)] true none] ++ ([] ++ ([] ++ Y1)))), by first | (simp only [List.append_assoc, List.append_nil, List.nil_append, List.cons_append, List.set_cons_zero, List.set_cons_succ]; done) | (simp only [List.append_assoc, List.append_nil, List.nil_append, List.cons_append, List.set_cons_zero, List.set_cons_succ]; rfl), (by have h := Lst.erase (n := H.length + 2) (Z := z0 ++ ([CO.row [.int .i64 ((c.gs[j]'ix1).k), .slice ((ps0[j]'iy1)).1 ((c.gs[j]'ix1).ws).length ((ps0[j]'iy1)).2, .int .i64 ((c.gs[j]'ix1).b), .int .i64 ((c.gs[j]'ix1).f)] true none] ++ [])) hps1 hI1 hbl (by simp; omega) hY1 (by rw [List.length_eraseIdx_of_lt hbl]; omega); simpa only [List.append_assoc, List.nil_append, List.append_nil, List.cons_append] using h)⟩, rfl, ?_⟩ ?_
            -- n1
            all_goals clear hN0 hR0 hE0 hN2 hR2 hE2
            · exact ⟨by omega, by rw [cancelL_next (by omega), ← hlf, hb, cstep_rm (by omega) (by omega) inv2.2 c51], by rw [List.length_eraseIdx_of_lt hbl]; omega⟩
            · (first | omega | (simp; omega))
          · refine E_pickT rfl (v := .bool _) rfl (E_nil (AX_condF rfl (AX_E (E_mv (v := .slice _ _ _) rfl (E_ldON (k := 0) rfl rfl (E_mkS (cs := [.int .i64 ((c.gs[j]'ix1).k), .slice ((ps0[j]'iy1)).1 ((c.gs[j]'ix1).ws).length ((ps0[j]'iy1)).2, .int .i64 ((c.gs[j]'ix1).b), .int .i64 ((c.gs[j]'ix1).f)]) rfl (E_appL (A := [CO.row [.int .i64 (c.w), .int .i64 (c.b), .slice (p).1 (c.gs).length (p).2] true none, CO.row [.int .i64 (0), .int .i64 (0), .slice none 0 0] true none]) (Z := (z0 ++ [CO.row [.int .i64 ((c.gs[j]'ix1).k), .slice ((ps0[j]'iy1)).1 ((c.gs[j]'ix1).ws).length ((ps0[j]'iy1)).2, .int .i64 ((c.gs[j]'ix1).b), .int .i64 ((c.gs[j]'ix1).f)] true none, CO.row [.int .i64 ((c.gs[j]'ix1).k), .slice ((ps0[j]'iy1)).1 ((c.gs[j]'ix1).ws).length ((ps0[j]'iy1)).2, .int .i64 ((c.gs[j]'ix1).b), .int .i64 ((c.gs[j]'ix1).f)] true none])) (gs' := lf ++ [c.gs[j]]) (by first | (simp only [List.append_assoc, List.append_nil, List.nil_append, List.cons_append, List.set_cons_zero, List.set_cons_succ]; done) | (simp only [List.append_assoc, List.append_nil, List.nil_append, List.cons_append, List.set_cons_zero, List.set_cons_succ]; rfl)) (rfl) (n := (H.length + 2)) (by simp) (zf0).app rfl rfl (rowGet_own (k := 1) rfl) (hI0 j (by omega) (by omega)) (by omega) rfl fun z4n p4n l4n k4n b4n => (E_mv (v := .slice _ _ _) rfl (E_nil (AX_E (E_mv (v := .int .i64 ((j : Int))) rfl (E_addI rfl rfl (by first | omega | (simp; done) | (simp; omega)) (by first | omega | (simp; done) | (simp; omega)) (E_mv (v := .int .i64 (((j : Int) + 1))) rfl (E_nil ?_))))))))))))))
            refine hN0 (j + 1, lf ++ [c.gs[j]], p4n) _ _ _ ⟨by first | rfl | (congr 1; omega), by first | rfl | (congr 1; omega), by first | rfl | exact congrArg (fun n => Value.slice y1.1 n y1.2) (by rw [List.length_eraseIdx_of_lt hbl]; omega), by first | rfl | (congr 1; omega), trivial⟩ ⟨⟨z4n, by first | (simp only [List.append_assoc, List.append_nil, List.nil_append, List.cons_append, List.set_cons_zero, List.set_cons_succ]; done) | (simp only [List.append_assoc, List.append_nil, List.nil_append, List.cons_append, List.set_cons_zero, List.set_cons_succ]; rfl), l4n⟩, rfl, ?_⟩ ?_
            -- n2
            all_goals clear hN0 hR0 hE0 hN2 hR2 hE2
            · exact absurd c30 c51
            · (first | omega | (simp; omega))
        · refine E_mv (v := .bool _) rfl (E_notT rfl (E_notT rfl (E_notT rfl (E_notT rfl (E_notT rfl (E_notT rfl (E_pickF rfl (v := .bool _) rfl (E_nil (AX_condF rfl (AX_E (E_mv (v := .slice _ _ _) rfl (E_ldON (k := 0) rfl rfl (E_mkS (cs := [.int .i64 ((c.gs[j]'ix1).k), .slice ((ps0[j]'iy1)).1 ((c.gs[j]'ix1).ws).length ((ps0[j]'iy1)).2, .int .i64 ((c.gs[j]'ix1).b), .int .i64 ((c.gs[j]'ix1).f)]) rfl (E_appL (A := [CO.row [.int .i64 (c.w), .int .i64 (c.b), .slice (p).1 (c.gs).length (p).2] true none, CO.row [.int .i64 (0), .int .i64 (0), .slice none 0 0] true none]) (Z := (z0 ++ [CO.row [.int .i64 ((c.gs[j]'ix1).k), .slice ((ps0[j]'iy1)).1 ((c.gs[j]'ix1).ws).length ((ps0[j]'iy1)).2, .int .i64 ((c.gs[j]'ix1).b), .int .i64 ((c.gs[j]'ix1).f)] true none, CO.row [.int .i64 ((c.gs[j]'ix1).k), .slice ((ps0[j]'iy1)).1 ((c.gs[j]'ix1).ws).length ((ps0[j]'iy1)).2, .int .i64 ((c.gs[j]'ix1).b), .int .i64 ((c.gs[j]'ix1).f)] true none])) (gs' := lf ++ [c.gs[j]]) (by first | (simp only [List.append_assoc, List.append_nil, List.nil_append, List.cons_append, List.set_cons_zero, List.set_cons_succ]; done) | (simp only [List.append_assoc, List.append_nil, List.nil_append, List.cons_append, List.set_cons_zero, List.set_cons_succ]; rfl)) (rfl) (n := (H.length + 2)) (by simp) (zf0).app rfl rfl (rowGet_own (k := 1) rfl) (hI0 j (by omega) (by omega)) (by omega) rfl fun z5n p5n l5n k5n b5n => (E_mv (v := .slice _ _ _) rfl (E_nil (AX_E (E_mv (v := .int .i64 ((j : Int))) rfl (E_addI rfl rfl (by first | omega | (simp; done) | (simp; omega)) (by first | omega | (simp; done) | (simp; omega)) (E_mv (v := .int .i64 (((j : Int) + 1))) rfl (E_nil ?_)))))))))))))))))))))
          refine hN0 (j + 1, lf ++ [c.gs[j]], p5n) _ _ _ ⟨by first | rfl | (congr 1; omega), by first | rfl | (congr 1; omega), by first | rfl | exact congrArg (fun n => Value.slice y1.1 n y1.2) (by rw [List.length_eraseIdx_of_lt hbl]; omega), by first | rfl | (congr 1; omega), trivial⟩ ⟨⟨z5n, by first | (simp only [List.append_assoc, List.append_nil, List.nil_append, List.cons_append, List.set_cons_zero, List.set_cons_succ]; done) | (simp only [List.append_assoc, List.append_nil, List.nil_append, List.cons_append, List.set_cons_zero, List.set_cons_succ]; rfl), l5n⟩, rfl, ?_⟩ ?_
          -- n3
          all_goals clear hN0 hR0 hE0 hN2 hR2 hE2
          · exfalso; omega
          · (first | omega | (simp; omega))
      · refine E_on rfl (E_notV rfl rfl (E_pickT rfl (v := .bool _) rfl (E_mv (v := .bool _) rfl (E_on rfl (E_mv (v := .slice _ _ _) rfl (E_on rfl (E_mv (v := .int .i64 (((k : Int) - 1))) rfl (E_on rfl (have ix6 : k - 1 < (lf).length := (by first | omega | (simp; done) | (simp; omega)); have iy6 : k - 1 < ps1.length := (by omega); E_iaPb (j := k - 1) rfl (hG1.at (by simp)) rfl hps1 rfl (by first | rfl | omega) ix6 iy6 fun b6 o6 w6 => (E_on rfl (E_ldBN rfl w6 (E_on rfl (E_ldON (k := 0) rfl rfl (E_on rfl (E_callP rfl (comm_ret _ (lf[k - 1]'ix6) (c.gs[j]'ix1) _ _ (hI1 (k - 1) ix6 iy6).app.app (hI0 (j) ix1 iy1).app.app (hgr _ (List.getElem_mem _)) (hr.gr (List.getElem_mem _))) (fun c39 => ?_) (fun c39 => ?_))))))))))))))))
        · refine E_pickT rfl (v := .bool _) rfl (E_nil (AX_condT rfl (AX_skip (AX_block (AX_E (E_mv (v := .int .i64 (((k : Int) - 1))) rfl (E_subI rfl rfl (by first | omega | (simp; done) | (simp; omega)) (by first | omega | (simp; done) | (simp; omega)) (E_mv (v := .int .i64 ((((k : Int) - 1) - 1))) rfl (E_nil ?_)))))))))
          refine hN2 (k - 1) _ _ _ ⟨by first | rfl | (congr 1; omega), by first | rfl | (congr 1; omega), by first | rfl | (congr 1; omega), by first | rfl | (congr 1; omega), by first | rfl | (congr 1; omega), by refine congrArg (Value.int _) ?_; omega, trivial⟩ ⟨rfl, rfl, ?_⟩ ?_
          -- n4
          all_goals clear hN0 hR0 hE0 hN2 hR2 hE2
          · exact ⟨by omega, by rw [← scan_go (by omega) (by omega) c30 c39]; exact inv2.2⟩
          · omega
        · refine E_pickT rfl (v := .bool _) rfl (E_nil (AX_condF rfl (AX_exit (hE2 _ _ _ _ (AX_seq (AX_E (E_mv (v := .int .i64 (((k : Int) - 1))) rfl (E_geqS rfl rfl (fun c44 => ?_) (fun c44 => ?_)))))))))
          · refine E_mv (v := .bool _) rfl (E_on rfl (E_mv (v := .slice _ _ _) rfl (E_on rfl (E_mv (v := .int .i64 (((k : Int) - 1))) rfl (E_on rfl (have ix7 : k - 1 < (lf).length := (by first | omega | (simp; done) | (simp; omega)); have iy7 : k - 1 < ps1.length := (by omega); E_iaPb (j := k - 1) rfl (hG1.at (by simp)) rfl hps1 rfl (by first | rfl | omega) ix7 iy7 fun b7 o7 w7 => (E_on rfl (E_ldBN rfl w7 (E_on rfl (E_ldON (k := 0) rfl rfl (E_on rfl (E_callP rfl (undo_ret _ (lf[k - 1]'ix7) (c.gs[j]'ix1) _ _ (hI1 (k - 1) ix7 iy7).app.app (hI0 (j) ix1 iy1).app.app (hgr _ (List.getElem_mem _)) (hr.gr (List.getElem_mem _))) (fun c51 => ?_) (fun c51 => ?_)))))))))))))
            · refine E_pickT rfl (v := .bool _) rfl (E_nil (AX_condT rfl (AX_E ?_)))
              obtain ⟨b, hb⟩ : ∃ b, b = k - 1 := ⟨_, rfl⟩
              have hbl : b < lf.length := by omega
              refine E_hp (h' := ((H ++ ([CO.row [.int .i64 (c.w), .int .i64 (c.b), .slice (p).1 (c.gs).length (p).2] true none, CO.row [.int .i64 (0), .int .i64 (0), .slice none 0 0] true none] ++ z0)) ++ ([CO.row [.int .i64 ((c.gs[j]'ix1).k), .slice ((ps0[j]'iy1)).1 ((c.gs[j]'ix1).ws).length ((ps0[j]'iy1)).2, .int .i64 ((c.gs[j]'ix1).b), .int .i64 ((c.gs[j]'ix1).f)] true none] ++ [])) ++ []) (by simp only [List.append_nil]) (E_mkS (cs := []) rfl (E_mv (v := .slice _ _ _) rfl (E_mv (v := .int .i64 (((k : Int) - 1))) rfl (E_slHi (j := b) rfl ((hG1.at (by simp)).app.app) rfl (by first | rfl | omega) (by omega) (E_app0 (k := 0) rfl rfl rfl (((hG1.at (by simp)).app.app).take (by omega)).first (by simp only [roomB]; omega) (((hG1.at (h := H) (L := [CO.row [.int .i64 (c.w), .int .i64 (c.b), .slice (p).1 (c.gs).length (p).2] true none, CO.row [.int .i64 (0), .int .i64 (0), .slice none 0 0] true none]) (by simp)).app (L := [])).take (by omega)).1 fun W1 q1 hW1 => E_nilR (E_mv (v := .slice _ _ _) rfl (E_mv (v := .int .i64 (((k : Int) - 1))) rfl (E_addI rfl rfl (by first | omega | (simp; done) | (simp; omega)) (by first | omega | (simp; done) | (simp; omega)) (E_slLo (j := b + 1) rfl ((hG1.at (by simp)).app.app.app) rfl (by first | rfl | omega) (by omega) (E_app2 (Bs := ((H ++ ([CO.row [.int .i64 (c.w), .int .i64 (c.b), .slice (p).1 (c.gs).length (p).2] true none, CO.row [.int .i64 (0), .int .i64 (0), .slice none 0 0] true none] ++ z0)) ++ ([CO.row [.int .i64 ((c.gs[j]'ix1).k), .slice ((ps0[j]'iy1)).1 ((c.gs[j]'ix1).ws).length ((ps0[j]'iy1)).2, .int .i64 ((c.gs[j]'ix1).b), .int .i64 ((c.gs[j]'ix1).f)] true none] ++ []))) (Z := [CO.row [] true none] ++ W1) (n := (((H ++ ([CO.row [.int .i64 (c.w), .int .i64 (c.b), .slice (p).1 (c.gs).length (p).2] true none, CO.row [.int .i64 (0), .int .i64 (0), .slice none 0 0] true none] ++ z0)) ++ ([CO.row [.int .i64 ((c.gs[j]'ix1).k), .slice ((ps0[j]'iy1)).1 ((c.gs[j]'ix1).ws).length ((ps0[j]'iy1)).2, .int .i64 ((c.gs[j]'ix1).b), .int .i64 ((c.gs[j]'ix1).f)] true none] ++ []))).length) (List.append_nil _) rfl (Grown.lit (((hG1.at (h := H) (L := [CO.row [.int .i64 (c.w), .int .i64 (c.b), .slice (p).1 (c.gs).length (p).2] true none, CO.row [.int .i64 (0), .int .i64 (0), .slice none 0 0] true none]) (by simp)).app (L := [])).take (by omega)).1 hW1 rfl rfl) rfl rfl (((hG1.at (by simp)).app.app.app).drop (by omega)).first (by simp only [roomB]; omega) (List.all_eq_true.2 fun v hv => flat_cells v (List.mem_of_mem_drop hv)) (((hG1.at (h := H) (L := [CO.row [.int .i64 (c.w), .int .i64 (c.b), .slice (p).1 (c.gs).length (p).2] true none, CO.row [.int .i64 (0), .int .i64 (0), .slice none 0 0] true none]) (by simp)).app (L := [])).drop (by omega)).1 rfl fun Y1 y1 hY1 hge1 => (E_mv (v := .slice _ _ _) rfl (E_nil (AX_E (E_mv (v := .int .i64 ((j : Int))) rfl (E_addI rfl rfl (by first | omega | (simp; done) | (simp; omega)) (by first | omega | (simp; done) | (simp; omega)) (E_mv (v := .int .i64 (((j : Int) + 1))) rfl (E_nil ?_)))))))))))))))))
              refine hN0 (j + 1, lf.eraseIdx b, y1) _ _ _ ⟨by first | rfl | (congr 1; omega), by first | rfl | (congr 1; omega), by first | rfl | exact congrArg (fun n => Value.slice y1.1 n y1.2) (by rw [List.length_eraseIdx_of_lt hbl]; omega), by first | rfl | (congr 1; omega), trivial⟩ ⟨⟨(z0 ++ ([CO.row [.int .i64 ((c.gs[j]'ix1).k), .slice ((ps0[j]'iy1)).1 ((c.gs[j]'ix1).ws).length ((ps0[j]'iy1)).2, .int .i64 ((c.gs[j]'ix1).b), .int .i64 ((c.gs[j]'ix1).f)] true none] ++ ([] ++ ([] ++ Y1)))), by first | (simp only [List.append_assoc, List.append_nil, List.nil_append, List.cons_append, List.set_cons_zero, List.set_cons_succ]; done) | (simp only [List.append_assoc, List.append_nil, List.nil_append, List.cons_append, List.set_cons_zero, List.set_cons_succ]; rfl), (by have h := Lst.erase (n := H.length + 2) (Z := z0 ++ ([CO.row [.int .i64 ((c.gs[j]'ix1).k), .slice ((ps0[j]'iy1)).1 ((c.gs[j]'ix1).ws).length ((ps0[j]'iy1)).2, .int .i64 ((c.gs[j]'ix1).b), .int .i64 ((c.gs[j]'ix1).f)] true none] ++ [])) hps1 hI1 hbl (by simp; omega) hY1 (by rw [List.length_eraseIdx_of_lt hbl]; omega); simpa only [List.append_assoc, List.nil_append, List.append_nil, List.cons_append] using h)⟩, rfl, ?_⟩ ?_
              -- n5
              all_goals clear hN0 hR0 hE0 hN2 hR2 hE2
              · exact ⟨by omega, by rw [cancelL_next (by omega), ← hlf, hb, cstep_rm (by omega) (by omega) inv2.2 c51], by rw [List.length_eraseIdx_of_lt hbl]; omega⟩
              · (first | omega | (simp; omega))
            · refine E_pickT rfl (v := .bool _) rfl (E_nil (AX_condF rfl (AX_E (E_mv (v := .slice _ _ _) rfl (E_ldON (k := 0) rfl rfl (E_mkS (cs := [.int .i64 ((c.gs[j]'ix1).k), .slice ((ps0[j]'iy1)).1 ((c.gs[j]'ix1).ws).length ((ps0[j]'iy1)).2, .int .i64 ((c.gs[j]'ix1).b), .int .i64 ((c.gs[j]'ix1).f)]) rfl (E_appL (A := [CO.row [.int .i64 (c.w), .int .i64 (c.b), .slice (p).1 (c.gs).length (p).2] true none, CO.row [.int .i64 (0), .int .i64 (0), .slice none 0 0] true none]) (Z := (z0 ++ [CO.row [.int .i64 ((c.gs[j]'ix1).k), .slice ((ps0[j]'iy1)).1 ((c.gs[j]'ix1).ws).length ((ps0[j]'iy1)).2, .int .i64 ((c.gs[j]'ix1).b), .int .i64 ((c.gs[j]'ix1).f)] true none, CO.row [.int .i64 ((c.gs[j]'ix1).k), .slice ((ps0[j]'iy1)).1 ((c.gs[j]'ix1).ws).length ((ps0[j]'iy1)).2, .int .i64 ((c.gs[j]'ix1).b), .int .i64 ((c.gs[j]'ix1).f)] true none])) (gs' := lf ++ [c.gs[j]]) (by first | (simp only [List.append_assoc, List.append_nil, List.nil_append, List.cons_append, List.set_cons_zero, List.set_cons_succ]; done) | (simp only [List.append_assoc, List.append_nil, List.nil_append, List.cons_append, List.set_cons_zero, List.set_cons_succ]; rfl)) (rfl) (n := (H.length + 2)) (by simp) (zf0).app rfl rfl (rowGet_own (k := 1) rfl) (hI0 j (by omega) (by omega)) (by omega) rfl fun z8n p8n l8n k8n b8n => (E_mv (v := .slice _ _ _) rfl (E_nil (AX_E (E_mv (v := .int .i64 ((j : Int))) rfl (E_addI rfl rfl (by first | omega | (simp; done) | (simp; omega)) (by first | omega | (simp; done) | (simp; omega)) (E_mv (v := .int .i64 (((j : Int) + 1))) rfl (E_nil ?_))))))))))))))
              refine hN0 (j + 1, lf ++ [c.gs[j]], p8n) _ _ _ ⟨by first | rfl | (congr 1; omega), by first | rfl | (congr 1; omega), by first | rfl | exact congrArg (fun n => Value.slice y1.1 n y1.2) (by rw [List.length_eraseIdx_of_lt hbl]; omega), by first | rfl | (congr 1; omega), trivial⟩ ⟨⟨z8n, by first | (simp only [List.append_assoc, List.append_nil, List.nil_append, List.cons_append, List.set_cons_zero, List.set_cons_succ]; done) | (simp only [List.append_assoc, List.append_nil, List.nil_append, List.cons_append, List.set_cons_zero, List.set_cons_succ]; rfl), l8n⟩, rfl, ?_⟩ ?_
              -- n6
              all_goals clear hN0 hR0 hE0 hN2 hR2 hE2
              · exact ⟨by omega, by rw [cancelL_next (by omega), ← hlf, cstep_ap (by omega) (by omega) inv2.2 c51 c39], by simp; omega⟩
              · (first | omega | (simp; omega))
          · refine E_mv (v := .bool _) rfl (E_notT rfl (E_notT rfl (E_notT rfl (E_notT rfl (E_notT rfl (E_notT rfl (E_pickF rfl (v := .bool _) rfl (E_nil (AX_condF rfl (AX_E (E_mv (v := .slice _ _ _) rfl (E_ldON (k := 0) rfl rfl (E_mkS (cs := [.int .i64 ((c.gs[j]'ix1).k), .slice ((ps0[j]'iy1)).1 ((c.gs[j]'ix1).ws).length ((ps0[j]'iy1)).2, .int .i64 ((c.gs[j]'ix1).b), .int .i64 ((c.gs[j]'ix1).f)]) rfl (E_appL (A := [CO.row [.int .i64 (c.w), .int .i64 (c.b), .slice (p).1 (c.gs).length (p).2] true none, CO.row [.int .i64 (0), .int .i64 (0), .slice none 0 0] true none]) (Z := (z0 ++ [CO.row [.int .i64 ((c.gs[j]'ix1).k), .slice ((ps0[j]'iy1)).1 ((c.gs[j]'ix1).ws).length ((ps0[j]'iy1)).2, .int .i64 ((c.gs[j]'ix1).b), .int .i64 ((c.gs[j]'ix1).f)] true none, CO.row [.int .i64 ((c.gs[j]'ix1).k), .slice ((ps0[j]'iy1)).1 ((c.gs[j]'ix1).ws).length ((ps0[j]'iy1)).2, .int .i64 ((c.gs[j]'ix1).b), .int .i64 ((c.gs[j]'ix1).f)] true none])) (gs' := lf ++ [c.gs[j]]) (by first | (simp only [List.append_assoc, List.append_nil, List.nil_append, List.cons_append, List.set_cons_zero, List.set_cons_succ]; done) | (simp only [List.append_assoc, List.append_nil, List.nil_append, List.cons_append, List.set_cons_zero, List.set_cons_succ]; rfl)) (rfl) (n := (H.length + 2)) (by simp) (zf0).app rfl rfl (rowGet_own (k := 1) rfl) (hI0 j (by omega) (by omega)) (by omega) rfl fun z9n p9n l9n k9n b9n => (E_mv (v := .slice _ _ _) rfl (E_nil (AX_E (E_mv (v := .int .i64 ((j : Int))) rfl (E_addI rfl rfl (by first | omega | (simp; done) | (simp; omega)) (by first | omega | (simp; done) | (simp; omega)) (E_mv (v := .int .i64 (((j : Int) + 1))) rfl (E_nil ?_)))))))))))))))))))))
            refine hN0 (j + 1, lf ++ [c.gs[j]], p9n) _ _ _ ⟨by first | rfl | (congr 1; omega), by first | rfl | (congr 1; omega), by first | rfl | exact congrArg (fun n => Value.slice y1.1 n y1.2) (by rw [List.length_eraseIdx_of_lt hbl]; omega), by first | rfl | (congr 1; omega), trivial⟩ ⟨⟨z9n, by first | (simp only [List.append_assoc, List.append_nil, List.nil_append, List.cons_append, List.set_cons_zero, List.set_cons_succ]; done) | (simp only [List.append_assoc, List.append_nil, List.nil_append, List.cons_append, List.set_cons_zero, List.set_cons_succ]; rfl), l9n⟩, rfl, ?_⟩ ?_
            -- n7
            all_goals clear hN0 hR0 hE0 hN2 hR2 hE2
            · exfalso; omega
            · (first | omega | (simp; omega))
    · refine E_mv (v := .bool _) rfl (E_notT rfl (E_notT rfl (E_notT rfl (E_notT rfl (E_notT rfl (E_notT rfl (E_notT rfl (E_pickF rfl (v := .bool _) rfl (E_mv (v := .bool _) rfl (E_notT rfl (E_notT rfl (E_notT rfl (E_notT rfl (E_notT rfl (E_notT rfl (E_pickF rfl (v := .bool _) rfl (E_nil (AX_condF rfl (AX_exit (hE2 _ _ _ _ (AX_seq (AX_E (E_mv (v := .int .i64 (((k : Int) - 1))) rfl (E_geqS rfl rfl (fun c44 => ?_) (fun c44 => ?_)))))))))))))))))))))))))
      · refine E_mv (v := .bool _) rfl (E_on rfl (E_mv (v := .slice _ _ _) rfl (E_on rfl (E_mv (v := .int .i64 (((k : Int) - 1))) rfl (E_on rfl (have ix10 : k - 1 < (lf).length := (by first | omega | (simp; done) | (simp; omega)); have iy10 : k - 1 < ps1.length := (by omega); E_iaPb (j := k - 1) rfl (hG1.at (by simp)) rfl hps1 rfl (by first | rfl | omega) ix10 iy10 fun b10 o10 w10 => (E_on rfl (E_ldBN rfl w10 (E_on rfl (E_ldON (k := 0) rfl rfl (E_on rfl (E_callP rfl (undo_ret _ (lf[k - 1]'ix10) (c.gs[j]'ix1) _ _ (hI1 (k - 1) ix10 iy10).app.app (hI0 (j) ix1 iy1).app.app (hgr _ (List.getElem_mem _)) (hr.gr (List.getElem_mem _))) (fun c51 => ?_) (fun c51 => ?_)))))))))))))
        · refine E_pickT rfl (v := .bool _) rfl (E_nil (AX_condT rfl (AX_E ?_)))
          obtain ⟨b, hb⟩ : ∃ b, b = k - 1 := ⟨_, rfl⟩
          have hbl : b < lf.length := by omega
          refine E_hp (h' := ((H ++ ([CO.row [.int .i64 (c.w), .int .i64 (c.b), .slice (p).1 (c.gs).length (p).2] true none, CO.row [.int .i64 (0), .int .i64 (0), .slice none 0 0] true none] ++ z0)) ++ ([CO.row [.int .i64 ((c.gs[j]'ix1).k), .slice ((ps0[j]'iy1)).1 ((c.gs[j]'ix1).ws).length ((ps0[j]'iy1)).2, .int .i64 ((c.gs[j]'ix1).b), .int .i64 ((c.gs[j]'ix1).f)] true none] ++ [])) ++ []) (by simp only [List.append_nil]) (E_mkS (cs := []) rfl (E_mv (v := .slice _ _ _) rfl (E_mv (v := .int .i64 (((k : Int) - 1))) rfl (E_slHi (j := b) rfl ((hG1.at (by simp)).app.app) rfl (by first | rfl | omega) (by omega) (E_app0 (k := 0) rfl rfl rfl (((hG1.at (by simp)).app.app).take (by omega)).first (by simp only [roomB]; omega) (((hG1.at (h := H) (L := [CO.row [.int .i64 (c.w), .int .i64 (c.b), .slice (p).1 (c.gs).length (p).2] true none, CO.row [.int .i64 (0), .int .i64 (0), .slice none 0 0] true none]) (by simp)).app (L := [])).take (by omega)).1 fun W1 q1 hW1 => E_nilR (E_mv (v := .slice _ _ _) rfl (E_mv (v := .int .i64 (((k : Int) - 1))) rfl (E_addI rfl rfl (by first | omega | (simp; done) | (simp; omega)) (by first | omega | (simp; done) | (simp; omega)) (E_slLo (j := b + 1) rfl ((hG1.at (by simp)).app.app.app) rfl (by first | rfl | omega) (by omega) (E_app2 (Bs := ((H ++ ([CO.row [.int .i64 (c.w), .int .i64 (c.b), .slice (p).1 (c.gs).length (p).2] true none, CO.row [.int .i64 (0), .int .i64 (0), .slice none 0 0] true none] ++ z0)) ++ ([CO.row [.int .i64 ((c.gs[j]'ix1).k), .slice ((ps0[j]'iy1)).1 ((c.gs[j]'ix1).ws).length ((ps0[j]'iy1)).2, .int .i64 ((c.gs[j]'ix1).b), .int .i64 ((c.gs[j]'ix1).f)] true none] ++ []))) (Z := [CO.row [] true none] ++ W1) (n := (((H ++ ([CO.row [.int .i64 (c.w), .int .i64 (c.b), .slice (p).1 (c.gs).length (p).2] true none, CO.row [.int .i64 (0), .int .i64 (0), .slice none 0 0] true none] ++ z0)) ++ ([CO.row [.int .i64 ((c.gs[j]'ix1).k), .slice ((ps0[j]'iy1)).1 ((c.gs[j]'ix1).ws).length ((ps0[j]'iy1)).2, .int .i64 ((c.gs[j]'ix1).b), .int .i64 ((c.gs[j]'ix1).f)] true none] ++ []))).length) (List.append_nil _) rfl (Grown.lit (((hG1.at (h := H) (L := [CO.row [.int .i64 (c.w), .int .i64 (c.b), .slice (p).1 (c.gs).length (p).2] true none, CO.row [.int .i64 (0), .int .i64 (0), .slice none 0 0] true none]) (by simp)).app (L := [])).take (by omega)).1 hW1 rfl rfl) rfl rfl (((hG1.at (by simp)).app.app.app).drop (by omega)).first (by simp only [roomB]; omega) (List.all_eq_true.2 fun v hv => flat_cells v (List.mem_of_mem_drop hv)) (((hG1.at (h := H) (L := [CO.row [.int .i64 (c.w), .int .i64 (c.b), .slice (p).1 (c.gs).length (p).2] true none, CO.row [.int .i64 (0), .int .i64 (0), .slice none 0 0] true none]) (by simp)).app (L := [])).drop (by omega)).1 rfl fun Y1 y1 hY1 hge1 => (E_mv (v := .slice _ _ _) rfl (E_nil (AX_E (E_mv (v := .int .i64 ((j : Int))) rfl (E_addI rfl rfl (by first | omega | (simp; done) | (simp; omega)) (by first | omega | (simp; done) | (simp; omega)) (E_mv (v := .int .i64 (((j : Int) + 1))) rfl (E_nil ?_)))))))))))))))))
          refine hN0 (j + 1, lf.eraseIdx b, y1) _ _ _ ⟨by first | rfl | (congr 1; omega), by first | rfl | (congr 1; omega), by first | rfl | exact congrArg (fun n => Value.slice y1.1 n y1.2) (by rw [List.length_eraseIdx_of_lt hbl]; omega), by first | rfl | (congr 1; omega), trivial⟩ ⟨⟨(z0 ++ ([CO.row [.int .i64 ((c.gs[j]'ix1).k), .slice ((ps0[j]'iy1)).1 ((c.gs[j]'ix1).ws).length ((ps0[j]'iy1)).2, .int .i64 ((c.gs[j]'ix1).b), .int .i64 ((c.gs[j]'ix1).f)] true none] ++ ([] ++ ([] ++ Y1)))), by first | (simp only [List.append_assoc, List.append_nil, List.nil_append, List.cons_append, List.set_cons_zero, List.set_cons_succ]; done) | (simp only [List.append_assoc, List.append_nil, List.nil_append, List.cons_append, List.set_cons_zero, List.set_cons_succ]; rfl), (by have h := Lst.erase (n := H.length + 2) (Z := z0 ++ ([CO.row [.int .i64 ((c.gs[j]'ix1).k), .slice ((ps0[j]'iy1)).1 ((c.gs[j]'ix1).ws).length ((ps0[j]'iy1)).2, .int .i64 ((c.gs[j]'ix1).b), .int .i64 ((c.gs[j]'ix1).f)] true none] ++ [])) hps1 hI1 hbl (by simp; omega) hY1 (by rw [List.length_eraseIdx_of_lt hbl]; omega); simpa only [List.append_assoc, List.nil_append, List.append_nil, List.cons_append] using h)⟩, rfl, ?_⟩ ?_
          -- n8
          all_goals clear hN0 hR0 hE0 hN2 hR2 hE2
          · exfalso; omega
          · (first | omega | (simp; omega))
        · refine E_pickT rfl (v := .bool _) rfl (E_nil (AX_condF rfl (AX_E (E_mv (v := .slice _ _ _) rfl (E_ldON (k := 0) rfl rfl (E_mkS (cs := [.int .i64 ((c.gs[j]'ix1).k), .slice ((ps0[j]'iy1)).1 ((c.gs[j]'ix1).ws).length ((ps0[j]'iy1)).2, .int .i64 ((c.gs[j]'ix1).b), .int .i64 ((c.gs[j]'ix1).f)]) rfl (E_appL (A := [CO.row [.int .i64 (c.w), .int .i64 (c.b), .slice (p).1 (c.gs).length (p).2] true none, CO.row [.int .i64 (0), .int .i64 (0), .slice none 0 0] true none]) (Z := (z0 ++ [CO.row [.int .i64 ((c.gs[j]'ix1).k), .slice ((ps0[j]'iy1)).1 ((c.gs[j]'ix1).ws).length ((ps0[j]'iy1)).2, .int .i64 ((c.gs[j]'ix1).b), .int .i64 ((c.gs[j]'ix1).f)] true none, CO.row [.int .i64 ((c.gs[j]'ix1).k), .slice ((ps0[j]'iy1)).1 ((c.gs[j]'ix1).ws).length ((ps0[j]'iy1)).2, .int .i64 ((c.gs[j]'ix1).b), .int .i64 ((c.gs[j]'ix1).f)] true none])) (gs' := lf ++ [c.gs[j]]) (by first | (simp only [List.append_assoc, List.append_nil, List.nil_append, List.cons_append, List.set_cons_zero, List.set_cons_succ]; done) | (simp only [List.append_assoc, List.append_nil, List.nil_append, List.cons_append, List.set_cons_zero, List.set_cons_succ]; rfl)) (rfl) (n := (H.length + 2)) (by simp) (zf0).app rfl rfl (rowGet_own (k := 1) rfl) (hI0 j (by omega) (by omega)) (by omega) rfl fun z11n p11n l11n k11n b11n => (E_mv (v := .slice _ _ _) rfl (E_nil (AX_E (E_mv (v := .int .i64 ((j : Int))) rfl (E_addI rfl rfl (by first | omega | (simp; done) | (simp; omega)) (by first | omega | (simp; done) | (simp; omega)) (E_mv (v := .int .i64 (((j : Int) + 1))) rfl (E_nil ?_))))))))))))))
          refine hN0 (j + 1, lf ++ [c.gs[j]], p11n) _ _ _ ⟨by first | rfl | (congr 1; omega), by first | rfl | (congr 1; omega), by first | rfl | exact congrArg (fun n => Value.slice y1.1 n y1.2) (by rw [List.length_eraseIdx_of_lt hbl]; omega), by first | rfl | (congr 1; omega), trivial⟩ ⟨⟨z11n, by first | (simp only [List.append_assoc, List.append_nil, List.nil_append, List.cons_append, List.set_cons_zero, List.set_cons_succ]; done) | (simp only [List.append_assoc, List.append_nil, List.nil_append, List.cons_append, List.set_cons_zero, List.set_cons_succ]; rfl), l11n⟩, rfl, ?_⟩ ?_
          -- n9
          all_goals clear hN0 hR0 hE0 hN2 hR2 hE2
          · exfalso; omega
          · (first | omega | (simp; omega))
      · refine E_mv (v := .bool _) rfl (E_notT rfl (E_notT rfl (E_notT rfl (E_notT rfl (E_notT rfl (E_notT rfl (E_pickF rfl (v := .bool _) rfl (E_nil (AX_condF rfl (AX_E (E_mv (v := .slice _ _ _) rfl (E_ldON (k := 0) rfl rfl (E_mkS (cs := [.int .i64 ((c.gs[j]'ix1).k), .slice ((ps0[j]'iy1)).1 ((c.gs[j]'ix1).ws).length ((ps0[j]'iy1)).2, .int .i64 ((c.gs[j]'ix1).b), .int .i64 ((c.gs[j]'ix1).f)]) rfl (E_appL (A := [CO.row [.int .i64 (c.w), .int .i64 (c.b), .slice (p).1 (c.gs).length (p).2] true none, CO.row [.int .i64 (0), .int .i64 (0), .slice none 0 0] true none]) (Z := (z0 ++ [CO.row [.int .i64 ((c.gs[j]'ix1).k), .slice ((ps0[j]'iy1)).1 ((c.gs[j]'ix1).ws).length ((ps0[j]'iy1)).2, .int .i64 ((c.gs[j]'ix1).b), .int .i64 ((c.gs[j]'ix1).f)] true none, CO.row [.int .i64 ((c.gs[j]'ix1).k), .slice ((ps0[j]'iy1)).1 ((c.gs[j]'ix1).ws).length ((ps0[j]'iy1)).2, .int .i64 ((c.gs[j]'ix1).b), .int .i64 ((c.gs[j]'ix1).f)] true none])) (gs' := lf ++ [c.gs[j]]) (by first | (simp only [List.append_assoc, List.append_nil, List.nil_append, List.cons_append, List.set_cons_zero, List.set_cons_succ]; done) | (simp only [List.append_assoc, List.append_nil, List.nil_append, List.cons_append, List.set_cons_zero, List.set_cons_succ]; rfl)) (rfl) (n := (H.length + 2)) (by simp) (zf0).app rfl rfl (rowGet_own (k := 1) rfl) (hI0 j (by omega) (by omega)) (by omega) rfl fun z12n p12n l12n k12n b12n => (E_mv (v := .slice _ _ _) rfl (E_nil (AX_E (E_mv (v := .int .i64 ((j : Int))) rfl (E_addI rfl rfl (by first | omega | (simp; done) | (simp; omega)) (by first | omega | (simp; done) | (simp; omega)) (E_mv (v := .int .i64 (((j : Int) + 1))) rfl (E_nil ?_)))))))))))))))))))))
        refine hN0 (j + 1, lf ++ [c.gs[j]], p12n) _ _ _ ⟨by first | rfl | (congr 1; omega), by first | rfl | (congr 1; omega), by first | rfl | exact congrArg (fun n => Value.slice y1.1 n y1.2) (by rw [List.length_eraseIdx_of_lt hbl]; omega), by first | rfl | (congr 1; omega), trivial⟩ ⟨⟨z12n, by first | (simp only [List.append_assoc, List.append_nil, List.nil_append, List.cons_append, List.set_cons_zero, List.set_cons_succ]; done) | (simp only [List.append_assoc, List.append_nil, List.nil_append, List.cons_append, List.set_cons_zero, List.set_cons_succ]; rfl), l12n⟩, rfl, ?_⟩ ?_
        -- n10
        all_goals clear hN0 hR0 hE0 hN2 hR2 hE2
        · exact ⟨by omega, by rw [cancelL_next (by omega), ← hlf, cstep_ap0 c23 inv2.2], by simp; omega⟩
        · (first | omega | (simp; omega))
  · refine E_nil (AX_condF rfl (AX_exit (hE0 _ _ _ _ ?_)))
    have elf : lf = (cancelM c).gs := by rw [hlf, List.take_of_length_le (by omega)]; rfl
    have how : ∀ g ∈ lf, g.ws.length < 4294967296 := fun g hg => by have := (hgr g hg).len; omega
    refine AX_hp (h' := H ++ ([CO.row [.int .i64 (c.w), .int .i64 (c.b), .slice (p).1 (c.gs).length (p).2] true none, CO.row [.int .i64 (0), .int .i64 (0), .slice none 0 0] true none] ++ z0)) (by first | (simp only [List.append_assoc, List.append_nil, List.nil_append, List.cons_append, List.set_cons_zero, List.set_cons_succ]; done) | (simp only [List.append_assoc, List.append_nil, List.nil_append, List.cons_append, List.set_cons_zero, List.set_cons_succ]; rfl)) ?_
    refine AX_seq (AX_E (E_ldON (k := 0) rfl rfl (E_mv (v := .slice _ _ _) rfl ?_)))
    obtain ⟨X13, x13, hr13, f13⟩ := with_ret (H ++ ([CO.row [.int .i64 (c.w), .int .i64 (c.b), .slice (p).1 (c.gs).length (p).2] true none, CO.row [.int .i64 (0), .int .i64 (0), .slice none 0 0] true none] ++ z0)) c _ (lf) _ (zf0.gates (by simp)) (by omega) (how)
    refine E_callX (X := X13) rfl (hr13) (E_hp (h' := H ++ ([CO.row [.int .i64 (c.w), .int .i64 (c.b), .slice (p).1 (c.gs).length (p).2] true none, CO.row [.int .i64 (0), .int .i64 (0), .slice none 0 0] true none] ++ (z0 ++ X13))) (by first | (simp only [List.append_assoc, List.append_nil, List.nil_append, List.cons_append, List.set_cons_zero, List.set_cons_succ]; done) | (simp only [List.append_assoc, List.append_nil, List.nil_append, List.cons_append, List.set_cons_zero, List.set_cons_succ]; rfl)) (E_stO (k := 1) rfl rfl (v := .agg _) rfl rfl rfl rfl (E_nil (AX_ret ?_))))
    refine ⟨_, res1 (res_cellN (k := 1) rfl rfl), by simp, ?_⟩
    obtain ⟨X, h1, h2⟩ := leafG (h := H) (h' := H ++ ([CO.row [.int .i64 (c.w), .int .i64 (c.b), .slice (p).1 (c.gs).length (p).2] true none, CO.row [.int .i64 (c.w), .int .i64 (c.b), .slice (x13).1 (lf).length (x13).2] true none] ++ (z0 ++ X13))) (A := [CO.row [.int .i64 (c.w), .int .i64 (c.b), .slice (p).1 (c.gs).length (p).2] true none, CO.row [.int .i64 (c.w), .int .i64 (c.b), .slice (x13).1 (lf).length (x13).2] true none]) (Z := (z0 ++ X13)) (u := cv ⟨c.w, c.b, lf⟩ x13) rfl (GatesZ.pre (n := H.length + 2) (W := z0) f13 (by simp; omega)) (by simp) cv_flat
    exact ⟨X, h1, x13, (show _ = cv ⟨c.w, c.b, lf⟩ x13 from rfl).trans (by rw [elf] <;> rfl), by rw [elf] at h2; exact h2⟩
end Go.Canon
namespace Go.Canon
open Go Go.Proofs
set_option linter.unusedVariables false
set_option linter.unusedSimpArgs false
def kf14 : KFunc := ⟨2, 10, [.tmp 4], .seq (.reg [⟨some 2, .box (.t 0), none⟩, ⟨some 3, .box (.t 1), none⟩, ⟨some 4, .mv (.c (.bool false)), none⟩] []) (.seq (.reg [⟨some 5, .ld (.t 2) (some 3), none⟩, ⟨some 6, .call (.c (.func (.func 10) #[] #[])) [.t 5], none⟩, ⟨some 7, .ld (.t 3) (some 3), none⟩, ⟨some 8, .call (.c (.func (.func 10) #[] #[])) [.t 7], none⟩, ⟨some 9, .call (.c (.func (.func 37) #[] #[])) [.t 6, .t 8], none⟩, ⟨some 4, .mv (.t 9), none⟩] [(1, 2)]) .ret)⟩
theorem k14 : tab Try.prog 14 = some kf14 := by kernel_rfl
def kf97 : KFunc := ⟨1, 18, [.tmp 2], .seq (.reg [⟨some 2, .mv (.c (.int .i64 0)), none⟩] []) (.seq (.reg [⟨some 3, .mv (.c (.int .i64 0)), none⟩] []) (.seq (.seq (.reg [⟨some 6, .mv (.t 0), none⟩, ⟨some 7, .len (.t 6), none⟩, ⟨some 8, .mv (.c (.int .i64 0)), none⟩] []) (.block 0 (.loop (.seq (.reg [⟨some 9, .bin .lss (.t 8) (.t 7), none⟩] []) (.seq (.cond (.t 9) .skip (.exit 0)) (.seq (.block 1 (.seq (.reg [⟨some 10, .iaS (.t 6) (.t 8) 1, none⟩, ⟨some 11, .ld (.t 10) none, none⟩, ⟨some 5, .mv (.t 11), none⟩] []) (.seq (.reg [⟨some 12, .mv (.t 5), none⟩, ⟨some 13, .mv (.t 3), none⟩, ⟨some 14, .bin .neq (.t 12) (.t 13), none⟩] []) (.cond (.t 14) (.seq (.reg [⟨some 15, .mv (.t 5), none⟩, ⟨some 2, .mv (.t 15), none⟩] []) .ret) .skip)))) (.reg [⟨some 16, .bin .add (.t 8) (.c (.int .i64 1)), none⟩, ⟨some 8, .mv (.t 16), none⟩] []))))))) (.seq (.reg [⟨some 17, .mv (.t 3), none⟩, ⟨some 2, .mv (.t 17), none⟩] []) .ret)))⟩
theorem k97 : tab Try.prog 97 = some kf97 := by kernel_rfl
def kf70 : KFunc := ⟨2, 27, [.tmp 4], .seq (.reg [⟨some 2, .box (.t 0), none⟩, ⟨some 3, .box (.t 1), none⟩, ⟨some 4, .mv (.c (.int .i64 0)), none⟩] []) (.seq (.reg [⟨some 5, .fa (.t 2) 0, none⟩, ⟨some 6, .ld (.t 5) none, none⟩, ⟨some 7, .fa (.t 3) 0, none⟩, ⟨some 8, .ld (.t 7) none, none⟩, ⟨some 9, .call (.c (.func (.func 98) #[] #[])) [.t 6, .t 8], none⟩, ⟨some 10, .fa (.t 2) 1, none⟩, ⟨some 11, .ld (.t 10) none, none⟩, ⟨some 12, .fa (.t 3) 1, none⟩, ⟨some 13, .ld (.t 12) none, none⟩, ⟨some 14, .call (.c (.func (.func 99) #[] #[])) [.t 11, .t 13], none⟩, ⟨some 15, .fa (.t 2) 2, none⟩, ⟨some 16, .ld (.t 15) none, none⟩, ⟨some 17, .fa (.t 3) 2, none⟩, ⟨some 18, .ld (.t 17) none, none⟩, ⟨some 19, .call (.c (.func (.func 98) #[] #[])) [.t 16, .t 18], none⟩, ⟨some 20, .fa (.t 2) 3, none⟩, ⟨some 21, .ld (.t 20) none, none⟩, ⟨some 22, .fa (.t 3) 3, none⟩, ⟨some 23, .ld (.t 22) none, none⟩, ⟨some 24, .call (.c (.func (.func 98) #[] #[])) [.t 21, .t 23], none⟩, ⟨some 25, .mkS [.int .i64 0, .int .i64 0, .int .i64 0, .int .i64 0] 4 [(0, 1, .t 9), (1, 1, .t 14), (2, 1, .t 19), (3, 1, .t 24)], none⟩, ⟨some 26, .call (.c (.func (.func 97) #[] #[])) [.t 25], none⟩, ⟨some 4, .mv (.t 26), none⟩] [(4, 6), (4, 8), (4, 11), (9, 11), (4, 13), (9, 13), (4, 16), (9, 16), (14, 16), (4, 18), (9, 18), (14, 18)]) .ret)⟩
theorem k70 : tab Try.prog 70 = some kf70 := by kernel_rfl
theorem tidyM_gr {c : C} (hr : CR c) {g : G} (hg : g ∈ (tidyM c).gs) : GR g := hr.gr (tidyL_mem _ _ rfl g hg)
theorem tidyM_lens {c : C} (hr : CR c) : (tidyM c).gs.length ≤ 120 ∧ ∀ g ∈ (tidyM c).gs, g.ws.length ≤ 3 := ⟨by have := hr.n0; simp only [tidyM, tidyL_len]; omega, fun g hg => (tidyM_gr hr hg).len.2⟩
theorem requal_ret (H : Heap) (c d : C) (p q : Pl) {S S' : Nat → Prop} (hv : Gates S H p c.gs) (hu : Gates S' H q d.gs) (hc : CR c) (hd : CR d) : Ret (tab Try.prog) 14 [cv c p, cv d q] H (.bool (decide (tidyM c = tidyM d))) H := by
  have h1 := tidyM_lens hc
  refine Ret_own k14 rfl ?_
  refine AX_seq (AX_E (E_boxA rfl (E_boxA rfl (E_mv (v := .bool _) rfl (E_nil (AX_seq (AX_E (E_ldON (k := 0) rfl rfl ?_))))))))
  obtain ⟨X1, x1, hr1, f1⟩ := tidy_ret (H ++ [CO.row [.int .i64 (c.w), .int .i64 (c.b), .slice (p).1 (c.gs).length (p).2] true none, CO.row [.int .i64 (d.w), .int .i64 (d.b), .slice (q).1 (d.gs).length (q).2] true none]) c _ hv.app (by assumption)
  refine E_callX (X := X1) rfl (hr1) (E_ldBN (cs := [.int .i64 (d.w), .int .i64 (d.b), .slice (q).1 (d.gs).length (q).2]) rfl (rowGet_own (k := 1) rfl) ?_)
  obtain ⟨X2, x2, hr2, f2⟩ := tidy_ret ((H ++ ([CO.row [.int .i64 (c.w), .int .i64 (c.b), .slice (p).1 (c.gs).length (p).2] true none, CO.row [.int .i64 (d.w), .int .i64 (d.b), .slice (q).1 (d.gs).length (q).2] true none] ++ X1)) ++ []) d _ hu.app.app (by assumption)
  refine E_callX (X := X2) rfl (hr2) (E_callP rfl (same_ret _ (tidyM c) (tidyM d) _ _ (f1.at rfl).app.app (f2.at rfl).app (by omega) (fun g hg => by have := h1.2 g hg; omega)) (fun c9 => ?_) (fun c9 => ?_))
  · refine E_mv (v := .bool _) rfl (E_nil (AX_ret ?_))
    refine ⟨_, rfl, by simp, ?_, forget_flat rfl ((List.prefix_append _ _).trans ((List.prefix_append _ _).trans (List.prefix_append _ _)))⟩
    refine congrArg (Value.bool) ?_
    refine (decide_eq_true ?_).symm
    assumption
  · refine E_mv (v := .bool _) rfl (E_nil (AX_ret ?_))
    refine ⟨_, rfl, by simp, ?_, forget_flat rfl ((List.prefix_append _ _).trans ((List.prefix_append _ _).trans (List.prefix_append _ _)))⟩
    refine congrArg (Value.bool) ?_
    refine (decide_eq_false ?_).symm
    assumption
def firstNZ : List Int → Int
  | [] => 0
  | x :: xs => if x ≠ 0 then x else firstNZ xs
theorem firstNZ_at : ∀ {l : List Int} {j : Nat} (hj : j < l.length), (∀ x ∈ l.take j, x = 0) → l[j] ≠ 0 → firstNZ l = l[j]
  | x :: xs, 0, _, _, h => by simp at h; simp [firstNZ, h]
  | x :: xs, j + 1, hj, H, h => by
    simp only [List.getElem_cons_succ] at h ⊢
    rw [firstNZ, if_neg (by simp [H x (by simp)])]
    exact firstNZ_at (by simpa using hj) (fun y hy => H y (by simp [hy])) h
theorem firstNZ_all : ∀ {l : List Int}, (∀ x ∈ l, x = 0) → firstNZ l = 0
  | [], _ => rfl
  | x :: xs, H => by rw [firstNZ, if_neg (by simp [H x (by simp)])]; exact firstNZ_all fun y hy => H y (by simp [hy])
theorem or_ret (H : Heap) (p : Pl) (l : List Int) {S : Nat → Prop} (hv : Ints S H p l) (hl : l.length < 4611686018427387904) : Ret (tab Try.prog) 97 [.slice p.1 l.length p.2] H (.int .i64 (firstNZ l)) H := by
  refine Ret_own k97 rfl ?_
  refine AX_seq (AX_E (E_mv (v := .int .i64 (0)) rfl (E_nil (AX_seq (AX_E (E_mv (v := .int .i64 (0)) rfl (E_nil (AX_seq (AX_seq (AX_E (E_mv (v := .slice _ _ _) rfl (E_len (n := (l).length) rfl (E_mv (v := .int .i64 (0)) rfl (E_nil (AX_block ?_)))))))))))))))
  refine AX_loopF (γ := Nat) (fun j => [(3, .int .i64 (0)), (6, .slice (p).1 (l).length (p).2), (7, .int .i64 ((l).length)), (8, .int .i64 ((j : Int)))]) (fun j h_ m_ => h_ = H ++ [] ∧ m_ = [] ∧ j ≤ l.length ∧ ∀ x ∈ l.take j, x = 0) (fun j => l.length - j) (0) ⟨rfl, rfl, rfl, rfl, trivial⟩ ⟨rfl, rfl, ?_⟩ ?_
  · simp
  rintro j fr0 h0 m0 ⟨rfl, rfl, inv0⟩ K0 hN0 hR0 hE0
  refine AX_seq (AX_E (E_lssS rfl rfl (fun c9 => ?_) (fun c9 => ?_)))
  · refine E_nil (AX_seq (AX_condT rfl (AX_skip (AX_seq (AX_block (AX_seq (AX_E (have ix1 : j < (l).length := (by first | omega | (simp; done) | (simp; omega)); E_iaIb (j := j) rfl hv rfl rfl rfl ix1 fun b1 o1 w1 => (E_ldB (v := .int .i64 (l[j]'ix1)) rfl w1 (E_mv (v := .int .i64 (l[j]'ix1)) rfl (E_nil (AX_seq (AX_E (E_mv (v := .int .i64 (l[j]'ix1)) rfl (E_mv (v := .int .i64 (0)) rfl (E_neqS rfl rfl (fun c14 => ?_) (fun c14 => ?_)))))))))))))))))
    · refine E_nil (AX_condT rfl (AX_seq (AX_E (E_mv (v := .int .i64 (l[j]'ix1)) rfl (E_mv (v := .int .i64 (l[j]'ix1)) rfl (E_nil (AX_ret (hR0 _ _ _ ?_))))))))
      refine ⟨_, rfl, by simp, ?_, forget_flat rfl (List.prefix_append _ _)⟩
      -- r1
      clear hN0 hR0 hE0
      refine congrArg (Value.int _) ?_
      rw [firstNZ_at (by omega) inv0.2 c14]
    · refine E_nil (AX_condF rfl (AX_skip (AX_E (E_addI rfl rfl (by first | omega | (simp; done) | (simp; omega)) (by first | omega | (simp; done) | (simp; omega)) (E_mv (v := .int .i64 (((j : Int) + 1))) rfl (E_nil ?_))))))
      refine hN0 (j + 1) _ _ _ ⟨by first | rfl | (congr 1; omega), by first | rfl | (congr 1; omega), by first | rfl | (congr 1; omega), by first | rfl | (congr 1; omega), trivial⟩ ⟨rfl, rfl, ?_⟩ ?_
      -- n2
      all_goals clear hN0 hR0 hE0
      · exact ⟨by omega, all_next (by omega) inv0.2 c14⟩
      · (first | omega | (simp; omega))
  · refine E_nil (AX_seq (AX_condF rfl (AX_exit (hE0 _ _ _ _ (AX_seq (AX_E (E_mv (v := .int .i64 (0)) rfl (E_mv (v := .int .i64 (0)) rfl (E_nil (AX_ret ?_))))))))))
    refine ⟨_, rfl, by simp, ?_, forget_flat rfl (List.prefix_append _ _)⟩
    -- r3
    clear hN0 hR0 hE0
    refine congrArg (Value.int _) ?_
    rw [firstNZ_all (all_all c9 inv0.2)]
def orderM (g h : G) : Int := firstNZ [cmpM g.k h.k, lexM g.ws h.ws, cmpM g.b h.b, cmpM g.f h.f]
theorem order_ret (H : Heap) (g h : G) (p q : Pl) {S S' : Nat → Prop} (hv : Ints S H p g.ws) (hu : Ints S' H q h.ws) (hg : g.ws.length < 4611686018427387904) : Ret (tab Try.prog) 70 [gv g p, gv h q] H (.int .i64 (orderM g h)) H := by
  refine Ret_own k70 rfl ?_
  refine AX_seq (AX_E (E_boxA rfl (E_boxA rfl (E_mv (v := .int .i64 (0)) rfl (E_nil (AX_seq (AX_E (E_fa rfl (E_ldO (k := 0) (v := .int .i64 (g.k)) rfl rfl (E_fa rfl (E_ldO (k := 1) (v := .int .i64 (h.k)) rfl rfl (E_callV rfl (cmp_ret _ _ _) (E_fa rfl (E_ldO (k := 0) (v := .slice _ _ _) rfl rfl (E_fa rfl (E_ldO (k := 1) (v := .slice _ _ _) rfl rfl (E_callV rfl (lex_ret _ _ _ _ _ hv.app hu.app (by first | omega | (simp; done) | (simp; omega))) (E_fa rfl (E_ldO (k := 0) (v := .int .i64 (g.b)) rfl rfl (E_fa rfl (E_ldO (k := 1) (v := .int .i64 (h.b)) rfl rfl (E_callV rfl (cmp_ret _ _ _) (E_fa rfl (E_ldO (k := 0) (v := .int .i64 (g.f)) rfl rfl (E_fa rfl (E_ldO (k := 1) (v := .int .i64 (h.f)) rfl rfl (E_callV rfl (cmp_ret _ _ _) (E_mkS (cs := [.int .i64 (cmpM (g.k) (h.k)), .int .i64 (lexM (g.ws) (h.ws)), .int .i64 (cmpM (g.b) (h.b)), .int .i64 (cmpM (g.f) (h.f))]) rfl (E_callV rfl (or_ret _ (some ⟨(H).length + 2, 0, none⟩, 4) [cmpM g.k h.k, lexM g.ws h.ws, cmpM g.b h.b, cmpM g.f h.f] (ints_own (k := 2) rfl) (by simp)) (E_mv (v := .int .i64 (orderM g h)) rfl (E_nil (AX_ret ?_))))))))))))))))))))))))))))))))
  refine ⟨_, rfl, by simp, ?_, forget_flat rfl (List.prefix_append _ _)⟩
  refine congrArg (Value.int _) ?_
  rfl
theorem lex_neg : ∀ {a b : List Int}, a.length = b.length → (lexM a b < 0 ↔ wsLt a b) ∧ (lexM a b = 0 ↔ a = b)
  | [], [], _ => by simp [lexM, wsLt]
  | x :: xs, y :: ys, h => by
    have ih := lex_neg (a := xs) (b := ys) (by simpa using h)
    simp only [lexM, wsLt, List.cons.injEq]
    by_cases e : x = y
    · subst e
      have : cmpM x x = 0 := cmpM_eq.2 rfl
      simp [this, ih]
    · have h1 : cmpM x y ≠ 0 := fun h => e (cmpM_eq.1 h)
      rw [if_pos h1, if_pos e]
      refine ⟨?_, by simp [e, h1]⟩
      unfold cmpM
      (repeat' split) <;> omega
  | [], _ :: _, h => by simp at h
  | _ :: _, [], h => by simp at h
theorem order_iff {g h : G} (hg : GR g) (hh : GR h) : orderM g h < 0 ↔ beforeM g h := by
  unfold orderM beforeM
  by_cases hk : g.k = h.k
  · have hl : g.ws.length = h.ws.length := by
      have a1 := hg.ar
      have a2 := hh.ar
      rw [hk] at a1
      omega
    obtain ⟨l1, l2⟩ := lex_neg hl
    have c0 : cmpM g.k h.k = 0 := cmpM_eq.2 hk
    rw [if_neg (by simp [hk])]
    by_cases hw : g.ws = h.ws
    · have w0 : lexM g.ws h.ws = 0 := l2.2 hw
      rw [if_neg (by simp [hw])]
      simp only [firstNZ, c0, w0, ne_eq, not_true, if_false]
      unfold cmpM
      (repeat' split) <;> omega
    · have w0 : lexM g.ws h.ws ≠ 0 := fun e => hw (l2.1 e)
      rw [if_pos hw]
      simp only [firstNZ, c0, ne_eq, not_true, if_false]
      rw [if_pos w0]
      exact l1
  · rw [if_pos hk]
    have c0 : cmpM g.k h.k ≠ 0 := fun e => hk (cmpM_eq.1 e)
    rw [firstNZ, if_pos c0]
    unfold cmpM
    (repeat' split) <;> omega
end Go.Canon
namespace Go.Canon
open Go Go.Proofs
set_option linter.unusedVariables false
set_option linter.unusedSimpArgs false
def kf67 : KFunc := ⟨2, 9, [.tmp 4], .seq (.reg [⟨some 2, .box (.t 0), none⟩, ⟨some 3, .box (.t 1), none⟩, ⟨some 4, .mv (.c (.bool false)), none⟩] []) (.seq (.reg [⟨some 5, .ld (.t 2) (some 4), none⟩, ⟨some 6, .ld (.t 3) (some 4), none⟩, ⟨some 7, .call (.c (.func (.func 64) #[] #[])) [.t 5, .t 6], none⟩, ⟨some 8, .not (.t 7), none⟩, ⟨some 4, .mv (.t 8), none⟩] []) .ret)⟩
theorem k67 : tab Try.prog 67 = some kf67 := by kernel_rfl
def kf69 : KFunc := ⟨2, 6, [.tmp 4], .seq (.reg [⟨some 2, .box (.t 0), none⟩, ⟨some 3, .box (.t 1), none⟩, ⟨some 4, .mv (.c .nilFunc), none⟩] []) (.seq (.reg [⟨some 5, .fn 96 [] [.t 3, .t 2], none⟩, ⟨some 4, .mv (.t 5), none⟩] []) .ret)⟩
theorem k69 : tab Try.prog 69 = some kf69 := by kernel_rfl
def kf96 : KFunc := ⟨3, 31, [], .seq (.reg [⟨some 5, .ld (.t 1) none, none⟩, ⟨some 6, .mv (.c (.int .i64 0)), none⟩] []) (.block 0 (.loop (.seq (.reg [⟨some 7, .bin .lss (.t 6) (.t 5), none⟩] []) (.seq (.cond (.t 7) .skip (.exit 0)) (.seq (.block 1 (.seq (.reg [⟨some 8, .mv (.t 6), none⟩, ⟨some 4, .mv (.t 8), none⟩] []) (.seq (.reg [⟨some 9, .fa (.t 2) 3, none⟩, ⟨some 10, .ld (.t 9) none, none⟩, ⟨some 11, .fa (.t 2) 0, none⟩, ⟨some 12, .fa (.t 11) 2, none⟩, ⟨some 13, .ld (.t 12) none, none⟩, ⟨some 14, .mv (.t 4), none⟩, ⟨some 15, .iaS (.t 13) (.t 14) 4, none⟩, ⟨some 16, .ld (.t 15) (some 4), none⟩, ⟨some 17, .fa (.t 2) 0, none⟩, ⟨some 18, .fa (.t 17) 2, none⟩, ⟨some 19, .ld (.t 18) none, none⟩, ⟨some 20, .ld (.t 1) none, none⟩, ⟨some 21, .iaS (.t 19) (.t 20) 4, none⟩, ⟨some 22, .ld (.t 21) (some 4), none⟩, ⟨some 23, .call (.t 10) [.t 16, .t 22], none⟩, ⟨some 24, .mv (.t 23), none⟩, ⟨some 25, .mv (.t 0), some (24, true)⟩, ⟨some 26, .mv (.t 4), some (24, true)⟩, ⟨some 27, .call (.t 25) [.t 26], some (24, true)⟩, ⟨some 28, .not (.t 27), some (24, true)⟩, ⟨some 29, .pick (.t 24) (.t 28) (.c (.bool false)), none⟩] []) (.cond (.t 29) .ret .skip)))) (.reg [⟨some 30, .bin .add (.t 6) (.c (.int .i64 1)), none⟩, ⟨some 6, .mv (.t 30), none⟩] []))))))⟩
theorem k96 : tab Try.prog 96 = some kf96 := by kernel_rfl
theorem near_ret (H : Heap) (g h : G) (p q : Pl) {S S' : Nat → Prop} (hv : Ints S H p g.ws) (hu : Ints S' H q h.ws) (hg : GR g) (hh : GR h) : Ret (tab Try.prog) 67 [gv g p, gv h q] H (.bool (decide (¬ commM g h))) H := by
  refine Ret_own k67 rfl ?_
  refine AX_seq (AX_E (E_boxA rfl (E_boxA rfl (E_mv (v := .bool _) rfl (E_nil (AX_seq (AX_E (E_ldON (k := 0) rfl rfl (E_ldON (k := 1) rfl rfl (E_callP rfl (pcomm_ret _ g h _ _ hv.app hu.app (by assumption) (by assumption)) (fun c7 => ?_) (fun c7 => ?_)))))))))))
  · refine E_notV rfl rfl (E_mv (v := .bool _) rfl (E_nil (AX_ret ?_)))
    refine ⟨_, rfl, by simp, ?_, forget_flat rfl (List.prefix_append _ _)⟩
    refine congrArg (Value.bool) ?_
    refine (decide_eq_false ?_).symm
    simpa using c7
  · refine E_notV rfl rfl (E_mv (v := .bool _) rfl (E_nil (AX_ret ?_)))
    refine ⟨_, rfl, by simp, ?_, forget_flat rfl (List.prefix_append _ _)⟩
    refine congrArg (Value.bool) ?_
    refine (decide_eq_true ?_).symm
    simpa using c7
theorem before1_call (l n : Nat) (P : Nat → Prop) [DecidablePred P] (I : Nat → Heap → Prop) (Stop : Heap → Prop) (bn bw ow : Nat) (on f : Nat) (gs : List G) (p : Pl) (w b : Int)
    (hI : ∀ i K, I i K → rowGet K ⟨bn, on, none⟩ 1 = some [.int .i64 (n : Int)] ∧ rowGet K ⟨bw, ow, none⟩ 4 = some [.int .i64 w, .int .i64 b, .slice p.1 gs.length p.2, .func (.func f) #[] #[]] ∧ Gates allB K p gs)
    (hn : n < gs.length) (hl : gs.length < 4294967296)
    (hnear : ∀ i (hi : i < n) (K : Heap) (q1 q2 : Pl), Ints allB K q1 gs[i].ws → Ints allB K q2 gs[n].ws → Ret (tab Try.prog) f [gv gs[i] q1, gv gs[n] q2] K (.bool (decide (P i))) K)
    (hskip : ∀ i K, i < n → I i K → ¬ P i → I (i + 1) K)
    (hyield : ∀ i K, i < n → I i K → P i → ARound (tab Try.prog) l [.int .i64 (i : Int)] K (fun v K' => (v = .bool true ∧ I (i + 1) K') ∨ (v = .bool false ∧ Stop K')))
    (H : Heap) (h0 : I 0 H) : ACall (tab Try.prog) 96 [.func (.yield l) #[] #[], .pointer (some ⟨bn, on, none⟩), .pointer (some ⟨bw, ow, none⟩)] H (fun _ K' => ∃ Kf, (I n Kf ∨ Stop Kf) ∧ K' = forget H (.tuple #[]) Kf) := by
  refine ACall_ownR k96 rfl ?_
  obtain ⟨e1, e2, e3⟩ := hI 0 H h0
  refine AX_seq (AX_E (E_ldB (v := .int .i64 ((n : Int))) rfl e1 (E_mv (v := .int .i64 (0)) rfl (E_nil (AX_block ?_)))))
  refine AX_loopF (γ := Nat) (fun i => [(0, .func (.yield l) #[] #[]), (1, .pointer (some ⟨bn, on, none⟩)), (2, .pointer (some ⟨bw, ow, none⟩)), (5, .int .i64 ((n : Int))), (6, .int .i64 ((i : Int)))]) (fun i h_ m_ => (I i h_) ∧ m_ = [] ∧ i ≤ n) (fun i => n - i) (0) ⟨rfl, rfl, rfl, rfl, rfl, trivial⟩ ⟨(by simpa using h0), rfl, ?_⟩ ?_
  · omega
  rintro i fr0 KH0 m0 ⟨hI0, rfl, inv0⟩ K0 hN0 hR0 hE0
  obtain ⟨a1, a2, a3⟩ := hI i KH0 hI0
  refine AX_nil ?_
  refine AX_seq (AX_E (E_lssS rfl rfl (fun c7 => ?_) (fun c7 => ?_)))
  · refine E_nil (AX_seq (AX_condT rfl (AX_skip (AX_seq (AX_block (AX_seq (AX_E (E_mv (v := .int .i64 ((i : Int))) rfl (E_mv (v := .int .i64 ((i : Int))) rfl (E_nil (AX_seq (AX_E (E_fa rfl (E_ldB (v := .func _ _ _) rfl (rowGet_c (j := 3) a2 rfl) (E_fa rfl (E_fa rfl (E_ldB (v := .slice _ _ _) rfl (rowGet_c (j := 2) a2 rfl) (E_mv (v := .int .i64 ((i : Int))) rfl (have ix1 : i < (gs).length := (by first | omega | (simp; done) | (simp; omega)); E_iaGb (j := i) rfl a3 rfl rfl rfl ix1 fun b1 o1 q1 f1 w1 => (E_ldBN rfl w1 (E_fa rfl (E_fa rfl (E_ldB (v := .slice _ _ _) rfl (rowGet_c (j := 2) a2 rfl) (E_ldB (v := .int .i64 ((n : Int))) rfl a1 (have ix2 : n < (gs).length := (by first | omega | (simp; done) | (simp; omega)); E_iaGb (j := n) rfl a3 rfl rfl (by first | rfl | omega) ix2 fun b2 o2 q2 f2 w2 => (E_ldBN rfl w2 (E_callP rfl (hnear i (by omega) _ _ _ f1.app.all f2.app.all) (fun c23 => ?_) (fun c23 => ?_))))))))))))))))))))))))))))
    · refine E_mv (v := .bool _) rfl (E_on rfl (E_mv (v := .func _ _ _) rfl (E_on rfl (E_mv (v := .int .i64 ((i : Int))) rfl (E_on rfl ?_)))))
      have hy := hyield i KH0 (by omega) hI0 c23
      rw [← List.append_nil KH0] at hy
      refine E_yield rfl rfl ((hy).mono ?_)
      rintro _ KY3 (⟨rfl, hY3⟩ | ⟨rfl, hY3⟩)
      · refine E_nilR (E_on rfl (E_notV rfl rfl (E_pickT rfl (v := .bool _) rfl (E_nil (AX_condF rfl (AX_skip (AX_E (E_addI rfl rfl (by first | omega | (simp; done) | (simp; omega)) (by first | omega | (simp; done) | (simp; omega)) (E_mv (v := .int .i64 (((i : Int) + 1))) rfl (E_nil ?_))))))))))
        refine hN0 (i + 1) _ _ _ ⟨by first | rfl | (congr 1; omega), by first | rfl | (congr 1; omega), by first | rfl | (congr 1; omega), by first | rfl | (congr 1; omega), by first | rfl | (congr 1; omega), trivial⟩ ⟨?_, rfl, ?_⟩ ?_
        all_goals clear hN0 hR0 hE0
        · simpa using hY3
        · omega
        · (first | omega | (simp; omega))
      · refine E_nilR (E_on rfl (E_notV rfl rfl (E_pickT rfl (v := .bool _) rfl (E_nil (AX_condT rfl (AX_ret (hR0 _ _ _ ?_)))))))
        refine ⟨.tuple #[], rfl, by simp, _, ?_, rfl⟩
        exact .inr (by simpa using hY3)
    · refine E_mv (v := .bool _) rfl (E_notT rfl (E_notT rfl (E_notT rfl (E_notT rfl (E_pickF rfl (v := .bool _) rfl (E_nil (AX_condF rfl (AX_skip (AX_E (E_addI rfl rfl (by first | omega | (simp; done) | (simp; omega)) (by first | omega | (simp; done) | (simp; omega)) (E_mv (v := .int .i64 (((i : Int) + 1))) rfl (E_nil ?_))))))))))))
      refine hN0 (i + 1) _ _ _ ⟨by first | rfl | (congr 1; omega), by first | rfl | (congr 1; omega), by first | rfl | (congr 1; omega), by first | rfl | (congr 1; omega), by first | rfl | (congr 1; omega), trivial⟩ ⟨?_, rfl, ?_⟩ ?_
      all_goals clear hN0 hR0 hE0
      · simpa using hskip i KH0 (by omega) hI0 c23
      · omega
      · (first | omega | (simp; omega))
  · refine E_nil (AX_seq (AX_condF rfl (AX_exit (hE0 _ _ _ _ ?_))))
    have en : i = n := by omega
    subst en
    refine ⟨.tuple #[], rfl, by simp, _, ?_, rfl⟩
    exact .inl (by simpa using hI0)
abbrev wcells (c : C) (p : Pl) (f : Nat) : List Value := [.int .i64 c.w, .int .i64 c.b, .slice p.1 c.gs.length p.2, .func (.func f) #[] #[]]
theorem pbefore_ret (H : Heap) (c : C) (p : Pl) (f : Nat) (n : Int) : Ret (tab Try.prog) 69 [.agg #[.int .i64 c.w, .int .i64 c.b, .slice p.1 c.gs.length p.2, .func (.func f) #[] #[]], .int .i64 n] H (.func (.func 96) #[] #[.pointer (some ⟨H.length + 1, 0, none⟩), .pointer (some ⟨H.length + 0, 0, none⟩)]) (H ++ [.row (wcells c p f) true none, .row [.int .i64 n] true none]) := by
  refine Ret_own k69 rfl ?_
  refine AX_seq (AX_E (E_boxA rfl (E_boxV (v := .int .i64 (n)) rfl rfl (E_mv (v := .nilFunc) rfl (E_nil (AX_seq (AX_E (E_fn (u := []) (v := [.pointer (some ⟨(H).length + 1, 0, none⟩), .pointer (some ⟨(H).length + 0, 0, none⟩)]) rfl rfl (E_mv (v := .func _ _ _) rfl (E_nil (AX_ret ?_)))))))))))
  exact ⟨_, rfl, by simp, rfl, forget_more rfl⟩
/-- A range over the neighbours before a gate whose body leaves at once. -/
theorem rf_leave {fi : FI} {fr : Nat → Value} {b L : Heap} {m : List Nat} {Q : Ex → (Nat → Value) → Heap → List Nat → Prop} {f : KO} {ps : List Nat} {id id' n f1 bn bw : Nat} {c : C} {p : Pl} (P : Nat → Prop) [DecidablePred P]
    (hf : f.ev fr = .func (.func 96) #[] #[.pointer (some ⟨bn, 0, none⟩), .pointer (some ⟨bw, 0, none⟩)]) (hps : ps.length = 1) (hid : (id' = id) = False) (hrd : fi.rd = none)
    (h1 : rowGet (b ++ L) ⟨bn, 0, none⟩ 1 = some [.int .i64 (n : Int)]) (h2 : rowGet (b ++ L) ⟨bw, 0, none⟩ 4 = some (wcells c p f1)) (h3 : Gates allB (b ++ L) p c.gs) (hn : n < c.gs.length) (hl : c.gs.length < 4294967296)
    (hnear : ∀ i (hi : i < n) (K : Heap) (q1 q2 : Pl), Ints allB K q1 c.gs[i].ws → Ints allB K q2 c.gs[n].ws → Ret (tab Try.prog) f1 [gv c.gs[i] q1, gv c.gs[n] q2] K (.bool (decide (P i))) K)
    (hN : (∀ i, i < n → ¬ P i) → ∀ R, Q .normal fr (b ++ (L ++ [.mark, .loop R])) ((b ++ L).length :: m)) (hE : (∃ i, i < n ∧ P i) → ∀ R, Q (.exit id') fr (b ++ (L ++ [.mark, .loop R])) ((b ++ L).length :: m)) :
    AX (tab Try.prog) fi (.rf f ps .skip (.block id (.exit id'))) fr (b ++ L) m Q := by
  refine AX_rf hf hrd ?_
  have hN' : (∀ i, i < n → ¬ P i) → ∀ R, Q .normal fr ((b ++ L) ++ [.mark, .loop R]) ((b ++ L).length :: m) := fun x R => by rw [List.append_assoc]; exact hN x R
  have hE' : (∃ i, i < n ∧ P i) → ∀ R, Q (.exit id') fr ((b ++ L) ++ [.mark, .loop R]) ((b ++ L).length :: m) := fun x R => by rw [List.append_assoc]; exact hE x R
  clear hN hE
  generalize b ++ L = h at *
  generalize hR : rec0 fi fr ps .skip (.block id (.exit id')) h.length = R
  have hR1 : R.st = .ready := by rw [← hR]; rfl
  have hR2 : R.pending = none := by rw [← hR]; rfl
  have hR3 : R.fi.rd = some (h.length + 1) := by rw [← hR]; rfl
  have hR4 : R.params.length = 1 := by rw [← hR]; exact hps
  have hR5 : R.assign = .skip := by rw [← hR]; rfl
  have hR6 : R.body = .block id (.exit id') := by rw [← hR]; rfl
  clear hR
  obtain ⟨st, pd, fi', fr', ps', a', b', bk⟩ := R
  simp only at hR1 hR2 hR3 hR4 hR5 hR6
  subst hR1 hR2 hR5 hR6
  have hget : ∀ r, (h ++ [CO.mark, .loop r])[h.length + 1]? = some (.loop r) := fun r => by rw [List.getElem?_append_right (by omega)]; simp
  have hset : ∀ r r', (h ++ [CO.mark, .loop r]).set (h.length + 1) (.loop r') = h ++ [.mark, .loop r'] := fun r r' => by rw [List.set_append_right _ _ (by omega)]; simp
  have key := before1_call (h.length + 1) n P (fun i K => K = h ++ [.mark, .loop ⟨.ready, none, fi', fr', ps', .skip, .block id (.exit id'), bk⟩] ∧ ∀ j, j < i → ¬ P j) (fun K => K = h ++ [.mark, .loop ⟨.done, some (.exit id'), fi', fr', ps', .skip, .block id (.exit id'), bk⟩] ∧ ∃ j, j < n ∧ P j) bn bw 0 0 f1 c.gs p c.w c.b ?_ hn hl hnear ?_ ?_ (h ++ [.mark, .loop ⟨.ready, none, fi', fr', ps', .skip, .block id (.exit id'), bk⟩]) ⟨rfl, fun j hj => by omega⟩
  · refine ACall.mono key ?_
    rintro _ K' ⟨Kf, hK | hK, rfl⟩
    · obtain ⟨rfl, hj⟩ := hK
      rw [forget_flat rfl (List.prefix_refl _)]
      refine ⟨_, hget _, by simp, ?_⟩
      rw [hset]
      exact hN' hj _
    · obtain ⟨rfl, hj⟩ := hK
      have hne : ¬ (h ++ [CO.mark, .loop ⟨.ready, none, fi', fr', ps', .skip, .block id (.exit id'), bk⟩] <+: h ++ [CO.mark, .loop ⟨.done, some (.exit id'), fi', fr', ps', .skip, .block id (.exit id'), bk⟩]) := by
        rintro ⟨t, ht⟩
        have := congrArg (fun l : Heap => l[h.length + 1]?) ht
        simp only [List.append_assoc] at this
        rw [List.getElem?_append_right (by omega), hget] at this
        simp only [show h.length + 1 - h.length = 1 by omega, List.cons_append, List.getElem?_cons_succ, List.getElem?_cons_zero] at this
        injection this with this
        injection this with this
        have := congrArg CLoop.st this
        cases this
      unfold forget
      rw [if_neg (fun x => hne x.2)]
      refine ⟨_, hget _, by simp, ?_⟩
      rw [hset]
      exact hE' hj _
  · rintro i K ⟨rfl, _⟩
    exact ⟨rowGet_base h1, rowGet_base h2, h3.app⟩
  · rintro i K hi ⟨rfl, hj⟩ hp
    refine ⟨rfl, fun j hjj => ?_⟩
    by_cases e : j = i
    · subst e; exact hp
    · exact hj j (by omega)
  · rintro i K hi ⟨rfl, hj⟩ hp
    refine ARound_of (hget _) (by simp [hR4]) rfl hR3 ?_
    refine AX_skip ⟨rfl, rfl, _, hget _, rfl, ?_⟩
    rw [hset]
    refine AX_block (AX_exit ?_)
    simp only [blockK, hid, if_false]
    refine ⟨by trivial, _, hget _, ?_⟩
    rw [hset]
    exact .inr ⟨by trivial, by first | rfl | trivial, ⟨i, hi, hp⟩⟩
end Go.Canon
namespace Go.Canon
open Go Go.Proofs
set_option linter.unusedVariables false
set_option linter.unusedSimpArgs false
def kf71 : KFunc := ⟨3, 33, [.tmp 6], .seq (.reg [⟨some 6, .mv (.c (.slice none 0 0)), none⟩] []) (.seq (.reg [⟨some 8, .mv (.t 0), none⟩, ⟨some 9, .mv (.t 1), none⟩, ⟨some 10, .mv (.t 2), none⟩, ⟨some 11, .mv (.t 0), none⟩, ⟨some 12, .len (.t 11), none⟩, ⟨some 13, .slS (.t 8) (some (.t 9)) (some (.t 10)) (some (.t 12)) 4, none⟩] []) (.seq (.seq (.reg [⟨some 14, .mv (.t 1), none⟩, ⟨some 15, .mv (.t 2), none⟩, ⟨some 16, .bin .eql (.t 14) (.t 15), none⟩] []) (.cond (.t 16) (.seq (.reg [⟨some 17, .mv (.t 0), none⟩, ⟨some 6, .mv (.t 17), none⟩] []) .ret) .skip)) (.seq (.reg [⟨some 18, .mv (.t 0), none⟩, ⟨some 19, .len (.t 18), none⟩, ⟨some 7, .mv (.t 19), none⟩] []) (.seq (.reg [⟨some 20, .mv (.t 0), none⟩, ⟨some 21, .mv (.t 1), none⟩, ⟨some 22, .slS (.t 20) none (some (.t 21)) none 4, none⟩, ⟨some 23, .mv (.t 0), none⟩, ⟨some 24, .mv (.t 2), none⟩, ⟨some 25, .slS (.t 23) (some (.t 24)) none none 4, none⟩, ⟨some 26, .app (.t 22) (.t 25) 4 48, none⟩, ⟨some 0, .mv (.t 26), none⟩] []) (.seq (.reg [⟨some 27, .mv (.t 0), none⟩, ⟨some 28, .mv (.t 0), none⟩, ⟨some 29, .len (.t 28), none⟩, ⟨some 30, .mv (.t 7), none⟩, ⟨some 31, .slS (.t 27) (some (.t 29)) (some (.t 30)) none 4, none⟩, ⟨none, .clr (.t 31) [.int .i64 0, .slice none 0 0, .int .i64 0, .int .i64 0], none⟩] []) (.seq (.reg [⟨some 32, .mv (.t 0), none⟩, ⟨some 6, .mv (.t 32), none⟩] []) .ret))))))⟩
theorem k71 : tab Try.prog 71 = some kf71 := by kernel_rfl
theorem delete_ret (K : Heap) (b k cap j : Nat) (cs : List Value) (gr : Option Nat) (hrow : K[b]? = some (.row cs true gr)) (hg : gr = none ∨ gr = some 4) (hj : j < k) (hk : k ≤ cap) (hfit : k * 4 ≤ cs.length) (hcell : ∀ v ∈ cs, isCell v = true) :
    ∃ cs', Ret (tab Try.prog) 71 [.slice (some ⟨b, 0, none⟩) k cap, .int .i64 (j : Int), .int .i64 ((j : Int) + 1)] K (.slice (some ⟨b, 0, none⟩) (k - 1) cap) (K.set b (.row cs' true gr)) ∧ cs'.length = cs.length ∧ (∀ v ∈ cs', isCell v = true) ∧ cs'.take ((k - 1) * 4) = cs.take (j * 4) ++ (cs.drop ((j + 1) * 4)).take ((k - (j + 1)) * 4) := by
  have hb := (List.getElem?_eq_some_iff.1 hrow).1
  let new := (cs.drop ((j + 1) * 4)).take ((k - (j + 1)) * 4)
  have hnl : new.length = (k - (j + 1)) * 4 := by simp only [new, List.length_take, List.length_drop]; omega
  have hnc : ∀ v ∈ new, isCell v = true := fun v hv => hcell v (List.mem_of_mem_drop (List.mem_of_mem_take hv))
  let cs1 := cs.take (j * 4) ++ new ++ cs.drop (j * 4 + new.length)
  have hl1 : cs1.length = cs.length := by simp only [cs1, List.length_append, List.length_take, List.length_drop, hnl]; omega
  let z : List Value := [.int .i64 0, .slice none 0 0, .int .i64 0, .int .i64 0]
  let cs2 := cs1.take ((k - 1) * 4) ++ z ++ cs1.drop ((k - 1) * 4 + z.length)
  refine ⟨cs2, ?_, ?_, ?_, ?_⟩
  · refine Ret_own k71 rfl ?_
    have r0 : (K ++ [])[b]? = some (.row cs true gr) := by rw [List.append_nil]; exact hrow
    have e1 : (some ⟨b, (j + 1) * 4, none⟩ : Option Addr) = (if cap = j + 1 then (some ⟨b, 0, none⟩ : Option Addr) else (some ⟨b, 0, none⟩ : Option Addr).map (·.add ((j + 1) * 4))) ∨ cap = j + 1 := by
      by_cases h : cap = j + 1
      · exact .inr h
      · left; rw [if_neg h]; simp [add_pl]
    have hC : Cells allB (K ++ []) 4 (some ⟨b, 0, none⟩, cap) k (cs.take (k * 4)) := ⟨by simp; omega, hk, .inr ⟨b, 0, cs, true, gr, rfl, trivial, r0, hg, .inr ⟨by omega, by rw [List.drop_zero]⟩⟩⟩
    have hx : (cs.take (k * 4)).drop ((j + 1) * 4) = new := by
      simp only [new]
      rw [List.drop_take, Nat.sub_mul]
    refine AX_seq (AX_E (E_mv (v := .slice _ _ _) rfl (E_nil (AX_seq (AX_E (E_mv (v := .slice (some ⟨b, 0, none⟩) k cap) rfl (E_mv (v := .int .i64 (j : Int)) rfl (E_mv (v := .int .i64 ((j : Int) + 1)) rfl (E_mv (v := .slice (some ⟨b, 0, none⟩) k cap) rfl (E_len (n := k) rfl ?_))))))))))
    refine E_sl3 (i1 := j) (i2 := j + 1) rfl r0 hg rfl rfl rfl (by omega) (by omega) hk fun v13 => ?_
    refine E_nil (AX_seq (AX_seq (AX_E (E_mv (v := .int .i64 (j : Int)) rfl (E_mv (v := .int .i64 ((j : Int) + 1)) rfl (E_eqlS rfl rfl (fun c => absurd c (by omega)) fun c => ?_))))))
    refine E_nil (AX_condF rfl (AX_skip (AX_seq (AX_E (E_mv (v := .slice (some ⟨b, 0, none⟩) k cap) rfl (E_len (n := k) rfl (E_mv (v := .int .i64 (k : Int)) rfl (E_nil (AX_seq (AX_E (E_mv (v := .slice (some ⟨b, 0, none⟩) k cap) rfl (E_mv (v := .int .i64 (j : Int)) rfl ?_))))))))))))
    refine E_slHi (p := (some ⟨b, 0, none⟩, cap)) (j := j) rfl hC rfl rfl (by omega) (E_mv (v := .slice (some ⟨b, 0, none⟩) k cap) rfl (E_mv (v := .int .i64 ((j : Int) + 1)) rfl ?_))
    refine E_slLo (p := (some ⟨b, 0, none⟩, cap)) (j := j + 1) rfl hC rfl rfl (by omega) ?_
    refine E_appIn (cs := cs) (gr := gr) (new := new) rfl rfl (by rw [← hx]; exact (hC.drop (by omega)).first) r0 (by omega) (by omega) hnl (List.all_eq_true.2 hnc) rfl ?_
    refine E_mv (v := .slice (some ⟨b, 0, none⟩) (j + (k - (j + 1))) cap) rfl (E_nil (AX_seq (AX_E (E_mv (v := .slice (some ⟨b, 0, none⟩) (j + (k - (j + 1))) cap) rfl (E_mv (v := .slice (some ⟨b, 0, none⟩) (j + (k - (j + 1))) cap) rfl (E_len (n := j + (k - (j + 1))) rfl (E_mv (v := .int .i64 (k : Int)) rfl ?_)))))))
    have r1 : ((K ++ []).set b (.row (cs.take (j * 4) ++ new ++ cs.drop (j * 4 + new.length)) true gr))[b]? = some (.row cs1 true gr) := by rw [List.getElem?_set_self (by simpa using hb)]
    refine E_slLH (i1 := j + (k - (j + 1))) (i2 := k) rfl r1 hg rfl rfl (by omega) hk (by omega) ?_
    have e2 : k - (j + (k - (j + 1))) = 1 := by omega
    have e3 : j + (k - (j + 1)) = k - 1 := by omega
    rw [e2, e3]
    refine E_clr1 (cs := cs1) (gr := gr) rfl rfl r1 (by omega) rfl rfl ?_
    refine E_nil (AX_seq (AX_E (E_mv (v := .slice (some ⟨b, 0, none⟩) (k - 1) cap) (by rw [← e3]; rfl) (E_mv (v := .slice (some ⟨b, 0, none⟩) (k - 1) cap) rfl (E_nil (AX_ret ?_))))))
    refine ⟨_, rfl, by simp, rfl, ?_⟩
    refine (forget_more (v := .slice (some ⟨b, 0, none⟩) (k - 1) cap) rfl).trans ?_
    show ((K ++ []).set b _).set b _ = _
    rw [List.set_set, List.append_nil]
  · simp only [cs2, List.length_append, List.length_take, List.length_drop, hl1, z, List.length_cons, List.length_nil]; omega
  · intro v hv
    have h1 : ∀ v ∈ cs1, isCell v = true := by
      intro v hv
      simp only [cs1, List.mem_append] at hv
      rcases hv with (hv | hv) | hv
      · exact hcell v (List.mem_of_mem_take hv)
      · exact hnc v hv
      · exact hcell v (List.mem_of_mem_drop hv)
    simp only [cs2, List.mem_append] at hv
    rcases hv with (hv | hv) | hv
    · exact h1 v (List.mem_of_mem_take hv)
    · simp only [z, List.mem_cons, List.not_mem_nil, or_false] at hv
      rcases hv with rfl | rfl | rfl | rfl <;> rfl
    · exact h1 v (List.mem_of_mem_drop hv)
  · simp only [cs2]
    rw [List.append_assoc, List.take_append_of_le_length (by simp [hl1]; omega), List.take_take, Nat.min_self]
    simp only [cs1]
    rw [List.take_append_of_le_length (by simp [hnl]; omega)]
    exact List.take_of_length_le (by simp [hnl]; omega)
end Go.Canon
namespace Go.Canon
open Go Go.Proofs
set_option linter.unusedVariables false
set_option linter.unusedSimpArgs false
def kf79 : KFunc := ⟨1, 11, [.tmp 2], .seq (.reg [⟨some 1, .box (.t 0), none⟩, ⟨some 2, .mv (.c (.bool false)), none⟩] []) (.seq (.reg [⟨some 3, .fa (.t 1) 0, none⟩, ⟨some 4, .ld (.t 3) none, none⟩, ⟨some 5, .bin .leq (.t 4) (.c (.int .i64 12)), none⟩, ⟨some 6, .mv (.t 5), none⟩, ⟨some 7, .fa (.t 1) 3, some (6, true)⟩, ⟨some 8, .ld (.t 7) none, some (6, true)⟩, ⟨some 9, .bin .eql (.t 8) (.c (.int .i64 0)), some (6, true)⟩, ⟨some 10, .pick (.t 6) (.t 9) (.c (.bool false)), none⟩, ⟨some 2, .mv (.t 10), none⟩] []) .ret)⟩
theorem k79 : tab Try.prog 79 = some kf79 := by kernel_rfl
def kf101 : KFunc := ⟨2, 8, [.tmp 3], .seq (.reg [⟨some 2, .box (.t 0), none⟩, ⟨some 3, .mv (.c (.bool false)), none⟩] []) (.seq (.reg [⟨some 4, .ld (.t 1) none, none⟩, ⟨some 5, .ld (.t 2) (some 4), none⟩, ⟨some 6, .call (.t 4) [.t 5], none⟩, ⟨some 7, .not (.t 6), none⟩, ⟨some 3, .mv (.t 7), none⟩] []) .ret)⟩
theorem k101 : tab Try.prog 101 = some kf101 := by kernel_rfl
def kf78 : KFunc := ⟨2, 9, [.tmp 4], .seq (.reg [⟨some 3, .box (.t 1), none⟩, ⟨some 4, .mv (.c (.bool false)), none⟩] []) (.seq (.reg [⟨some 5, .mv (.t 0), none⟩, ⟨some 6, .fn 101 [] [.t 3], none⟩, ⟨some 7, .call (.c (.func (.func 49) #[] #[])) [.t 5, .t 6], none⟩, ⟨some 8, .not (.t 7), none⟩, ⟨some 4, .mv (.t 8), none⟩] []) .ret)⟩
theorem k78 : tab Try.prog 78 = some kf78 := by kernel_rfl
def kf27 : KFunc := ⟨1, 13, [.tmp 2, .tmp 3], .seq (.reg [⟨some 1, .box (.t 0), none⟩, ⟨some 2, .mv (.c (.bool false)), none⟩, ⟨some 3, .mv (.c (.int .i64 0)), none⟩] []) (.seq (.seq (.reg [⟨some 5, .ld (.t 1) (some 3), none⟩, ⟨some 6, .call (.c (.func (.func 32) #[] #[])) [.t 5], none⟩, ⟨some 4, .mv (.t 6), none⟩] []) (.seq (.reg [⟨some 7, .mv (.t 4), none⟩, ⟨some 8, .bin .neq (.t 7) (.c (.int .i64 0)), none⟩] []) (.cond (.t 8) (.seq (.reg [⟨some 9, .mv (.t 4), none⟩, ⟨some 2, .mv (.c (.bool false)), none⟩, ⟨some 3, .mv (.t 9), none⟩] []) .ret) .skip))) (.seq (.reg [⟨some 10, .fa (.t 1) 2, none⟩, ⟨some 11, .ld (.t 10) none, none⟩, ⟨some 12, .call (.c (.func (.func 78) #[] #[])) [.t 11, .c (.func (.func 79) #[] #[])], none⟩, ⟨some 2, .mv (.t 12), none⟩, ⟨some 3, .mv (.c (.int .i64 0)), none⟩] []) .ret))⟩
theorem k27 : tab Try.prog 27 = some kf27 := by kernel_rfl
def plainM (c : C) : Prop := ∀ g ∈ c.gs, g.k < 13 ∧ g.f = 0
instance (c : C) : Decidable (plainM c) := by unfold plainM; infer_instance
theorem plain1_ret (H : Heap) (g : G) (p : Pl) (hg : GR g) : Ret (tab Try.prog) 79 [gv g p] H (.bool (decide (g.k < 13 ∧ g.f = 0))) H := by
  refine Ret_own k79 rfl ?_
  refine AX_seq (AX_E (E_boxA rfl (E_mv (v := .bool _) rfl (E_nil (AX_seq (AX_E (E_fa rfl (E_ldO (k := 0) (v := .int .i64 (g.k)) rfl rfl (E_leqS rfl rfl (fun c5 => ?_) (fun c5 => ?_))))))))))
  · refine E_mv (v := .bool _) rfl (E_on rfl (E_fa rfl (E_on rfl (E_ldO (k := 0) (v := .int .i64 (g.f)) rfl rfl (E_on rfl (E_eqlV rfl rfl (E_pickT rfl (v := .bool _) rfl (E_mv (v := .bool _) rfl (E_nil (AX_ret ?_))))))))))
    refine ⟨_, rfl, by simp, ?_, forget_flat rfl (List.prefix_append _ _)⟩
    refine congrArg (Value.bool) ?_
    refine decide_eq_decide.2 ?_
    omega
  · refine E_mv (v := .bool _) rfl (E_notT rfl (E_notT rfl (E_notT rfl (E_pickF rfl (v := .bool _) rfl (E_mv (v := .bool _) rfl (E_nil (AX_ret ?_)))))))
    refine ⟨_, rfl, by simp, ?_, forget_flat rfl (List.prefix_append _ _)⟩
    refine congrArg (Value.bool) ?_
    refine (decide_eq_false ?_).symm
    omega
theorem everyG1_ret (H : Heap) (g : G) (p : Pl) (b o : Nat) (f : Nat) (P : Prop) [Decidable P] (hr : rowGet H ⟨b, o, none⟩ 1 = some [.func (.func f) #[] #[]])
    (hf : ∀ K, H <+: K → Ret (tab Try.prog) f [gv g p] K (.bool (decide P)) K) : Ret (tab Try.prog) 101 [gv g p, .pointer (some ⟨b, o, none⟩)] H (.bool (decide ¬ P)) H := by
  refine Ret_own k101 rfl ?_
  refine AX_seq (AX_E (E_boxA rfl (E_mv (v := .bool _) rfl (E_nil (AX_seq (AX_E (E_ldB (v := .func _ _ _) rfl hr (E_ldON (k := 0) rfl rfl (E_callP rfl (hf _ (List.prefix_append _ _)) (fun c6 => ?_) (fun c6 => ?_))))))))))
  · refine E_notV rfl rfl (E_mv (v := .bool _) rfl (E_nil (AX_ret ?_)))
    refine ⟨_, rfl, by simp, ?_, forget_flat rfl (List.prefix_append _ _)⟩
    refine congrArg (Value.bool) ?_
    refine (decide_eq_false ?_).symm
    simp [*]
  · refine E_notV rfl rfl (E_mv (v := .bool _) rfl (E_nil (AX_ret ?_)))
    refine ⟨_, rfl, by simp, ?_, forget_flat rfl (List.prefix_append _ _)⟩
    refine congrArg (Value.bool) ?_
    refine (decide_eq_true ?_).symm
    simp [*]
theorem everyG_ret (H : Heap) (p : Pl) (l : List G) (f : Nat) (P : G → Prop) [DecidablePred P] {S : Nat → Prop} (hv : Gates S H p l) (hl : l.length < 4294967296)
    (hf : ∀ (g : G) (p : Pl) (K : Heap), H <+: K → g ∈ l → Ret (tab Try.prog) f [gv g p] K (.bool (decide (P g))) K) :
    Ret (tab Try.prog) 78 [.slice p.1 l.length p.2, .func (.func f) #[] #[]] H (.bool (decide (∀ x ∈ l, P x))) H := by
  refine Ret_own k78 rfl ?_
  refine AX_seq (AX_E (E_boxV (v := .func _ _ _) rfl rfl (E_mv (v := .bool _) rfl (E_nil (AX_seq (AX_E (E_mv (v := .slice _ _ _) rfl (E_fn (u := []) (v := [.pointer (some ⟨(H).length + 0, 0, none⟩)]) rfl rfl (E_callP rfl (containsfuncG_ret _ _ _ _ _ _ (fun x => ¬ P x) hv.app (by omega) (fun g p K hK hg _ => everyG1_ret K g p _ _ f (P g) (rowGet_pre (rowGet_own (k := 0) rfl) hK) (fun K2 h2 => hf g p K2 (((List.prefix_append _ _).trans hK).trans h2) hg))) (fun c7 => ?_) (fun c7 => ?_))))))))))
  · refine E_notV rfl rfl (E_mv (v := .bool _) rfl (E_nil (AX_ret ?_)))
    refine ⟨_, rfl, by simp, ?_, forget_flat rfl (List.prefix_append _ _)⟩
    refine congrArg (Value.bool) ?_
    refine (decide_eq_false ?_).symm
    first | (intro x hx; exact Decidable.byContradiction fun h => c7 ⟨x, hx, h⟩) | (obtain ⟨x, hx, h⟩ := c7; exact fun y => h (y x hx))
  · refine E_notV rfl rfl (E_mv (v := .bool _) rfl (E_nil (AX_ret ?_)))
    refine ⟨_, rfl, by simp, ?_, forget_flat rfl (List.prefix_append _ _)⟩
    refine congrArg (Value.bool) ?_
    refine (decide_eq_true ?_).symm
    first | (intro x hx; exact Decidable.byContradiction fun h => c7 ⟨x, hx, h⟩) | (obtain ⟨x, hx, h⟩ := c7; exact fun y => h (y x hx))
theorem pplain_ret (H : Heap) (c : C) (p : Pl) {S : Nat → Prop} (hv : Gates S H p c.gs) (hl : c.gs.length < 4294967296) : Ret (tab Try.prog) 27 [cv c p] H (.tuple #[.bool (if checkM c = 0 then decide (plainM c) else false), .int .i64 (checkM c)]) H := by
  refine Ret_own k27 rfl ?_
  refine AX_seq (AX_E (E_boxA rfl (E_mv (v := .bool _) rfl (E_mv (v := .int .i64 (0)) rfl (E_nil (AX_seq (AX_seq (AX_E (E_ldON (k := 0) rfl rfl (E_callV rfl (pcheck_ret _ c _ hv.app (by first | omega | (simp; done) | (simp; omega))) (E_mv (v := .int .i64 (checkM c)) rfl (E_nil (AX_seq (AX_E (E_mv (v := .int .i64 (checkM c)) rfl (E_neqS rfl rfl (fun c8 => ?_) (fun c8 => ?_)))))))))))))))))
  · refine E_nil (AX_condT rfl (AX_seq (AX_E (E_mv (v := .int .i64 (checkM c)) rfl (E_mv (v := .bool _) rfl (E_mv (v := .int .i64 (checkM c)) rfl (E_nil (AX_ret ?_))))))))
    refine ⟨_, rfl, by simp, ?_, forget_flat rfl (List.prefix_append _ _)⟩
    -- r1
    show Value.tuple #[.bool false, .int .i64 (checkM c)] = _
    first | (simp [*]; done) | (have h9 : plainM c := c12; simp [h9, c8]; done) | (have h9 : ¬ plainM c := c12; simp [h9, c8])
  · refine E_nil (AX_condF rfl (AX_skip (AX_seq (AX_E (E_fa rfl (E_ldO (k := 0) (v := .slice _ _ _) rfl rfl (E_callP rfl (everyG_ret _ _ _ 79 (fun g => g.k < 13 ∧ g.f = 0) hv.app (by omega) (fun g p K hK hg => plain1_ret K g p ((CR.of c8).gr hg))) (fun c12 => ?_) (fun c12 => ?_))))))))
    · refine E_mv (v := .bool _) rfl (E_mv (v := .int .i64 (0)) rfl (E_nil (AX_ret ?_)))
      refine ⟨_, rfl, by simp, ?_, forget_flat rfl (List.prefix_append _ _)⟩
      -- r2
      show Value.tuple #[.bool true, .int .i64 (0)] = _
      first | (simp [*]; done) | (have h9 : plainM c := c12; simp [h9, c8]; done) | (have h9 : ¬ plainM c := c12; simp [h9, c8])
    · refine E_mv (v := .bool _) rfl (E_mv (v := .int .i64 (0)) rfl (E_nil (AX_ret ?_)))
      refine ⟨_, rfl, by simp, ?_, forget_flat rfl (List.prefix_append _ _)⟩
      -- r3
      show Value.tuple #[.bool false, .int .i64 (0)] = _
      first | (simp [*]; done) | (have h9 : plainM c := c12; simp [h9, c8]; done) | (have h9 : ¬ plainM c := c12; simp [h9, c8])
/-- The layer of gate i, by the first k before it, whose layers are out. -/
def layerTo (gs : List G) (out : List Int) (i : Nat) : Nat → Int
  | 0 => 0
  | k + 1 => if meetM (gs.getD i default) (gs.getD k default) ∧ layerTo gs out i k ≤ out.getD k 0 then out.getD k 0 + 1 else layerTo gs out i k
def layersL (gs : List G) : Nat → List Int
  | 0 => []
  | i + 1 => layersL gs i ++ [layerTo gs (layersL gs i) i i]
theorem layersL_len (gs : List G) : ∀ i, (layersL gs i).length = i
  | 0 => rfl
  | i + 1 => by rw [layersL, List.length_append, layersL_len gs i]; rfl
theorem layerTo_le {gs : List G} {out : List Int} {i : Nat} {B : Int} (hB : 0 ≤ B) (H : ∀ x ∈ out, 0 ≤ x ∧ x < B) : ∀ k, k ≤ out.length → 0 ≤ layerTo gs out i k ∧ layerTo gs out i k ≤ B
  | 0, _ => by simp [layerTo, hB]
  | k + 1, hk => by
    have := layerTo_le (i := i) (gs := gs) hB H k (by omega)
    have h2 := H (out.getD k 0) (by rw [← getD_at (show k < out.length by omega)]; exact List.getElem_mem _)
    unfold layerTo
    split <;> omega
theorem layersL_le (gs : List G) : ∀ i, ∀ x ∈ layersL gs i, 0 ≤ x ∧ x < (i : Int)
  | 0, x, h => by simp [layersL] at h
  | i + 1, x, h => by
    rw [layersL, List.mem_append] at h
    have ih := layersL_le gs i
    rcases h with h | h
    · have := ih x h; omega
    · simp only [List.mem_cons, List.not_mem_nil, or_false] at h
      subst h
      have := layerTo_le (gs := gs) (i := i) (B := (i : Int)) (by omega) ih i (by rw [layersL_len]; omega)
      omega
theorem layer_yes {gs : List G} {out : List Int} {i k : Nat} (hi : i < gs.length) (hk : k < gs.length) (ho : k < out.length) (h1 : meetM gs[i] gs[k]) (h2 : layerTo gs out i k ≤ out[k]) : layerTo gs out i (k + 1) = out[k] + 1 := by
  rw [layerTo, getG_at hi, getG_at hk, ← getD_at ho, if_pos ⟨h1, h2⟩]
theorem layer_no {gs : List G} {out : List Int} {i k : Nat} (hi : i < gs.length) (hk : k < gs.length) (h1 : ¬ meetM gs[i] gs[k]) : layerTo gs out i (k + 1) = layerTo gs out i k := by
  rw [layerTo, getG_at hi, getG_at hk, if_neg (fun x => h1 x.1)]
theorem layer_no2 {gs : List G} {out : List Int} {i k : Nat} (ho : k < out.length) (h2 : ¬ layerTo gs out i k ≤ out[k]) : layerTo gs out i (k + 1) = layerTo gs out i k := by
  rw [layerTo, ← getD_at ho, if_neg (fun x => h2 x.2)]
end Go.Canon
namespace Go.Canon
open Go Go.Proofs
set_option linter.unusedVariables false
set_option linter.unusedSimpArgs false
def depthL (l : List Int) : Int := l.foldl (fun n x => if n ≤ x then x + 1 else n) 0
theorem depthL_next {l : List Int} {j : Nat} (hj : j < l.length) : depthL (l.take (j + 1)) = if depthL (l.take j) ≤ l[j] then l[j] + 1 else depthL (l.take j) := by
  unfold depthL
  rw [List.take_succ_eq_append_getElem hj, List.foldl_append]
  rfl
def depthM (c : C) : Int := depthL (layersL c.gs c.gs.length)
end Go.Canon
namespace Go.Canon
open Go Go.Proofs
set_option linter.unusedVariables false
set_option linter.unusedSimpArgs false
end Go.Canon
namespace Go.Canon
open Go Go.Proofs
set_option linter.unusedVariables false
set_option linter.unusedSimpArgs false
def invG (g : G) : G := ⟨oppM g.k, g.ws, g.b, g.f⟩
def inverseE (c : C) : Int := if checkM c ≠ 0 then checkM c else if plainM c then 0 else 7
def inverseM (c : C) : C := if inverseE c = 0 then ⟨c.w, c.b, c.gs.reverse.map invG⟩ else ⟨0, 0, []⟩
end Go.Canon
namespace Go.Canon
open Go Go.Proofs
set_option linter.unusedVariables false
set_option linter.unusedSimpArgs false
theorem cells_own {sz : Nat} {h L : Heap} {k n : Nat} {cells : List Value} {wr : Bool} (hL : L[k]? = some (.row cells wr none)) (hl : cells.length = n * sz) : Cells allB (h ++ L) sz (some ⟨h.length + k, 0, none⟩, n) n cells :=
  ⟨hl, Nat.le_refl _, .inr ⟨h.length + k, 0, cells, wr, none, rfl, trivial, by rw [own_get]; exact hL, .inl rfl, .inr ⟨by omega, by rw [List.drop_zero, ← hl, List.take_length]⟩⟩⟩
theorem behind1_ret (h L : Heap) (k : Nat) (q : Pl) (gs : List G) {S : Nat → Prop} (hL : L[k]? = some (.row [.slice q.1 gs.length q.2] true none)) (hv : Gates S (h ++ L) q gs) (hl : gs.length < 4294967296) (hw : ∀ g ∈ gs, g.ws.length < 4294967296) :
    ∃ X p', Ret (tab Try.prog) 68 [.slice (some ⟨h.length + k, 0, none⟩) 1 1] (h ++ L) (.slice p'.1 gs.length p'.2) (h ++ L ++ X) ∧ GatesZ (h ++ L).length X p' gs := by
  have e : [gs].flatten = gs := by simp
  have := behind_ret (h ++ L) (some ⟨h.length + k, 0, none⟩, 1) [gs] [q] (S := allB) (S' := S) ⟨rfl, cells_own hL rfl⟩ (fun j h1 h2 => by
    have : j = 0 := by simpa using h1
    subst this
    exact hv) (by simp) (by rw [e]; exact hl) (fun gs' hg g hgg => by simp at hg; subst hg; exact hw g hgg)
  rwa [e] at this
end Go.Canon
namespace Go.Canon
open Go Go.Proofs
set_option linter.unusedVariables false
set_option linter.unusedSimpArgs false
end Go.Canon
namespace Go.Canon
open Go Go.Proofs
set_option linter.unusedVariables false
set_option linter.unusedSimpArgs false
def kf75 : KFunc := ⟨1, 16, [], .seq (.reg [⟨some 1, .box (.t 0), none⟩] []) (.seq (.seq (.reg [⟨some 4, .fa (.t 1) 2, none⟩, ⟨some 5, .ld (.t 4) none, none⟩, ⟨some 6, .len (.t 5), none⟩, ⟨some 7, .mv (.c (.int .i64 0)), none⟩] []) (.block 0 (.loop (.seq (.reg [⟨some 8, .bin .lss (.t 7) (.t 6), none⟩] []) (.seq (.cond (.t 8) .skip (.exit 0)) (.seq (.block 1 (.seq (.reg [⟨some 9, .iaS (.t 5) (.t 7) 4, none⟩, ⟨some 10, .ld (.t 9) (some 4), none⟩, ⟨some 3, .new [.int .i64 0, .slice none 0 0, .int .i64 0, .int .i64 0], none⟩, ⟨none, .st (.t 3) (.t 10) 4, none⟩] []) (.reg [⟨some 11, .fa (.t 3) 1, none⟩, ⟨some 12, .ld (.t 11) none, none⟩, ⟨none, .clr (.t 12) [.int .i64 0], none⟩] []))) (.reg [⟨some 13, .bin .add (.t 7) (.c (.int .i64 1)), none⟩, ⟨some 7, .mv (.t 13), none⟩] []))))))) (.reg [⟨some 14, .fa (.t 1) 2, none⟩, ⟨some 15, .ld (.t 14) none, none⟩, ⟨none, .clr (.t 15) [.int .i64 0, .slice none 0 0, .int .i64 0, .int .i64 0], none⟩] []))⟩
theorem k75 : tab Try.prog 75 = some kf75 := by kernel_rfl
structure SpI (H : Heap) (S : Nat → Prop) (c : C) (p : Pl) (ps : List Pl) (K : Heap) : Prop where
  len : H.length ≤ K.length
  keep : ∀ b, b < H.length → ¬ S b → K[b]? = H[b]?
  wr : ∀ b cs wr gr, S b → K[b]? = some (CO.row cs wr gr) → wr = true
  out : Cells S K 4 p c.gs.length (flat c.gs ps)
  inn : ∀ i (h1 : i < c.gs.length) (h2 : i < ps.length), ∃ cells, Cells (fun b => S b ∧ offP p b) K 1 ps[i] c.gs[i].ws.length cells
  box : rowGet K ⟨H.length + 0, 0, none⟩ 3 = some [.int .i64 c.w, .int .i64 c.b, .slice p.1 c.gs.length p.2]
theorem Cells.set {S : Nat → Prop} {h : Heap} {sz n b : Nat} {q : Pl} {cells cs cs' : List Value} {gr : Option Nat} (H : Cells S h sz q n cells) (hb : h[b]? = some (.row cs true gr)) (hl : cs'.length = cs.length) : ∃ cells', Cells S (h.set b (.row cs' true gr)) sz q n cells' := by
  obtain ⟨h1, h2, h3 | ⟨b1, o, cs1, wr, gr1, e1, e2, e3, e4, e5⟩⟩ := H
  · exact ⟨cells, h1, h2, .inl h3⟩
  · by_cases e : b = b1
    · subst e
      rw [hb] at e3
      injection e3 with e3
      injection e3 with e6 e7 e8
      subst e6 e7 e8
      have hlt := (List.getElem?_eq_some_iff.1 hb).1
      by_cases h0 : n = 0
      · exact ⟨cells, h1, h2, .inr ⟨b, o, cs', true, gr, e1, e2, by rw [List.getElem?_set_self hlt], e4, .inl h0⟩⟩
      · obtain ⟨a1, a2⟩ := e5.resolve_left h0
        exact ⟨(cs'.drop o).take (n * sz), by simp; omega, h2, .inr ⟨b, o, cs', true, gr, e1, e2, by rw [List.getElem?_set_self hlt], e4, .inr ⟨by omega, rfl⟩⟩⟩
    · exact ⟨cells, h1, h2, .inr ⟨b1, o, cs1, wr, gr1, e1, e2, by rw [List.getElem?_set_ne e]; exact e3, e4, e5⟩⟩
theorem Cells.set_ne {S : Nat → Prop} {h : Heap} {sz n b : Nat} {q : Pl} {cells : List Value} {ob : CO} (H : Cells S h sz q n cells) (hb : ∀ a, q.1 = some a → a.block ≠ b) : Cells S (h.set b ob) sz q n cells := by
  obtain ⟨h1, h2, h3 | ⟨b1, o, cs1, wr, gr1, e1, e2, e3, e4, e5⟩⟩ := H
  · exact ⟨h1, h2, .inl h3⟩
  · have := hb _ e1
    exact ⟨h1, h2, .inr ⟨b1, o, cs1, wr, gr1, e1, e2, by rw [List.getElem?_set_ne (Ne.symm this)]; exact e3, e4, e5⟩⟩
theorem rowGet_set_ne {h : Heap} {a : Addr} {n b : Nat} {l : List Value} {ob : CO} (H : rowGet h a n = some l) (hb : a.block ≠ b) : rowGet (h.set b ob) a n = some l := by
  unfold rowGet at H ⊢
  rw [List.getElem?_set_ne (Ne.symm hb)]
  exact H
theorem SpI.app {H : Heap} {S : Nat → Prop} {c : C} {p : Pl} {ps : List Pl} {K L : Heap} (I : SpI H S c p ps K) (hS : ∀ b, S b → b < H.length) : SpI H S c p ps (K ++ L) := by
  obtain ⟨a1, a2, a3, a4, a5, a6⟩ := I
  exact ⟨by simp; omega, fun b hb hn => by rw [pre_get (by omega)]; exact a2 b hb hn, fun b cs wr gr hb hr => a3 b cs wr gr hb (by have := hS b hb; rwa [pre_get (by omega)] at hr), a4.app, fun i h1 h2 => (a5 i h1 h2).imp fun _ x => x.app, rowGet_base a6⟩
theorem SpI.step {H : Heap} {S : Nat → Prop} {c : C} {p q : Pl} {ps : List Pl} {K K2 : Heap} (I : SpI H S c p ps K) (hS : ∀ b, S b → b < H.length)
    (hk : K2 = K ∨ ∃ b cs cs' gr a, (S b ∧ offP p b) ∧ q.1 = some a ∧ a.block = b ∧ K[b]? = some (CO.row cs true gr) ∧ cs'.length = cs.length ∧ K2 = K.set b (CO.row cs' true gr)) : SpI H S c p ps K2 := by
  rcases hk with rfl | ⟨b, cs, cs', gr, a, ⟨hb1, hb2⟩, _, _, hr, hl, rfl⟩
  · exact I
  · obtain ⟨a1, a2, a3, a4, a5, a6⟩ := I
    refine ⟨by simpa using a1, fun x hx hn => ?_, fun x cs2 wr gr2 hx hr2 => ?_, a4.set_ne hb2, fun i h1 h2 => ?_, rowGet_set_ne a6 (by have := hS b hb1; simp only; omega)⟩
    · rw [List.getElem?_set_ne (by intro e; subst e; exact hn hb1)]; exact a2 x hx hn
    · by_cases e : b = x
      · subst e
        rw [List.getElem?_set_self (List.getElem?_eq_some_iff.1 hr).1] at hr2
        injection hr2 with hr2
        injection hr2 with _ e2 _
        exact e2.symm
      · rw [List.getElem?_set_ne e] at hr2; exact a3 x cs2 wr gr2 hx hr2
    · obtain ⟨cells, hc⟩ := a5 i h1 h2
      exact hc.set hr hl
theorem spoil_ret (H : Heap) (S : Nat → Prop) (c : C) (p : Pl) (hP : GatesP S H p c.gs) (hS : ∀ b, S b → b < H.length) (hw : ∀ b cs wr gr, S b → H[b]? = some (CO.row cs wr gr) → wr = true) (hl : c.gs.length < 4294967296) :
    ∃ K', Ret (tab Try.prog) 75 [cv c p] H (.tuple #[]) K' ∧ H.length ≤ K'.length ∧ ∀ b, b < H.length → ¬ S b → K'[b]? = H[b]? := by
  obtain ⟨ps, hps, hC, hI, _⟩ := hP
  have key : ACall (tab Try.prog) 75 [cv c p] H fun u k => u = .tuple #[] ∧ ∃ Kf, k = forget H (.tuple #[]) Kf ∧ H.length ≤ Kf.length ∧ ∀ b, b < H.length → ¬ S b → Kf[b]? = H[b]? := by
    refine ACall_ownR k75 rfl ?_
    refine AX_seq (AX_E (E_boxA rfl (E_nil (AX_seq (AX_seq (AX_E (E_fa rfl (E_ldO (k := 0) (v := .slice _ _ _) rfl rfl (E_len (n := (c.gs).length) rfl (E_mv (v := .int .i64 (0)) rfl (E_nil (AX_block ?_))))))))))))
    refine AX_loopF (γ := Nat) (fun j => [(1, .pointer (some ⟨(H).length + 0, 0, none⟩)), (5, .slice (p).1 (c.gs).length (p).2), (6, .int .i64 ((c.gs).length)), (7, .int .i64 ((j : Int)))]) (fun j h_ m_ => (SpI H S c p ps h_) ∧ m_ = [] ∧ j ≤ c.gs.length) (fun j => c.gs.length - j) (0) ⟨rfl, rfl, rfl, rfl, trivial⟩ ⟨⟨by simp, fun b hb _ => pre_get hb, fun b cs wr gr hb hr => hw b cs wr gr hb (by have := hS b hb; rwa [pre_get this] at hr), hC.app, fun i h1 h2 => ⟨_, (hI i h1 h2).app⟩, rowGet_own (k := 0) rfl⟩, rfl, ?_⟩ ?_
    · omega
    rintro j fr0 KH0 m0 ⟨hI0, rfl, inv0⟩ K0 hN0 hR0 hE0
    refine AX_nil ?_
    refine AX_seq (AX_E (E_lssS rfl rfl (fun c8 => ?_) (fun c8 => ?_)))
    · refine E_nil (AX_seq (AX_condT rfl (AX_skip (AX_seq (AX_block (AX_seq (AX_E (have ix1 : j < (c.gs).length := (by first | omega | (simp; done) | (simp; omega)); have iy1 : j < ps.length := (by omega); E_iaPb (j := j) rfl hI0.out rfl hps rfl rfl ix1 iy1 fun b1 o1 w1 => (E_ldBN rfl w1 (E_new (E_stO (k := 0) rfl rfl (v := .agg _) rfl rfl rfl rfl (E_nil (AX_E (E_fa rfl (E_ldO (k := 0) (v := .slice _ _ _) rfl rfl ?_)))))))))))))))
      obtain ⟨cl, hcl⟩ := hI0.inn j ix1 iy1
      refine E_clrAny (S := fun b => S b ∧ offP p b) (q := ps[j]'iy1) rfl hcl.app rfl (fun b cs wr gr hb hr => (hI0.app hS).wr b cs wr gr hb.1 hr) rfl fun K2 hK2 => E_nilR (E_nil (AX_E (E_addI rfl rfl (by first | omega | (simp; done) | (simp; omega)) (by first | omega | (simp; done) | (simp; omega)) (E_mv (v := .int .i64 (((j : Int) + 1))) rfl (E_nil ?_)))))
      refine hN0 (j + 1) _ _ _ ⟨by first | rfl | (congr 1; omega), by first | rfl | (congr 1; omega), by first | rfl | (congr 1; omega), by first | rfl | (congr 1; omega), trivial⟩ ⟨?_, rfl, ?_⟩ ?_
      all_goals clear hN0 hR0 hE0
      · rw [List.append_nil]
        exact (hI0.app hS).step hS hK2
      · omega
      · (first | omega | (simp; omega))
    · refine E_nil (AX_seq (AX_condF rfl (AX_exit (hE0 _ _ _ _ (AX_E (E_fa rfl (E_ldB (v := .slice _ _ _) rfl (rowGet_c (j := 2) hI0.box rfl) (E_clrAny (S := S) (q := p) rfl hI0.out.app rfl (fun b cs wr gr hb hr => (hI0.app hS).wr b cs wr gr hb hr) rfl fun K3 hK3 => E_nilR (E_nil ?_)))))))))
      refine ⟨_, rfl, by simp, rfl, K3 ++ [], rfl, ?_, ?_⟩
      · rw [List.append_nil]; rcases hK3 with rfl | ⟨b, cs, cs2, gr, a, hb, _, _, hr, hl2, rfl⟩
        · exact (hI0.app hS).len
        · simpa using hI0.len
      · intro x hx hn; rw [List.append_nil]; rcases hK3 with rfl | ⟨b, cs, cs2, gr, a, hb, _, _, hr, hl2, rfl⟩
        · exact (hI0.app hS).keep x hx hn
        · rw [List.getElem?_set_ne (by intro e; subst e; exact hn hb)]; exact (hI0.app hS).keep x hx hn
  obtain ⟨n, u, k, e, rfl, Kf, rfl, h1, h2⟩ := key
  refine ⟨_, ⟨n, e⟩, ?_, ?_⟩
  · unfold forget; split
    · exact Nat.le_refl _
    · exact h1
  · intro b hb hn
    unfold forget; split
    · rfl
    · exact h2 b hb hn
end Go.Canon
namespace Go.Canon
open Go Go.Proofs
set_option linter.unusedVariables false
set_option linter.unusedSimpArgs false
def kf20 : KFunc := ⟨4, 21, [.tmp 8], .seq (.reg [⟨some 4, .box (.t 0), none⟩, ⟨some 5, .box (.t 1), none⟩, ⟨some 8, .mv (.c (.bool false)), none⟩] []) (.seq (.reg [⟨some 10, .mv (.t 2), none⟩, ⟨some 11, .mv (.t 3), none⟩, ⟨some 12, .bin .eql (.t 10) (.t 11), none⟩, ⟨some 13, .mv (.t 12), none⟩, ⟨some 14, .ld (.t 4) (some 3), some (13, true)⟩, ⟨some 15, .ld (.t 5) (some 3), some (13, true)⟩, ⟨some 16, .call (.c (.func (.func 21) #[] #[])) [.t 14, .t 15], some (13, true)⟩, ⟨some 17, .pick (.t 13) (.t 16) (.c (.bool false)), none⟩, ⟨some 9, .mv (.t 17), none⟩] []) (.seq (.reg [⟨some 18, .ld (.t 4) (some 3), none⟩, ⟨some 19, .call (.c (.func (.func 75) #[] #[])) [.t 18], none⟩] []) (.seq (.reg [⟨some 20, .mv (.t 9), none⟩, ⟨some 8, .mv (.t 20), none⟩] []) .ret)))⟩
theorem k20 : tab Try.prog 20 = some kf20 := by kernel_rfl
def kf51 : KFunc := ⟨2, 8, [.cell 4 (some 4)], .seq (.reg [⟨some 4, .new [.int .i64 0, .slice none 0 0, .int .i64 0, .int .i64 0], none⟩] []) (.seq (.reg [⟨some 5, .mv (.t 0), none⟩, ⟨some 6, .mv (.t 1), none⟩, ⟨some 7, .mk [.int .i64 0, .slice none 0 0, .int .i64 0, .int .i64 0] [(0, 1, .t 5), (1, 1, .t 6)], none⟩, ⟨none, .st (.t 4) (.t 7) 4, none⟩] []) .ret)⟩
theorem k51 : tab Try.prog 51 = some kf51 := by kernel_rfl
theorem told_ret (H : Heap) (S : Nat → Prop) (c d : C) (p q : Pl) (e w : Int) {S' : Nat → Prop} (hP : GatesP S H p c.gs) (hu : Gates S' H q d.gs) (hS : ∀ b, S b → b < H.length) (hw : ∀ b cs wr gr, S b → H[b]? = some (CO.row cs wr gr) → wr = true) (hl : lens c.gs) (hl2 : c.gs.length < 4294967296) :
    ∃ K', Ret (tab Try.prog) 20 [cv c p, cv d q, .int .i64 e, .int .i64 w] H (.bool (decide (e = w ∧ c = d))) K' ∧ H.length ≤ K'.length ∧ ∀ b, b < H.length → ¬ S b → K'[b]? = H[b]? := by
  have hv := hP.gates
  have key : ACall (tab Try.prog) 20 [cv c p, cv d q, .int .i64 e, .int .i64 w] H fun u k => u = .bool (decide (e = w ∧ c = d)) ∧ ∃ Kf, k = forget H (.bool (decide (e = w ∧ c = d))) Kf ∧ H.length ≤ Kf.length ∧ ∀ b, b < H.length → ¬ S b → Kf[b]? = H[b]? := by
    refine ACall_ownR k20 rfl ?_
    refine AX_seq (AX_E (E_boxA rfl (E_boxA rfl (E_mv (v := .bool _) rfl (E_nil (AX_seq (AX_E (E_mv (v := .int .i64 (e)) rfl (E_mv (v := .int .i64 (w)) rfl (E_eqlS rfl rfl (fun c12 => ?_) (fun c12 => ?_)))))))))))
    · refine E_mv (v := .bool _) rfl (E_on rfl (E_ldON (k := 0) rfl rfl (E_on rfl (E_ldON (k := 1) rfl rfl (E_on rfl (E_callP rfl (kcsame_ret _ c d _ _ hv.app hu.app hl) (fun c16 => ?_) (fun c16 => ?_)))))))
      · refine E_pickT rfl (v := .bool _) rfl (E_mv (v := .bool _) rfl (E_nil (AX_seq (AX_E (E_ldON (k := 0) rfl rfl ?_)))))
        obtain ⟨KS, hr, k1, k2⟩ := spoil_ret (H ++ [CO.row [.int .i64 (c.w), .int .i64 (c.b), .slice (p).1 (c.gs).length (p).2] true none, CO.row [.int .i64 (d.w), .int .i64 (d.b), .slice (q).1 (d.gs).length (q).2] true none]) S c p hP.app (fun b hb => by have := hS b hb; simp; omega) (fun b cs wr gr hb hr => hw b cs wr gr hb (by rwa [pre_get (hS b hb)] at hr)) hl2
        refine E_callR rfl rfl (hr) (.inl rfl) (E_nilR (E_nil (AX_seq (AX_E (E_mv (v := .bool _) rfl (E_mv (v := .bool _) rfl (E_nil (AX_ret ?_))))))))
        have er : (true : Bool) = decide (e = w ∧ c = d) := by simp [*]
        refine ⟨_, rfl, by simp, congrArg Value.bool er, KS ++ [], ?_, ?_, ?_⟩
        · rw [← er]; rfl
        · simp at k1 ⊢; omega
        · intro b hb hn; rw [List.append_nil, k2 b (by simp; omega) hn, pre_get hb]
      · refine E_pickT rfl (v := .bool _) rfl (E_mv (v := .bool _) rfl (E_nil (AX_seq (AX_E (E_ldON (k := 0) rfl rfl ?_)))))
        obtain ⟨KS, hr, k1, k2⟩ := spoil_ret (H ++ [CO.row [.int .i64 (c.w), .int .i64 (c.b), .slice (p).1 (c.gs).length (p).2] true none, CO.row [.int .i64 (d.w), .int .i64 (d.b), .slice (q).1 (d.gs).length (q).2] true none]) S c p hP.app (fun b hb => by have := hS b hb; simp; omega) (fun b cs wr gr hb hr => hw b cs wr gr hb (by rwa [pre_get (hS b hb)] at hr)) hl2
        refine E_callR rfl rfl (hr) (.inl rfl) (E_nilR (E_nil (AX_seq (AX_E (E_mv (v := .bool _) rfl (E_mv (v := .bool _) rfl (E_nil (AX_ret ?_))))))))
        have er : (false : Bool) = decide (e = w ∧ c = d) := by simp [*]
        refine ⟨_, rfl, by simp, congrArg Value.bool er, KS ++ [], ?_, ?_, ?_⟩
        · rw [← er]; rfl
        · simp at k1 ⊢; omega
        · intro b hb hn; rw [List.append_nil, k2 b (by simp; omega) hn, pre_get hb]
    · refine E_mv (v := .bool _) rfl (E_notT rfl (E_notT rfl (E_notT rfl (E_pickF rfl (v := .bool _) rfl (E_mv (v := .bool _) rfl (E_nil (AX_seq (AX_E (E_ldON (k := 0) rfl rfl ?_)))))))))
      obtain ⟨KS, hr, k1, k2⟩ := spoil_ret (H ++ [CO.row [.int .i64 (c.w), .int .i64 (c.b), .slice (p).1 (c.gs).length (p).2] true none, CO.row [.int .i64 (d.w), .int .i64 (d.b), .slice (q).1 (d.gs).length (q).2] true none]) S c p hP.app (fun b hb => by have := hS b hb; simp; omega) (fun b cs wr gr hb hr => hw b cs wr gr hb (by rwa [pre_get (hS b hb)] at hr)) hl2
      refine E_callR rfl rfl (hr) (.inl rfl) (E_nilR (E_nil (AX_seq (AX_E (E_mv (v := .bool _) rfl (E_mv (v := .bool _) rfl (E_nil (AX_ret ?_))))))))
      have er : (false : Bool) = decide (e = w ∧ c = d) := by simp [*]
      refine ⟨_, rfl, by simp, congrArg Value.bool er, KS ++ [], ?_, ?_, ?_⟩
      · rw [← er]; rfl
      · simp at k1 ⊢; omega
      · intro b hb hn; rw [List.append_nil, k2 b (by simp; omega) hn, pre_get hb]
  obtain ⟨n, u, k, e1, rfl, Kf, rfl, h1, h2⟩ := key
  refine ⟨_, ⟨n, e1⟩, ?_, ?_⟩
  · unfold forget; split
    · exact Nat.le_refl _
    · exact h1
  · intro b hb hn
    unfold forget; split
    · rfl
    · exact h2 b hb hn
end Go.Canon
namespace Go.Canon
open Go Go.Proofs
set_option linter.unusedVariables false
set_option linter.unusedSimpArgs false
end Go.Canon
namespace Go.Canon
open Go Go.Proofs
set_option linter.unusedVariables false
set_option linter.unusedSimpArgs false
/-- hh i: the objects that were there before, when the first i gates have been looked at. -/
theorem rf_go {fi : FI} {fr : Nat → Value} {m : List Nat} {Q : Ex → (Nat → Value) → Heap → List Nat → Prop} {f : KO} {ps : List Nat} {asg body : KC} {n f1 bn bw N : Nat} {c : C} {p : Pl} (P : Nat → Prop) [DecidablePred P] (hh : Nat → Heap) (hN : ∀ i, (hh i).length = N)
    (hf : f.ev fr = .func (.func 96) #[] #[.pointer (some ⟨bn, 0, none⟩), .pointer (some ⟨bw, 0, none⟩)]) (hps : ps.length = 1) (hrd : fi.rd = none)
    (h1 : ∀ i, rowGet (hh i) ⟨bn, 0, none⟩ 1 = some [.int .i64 (n : Int)]) (h2 : ∀ i, rowGet (hh i) ⟨bw, 0, none⟩ 4 = some (wcells c p f1)) (h3 : ∀ i, Gates allB (hh i) p c.gs) (hn : n < c.gs.length) (hl : c.gs.length < 4294967296)
    (hnear : ∀ i (hi : i < n) (K : Heap) (q1 q2 : Pl), Ints allB K q1 c.gs[i].ws → Ints allB K q2 c.gs[n].ws → Ret (tab Try.prog) f1 [gv c.gs[i] q1, gv c.gs[n] q2] K (.bool (decide (P i))) K)
    (hskip : ∀ i, i < n → ¬ P i → hh (i + 1) = hh i)
    (hround : ∀ i, i < n → P i → ∀ R : CLoop, AX (tab Try.prog) { fi with rd := some (N + 1) } asg (putAll fr ps [.int .i64 (i : Int)]) (hh i ++ [.mark, .loop { R with st := .ready }]) [] fun e fr1 k1 m1 => e = .normal ∧ m1 = [] ∧ k1 = hh i ++ [.mark, .loop { R with st := .ready }] ∧
      AX (tab Try.prog) { fi with rd := some (N + 1) } body fr1 (hh i ++ [.mark, .loop { R with st := .busy }]) [] fun e fr2 k2 m2 => e = .normal ∧ m2 = [] ∧ k2 = hh (i + 1) ++ [.mark, .loop { R with st := .busy }])
    (hQ : ∀ R, Q .normal fr (hh n ++ [.mark, .loop R]) (N :: m)) : AX (tab Try.prog) fi (.rf f ps asg body) fr (hh 0) m Q := by
  refine AX_rf hf hrd ?_
  have hl0 := hN 0
  rw [hl0]
  generalize hR : rec0 fi fr ps asg body N = R
  have hR1 : R.st = .ready := by rw [← hR]; rfl
  have hR2 : R.pending = none := by rw [← hR]; rfl
  have hR3 : R.fi = { fi with rd := some (N + 1) } := by rw [← hR]; rfl
  have hR4 : R.params = ps := by rw [← hR]; rfl
  have hR5 : R.assign = asg := by rw [← hR]; rfl
  have hR6 : R.body = body := by rw [← hR]; rfl
  have hR7 : R.fr = fr := by rw [← hR]; rfl
  clear hR
  obtain ⟨st, pd, fi', fr', ps', a', b', bk⟩ := R
  simp only at hR1 hR2 hR3 hR4 hR5 hR6 hR7
  subst hR1 hR2 hR3 hR4 hR5 hR6 hR7
  have hget : ∀ i r, (hh i ++ [CO.mark, .loop r])[N + 1]? = some (.loop r) := fun i r => by rw [List.getElem?_append_right (by have := hN i; omega), show N + 1 - (hh i).length = 1 by have := hN i; omega]; rfl
  have hset : ∀ i r r', (hh i ++ [CO.mark, .loop r]).set (N + 1) (.loop r') = hh i ++ [.mark, .loop r'] := fun i r r' => by rw [List.set_append_right _ _ (by have := hN i; omega), show N + 1 - (hh i).length = 1 by have := hN i; omega]; rfl
  have key := before1_call (N + 1) n P (fun i K => K = hh i ++ [.mark, .loop ⟨.ready, none, { fi with rd := some (N + 1) }, fr', ps', a', b', bk⟩]) (fun K => False) bn bw 0 0 f1 c.gs p c.w c.b ?_ hn hl hnear ?_ ?_ (hh 0 ++ [.mark, .loop ⟨.ready, none, { fi with rd := some (N + 1) }, fr', ps', a', b', bk⟩]) rfl
  · refine ACall.mono key ?_
    rintro _ K' ⟨Kf, hK | hK, rfl⟩
    · subst hK
      have hfg : forget (hh 0 ++ [.mark, .loop ⟨.ready, none, { fi with rd := some (N + 1) }, fr', ps', a', b', bk⟩]) (.tuple #[]) (hh n ++ [.mark, .loop ⟨.ready, none, { fi with rd := some (N + 1) }, fr', ps', a', b', bk⟩]) = hh n ++ [.mark, .loop ⟨.ready, none, { fi with rd := some (N + 1) }, fr', ps', a', b', bk⟩] := by
        unfold forget
        split
        · rename_i hx
          obtain ⟨t, ht⟩ := hx.2
          have hlen := congrArg List.length ht
          simp only [List.length_append, hN, List.length_cons, List.length_nil] at hlen
          have : t = [] := List.length_eq_zero_iff.1 (by omega)
          subst this
          rw [← ht, List.append_nil]
        · rfl
      rw [hfg]
      refine ⟨_, hget n _, by simp, ?_⟩
      rw [hset]
      exact hQ _
    · exact hK.elim
  · rintro i K rfl
    exact ⟨rowGet_base (h1 i), rowGet_base (h2 i), (h3 i).app⟩
  · rintro i K hi rfl hp
    rw [hskip i hi hp]
  · rintro i K hi rfl hp
    refine ARound_of (hget i _) (by simp [hps]) rfl rfl ?_
    refine (hround i hi hp ⟨.ready, none, { fi with rd := some (N + 1) }, fr', ps', a', b', bk⟩).mono ?_
    rintro e fr1 k1 m1 ⟨rfl, rfl, rfl, hb⟩
    refine ⟨rfl, rfl, _, hget i _, rfl, ?_⟩
    rw [hset]
    refine hb.mono ?_
    rintro e fr2 k2 m2 ⟨rfl, rfl, rfl⟩
    refine ⟨rfl, _, hget (i + 1) _, ?_⟩
    simp only
    rw [hset]
    exact .inl ⟨by first | rfl | trivial, by first | rfl | trivial⟩
end Go.Canon
namespace Go.Canon
open Go Go.Proofs
set_option linter.unusedVariables false
set_option linter.unusedSimpArgs false
def kf66 : KFunc := ⟨1, 13, [.cell 2 (some 4), .tmp 3], .seq (.reg [⟨some 1, .box (.t 0), none⟩, ⟨some 2, .new [.int .i64 0, .int .i64 0, .slice none 0 0, .nilFunc], none⟩, ⟨some 3, .mv (.c (.int .i64 0)), none⟩] []) (.seq (.seq (.reg [⟨some 5, .ld (.t 1) (some 3), none⟩, ⟨some 6, .call (.c (.func (.func 32) #[] #[])) [.t 5], none⟩, ⟨some 4, .mv (.t 6), none⟩] []) (.seq (.reg [⟨some 7, .mv (.t 4), none⟩, ⟨some 8, .bin .neq (.t 7) (.c (.int .i64 0)), none⟩] []) (.cond (.t 8) (.seq (.reg [⟨some 9, .mk [.int .i64 0, .int .i64 0, .slice none 0 0, .nilFunc] [], none⟩, ⟨some 10, .mv (.t 4), none⟩, ⟨none, .st (.t 2) (.t 9) 4, none⟩, ⟨some 3, .mv (.t 10), none⟩] []) .ret) .skip))) (.seq (.reg [⟨some 11, .ld (.t 1) (some 3), none⟩, ⟨some 12, .mk [.int .i64 0, .int .i64 0, .slice none 0 0, .nilFunc] [(0, 3, .t 11), (3, 1, .c (.func (.func 88) #[] #[]))], none⟩, ⟨none, .st (.t 2) (.t 12) 4, none⟩, ⟨some 3, .mv (.c (.int .i64 0)), none⟩] []) .ret))⟩
theorem k66 : tab Try.prog 66 = some kf66 := by kernel_rfl
theorem cloneG_ret (H : Heap) (p : Pl) (gs : List G) (ps : List Pl) {S : Nat → Prop} (hps : ps.length = gs.length) (hC : Cells S H 4 p gs.length (flat gs ps)) (hl : gs.length < 4294967296) (hne : gs ≠ []) : ∃ X, Ret (tab Try.prog) 72 [.slice p.1 gs.length p.2] H (.slice (some ⟨H.length + 1, 0, none⟩) gs.length gs.length) (H ++ X) ∧ X[1]? = some (.row (flat gs ps) true (some 4)) := by
  have hp : p.1 ≠ none := by
    intro e
    obtain ⟨h1, h2, ⟨h3, h4⟩ | ⟨b, o, cs, wr, gr, e1, _⟩⟩ := hC
    · exact hne (List.length_eq_zero_iff.1 (by omega))
    · rw [e] at e1; cases e1
  have key := Ret_grow (T := tab Try.prog) (f := 72) (args := [.slice p.1 gs.length p.2]) (h := H) (fun u X => u = .slice (some ⟨H.length + 1, 0, none⟩) gs.length gs.length ∧ X[1]? = some (.row (flat gs ps) true (some 4))) k72 rfl ?_
  · obtain ⟨u, X, hr, rfl, f1⟩ := key
    exact ⟨X, hr, f1⟩
  refine AX_seq (AX_E (E_mv (v := .slice _ _ _) rfl (E_nil (AX_seq (AX_seq (AX_E (E_mv (v := .slice _ _ _) rfl (E_eqN (b := (p).1.isNone) rfl (E_bs (fun c4 => ?_) (fun c4 => ?_))))))))))
  · exact (hp (by simpa using c4)).elim
  · refine E_nil (AX_condF rfl (AX_skip (AX_seq (AX_E (E_mkS (cs := []) rfl (E_mv (v := .slice _ _ _) rfl (E_app0 (k := 0) rfl rfl rfl (Cells.first hC.app) (by simp only [roomB]; omega) (flat_len _ _ hps) fun W q hW => (E_mv (v := .slice _ _ _) rfl (E_nil (AX_ret ?_))))))))))
    rcases hW with ⟨h0, rfl, rfl⟩ | ⟨_, rfl, rfl⟩
    · exact (hne (List.length_eq_zero_iff.1 h0)).elim
    · exact ⟨_, rfl, by simp, _, forget_more (v := .slice (some ⟨H.length + 1, 0, none⟩) gs.length gs.length) rfl, rfl, rfl⟩
theorem opened_ret (H : Heap) (c : C) (p : Pl) {S : Nat → Prop} (hv : Gates S H p c.gs) (hl : c.gs.length < 4294967296) (hc : checkM c = 0) : ∃ X, Ret (tab Try.prog) 66 [cv c p] H (.tuple #[.agg #[.int .i64 c.w, .int .i64 c.b, .slice p.1 c.gs.length p.2, .func (.func 88) #[] #[]], .int .i64 0]) (H ++ X) := by
  have key := Ret_grow (T := tab Try.prog) (f := 66) (args := [cv c p]) (h := H) (fun u X => u = .tuple #[.agg #[.int .i64 c.w, .int .i64 c.b, .slice p.1 c.gs.length p.2, .func (.func 88) #[] #[]], .int .i64 0]) k66 rfl ?_
  · obtain ⟨u, X, hr, rfl⟩ := key
    exact ⟨X, hr⟩
  refine AX_seq (AX_E (E_boxA rfl (E_new (E_mv (v := .int .i64 (0)) rfl (E_nil (AX_seq (AX_seq (AX_E (E_ldON (k := 0) rfl rfl (E_callV rfl (pcheck_ret _ c _ hv.app (by first | omega | (simp; done) | (simp; omega))) (E_mv (v := .int .i64 (checkM c)) rfl (E_nil (AX_seq (AX_E (E_mv (v := .int .i64 (checkM c)) rfl (E_neqS rfl rfl (fun c8 => ?_) (fun c8 => ?_)))))))))))))))))
  · exact (c8 hc).elim
  · refine E_nil (AX_condF rfl (AX_skip (AX_seq (AX_E (E_ldON (k := 0) rfl rfl (E_mk (cs := [.int .i64 (c.w), .int .i64 (c.b), .slice (p).1 (c.gs).length (p).2, .func (.func 88) #[] #[]]) rfl (E_stO (k := 1) rfl rfl (v := .agg _) rfl rfl rfl rfl (E_mv (v := .int .i64 (0)) rfl (E_nil (AX_ret ?_))))))))))
    refine ⟨_, res2 (res_cellN (k := 1) rfl rfl) (res_tmp rfl), by simp, ?_⟩
    obtain ⟨X, hX⟩ := forget_any (h := H) (u := .tuple #[.agg #[.int .i64 c.w, .int .i64 c.b, .slice p.1 c.gs.length p.2, .func (.func 88) #[] #[]], .int .i64 0]) (List.prefix_append H [CO.row [.int .i64 (c.w), .int .i64 (c.b), .slice (p).1 (c.gs).length (p).2] true none, CO.row [.int .i64 (c.w), .int .i64 (c.b), .slice (p).1 (c.gs).length (p).2, .func (.func 88) #[] #[]] true none])
    exact ⟨X, hX, rfl⟩
end Go.Canon
namespace Go.Canon
open Go Go.Proofs
set_option linter.unusedVariables false
set_option linter.unusedSimpArgs false
def kf80 : KFunc := ⟨3, 21, [], .seq (.reg [⟨some 4, .new [.int .i64 0], none⟩, ⟨none, .st (.t 4) (.c (.int .i64 0)) 1, none⟩] []) (.seq (.seq (.reg [⟨some 6, .ld (.t 1) (some 4), none⟩, ⟨some 7, .mv (.t 0), none⟩, ⟨some 8, .call (.c (.func (.func 69) #[] #[])) [.t 6, .t 7], none⟩] []) (.block 0 (.rf (.t 8) [9] (.reg [⟨some 5, .mv (.t 9), none⟩] []) (.block 1 (.reg [⟨some 10, .ld (.t 4) none, none⟩, ⟨some 11, .ld (.t 2) none, none⟩, ⟨some 12, .mv (.t 5), none⟩, ⟨some 13, .iaS (.t 11) (.t 12) 1, none⟩, ⟨some 14, .ld (.t 13) none, none⟩, ⟨some 15, .bin .add (.t 14) (.c (.int .i64 1)), none⟩, ⟨some 16, .mx [.t 10, .t 15], none⟩, ⟨none, .st (.t 4) (.t 16) 1, none⟩] []))))) (.reg [⟨some 17, .ld (.t 2) none, none⟩, ⟨some 18, .ld (.t 4) none, none⟩, ⟨some 19, .mkS [.int .i64 0] 1 [(0, 1, .t 18)], none⟩, ⟨some 20, .app (.t 17) (.t 19) 1 8, none⟩, ⟨none, .st (.t 2) (.t 20) 1, none⟩] []))⟩
theorem k80 : tab Try.prog 80 = some kf80 := by kernel_rfl
theorem lay_step {gs : List G} {out : List Int} {n i : Nat} (hn : n < gs.length) (hi : i < gs.length) (ho : i < out.length) (hm : meetM gs[i] gs[n]) : (if out[i] + 1 > layerTo gs out n i then out[i] + 1 else layerTo gs out n i) = layerTo gs out n (i + 1) := by
  have hm' := meet_symm.1 hm
  by_cases h : layerTo gs out n i ≤ out[i]
  · rw [layer_yes hn hi ho hm' h, if_pos (by omega)]
  · rw [layer_no2 ho h, if_neg (by omega)]
theorem rowGet_ownE {h L : Heap} {b k o n : Nat} {l : List Value} (hb : b = h.length + k) (hg : rowGet L ⟨k, o, none⟩ n = some l) : rowGet (h ++ L) ⟨b, o, none⟩ n = some l := hb ▸ rowGet_own hg
theorem Grown.lt {sz n k i : Nat} {Z : Heap} {p : Pl} {cells : List Value} (H : Grown sz n Z p k cells) (e : p.1 = some ⟨n + i, 0, none⟩) : i < Z.length := by
  obtain ⟨a, ⟨b, c⟩ | ⟨j, gr, e2, c, d⟩⟩ := H
  · rw [b] at e; cases e
  · rw [e2] at e
    have := (List.getElem?_eq_some_iff.1 c).1
    simp at e
    omega
theorem set_deep {H A Z : Heap} {N j : Nat} {ob : CO} (hN : N = H.length + A.length + j) : (H ++ (A ++ Z)).set N ob = H ++ (A ++ Z.set j ob) := by
  subst hN
  rw [← List.append_assoc, List.set_append_right _ _ (by simp), List.append_assoc]
  congr 3
  simp
abbrev workRow (c : C) (p0 : Pl) : CO := .row (wcells c p0 88) true none
theorem put_ret (H : Heap) (c : C) (p0 : Pl) (n : Nat) (Z : Heap) (p : Pl) (hv : Gates allB H p0 c.gs) (hr : CR c) (hn : n < c.gs.length) (hz : Grown 1 (H.length + 2) Z p (layersL c.gs n).length ((layersL c.gs n).map (.int .i64 ·))) :
    ∃ Z' p', Ret (tab Try.prog) 80 [.int .i64 (n : Int), .pointer (some ⟨H.length + 0, 0, none⟩), .pointer (some ⟨H.length + 1, 0, none⟩)] (H ++ ([workRow c p0, .row [.slice p.1 (layersL c.gs n).length p.2] true none] ++ Z)) (.tuple #[]) (H ++ ([workRow c p0, .row [.slice p'.1 (layersL c.gs (n + 1)).length p'.2] true none] ++ Z')) ∧ Grown 1 (H.length + 2) Z' p' (layersL c.gs (n + 1)).length ((layersL c.gs (n + 1)).map (.int .i64 ·)) := by
  have hnn := hr.n0
  have hll := layersL_len c.gs n
  have hlb := layersL_le c.gs n
  have key : ACall (tab Try.prog) 80 [.int .i64 (n : Int), .pointer (some ⟨H.length + 0, 0, none⟩), .pointer (some ⟨H.length + 1, 0, none⟩)] (H ++ ([workRow c p0, .row [.slice p.1 (layersL c.gs n).length p.2] true none] ++ Z)) fun u k => u = .tuple #[] ∧ ∃ Z' p', k = forget (H ++ ([workRow c p0, .row [.slice p.1 (layersL c.gs n).length p.2] true none] ++ Z)) (.tuple #[]) (H ++ ([workRow c p0, .row [.slice p'.1 (layersL c.gs (n + 1)).length p'.2] true none] ++ Z')) ∧ Grown 1 (H.length + 2) Z' p' (layersL c.gs (n + 1)).length ((layersL c.gs (n + 1)).map (.int .i64 ·)) := by
    refine ACall_ownR k80 rfl ?_
    refine AX_seq (AX_E (E_new (E_stO (k := 0) rfl rfl (v := .int .i64 (0)) rfl rfl rfl rfl (E_nil (AX_seq (AX_seq (AX_E (E_ldBN (cs := [.int .i64 (c.w), .int .i64 (c.b), .slice (p0).1 (c.gs).length (p0).2, .func (.func 88) #[] #[]]) rfl (rowGet_own (k := 0) rfl) (E_mv (v := .int .i64 ((n : Int))) rfl ?_)))))))))
    refine E_callX (X := [CO.row (wcells c p0 88) true none, CO.row [.int .i64 (n : Int)] true none]) rfl (pbefore_ret _ c p0 88 n) (E_nil (AX_block ?_))
    refine AX_hp (h' := (fun i => (H ++ ([CO.row (wcells c p0 88) true none, CO.row [.slice (p).1 ((layersL c.gs n)).length (p).2] true none] ++ Z)) ++ ([CO.row [.int .i64 (layerTo c.gs (layersL c.gs n) n i)] true none, CO.row (wcells c p0 88) true none, CO.row [.int .i64 (n : Int)] true none])) 0) (by first | (simp only [List.append_assoc, List.append_nil, List.nil_append, List.cons_append, List.set_cons_zero, List.set_cons_succ]; done) | (simp only [List.append_assoc, List.append_nil, List.nil_append, List.cons_append, List.set_cons_zero, List.set_cons_succ]; rfl)) ?_
    refine rf_go (n := n) (f1 := 88) (c := c) (p := p0) (N := ((H ++ ([CO.row (wcells c p0 88) true none, CO.row [.slice (p).1 ((layersL c.gs n)).length (p).2] true none] ++ Z))).length + 3) (fun i => meetM (c.gs.getD i default) (c.gs.getD n default)) (fun i => (H ++ ([CO.row (wcells c p0 88) true none, CO.row [.slice (p).1 ((layersL c.gs n)).length (p).2] true none] ++ Z)) ++ ([CO.row [.int .i64 (layerTo c.gs (layersL c.gs n) n i)] true none, CO.row (wcells c p0 88) true none, CO.row [.int .i64 (n : Int)] true none])) (fun i => by simp; omega) rfl rfl rfl (fun i => ?_) (fun i => ?_) (fun i => hv.app.app) hn (by omega) ?_ ?_ ?_ ?_
    · exact rowGet_ownE (k := 2) (by simp; omega) rfl
    · exact rowGet_ownE (k := 1) (by simp; omega) rfl
    · intro i hi K q1 q2 e1 e2
      have := pmeet_ret K c.gs[i] c.gs[n] q1 q2 e1 e2 (hr.gr (List.getElem_mem _)) (hr.gr (List.getElem_mem _))
      simpa only [getG_at hn, getG_at (show i < c.gs.length by omega)] using this
    · intro i hi hp
      have hm : ¬ meetM c.gs[n] c.gs[i] := fun h => hp (by rw [getG_at hn, getG_at (show i < c.gs.length by omega)]; exact meet_symm.1 h)
      simp only [layer_no hn (show i < c.gs.length by omega) hm]
    · intro i hi hp R
      have hm : meetM c.gs[i] c.gs[n] := by rw [getG_at hn, getG_at (show i < c.gs.length by omega)] at hp; exact hp
      have hil : i < (layersL c.gs n).length := by omega
      have hb := hlb _ (List.getElem_mem hil)
      have hz1 : Ints allB (H ++ ([CO.row (wcells c p0 88) true none, CO.row [.slice (p).1 ((layersL c.gs n)).length (p).2] true none] ++ Z)) p (layersL c.gs n) := hz.ints.at (by simp)
      refine AX_E (E_mv (v := .int .i64 (i : Int)) rfl (E_nil ⟨rfl, rfl, rfl, ?_⟩))
      refine AX_block (AX_E (E_ld1 (v := .int .i64 (layerTo c.gs (layersL c.gs n) n i)) rfl (rowGet_base (rowGet_own (k := 0) rfl)) (E_ld1 (v := .slice p.1 (layersL c.gs n).length p.2) rfl (rowGet_base (rowGet_base (rowGet_own (k := 1) rfl))) (E_mv (v := .int .i64 (i : Int)) rfl (E_iaI (j := i) rfl hz1.app.app rfl rfl rfl hil fun b1 o1 w1 => ?_)))))
      refine E_ld1 (v := .int .i64 (layersL c.gs n)[i]) rfl w1 (E_addI rfl rfl (by omega) (by omega) (E_mx2 rfl rfl ?_))
      refine E_hp (h' := (H ++ ([CO.row (wcells c p0 88) true none, CO.row [.slice (p).1 ((layersL c.gs n)).length (p).2] true none] ++ Z)) ++ [CO.row [.int .i64 (layerTo c.gs (layersL c.gs n) n i)] true none, CO.row (wcells c p0 88) true none, CO.row [.int .i64 (n : Int)] true none, .mark, .loop { R with st := .busy }]) (by first | (simp only [List.append_assoc, List.append_nil, List.nil_append, List.cons_append, List.set_cons_zero, List.set_cons_succ]; done) | (simp only [List.append_assoc, List.append_nil, List.nil_append, List.cons_append, List.set_cons_zero, List.set_cons_succ]; rfl)) ?_
      refine E_stO (k := 0) rfl rfl (v := .int _ _) rfl rfl rfl rfl (E_nil ⟨rfl, rfl, ?_⟩)
      simp only [← lay_step hn (show i < c.gs.length by omega) hil hm]
      first | (simp only [List.append_assoc, List.cons_append, List.nil_append, List.set_cons_zero]; done) | (simp only [List.append_assoc, List.cons_append, List.nil_append, List.set_cons_zero]; rfl)
    · intro R
      refine AX_hp (h' := (H ++ ([CO.row (wcells c p0 88) true none, CO.row [.slice (p).1 ((layersL c.gs n)).length (p).2] true none] ++ Z)) ++ [CO.row [.int .i64 (layerTo c.gs (layersL c.gs n) n n)] true none, CO.row (wcells c p0 88) true none, CO.row [.int .i64 ((n : Int))] true none, CO.mark, CO.loop R]) (by first | (simp only [List.append_assoc, List.append_nil, List.nil_append, List.cons_append, List.set_cons_zero, List.set_cons_succ]; done) | (simp only [List.append_assoc, List.append_nil, List.nil_append, List.cons_append, List.set_cons_zero, List.set_cons_succ]; rfl)) ?_
      refine AX_E (E_ldB (v := .slice _ _ _) rfl (rowGet_own (k := 1) rfl) (E_ldO (k := 0) (v := .int .i64 (layerTo c.gs (layersL c.gs n) n n)) rfl rfl (E_mkS (cs := [.int .i64 (layerTo c.gs (layersL c.gs n) n n)]) rfl (E_appI2 (A := [CO.row [.int .i64 (c.w), .int .i64 (c.b), .slice (p0).1 (c.gs).length (p0).2, .func (.func 88) #[] #[]] true none, CO.row [.slice (p).1 ((layersL c.gs n)).length (p).2] true none]) (Z := (Z ++ [CO.row [.int .i64 (layerTo c.gs (layersL c.gs n) n n)] true none, CO.row (wcells c p0 88) true none, CO.row [.int .i64 ((n : Int))] true none, CO.mark, CO.loop R, CO.row [.int .i64 (layerTo c.gs (layersL c.gs n) n n)] true none])) (l' := layersL c.gs (n + 1)) (by first | (simp only [List.append_assoc, List.append_nil, List.nil_append, List.cons_append, List.set_cons_zero, List.set_cons_succ]; done) | (simp only [List.append_assoc, List.append_nil, List.nil_append, List.cons_append, List.set_cons_zero, List.set_cons_succ]; rfl)) (by rw [layersL]) (n := (H.length + 2)) (by simp) hz.app rfl rfl (rowGet_own (k := 5) rfl) (by omega) rfl fun Z1 p1 hb1 hk1 => (E_stO (k := 1) rfl rfl (v := .slice _ _ _) rfl rfl rfl rfl (E_nil ?_))))))
      have hm : Z1[Z.length + 3]? = some .mark := by
        rw [hk1 (Z.length + 3) (by simp) (fun e => by have := hz.lt e; omega)]
        rw [List.getElem?_append_right (by omega)]
        simp
      have hN : ∀ (A : Heap) (N : Nat), A.length = 2 → N = H.length + 2 + (Z.length + 3) → (H ++ (A ++ Z1))[N]? = some .mark := by
        rintro A _ hA rfl
        rw [← List.append_assoc, List.getElem?_append_right (by simp; omega)]
        rw [← hm]; congr 1; simp; omega
      refine ⟨_, rfl, ?_, rfl, Z1.set (Z.length + 3) .gone, p1, ?_, hb1.gone hm⟩
      · intro x hx
        rw [List.mem_singleton.1 hx]
        exact hN [workRow c p0, .row [.slice p1.1 (layersL c.gs (n + 1)).length p1.2] true none] _ rfl (by simp; omega)
      · refine congrArg (forget _ _) ?_
        show List.set _ _ _ = _
        exact set_deep (H := H) (A := [workRow c p0, .row [.slice p1.1 (layersL c.gs (n + 1)).length p1.2] true none]) (Z := Z1) (N := (H ++ ([workRow c p0, .row [.slice p.1 (layersL c.gs n).length p.2] true none] ++ Z)).length + 3) (by simp; omega)
  obtain ⟨N, u, k, e, rfl, Z', p', rfl, hg⟩ := key
  refine ⟨Z', p', ⟨N, ?_⟩, hg⟩
  rw [e]
  refine congrArg some (Prod.ext rfl ?_)
  unfold forget
  rw [if_neg]
  rintro ⟨_, t, ht⟩
  have aux : ∀ L : Heap, (H ++ L)[H.length + 1]? = L[1]? := fun L => by rw [List.getElem?_append_right (by omega)]; congr 1; omega
  rw [List.append_assoc] at ht
  have := aux (([workRow c p0, CO.row [.slice p.1 (layersL c.gs n).length p.2] true none] ++ Z) ++ t)
  rw [ht, aux] at this
  have h1 := layersL_len c.gs (n + 1)
  simp [h1, hll] at this
end Go.Canon
namespace Go.Canon
open Go Go.Proofs
set_option linter.unusedVariables false
set_option linter.unusedSimpArgs false
def kf29 : KFunc := ⟨1, 29, [.tmp 2, .tmp 3], .seq (.reg [⟨some 1, .box (.t 0), none⟩, ⟨some 2, .mv (.c (.slice none 0 0)), none⟩, ⟨some 3, .mv (.c (.int .i64 0)), none⟩] []) (.seq (.reg [⟨some 10, .ld (.t 1) (some 3), none⟩, ⟨some 11, .call (.c (.func (.func 66) #[] #[])) [.t 10], none⟩, ⟨some 9, .mv (.t 11), none⟩, ⟨some 12, .ext (.t 9) 0, none⟩, ⟨some 13, .ext (.t 9) 1, none⟩, ⟨some 4, .new [.int .i64 0, .int .i64 0, .slice none 0 0, .nilFunc], none⟩, ⟨none, .st (.t 4) (.t 12) 4, none⟩, ⟨some 5, .mv (.t 13), none⟩] []) (.seq (.seq (.reg [⟨some 14, .mv (.t 5), none⟩, ⟨some 15, .bin .neq (.t 14) (.c (.int .i64 0)), none⟩] []) (.cond (.t 15) (.seq (.reg [⟨some 16, .mv (.t 5), none⟩, ⟨some 2, .mv (.c (.slice none 0 0)), none⟩, ⟨some 3, .mv (.t 16), none⟩] []) .ret) .skip)) (.seq (.reg [⟨some 6, .new [.slice none 0 0], none⟩] []) (.seq (.reg [⟨some 17, .fn 80 [] [.t 4, .t 6], none⟩, ⟨some 7, .mv (.t 17), none⟩] []) (.seq (.seq (.reg [⟨some 18, .fa (.t 1) 2, none⟩, ⟨some 19, .ld (.t 18) none, none⟩, ⟨some 20, .len (.t 19), none⟩, ⟨some 21, .mv (.c (.int .i64 0)), none⟩] []) (.block 0 (.loop (.seq (.reg [⟨some 22, .bin .lss (.t 21) (.t 20), none⟩] []) (.seq (.cond (.t 22) .skip (.exit 0)) (.seq (.block 1 (.seq (.reg [⟨some 23, .mv (.t 21), none⟩, ⟨some 8, .mv (.t 23), none⟩] []) (.reg [⟨some 24, .mv (.t 7), none⟩, ⟨some 25, .mv (.t 8), none⟩, ⟨some 26, .call (.t 24) [.t 25], none⟩] []))) (.reg [⟨some 27, .bin .add (.t 21) (.c (.int .i64 1)), none⟩, ⟨some 21, .mv (.t 27), none⟩] []))))))) (.seq (.reg [⟨some 28, .ld (.t 6) none, none⟩, ⟨some 2, .mv (.t 28), none⟩, ⟨some 3, .mv (.c (.int .i64 0)), none⟩] []) .ret))))))⟩
theorem k29 : tab Try.prog 29 = some kf29 := by kernel_rfl
theorem opened_bad (H : Heap) (c : C) (p : Pl) {S : Nat → Prop} (hv : Gates S H p c.gs) (hl : c.gs.length < 4294967296) (hc : checkM c ≠ 0) : ∃ X, Ret (tab Try.prog) 66 [cv c p] H (.tuple #[.agg #[.int .i64 0, .int .i64 0, .slice none 0 0, .nilFunc], .int .i64 (checkM c)]) (H ++ X) := by
  have key := Ret_grow (T := tab Try.prog) (f := 66) (args := [cv c p]) (h := H) (fun u X => u = .tuple #[.agg #[.int .i64 0, .int .i64 0, .slice none 0 0, .nilFunc], .int .i64 (checkM c)]) k66 rfl ?_
  · obtain ⟨u, X, hr, rfl⟩ := key
    exact ⟨X, hr⟩
  refine AX_seq (AX_E (E_boxA rfl (E_new (E_mv (v := .int .i64 (0)) rfl (E_nil (AX_seq (AX_seq (AX_E (E_ldON (k := 0) rfl rfl (E_callV rfl (pcheck_ret _ c _ hv.app (by first | omega | (simp; done) | (simp; omega))) (E_mv (v := .int .i64 (checkM c)) rfl (E_nil (AX_seq (AX_E (E_mv (v := .int .i64 (checkM c)) rfl (E_neqS rfl rfl (fun c8 => ?_) (fun c8 => ?_)))))))))))))))))
  · refine E_nil (AX_condT rfl (AX_seq (AX_E (E_mk (cs := [.int .i64 (0), .int .i64 (0), .slice none 0 0, .nilFunc]) rfl (E_mv (v := .int .i64 (checkM c)) rfl (E_stO (k := 1) rfl rfl (v := .agg _) rfl rfl rfl rfl (E_mv (v := .int .i64 (checkM c)) rfl (E_nil (AX_ret ?_)))))))))
    refine ⟨_, res2 (res_cellN (k := 1) rfl rfl) (res_tmp rfl), by simp, ?_⟩
    obtain ⟨X, hX⟩ := forget_any (h := H) (u := .tuple #[.agg #[.int .i64 0, .int .i64 0, .slice none 0 0, .nilFunc], .int .i64 (checkM c)]) (List.prefix_append H [CO.row [.int .i64 (c.w), .int .i64 (c.b), .slice (p).1 (c.gs).length (p).2] true none, CO.row [.int .i64 (0), .int .i64 (0), .slice none 0 0, .nilFunc] true none])
    exact ⟨X, hX, rfl⟩
  · exact (hc (by simpa using c8)).elim
def layersR (c : C) : List Int := if checkM c = 0 then layersL c.gs c.gs.length else []
theorem players_ret (H : Heap) (c : C) (p : Pl) {S : Nat → Prop} (hv : Gates S H p c.gs) (hl : c.gs.length < 4294967296) : ∃ X p', Ret (tab Try.prog) 29 [cv c p] H (.tuple #[.slice p'.1 (layersR c).length p'.2, .int .i64 (checkM c)]) (H ++ X) ∧ IntsZ H.length X p' (layersR c) := by
  have key := Ret_grow (T := tab Try.prog) (f := 29) (args := [cv c p]) (h := H) (fun u X => ∃ p' : Pl, u = .tuple #[.slice p'.1 (layersR c).length p'.2, .int .i64 (checkM c)] ∧ IntsZ H.length X p' (layersR c)) k29 rfl ?_
  · obtain ⟨u, X, hr, p', rfl, f1⟩ := key
    exact ⟨X, p', hr, f1⟩
  by_cases hc : checkM c = 0
  · have hr := CR.of hc
    have e5 : layersR c = layersL c.gs c.gs.length := if_pos hc
    refine AX_seq (AX_E (E_boxA rfl (E_mv (v := .slice _ _ _) rfl (E_mv (v := .int .i64 (0)) rfl (E_nil (AX_seq (AX_E (E_ldON (k := 0) rfl rfl ?_))))))))
    obtain ⟨XO1, hXO1⟩ := opened_ret (H ++ [CO.row [.int .i64 (c.w), .int .i64 (c.b), .slice (p).1 (c.gs).length (p).2] true none]) c p (hv.app) (by omega) hc
    refine E_callX (X := XO1) rfl (hXO1) (E_mv (v := .tuple _) rfl (E_ext (v := .agg _) rfl rfl (E_ext (v := .int .i64 (0)) rfl rfl (E_new (E_stO (k := 0) rfl rfl (v := .agg _) rfl rfl rfl rfl (E_mv (v := .int .i64 (0)) rfl (E_nil (AX_seq (AX_seq (AX_E (E_mv (v := .int .i64 (0)) rfl (E_neqS rfl rfl (fun c15 => ?_) (fun c15 => ?_)))))))))))))
    · exact (c15 rfl).elim
    · refine E_nil (AX_condF rfl (AX_skip (AX_seq (AX_E (E_new (E_nil (AX_seq (AX_E (E_fn (u := []) (v := [.pointer (some ⟨((H ++ ([CO.row [.int .i64 (c.w), .int .i64 (c.b), .slice (p).1 (c.gs).length (p).2] true none] ++ XO1))).length + 0, 0, none⟩), .pointer (some ⟨((H ++ ([CO.row [.int .i64 (c.w), .int .i64 (c.b), .slice (p).1 (c.gs).length (p).2] true none] ++ XO1))).length + 1, 0, none⟩)]) rfl rfl (E_mv (v := .func _ _ _) rfl (E_nil (AX_seq (AX_seq (AX_E (E_fa rfl (E_ldB (v := .slice _ _ _) rfl (rowGet_own (k := 0) rfl) (E_len (n := (c.gs).length) rfl (E_mv (v := .int .i64 (0)) rfl (E_nil (AX_block ?_))))))))))))))))))))
      let H1 : Heap := (H ++ ([CO.row [.int .i64 (c.w), .int .i64 (c.b), .slice (p).1 (c.gs).length (p).2] true none] ++ XO1))
      have hv1 : Gates S H1 p c.gs := hv.app
      refine AX_loopF (γ := Nat × Pl) (fun x => [(6, .pointer (some ⟨(H1).length + 1, 0, none⟩)), (7, .func (.func 80) #[] #[.pointer (some ⟨(H1).length + 0, 0, none⟩), .pointer (some ⟨(H1).length + 1, 0, none⟩)]), (20, .int .i64 ((c.gs).length)), (21, .int .i64 ((x.1 : Int)))]) (fun x h_ m_ => (∃ z_, h_ = H1 ++ ([CO.row [.int .i64 (c.w), .int .i64 (c.b), .slice (p).1 (c.gs).length (p).2, .func (.func 88) #[] #[]] true none, CO.row [.slice (x.2).1 ((layersL c.gs x.1)).length (x.2).2] true none] ++ z_) ∧ Grown 1 (H1.length + 2) z_ x.2 (layersL c.gs x.1).length ((layersL c.gs x.1).map (.int .i64 ·))) ∧ m_ = [] ∧ x.1 ≤ c.gs.length) (fun x => c.gs.length - x.1) (0, (none, 0)) ⟨rfl, rfl, rfl, rfl, trivial⟩ ⟨⟨[], app0 _ _, Grown.nil⟩, rfl, ?_⟩ ?_
      · simp
      rintro ⟨n, p1⟩ fr0 h0 m0 ⟨⟨z0, rfl, zf0⟩, rfl, inv0⟩ K0 hN0 hR0 hE0
      try dsimp only at zf0 inv0
      refine AX_nil ?_
      refine AX_seq (AX_E (E_lssS rfl rfl (fun c22 => ?_) (fun c22 => ?_)))
      · refine E_nil (AX_seq (AX_condT rfl (AX_skip (AX_seq (AX_block (AX_seq (AX_E (E_mv (v := .int .i64 ((n : Int))) rfl (E_mv (v := .int .i64 ((n : Int))) rfl (E_nil (AX_E (E_mv (v := .func _ _ _) rfl (E_mv (v := .int .i64 ((n : Int))) rfl ?_)))))))))))))
        obtain ⟨Z2, p2, r1, g1⟩ := put_ret H1 c p n z0 p1 hv1.all hr (by omega) zf0
        refine E_hp (h' := H1 ++ ([CO.row [.int .i64 (c.w), .int .i64 (c.b), .slice (p).1 (c.gs).length (p).2, .func (.func 88) #[] #[]] true none, CO.row [.slice (p1).1 ((layersL c.gs n)).length (p1).2] true none] ++ z0)) (by first | (simp only [List.append_assoc, List.append_nil, List.nil_append, List.cons_append, List.set_cons_zero, List.set_cons_succ]; done) | (simp only [List.append_assoc, List.append_nil, List.nil_append, List.cons_append, List.set_cons_zero, List.set_cons_succ]; rfl)) (E_callR rfl rfl (r1) (.inl rfl) (E_nil (AX_E (E_addI rfl rfl (by first | omega | (simp; done) | (simp; omega)) (by first | omega | (simp; done) | (simp; omega)) (E_mv (v := .int .i64 (((n : Int) + 1))) rfl (E_nil ?_))))))
        refine hN0 (n + 1, p2) _ _ _ ⟨by first | rfl | (congr 1; omega), by first | rfl | (congr 1; omega), by first | rfl | (congr 1; omega), by first | rfl | (congr 1; omega), trivial⟩ ⟨⟨Z2, rfl, g1⟩, rfl, ?_⟩ ?_
        all_goals clear hN0 hR0 hE0
        · omega
        · (first | omega | (simp; omega))
      · refine E_nil (AX_seq (AX_condF rfl (AX_exit (hE0 _ _ _ _ ?_))))
        have e0 : layersL c.gs n = layersR c := by rw [e5, show n = c.gs.length by omega]
        refine AX_hp (h' := H1 ++ ([CO.row [.int .i64 (c.w), .int .i64 (c.b), .slice (p).1 (c.gs).length (p).2, .func (.func 88) #[] #[]] true none, CO.row [.slice (p1).1 ((layersL c.gs n)).length (p1).2] true none] ++ z0)) (by first | (simp only [List.append_assoc, List.append_nil, List.nil_append, List.cons_append, List.set_cons_zero, List.set_cons_succ]; done) | (simp only [List.append_assoc, List.append_nil, List.nil_append, List.cons_append, List.set_cons_zero, List.set_cons_succ]; rfl)) ?_
        refine AX_seq (AX_E (E_ldO (k := 1) (v := .slice _ _ _) rfl rfl (E_mv (v := .slice _ _ _) rfl (E_mv (v := .int .i64 (0)) rfl (E_nil (AX_ret ?_))))))
        refine ⟨_, rfl, by simp, ?_⟩
        obtain ⟨X, h1, h2⟩ := leafI (h := H) (h' := H1 ++ ([CO.row [.int .i64 (c.w), .int .i64 (c.b), .slice (p).1 (c.gs).length (p).2, .func (.func 88) #[] #[]] true none, CO.row [.slice (p1).1 ((layersL c.gs n)).length (p1).2] true none] ++ z0)) (A := ([CO.row [.int .i64 c.w, .int .i64 c.b, .slice p.1 c.gs.length p.2] true none] ++ (XO1 ++ [CO.row [.int .i64 (c.w), .int .i64 (c.b), .slice (p).1 (c.gs).length (p).2, .func (.func 88) #[] #[]] true none, CO.row [.slice (p1).1 ((layersL c.gs n)).length (p1).2] true none]))) (Z := z0) (u := Value.tuple #[.slice p1.1 (layersL c.gs n).length p1.2, .int .i64 0]) (by simp [H1]) zf0.ints (by simp [H1]; omega) slt_flat
        exact ⟨X, h1, p1, (show _ = Value.tuple #[.slice p1.1 (layersL c.gs n).length p1.2, .int .i64 0] from rfl).trans (by rw [e0, hc]), by rw [e0] at h2; exact h2⟩
  · have e5 : layersR c = [] := if_neg hc
    refine AX_seq (AX_E (E_boxA rfl (E_mv (v := .slice _ _ _) rfl (E_mv (v := .int .i64 (0)) rfl (E_nil (AX_seq (AX_E (E_ldON (k := 0) rfl rfl ?_))))))))
    obtain ⟨XO1, hXO1⟩ := opened_bad (H ++ [CO.row [.int .i64 (c.w), .int .i64 (c.b), .slice (p).1 (c.gs).length (p).2] true none]) c p (hv.app) (by omega) hc
    refine E_callX (X := XO1) rfl (hXO1) (E_mv (v := .tuple _) rfl (E_ext (v := .agg _) rfl rfl (E_ext (v := .int .i64 ((checkM c))) rfl rfl (E_new (E_stO (k := 0) rfl rfl (v := .agg _) rfl rfl rfl rfl (E_mv (v := .int .i64 ((checkM c))) rfl (E_nil (AX_seq (AX_seq (AX_E (E_mv (v := .int .i64 ((checkM c))) rfl (E_neqS rfl rfl (fun c15 => ?_) (fun c15 => ?_)))))))))))))
    · refine E_nil (AX_condT rfl (AX_seq (AX_E (E_mv (v := .int .i64 ((checkM c))) rfl (E_mv (v := .slice _ _ _) rfl (E_mv (v := .int .i64 ((checkM c))) rfl (E_nil (AX_ret ?_))))))))
      refine ⟨_, rfl, by simp, [], forget_nil rfl ((List.prefix_append _ _).trans (List.prefix_append _ _)), (none, 0), ?_, ?_⟩
      · rw [e5]; rfl
      · rw [e5]; exact fun A hA => Ints.nil
    · exact (hc (by simpa using c15)).elim
end Go.Canon
namespace Go.Canon
open Go Go.Proofs
set_option linter.unusedVariables false
set_option linter.unusedSimpArgs false
def kf28 : KFunc := ⟨1, 27, [.tmp 2, .tmp 3], .seq (.reg [⟨some 1, .box (.t 0), none⟩, ⟨some 2, .mv (.c (.int .i64 0)), none⟩, ⟨some 3, .mv (.c (.int .i64 0)), none⟩] []) (.seq (.reg [⟨some 10, .ld (.t 1) (some 3), none⟩, ⟨some 11, .call (.c (.func (.func 29) #[] #[])) [.t 10], none⟩, ⟨some 9, .mv (.t 11), none⟩, ⟨some 12, .ext (.t 9) 0, none⟩, ⟨some 13, .ext (.t 9) 1, none⟩, ⟨some 4, .mv (.t 12), none⟩, ⟨some 5, .mv (.t 13), none⟩] []) (.seq (.reg [⟨some 6, .mv (.c (.int .i64 0)), none⟩] []) (.seq (.seq (.reg [⟨some 14, .mv (.t 4), none⟩, ⟨some 15, .len (.t 14), none⟩, ⟨some 16, .mv (.c (.int .i64 0)), none⟩] []) (.block 0 (.loop (.seq (.reg [⟨some 17, .bin .lss (.t 16) (.t 15), none⟩] []) (.seq (.cond (.t 17) .skip (.exit 0)) (.seq (.block 1 (.seq (.reg [⟨some 18, .iaS (.t 14) (.t 16) 1, none⟩, ⟨some 19, .ld (.t 18) none, none⟩, ⟨some 8, .mv (.t 19), none⟩] []) (.reg [⟨some 20, .mv (.t 6), none⟩, ⟨some 21, .mv (.t 8), none⟩, ⟨some 22, .bin .add (.t 21) (.c (.int .i64 1)), none⟩, ⟨some 23, .mx [.t 20, .t 22], none⟩, ⟨some 6, .mv (.t 23), none⟩] []))) (.reg [⟨some 24, .bin .add (.t 16) (.c (.int .i64 1)), none⟩, ⟨some 16, .mv (.t 24), none⟩] []))))))) (.seq (.reg [⟨some 25, .mv (.t 6), none⟩, ⟨some 26, .mv (.t 5), none⟩, ⟨some 2, .mv (.t 25), none⟩, ⟨some 3, .mv (.t 26), none⟩] []) .ret))))⟩
theorem k28 : tab Try.prog 28 = some kf28 := by kernel_rfl
theorem depthL_mx {l : List Int} {j : Nat} (hj : j < l.length) : (if l[j] + 1 > depthL (l.take j) then l[j] + 1 else depthL (l.take j)) = depthL (l.take (j + 1)) := by
  rw [depthL_next hj]
  split <;> split <;> omega
theorem layersR_le (c : C) : ∀ x ∈ layersR c, 0 ≤ x ∧ x < (c.gs.length : Int) := by
  intro x hx
  unfold layersR at hx
  split at hx
  · exact layersL_le _ _ x hx
  · simp at hx
def depthR (c : C) : Int := if checkM c = 0 then depthM c else 0
theorem depthR_eq (c : C) : depthL (layersR c) = depthR c := by
  unfold layersR depthR depthM; split <;> rfl
theorem pdepth_ret (H : Heap) (c : C) (p : Pl) {S : Nat → Prop} (hv : Gates S H p c.gs) (hl : c.gs.length < 4294967296) : Ret (tab Try.prog) 28 [cv c p] H (.tuple #[.int .i64 (depthR c), .int .i64 (checkM c)]) H := by
  have hlb := layersR_le c
  have hll : (layersR c).length ≤ c.gs.length := by
    unfold layersR; split
    · rw [layersL_len]; omega
    · simp
  refine Ret_own k28 rfl ?_
  refine AX_seq (AX_E (E_boxA rfl (E_mv (v := .int .i64 (0)) rfl (E_mv (v := .int .i64 (0)) rfl (E_nil (AX_seq (AX_E (E_ldON (k := 0) rfl rfl ?_))))))))
  obtain ⟨X1, q1, hr1, f1⟩ := players_ret (H ++ [CO.row [.int .i64 (c.w), .int .i64 (c.b), .slice (p).1 (c.gs).length (p).2] true none]) c _ hv.app (by omega)
  refine E_callX (X := X1) rfl (hr1) (E_mv (v := .tuple _) rfl (E_ext (v := .slice _ _ _) rfl rfl (E_ext (v := .int .i64 ((checkM c))) rfl rfl (E_mv (v := .slice _ _ _) rfl (E_mv (v := .int .i64 ((checkM c))) rfl (E_nil (AX_seq (AX_E (E_mv (v := .int .i64 (0)) rfl (E_nil (AX_seq (AX_seq (AX_E (E_mv (v := .slice _ _ _) rfl (E_len (n := ((layersR c)).length) rfl (E_mv (v := .int .i64 (0)) rfl (E_nil (AX_block ?_))))))))))))))))))
  refine AX_loopF (γ := Nat) (fun j => [(5, .int .i64 ((checkM c))), (6, .int .i64 (depthL ((layersR c).take j))), (14, .slice (q1).1 ((layersR c)).length (q1).2), (15, .int .i64 (((layersR c)).length)), (16, .int .i64 ((j : Int)))]) (fun j h_ m_ => h_ = (H ++ ([CO.row [.int .i64 (c.w), .int .i64 (c.b), .slice (p).1 (c.gs).length (p).2] true none] ++ X1)) ++ [] ∧ m_ = [] ∧ j ≤ (layersR c).length) (fun j => (layersR c).length - j) (0) ⟨rfl, rfl, rfl, rfl, rfl, trivial⟩ ⟨rfl, rfl, ?_⟩ ?_
  · simp
  rintro j fr0 h0 m0 ⟨rfl, rfl, inv0⟩ K0 hN0 hR0 hE0
  refine AX_seq (AX_E (E_lssS rfl rfl (fun c17 => ?_) (fun c17 => ?_)))
  · refine E_nil (AX_seq (AX_condT rfl (AX_skip (AX_seq (AX_block (AX_seq (AX_E (have ix2 : j < ((layersR c)).length := (by first | omega | (simp; done) | (simp; omega)); E_iaIb (j := j) rfl (f1.at rfl) rfl rfl rfl ix2 fun b2 o2 w2 => (E_ldB (v := .int .i64 ((layersR c)[j]'ix2)) rfl w2 (E_mv (v := .int .i64 ((layersR c)[j]'ix2)) rfl (E_nil (AX_E (E_mv (v := .int .i64 (depthL ((layersR c).take j))) rfl (E_mv (v := .int .i64 ((layersR c)[j]'ix2)) rfl (E_addI rfl rfl (by have := hlb _ (List.getElem_mem (show j < (layersR c).length by omega)); omega) (by have := hlb _ (List.getElem_mem (show j < (layersR c).length by omega)); omega) (E_mx2 rfl rfl (E_mv (v := .int .i64 ((if ((layersR c)[j]'ix2 + 1) > depthL ((layersR c).take j) then ((layersR c)[j]'ix2 + 1) else depthL ((layersR c).take j)))) rfl (E_nil (AX_E (E_addI rfl rfl (by first | omega | (simp; done) | (simp; omega)) (by first | omega | (simp; done) | (simp; omega)) (E_mv (v := .int .i64 (((j : Int) + 1))) rfl (E_nil ?_))))))))))))))))))))))
    refine hN0 (j + 1) _ _ _ ⟨by first | rfl | (congr 1; omega), by exact congrArg (Value.int _) (depthL_mx (by omega)), by first | rfl | (congr 1; omega), by first | rfl | (congr 1; omega), by first | rfl | (congr 1; omega), trivial⟩ ⟨rfl, rfl, ?_⟩ ?_
    -- n1
    all_goals clear hN0 hR0 hE0
    · omega
    · (first | omega | (simp; omega))
  · refine E_nil (AX_seq (AX_condF rfl (AX_exit (hE0 _ _ _ _ ?_))))
    have e0 : depthL ((layersR c).take j) = depthR c := by rw [List.take_of_length_le (by omega), depthR_eq]
    refine AX_seq (AX_E (E_mv (v := .int .i64 (depthL ((layersR c).take j))) rfl (E_mv (v := .int .i64 ((checkM c))) rfl (E_mv (v := .int .i64 (depthL ((layersR c).take j))) rfl (E_mv (v := .int .i64 ((checkM c))) rfl (E_nil (AX_ret ?_)))))))
    refine ⟨_, rfl, by simp, ?_, forget_flat rfl ((List.prefix_append _ _).trans (List.prefix_append _ _))⟩
    -- r2
    clear hN0 hR0 hE0
    show Value.tuple #[.int .i64 (depthL ((layersR c).take j)), .int .i64 ((checkM c))] = _
    rw [e0]
end Go.Canon
namespace Go.Canon
open Go Go.Proofs
set_option linter.unusedVariables false
set_option linter.unusedSimpArgs false
def kf17 : KFunc := ⟨1, 76, [.cell 2 (some 3), .tmp 3], .seq (.reg [⟨some 1, .box (.t 0), none⟩, ⟨some 2, .new [.int .i64 0, .int .i64 0, .slice none 0 0], none⟩, ⟨some 3, .mv (.c (.int .i64 0)), none⟩] []) (.seq (.reg [⟨some 11, .ld (.t 1) (some 3), none⟩, ⟨some 12, .call (.c (.func (.func 66) #[] #[])) [.t 11], none⟩, ⟨some 10, .mv (.t 12), none⟩, ⟨some 13, .ext (.t 10) 0, none⟩, ⟨some 14, .ext (.t 10) 1, none⟩, ⟨some 4, .new [.int .i64 0, .int .i64 0, .slice none 0 0, .nilFunc], none⟩, ⟨none, .st (.t 4) (.t 13) 4, none⟩, ⟨some 5, .mv (.t 14), none⟩] []) (.seq (.seq (.reg [⟨some 15, .mv (.t 5), none⟩, ⟨some 16, .bin .neq (.t 15) (.c (.int .i64 0)), none⟩] []) (.cond (.t 16) (.seq (.reg [⟨some 17, .mk [.int .i64 0, .int .i64 0, .slice none 0 0] [], none⟩, ⟨some 18, .mv (.t 5), none⟩, ⟨none, .st (.t 2) (.t 17) 3, none⟩, ⟨some 3, .mv (.t 18), none⟩] []) .ret) .skip)) (.seq (.reg [⟨some 19, .fa (.t 4) 3, none⟩, ⟨none, .st (.t 19) (.c (.func (.func 67) #[] #[])) 1, none⟩] []) (.seq (.reg [⟨some 20, .fa (.t 1) 2, none⟩, ⟨some 21, .ld (.t 20) none, none⟩, ⟨some 22, .mkS [.slice none 0 0] 1 [(0, 1, .t 21)], none⟩, ⟨some 23, .call (.c (.func (.func 68) #[] #[])) [.t 22], none⟩, ⟨some 6, .mv (.t 23), none⟩] []) (.seq (.reg [⟨some 24, .fa (.t 1) 0, none⟩, ⟨some 25, .ld (.t 24) none, none⟩, ⟨some 26, .fa (.t 1) 1, none⟩, ⟨some 27, .ld (.t 26) none, none⟩, ⟨some 28, .mk [.int .i64 0, .int .i64 0, .slice none 0 0] [(0, 1, .t 25), (1, 1, .t 27)], none⟩, ⟨some 7, .new [.int .i64 0, .int .i64 0, .slice none 0 0], none⟩, ⟨none, .st (.t 7) (.t 28) 3, none⟩] []) (.seq (.block 0 (.loop (.seq (.seq (.reg [⟨some 29, .mv (.t 6), none⟩, ⟨some 30, .len (.t 29), none⟩, ⟨some 31, .bin .gtr (.t 30) (.c (.int .i64 0)), none⟩] []) (.cond (.t 31) .skip (.exit 0))) (.block 1 (.seq .skip (.seq (.reg [⟨some 32, .mv (.t 6), none⟩, ⟨some 33, .fa (.t 4) 0, none⟩, ⟨some 34, .fa (.t 33) 2, none⟩, ⟨none, .st (.t 34) (.t 32) 1, none⟩] []) (.seq (.reg [⟨some 8, .mv (.c (.int .i64 (-1))), none⟩] []) (.seq .skip (.seq (.seq (.reg [⟨some 35, .mv (.t 6), none⟩, ⟨some 36, .len (.t 35), none⟩, ⟨some 37, .mv (.c (.int .i64 0)), none⟩] []) (.block 2 (.loop (.seq (.reg [⟨some 38, .bin .lss (.t 37) (.t 36), none⟩] []) (.seq (.cond (.t 38) .skip (.exit 2)) (.seq (.block 3 (.seq (.reg [⟨some 39, .mv (.t 37), none⟩, ⟨some 9, .mv (.t 39), none⟩] []) (.seq (.seq (.reg [⟨some 40, .ld (.t 4) (some 4), none⟩, ⟨some 41, .mv (.t 9), none⟩, ⟨some 42, .call (.c (.func (.func 69) #[] #[])) [.t 40, .t 41], none⟩] []) (.block 4 (.rf (.t 42) [43] .skip (.block 5 (.exit 3))))) (.seq (.reg [⟨some 44, .mv (.t 8), none⟩, ⟨some 45, .bin .lss (.t 44) (.c (.int .i64 0)), none⟩, ⟨some 46, .mv (.t 45), none⟩, ⟨some 47, .mv (.t 6), some (46, false)⟩, ⟨some 48, .mv (.t 9), some (46, false)⟩, ⟨some 49, .iaS (.t 47) (.t 48) 4, some (46, false)⟩, ⟨some 50, .ld (.t 49) (some 4), some (46, false)⟩, ⟨some 51, .mv (.t 6), some (46, false)⟩, ⟨some 52, .mv (.t 8), some (46, false)⟩, ⟨some 53, .iaS (.t 51) (.t 52) 4, some (46, false)⟩, ⟨some 54, .ld (.t 53) (some 4), some (46, false)⟩, ⟨some 55, .call (.c (.func (.func 70) #[] #[])) [.t 50, .t 54], some (46, false)⟩, ⟨some 56, .bin .lss (.t 55) (.c (.int .i64 0)), some (46, false)⟩, ⟨some 57, .pick (.t 46) (.c (.bool true)) (.t 56), none⟩] []) (.cond (.t 57) (.reg [⟨some 58, .mv (.t 9), none⟩, ⟨some 8, .mv (.t 58), none⟩] []) .skip))))) (.reg [⟨some 59, .bin .add (.t 37) (.c (.int .i64 1)), none⟩, ⟨some 37, .mv (.t 59), none⟩] []))))))) (.seq (.reg [⟨some 60, .fa (.t 7) 2, none⟩, ⟨some 61, .ld (.t 60) none, none⟩, ⟨some 62, .mv (.t 6), none⟩, ⟨some 63, .mv (.t 8), none⟩, ⟨some 64, .iaS (.t 62) (.t 63) 4, none⟩, ⟨some 65, .ld (.t 64) (some 4), none⟩, ⟨some 66, .mkS [.int .i64 0, .slice none 0 0, .int .i64 0, .int .i64 0] 1 [(0, 4, .t 65)], none⟩, ⟨some 67, .app (.t 61) (.t 66) 4 48, none⟩, ⟨some 68, .fa (.t 7) 2, none⟩, ⟨none, .st (.t 68) (.t 67) 1, none⟩] []) (.reg [⟨some 69, .mv (.t 6), none⟩, ⟨some 70, .call (.c (.func (.func 72) #[] #[])) [.t 69], none⟩, ⟨some 71, .mv (.t 8), none⟩, ⟨some 72, .mv (.t 8), none⟩, ⟨some 73, .bin .add (.t 72) (.c (.int .i64 1)), none⟩, ⟨some 74, .call (.c (.func (.func 71) #[] #[])) [.t 70, .t 71, .t 73], none⟩, ⟨some 6, .mv (.t 74), none⟩] []))))))))))) (.seq (.reg [⟨some 75, .ld (.t 7) (some 3), none⟩, ⟨none, .st (.t 2) (.t 75) 3, none⟩, ⟨some 3, .mv (.c (.int .i64 0)), none⟩] []) .ret)))))))⟩
theorem k17 : tab Try.prog 17 = some kf17 := by kernel_rfl
def dd (p q : Pl) : Prop := dis p q ∧ dis q p
theorem dd_symm {p q : Pl} (H : dd p q) : dd q p := ⟨H.2, H.1⟩
def wB (nX nO : Nat) : Nat → Prop := fun b => nX ≤ b ∧ b < nO
abbrev wrow (c : C) (v : Value) : CO := .row [.int .i64 c.w, .int .i64 c.b, v, .func (.func 67) #[] #[]] true none
abbrev crow (c : C) (p : Pl) (n : Nat) : CO := .row [.int .i64 c.w, .int .i64 c.b, .slice p.1 n p.2] true none
/-- Wires of a list's gates, in what does not change. -/
def Wires (S : Nat → Prop) (K : Heap) (gs : List G) (ps : List Pl) : Prop := ∀ i (h1 : i < gs.length) (h2 : i < ps.length), Ints S K ps[i] gs[i].ws
theorem Wires.snoc {K : Heap} {S : Nat → Prop} {gs : List G} {ps : List Pl} {g : G} {p : Pl} (W : Wires S K gs ps) (e : ps.length = gs.length) (h : Ints S K p g.ws) : Wires S K (gs ++ [g]) (ps ++ [p]) := by
  intro i h1 h2
  by_cases hi : i < gs.length
  · rw [List.getElem_append_left hi, List.getElem_append_left (by omega)]
    exact W i hi (by omega)
  · have : i = gs.length := by simp at h1; omega
    subst this
    rw [List.getElem_append_right (by omega), List.getElem_append_right (by omega)]
    simp only [e, Nat.sub_self, List.getElem_cons_zero]
    exact h
theorem Wires.erase {K : Heap} {S : Nat → Prop} {gs : List G} {ps : List Pl} {b : Nat} (W : Wires S K gs ps) (e : ps.length = gs.length) (hb : b < gs.length) : Wires S K (gs.eraseIdx b) (ps.eraseIdx b) := by
  intro i h1 h2
  rw [List.getElem_eraseIdx, List.getElem_eraseIdx]
  rw [List.length_eraseIdx_of_lt hb] at h1
  split
  · exact W i (by omega) (by omega)
  · exact W (i + 1) (by omega) (by omega)
theorem erase_perm {α : Type} (po pl : List α) (b : Nat) (hb : b < pl.length) : (po ++ pl).Perm ((po ++ [pl[b]]) ++ pl.eraseIdx b) := by
  rw [List.append_assoc]
  refine List.Perm.append_left _ ?_
  rw [List.singleton_append]
  induction pl generalizing b with
  | nil => simp at hb
  | cons x pl ih =>
    cases b with
    | zero => exact List.Perm.refl _
    | succ b =>
      simp only [List.getElem_cons_succ, List.eraseIdx_cons_succ]
      exact ((ih b (by simpa using hb)).cons x).trans (List.Perm.swap _ _ _)
structure TI (K0 : Heap) (c : C) (nW nX nO : Nat) (K : Heap) (m : List Nat) (lf : List G) (p1 : Pl) (ot : List G) (p2 : Pl) : Prop where
  hle : nO < K.length
  keep : ∀ b, b < nO → b ≠ nW → K[b]? = K0[b]?
  work : ∃ v, K[nW]? = some (wrow c v)
  out : K[nO]? = some (crow c p2 ot.length)
  mks : Mk (nO + 1) K m
  lists : ∃ pl po, pl.length = lf.length ∧ po.length = ot.length ∧ Cells (fun b => nX ≤ b ∧ b ≠ nO ∧ offP p2 b) K 4 p1 lf.length (flat lf pl) ∧ Grown 4 0 K p2 ot.length (flat ot po) ∧ (∀ a, p2.1 = some a → nO < a.block) ∧
    Wires (wB nX nO) K0 lf pl ∧ Wires (wB nX nO) K0 ot po ∧ (po ++ pl).Pairwise dd
theorem TI.step {K0 K K2 K3 K4 K5 K7 X z : Heap} {c : C} {nW nX nO b : Nat} {m m' : List Nat} {lf ot : List G} {p1 p2 : Pl} {pl po : List Pl} {cs' : List Value} {gr : Option Nat} (hWX : nW < nX) (hXO : nX ≤ nO)
    (I1 : nO < K.length) (I2 : ∀ b, b < nO → b ≠ nW → K[b]? = K0[b]?) (a1 : pl.length = lf.length) (a2 : po.length = ot.length) (a6 : Wires (wB nX nO) K0 lf pl) (a7 : Wires (wB nX nO) K0 ot po) (a8 : (po ++ pl).Pairwise dd) (a5 : ∀ a, p2.1 = some a → nO < a.block)
    (hb : b < lf.length) {v : Value} (h2 : K2 = K.set nW (wrow c v)) (h3 : K3 = K2 ++ z) (hm : Mk (nO + 1) K3 m') (g3 : Grown 4 0 K3 p2 ot.length (flat ot po))
    (l4 : K4.length = K3.length + 1) (g4 : Grown 4 0 K4 (some ⟨K3.length, 0, none⟩, ot.length + 1) (ot.length + 1) (flat ot po ++ gcells lf[b] (pl[b]'(by omega)))) (k4 : ∀ i, i < K3.length → offP p2 i → K4[i]? = K3[i]?)
    (h5 : K5 = K4.set nO (crow c (some ⟨K3.length, 0, none⟩, ot.length + 1) (ot.length + 1))) (h7 : K7 = (K5 ++ X).set (K5.length + 1) (.row cs' true gr)) (hX : 2 ≤ X.length) (hg : gr = none ∨ gr = some 4) (hcl : cs'.length = lf.length * 4) (hct : cs'.take ((lf.length - 1) * 4) = flat (lf.eraseIdx b) (pl.eraseIdx b)) :
    TI K0 c nW nX nO K7 m' (lf.eraseIdx b) (some ⟨K5.length + 1, 0, none⟩, lf.length) (ot ++ [lf[b]]) (some ⟨K3.length, 0, none⟩, ot.length + 1) := by
  have l2 : K2.length = K.length := by rw [h2]; simp
  have l3 : K3.length = K.length + z.length := by rw [h3]; simp [l2]
  have l5 : K5.length = K4.length := by rw [h5]; simp
  have l7 : K7.length = K5.length + X.length := by rw [h7]; simp
  have e2 : ∀ x, x ≠ nW → K2[x]? = K[x]? := fun x hx => by rw [h2, List.getElem?_set_ne (Ne.symm hx)]
  have e7 : ∀ x, x < K4.length → x ≠ nO → K7[x]? = K4[x]? := fun x hx hn => by
    rw [h7, List.getElem?_set_ne (by omega), pre_get (by omega), h5, List.getElem?_set_ne (Ne.symm hn)]
  have e3 : ∀ x, x < K.length → x ≠ nW → K3[x]? = K[x]? := fun x hx hn => by rw [h3, pre_get (by omega), e2 x hn]
  have eW : K3[nW]? = some (wrow c v) := by rw [h3, pre_get (by omega), h2, List.getElem?_set_self (by omega)]
  have off2 : ∀ x, x ≤ nO → offP p2 x := fun x hx a ha => by have := a5 a ha; omega
  have el : (lf.eraseIdx b).length = lf.length - 1 := List.length_eraseIdx_of_lt hb
  refine ⟨by omega, ?_, ⟨v, ?_⟩, ?_, ?_, pl.eraseIdx b, po ++ [pl[b]'(by omega)], ?_, ?_, ?_, ?_, ?_, ?_, ?_, ?_⟩
  · intro x hx hn
    rw [e7 x (by omega) (by omega), k4 x (by omega) (off2 x (by omega)), e3 x (by omega) hn, I2 x hx hn]
  · rw [e7 nW (by omega) (by omega), k4 nW (by omega) (off2 nW (by omega)), eW]
  · rw [h7, List.getElem?_set_ne (by omega), pre_get (by omega), h5, List.getElem?_set_self (by omega), List.length_append]
    rfl
  · intro x hx
    obtain ⟨x1, x2⟩ := hm x hx
    have xl := (List.getElem?_eq_some_iff.1 x2).1
    refine ⟨x1, ?_⟩
    rw [e7 x (by omega) (by omega)]
    by_cases ho : offP p2 x
    · rw [k4 x xl ho, x2]
    · refine (ho fun a ha e => ?_).elim
      obtain ⟨_, ⟨g, _⟩ | ⟨j, gr2, g, gj, _⟩⟩ := g3
      · rw [g] at ha; cases ha
      · rw [g] at ha
        injection ha with ha
        subst ha
        simp only [Nat.zero_add] at e
        subst e
        rw [gj] at x2; cases x2
  · rw [el, List.length_eraseIdx_of_lt (by omega), a1]
  · simp [a2]
  · refine ⟨?_, by simp only; omega, .inr ⟨K5.length + 1, 0, cs', true, gr, rfl, ⟨by omega, by omega, fun a ha => ?_⟩, ?_, hg, .inr ⟨by omega, ?_⟩⟩⟩
    · rw [flat_len _ _ (by rw [el, List.length_eraseIdx_of_lt (by omega), a1])]
    · simp only [Option.some.injEq] at ha; subst ha; simp only; omega
    · rw [h7, List.getElem?_set_self (by simp; omega)]
    · rw [List.drop_zero, el]; exact hct
  · rw [List.length_append, flat_append _ _ _ _ a2]
    have := g4.same (h' := K7) (fun a ha => by simp only [Option.some.injEq] at ha; subst ha; exact e7 _ (by simp only; omega) (by simp only; omega))
    simpa [flat] using this
  · intro a ha
    simp only [Option.some.injEq] at ha; subst ha; simp only; omega
  · exact a6.erase a1 hb
  · exact a7.snoc a2 (a6 b hb (by omega))
  · exact (erase_perm po pl b (by omega)).pairwise_iff (fun h => dd_symm h) |>.1 a8
theorem Grown.blk {sz k : Nat} {h : Heap} {p : Pl} {cells : List Value} {a : Addr} (H : Grown sz 0 h p k cells) (ha : p.1 = some a) : a.block < h.length := by
  obtain ⟨_, ⟨b, c⟩ | ⟨j, gr, e, c, d⟩⟩ := H
  · rw [b] at ha; cases ha
  · rw [e] at ha
    injection ha with ha
    subst ha
    have := (List.getElem?_eq_some_iff.1 c).1
    simp only; omega
theorem pw_dd {ps : List Pl} (H : ∀ i j (h1 : i < ps.length) (h2 : j < ps.length), i ≠ j → dis ps[i] ps[j]) : ps.Pairwise dd := by
  rw [List.pairwise_iff_getElem]
  intro i j h1 h2 hij
  exact ⟨H i j h1 h2 (by omega), H j i h2 h1 (by omega)⟩
theorem ptidy_good (H : Heap) (c : C) (p : Pl) {S : Nat → Prop} (hv : Gates S H p c.gs) (hl : c.gs.length < 4294967296) (hc : checkM c = 0) : ∃ X p', Ret (tab Try.prog) 17 [cv c p] H (.tuple #[cv (tidyM c) p', .int .i64 0]) (H ++ X) ∧ GatesZ H.length X p' (tidyM c).gs := by
  have key := Ret_grow (T := tab Try.prog) (f := 17) (args := [cv c p]) (h := H) (fun u X => ∃ p' : Pl, u = .tuple #[cv (tidyM c) p', .int .i64 0] ∧ GatesZ H.length X p' (tidyM c).gs) k17 rfl ?_
  · obtain ⟨u, X, hr, p', rfl, f1⟩ := key
    exact ⟨X, p', hr, f1⟩
  have hr := CR.of hc
  have hn := hr.n0
  refine AX_seq (AX_E (E_boxA rfl (E_new (E_mv (v := .int .i64 (0)) rfl (E_nil (AX_seq (AX_E (E_ldON (k := 0) rfl rfl ?_))))))))
  obtain ⟨XO1, hXO1⟩ := opened_ret (H ++ [CO.row [.int .i64 (c.w), .int .i64 (c.b), .slice (p).1 (c.gs).length (p).2] true none, CO.row [.int .i64 (0), .int .i64 (0), .slice none 0 0] true none]) c p (hv.app) (by omega) hc
  refine E_callX (X := XO1) rfl (hXO1) (E_mv (v := .tuple _) rfl (E_ext (v := .agg _) rfl rfl (E_ext (v := .int .i64 (0)) rfl rfl (E_new (E_stO (k := 0) rfl rfl (v := .agg _) rfl rfl rfl rfl (E_mv (v := .int .i64 (0)) rfl (E_nil (AX_seq (AX_seq (AX_E (E_mv (v := .int .i64 (0)) rfl (E_neqS rfl rfl (fun c16 => ?_) (fun c16 => ?_)))))))))))))
  · exact (c16 rfl).elim
  · refine E_nil (AX_condF rfl (AX_skip (AX_seq (AX_E (E_fa rfl (E_stO (k := 0) rfl rfl (v := .func _ _ _) rfl rfl rfl rfl (E_nil (AX_seq (AX_E (E_fa rfl (E_ldB (v := .slice _ _ _) rfl (rowGet_own (k := 0) rfl) (E_mkS (cs := [.slice (p).1 (c.gs).length (p).2]) rfl ?_))))))))))))
    obtain ⟨X2, x2, hr2, f2⟩ := behind1_ret ((H ++ ([CO.row [.int .i64 (c.w), .int .i64 (c.b), .slice (p).1 (c.gs).length (p).2] true none, CO.row [.int .i64 (0), .int .i64 (0), .slice none 0 0] true none] ++ XO1))) ([CO.row [.int .i64 (c.w), .int .i64 (c.b), .slice (p).1 (c.gs).length (p).2, .func (.func 67) #[] #[]] true none, CO.row [.slice (p).1 (c.gs).length (p).2] true none]) 1 (p) (c.gs) rfl hv.app.app (by omega) (fun g hg => by have := (hr.gr hg).len; omega)
    refine E_callX (X := X2) rfl (hr2) (E_mv (v := .slice _ _ _) rfl (E_nil (AX_seq (AX_E (E_fa rfl (E_ldB (v := .int .i64 (c.w)) rfl (rowGet_base (rowGet_own (k := 0) rfl)) (E_fa rfl (E_ldB (v := .int .i64 (c.b)) rfl (rowGet_base (rowGet_own (k := 0) rfl)) (E_mk (cs := [.int .i64 (c.w), .int .i64 (c.b), .slice none 0 0]) rfl (E_new (E_stO (k := 0) rfl rfl (v := .agg _) rfl rfl rfl rfl (E_nil (AX_seq (AX_block ?_))))))))))))))
    let nW : Nat := (H ++ ([CO.row [.int .i64 (c.w), .int .i64 (c.b), .slice (p).1 (c.gs).length (p).2] true none, CO.row [.int .i64 (0), .int .i64 (0), .slice none 0 0] true none] ++ XO1)).length
    let nX : Nat := ((H ++ ([CO.row [.int .i64 (c.w), .int .i64 (c.b), .slice (p).1 (c.gs).length (p).2] true none, CO.row [.int .i64 (0), .int .i64 (0), .slice none 0 0] true none] ++ XO1)) ++ [CO.row [.int .i64 (c.w), .int .i64 (c.b), .slice (p).1 (c.gs).length (p).2, .func (.func 67) #[] #[]] true none, CO.row [.slice (p).1 (c.gs).length (p).2] true none]).length
    let nO : Nat := ((H ++ ([CO.row [.int .i64 (c.w), .int .i64 (c.b), .slice (p).1 (c.gs).length (p).2] true none, CO.row [.int .i64 (0), .int .i64 (0), .slice none 0 0] true none] ++ XO1)) ++ ([CO.row [.int .i64 (c.w), .int .i64 (c.b), .slice (p).1 (c.gs).length (p).2, .func (.func 67) #[] #[]] true none, CO.row [.slice (p).1 (c.gs).length (p).2] true none] ++ X2)).length
    let KB : Heap := ((H ++ ([CO.row [.int .i64 (c.w), .int .i64 (c.b), .slice (p).1 (c.gs).length (p).2] true none, CO.row [.int .i64 (0), .int .i64 (0), .slice none 0 0] true none] ++ XO1)) ++ ([CO.row [.int .i64 (c.w), .int .i64 (c.b), .slice (p).1 (c.gs).length (p).2, .func (.func 67) #[] #[]] true none, CO.row [.slice (p).1 (c.gs).length (p).2] true none] ++ X2)) ++ [CO.row [.int .i64 (c.w), .int .i64 (c.b), .slice none 0 0] true none]
    obtain ⟨pz, hz1, hz2, hz3, hz4⟩ := f2.opn
    have hHW : nW = H.length + 2 + XO1.length := by first | (simp [nW]; done) | (simp [nW]; omega)
    have hWX : nX = nW + 2 := by first | (simp [nX, nW]; done) | (simp [nX, nW]; omega)
    have hXO : nO = nX + X2.length := by simp [nO, nX, nW]; omega
    have hKl : KB.length = nO + 1 := by simp [KB, nO]; omega
    have kW : KB[nW]? = some (wrow c (.slice p.1 c.gs.length p.2)) := by show (((H ++ ([CO.row [.int .i64 (c.w), .int .i64 (c.b), .slice (p).1 (c.gs).length (p).2] true none, CO.row [.int .i64 (0), .int .i64 (0), .slice none 0 0] true none] ++ XO1)) ++ ([CO.row [.int .i64 (c.w), .int .i64 (c.b), .slice (p).1 (c.gs).length (p).2, .func (.func 67) #[] #[]] true none, CO.row [.slice (p).1 (c.gs).length (p).2] true none] ++ X2)) ++ [CO.row [.int .i64 (c.w), .int .i64 (c.b), .slice none 0 0] true none])[(H ++ ([CO.row [.int .i64 (c.w), .int .i64 (c.b), .slice (p).1 (c.gs).length (p).2] true none, CO.row [.int .i64 (0), .int .i64 (0), .slice none 0 0] true none] ++ XO1)).length + 0]? = _; rw [List.append_assoc (H ++ ([CO.row [.int .i64 (c.w), .int .i64 (c.b), .slice (p).1 (c.gs).length (p).2] true none, CO.row [.int .i64 (0), .int .i64 (0), .slice none 0 0] true none] ++ XO1)), own_get]; rfl
    have kO : KB[nO]? = some (crow c (none, 0) 0) := by show (((H ++ ([CO.row [.int .i64 (c.w), .int .i64 (c.b), .slice (p).1 (c.gs).length (p).2] true none, CO.row [.int .i64 (0), .int .i64 (0), .slice none 0 0] true none] ++ XO1)) ++ ([CO.row [.int .i64 (c.w), .int .i64 (c.b), .slice (p).1 (c.gs).length (p).2, .func (.func 67) #[] #[]] true none, CO.row [.slice (p).1 (c.gs).length (p).2] true none] ++ X2)) ++ [CO.row [.int .i64 (c.w), .int .i64 (c.b), .slice none 0 0] true none])[((H ++ ([CO.row [.int .i64 (c.w), .int .i64 (c.b), .slice (p).1 (c.gs).length (p).2] true none, CO.row [.int .i64 (0), .int .i64 (0), .slice none 0 0] true none] ++ XO1)) ++ ([CO.row [.int .i64 (c.w), .int .i64 (c.b), .slice (p).1 (c.gs).length (p).2, .func (.func 67) #[] #[]] true none, CO.row [.slice (p).1 (c.gs).length (p).2] true none] ++ X2)).length + 0]? = _; rw [own_get]; rfl
    have kR : KB[H.length + 1]? = some (CO.row [.int .i64 0, .int .i64 0, .slice none 0 0] true none) := by show (((H ++ ([CO.row [.int .i64 (c.w), .int .i64 (c.b), .slice (p).1 (c.gs).length (p).2] true none, CO.row [.int .i64 (0), .int .i64 (0), .slice none 0 0] true none] ++ XO1)) ++ ([CO.row [.int .i64 (c.w), .int .i64 (c.b), .slice (p).1 (c.gs).length (p).2, .func (.func 67) #[] #[]] true none, CO.row [.slice (p).1 (c.gs).length (p).2] true none] ++ X2)) ++ [CO.row [.int .i64 (c.w), .int .i64 (c.b), .slice none 0 0] true none])[H.length + 1]? = _; rw [pre_get (by first | (simp; done) | (simp; omega)), pre_get (by first | (simp; done) | (simp; omega)), own_get]; rfl
    have kH : ∀ b, b < H.length → KB[b]? = H[b]? := fun b hb => by show (((H ++ ([CO.row [.int .i64 (c.w), .int .i64 (c.b), .slice (p).1 (c.gs).length (p).2] true none, CO.row [.int .i64 (0), .int .i64 (0), .slice none 0 0] true none] ++ XO1)) ++ ([CO.row [.int .i64 (c.w), .int .i64 (c.b), .slice (p).1 (c.gs).length (p).2, .func (.func 67) #[] #[]] true none, CO.row [.slice (p).1 (c.gs).length (p).2] true none] ++ X2)) ++ [CO.row [.int .i64 (c.w), .int .i64 (c.b), .slice none 0 0] true none])[b]? = _; rw [pre_get (by simp; omega), pre_get (by simp; omega), pre_get hb]
    have kC : Cells (segB nX X2.length) KB 4 x2 c.gs.length (flat c.gs pz) := by have := (hz2 ((H ++ ([CO.row [.int .i64 (c.w), .int .i64 (c.b), .slice (p).1 (c.gs).length (p).2] true none, CO.row [.int .i64 (0), .int .i64 (0), .slice none 0 0] true none] ++ XO1)) ++ [CO.row [.int .i64 (c.w), .int .i64 (c.b), .slice (p).1 (c.gs).length (p).2, .func (.func 67) #[] #[]] true none, CO.row [.slice (p).1 (c.gs).length (p).2] true none]) rfl).app (L := [CO.row [.int .i64 (c.w), .int .i64 (c.b), .slice none 0 0] true none]); rw [List.append_assoc (H ++ ([CO.row [.int .i64 (c.w), .int .i64 (c.b), .slice (p).1 (c.gs).length (p).2] true none, CO.row [.int .i64 (0), .int .i64 (0), .slice none 0 0] true none] ++ XO1))] at this; exact this
    have kI : Wires (wB nX nO) KB c.gs pz := fun i h1 h2 => by have := (hz3 i h1 h2 ((H ++ ([CO.row [.int .i64 (c.w), .int .i64 (c.b), .slice (p).1 (c.gs).length (p).2] true none, CO.row [.int .i64 (0), .int .i64 (0), .slice none 0 0] true none] ++ XO1)) ++ [CO.row [.int .i64 (c.w), .int .i64 (c.b), .slice (p).1 (c.gs).length (p).2, .func (.func 67) #[] #[]] true none, CO.row [.slice (p).1 (c.gs).length (p).2] true none]) rfl).app (L := [CO.row [.int .i64 (c.w), .int .i64 (c.b), .slice none 0 0] true none]); rw [List.append_assoc (H ++ ([CO.row [.int .i64 (c.w), .int .i64 (c.b), .slice (p).1 (c.gs).length (p).2] true none, CO.row [.int .i64 (0), .int .i64 (0), .slice none 0 0] true none] ++ XO1))] at this; exact this.congr (fun b hb => ⟨hb.1.1, by have := hb.1.2; omega⟩) fun _ _ _ => rfl
    refine AX_loopF (γ := List G × Pl × List G × Pl) (fun x => [(2, .pointer (some ⟨H.length + 1, 0, none⟩)), (4, .pointer (some ⟨nW, 0, none⟩)), (6, .slice (x.2.1).1 (x.1).length (x.2.1).2), (7, .pointer (some ⟨nO, 0, none⟩))]) (fun x h_ m_ => TI KB c nW nX nO h_ m_ x.1 x.2.1 x.2.2.1 x.2.2.2 ∧ ((∀ g ∈ x.1, g ∈ c.gs) ∧ x.2.2.1 ++ tidyL (x.1).length x.1 = tidyL c.gs.length c.gs ∧ (x.1).length ≤ c.gs.length ∧ (x.2.2.1).length ≤ c.gs.length)) (fun x => (x.1).length) (c.gs, x2, [], (none, 0)) ⟨rfl, rfl, rfl, rfl, trivial⟩ ⟨?_, ?_⟩ ?_
    · show TI KB c nW nX nO KB [] c.gs x2 [] (none, 0)
      exact ⟨by omega, fun _ _ _ => rfl, ⟨_, kW⟩, kO, Mk.nil, pz, [], hz1, rfl, kC.congr (fun b hb => ⟨hb.1, by have := hb.2; omega, fun a ha => by cases ha⟩) (fun _ _ _ => rfl), Grown.nil, (fun a ha => by cases ha), kI, (fun i h1 => by simp at h1), by simpa using pw_dd hz4⟩
    · simp
    rintro ⟨lf, p1, ot, p2⟩ fr0 KH0 mk0 ⟨hI0, inv0⟩ K0 hN0 hR0 hE0
    try dsimp only at hI0 inv0
    clear_value KB nO nX nW
    obtain ⟨hmem, htd, hln, hlo⟩ := inv0
    have hgr : ∀ g ∈ lf, GR g := fun g hg => hr.gr (hmem g hg)
    obtain ⟨pl, po, e1, e2, hlc, hog, hpo, hwl, hwo, hpw⟩ := hI0.lists
    obtain ⟨wv, hw⟩ := hI0.work
    have hle := hI0.hle
    have fO : rowGet KH0 ⟨nO, 0, none⟩ 3 = some [.int .i64 c.w, .int .i64 c.b, .slice p2.1 ot.length p2.2] := rowGet_all hI0.out rfl
    have fW : rowGet KH0 ⟨nW, 0, none⟩ 4 = some [.int .i64 c.w, .int .i64 c.b, wv, .func (.func 67) #[] #[]] := rowGet_all hw rfl
    have hR := (hI0.keep (H.length + 1) (by omega) (by omega)).trans kR
    have fR : rowGet KH0 ⟨H.length + 1, 0, none⟩ 3 = some [.int .i64 0, .int .i64 0, .slice none 0 0] := rowGet_all hR rfl
    have hin : Wires allB KH0 lf pl := fun i h1 h2 => (hwl i h1 h2).congr (fun _ _ => trivial) fun x hx _ => hI0.keep x hx.2 (by have := hx.1; omega)
    refine AX_nil ?_
    refine AX_seq (AX_seq (AX_E (E_mv (v := .slice _ _ _) rfl (E_len (n := (lf).length) rfl (E_gtrS rfl rfl (fun c31 => ?_) (fun c31 => ?_))))))
    · refine E_nil (AX_condT rfl (AX_skip (AX_block (AX_seq (AX_skip (AX_seq (AX_E (E_mv (v := .slice _ _ _) rfl (E_fa rfl (E_fa rfl (E_stX (v := .slice _ _ _) rfl rfl rfl rfl ((congrArg (fun h : Heap => h[nW]?) (List.append_nil _)).trans hw) (by simp) rfl rfl fun U2 hK2' => ?_)))))))))))
      have hK2 : U2 = KH0.set nW (wrow c (.slice p1.1 lf.length p1.2)) := by rw [hK2', List.append_nil]; rfl
      have lK2 : U2.length = KH0.length := by rw [hK2]; simp
      have nK2 : ∀ x, x ≠ nW → U2[x]? = KH0[x]? := fun x hx => by rw [hK2, List.getElem?_set_ne (Ne.symm hx)]
      have hw2 : U2[nW]? = some (wrow c (.slice p1.1 lf.length p1.2)) := by rw [hK2, List.getElem?_set_self (by omega)]
      have fW2 : rowGet U2 ⟨nW, 0, none⟩ 4 = some [.int .i64 c.w, .int .i64 c.b, .slice p1.1 lf.length p1.2, .func (.func 67) #[] #[]] := rowGet_all hw2 rfl
      have hO2 := (nK2 nO (by omega)).trans hI0.out
      have fO2 : rowGet U2 ⟨nO, 0, none⟩ 3 = some [.int .i64 c.w, .int .i64 c.b, .slice p2.1 ot.length p2.2] := rowGet_all hO2 rfl
      have hlc2 : Cells allB U2 4 p1 lf.length (flat lf pl) := hlc.congr (fun _ _ => trivial) fun x hx _ => nK2 x (by have := hx.1; omega)
      have hin2 : Wires allB U2 lf pl := fun i h1 h2 => (hwl i h1 h2).congr (fun _ _ => trivial) fun x hx _ => by rw [nK2 x (by have := hx.1; omega), hI0.keep x hx.2 (by have := hx.1; omega)]
      have hgs2 : Gates allB U2 p1 lf := ⟨pl, e1, hlc2, hin2⟩
      have hmk2 : Mk (nO + 1) U2 mk0 := hI0.mks.mono fun x hx h => by rw [nK2 x (by omega)]; exact h
      refine E_nil (AX_seq (AX_E (E_mv (v := .int .i64 ((-1))) rfl (E_nil (AX_seq (AX_skip (AX_seq (AX_seq (AX_E (E_mv (v := .slice _ _ _) rfl (E_len (n := (lf).length) rfl (E_mv (v := .int .i64 (0)) rfl (E_nil (AX_block ?_))))))))))))))
      refine AX_loopF (γ := Nat) (fun i => [(2, .pointer (some ⟨H.length + 1, 0, none⟩)), (4, .pointer (some ⟨nW, 0, none⟩)), (6, .slice (p1).1 (lf).length (p1).2), (7, .pointer (some ⟨nO, 0, none⟩)), (8, .int .i64 (nextM lf i)), (36, .int .i64 ((lf).length)), (37, .int .i64 ((i : Int)))]) (fun i h_ m_ => (∃ z_, h_ = U2 ++ ([] ++ z_)) ∧ Mk (nO + 1) h_ m_ ∧ i ≤ lf.length) (fun i => lf.length - i) (0) ⟨rfl, rfl, rfl, rfl, rfl, rfl, rfl, trivial⟩ ⟨⟨[], app0 _ _⟩, (by rw [List.append_nil]; exact hmk2), ?_⟩ ?_
      · simp
      rintro i fr2 h2 m2 ⟨⟨z2, rfl⟩, mk2, inv2⟩ K2 hN2 hR2 hE2
      refine AX_nil ?_
      refine AX_seq (AX_E (E_lssS rfl rfl (fun c38 => ?_) (fun c38 => ?_)))
      · refine E_nil (AX_seq (AX_condT rfl (AX_skip (AX_seq (AX_block (AX_seq (AX_E (E_mv (v := .int .i64 ((i : Int))) rfl (E_mv (v := .int .i64 ((i : Int))) rfl (E_nil (AX_seq (AX_seq (AX_E (E_ldBN rfl (rowGet_base fW2) (E_mv (v := .int .i64 ((i : Int))) rfl ?_)))))))))))))))
        refine E_callX (X := [CO.row [.int .i64 c.w, .int .i64 c.b, .slice p1.1 lf.length p1.2, .func (.func 67) #[] #[]] true none, CO.row [.int .i64 (i : Int)] true none]) rfl (pbefore_ret _ ⟨c.w, c.b, lf⟩ p1 67 i) (E_nil (AX_block ?_))
        refine rf_leave (c := ⟨c.w, c.b, lf⟩) (p := p1) (n := i) (f1 := 67) (fun j => ¬ commM (lf.getD j default) (lf.getD i default)) rfl rfl (by simp) rfl ?_ ?_ ?_ (show i < lf.length by omega) (show lf.length < 4294967296 by omega) ?_ ?_ ?_
        · exact rowGet_base (rowGet_ownE (k := 1) (by simp) rfl)
        · exact rowGet_base (rowGet_ownE (k := 0) (by simp) rfl)
        · exact hgs2.app.app.app
        · intro j hj K q1 q2 e3 e4
          have hjl : j < lf.length := by omega
          have hil : i < lf.length := by omega
          have := near_ret K lf[j] lf[i] q1 q2 e3 e4 (hgr _ (List.getElem_mem _)) (hgr _ (List.getElem_mem _))
          simpa only [getG_at hjl, getG_at hil] using this
        · intro hf R
          have hfree : freeTo lf i i := fun j hj => Decidable.not_not.1 (hf j hj)
          refine AX_seq (AX_E (E_mv (v := .int .i64 (nextM lf i)) rfl (E_lssS rfl rfl (fun c45 => ?_) (fun c45 => ?_))))
          · refine E_mv (v := .bool _) rfl (E_notF rfl (E_notF rfl (E_notF rfl (E_notF rfl (E_notF rfl (E_notF rfl (E_notF rfl (E_notF rfl (E_notF rfl (E_notF rfl (E_pickT rfl (v := .bool _) rfl (E_nil (AX_condT rfl (AX_E (E_mv (v := .int .i64 ((i : Int))) rfl (E_mv (v := .int .i64 ((i : Int))) rfl (E_nil (AX_E (E_addI rfl rfl (by first | omega | (simp; done) | (simp; omega)) (by first | omega | (simp; done) | (simp; omega)) (E_mv (v := .int .i64 (((i : Int) + 1))) rfl (E_nil ?_)))))))))))))))))))))
            refine hN2 (i + 1) _ _ _ ⟨by first | rfl | (congr 1; omega), by first | rfl | (congr 1; omega), by first | rfl | (congr 1; omega), by first | rfl | (congr 1; omega), by first | exact congrArg (Value.int _) (next_skip (fun x => hfree x.1)).symm | exact congrArg (Value.int _) (next_take hfree (.inl c45)).symm | exact congrArg (Value.int _) (next_take hfree (.inr (before_getD _ _ ((order_iff (hgr _ (List.getElem_mem _)) (hgr _ (List.getElem_mem _))).1 c56)))).symm | exact congrArg (Value.int _) (next_skip (fun x => x.2.elim c45 (fun y => c56 ((order_iff (hgr _ (List.getElem_mem _)) (hgr _ (List.getElem_mem _))).2 (before_getD2 _ _ y))))).symm, by first | rfl | (congr 1; omega), by first | rfl | (congr 1; omega), trivial⟩ ⟨⟨(z2 ++ [] ++ [CO.row [.int .i64 c.w, .int .i64 c.b, .slice p1.1 lf.length p1.2, .func (.func 67) #[] #[]] true none, CO.row [.int .i64 (i : Int)] true none] ++ [CO.mark, CO.loop R]), by first | (simp only [List.append_assoc, List.append_nil, List.nil_append, List.cons_append, List.set_cons_zero, List.set_cons_succ]; done) | (simp only [List.append_assoc, List.append_nil, List.nil_append, List.cons_append, List.set_cons_zero, List.set_cons_succ]; rfl)⟩, ?_, ?_⟩ ?_
            rotate_left
            -- n1
            all_goals clear hN0 hR0 hE0 hN2 hR2 hE2
            · omega
            · (first | omega | (simp; omega))
            · refine Mk.cons (Mk.app (Mk.app mk2)) (by simp; omega) ?_
              rw [List.append_nil, List.getElem?_append_right (Nat.le_refl _)]; simp
          · refine E_mv (v := .bool _) rfl (E_on rfl (E_mv (v := .slice _ _ _) rfl (E_on rfl (E_mv (v := .int .i64 ((i : Int))) rfl (E_on rfl (have ix3 : i < (lf).length := (by first | omega | (simp; done) | (simp; omega)); have iy3 : i < pl.length := (by omega); E_iaPb (j := i) rfl hlc2.app.app rfl e1 rfl rfl ix3 iy3 fun b3 o3 w3 => (E_on rfl (E_ldBN rfl w3 (E_on rfl (E_mv (v := .slice _ _ _) rfl (E_on rfl (E_mv (v := .int .i64 (nextM lf i)) rfl (E_on rfl (have ix4 : (nextM lf i).toNat < (lf).length := (by have := nextM_lt lf i; omega); have iy4 : (nextM lf i).toNat < pl.length := (by omega); E_iaPb (j := (nextM lf i).toNat) rfl hlc2.app.app rfl e1 rfl (by omega) ix4 iy4 fun b4 o4 w4 => (E_on rfl (E_ldBN rfl w4 (E_on rfl (E_callV rfl (order_ret _ (lf[i]'ix3) (lf[(nextM lf i).toNat]'ix4) _ _ (hin2 (i) ix3 iy3).app.app.app (hin2 ((nextM lf i).toNat) ix4 iy4).app.app.app (by have := (hgr _ (List.getElem_mem (show i < lf.length by omega))).len; omega)) (E_on rfl (E_lssS rfl rfl (fun c56 => ?_) (fun c56 => ?_)))))))))))))))))))))
            · refine E_pickF rfl (v := .bool _) rfl (E_nil (AX_condT rfl (AX_E (E_mv (v := .int .i64 ((i : Int))) rfl (E_mv (v := .int .i64 ((i : Int))) rfl (E_nil (AX_E (E_addI rfl rfl (by first | omega | (simp; done) | (simp; omega)) (by first | omega | (simp; done) | (simp; omega)) (E_mv (v := .int .i64 (((i : Int) + 1))) rfl (E_nil ?_))))))))))
              refine hN2 (i + 1) _ _ _ ⟨by first | rfl | (congr 1; omega), by first | rfl | (congr 1; omega), by first | rfl | (congr 1; omega), by first | rfl | (congr 1; omega), by first | exact congrArg (Value.int _) (next_skip (fun x => hfree x.1)).symm | exact congrArg (Value.int _) (next_take hfree (.inl c45)).symm | exact congrArg (Value.int _) (next_take hfree (.inr (before_getD _ _ ((order_iff (hgr _ (List.getElem_mem _)) (hgr _ (List.getElem_mem _))).1 c56)))).symm | exact congrArg (Value.int _) (next_skip (fun x => x.2.elim c45 (fun y => c56 ((order_iff (hgr _ (List.getElem_mem _)) (hgr _ (List.getElem_mem _))).2 (before_getD2 _ _ y))))).symm, by first | rfl | (congr 1; omega), by first | rfl | (congr 1; omega), trivial⟩ ⟨⟨(z2 ++ [] ++ [CO.row [.int .i64 c.w, .int .i64 c.b, .slice p1.1 lf.length p1.2, .func (.func 67) #[] #[]] true none, CO.row [.int .i64 (i : Int)] true none] ++ [CO.mark, CO.loop R]), by first | (simp only [List.append_assoc, List.append_nil, List.nil_append, List.cons_append, List.set_cons_zero, List.set_cons_succ]; done) | (simp only [List.append_assoc, List.append_nil, List.nil_append, List.cons_append, List.set_cons_zero, List.set_cons_succ]; rfl)⟩, ?_, ?_⟩ ?_
              rotate_left
              -- n2
              all_goals clear hN0 hR0 hE0 hN2 hR2 hE2
              · omega
              · (first | omega | (simp; omega))
              · refine Mk.cons (Mk.app (Mk.app mk2)) (by simp; omega) ?_
                rw [List.append_nil, List.getElem?_append_right (Nat.le_refl _)]; simp
            · refine E_pickF rfl (v := .bool _) rfl (E_nil (AX_condF rfl (AX_skip (AX_E (E_addI rfl rfl (by first | omega | (simp; done) | (simp; omega)) (by first | omega | (simp; done) | (simp; omega)) (E_mv (v := .int .i64 (((i : Int) + 1))) rfl (E_nil ?_)))))))
              refine hN2 (i + 1) _ _ _ ⟨by first | rfl | (congr 1; omega), by first | rfl | (congr 1; omega), by first | rfl | (congr 1; omega), by first | rfl | (congr 1; omega), by first | exact congrArg (Value.int _) (next_skip (fun x => hfree x.1)).symm | exact congrArg (Value.int _) (next_take hfree (.inl c45)).symm | exact congrArg (Value.int _) (next_take hfree (.inr (before_getD _ _ ((order_iff (hgr _ (List.getElem_mem _)) (hgr _ (List.getElem_mem _))).1 c56)))).symm | exact congrArg (Value.int _) (next_skip (fun x => x.2.elim c45 (fun y => c56 ((order_iff (hgr _ (List.getElem_mem _)) (hgr _ (List.getElem_mem _))).2 (before_getD2 _ _ y))))).symm, by first | rfl | (congr 1; omega), by first | rfl | (congr 1; omega), trivial⟩ ⟨⟨(z2 ++ [] ++ [CO.row [.int .i64 c.w, .int .i64 c.b, .slice p1.1 lf.length p1.2, .func (.func 67) #[] #[]] true none, CO.row [.int .i64 (i : Int)] true none] ++ [CO.mark, CO.loop R]), by first | (simp only [List.append_assoc, List.append_nil, List.nil_append, List.cons_append, List.set_cons_zero, List.set_cons_succ]; done) | (simp only [List.append_assoc, List.append_nil, List.nil_append, List.cons_append, List.set_cons_zero, List.set_cons_succ]; rfl)⟩, ?_, ?_⟩ ?_
              rotate_left
              -- n3
              all_goals clear hN0 hR0 hE0 hN2 hR2 hE2
              · omega
              · (first | omega | (simp; omega))
              · refine Mk.cons (Mk.app (Mk.app mk2)) (by simp; omega) ?_
                rw [List.append_nil, List.getElem?_append_right (Nat.le_refl _)]; simp
        · rintro ⟨j, hj, hp⟩ R
          have hfree : ¬ freeTo lf i i := fun x => hp (x j hj)
          refine AX_E (E_addI rfl rfl (by first | omega | (simp; done) | (simp; omega)) (by first | omega | (simp; done) | (simp; omega)) (E_mv (v := .int .i64 (((i : Int) + 1))) rfl (E_nil ?_)))
          refine hN2 (i + 1) _ _ _ ⟨by first | rfl | (congr 1; omega), by first | rfl | (congr 1; omega), by first | rfl | (congr 1; omega), by first | rfl | (congr 1; omega), by first | exact congrArg (Value.int _) (next_skip (fun x => hfree x.1)).symm | exact congrArg (Value.int _) (next_take hfree (.inl c45)).symm | exact congrArg (Value.int _) (next_take hfree (.inr (before_getD _ _ ((order_iff (hgr _ (List.getElem_mem _)) (hgr _ (List.getElem_mem _))).1 c56)))).symm | exact congrArg (Value.int _) (next_skip (fun x => x.2.elim c45 (fun y => c56 ((order_iff (hgr _ (List.getElem_mem _)) (hgr _ (List.getElem_mem _))).2 (before_getD2 _ _ y))))).symm, by first | rfl | (congr 1; omega), by first | rfl | (congr 1; omega), trivial⟩ ⟨⟨(z2 ++ [] ++ [CO.row [.int .i64 c.w, .int .i64 c.b, .slice p1.1 lf.length p1.2, .func (.func 67) #[] #[]] true none, CO.row [.int .i64 (i : Int)] true none] ++ [CO.mark, CO.loop R]), by first | (simp only [List.append_assoc, List.append_nil, List.nil_append, List.cons_append, List.set_cons_zero, List.set_cons_succ]; done) | (simp only [List.append_assoc, List.append_nil, List.nil_append, List.cons_append, List.set_cons_zero, List.set_cons_succ]; rfl)⟩, ?_, ?_⟩ ?_
          rotate_left
          -- n4
          all_goals clear hN0 hR0 hE0 hN2 hR2 hE2
          · omega
          · (first | omega | (simp; omega))
          · refine Mk.cons (Mk.app (Mk.app mk2)) (by simp; omega) ?_
            rw [List.append_nil, List.getElem?_append_right (Nat.le_refl _)]; simp
      · refine E_nil (AX_seq (AX_condF rfl (AX_exit (hE2 _ _ _ _ ?_))))
        have el : i = lf.length := by omega
        have hb1 := nextM_lt lf lf.length
        have hb2 := nextM_pos lf lf.length (by omega)
        obtain ⟨b, hb⟩ : ∃ b : Nat, nextM lf lf.length = (b : Int) := ⟨(nextM lf lf.length).toNat, by omega⟩
        have hbi : nextM lf i = (b : Int) := by rw [el]; exact hb
        have hbl : b < lf.length := by omega
        refine AX_seq (AX_E (E_fa rfl (E_ldB (v := .slice _ _ _) rfl (rowGet_c (j := 2) (rowGet_base fO2) rfl) (E_mv (v := .slice _ _ _) rfl (E_mv (v := .int .i64 (nextM lf i)) rfl (have ix5 : b < (lf).length := (by first | omega | (simp; done) | (simp; omega)); have iy5 : b < pl.length := (by omega); E_iaPb (j := b) rfl hlc2.app rfl e1 rfl (by first | rfl | omega) ix5 iy5 fun b5 o5 w5 => (E_ldBN rfl w5 (E_mkS (cs := [.int .i64 ((lf[b]'ix5).k), .slice ((pl[b]'iy5)).1 ((lf[b]'ix5).ws).length ((pl[b]'iy5)).2, .int .i64 ((lf[b]'ix5).b), .int .i64 ((lf[b]'ix5).f)]) rfl ?_))))))))
        obtain ⟨U3, hK3⟩ : ∃ K : Heap, K = (U2 ++ ([] ++ z2)) ++ [CO.row [.int .i64 ((lf[b]'ix5).k), .slice ((pl[b]'iy5)).1 ((lf[b]'ix5).ws).length ((pl[b]'iy5)).2, .int .i64 ((lf[b]'ix5).b), .int .i64 ((lf[b]'ix5).f)] true none] := ⟨_, rfl⟩
        have lK3 : KH0.length ≤ U3.length := by rw [hK3]; simp; omega
        have nK3 : ∀ x, x < KH0.length → x ≠ nW → U3[x]? = KH0[x]? := fun x hx hn => by rw [hK3, pre_get (by simp; omega), pre_get (by omega), nK2 x hn]
        have g3 : Grown 4 0 U3 p2 ot.length (flat ot po) := hog.same fun a ha => nK3 _ (hog.blk ha) (by have := hpo a ha; omega)
        have hO3 := (nK3 nO (by omega) (by omega)).trans hI0.out
        refine E_hp (h' := U3) hK3.symm (E_appK (k := ot.length) (kx := 1) (p := p2) (new := gcells lf[b] (pl[b]'(by omega))) g3 rfl rfl (by rw [hK3]; show (if 1 * 4 = 0 then some [] else rowGet _ ⟨_, _, none⟩ (1 * 4)) = _; exact rowGet_own (k := 0) rfl) (by decide) (by simp only [roomB]; omega) rfl rfl rfl fun U4 hl4 hg4 hk4 => ?_)
        have hO4 := (hk4 nO (by omega) (fun a ha e => by have := hpo a ha; omega)).trans hO3
        refine E_fa rfl (E_stX (v := .slice _ _ _) rfl rfl rfl rfl ((congrArg (fun h : Heap => h[nO]?) (List.append_nil _)).trans hO4) (by simp) rfl rfl fun U5 hK5' => ?_)
        have hK5 : U5 = U4.set nO (crow c (some ⟨U3.length, 0, none⟩, ot.length + 1) (ot.length + 1)) := by rw [hK5', List.append_nil]; rfl
        have lK5 : U5.length = U4.length := by rw [hK5]; simp
        have nK5 : ∀ x, x < KH0.length → x ≠ nW → x ≠ nO → offP p2 x → U5[x]? = KH0[x]? := fun x h1 h2 h3 h4 => by rw [hK5, List.getElem?_set_ne (Ne.symm h3), hk4 x (by omega) h4, nK3 x h1 h2]
        have hlc5 : Cells allB U5 4 p1 lf.length (flat lf pl) := hlc.congr (fun _ _ => trivial) fun x hx hl => nK5 x hl (by have := hx.1; omega) hx.2.1 hx.2.2
        have hne : lf ≠ [] := fun e => by rw [e] at hbl; simp at hbl
        refine E_nil (AX_E (E_mv (v := .slice _ _ _) rfl ?_))
        obtain ⟨X5, hX5, hX5r⟩ := cloneG_ret (U5 ++ []) p1 lf pl (S := allB) e1 hlc5.app (by omega) hne
        have hX5l : 2 ≤ X5.length := by have := (List.getElem?_eq_some_iff.1 hX5r).1; omega
        refine E_callX (X := X5) rfl (hX5) (E_mv (v := .int .i64 (nextM lf i)) rfl (E_mv (v := .int .i64 (nextM lf i)) rfl (E_addI rfl rfl (by first | omega | (simp; done) | (simp; omega)) (by first | omega | (simp; done) | (simp; omega)) ?_)))
        obtain ⟨cs7, hd7, hc7l, hc7c, hc7t⟩ := delete_ret ((U5 ++ ([] ++ X5)) ++ []) ((U5 ++ []).length + 1) lf.length lf.length b (flat lf pl) (some 4) (by rw [List.append_nil, List.append_nil, List.nil_append, List.getElem?_append_right (by omega), show U5.length + 1 - U5.length = 1 by omega]; exact hX5r) (.inr rfl) hbl (Nat.le_refl _) (by rw [flat_len _ _ e1]; omega) flat_cells
        rw [flat_len _ _ e1] at hc7l
        have hc7t : cs7.take ((lf.length - 1) * 4) = flat (lf.eraseIdx b) (pl.eraseIdx b) := by rw [hc7t, ← flat_erase e1, List.take_of_length_le (l := (flat lf pl).drop ((b + 1) * 4)) (by rw [List.length_drop, flat_len _ _ e1, Nat.sub_mul]; omega)]
        obtain ⟨U7, hK7⟩ : ∃ K : Heap, K = ((U5 ++ ([] ++ X5)) ++ []).set ((U5 ++ []).length + 1) (.row cs7 true (some 4)) := ⟨_, rfl⟩
        rw [← hK7, ← hbi] at hd7
        refine E_callR rfl rfl (hd7) (.inl rfl) (E_nilR (E_mv (v := .slice _ _ _) rfl (E_nil ?_)))
        refine hN0 (lf.eraseIdx b, (some ⟨U5.length + 1, 0, none⟩, lf.length), ot ++ [lf[b]], (some ⟨U3.length, 0, none⟩, ot.length + 1)) _ _ _ ⟨by first | rfl | (congr 1; omega), by first | rfl | (congr 1; omega), by first | rfl | (simp only [List.append_nil, List.length_eraseIdx_of_lt hbl]; done) | (simp only [List.append_nil, List.length_eraseIdx_of_lt hbl]; rfl), by first | rfl | (congr 1; omega), trivial⟩ ⟨?_, ?_⟩ ?_
        -- n5
        all_goals clear hN0 hR0 hE0 hN2 hR2 hE2
        · rw [List.append_nil]
          exact TI.step (m := mk0) (p1 := p1) (by omega) (by omega) hle hI0.keep e1 e2 hwl hwo hpw hpo hbl hK2 (by rw [hK3, List.append_assoc]) (by rw [hK3]; exact mk2.app) g3 hl4 hg4 hk4 hK5 (by rw [hK7]; simp) hX5l (.inr rfl) hc7l hc7t
        · exact ⟨fun g hg => hmem g (List.mem_of_mem_eraseIdx hg), by rw [List.append_assoc, ← htd, tidyL_step hb hbl]; rfl, by rw [List.length_eraseIdx_of_lt hbl]; omega, by have := congrArg List.length htd; simp only [List.length_append, tidyL_len] at this; simp only [List.length_append, List.length_cons, List.length_nil]; omega⟩
        · show (lf.eraseIdx b).length < lf.length
          rw [List.length_eraseIdx_of_lt hbl]; omega
    · refine E_nil (AX_condF rfl (AX_exit (hE0 _ _ _ _ ?_)))
      have hlf : lf = [] := List.length_eq_zero_iff.1 (by omega)
      have eot : tidyM c = ⟨c.w, c.b, ot⟩ := by subst hlf; simpa [tidyL, tidyM] using htd.symm
      refine AX_seq (AX_E (E_ldBN rfl fO (E_stX (v := .agg _) rfl rfl rfl rfl ((congrArg (fun h : Heap => h[H.length + 1]?) (List.append_nil _)).trans hR) (by simp) rfl rfl fun U9 hK9' => ?_)))
      refine E_mv (v := .int .i64 (0)) rfl (E_nil (AX_ret ?_))
      have h9 : U9 = KH0.set (H.length + 1) (crow c p2 ot.length) := by rw [hK9', List.append_nil]; rfl
      have n9 : ∀ x, x ≠ H.length + 1 → (U9 ++ [])[x]? = KH0[x]? := fun x hx => by rw [List.append_nil, h9, List.getElem?_set_ne (Ne.symm hx)]
      have hR9 : (U9 ++ [])[H.length + 1]? = some (crow c p2 ot.length) := by rw [List.append_nil, h9, List.getElem?_set_self (by omega)]
      have hm9 : Mk (nO + 1) (U9 ++ []) mk0 := hI0.mks.mono fun x hx h => by rw [n9 x (by omega)]; exact h
      refine ⟨_, res2 (resOf_at rfl (rowGet_all hR9 rfl)) (res_tmp rfl), hm9.marks, ?_⟩
      have hl9 : H.length ≤ (allGone mk0 (U9 ++ [])).length := by rw [allGone_len, List.append_nil, h9, List.length_set]; omega
      have hp9 : ∀ b, b < H.length → (allGone mk0 (U9 ++ []))[b]? = H[b]? := by
        intro b hb
        rw [allGone_get _ _ fun x hx e => by have := (hm9 x hx).1; omega, n9 b (by omega), hI0.keep b (by omega) (by omega), kH b hb]
      have hz9 : GatesP (fun b => H.length ≤ b) (allGone mk0 (U9 ++ [])) p2 ot := by
        refine ⟨po, e2, ?_, fun i g1 g2 => ?_, fun i j g1 g2 hij => ?_⟩
        · refine (hog.cellsK (S := fun b => nO < b) hpo).rows (fun b hb _ => by omega) fun b cs wr gr hb hr => hm9.row ?_
          rw [n9 b (by omega)]; exact hr
        · refine (hwo i g1 g2).rows (fun b hb _ => ⟨by have := hb.1; omega, fun a ha => by have := hpo a ha; have := hb.2; omega⟩) fun b cs wr gr hb hr => hm9.row ?_
          have := hb.1
          have := hb.2
          rw [n9 b (by omega), hI0.keep b (by omega) (by omega)]; exact hr
        · have := (List.pairwise_append.1 hpw).1
          rw [List.pairwise_iff_getElem] at this
          rcases Nat.lt_or_gt_of_ne hij with h | h
          · exact (this i j g1 g2 h).1
          · exact (this j i g2 g1 h).2
      obtain ⟨X, h1, h2⟩ := leafK (u := .tuple #[cv ⟨c.w, c.b, ot⟩ p2, .int .i64 0]) hl9 hp9 hz9 cvt_flat
      exact ⟨X, h1, p2, by rw [eot]; rfl, by rw [eot]; exact h2⟩
theorem ptidy_bad (H : Heap) (c : C) (p : Pl) {S : Nat → Prop} (hv : Gates S H p c.gs) (hl : c.gs.length < 4294967296) (hc : checkM c ≠ 0) : ∃ X, Ret (tab Try.prog) 17 [cv c p] H (.tuple #[cv ⟨0, 0, []⟩ (none, 0), .int .i64 (checkM c)]) (H ++ X) := by
  have key := Ret_grow (T := tab Try.prog) (f := 17) (args := [cv c p]) (h := H) (fun u X => u = .tuple #[cv ⟨0, 0, []⟩ (none, 0), .int .i64 (checkM c)]) k17 rfl ?_
  · obtain ⟨u, X, hr, rfl⟩ := key
    exact ⟨X, hr⟩
  refine AX_seq (AX_E (E_boxA rfl (E_new (E_mv (v := .int .i64 (0)) rfl (E_nil (AX_seq (AX_E (E_ldON (k := 0) rfl rfl ?_))))))))
  obtain ⟨XO1, hXO1⟩ := opened_bad (H ++ [CO.row [.int .i64 (c.w), .int .i64 (c.b), .slice (p).1 (c.gs).length (p).2] true none, CO.row [.int .i64 (0), .int .i64 (0), .slice none 0 0] true none]) c p (hv.app) (by omega) hc
  refine E_callX (X := XO1) rfl (hXO1) (E_mv (v := .tuple _) rfl (E_ext (v := .agg _) rfl rfl (E_ext (v := .int .i64 ((checkM c))) rfl rfl (E_new (E_stO (k := 0) rfl rfl (v := .agg _) rfl rfl rfl rfl (E_mv (v := .int .i64 ((checkM c))) rfl (E_nil (AX_seq (AX_seq (AX_E (E_mv (v := .int .i64 ((checkM c))) rfl (E_neqS rfl rfl (fun c16 => ?_) (fun c16 => ?_)))))))))))))
  · refine E_nil (AX_condT rfl (AX_seq (AX_E (E_mk (cs := [.int .i64 (0), .int .i64 (0), .slice none 0 0]) rfl (E_mv (v := .int .i64 ((checkM c))) rfl (E_hp (h' := H ++ ([CO.row [.int .i64 (c.w), .int .i64 (c.b), .slice (p).1 (c.gs).length (p).2] true none, CO.row [.int .i64 (0), .int .i64 (0), .slice none 0 0] true none] ++ (XO1 ++ [CO.row [.int .i64 (0), .int .i64 (0), .slice none 0 0, .nilFunc] true none]))) (by first | (simp only [List.append_assoc, List.append_nil, List.nil_append, List.cons_append, List.set_cons_zero, List.set_cons_succ]; done) | (simp only [List.append_assoc, List.append_nil, List.nil_append, List.cons_append, List.set_cons_zero, List.set_cons_succ]; rfl)) (E_stO (k := 1) rfl rfl (v := .agg _) rfl rfl rfl rfl (E_mv (v := .int .i64 ((checkM c))) rfl (E_nil (AX_ret ?_))))))))))
    obtain ⟨X, hX⟩ := forget_any (h := H) (u := .tuple #[cv ⟨0, 0, []⟩ (none, 0), .int .i64 (checkM c)]) (List.prefix_append H ([CO.row [.int .i64 (c.w), .int .i64 (c.b), .slice (p).1 (c.gs).length (p).2] true none, CO.row [.int .i64 (0), .int .i64 (0), .slice none 0 0] true none] ++ (XO1 ++ [CO.row [.int .i64 (0), .int .i64 (0), .slice none 0 0, .nilFunc] true none])))
    exact ⟨_, res2 (res_cellN (k := 1) rfl rfl) (res_tmp rfl), by simp, X, hX, rfl⟩
  · exact (hc (by simpa using c16)).elim
def tidyR (c : C) : C := if checkM c = 0 then tidyM c else ⟨0, 0, []⟩
theorem ptidy_ret (H : Heap) (c : C) (p : Pl) {S : Nat → Prop} (hv : Gates S H p c.gs) (hl : c.gs.length < 4294967296) : ∃ X p', Ret (tab Try.prog) 17 [cv c p] H (.tuple #[cv (tidyR c) p', .int .i64 (checkM c)]) (H ++ X) ∧ GatesZ H.length X p' (tidyR c).gs := by
  by_cases hc : checkM c = 0
  · rw [tidyR, if_pos hc, hc]
    exact ptidy_good H c p hv hl hc
  · rw [tidyR, if_neg hc]
    obtain ⟨X, hX⟩ := ptidy_bad H c p hv hl hc
    exact ⟨X, _, hX, fun A hA => GatesP.nil⟩
end Go.Canon
