/- CircPuts, part 4: the canonical machine and the runs of the program's functions on it. No conditions. -/
import Derived.Test.YtpbamjaldnhamaaPuP3
namespace Go.Canon
open Go Go.Proofs
set_option linter.unusedVariables false
set_option linter.unusedSimpArgs false
def kf104 : KFunc := ⟨0, 3, [.tmp 0], .seq (.reg [⟨some 0, .mv (.c (.map none)), none⟩] []) (.seq (.reg [⟨some 1, .mkM, none⟩, ⟨none, .ins 1 (.t 1) (.c (.int .i64 5)) (.c (.int .i64 6)), none⟩, ⟨none, .ins 1 (.t 1) (.c (.int .i64 6)) (.c (.int .i64 5)), none⟩, ⟨none, .ins 1 (.t 1) (.c (.int .i64 7)) (.c (.int .i64 8)), none⟩, ⟨none, .ins 1 (.t 1) (.c (.int .i64 8)) (.c (.int .i64 7)), none⟩, ⟨some 2, .mv (.t 1), none⟩, ⟨some 0, .mv (.t 2), none⟩] []) .ret)⟩
theorem k104 : tab Try.prog 104 = some kf104 := by kernel_rfl
def kf85 : KFunc := ⟨1, 14, [.tmp 2], .seq (.reg [⟨some 2, .mv (.c (.int .i64 0)), none⟩] []) (.seq (.seq (.reg [⟨some 6, .call (.c (.func (.func 104) #[] #[])) [], none⟩, ⟨some 7, .mv (.t 0), none⟩, ⟨some 8, .lk 1 (.t 6) (.t 7) (.int .i64 0) true, none⟩, ⟨some 5, .mv (.t 8), none⟩, ⟨some 9, .ext (.t 5) 0, none⟩, ⟨some 10, .ext (.t 5) 1, none⟩, ⟨some 3, .mv (.t 9), none⟩, ⟨some 4, .mv (.t 10), none⟩] []) (.seq (.reg [⟨some 11, .mv (.t 4), none⟩] []) (.cond (.t 11) (.seq (.reg [⟨some 12, .mv (.t 3), none⟩, ⟨some 2, .mv (.t 12), none⟩] []) .ret) .skip))) (.seq (.reg [⟨some 13, .mv (.t 0), none⟩, ⟨some 2, .mv (.t 13), none⟩] []) .ret))⟩
theorem k85 : tab Try.prog 85 = some kf85 := by kernel_rfl
def kf94 : KFunc := ⟨1, 29, [.cell 2 (some 15)], .seq (.reg [⟨some 1, .box (.t 0), none⟩, ⟨some 2, .new [.int .i64 0, .int .i64 0, .bool false, .bool false, .bool false, .bool false, .bool false, .bool false, .bool false, .bool false, .bool false, .bool false, .bool false, .bool false, .int .i64 0], none⟩] []) (.seq (.reg [⟨some 4, .fa (.t 1) 0, none⟩, ⟨some 5, .ld (.t 4) none, none⟩, ⟨some 6, .fa (.t 1) 3, none⟩, ⟨some 7, .ld (.t 6) none, none⟩, ⟨some 8, .ld (.t 1) (some 4), none⟩, ⟨some 9, .call (.c (.func (.func 91) #[] #[])) [.t 8], none⟩, ⟨some 10, .mk [.int .i64 0, .int .i64 0, .bool false, .bool false, .bool false, .bool false, .bool false, .bool false, .bool false, .bool false, .bool false, .bool false, .bool false, .bool false, .int .i64 0] [(0, 1, .t 5), (1, 1, .t 7), (2, 12, .t 9)], none⟩, ⟨some 3, .new [.int .i64 0, .int .i64 0, .bool false, .bool false, .bool false, .bool false, .bool false, .bool false, .bool false, .bool false, .bool false, .bool false, .bool false, .bool false, .int .i64 0], none⟩, ⟨none, .st (.t 3) (.t 10) 15, none⟩] [(1, 5), (3, 5)]) (.seq (.seq (.reg [⟨some 11, .fa (.t 1) 0, none⟩, ⟨some 12, .ld (.t 11) none, none⟩, ⟨some 13, .bin .eql (.t 12) (.c (.int .i64 9)), none⟩, ⟨some 14, .mv (.t 13), none⟩, ⟨some 15, .fa (.t 1) 0, some (14, false)⟩, ⟨some 16, .ld (.t 15) none, some (14, false)⟩, ⟨some 17, .bin .eql (.t 16) (.c (.int .i64 12)), some (14, false)⟩, ⟨some 18, .pick (.t 14) (.c (.bool true)) (.t 17), none⟩] []) (.cond (.t 18) (.reg [⟨some 19, .fa (.t 1) 1, none⟩, ⟨some 20, .ld (.t 19) none, none⟩, ⟨some 21, .fa (.t 1) 1, none⟩, ⟨some 22, .ld (.t 21) none, none⟩, ⟨some 23, .len (.t 22), none⟩, ⟨some 24, .bin .sub (.t 23) (.c (.int .i64 1)), none⟩, ⟨some 25, .iaS (.t 20) (.t 24) 1, none⟩, ⟨some 26, .ld (.t 25) none, none⟩, ⟨some 27, .fa (.t 3) 14, none⟩, ⟨none, .st (.t 27) (.t 26) 1, none⟩] []) .skip)) (.seq (.reg [⟨some 28, .ld (.t 3) (some 15), none⟩, ⟨none, .st (.t 2) (.t 28) 15, none⟩] []) .ret)))⟩
theorem k94 : tab Try.prog 94 = some kf94 := by kernel_rfl
def kf65 : KFunc := ⟨2, 21, [.tmp 4], .seq (.reg [⟨some 2, .box (.t 0), none⟩, ⟨some 3, .box (.t 1), none⟩, ⟨some 4, .mv (.c (.bool false)), none⟩] []) (.seq (.reg [⟨some 6, .ld (.t 3) (some 4), none⟩, ⟨some 7, .call (.c (.func (.func 94) #[] #[])) [.t 6], none⟩, ⟨some 5, .new [.int .i64 0, .int .i64 0, .bool false, .bool false, .bool false, .bool false, .bool false, .bool false, .bool false, .bool false, .bool false, .bool false, .bool false, .bool false, .int .i64 0], none⟩, ⟨none, .st (.t 5) (.t 7) 15, none⟩] []) (.seq (.reg [⟨some 8, .fa (.t 5) 0, none⟩, ⟨some 9, .ld (.t 8) none, none⟩, ⟨some 10, .call (.c (.func (.func 85) #[] #[])) [.t 9], none⟩, ⟨some 11, .fa (.t 5) 0, none⟩, ⟨none, .st (.t 11) (.t 10) 1, none⟩] []) (.seq (.reg [⟨some 12, .fa (.t 2) 0, none⟩, ⟨some 13, .ld (.t 12) none, none⟩, ⟨some 14, .bin .leq (.t 13) (.c (.int .i64 12)), none⟩, ⟨some 15, .mv (.t 14), none⟩, ⟨some 16, .ld (.t 2) (some 4), some (15, true)⟩, ⟨some 17, .call (.c (.func (.func 94) #[] #[])) [.t 16], some (15, true)⟩, ⟨some 18, .ld (.t 5) (some 15), some (15, true)⟩, ⟨some 19, .eqA false [1, 1, 0, 0, 0, 0, 0, 0, 0, 0, 0, 0, 0, 0, 1] (.t 17) (.t 18), some (15, true)⟩, ⟨some 20, .pick (.t 15) (.t 19) (.c (.bool false)), none⟩, ⟨some 4, .mv (.t 20), none⟩] [(5, 6)]) .ret)))⟩
theorem k65 : tab Try.prog 65 = some kf65 := by kernel_rfl
def opMap : CO := .map [{ key := .int .i64 5, val := .int .i64 6, born := 0 }, { key := .int .i64 6, val := .int .i64 5, born := 1 }, { key := .int .i64 7, val := .int .i64 8, born := 2 }, { key := .int .i64 8, val := .int .i64 7, born := 3 }] 4
theorem opposite_ret (H : Heap) : Ret (tab Try.prog) 104 [] H (.map (some (H.length + 0))) (H ++ [opMap]) := by
  refine Ret_own k104 rfl ?_
  refine AX_seq (AX_E (E_mv (v := .map none) rfl (E_nil (AX_seq (AX_E (E_mkM ?_))))))
  refine E_ins (k := 0) rfl rfl rfl rfl rfl rfl rfl (E_ins (k := 0) rfl rfl rfl rfl rfl rfl rfl (E_ins (k := 0) rfl rfl rfl rfl rfl rfl rfl (E_ins (k := 0) rfl rfl rfl rfl rfl rfl rfl ?_)))
  refine E_mv (v := .map _) rfl (E_mv (v := .map _) rfl (E_nil (AX_ret ?_)))
  refine ⟨_, rfl, by simp, ?_⟩
  exact ⟨rfl, forget_more rfl⟩
theorem undone_ret (H : Heap) (n : Int) : Ret (tab Try.prog) 85 [.int .i64 n] H (.int .i64 (oppM n)) H := by
  refine Ret_own k85 rfl ?_
  refine AX_seq (AX_E (E_mv (v := .int _ _) rfl (E_nil (AX_seq (AX_seq (AX_E (E_callX rfl (opposite_ret _) (E_mv (v := .int _ _) rfl ?_))))))))
  have hb : ((H ++ ([] ++ [opMap])) ++ [])[(H ++ []).length + 0]? = some opMap := by simp
  by_cases hn : n = 5 ∨ n = 6 ∨ n = 7 ∨ n = 8
  · have hf : ∃ j, findK 1 (.int .i64 n) [{ key := .int .i64 5, val := .int .i64 6, born := 0 }, { key := .int .i64 6, val := .int .i64 5, born := 1 }, { key := .int .i64 7, val := .int .i64 8, born := 2 }, { key := .int .i64 8, val := .int .i64 7, born := 3 }] 0 = some (some (j, .int .i64 (oppM n))) := by
      rcases hn with rfl | rfl | rfl | rfl
      · exact ⟨0, rfl⟩
      · exact ⟨1, rfl⟩
      · exact ⟨2, rfl⟩
      · exact ⟨3, rfl⟩
    obtain ⟨j, hf⟩ := hf
    refine E_lk rfl hb rfl rfl hf (E_mv (v := .tuple _) rfl (E_ext (v := .int _ _) rfl rfl (E_ext (v := .bool _) rfl rfl (E_mv (v := .int _ _) rfl (E_mv (v := .bool _) rfl (E_nil (AX_seq (AX_E (E_mv (v := .bool _) rfl (E_nil (AX_condT rfl (AX_seq (AX_E (E_mv (v := .int _ _) rfl (E_mv (v := .int _ _) rfl (E_nil (AX_ret ?_)))))))))))))))))
    exact ⟨_, rfl, by simp, rfl, forget_flat rfl ((List.prefix_append _ _).trans (List.prefix_append _ _))⟩
  · have hf : findK 1 (.int .i64 n) [{ key := .int .i64 5, val := .int .i64 6, born := 0 }, { key := .int .i64 6, val := .int .i64 5, born := 1 }, { key := .int .i64 7, val := .int .i64 8, born := 2 }, { key := .int .i64 8, val := .int .i64 7, born := 3 }] 0 = some none := by
      have h5 : (n == 5) = false := by simpa using fun e => hn (.inl e)
      have h6 : (n == 6) = false := by simpa using fun e => hn (.inr (.inl e))
      have h7 : (n == 7) = false := by simpa using fun e => hn (.inr (.inr (.inl e)))
      have h8 : (n == 8) = false := by simpa using fun e => hn (.inr (.inr (.inr e)))
      simp [findK, cellEq, h5, h6, h7, h8]
    have ho : oppM n = n := by unfold oppM; (repeat' split) <;> omega
    refine E_lk rfl hb rfl rfl hf (E_mv (v := .tuple _) rfl (E_ext (v := .int _ _) rfl rfl (E_ext (v := .bool _) rfl rfl (E_mv (v := .int _ _) rfl (E_mv (v := .bool _) rfl (E_nil (AX_seq (AX_E (E_mv (v := .bool _) rfl (E_nil (AX_condF rfl (AX_skip (AX_seq (AX_E (E_mv (v := .int _ _) rfl (E_mv (v := .int _ _) rfl (E_nil (AX_ret ?_))))))))))))))))))
    exact ⟨_, rfl, by simp, by rw [ho]; rfl, forget_flat rfl ((List.prefix_append _ _).trans (List.prefix_append _ _))⟩
def lastM (g : G) : Int := if g.k = 9 ∨ g.k = 12 then g.ws.getD (g.ws.length - 1) 0 else 0
abbrev dv (k f : Int) (u : Nat → Bool) (l : Int) : Value := .agg #[.int .i64 k, .int .i64 f, .bool (u 0), .bool (u 1), .bool (u 2), .bool (u 3), .bool (u 4), .bool (u 5), .bool (u 6), .bool (u 7), .bool (u 8), .bool (u 9), .bool (u 10), .bool (u 11), .int .i64 l]
theorem doing_ret (H : Heap) (g : G) (p : Pl) {S : Nat → Prop} (hv : Ints S H p g.ws) (hg : GR g) : Ret (tab Try.prog) 94 [gv g p] H (dv g.k g.f (ofM g.ws) (lastM g)) H := by
  have hl := hg.len
  have el := getD_at (l := g.ws) (j := g.ws.length - 1) (by omega)
  refine Ret_own k94 rfl ?_
  refine AX_seq (AX_E (E_boxA rfl (E_new (E_nil (AX_seq (AX_E (E_fa rfl (E_ldO (k := 0) (v := .int .i64 (g.k)) rfl rfl (E_fa rfl (E_ldO (k := 0) (v := .int .i64 (g.f)) rfl rfl (E_ldON (k := 0) rfl rfl (E_callV rfl (of_ret _ g _ hv.app (by assumption)) (E_mk (cs := [.int .i64 (g.k), .int .i64 (g.f), .bool ((ofM g.ws) 0), .bool ((ofM g.ws) 1), .bool ((ofM g.ws) 2), .bool ((ofM g.ws) 3), .bool ((ofM g.ws) 4), .bool ((ofM g.ws) 5), .bool ((ofM g.ws) 6), .bool ((ofM g.ws) 7), .bool ((ofM g.ws) 8), .bool ((ofM g.ws) 9), .bool ((ofM g.ws) 10), .bool ((ofM g.ws) 11), .int .i64 (0)]) rfl (E_new (E_stO (k := 2) rfl rfl (v := .agg _) rfl rfl rfl rfl (E_nil (AX_seq (AX_seq (AX_E (E_fa rfl (E_ldO (k := 0) (v := .int .i64 (g.k)) rfl rfl (E_eqlS rfl rfl (fun c13 => ?_) (fun c13 => ?_)))))))))))))))))))))))
  · refine E_mv (v := .bool _) rfl (E_notF rfl (E_notF rfl (E_notF rfl (E_pickT rfl (v := .bool _) rfl (E_nil (AX_condT rfl (AX_E (E_fa rfl (E_ldO (k := 0) (v := .slice _ _ _) rfl rfl (E_fa rfl (E_ldO (k := 0) (v := .slice _ _ _) rfl rfl (E_len (n := (g.ws).length) rfl (E_subI rfl rfl (by first | omega | (simp; done) | (simp; omega)) (by first | omega | (simp; done) | (simp; omega)) (have ix1 : g.ws.length - 1 < (g.ws).length := (by first | omega | (simp; done) | (simp; omega)); E_iaIb (j := g.ws.length - 1) rfl hv rfl rfl (by first | rfl | omega) ix1 fun b1 o1 w1 => (E_ldB (v := .int .i64 (g.ws[g.ws.length - 1]'ix1)) rfl w1 (E_fa rfl (E_stO (k := 2) rfl rfl (v := .int .i64 (g.ws[g.ws.length - 1]'ix1)) rfl rfl rfl rfl (E_nil (AX_seq (AX_E (E_ldON (k := 2) rfl rfl (E_stO (k := 1) rfl rfl (v := .agg _) rfl rfl rfl rfl (E_nil (AX_ret ?_))))))))))))))))))))))))
    refine ⟨_, (res1 (res_cellN (k := 1) rfl rfl)), by simp, ?_, forget_flat rfl (List.prefix_append _ _)⟩
    -- r1
    first | (rw [lastM, if_pos (by omega), ← el]; rfl) | (rw [lastM, if_neg (by omega)]; rfl)
  · refine E_mv (v := .bool _) rfl (E_on rfl (E_fa rfl (E_on rfl (E_ldO (k := 0) (v := .int .i64 (g.k)) rfl rfl (E_on rfl (E_eqlS rfl rfl (fun c17 => ?_) (fun c17 => ?_)))))))
    · refine E_pickF rfl (v := .bool _) rfl (E_nil (AX_condT rfl (AX_E (E_fa rfl (E_ldO (k := 0) (v := .slice _ _ _) rfl rfl (E_fa rfl (E_ldO (k := 0) (v := .slice _ _ _) rfl rfl (E_len (n := (g.ws).length) rfl (E_subI rfl rfl (by first | omega | (simp; done) | (simp; omega)) (by first | omega | (simp; done) | (simp; omega)) (have ix2 : g.ws.length - 1 < (g.ws).length := (by first | omega | (simp; done) | (simp; omega)); E_iaIb (j := g.ws.length - 1) rfl hv rfl rfl (by first | rfl | omega) ix2 fun b2 o2 w2 => (E_ldB (v := .int .i64 (g.ws[g.ws.length - 1]'ix2)) rfl w2 (E_fa rfl (E_stO (k := 2) rfl rfl (v := .int .i64 (g.ws[g.ws.length - 1]'ix2)) rfl rfl rfl rfl (E_nil (AX_seq (AX_E (E_ldON (k := 2) rfl rfl (E_stO (k := 1) rfl rfl (v := .agg _) rfl rfl rfl rfl (E_nil (AX_ret ?_))))))))))))))))))))
      refine ⟨_, (res1 (res_cellN (k := 1) rfl rfl)), by simp, ?_, forget_flat rfl (List.prefix_append _ _)⟩
      -- r2
      first | (rw [lastM, if_pos (by omega), ← el]; rfl) | (rw [lastM, if_neg (by omega)]; rfl)
    · refine E_pickF rfl (v := .bool _) rfl (E_nil (AX_condF rfl (AX_skip (AX_seq (AX_E (E_ldON (k := 2) rfl rfl (E_stO (k := 1) rfl rfl (v := .agg _) rfl rfl rfl rfl (E_nil (AX_ret ?_)))))))))
      refine ⟨_, (res1 (res_cellN (k := 1) rfl rfl)), by simp, ?_, forget_flat rfl (List.prefix_append _ _)⟩
      -- r3
      first | (rw [lastM, if_pos (by omega), ← el]; rfl) | (rw [lastM, if_neg (by omega)]; rfl)
theorem dv_eq {k f l k' f' l' : Int} {u u' : Nat → Bool} [Decidable (k = k' ∧ f = f' ∧ (∀ i, i < 12 → u i = u' i) ∧ l = l')] : cellsEq [1, 1, 0, 0, 0, 0, 0, 0, 0, 0, 0, 0, 0, 0, 1] [.int .i64 k, .int .i64 f, .bool (u 0), .bool (u 1), .bool (u 2), .bool (u 3), .bool (u 4), .bool (u 5), .bool (u 6), .bool (u 7), .bool (u 8), .bool (u 9), .bool (u 10), .bool (u 11), .int .i64 l] [.int .i64 k', .int .i64 f', .bool (u' 0), .bool (u' 1), .bool (u' 2), .bool (u' 3), .bool (u' 4), .bool (u' 5), .bool (u' 6), .bool (u' 7), .bool (u' 8), .bool (u' 9), .bool (u' 10), .bool (u' 11), .int .i64 l'] = some (decide (k = k' ∧ f = f' ∧ (∀ i, i < 12 → u i = u' i) ∧ l = l')) := by
  have : (∀ i, i < 12 → u i = u' i) ↔ u 0 = u' 0 ∧ u 1 = u' 1 ∧ u 2 = u' 2 ∧ u 3 = u' 3 ∧ u 4 = u' 4 ∧ u 5 = u' 5 ∧ u 6 = u' 6 ∧ u 7 = u' 7 ∧ u 8 = u' 8 ∧ u 9 = u' 9 ∧ u 10 = u' 10 ∧ u 11 = u' 11 := by
    constructor
    · intro H; exact ⟨H 0 (by decide), H 1 (by decide), H 2 (by decide), H 3 (by decide), H 4 (by decide), H 5 (by decide), H 6 (by decide), H 7 (by decide), H 8 (by decide), H 9 (by decide), H 10 (by decide), H 11 (by decide)⟩
    · rintro ⟨h0, h1, h2, h3, h4, h5, h6, h7, h8, h9, h10, h11⟩ j hj
      have : j = 0 ∨ j = 1 ∨ j = 2 ∨ j = 3 ∨ j = 4 ∨ j = 5 ∨ j = 6 ∨ j = 7 ∨ j = 8 ∨ j = 9 ∨ j = 10 ∨ j = 11 := by omega
      rcases this with h | h | h | h | h | h | h | h | h | h | h | h <;> subst h <;> assumption
  simp only [cellsEq, cellEq, Option.some.injEq, if_true]
  rw [Bool.eq_iff_iff, decide_eq_true_iff, this]
  simp [and_assoc]
def pundoM (g h : G) : Prop := g.k ≤ 12 ∧ g.k = oppM h.k ∧ g.f = h.f ∧ (∀ i, i < 12 → ofM g.ws i = ofM h.ws i) ∧ lastM g = lastM h
open Classical in
theorem pundo_ret0 (H : Heap) (g h : G) (p q : Pl) {S S' : Nat → Prop} (hv : Ints S H p g.ws) (hu : Ints S' H q h.ws) (hg : GR g) (hh : GR h) : Ret (tab Try.prog) 65 [gv g p, gv h q] H (.bool (decide (pundoM g h))) H := by
  refine Ret_own k65 rfl ?_
  refine AX_seq (AX_E (E_boxA rfl (E_boxA rfl (E_mv (v := .bool _) rfl (E_nil (AX_seq (AX_E (E_ldON (k := 1) rfl rfl (E_callV rfl (doing_ret _ h _ hu.app (by assumption)) (E_new (E_stO (k := 2) rfl rfl (v := .agg _) rfl rfl rfl rfl (E_nil (AX_seq (AX_E (E_fa rfl (E_ldO (k := 2) (v := .int .i64 (h.k)) rfl rfl (E_callV rfl (undone_ret _ _) (E_fa rfl (E_stO (k := 2) rfl rfl (v := .int .i64 (oppM (h.k))) rfl rfl rfl rfl (E_nil (AX_seq (AX_E (E_fa rfl (E_ldO (k := 0) (v := .int .i64 (g.k)) rfl rfl (E_leqS rfl rfl (fun c14 => ?_) (fun c14 => ?_))))))))))))))))))))))))))
  · refine E_mv (v := .bool _) rfl (E_on rfl (E_ldON (k := 0) rfl rfl (E_on rfl (E_callV rfl (doing_ret _ g _ hv.app (by assumption)) (E_on rfl (E_ldON (k := 2) rfl rfl (E_on rfl (E_eqAP rfl rfl (dv_eq (u := ofM g.ws) (u' := ofM h.ws)) (fun c19 => ?_) (fun c19 => ?_)))))))))
    · refine E_pickT rfl (v := .bool _) rfl (E_mv (v := .bool _) rfl (E_nil (AX_ret ?_)))
      refine ⟨_, rfl, by simp, ?_, forget_flat rfl (List.prefix_append _ _)⟩
      -- r1
      refine congrArg (Value.bool) ?_
      refine (decide_eq_true ?_).symm
      first | exact ⟨c14, c19⟩ | exact fun x => c19 x.2 | exact fun x => c14 x.1
    · refine E_pickT rfl (v := .bool _) rfl (E_mv (v := .bool _) rfl (E_nil (AX_ret ?_)))
      refine ⟨_, rfl, by simp, ?_, forget_flat rfl (List.prefix_append _ _)⟩
      -- r2
      refine congrArg (Value.bool) ?_
      refine (decide_eq_false ?_).symm
      first | exact ⟨c14, c19⟩ | exact fun x => c19 x.2 | exact fun x => c14 x.1
  · refine E_mv (v := .bool _) rfl (E_notT rfl (E_notT rfl (E_notT rfl (E_notT rfl (E_pickF rfl (v := .bool _) rfl (E_mv (v := .bool _) rfl (E_nil (AX_ret ?_))))))))
    refine ⟨_, rfl, by simp, ?_, forget_flat rfl (List.prefix_append _ _)⟩
    -- r3
    refine congrArg (Value.bool) ?_
    refine (decide_eq_false ?_).symm
    first | exact ⟨c14, c19⟩ | exact fun x => c19 x.2 | exact fun x => c14 x.1
end Go.Canon
namespace Go.Canon
open Go Go.Proofs
set_option linter.unusedVariables false
set_option linter.unusedSimpArgs false
theorem shape1 {g : G} (hg : GR g) (hk : arityM g.k = 1) : ∃ a, g.ws = [a] := by
  have h1 := hg.ar
  match hw : g.ws with
  | [a] => exact ⟨a, rfl⟩
  | [] => rw [hw, hk] at h1; simp at h1
  | a :: b :: t => rw [hw, hk] at h1; simp only [List.length_cons] at h1; omega
theorem shape2 {g : G} (hg : GR g) (hk : arityM g.k = 2) : ∃ a b, g.ws = [a, b] ∧ a ≠ b := by
  have h1 := hg.ar
  have h3 := hg.nd
  match hw : g.ws with
  | [a, b] => rw [hw] at h3; exact ⟨a, b, rfl, by simpa using h3⟩
  | [] => rw [hw, hk] at h1; simp at h1
  | [a] => rw [hw, hk] at h1; simp at h1
  | a :: b :: c :: t => rw [hw, hk] at h1; simp only [List.length_cons] at h1; omega
theorem shape3 {g : G} (hg : GR g) (hk : arityM g.k = 3) : ∃ a b c, g.ws = [a, b, c] ∧ a ≠ b ∧ a ≠ c ∧ b ≠ c := by
  have h1 := hg.ar
  have h3 := hg.nd
  match hw : g.ws with
  | [a, b, c] => rw [hw] at h3; exact ⟨a, b, c, rfl, by simp at h3; omega⟩
  | [] => rw [hw, hk] at h1; simp at h1
  | [a] => rw [hw, hk] at h1; simp at h1
  | [a, b] => rw [hw, hk] at h1; simp at h1
  | a :: b :: c :: d :: t => rw [hw, hk] at h1; simp only [List.length_cons] at h1; omega
theorem opp_opp {a b : Int} : a = oppM b ↔ b = oppM a := by unfold oppM; (repeat' split) <;> omega
theorem opp_ar (a : Int) : arityM (oppM a) = arityM a := by unfold oppM arityM; (repeat' split) <;> omega
theorem pundo_iff {g h : G} (hg : GR g) (hh : GR h) : pundoM g h ↔ undoM g h := by
  unfold pundoM undoM
  rw [of_eq hg hh, opp_opp]
  by_cases hk : h.k = oppM g.k
  · by_cases h12 : g.k ≤ 12
    · have hkk := hg.kind
      have ha : arityM h.k = arityM g.k := by rw [hk, opp_ar]
      by_cases c1 : g.k = 10 ∨ g.k = 11
      · have hh' : h.k = g.k := by rw [hk]; unfold oppM; (repeat' split) <;> omega
        rw [if_pos c1, alike_iff hg hh c1 (by omega)]
        have l1 : lastM g = 0 := by rw [lastM, if_neg (by omega)]
        have l2 : lastM h = 0 := by rw [lastM, if_neg (by omega)]
        rw [l1, l2]
        constructor
        · rintro ⟨a, b, c, d, _⟩; exact ⟨c, by omega, b, d⟩
        · rintro ⟨a, b, c, d⟩; exact ⟨by omega, c, a, d, rfl⟩
      · rw [if_neg c1]
        by_cases c2 : g.k = 12
        · have hh' : h.k = g.k := by rw [hk]; unfold oppM; (repeat' split) <;> omega
          obtain ⟨a, b, c, e1, n1⟩ := shape3 hg (by rw [c2]; rfl)
          obtain ⟨a', b', c', e2, n2⟩ := shape3 hh (by rw [hh', c2]; rfl)
          rw [if_pos c2]
          have l1 : lastM g = c := by rw [lastM, if_pos (by omega), e1]; rfl
          have l2 : lastM h = c' := by rw [lastM, if_pos (by omega), e2]; rfl
          rw [l1, l2]
          simp only [alikeM, e1, e2, List.mem_cons, List.not_mem_nil, or_false, List.getD_cons_zero, List.getD_cons_succ]
          constructor
          · rintro ⟨_, x, y, z, w⟩
            exact ⟨y, by omega, x, w, (z a).1 (.inl rfl), (z b).1 (.inr (.inl rfl))⟩
          · rintro ⟨x, y, z, w, u, v⟩
            exact ⟨h12, z, x, fun t => by omega, w⟩
        · rw [if_neg c2]
          have cases : arityM g.k = 1 ∧ g.k ≠ 9 ∨ g.k = 9 := by unfold arityM; (repeat' split) <;> omega
          rcases cases with ⟨h1, h9⟩ | h9
          · have h9' : h.k ≠ 9 ∧ h.k ≠ 12 := by rw [hk]; unfold oppM; (repeat' split) <;> omega
            obtain ⟨a, e1⟩ := shape1 hg h1
            obtain ⟨b, e2⟩ := shape1 hh (by rw [ha, h1])
            have l1 : lastM g = 0 := by rw [lastM, if_neg (by omega)]
            have l2 : lastM h = 0 := by rw [lastM, if_neg (by omega)]
            rw [l1, l2, e1, e2]
            simp only [List.mem_cons, List.not_mem_nil, or_false, List.cons.injEq, and_true]
            constructor
            · rintro ⟨_, x, y, z⟩
              exact ⟨y, by omega, x, (z a).1 rfl⟩
            · rintro ⟨x, y, z, w⟩
              exact ⟨h12, z, x, fun t => by rw [w]⟩
          · have hh' : h.k = g.k := by rw [hk]; unfold oppM; (repeat' split) <;> omega
            obtain ⟨a, b, e1, n1⟩ := shape2 hg (by rw [h9]; rfl)
            obtain ⟨a', b', e2, n2⟩ := shape2 hh (by rw [hh', h9]; rfl)
            have l1 : lastM g = b := by rw [lastM, if_pos (by omega), e1]; rfl
            have l2 : lastM h = b' := by rw [lastM, if_pos (by omega), e2]; rfl
            rw [l1, l2, e1, e2]
            simp only [List.mem_cons, List.not_mem_nil, or_false, List.cons.injEq, and_true]
            constructor
            · rintro ⟨_, x, y, z, w⟩
              have := (z a).1 (.inl rfl)
              exact ⟨y, by omega, x, by omega, w⟩
            · rintro ⟨x, y, z, w, v⟩
              exact ⟨h12, z, x, fun t => by rw [w, v], v⟩
    · constructor
      · rintro ⟨x, _⟩; exact (h12 x).elim
      · rintro ⟨_, x, _⟩; exact (h12 (by omega)).elim
  · constructor
    · rintro ⟨_, x, _⟩; exact (hk x).elim
    · rintro ⟨_, _, x, _⟩; exact (hk x).elim
theorem pundo_symm {g h : G} (hg : GR g) (hh : GR h) : pundoM g h → pundoM h g := by
  rintro ⟨a, b, c, d, e⟩
  have := hh.kind
  refine ⟨?_, opp_opp.1 b, c.symm, fun i hi => (d i hi).symm, e.symm⟩
  unfold oppM at b
  (repeat' split at b) <;> omega
theorem undo_symm {g h : G} (hg : GR g) (hh : GR h) : undoM g h ↔ undoM h g := by
  rw [← pundo_iff hg hh, ← pundo_iff hh hg]
  exact ⟨pundo_symm hg hh, pundo_symm hh hg⟩
theorem touch_symm {g h : G} : touchM g h ↔ touchM h g := by unfold touchM; omega
theorem meet_symm {g h : G} : meetM g h ↔ meetM h g := by
  unfold meetM
  rw [touch_symm]
  constructor
  · rintro (⟨x, a, b⟩ | x)
    · exact .inl ⟨x, b, a⟩
    · exact .inr x
  · rintro (⟨x, a, b⟩ | x)
    · exact .inl ⟨x, b, a⟩
    · exact .inr x
theorem comm_symm {g h : G} (hg : GR g) (hh : GR h) : commM g h ↔ commM h g := by
  unfold commM
  rw [meet_symm (g := g), touch_symm (g := g)]
  by_cases c : (g.k = 11 ∧ (h.k = 10 ∨ h.k = 11)) ∨ (h.k = 11 ∧ g.k = 10)
  · rw [if_pos c, if_pos (by omega), ← alike_iff hg hh (by omega) (by omega), ← alike_iff hh hg (by omega) (by omega)]
    constructor
    · rintro (x | ⟨x, y⟩)
      · exact .inl x
      · exact .inr ⟨x, fun z => (y z).symm⟩
    · rintro (x | ⟨x, y⟩)
      · exact .inl x
      · exact .inr ⟨x, fun z => (y z).symm⟩
  · rw [if_neg c, if_neg (by omega)]
    constructor
    · rintro (x | ⟨x, y⟩)
      · exact .inl x
      · exact .inr ⟨x, fun z a b => ⟨(y z b a).2 ▸ (y z b a).1, (y z b a).2.symm⟩⟩
    · rintro (x | ⟨x, y⟩)
      · exact .inl x
      · exact .inr ⟨x, fun z a b => ⟨(y z b a).2 ▸ (y z b a).1, (y z b a).2.symm⟩⟩
theorem pundo_ret (H : Heap) (g h : G) (p q : Pl) {S S' : Nat → Prop} (hv : Ints S H p g.ws) (hu : Ints S' H q h.ws) (hg : GR g) (hh : GR h) : Ret (tab Try.prog) 65 [gv g p, gv h q] H (.bool (decide (undoM g h))) H := by
  have := pundo_ret0 H g h p q hv hu hg hh
  rwa [decide_eq_decide.2 (pundo_iff hg hh)] at this
end Go.Canon
namespace Go.Canon
open Go Go.Proofs
set_option linter.unusedVariables false
set_option linter.unusedSimpArgs false
def kf63 : KFunc := ⟨3, 49, [.cell 6 (some 4), .cell 7 (some 4), .tmp 8], .seq (.reg [⟨some 3, .box (.t 0), none⟩, ⟨some 6, .new [.int .i64 0, .slice none 0 0, .int .i64 0, .int .i64 0], none⟩, ⟨some 7, .new [.int .i64 0, .slice none 0 0, .int .i64 0, .int .i64 0], none⟩, ⟨some 8, .mv (.c (.int .i64 0)), none⟩] []) (.seq (.seq (.reg [⟨some 10, .ld (.t 3) (some 3), none⟩, ⟨some 11, .call (.c (.func (.func 32) #[] #[])) [.t 10], none⟩, ⟨some 9, .mv (.t 11), none⟩] []) (.seq (.reg [⟨some 12, .mv (.t 9), none⟩, ⟨some 13, .bin .neq (.t 12) (.c (.int .i64 0)), none⟩] []) (.cond (.t 13) (.seq (.reg [⟨some 14, .ld (.t 6) (some 4), none⟩, ⟨some 15, .ld (.t 7) (some 4), none⟩, ⟨some 16, .mv (.t 9), none⟩, ⟨none, .st (.t 6) (.t 14) 4, none⟩, ⟨none, .st (.t 7) (.t 15) 4, none⟩, ⟨some 8, .mv (.t 16), none⟩] [(1, 3)]) .ret) .skip))) (.seq (.seq (.reg [⟨some 17, .mv (.t 1), none⟩, ⟨some 18, .bin .lss (.t 17) (.c (.int .i64 0)), none⟩, ⟨some 19, .mv (.t 18), none⟩, ⟨some 20, .mv (.t 2), some (19, false)⟩, ⟨some 21, .bin .lss (.t 20) (.c (.int .i64 0)), some (19, false)⟩, ⟨some 22, .pick (.t 19) (.c (.bool true)) (.t 21), none⟩, ⟨some 23, .mv (.t 22), none⟩, ⟨some 24, .mv (.t 1), some (23, false)⟩, ⟨some 25, .fa (.t 3) 2, some (23, false)⟩, ⟨some 26, .ld (.t 25) none, some (23, false)⟩, ⟨some 27, .len (.t 26), some (23, false)⟩, ⟨some 28, .bin .geq (.t 24) (.t 27), some (23, false)⟩, ⟨some 29, .pick (.t 23) (.c (.bool true)) (.t 28), none⟩, ⟨some 30, .mv (.t 29), none⟩, ⟨some 31, .mv (.t 2), some (30, false)⟩, ⟨some 32, .fa (.t 3) 2, some (30, false)⟩, ⟨some 33, .ld (.t 32) none, some (30, false)⟩, ⟨some 34, .len (.t 33), some (30, false)⟩, ⟨some 35, .bin .geq (.t 31) (.t 34), some (30, false)⟩, ⟨some 36, .pick (.t 30) (.c (.bool true)) (.t 35), none⟩] []) (.cond (.t 36) (.seq (.reg [⟨some 37, .ld (.t 6) (some 4), none⟩, ⟨some 38, .ld (.t 7) (some 4), none⟩, ⟨none, .st (.t 6) (.t 37) 4, none⟩, ⟨none, .st (.t 7) (.t 38) 4, none⟩, ⟨some 8, .mv (.c (.int .i64 1)), none⟩] [(1, 2)]) .ret) .skip)) (.seq (.reg [⟨some 39, .fa (.t 3) 2, none⟩, ⟨some 40, .ld (.t 39) none, none⟩, ⟨some 41, .mv (.t 1), none⟩, ⟨some 42, .iaS (.t 40) (.t 41) 4, none⟩, ⟨some 43, .ld (.t 42) (some 4), none⟩, ⟨some 44, .fa (.t 3) 2, none⟩, ⟨some 45, .ld (.t 44) none, none⟩, ⟨some 46, .mv (.t 2), none⟩, ⟨some 47, .iaS (.t 45) (.t 46) 4, none⟩, ⟨some 48, .ld (.t 47) (some 4), none⟩, ⟨none, .st (.t 6) (.t 43) 4, none⟩, ⟨none, .st (.t 7) (.t 48) 4, none⟩, ⟨some 8, .mv (.c (.int .i64 0)), none⟩] [(6, 10), (9, 10)]) .ret)))⟩
theorem k63 : tab Try.prog 63 = some kf63 := by kernel_rfl
def kf15 : KFunc := ⟨3, 25, [.tmp 6, .tmp 7], .seq (.reg [⟨some 3, .box (.t 0), none⟩, ⟨some 6, .mv (.c (.bool false)), none⟩, ⟨some 7, .mv (.c (.int .i64 0)), none⟩] []) (.seq (.reg [⟨some 12, .ld (.t 3) (some 3), none⟩, ⟨some 13, .mv (.t 1), none⟩, ⟨some 14, .mv (.t 2), none⟩, ⟨some 15, .call (.c (.func (.func 63) #[] #[])) [.t 12, .t 13, .t 14], none⟩, ⟨some 11, .mv (.t 15), none⟩, ⟨some 16, .ext (.t 11) 0, none⟩, ⟨some 17, .ext (.t 11) 1, none⟩, ⟨some 18, .ext (.t 11) 2, none⟩, ⟨some 8, .new [.int .i64 0, .slice none 0 0, .int .i64 0, .int .i64 0], none⟩, ⟨some 9, .new [.int .i64 0, .slice none 0 0, .int .i64 0, .int .i64 0], none⟩, ⟨none, .st (.t 8) (.t 16) 4, none⟩, ⟨none, .st (.t 9) (.t 17) 4, none⟩, ⟨some 10, .mv (.t 18), none⟩] []) (.seq (.seq (.reg [⟨some 19, .mv (.t 10), none⟩, ⟨some 20, .bin .neq (.t 19) (.c (.int .i64 0)), none⟩] []) (.cond (.t 20) (.seq (.reg [⟨some 21, .mv (.t 10), none⟩, ⟨some 6, .mv (.c (.bool false)), none⟩, ⟨some 7, .mv (.t 21), none⟩] []) .ret) .skip)) (.seq (.reg [⟨some 22, .ld (.t 8) (some 4), none⟩, ⟨some 23, .ld (.t 9) (some 4), none⟩, ⟨some 24, .call (.c (.func (.func 64) #[] #[])) [.t 22, .t 23], none⟩, ⟨some 6, .mv (.t 24), none⟩, ⟨some 7, .mv (.c (.int .i64 0)), none⟩] []) .ret)))⟩
theorem k15 : tab Try.prog 15 = some kf15 := by kernel_rfl
def twoE (c : C) (i j : Int) : Int := if checkM c ≠ 0 then checkM c else if i < 0 ∨ j < 0 ∨ (c.gs.length : Int) ≤ i ∨ (c.gs.length : Int) ≤ j then 1 else 0
def twoG (c : C) (i j n : Int) : G := if twoE c i j = 0 then c.gs.getD n.toNat default else ⟨0, [], 0, 0⟩
theorem getG_at {l : List G} {j : Nat} (hj : j < l.length) : l.getD j default = l[j] := by simp [List.getD, hj]
theorem two_ret (H : Heap) (c : C) (p : Pl) (i j : Int) {S : Nat → Prop} (hv : Gates S H p c.gs) (hl : c.gs.length < 4611686018427387904) :
    ∃ X q1 q2, Ret (tab Try.prog) 63 [cv c p, .int .i64 i, .int .i64 j] H (.tuple #[gv (twoG c i j i) q1, gv (twoG c i j j) q2, .int .i64 (twoE c i j)]) (H ++ X) ∧ Ints S H q1 (twoG c i j i).ws ∧ Ints S H q2 (twoG c i j j).ws := by
  have key := Ret_grow (T := tab Try.prog) (f := 63) (args := [cv c p, .int .i64 i, .int .i64 j]) (h := H) (fun u _ => ∃ q1 q2, u = .tuple #[gv (twoG c i j i) q1, gv (twoG c i j j) q2, .int .i64 (twoE c i j)] ∧ Ints S H q1 (twoG c i j i).ws ∧ Ints S H q2 (twoG c i j j).ws) k63 rfl ?_
  · obtain ⟨u, X, hr, q1, q2, rfl, f1, f2⟩ := key
    exact ⟨X, q1, q2, hr, f1, f2⟩
  refine AX_seq (AX_E (E_boxA rfl (E_new (E_new (E_mv (v := .int .i64 (0)) rfl (E_nil (AX_seq (AX_seq (AX_E (E_ldON (k := 0) rfl rfl (E_callV rfl (pcheck_ret _ c _ hv.app (by first | omega | (simp; done) | (simp; omega))) (E_mv (v := .int .i64 (checkM c)) rfl (E_nil (AX_seq (AX_E (E_mv (v := .int .i64 (checkM c)) rfl (E_neqS rfl rfl (fun c13 => ?_) (fun c13 => ?_))))))))))))))))))
  · refine E_nil (AX_condT rfl (AX_seq (AX_EB (fun b => b = (H).length + 1) (E_ldON (k := 1) rfl rfl (E_ldON (k := 2) rfl rfl (E_mv (v := .int .i64 (checkM c)) rfl (E_stP (k := 1) (by first | rfl | exact .inl rfl | exact .inr rfl | exact .inr (.inr rfl)) (by decide) rfl (v := .agg _) rfl rfl rfl rfl (E_stO (k := 2) rfl rfl (v := .agg _) rfl rfl rfl rfl (E_mv (v := .int .i64 (checkM c)) rfl (E_nil (AX_ret ?_)))))))))))
    refine ⟨_, (res3 (res_cellN (k := 1) rfl rfl) (res_cellN (k := 2) rfl rfl) (res_tmp rfl)), by simp, (forget_any (List.prefix_append _ _)).imp fun X e => ⟨e, ?_⟩⟩
    -- r1
    have e0 : twoE c i j = checkM c := by unfold twoE; (repeat' split) <;> omega
    have e1 : twoE c i j ≠ 0 := by omega
    simp only [twoG, if_neg e1]
    exact ⟨(none, 0), (none, 0), by rw [e0]; rfl, Ints.nil, Ints.nil⟩
  · refine E_nil (AX_condF rfl (AX_skip ?_))
    refine AX_cut (X := Unit) (fun _ => [(1, .int .i64 (i)), (2, .int .i64 (j)), (3, .pointer (some ⟨(H).length + 0, 0, none⟩)), (6, .pointer (some ⟨(H).length + 1, 0, none⟩)), (7, .pointer (some ⟨(H).length + 2, 0, none⟩))]) (fun _ h_ m_ => h_ = H ++ [CO.row [.int .i64 (c.w), .int .i64 (c.b), .slice (p).1 (c.gs).length (p).2] true none, CO.row [.int .i64 (0), .slice none 0 0, .int .i64 (0), .int .i64 (0)] true none, CO.row [.int .i64 (0), .slice none 0 0, .int .i64 (0), .int .i64 (0)] true none] ∧ m_ = [] ∧ ¬ (i < 0 ∨ j < 0 ∨ (c.gs.length : Int) ≤ i ∨ (c.gs.length : Int) ≤ j)) ?_ ?_
    · intro Kc36 hNc36 hRc36 hEc36
      refine AX_seq (AX_E (E_mv (v := .int .i64 (i)) rfl (E_lssS rfl rfl (fun c18 => ?_) (fun c18 => ?_))))
      · refine E_mv (v := .bool _) rfl (E_notF rfl (E_notF rfl (E_pickT rfl (v := .bool _) rfl (E_mv (v := .bool _) rfl (E_notF rfl (E_notF rfl (E_notF rfl (E_notF rfl (E_notF rfl (E_pickT rfl (v := .bool _) rfl (E_mv (v := .bool _) rfl (E_notF rfl (E_notF rfl (E_notF rfl (E_notF rfl (E_notF rfl (E_pickT rfl (v := .bool _) rfl (E_nil (AX_condT rfl (AX_seq (AX_EB (fun b => b = (H).length + 1) (E_ldON (k := 1) rfl rfl (E_ldON (k := 2) rfl rfl (E_stP (k := 1) (by first | rfl | exact .inl rfl | exact .inr rfl | exact .inr (.inr rfl)) (by decide) rfl (v := .agg _) rfl rfl rfl rfl (E_stO (k := 2) rfl rfl (v := .agg _) rfl rfl rfl rfl (E_mv (v := .int .i64 (1)) rfl (E_nil (AX_ret (hRc36 _ _ _ ?_)))))))))))))))))))))))))))))
        refine ⟨_, (res3 (res_cellN (k := 1) rfl rfl) (res_cellN (k := 2) rfl rfl) (res_tmp rfl)), by simp, (forget_any (List.prefix_append _ _)).imp fun X e => ⟨e, ?_⟩⟩
        -- r2
        have e0 : twoE c i j = 1 := by unfold twoE; (repeat' split) <;> omega
        have e1 : twoE c i j ≠ 0 := by omega
        simp only [twoG, if_neg e1]
        exact ⟨(none, 0), (none, 0), by rw [e0]; rfl, Ints.nil, Ints.nil⟩
      · refine E_mv (v := .bool _) rfl (E_on rfl (E_mv (v := .int .i64 (j)) rfl (E_on rfl (E_lssS rfl rfl (fun c21 => ?_) (fun c21 => ?_)))))
        · refine E_pickF rfl (v := .bool _) rfl (E_mv (v := .bool _) rfl (E_notF rfl (E_notF rfl (E_notF rfl (E_notF rfl (E_notF rfl (E_pickT rfl (v := .bool _) rfl (E_mv (v := .bool _) rfl (E_notF rfl (E_notF rfl (E_notF rfl (E_notF rfl (E_notF rfl (E_pickT rfl (v := .bool _) rfl (E_nil (AX_condT rfl (AX_seq (AX_EB (fun b => b = (H).length + 1) (E_ldON (k := 1) rfl rfl (E_ldON (k := 2) rfl rfl (E_stP (k := 1) (by first | rfl | exact .inl rfl | exact .inr rfl | exact .inr (.inr rfl)) (by decide) rfl (v := .agg _) rfl rfl rfl rfl (E_stO (k := 2) rfl rfl (v := .agg _) rfl rfl rfl rfl (E_mv (v := .int .i64 (1)) rfl (E_nil (AX_ret (hRc36 _ _ _ ?_))))))))))))))))))))))))))
          refine ⟨_, (res3 (res_cellN (k := 1) rfl rfl) (res_cellN (k := 2) rfl rfl) (res_tmp rfl)), by simp, (forget_any (List.prefix_append _ _)).imp fun X e => ⟨e, ?_⟩⟩
          -- r3
          have e0 : twoE c i j = 1 := by unfold twoE; (repeat' split) <;> omega
          have e1 : twoE c i j ≠ 0 := by omega
          simp only [twoG, if_neg e1]
          exact ⟨(none, 0), (none, 0), by rw [e0]; rfl, Ints.nil, Ints.nil⟩
        · refine E_pickF rfl (v := .bool _) rfl (E_mv (v := .bool _) rfl (E_on rfl (E_mv (v := .int .i64 (i)) rfl (E_on rfl (E_fa rfl (E_on rfl (E_ldO (k := 0) (v := .slice _ _ _) rfl rfl (E_on rfl (E_len (n := (c.gs).length) rfl (E_on rfl (E_geqS rfl rfl (fun c28 => ?_) (fun c28 => ?_))))))))))))
          · refine E_pickF rfl (v := .bool _) rfl (E_mv (v := .bool _) rfl (E_notF rfl (E_notF rfl (E_notF rfl (E_notF rfl (E_notF rfl (E_pickT rfl (v := .bool _) rfl (E_nil (AX_condT rfl (AX_seq (AX_EB (fun b => b = (H).length + 1) (E_ldON (k := 1) rfl rfl (E_ldON (k := 2) rfl rfl (E_stP (k := 1) (by first | rfl | exact .inl rfl | exact .inr rfl | exact .inr (.inr rfl)) (by decide) rfl (v := .agg _) rfl rfl rfl rfl (E_stO (k := 2) rfl rfl (v := .agg _) rfl rfl rfl rfl (E_mv (v := .int .i64 (1)) rfl (E_nil (AX_ret (hRc36 _ _ _ ?_)))))))))))))))))))
            refine ⟨_, (res3 (res_cellN (k := 1) rfl rfl) (res_cellN (k := 2) rfl rfl) (res_tmp rfl)), by simp, (forget_any (List.prefix_append _ _)).imp fun X e => ⟨e, ?_⟩⟩
            -- r4
            have e0 : twoE c i j = 1 := by unfold twoE; (repeat' split) <;> omega
            have e1 : twoE c i j ≠ 0 := by omega
            simp only [twoG, if_neg e1]
            exact ⟨(none, 0), (none, 0), by rw [e0]; rfl, Ints.nil, Ints.nil⟩
          · refine E_pickF rfl (v := .bool _) rfl (E_mv (v := .bool _) rfl (E_on rfl (E_mv (v := .int .i64 (j)) rfl (E_on rfl (E_fa rfl (E_on rfl (E_ldO (k := 0) (v := .slice _ _ _) rfl rfl (E_on rfl (E_len (n := (c.gs).length) rfl (E_on rfl (E_geqS rfl rfl (fun c35 => ?_) (fun c35 => ?_))))))))))))
            · refine E_pickF rfl (v := .bool _) rfl (E_nil (AX_condT rfl (AX_seq (AX_EB (fun b => b = (H).length + 1) (E_ldON (k := 1) rfl rfl (E_ldON (k := 2) rfl rfl (E_stP (k := 1) (by first | rfl | exact .inl rfl | exact .inr rfl | exact .inr (.inr rfl)) (by decide) rfl (v := .agg _) rfl rfl rfl rfl (E_stO (k := 2) rfl rfl (v := .agg _) rfl rfl rfl rfl (E_mv (v := .int .i64 (1)) rfl (E_nil (AX_ret (hRc36 _ _ _ ?_))))))))))))
              refine ⟨_, (res3 (res_cellN (k := 1) rfl rfl) (res_cellN (k := 2) rfl rfl) (res_tmp rfl)), by simp, (forget_any (List.prefix_append _ _)).imp fun X e => ⟨e, ?_⟩⟩
              -- r5
              have e0 : twoE c i j = 1 := by unfold twoE; (repeat' split) <;> omega
              have e1 : twoE c i j ≠ 0 := by omega
              simp only [twoG, if_neg e1]
              exact ⟨(none, 0), (none, 0), by rw [e0]; rfl, Ints.nil, Ints.nil⟩
            · refine E_pickF rfl (v := .bool _) rfl (E_nil (AX_condF rfl (AX_skip ?_)))
              refine hNc36 (()) _ _ _ ⟨by first | rfl | (congr 1; omega), by first | rfl | (congr 1; omega), by first | rfl | (congr 1; omega), by first | rfl | (congr 1; omega), by first | rfl | (congr 1; omega), trivial⟩ ⟨rfl, rfl, ?_⟩
              -- u6
              clear hNc36 hRc36 hEc36
              omega
    rintro ⟨⟩ frc36 hc36 mc36 ⟨rfl, rfl, invc36⟩
    refine AX_seq (AX_EB (fun b => b = (H).length + 1) (E_fa rfl (E_ldO (k := 0) (v := .slice _ _ _) rfl rfl (E_mv (v := .int .i64 (i)) rfl (have ix1 : (i).toNat < (c.gs).length := (by first | omega | (simp; done) | (simp; omega)); E_iaGb (j := (i).toNat) rfl hv rfl rfl (by omega) ix1 fun b1 o1 q1 f1 w1 => (E_ldBN rfl w1 (E_fa rfl (E_ldO (k := 0) (v := .slice _ _ _) rfl rfl (E_mv (v := .int .i64 (j)) rfl (have ix2 : (j).toNat < (c.gs).length := (by first | omega | (simp; done) | (simp; omega)); E_iaGb (j := (j).toNat) rfl hv rfl rfl (by omega) ix2 fun b2 o2 q2 f2 w2 => (E_ldBN rfl w2 (E_stP (k := 1) (by first | rfl | exact .inl rfl | exact .inr rfl | exact .inr (.inr rfl)) (by decide) rfl (v := .agg _) rfl rfl rfl rfl (E_stO (k := 2) rfl rfl (v := .agg _) rfl rfl rfl rfl (E_mv (v := .int .i64 (0)) rfl (E_nil (AX_ret ?_))))))))))))))))
    refine ⟨_, (res3 (res_cellN (k := 1) rfl rfl) (res_cellN (k := 2) rfl rfl) (res_tmp rfl)), by simp, (forget_any (List.prefix_append _ _)).imp fun X e => ⟨e, ?_⟩⟩
    -- r7
    have e1 : twoE c i j = 0 := by unfold twoE; (repeat' split) <;> omega
    simp only [twoG, if_pos e1, e1, getG_at (show i.toNat < c.gs.length by omega), getG_at (show j.toNat < c.gs.length by omega)]
    exact ⟨q1, q2, rfl, f1, f2⟩
theorem two_gr {c : C} {i j n : Int} (e : twoE c i j = 0) (hn : n = i ∨ n = j) : GR (twoG c i j n) := by
  have h := e
  unfold twoE at h
  split at h
  · omega
  · split at h
    · omega
    · rename_i h1 h2
      have hc : CR c := CR.of (by simpa using h1)
      rw [twoG, if_pos e, getG_at (show n.toNat < c.gs.length by omega)]
      exact hc.gr (List.getElem_mem _)
theorem pCommute_ret (H : Heap) (c : C) (p : Pl) (i j : Int) {S : Nat → Prop} (hv : Gates S H p c.gs) (hl : c.gs.length < 4611686018427387904) :
    Ret (tab Try.prog) 15 [cv c p, .int .i64 i, .int .i64 j] H (.tuple #[.bool (if twoE c i j = 0 then decide (commM (twoG c i j i) (twoG c i j j)) else false), .int .i64 (twoE c i j)]) H := by
  refine Ret_own k15 rfl ?_
  refine AX_seq (AX_E (E_boxA rfl (E_mv (v := .bool _) rfl (E_mv (v := .int .i64 (0)) rfl (E_nil (AX_seq (AX_E (E_ldON (k := 0) rfl rfl (E_mv (v := .int .i64 (i)) rfl (E_mv (v := .int .i64 (j)) rfl ?_))))))))))
  obtain ⟨X1, p1, q1, hr1, f1, g1⟩ := two_ret _ c _ (i) (j) hv.app (by first | omega | (simp; done) | (simp; omega))
  refine E_callX (X := X1) rfl (hr1) (E_mv (v := .tuple _) rfl (E_ext (v := .agg _) rfl rfl (E_ext (v := .agg _) rfl rfl (E_ext (v := .int .i64 (twoE c (i) (j))) rfl rfl (E_new (E_new (E_stO (k := 0) rfl rfl (v := .agg _) rfl rfl rfl rfl (E_stO (k := 1) rfl rfl (v := .agg _) rfl rfl rfl rfl (E_mv (v := .int .i64 (twoE c (i) (j))) rfl (E_nil (AX_seq (AX_seq (AX_E (E_mv (v := .int .i64 (twoE c (i) (j))) rfl (E_neqS rfl rfl (fun c20 => ?_) (fun c20 => ?_))))))))))))))))
  · refine E_nil (AX_condT rfl (AX_seq (AX_E (E_mv (v := .int .i64 (twoE c (i) (j))) rfl (E_mv (v := .bool _) rfl (E_mv (v := .int .i64 (twoE c (i) (j))) rfl (E_nil (AX_ret ?_))))))))
    refine ⟨_, rfl, by simp, ?_, forget_flat rfl ((List.prefix_append _ _).trans (List.prefix_append _ _))⟩
    -- r1
    show Value.tuple #[.bool false, .int .i64 (twoE c (i) (j))] = _
    simp [*]
  · refine E_nil (AX_condF rfl (AX_skip (AX_seq (AX_E (E_ldON (k := 0) rfl rfl (E_ldON (k := 1) rfl rfl (E_callP rfl (pcomm_ret _ (twoG c (i) (j) (i)) (twoG c (i) (j) (j)) _ _ f1.grow.app g1.grow.app (two_gr c20 (.inl rfl)) (two_gr c20 (.inr rfl))) (fun c24 => ?_) (fun c24 => ?_))))))))
    · refine E_mv (v := .bool _) rfl (E_mv (v := .int .i64 (0)) rfl (E_nil (AX_ret ?_)))
      refine ⟨_, rfl, by simp, ?_, forget_flat rfl ((List.prefix_append _ _).trans (List.prefix_append _ _))⟩
      -- r2
      show Value.tuple #[.bool true, .int .i64 (0)] = _
      simp [*]
    · refine E_mv (v := .bool _) rfl (E_mv (v := .int .i64 (0)) rfl (E_nil (AX_ret ?_)))
      refine ⟨_, rfl, by simp, ?_, forget_flat rfl ((List.prefix_append _ _).trans (List.prefix_append _ _))⟩
      -- r3
      show Value.tuple #[.bool false, .int .i64 (0)] = _
      simp [*]
end Go.Canon
namespace Go.Canon
open Go Go.Proofs
set_option linter.unusedVariables false
set_option linter.unusedSimpArgs false
def kf83 : KFunc := ⟨1, 9, [.cell 2 (some 4)], .seq (.reg [⟨some 1, .box (.t 0), none⟩, ⟨some 2, .new [.int .i64 0, .slice none 0 0, .int .i64 0, .int .i64 0], none⟩] []) (.seq (.reg [⟨some 3, .mkS [] 0 [], none⟩, ⟨some 4, .fa (.t 1) 1, none⟩, ⟨some 5, .ld (.t 4) none, none⟩, ⟨some 6, .app (.t 3) (.t 5) 1 8, none⟩, ⟨some 7, .fa (.t 1) 1, none⟩, ⟨none, .st (.t 7) (.t 6) 1, none⟩] []) (.seq (.reg [⟨some 8, .ld (.t 1) (some 4), none⟩, ⟨none, .st (.t 2) (.t 8) 4, none⟩] []) .ret))⟩
theorem k83 : tab Try.prog 83 = some kf83 := by kernel_rfl
def kf55 : KFunc := ⟨2, 29, [.cell 4 (some 3)], .seq (.reg [⟨some 2, .box (.t 0), none⟩, ⟨some 4, .new [.int .i64 0, .int .i64 0, .slice none 0 0], none⟩] []) (.seq (.reg [⟨some 7, .fa (.t 2) 0, none⟩, ⟨some 8, .ld (.t 7) none, none⟩, ⟨some 9, .fa (.t 2) 1, none⟩, ⟨some 10, .ld (.t 9) none, none⟩, ⟨some 11, .mk [.int .i64 0, .int .i64 0, .slice none 0 0] [(0, 1, .t 8), (1, 1, .t 10)], none⟩, ⟨some 5, .new [.int .i64 0, .int .i64 0, .slice none 0 0], none⟩, ⟨none, .st (.t 5) (.t 11) 3, none⟩] []) (.seq (.seq (.reg [⟨some 6, .mv (.c (.int .i64 0)), none⟩] []) (.block 0 (.loop (.seq (.seq (.reg [⟨some 12, .mv (.t 6), none⟩, ⟨some 13, .mv (.t 1), none⟩, ⟨some 14, .len (.t 13), none⟩, ⟨some 15, .bin .lss (.t 12) (.t 14), none⟩] []) (.cond (.t 15) .skip (.exit 0))) (.seq (.block 1 (.reg [⟨some 18, .fa (.t 5) 2, none⟩, ⟨some 19, .ld (.t 18) none, none⟩, ⟨some 20, .mv (.t 1), none⟩, ⟨some 21, .mv (.t 6), none⟩, ⟨some 22, .iaS (.t 20) (.t 21) 4, none⟩, ⟨some 23, .ld (.t 22) (some 4), none⟩, ⟨some 24, .call (.c (.func (.func 83) #[] #[])) [.t 23], none⟩, ⟨some 25, .mkS [.int .i64 0, .slice none 0 0, .int .i64 0, .int .i64 0] 1 [(0, 4, .t 24)], none⟩, ⟨some 26, .app (.t 19) (.t 25) 4 48, none⟩, ⟨some 27, .fa (.t 5) 2, none⟩, ⟨none, .st (.t 27) (.t 26) 1, none⟩] [(1, 6)])) (.reg [⟨some 16, .mv (.t 6), none⟩, ⟨some 17, .bin .add (.t 16) (.c (.int .i64 1)), none⟩, ⟨some 6, .mv (.t 17), none⟩] [])))))) (.seq (.reg [⟨some 28, .ld (.t 5) (some 3), none⟩, ⟨none, .st (.t 4) (.t 28) 3, none⟩] []) .ret)))⟩
theorem k55 : tab Try.prog 55 = some kf55 := by kernel_rfl
def kf95 : KFunc := ⟨1, 15, [.cell 2 (some 4)], .seq (.reg [⟨some 1, .box (.t 0), none⟩, ⟨some 2, .new [.int .i64 0, .slice none 0 0, .int .i64 0, .int .i64 0], none⟩] []) (.seq (.reg [⟨some 4, .fa (.t 1) 1, none⟩, ⟨some 5, .ld (.t 4) none, none⟩, ⟨some 6, .len (.t 5), none⟩, ⟨some 7, .mkSl (.t 6) (.t 6) [.int .i64 0] 8, none⟩, ⟨some 3, .mv (.t 7), none⟩] []) (.seq (.reg [⟨some 8, .mv (.t 3), none⟩, ⟨some 9, .fa (.t 1) 1, none⟩, ⟨some 10, .ld (.t 9) none, none⟩, ⟨some 11, .cpy (.t 8) (.t 10) 1, none⟩] []) (.seq (.reg [⟨some 12, .mv (.t 3), none⟩, ⟨some 13, .fa (.t 1) 1, none⟩, ⟨none, .st (.t 13) (.t 12) 1, none⟩] []) (.seq (.reg [⟨some 14, .ld (.t 1) (some 4), none⟩, ⟨none, .st (.t 2) (.t 14) 4, none⟩] []) .ret))))⟩
theorem k95 : tab Try.prog 95 = some kf95 := by kernel_rfl
def kf38 : KFunc := ⟨1, 8, [.tmp 2], .seq (.reg [⟨some 2, .mv (.c (.slice none 0 0)), none⟩] []) (.seq (.seq (.reg [⟨some 3, .mv (.t 0), none⟩, ⟨some 4, .eqN false 0 (.t 3), none⟩] []) (.cond (.t 4) (.seq (.reg [⟨some 2, .mv (.c (.slice none 0 0)), none⟩] []) .ret) .skip)) (.seq (.reg [⟨some 5, .mkS [] 0 [], none⟩, ⟨some 6, .mv (.t 0), none⟩, ⟨some 7, .app (.t 5) (.t 6) 1 8, none⟩, ⟨some 2, .mv (.t 7), none⟩] []) .ret))⟩
theorem k38 : tab Try.prog 38 = some kf38 := by kernel_rfl
def kf72 : KFunc := ⟨1, 8, [.tmp 2], .seq (.reg [⟨some 2, .mv (.c (.slice none 0 0)), none⟩] []) (.seq (.seq (.reg [⟨some 3, .mv (.t 0), none⟩, ⟨some 4, .eqN false 0 (.t 3), none⟩] []) (.cond (.t 4) (.seq (.reg [⟨some 2, .mv (.c (.slice none 0 0)), none⟩] []) .ret) .skip)) (.seq (.reg [⟨some 5, .mkS [] 0 [], none⟩, ⟨some 6, .mv (.t 0), none⟩, ⟨some 7, .app (.t 5) (.t 6) 4 48, none⟩, ⟨some 2, .mv (.t 7), none⟩] []) .ret))⟩
theorem k72 : tab Try.prog 72 = some kf72 := by kernel_rfl
def kf8 : KFunc := ⟨1, 35, [.cell 2 (some 3)], .seq (.reg [⟨some 1, .box (.t 0), none⟩, ⟨some 2, .new [.int .i64 0, .int .i64 0, .slice none 0 0], none⟩] []) (.seq (.reg [⟨some 6, .fa (.t 1) 0, none⟩, ⟨some 7, .ld (.t 6) none, none⟩, ⟨some 8, .fa (.t 1) 1, none⟩, ⟨some 9, .ld (.t 8) none, none⟩, ⟨some 10, .mk [.int .i64 0, .int .i64 0, .slice none 0 0] [(0, 1, .t 7), (1, 1, .t 9)], none⟩, ⟨some 3, .new [.int .i64 0, .int .i64 0, .slice none 0 0], none⟩, ⟨none, .st (.t 3) (.t 10) 3, none⟩] []) (.seq (.seq (.reg [⟨some 11, .fa (.t 1) 2, none⟩, ⟨some 12, .ld (.t 11) none, none⟩, ⟨some 13, .len (.t 12), none⟩, ⟨some 14, .mv (.c (.int .i64 0)), none⟩] []) (.block 0 (.loop (.seq (.reg [⟨some 15, .bin .lss (.t 14) (.t 13), none⟩] []) (.seq (.cond (.t 15) .skip (.exit 0)) (.seq (.block 1 (.seq (.reg [⟨some 16, .iaS (.t 12) (.t 14) 4, none⟩, ⟨some 17, .ld (.t 16) (some 4), none⟩, ⟨some 5, .new [.int .i64 0, .slice none 0 0, .int .i64 0, .int .i64 0], none⟩, ⟨none, .st (.t 5) (.t 17) 4, none⟩] []) (.reg [⟨some 18, .fa (.t 3) 2, none⟩, ⟨some 19, .ld (.t 18) none, none⟩, ⟨some 20, .fa (.t 5) 0, none⟩, ⟨some 21, .ld (.t 20) none, none⟩, ⟨some 22, .fa (.t 5) 1, none⟩, ⟨some 23, .ld (.t 22) none, none⟩, ⟨some 24, .call (.c (.func (.func 38) #[] #[])) [.t 23], none⟩, ⟨some 25, .fa (.t 5) 2, none⟩, ⟨some 26, .ld (.t 25) none, none⟩, ⟨some 27, .fa (.t 5) 3, none⟩, ⟨some 28, .ld (.t 27) none, none⟩, ⟨some 29, .mk [.int .i64 0, .slice none 0 0, .int .i64 0, .int .i64 0] [(0, 1, .t 21), (1, 1, .t 24), (2, 1, .t 26), (3, 1, .t 28)], none⟩, ⟨some 30, .mkS [.int .i64 0, .slice none 0 0, .int .i64 0, .int .i64 0] 1 [(0, 4, .t 29)], none⟩, ⟨some 31, .app (.t 19) (.t 30) 4 48, none⟩, ⟨some 32, .fa (.t 3) 2, none⟩, ⟨none, .st (.t 32) (.t 31) 1, none⟩] [(1, 6), (3, 6), (6, 8), (6, 10)]))) (.reg [⟨some 33, .bin .add (.t 14) (.c (.int .i64 1)), none⟩, ⟨some 14, .mv (.t 33), none⟩] []))))))) (.seq (.reg [⟨some 34, .ld (.t 3) (some 3), none⟩, ⟨none, .st (.t 2) (.t 34) 3, none⟩] []) .ret)))⟩
theorem k8 : tab Try.prog 8 = some kf8 := by kernel_rfl
def kf68 : KFunc := ⟨1, 28, [.tmp 2], .seq (.reg [⟨some 2, .mv (.c (.slice none 0 0)), none⟩] []) (.seq (.reg [⟨some 3, .mv (.c (.slice none 0 0)), none⟩] []) (.seq (.seq (.reg [⟨some 8, .mv (.t 0), none⟩, ⟨some 9, .len (.t 8), none⟩, ⟨some 10, .mv (.c (.int .i64 0)), none⟩] []) (.block 0 (.loop (.seq (.reg [⟨some 11, .bin .lss (.t 10) (.t 9), none⟩] []) (.seq (.cond (.t 11) .skip (.exit 0)) (.seq (.block 1 (.seq (.reg [⟨some 12, .iaS (.t 8) (.t 10) 1, none⟩, ⟨some 13, .ld (.t 12) none, none⟩, ⟨some 5, .mv (.t 13), none⟩] []) (.seq (.reg [⟨some 14, .mv (.t 5), none⟩, ⟨some 15, .len (.t 14), none⟩, ⟨some 16, .mv (.c (.int .i64 0)), none⟩] []) (.block 2 (.loop (.seq (.reg [⟨some 17, .bin .lss (.t 16) (.t 15), none⟩] []) (.seq (.cond (.t 17) .skip (.exit 2)) (.seq (.block 3 (.seq (.reg [⟨some 18, .iaS (.t 14) (.t 16) 4, none⟩, ⟨some 19, .ld (.t 18) (some 4), none⟩, ⟨some 7, .new [.int .i64 0, .slice none 0 0, .int .i64 0, .int .i64 0], none⟩, ⟨none, .st (.t 7) (.t 19) 4, none⟩] []) (.reg [⟨some 20, .mv (.t 3), none⟩, ⟨some 21, .ld (.t 7) (some 4), none⟩, ⟨some 22, .call (.c (.func (.func 95) #[] #[])) [.t 21], none⟩, ⟨some 23, .mkS [.int .i64 0, .slice none 0 0, .int .i64 0, .int .i64 0] 1 [(0, 4, .t 22)], none⟩, ⟨some 24, .app (.t 20) (.t 23) 4 48, none⟩, ⟨some 3, .mv (.t 24), none⟩] []))) (.reg [⟨some 25, .bin .add (.t 16) (.c (.int .i64 1)), none⟩, ⟨some 16, .mv (.t 25), none⟩] []))))))))) (.reg [⟨some 26, .bin .add (.t 10) (.c (.int .i64 1)), none⟩, ⟨some 10, .mv (.t 26), none⟩] []))))))) (.seq (.reg [⟨some 27, .mv (.t 3), none⟩, ⟨some 2, .mv (.t 27), none⟩] []) .ret)))⟩
theorem k68 : tab Try.prog 68 = some kf68 := by kernel_rfl
theorem own_ret (H : Heap) (g : G) (p : Pl) {S : Nat → Prop} (hv : Ints S H p g.ws) (hl : g.ws.length < 4294967296) : ∃ X q, Ret (tab Try.prog) 83 [gv g p] H (gv g q) (H ++ X) ∧ IntsZ H.length X q g.ws ∧ q.1 ≠ none := by
  have key := Ret_grow (T := tab Try.prog) (f := 83) (args := [gv g p]) (h := H) (fun u X => ∃ q, u = gv g q ∧ IntsZ H.length X q g.ws ∧ q.1 ≠ none) k83 rfl ?_
  · obtain ⟨u, X, hr, q, rfl, f1⟩ := key
    exact ⟨X, q, hr, f1⟩
  refine AX_seq (AX_E (E_boxA rfl (E_new (E_nil (AX_seq (AX_E (E_mkS (cs := []) rfl (E_fa rfl (E_ldO (k := 0) (v := .slice _ _ _) rfl rfl (E_app0 (k := 2) rfl rfl rfl (Cells.first (Ints.app hv)) (by simp only [roomB]; omega) (by simp) fun W q hW => (E_fa rfl (E_stO (k := 0) rfl rfl (v := .slice _ _ _) rfl rfl rfl rfl (E_nil (AX_seq (AX_E (E_ldON (k := 0) rfl rfl (E_stO (k := 1) rfl rfl (v := .agg _) rfl rfl rfl rfl (E_nil (AX_ret ?_)))))))))))))))))))
  refine ⟨_, res1 (res_cellN (k := 1) rfl rfl), by simp, ?_⟩
  have hq : q.1 ≠ none := by rcases hW with ⟨_, rfl, _⟩ | ⟨_, rfl, _⟩ <;> simp
  refine ⟨_, forget_more (v := gv g q) (gv_more hq), q, rfl, ?_, hq⟩
  rcases hW with ⟨h0, rfl, rfl⟩ | ⟨_, rfl, rfl⟩
  · have : g.ws = [] := List.length_eq_zero_iff.1 h0
    rw [this]
    exact IntsZ.empty (j := 2) rfl
  · exact IntsZ.row (j := 3) rfl (.inr rfl)
theorem with_ret (H : Heap) (c : C) (p : Pl) (gs : List G) (q : Pl) {S : Nat → Prop} (hv : Gates S H q gs) (hl : gs.length < 4294967296) (hw : ∀ g ∈ gs, g.ws.length < 4294967296) : ∃ X p', Ret (tab Try.prog) 55 [cv c p, .slice q.1 gs.length q.2] H (cv ⟨c.w, c.b, gs⟩ p') (H ++ X) ∧ GatesZ H.length X p' gs := by
  have key := Ret_grow (T := tab Try.prog) (f := 55) (args := [cv c p, .slice q.1 gs.length q.2]) (h := H) (fun u X => ∃ p', u = cv ⟨c.w, c.b, gs⟩ p' ∧ GatesZ H.length X p' gs) k55 rfl ?_
  · obtain ⟨u, X, hr, p', rfl, f1⟩ := key
    exact ⟨X, p', hr, f1⟩
  refine AX_seq (AX_E (E_boxA rfl (E_new (E_nil (AX_seq (AX_E (E_fa rfl (E_ldO (k := 0) (v := .int .i64 (c.w)) rfl rfl (E_fa rfl (E_ldO (k := 0) (v := .int .i64 (c.b)) rfl rfl (E_mk (cs := [.int .i64 (c.w), .int .i64 (c.b), .slice none 0 0]) rfl (E_new (E_stO (k := 2) rfl rfl (v := .agg _) rfl rfl rfl rfl (E_nil (AX_seq (AX_seq (AX_E (E_mv (v := .int .i64 (0)) rfl (E_nil (AX_block ?_))))))))))))))))))))
  refine AX_loopF (γ := Nat × Pl) (fun x => [(1, .slice (q).1 (gs).length (q).2), (4, .pointer (some ⟨(H).length + 1, 0, none⟩)), (5, .pointer (some ⟨(H).length + 2, 0, none⟩)), (6, .int .i64 ((x.1 : Int)))]) (fun x h_ m_ => (∃ z_, h_ = H ++ ([CO.row [.int .i64 (c.w), .int .i64 (c.b), .slice (p).1 (c.gs).length (p).2] true none, CO.row [.int .i64 (0), .int .i64 (0), .slice none 0 0] true none, CO.row [.int .i64 (c.w), .int .i64 (c.b), .slice (x.2).1 (gs.take x.1).length (x.2).2] true none] ++ z_) ∧ Bld (H.length + 3) z_ x.2 (gs.take x.1)) ∧ m_ = [] ∧ x.1 ≤ gs.length) (fun x => gs.length - x.1) (0, (none, 0)) ⟨rfl, rfl, rfl, rfl, trivial⟩ ⟨⟨[], app0 _ _, Bld.nil⟩, rfl, ?_⟩ ?_
  · simp
  rintro ⟨j, p0⟩ fr0 h0 m0 ⟨⟨z0, rfl, zf0⟩, rfl, inv0⟩ K0 hN0 hR0 hE0
  try dsimp only at zf0 inv0
  refine AX_nil ?_
  refine AX_seq (AX_seq (AX_E (E_mv (v := .int .i64 ((j : Int))) rfl (E_mv (v := .slice _ _ _) rfl (E_len (n := (gs).length) rfl (E_lssS rfl rfl (fun c15 => ?_) (fun c15 => ?_)))))))
  · refine E_nil (AX_condT rfl (AX_skip (AX_seq (AX_block (AX_E (E_fa rfl (E_ldB (v := .slice _ _ _) rfl (rowGet_own (k := 2) rfl) (E_mv (v := .slice _ _ _) rfl (E_mv (v := .int .i64 ((j : Int))) rfl (have ix1 : j < (gs).length := (by first | omega | (simp; done) | (simp; omega)); E_iaGb (j := j) rfl hv.app rfl rfl rfl ix1 fun b1 o1 q1 f1 w1 => (E_ldBN rfl w1 ?_)))))))))))
    obtain ⟨X2, q2, hr2, f2, e2⟩ := own_ret _ (gs[j]'ix1) _ f1.app (by exact hw _ (List.getElem_mem _))
    refine E_callX (X := X2) rfl (hr2) (E_mkS (cs := [.int .i64 ((gs[j]'ix1).k), .slice (q2).1 ((gs[j]'ix1).ws).length (q2).2, .int .i64 ((gs[j]'ix1).b), .int .i64 ((gs[j]'ix1).f)]) rfl (E_appG (A := [CO.row [.int .i64 (c.w), .int .i64 (c.b), .slice (p).1 (c.gs).length (p).2] true none, CO.row [.int .i64 (0), .int .i64 (0), .slice none 0 0] true none, CO.row [.int .i64 (c.w), .int .i64 (c.b), .slice (p0).1 (gs.take j).length (p0).2] true none]) (Z := z0) (W := ([] ++ (X2 ++ [CO.row [.int .i64 ((gs[j]'ix1).k), .slice (q2).1 ((gs[j]'ix1).ws).length (q2).2, .int .i64 ((gs[j]'ix1).b), .int .i64 ((gs[j]'ix1).f)] true none]))) (gs' := gs.take (j + 1)) (by first | (simp only [List.append_assoc, List.append_nil, List.nil_append, List.cons_append, List.set_cons_zero, List.set_cons_succ]; done) | (simp only [List.append_assoc, List.append_nil, List.nil_append, List.cons_append, List.set_cons_zero, List.set_cons_succ]; rfl)) (List.take_succ_eq_append_getElem (by omega)) (n := (H.length + 3)) (by simp) (zf0) rfl rfl (rowGet_own (k := 0) rfl) (IntsZ.inside (R := []) f2 (by simp; omega)) (by rw [List.length_take]; omega) rfl fun z3n p3n hb3n => (E_fa rfl (E_stO (k := 2) rfl rfl (v := .slice _ _ _) rfl rfl rfl rfl (E_nil (AX_E (E_mv (v := .int .i64 ((j : Int))) rfl (E_addI rfl rfl (by first | omega | (simp; done) | (simp; omega)) (by first | omega | (simp; done) | (simp; omega)) (E_mv (v := .int .i64 (((j : Int) + 1))) rfl (E_nil ?_))))))))))
    refine hN0 (j + 1, p3n) _ _ _ ⟨by first | rfl | (congr 1; omega), by first | rfl | (congr 1; omega), by first | rfl | (congr 1; omega), by first | rfl | (congr 1; omega), trivial⟩ ⟨⟨z3n, rfl, hb3n⟩, rfl, ?_⟩ ?_
    -- n1
    all_goals clear hN0 hR0 hE0
    · omega
    · (first | omega | (simp; omega))
  · refine E_nil (AX_condF rfl (AX_exit (hE0 _ _ _ _ ?_)))
    have e0 : gs.take j = gs := List.take_of_length_le (by omega)
    refine AX_hp (h' := H ++ ([CO.row [.int .i64 (c.w), .int .i64 (c.b), .slice (p).1 (c.gs).length (p).2] true none, CO.row [.int .i64 (0), .int .i64 (0), .slice none 0 0] true none, CO.row [.int .i64 (c.w), .int .i64 (c.b), .slice (p0).1 (gs.take j).length (p0).2] true none] ++ z0)) (by first | (simp only [List.append_assoc, List.append_nil, List.nil_append, List.cons_append, List.set_cons_zero, List.set_cons_succ]; done) | (simp only [List.append_assoc, List.append_nil, List.nil_append, List.cons_append, List.set_cons_zero, List.set_cons_succ]; rfl)) ?_
    refine AX_seq (AX_E (E_ldON (k := 2) rfl rfl (E_stO (k := 1) rfl rfl (v := .agg _) rfl rfl rfl rfl (E_nil (AX_ret ?_)))))
    refine ⟨_, res1 (res_cellN (k := 1) rfl rfl), by simp, ?_⟩
    obtain ⟨X, h1, h2⟩ := leafG (h := H) (h' := H ++ ([CO.row [.int .i64 (c.w), .int .i64 (c.b), .slice (p).1 (c.gs).length (p).2] true none, CO.row [.int .i64 (c.w), .int .i64 (c.b), .slice (p0).1 (gs.take j).length (p0).2] true none, CO.row [.int .i64 (c.w), .int .i64 (c.b), .slice (p0).1 (gs.take j).length (p0).2] true none] ++ z0)) (A := [CO.row [.int .i64 (c.w), .int .i64 (c.b), .slice (p).1 (c.gs).length (p).2] true none, CO.row [.int .i64 (c.w), .int .i64 (c.b), .slice (p0).1 (gs.take j).length (p0).2] true none, CO.row [.int .i64 (c.w), .int .i64 (c.b), .slice (p0).1 (gs.take j).length (p0).2] true none]) (Z := z0) (u := cv ⟨c.w, c.b, gs.take j⟩ p0) rfl zf0.gates (by simp) cv_flat
    exact ⟨X, h1, p0, (show _ = cv ⟨c.w, c.b, gs.take j⟩ p0 from rfl).trans (by rw [e0] <;> rfl), by rw [e0] at h2; exact h2⟩
theorem pown_ret (H : Heap) (g : G) (p : Pl) {S : Nat → Prop} (hv : Ints S H p g.ws) (hl : g.ws.length < 4294967296) : ∃ X q, Ret (tab Try.prog) 95 [gv g p] H (gv g q) (H ++ X) ∧ IntsZ H.length X q g.ws ∧ q.1 ≠ none := by
  have key := Ret_grow (T := tab Try.prog) (f := 95) (args := [gv g p]) (h := H) (fun u X => ∃ q, u = gv g q ∧ IntsZ H.length X q g.ws ∧ q.1 ≠ none) k95 rfl ?_
  · obtain ⟨u, X, hr, q, rfl, f1⟩ := key
    exact ⟨X, q, hr, f1⟩
  refine AX_seq (AX_E (E_boxA rfl (E_new (E_nil (AX_seq (AX_E (E_fa rfl (E_ldO (k := 0) (v := .slice _ _ _) rfl rfl (E_len (n := (g.ws).length) rfl (E_mkSlI (n := g.ws.length) rfl rfl (by first | omega | (simp; done) | (simp; omega)) (E_mv (v := .slice _ _ _) rfl (E_nil (AX_seq (AX_E (E_mv (v := .slice _ _ _) rfl (E_fa rfl (E_ldO (k := 0) (v := .slice _ _ _) rfl rfl (E_cpyI (k := 2) rfl rfl rfl (by simp) rfl (hv).app rfl (E_nil (AX_seq (AX_E (E_mv (v := .slice _ _ _) rfl (E_fa rfl (E_stO (k := 0) rfl rfl (v := .slice _ _ _) rfl rfl rfl rfl (E_nil (AX_seq (AX_E (E_ldON (k := 0) rfl rfl (E_stO (k := 1) rfl rfl (v := .agg _) rfl rfl rfl rfl (E_nil (AX_ret ?_)))))))))))))))))))))))))))))))
  refine ⟨_, res1 (res_cellN (k := 1) rfl rfl), by simp, ?_⟩
  exact ⟨_, forget_more (v := gv g (some ⟨H.length + 2, 0, none⟩, g.ws.length)) (gv_more (by simp)), _, rfl, IntsZ.row (j := 2) rfl (.inl rfl), by simp⟩
theorem clone_ret (H : Heap) (p : Pl) (l : List Int) {S : Nat → Prop} (hv : Ints S H p l) (hl : l.length < 4294967296) : ∃ X q, Ret (tab Try.prog) 38 [.slice p.1 l.length p.2] H (.slice q.1 l.length q.2) (H ++ X) ∧ IntsZ H.length X q l := by
  have key := Ret_grow (T := tab Try.prog) (f := 38) (args := [.slice p.1 l.length p.2]) (h := H) (fun u X => ∃ q : Pl, u = .slice q.1 l.length q.2 ∧ IntsZ H.length X q l) k38 rfl ?_
  · obtain ⟨u, X, hr, q, rfl, f1⟩ := key
    exact ⟨X, q, hr, f1⟩
  refine AX_seq (AX_E (E_mv (v := .slice _ _ _) rfl (E_nil (AX_seq (AX_seq (AX_E (E_mv (v := .slice _ _ _) rfl (E_eqN (b := (p).1.isNone) rfl (E_bs (fun c4 => ?_) (fun c4 => ?_))))))))))
  · refine E_nil (AX_condT rfl (AX_seq (AX_E (E_mv (v := .slice _ _ _) rfl (E_nil (AX_ret ?_))))))
    have hp : p.1 = none := by simpa using c4
    have hl0 : l = [] := by
      obtain ⟨h1, h2, ⟨h3, h4⟩ | ⟨b, o, cs, wr, gr, e1, _⟩⟩ := hv
      · exact List.length_eq_zero_iff.1 (by omega)
      · rw [hp] at e1; cases e1
    subst hl0
    refine ⟨_, rfl, by simp, [], forget_nil rfl (List.prefix_append _ _), (none, 0), rfl, ?_⟩
    exact fun A hA => Ints.nil
  · refine E_nil (AX_condF rfl (AX_skip (AX_seq (AX_E (E_mkS (cs := []) rfl (E_mv (v := .slice _ _ _) rfl (E_app0 (k := 0) rfl rfl rfl (Cells.first (Ints.app hv)) (by simp only [roomB]; omega) (by simp) fun W q hW => (E_mv (v := .slice _ _ _) rfl (E_nil (AX_ret ?_))))))))))
    have hq : q.1 ≠ none := by rcases hW with ⟨_, rfl, _⟩ | ⟨_, rfl, _⟩ <;> simp
    refine ⟨_, rfl, by simp, _, forget_more (v := .slice q.1 l.length q.2) (by rcases h : flat2 (.slice q.1 l.length q.2); rfl; exact (hq (sl_flat h)).elim), q, rfl, ?_⟩
    rcases hW with ⟨h0, rfl, rfl⟩ | ⟨_, rfl, rfl⟩
    · have : l = [] := List.length_eq_zero_iff.1 h0
      rw [this]
      exact IntsZ.empty (j := 0) rfl
    · exact IntsZ.row (j := 1) rfl (.inr rfl)
theorem kown_ret (H : Heap) (c : C) (p : Pl) {S : Nat → Prop} (hv : Gates S H p c.gs) (hl : c.gs.length < 4294967296) (hw : ∀ g ∈ c.gs, g.ws.length < 4294967296) : ∃ X p', Ret (tab Try.prog) 8 [cv c p] H (cv c p') (H ++ X) ∧ GatesZ H.length X p' c.gs := by
  have key := Ret_grow (T := tab Try.prog) (f := 8) (args := [cv c p]) (h := H) (fun u X => ∃ p', u = cv c p' ∧ GatesZ H.length X p' c.gs) k8 rfl ?_
  · obtain ⟨u, X, hr, p', rfl, f1⟩ := key
    exact ⟨X, p', hr, f1⟩
  refine AX_seq (AX_E (E_boxA rfl (E_new (E_nil (AX_seq (AX_E (E_fa rfl (E_ldO (k := 0) (v := .int .i64 (c.w)) rfl rfl (E_fa rfl (E_ldO (k := 0) (v := .int .i64 (c.b)) rfl rfl (E_mk (cs := [.int .i64 (c.w), .int .i64 (c.b), .slice none 0 0]) rfl (E_new (E_stO (k := 2) rfl rfl (v := .agg _) rfl rfl rfl rfl (E_nil (AX_seq (AX_seq (AX_E (E_fa rfl (E_ldO (k := 0) (v := .slice _ _ _) rfl rfl (E_len (n := (c.gs).length) rfl (E_mv (v := .int .i64 (0)) rfl (E_nil (AX_block ?_)))))))))))))))))))))))
  refine AX_loopF (γ := Nat × Pl) (fun x => [(2, .pointer (some ⟨(H).length + 1, 0, none⟩)), (3, .pointer (some ⟨(H).length + 2, 0, none⟩)), (12, .slice (p).1 (c.gs).length (p).2), (13, .int .i64 ((c.gs).length)), (14, .int .i64 ((x.1 : Int)))]) (fun x h_ m_ => (∃ z_, h_ = H ++ ([CO.row [.int .i64 (c.w), .int .i64 (c.b), .slice (p).1 (c.gs).length (p).2] true none, CO.row [.int .i64 (0), .int .i64 (0), .slice none 0 0] true none, CO.row [.int .i64 (c.w), .int .i64 (c.b), .slice (x.2).1 (c.gs.take x.1).length (x.2).2] true none] ++ z_) ∧ Bld (H.length + 3) z_ x.2 (c.gs.take x.1)) ∧ m_ = [] ∧ x.1 ≤ c.gs.length) (fun x => c.gs.length - x.1) (0, (none, 0)) ⟨rfl, rfl, rfl, rfl, rfl, trivial⟩ ⟨⟨[], app0 _ _, Bld.nil⟩, rfl, ?_⟩ ?_
  · simp
  rintro ⟨j, p0⟩ fr0 h0 m0 ⟨⟨z0, rfl, zf0⟩, rfl, inv0⟩ K0 hN0 hR0 hE0
  try dsimp only at zf0 inv0
  refine AX_nil ?_
  refine AX_seq (AX_E (E_lssS rfl rfl (fun c15 => ?_) (fun c15 => ?_)))
  · refine E_nil (AX_seq (AX_condT rfl (AX_skip (AX_seq (AX_block (AX_seq (AX_E (have ix1 : j < (c.gs).length := (by first | omega | (simp; done) | (simp; omega)); E_iaGb (j := j) rfl hv.app rfl rfl rfl ix1 fun b1 o1 q1 f1 w1 => (E_ldBN rfl w1 (E_new (E_stO (k := 0) rfl rfl (v := .agg _) rfl rfl rfl rfl (E_nil (AX_E (E_fa rfl (E_ldB (v := .slice _ _ _) rfl (rowGet_own (k := 2) rfl) (E_fa rfl (E_ldO (k := 0) (v := .int .i64 ((c.gs[j]'ix1).k)) rfl rfl (E_fa rfl (E_ldO (k := 0) (v := .slice _ _ _) rfl rfl ?_)))))))))))))))))))
    obtain ⟨X2, q2, hr2, f2⟩ := clone_ret _ _ _ f1.app (by exact hw _ (List.getElem_mem _))
    refine E_callX (X := X2) rfl (hr2) (E_fa rfl (E_ldB (v := .int .i64 ((c.gs[j]'ix1).b)) rfl (rowGet_own (k := 0) rfl) (E_fa rfl (E_ldB (v := .int .i64 ((c.gs[j]'ix1).f)) rfl (rowGet_own (k := 0) rfl) (E_mk (cs := [.int .i64 ((c.gs[j]'ix1).k), .slice (q2).1 ((c.gs[j]'ix1).ws).length (q2).2, .int .i64 ((c.gs[j]'ix1).b), .int .i64 ((c.gs[j]'ix1).f)]) rfl (E_mkS (cs := [.int .i64 ((c.gs[j]'ix1).k), .slice (q2).1 ((c.gs[j]'ix1).ws).length (q2).2, .int .i64 ((c.gs[j]'ix1).b), .int .i64 ((c.gs[j]'ix1).f)]) rfl (E_appG (A := [CO.row [.int .i64 (c.w), .int .i64 (c.b), .slice (p).1 (c.gs).length (p).2] true none, CO.row [.int .i64 (0), .int .i64 (0), .slice none 0 0] true none, CO.row [.int .i64 (c.w), .int .i64 (c.b), .slice (p0).1 (c.gs.take j).length (p0).2] true none]) (Z := z0) (W := ([CO.row [.int .i64 ((c.gs[j]'ix1).k), .slice (q1).1 ((c.gs[j]'ix1).ws).length (q1).2, .int .i64 ((c.gs[j]'ix1).b), .int .i64 ((c.gs[j]'ix1).f)] true none] ++ (X2 ++ [CO.row [.int .i64 ((c.gs[j]'ix1).k), .slice (q2).1 ((c.gs[j]'ix1).ws).length (q2).2, .int .i64 ((c.gs[j]'ix1).b), .int .i64 ((c.gs[j]'ix1).f)] true none]))) (gs' := c.gs.take (j + 1)) (by first | (simp only [List.append_assoc, List.append_nil, List.nil_append, List.cons_append, List.set_cons_zero, List.set_cons_succ]; done) | (simp only [List.append_assoc, List.append_nil, List.nil_append, List.cons_append, List.set_cons_zero, List.set_cons_succ]; rfl)) (List.take_succ_eq_append_getElem (by omega)) (n := (H.length + 3)) (by simp) (zf0) rfl rfl (rowGet_own (k := 0) rfl) (IntsZ.inside f2 (by simp; omega)) (by rw [List.length_take]; omega) rfl fun z3n p3n hb3n => (E_fa rfl (E_stO (k := 2) rfl rfl (v := .slice _ _ _) rfl rfl rfl rfl (E_nil (AX_E (E_addI rfl rfl (by first | omega | (simp; done) | (simp; omega)) (by first | omega | (simp; done) | (simp; omega)) (E_mv (v := .int .i64 (((j : Int) + 1))) rfl (E_nil ?_))))))))))))))
    refine hN0 (j + 1, p3n) _ _ _ ⟨by first | rfl | (congr 1; omega), by first | rfl | (congr 1; omega), by first | rfl | (congr 1; omega), by first | rfl | (congr 1; omega), by first | rfl | (congr 1; omega), trivial⟩ ⟨⟨z3n, rfl, hb3n⟩, rfl, ?_⟩ ?_
    -- n1
    all_goals clear hN0 hR0 hE0
    · omega
    · (first | omega | (simp; omega))
  · refine E_nil (AX_seq (AX_condF rfl (AX_exit (hE0 _ _ _ _ ?_))))
    have e0 : c.gs.take j = c.gs := List.take_of_length_le (by omega)
    refine AX_hp (h' := H ++ ([CO.row [.int .i64 (c.w), .int .i64 (c.b), .slice (p).1 (c.gs).length (p).2] true none, CO.row [.int .i64 (0), .int .i64 (0), .slice none 0 0] true none, CO.row [.int .i64 (c.w), .int .i64 (c.b), .slice (p0).1 (c.gs.take j).length (p0).2] true none] ++ z0)) (by first | (simp only [List.append_assoc, List.append_nil, List.nil_append, List.cons_append, List.set_cons_zero, List.set_cons_succ]; done) | (simp only [List.append_assoc, List.append_nil, List.nil_append, List.cons_append, List.set_cons_zero, List.set_cons_succ]; rfl)) ?_
    refine AX_seq (AX_E (E_ldON (k := 2) rfl rfl (E_stO (k := 1) rfl rfl (v := .agg _) rfl rfl rfl rfl (E_nil (AX_ret ?_)))))
    refine ⟨_, res1 (res_cellN (k := 1) rfl rfl), by simp, ?_⟩
    obtain ⟨X, h1, h2⟩ := leafG (h := H) (h' := H ++ ([CO.row [.int .i64 (c.w), .int .i64 (c.b), .slice (p).1 (c.gs).length (p).2] true none, CO.row [.int .i64 (c.w), .int .i64 (c.b), .slice (p0).1 (c.gs.take j).length (p0).2] true none, CO.row [.int .i64 (c.w), .int .i64 (c.b), .slice (p0).1 (c.gs.take j).length (p0).2] true none] ++ z0)) (A := [CO.row [.int .i64 (c.w), .int .i64 (c.b), .slice (p).1 (c.gs).length (p).2] true none, CO.row [.int .i64 (c.w), .int .i64 (c.b), .slice (p0).1 (c.gs.take j).length (p0).2] true none, CO.row [.int .i64 (c.w), .int .i64 (c.b), .slice (p0).1 (c.gs.take j).length (p0).2] true none]) (Z := z0) (u := cv ⟨c.w, c.b, c.gs.take j⟩ p0) rfl zf0.gates (by simp) cv_flat
    exact ⟨X, h1, p0, (show _ = cv ⟨c.w, c.b, c.gs.take j⟩ p0 from rfl).trans (by rw [e0] <;> rfl), by rw [e0] at h2; exact h2⟩
end Go.Canon
namespace Go.Canon
open Go Go.Proofs
set_option linter.unusedVariables false
set_option linter.unusedSimpArgs false
theorem flatten_next {gss : List (List G)} {j i : Nat} (hj : j < gss.length) (hi : ¬ ((i : Int) < (gss[j].length : Int))) : (gss.take j).flatten ++ gss[j].take i = (gss.take (j + 1)).flatten := by
  have e : gss[j].take i = gss[j] := List.take_of_length_le (by omega)
  rw [e, List.take_succ_eq_append_getElem hj, List.flatten_append]
  simp
theorem flatten_le {gss : List (List G)} {j i : Nat} (hj : j < gss.length) : ((gss.take j).flatten ++ gss[j].take i).length ≤ gss.flatten.length := by
  have h1 : gss.flatten = (gss.take j).flatten ++ (gss[j] ++ (gss.drop (j + 1)).flatten) := by
    conv => lhs; rw [← List.take_append_drop j gss, List.flatten_append, List.drop_eq_getElem_cons hj, List.flatten_cons]
  rw [h1]
  simp only [List.length_append, List.length_take]
  omega
theorem behind_ret (H : Heap) (p : Pl) (gss : List (List G)) (ps : List Pl) {S S' : Nat → Prop} (hv : Lists S H p ps gss) (hgs : ∀ j (h1 : j < gss.length) (h2 : j < ps.length), Gates S' H ps[j] gss[j]) (hn : gss.length < 4294967296) (hl : gss.flatten.length < 4294967296) (hw : ∀ gs ∈ gss, ∀ g ∈ gs, g.ws.length < 4294967296) :
    ∃ X p', Ret (tab Try.prog) 68 [.slice p.1 gss.length p.2] H (.slice p'.1 gss.flatten.length p'.2) (H ++ X) ∧ GatesZ H.length X p' gss.flatten := by
  have key := Ret_grow (T := tab Try.prog) (f := 68) (args := [.slice p.1 gss.length p.2]) (h := H) (fun u X => ∃ p' : Pl, u = .slice p'.1 gss.flatten.length p'.2 ∧ GatesZ H.length X p' gss.flatten) k68 rfl ?_
  · obtain ⟨u, X, hr, p', rfl, f1⟩ := key
    exact ⟨X, p', hr, f1⟩
  obtain ⟨hps, hc⟩ := hv
  refine AX_seq (AX_E (E_mv (v := .slice _ _ _) rfl (E_nil (AX_seq (AX_E (E_mv (v := .slice _ _ _) rfl (E_nil (AX_seq (AX_seq (AX_E (E_mv (v := .slice _ _ _) rfl (E_len (n := (gss).length) rfl (E_mv (v := .int .i64 (0)) rfl (E_nil (AX_block ?_)))))))))))))))
  refine AX_loopF (γ := Nat × Pl) (fun x => [(3, .slice (x.2).1 (((gss.take x.1).flatten)).length (x.2).2), (8, .slice p.1 gss.length p.2), (9, .int .i64 ((gss).length)), (10, .int .i64 ((x.1 : Int)))]) (fun x h_ m_ => (∃ z_, h_ = H ++ ([] ++ z_) ∧ Bld (H.length + 0) z_ x.2 ((gss.take x.1).flatten)) ∧ m_ = [] ∧ x.1 ≤ gss.length) (fun x => gss.length - x.1) (0, (none, 0)) ⟨rfl, rfl, rfl, rfl, trivial⟩ ⟨⟨[], app0 _ _, Bld.nil⟩, rfl, ?_⟩ ?_
  · simp
  rintro ⟨j, p0⟩ fr0 h0 m0 ⟨⟨z0, rfl, zf0⟩, rfl, inv0⟩ K0 hN0 hR0 hE0
  try dsimp only at zf0 inv0
  refine AX_nil ?_
  refine AX_seq (AX_E (E_lssS rfl rfl (fun c11 => ?_) (fun c11 => ?_)))
  · refine E_nil (AX_seq (AX_condT rfl (AX_skip (AX_seq (AX_block (AX_seq (AX_E (have hj1 : j < gss.length := (by omega); have hj2 : j < ps.length := (by omega); have hle : gss[j].length ≤ gss.flatten.length := (by have := flatten_le (i := gss[j].length) hj1; simp only [List.length_append, List.take_length] at this; omega); E_iaCb (j := j) (v := .slice ((ps[j]'hj2)).1 ((gss[j]'hj1)).length ((ps[j]'hj2)).2) rfl hc.app rfl rfl (by first | omega | (simp; done) | (simp; omega)) (lists_at hj1 hj2) fun b1 o1 w1 => (E_ldB (v := .slice _ _ _) rfl w1 (E_mv (v := .slice _ _ _) rfl (E_nil (AX_seq (AX_E (E_mv (v := .slice _ _ _) rfl (E_len (n := ((gss[j]'hj1)).length) rfl (E_mv (v := .int .i64 (0)) rfl (E_nil (AX_block ?_))))))))))))))))))
    refine AX_hp (h' := H ++ ([] ++ z0)) (by first | (simp only [List.append_assoc, List.append_nil, List.nil_append, List.cons_append, List.set_cons_zero, List.set_cons_succ]; done) | (simp only [List.append_assoc, List.append_nil, List.nil_append, List.cons_append, List.set_cons_zero, List.set_cons_succ]; rfl)) ?_
    refine AX_loopF (γ := Nat × Pl) (fun x => [(3, .slice (x.2).1 (((gss.take j).flatten ++ gss[j].take x.1)).length (x.2).2), (8, .slice p.1 gss.length p.2), (9, .int .i64 ((gss).length)), (10, .int .i64 ((j : Int))), (14, .slice ((ps[j]'hj2)).1 ((gss[j]'hj1)).length ((ps[j]'hj2)).2), (15, .int .i64 (((gss[j]'hj1)).length)), (16, .int .i64 ((x.1 : Int)))]) (fun x h_ m_ => (∃ z_, h_ = H ++ ([] ++ z_) ∧ Bld (H.length + 0) z_ x.2 ((gss.take j).flatten ++ gss[j].take x.1)) ∧ m_ = [] ∧ x.1 ≤ gss[j].length) (fun x => gss[j].length - x.1) (0, p0) ⟨(congrArg (fun l => Value.slice p0.1 (List.length l) p0.2) (show (gss.take j).flatten = (gss.take j).flatten ++ gss[j].take 0 by simp)), rfl, rfl, rfl, rfl, rfl, rfl, trivial⟩ ⟨⟨z0, rfl, (by simpa using zf0)⟩, rfl, ?_⟩ ?_
    · simp
    rintro ⟨i, p2⟩ fr2 h2 m2 ⟨⟨z2, rfl, zf2⟩, rfl, inv2⟩ K2 hN2 hR2 hE2
    try dsimp only at zf2 inv2
    refine AX_nil ?_
    refine AX_seq (AX_E (E_lssS rfl rfl (fun c17 => ?_) (fun c17 => ?_)))
    · refine E_nil (AX_seq (AX_condT rfl (AX_skip (AX_seq (AX_block (AX_seq (AX_E (have ix2 : i < ((gss[j]'hj1)).length := (by first | omega | (simp; done) | (simp; omega)); E_iaGb (j := i) rfl (hgs j hj1 hj2).app rfl rfl rfl ix2 fun b2 o2 q2 f2 w2 => (E_ldBN rfl w2 (E_new (E_stO (k := 0) rfl rfl (v := .agg _) rfl rfl rfl rfl (E_nil (AX_E (E_mv (v := .slice _ _ _) rfl (E_ldON (k := 0) rfl rfl ?_)))))))))))))))
      obtain ⟨X3, q3, hr3, f3, e3⟩ := pown_ret _ ((gss[j]'hj1)[i]'ix2) _ f2.app (by exact hw _ (List.getElem_mem hj1) _ (List.getElem_mem (by omega)))
      refine E_callX (X := X3) rfl (hr3) (E_mkS (cs := [.int .i64 (((gss[j]'hj1)[i]'ix2).k), .slice (q3).1 (((gss[j]'hj1)[i]'ix2).ws).length (q3).2, .int .i64 (((gss[j]'hj1)[i]'ix2).b), .int .i64 (((gss[j]'hj1)[i]'ix2).f)]) rfl (E_appG (A := []) (Z := z2) (W := ([CO.row [.int .i64 (((gss[j]'hj1)[i]'ix2).k), .slice (q2).1 (((gss[j]'hj1)[i]'ix2).ws).length (q2).2, .int .i64 (((gss[j]'hj1)[i]'ix2).b), .int .i64 (((gss[j]'hj1)[i]'ix2).f)] true none] ++ (X3 ++ [CO.row [.int .i64 (((gss[j]'hj1)[i]'ix2).k), .slice (q3).1 (((gss[j]'hj1)[i]'ix2).ws).length (q3).2, .int .i64 (((gss[j]'hj1)[i]'ix2).b), .int .i64 (((gss[j]'hj1)[i]'ix2).f)] true none]))) (gs' := (gss.take j).flatten ++ gss[j].take (i + 1)) (by first | (simp only [List.append_assoc, List.append_nil, List.nil_append, List.cons_append, List.set_cons_zero, List.set_cons_succ]; done) | (simp only [List.append_assoc, List.append_nil, List.nil_append, List.cons_append, List.set_cons_zero, List.set_cons_succ]; rfl)) (by rw [List.take_succ_eq_append_getElem (by omega), List.append_assoc]) (n := (H.length + 0)) (by simp) (zf2) rfl rfl (rowGet_own (k := 0) rfl) (IntsZ.inside f3 (by simp; omega)) (by have := flatten_le (i := i) hj1; omega) rfl fun z4n p4n hb4n => (E_mv (v := .slice _ _ _) rfl (E_nil (AX_E (E_addI rfl rfl (by first | omega | (simp; done) | (simp; omega)) (by first | omega | (simp; done) | (simp; omega)) (E_mv (v := .int .i64 (((i : Int) + 1))) rfl (E_nil ?_))))))))
      refine hN2 (i + 1, p4n) _ _ _ ⟨by first | rfl | (congr 1; omega), by first | rfl | (congr 1; omega), by first | rfl | (congr 1; omega), by first | rfl | (congr 1; omega), by first | rfl | (congr 1; omega), by first | rfl | (congr 1; omega), by first | rfl | (congr 1; omega), trivial⟩ ⟨⟨z4n, rfl, hb4n⟩, rfl, ?_⟩ ?_
      -- n1
      all_goals clear hN0 hR0 hE0 hN2 hR2 hE2
      · omega
      · (first | omega | (simp; omega))
    · refine E_nil (AX_seq (AX_condF rfl (AX_exit (hE2 _ _ _ _ ?_))))
      have e2 := flatten_next hj1 c17
      refine AX_hp (h' := H ++ ([] ++ z2)) (by first | (simp only [List.append_assoc, List.append_nil, List.nil_append, List.cons_append, List.set_cons_zero, List.set_cons_succ]; done) | (simp only [List.append_assoc, List.append_nil, List.nil_append, List.cons_append, List.set_cons_zero, List.set_cons_succ]; rfl)) ?_
      refine AX_E (E_addI rfl rfl (by first | omega | (simp; done) | (simp; omega)) (by first | omega | (simp; done) | (simp; omega)) (E_mv (v := .int .i64 (((j : Int) + 1))) rfl (E_nil ?_)))
      refine hN0 (j + 1, p2) _ _ _ ⟨by exact congrArg (fun l => Value.slice p2.1 (List.length l) p2.2) e2, by first | rfl | (congr 1; omega), by first | rfl | (congr 1; omega), by first | rfl | (congr 1; omega), trivial⟩ ⟨⟨z2, rfl, (by rw [← e2]; exact zf2)⟩, rfl, ?_⟩ ?_
      -- n2
      all_goals clear hN0 hR0 hE0 hN2 hR2 hE2
      · omega
      · (first | omega | (simp; omega))
  · refine E_nil (AX_seq (AX_condF rfl (AX_exit (hE0 _ _ _ _ ?_))))
    have e0 : gss.take j = gss := List.take_of_length_le (by omega)
    refine AX_hp (h' := H ++ ([] ++ z0)) (by first | (simp only [List.append_assoc, List.append_nil, List.nil_append, List.cons_append, List.set_cons_zero, List.set_cons_succ]; done) | (simp only [List.append_assoc, List.append_nil, List.nil_append, List.cons_append, List.set_cons_zero, List.set_cons_succ]; rfl)) ?_
    refine AX_seq (AX_E (E_mv (v := .slice _ _ _) rfl (E_mv (v := .slice _ _ _) rfl (E_nil (AX_ret ?_)))))
    refine ⟨_, rfl, by simp, ?_⟩
    obtain ⟨X, h1, h2⟩ := leafG (h := H) (h' := H ++ ([] ++ z0)) (A := []) (Z := z0) (u := Value.slice p0.1 ((gss.take j).flatten).length p0.2) rfl zf0.gates (by simp) sl_flat
    exact ⟨X, h1, p0, (show _ = Value.slice p0.1 ((gss.take j).flatten).length p0.2 from rfl).trans (by rw [e0] <;> rfl), by rw [e0] at h2; exact h2⟩
end Go.Canon
namespace Go.Canon
open Go Go.Proofs
set_option linter.unusedVariables false
set_option linter.unusedSimpArgs false
def freeTo (l : List G) (i k : Nat) : Prop := ∀ j, j < k → commM (l.getD j default) (l.getD i default)
instance (l : List G) (i k : Nat) : Decidable (freeTo l i k) := by unfold freeTo; infer_instance
/-- The gate that is taken next, of the first so many: -1 if there is none. -/
def nextM (l : List G) : Nat → Int
  | 0 => -1
  | i + 1 => if freeTo l i i ∧ (nextM l i < 0 ∨ beforeM (l.getD i default) (l.getD (nextM l i).toNat default)) then (i : Int) else nextM l i
theorem nextM_lt (l : List G) : ∀ i, -1 ≤ nextM l i ∧ nextM l i < i
  | 0 => by simp [nextM]
  | i + 1 => by
    have := nextM_lt l i
    unfold nextM
    split <;> omega
theorem nextM_pos (l : List G) : ∀ i, 0 < i → 0 ≤ nextM l i
  | 1, _ => by
    have : freeTo l 0 0 := fun j hj => by omega
    simp [nextM, this]
  | i + 2, _ => by
    have := nextM_pos l (i + 1) (by omega)
    unfold nextM
    split <;> omega
theorem next_take {l : List G} {i : Nat} (h1 : freeTo l i i) (h2 : nextM l i < 0 ∨ beforeM (l.getD i default) (l.getD (nextM l i).toNat default)) : nextM l (i + 1) = i := by rw [nextM, if_pos ⟨h1, h2⟩]
theorem next_skip {l : List G} {i : Nat} (h : ¬ (freeTo l i i ∧ (nextM l i < 0 ∨ beforeM (l.getD i default) (l.getD (nextM l i).toNat default)))) : nextM l (i + 1) = nextM l i := by rw [nextM, if_neg h]
theorem before_getD {l : List G} {i j : Nat} (hi : i < l.length) (hj : j < l.length) (h : beforeM l[i] l[j]) : beforeM (l.getD i default) (l.getD j default) := by rwa [getG_at hi, getG_at hj]
theorem before_getD2 {l : List G} {i j : Nat} (hi : i < l.length) (hj : j < l.length) (h : beforeM (l.getD i default) (l.getD j default)) : beforeM l[i] l[j] := by rwa [getG_at hi, getG_at hj] at h
def tidyL : Nat → List G → List G
  | 0, _ => []
  | n + 1, l => l.getD (nextM l l.length).toNat default :: tidyL n (l.eraseIdx (nextM l l.length).toNat)
def tidyM (c : C) : C := ⟨c.w, c.b, tidyL c.gs.length c.gs⟩
theorem tidyL_len : ∀ (n : Nat) (l : List G), (tidyL n l).length = n
  | 0, _ => rfl
  | n + 1, l => by rw [tidyL, List.length_cons, tidyL_len]
theorem tidyL_step {l : List G} {b : Nat} (hb : nextM l l.length = (b : Int)) (hbl : b < l.length) : tidyL l.length l = l[b] :: tidyL (l.eraseIdx b).length (l.eraseIdx b) := by
  have h1 : (l.eraseIdx b).length = l.length - 1 := List.length_eraseIdx_of_lt hbl
  obtain ⟨m, hm⟩ : ∃ m, l.length = m + 1 := ⟨l.length - 1, by omega⟩
  have h2 : (l.eraseIdx b).length = m := by omega
  rw [h2, hm, tidyL, hb, Int.toNat_natCast, getG_at hbl]
end Go.Canon
namespace Go.Canon
open Go Go.Proofs
set_option linter.unusedVariables false
set_option linter.unusedSimpArgs false
/-- The last gate of the first k with which g does not commute, or that g undoes; -1 if there is none. -/
def scanM (l : List G) (g : G) : Nat → Int
  | 0 => -1
  | k + 1 => if undoM (l.getD k default) g ∨ ¬ commM (l.getD k default) g then (k : Int) else scanM l g k
theorem scan_stop {l : List G} {g : G} {k : Nat} (hk : k - 1 < l.length) (h0 : 0 < k) (h : undoM l[k - 1] g ∨ ¬ commM l[k - 1] g) : scanM l g k = (k : Int) - 1 := by
  obtain ⟨m, rfl⟩ : ∃ m, k = m + 1 := ⟨k - 1, by omega⟩
  simp only [Nat.add_sub_cancel] at h
  rw [scanM, if_pos (by rwa [getG_at (by omega)])]
  omega
theorem scan_go {l : List G} {g : G} {k : Nat} (hk : k - 1 < l.length) (h0 : 0 < k) (h : ¬ undoM l[k - 1] g) (h2 : commM l[k - 1] g) : scanM l g k = scanM l g (k - 1) := by
  obtain ⟨m, rfl⟩ : ∃ m, k = m + 1 := ⟨k - 1, by omega⟩
  simp only [Nat.add_sub_cancel] at h h2
  rw [scanM, if_neg (by rw [getG_at (by omega)]; simp [h, h2]), Nat.add_sub_cancel]
def cstep (l : List G) (g : G) : List G := if 0 ≤ scanM l g l.length ∧ undoM (l.getD (scanM l g l.length).toNat default) g then l.eraseIdx (scanM l g l.length).toNat else l ++ [g]
def cancelL (gs : List G) : List G := gs.foldl cstep []
def cancelM (c : C) : C := ⟨c.w, c.b, cancelL c.gs⟩
theorem cancelL_next {gs : List G} {j : Nat} (hj : j < gs.length) : cancelL (gs.take (j + 1)) = cstep (cancelL (gs.take j)) gs[j] := by
  unfold cancelL
  rw [List.take_succ_eq_append_getElem hj, List.foldl_append]
  rfl
theorem cstep_mem {l : List G} {g x : G} (h : x ∈ cstep l g) : x ∈ l ∨ x = g := by
  unfold cstep at h
  split at h
  · exact .inl (List.mem_of_mem_eraseIdx h)
  · simpa using h
theorem cancelL_mem (gs : List G) : ∀ (l : List G) x, x ∈ gs.foldl cstep l → x ∈ l ∨ x ∈ gs := by
  induction gs with
  | nil => intro l x h; exact .inl h
  | cons g gs ih =>
    intro l x h
    rcases ih _ _ h with h | h
    · rcases cstep_mem h with h | h
      · exact .inl h
      · exact .inr (by simp [h])
    · exact .inr (by simp [h])
theorem cancelL_sub {gs : List G} {x : G} (h : x ∈ cancelL gs) : x ∈ gs := (cancelL_mem gs [] x h).resolve_left (by simp)
theorem cstep_rm {l : List G} {g : G} {k : Nat} (hk : k - 1 < l.length) (h0 : 0 < k) (he : scanM l g k = scanM l g l.length) (hu : undoM l[k - 1] g) : cstep l g = l.eraseIdx (k - 1) := by
  have hs := scan_stop hk h0 (.inl hu)
  rw [he] at hs
  have e : (scanM l g l.length).toNat = k - 1 := by omega
  rw [cstep, e, if_pos ⟨by omega, by rwa [getG_at hk]⟩]
theorem cstep_ap {l : List G} {g : G} {k : Nat} (hk : k - 1 < l.length) (h0 : 0 < k) (he : scanM l g k = scanM l g l.length) (hu : ¬ undoM l[k - 1] g) (hc : ¬ commM l[k - 1] g) : cstep l g = l ++ [g] := by
  have hs := scan_stop hk h0 (.inr hc)
  rw [he] at hs
  have e : (scanM l g l.length).toNat = k - 1 := by omega
  rw [cstep, e, if_neg (fun x => by have := x.2; rw [getG_at hk] at this; exact hu this)]
def kf11 : KFunc := ⟨1, 70, [.cell 2 (some 3)], .seq (.reg [⟨some 1, .box (.t 0), none⟩, ⟨some 2, .new [.int .i64 0, .int .i64 0, .slice none 0 0], none⟩] []) (.seq (.reg [⟨some 3, .mv (.c (.slice none 0 0)), none⟩] []) (.seq (.seq (.reg [⟨some 4, .mv (.c (.int .i64 0)), none⟩] []) (.block 0 (.loop (.seq (.seq (.reg [⟨some 7, .mv (.t 4), none⟩, ⟨some 8, .fa (.t 1) 2, none⟩, ⟨some 9, .ld (.t 8) none, none⟩, ⟨some 10, .len (.t 9), none⟩, ⟨some 11, .bin .lss (.t 7) (.t 10), none⟩] []) (.cond (.t 11) .skip (.exit 0))) (.seq (.block 1 (.seq (.reg [⟨some 14, .fa (.t 1) 2, none⟩, ⟨some 15, .ld (.t 14) none, none⟩, ⟨some 16, .mv (.t 4), none⟩, ⟨some 17, .iaS (.t 15) (.t 16) 4, none⟩, ⟨some 18, .ld (.t 17) (some 4), none⟩, ⟨some 5, .new [.int .i64 0, .slice none 0 0, .int .i64 0, .int .i64 0], none⟩, ⟨none, .st (.t 5) (.t 18) 4, none⟩] []) (.seq (.reg [⟨some 19, .mv (.t 3), none⟩, ⟨some 20, .len (.t 19), none⟩, ⟨some 21, .bin .sub (.t 20) (.c (.int .i64 1)), none⟩, ⟨some 6, .mv (.t 21), none⟩] []) (.seq (.block 2 (.loop (.seq (.seq (.reg [⟨some 22, .mv (.t 6), none⟩, ⟨some 23, .bin .geq (.t 22) (.c (.int .i64 0)), none⟩, ⟨some 24, .mv (.t 23), none⟩, ⟨some 25, .mv (.t 3), some (24, true)⟩, ⟨some 26, .mv (.t 6), some (24, true)⟩, ⟨some 27, .iaS (.t 25) (.t 26) 4, some (24, true)⟩, ⟨some 28, .ld (.t 27) (some 4), some (24, true)⟩, ⟨some 29, .ld (.t 5) (some 4), some (24, true)⟩, ⟨some 30, .call (.c (.func (.func 13) #[] #[])) [.t 28, .t 29], some (24, true)⟩, ⟨some 31, .not (.t 30), some (24, true)⟩, ⟨some 32, .pick (.t 24) (.t 31) (.c (.bool false)), none⟩, ⟨some 33, .mv (.t 32), none⟩, ⟨some 34, .mv (.t 3), some (33, true)⟩, ⟨some 35, .mv (.t 6), some (33, true)⟩, ⟨some 36, .iaS (.t 34) (.t 35) 4, some (33, true)⟩, ⟨some 37, .ld (.t 36) (some 4), some (33, true)⟩, ⟨some 38, .ld (.t 5) (some 4), some (33, true)⟩, ⟨some 39, .call (.c (.func (.func 12) #[] #[])) [.t 37, .t 38], some (33, true)⟩, ⟨some 40, .pick (.t 33) (.t 39) (.c (.bool false)), none⟩] []) (.cond (.t 40) .skip (.exit 2))) (.block 3 (.reg [⟨some 41, .mv (.t 6), none⟩, ⟨some 42, .bin .sub (.t 41) (.c (.int .i64 1)), none⟩, ⟨some 6, .mv (.t 42), none⟩] []))))) (.seq (.reg [⟨some 43, .mv (.t 6), none⟩, ⟨some 44, .bin .geq (.t 43) (.c (.int .i64 0)), none⟩, ⟨some 45, .mv (.t 44), none⟩, ⟨some 46, .mv (.t 3), some (45, true)⟩, ⟨some 47, .mv (.t 6), some (45, true)⟩, ⟨some 48, .iaS (.t 46) (.t 47) 4, some (45, true)⟩, ⟨some 49, .ld (.t 48) (some 4), some (45, true)⟩, ⟨some 50, .ld (.t 5) (some 4), some (45, true)⟩, ⟨some 51, .call (.c (.func (.func 13) #[] #[])) [.t 49, .t 50], some (45, true)⟩, ⟨some 52, .pick (.t 45) (.t 51) (.c (.bool false)), none⟩] []) (.cond (.t 52) (.reg [⟨some 53, .mkS [] 0 [], none⟩, ⟨some 54, .mv (.t 3), none⟩, ⟨some 55, .mv (.t 6), none⟩, ⟨some 56, .slS (.t 54) none (some (.t 55)) none 4, none⟩, ⟨some 57, .app (.t 53) (.t 56) 4 48, none⟩, ⟨some 58, .mv (.t 3), none⟩, ⟨some 59, .mv (.t 6), none⟩, ⟨some 60, .bin .add (.t 59) (.c (.int .i64 1)), none⟩, ⟨some 61, .slS (.t 58) (some (.t 60)) none none 4, none⟩, ⟨some 62, .app (.t 57) (.t 61) 4 48, none⟩, ⟨some 3, .mv (.t 62), none⟩] [(4, 8)]) (.reg [⟨some 63, .mv (.t 3), none⟩, ⟨some 64, .ld (.t 5) (some 4), none⟩, ⟨some 65, .mkS [.int .i64 0, .slice none 0 0, .int .i64 0, .int .i64 0] 1 [(0, 4, .t 64)], none⟩, ⟨some 66, .app (.t 63) (.t 65) 4 48, none⟩, ⟨some 3, .mv (.t 66), none⟩] []))))))) (.reg [⟨some 12, .mv (.t 4), none⟩, ⟨some 13, .bin .add (.t 12) (.c (.int .i64 1)), none⟩, ⟨some 4, .mv (.t 13), none⟩] [])))))) (.seq (.reg [⟨some 67, .ld (.t 1) (some 3), none⟩, ⟨some 68, .mv (.t 3), none⟩, ⟨some 69, .call (.c (.func (.func 55) #[] #[])) [.t 67, .t 68], none⟩, ⟨none, .st (.t 2) (.t 69) 3, none⟩] []) .ret)))⟩
theorem k11 : tab Try.prog 11 = some kf11 := by kernel_rfl
end Go.Canon
namespace Go.Canon
open Go Go.Proofs
set_option linter.unusedVariables false
set_option linter.unusedSimpArgs false
def kf97 : KFunc := ⟨1, 18, [.tmp 2], .seq (.reg [⟨some 2, .mv (.c (.int .i64 0)), none⟩] []) (.seq (.reg [⟨some 3, .mv (.c (.int .i64 0)), none⟩] []) (.seq (.seq (.reg [⟨some 6, .mv (.t 0), none⟩, ⟨some 7, .len (.t 6), none⟩, ⟨some 8, .mv (.c (.int .i64 0)), none⟩] []) (.block 0 (.loop (.seq (.reg [⟨some 9, .bin .lss (.t 8) (.t 7), none⟩] []) (.seq (.cond (.t 9) .skip (.exit 0)) (.seq (.block 1 (.seq (.reg [⟨some 10, .iaS (.t 6) (.t 8) 1, none⟩, ⟨some 11, .ld (.t 10) none, none⟩, ⟨some 5, .mv (.t 11), none⟩] []) (.seq (.reg [⟨some 12, .mv (.t 5), none⟩, ⟨some 13, .mv (.t 3), none⟩, ⟨some 14, .bin .neq (.t 12) (.t 13), none⟩] []) (.cond (.t 14) (.seq (.reg [⟨some 15, .mv (.t 5), none⟩, ⟨some 2, .mv (.t 15), none⟩] []) .ret) .skip)))) (.reg [⟨some 16, .bin .add (.t 8) (.c (.int .i64 1)), none⟩, ⟨some 8, .mv (.t 16), none⟩] []))))))) (.seq (.reg [⟨some 17, .mv (.t 3), none⟩, ⟨some 2, .mv (.t 17), none⟩] []) .ret)))⟩
theorem k97 : tab Try.prog 97 = some kf97 := by kernel_rfl
def kf70 : KFunc := ⟨2, 27, [.tmp 4], .seq (.reg [⟨some 2, .box (.t 0), none⟩, ⟨some 3, .box (.t 1), none⟩, ⟨some 4, .mv (.c (.int .i64 0)), none⟩] []) (.seq (.reg [⟨some 5, .fa (.t 2) 0, none⟩, ⟨some 6, .ld (.t 5) none, none⟩, ⟨some 7, .fa (.t 3) 0, none⟩, ⟨some 8, .ld (.t 7) none, none⟩, ⟨some 9, .call (.c (.func (.func 98) #[] #[])) [.t 6, .t 8], none⟩, ⟨some 10, .fa (.t 2) 1, none⟩, ⟨some 11, .ld (.t 10) none, none⟩, ⟨some 12, .fa (.t 3) 1, none⟩, ⟨some 13, .ld (.t 12) none, none⟩, ⟨some 14, .call (.c (.func (.func 99) #[] #[])) [.t 11, .t 13], none⟩, ⟨some 15, .fa (.t 2) 2, none⟩, ⟨some 16, .ld (.t 15) none, none⟩, ⟨some 17, .fa (.t 3) 2, none⟩, ⟨some 18, .ld (.t 17) none, none⟩, ⟨some 19, .call (.c (.func (.func 98) #[] #[])) [.t 16, .t 18], none⟩, ⟨some 20, .fa (.t 2) 3, none⟩, ⟨some 21, .ld (.t 20) none, none⟩, ⟨some 22, .fa (.t 3) 3, none⟩, ⟨some 23, .ld (.t 22) none, none⟩, ⟨some 24, .call (.c (.func (.func 98) #[] #[])) [.t 21, .t 23], none⟩, ⟨some 25, .mkS [.int .i64 0, .int .i64 0, .int .i64 0, .int .i64 0] 4 [(0, 1, .t 9), (1, 1, .t 14), (2, 1, .t 19), (3, 1, .t 24)], none⟩, ⟨some 26, .call (.c (.func (.func 97) #[] #[])) [.t 25], none⟩, ⟨some 4, .mv (.t 26), none⟩] [(4, 6), (4, 8), (4, 11), (9, 11), (4, 13), (9, 13), (4, 16), (9, 16), (14, 16), (4, 18), (9, 18), (14, 18)]) .ret)⟩
theorem k70 : tab Try.prog 70 = some kf70 := by kernel_rfl
def firstNZ : List Int → Int
  | [] => 0
  | x :: xs => if x ≠ 0 then x else firstNZ xs
theorem firstNZ_at : ∀ {l : List Int} {j : Nat} (hj : j < l.length), (∀ x ∈ l.take j, x = 0) → l[j] ≠ 0 → firstNZ l = l[j]
  | x :: xs, 0, _, _, h => by simp at h; simp [firstNZ, h]
  | x :: xs, j + 1, hj, H, h => by
    simp only [List.getElem_cons_succ] at h ⊢
    rw [firstNZ, if_neg (by simp [H x (by simp)])]
    exact firstNZ_at (by simpa using hj) (fun y hy => H y (by simp [hy])) h
theorem firstNZ_all : ∀ {l : List Int}, (∀ x ∈ l, x = 0) → firstNZ l = 0
  | [], _ => rfl
  | x :: xs, H => by rw [firstNZ, if_neg (by simp [H x (by simp)])]; exact firstNZ_all fun y hy => H y (by simp [hy])
theorem or_ret (H : Heap) (p : Pl) (l : List Int) {S : Nat → Prop} (hv : Ints S H p l) (hl : l.length < 4611686018427387904) : Ret (tab Try.prog) 97 [.slice p.1 l.length p.2] H (.int .i64 (firstNZ l)) H := by
  refine Ret_own k97 rfl ?_
  refine AX_seq (AX_E (E_mv (v := .int .i64 (0)) rfl (E_nil (AX_seq (AX_E (E_mv (v := .int .i64 (0)) rfl (E_nil (AX_seq (AX_seq (AX_E (E_mv (v := .slice _ _ _) rfl (E_len (n := (l).length) rfl (E_mv (v := .int .i64 (0)) rfl (E_nil (AX_block ?_)))))))))))))))
  refine AX_loopF (γ := Nat) (fun j => [(3, .int .i64 (0)), (6, .slice (p).1 (l).length (p).2), (7, .int .i64 ((l).length)), (8, .int .i64 ((j : Int)))]) (fun j h_ m_ => h_ = H ++ [] ∧ m_ = [] ∧ j ≤ l.length ∧ ∀ x ∈ l.take j, x = 0) (fun j => l.length - j) (0) ⟨rfl, rfl, rfl, rfl, trivial⟩ ⟨rfl, rfl, ?_⟩ ?_
  · simp
  rintro j fr0 h0 m0 ⟨rfl, rfl, inv0⟩ K0 hN0 hR0 hE0
  refine AX_seq (AX_E (E_lssS rfl rfl (fun c9 => ?_) (fun c9 => ?_)))
  · refine E_nil (AX_seq (AX_condT rfl (AX_skip (AX_seq (AX_block (AX_seq (AX_E (have ix1 : j < (l).length := (by first | omega | (simp; done) | (simp; omega)); E_iaIb (j := j) rfl hv rfl rfl rfl ix1 fun b1 o1 w1 => (E_ldB (v := .int .i64 (l[j]'ix1)) rfl w1 (E_mv (v := .int .i64 (l[j]'ix1)) rfl (E_nil (AX_seq (AX_E (E_mv (v := .int .i64 (l[j]'ix1)) rfl (E_mv (v := .int .i64 (0)) rfl (E_neqS rfl rfl (fun c14 => ?_) (fun c14 => ?_)))))))))))))))))
    · refine E_nil (AX_condT rfl (AX_seq (AX_E (E_mv (v := .int .i64 (l[j]'ix1)) rfl (E_mv (v := .int .i64 (l[j]'ix1)) rfl (E_nil (AX_ret (hR0 _ _ _ ?_))))))))
      refine ⟨_, rfl, by simp, ?_, forget_flat rfl (List.prefix_append _ _)⟩
      -- r1
      clear hN0 hR0 hE0
      refine congrArg (Value.int _) ?_
      rw [firstNZ_at (by omega) inv0.2 c14]
    · refine E_nil (AX_condF rfl (AX_skip (AX_E (E_addI rfl rfl (by first | omega | (simp; done) | (simp; omega)) (by first | omega | (simp; done) | (simp; omega)) (E_mv (v := .int .i64 (((j : Int) + 1))) rfl (E_nil ?_))))))
      refine hN0 (j + 1) _ _ _ ⟨by first | rfl | (congr 1; omega), by first | rfl | (congr 1; omega), by first | rfl | (congr 1; omega), by first | rfl | (congr 1; omega), trivial⟩ ⟨rfl, rfl, ?_⟩ ?_
      -- n2
      all_goals clear hN0 hR0 hE0
      · exact ⟨by omega, all_next (by omega) inv0.2 c14⟩
      · (first | omega | (simp; omega))
  · refine E_nil (AX_seq (AX_condF rfl (AX_exit (hE0 _ _ _ _ (AX_seq (AX_E (E_mv (v := .int .i64 (0)) rfl (E_mv (v := .int .i64 (0)) rfl (E_nil (AX_ret ?_))))))))))
    refine ⟨_, rfl, by simp, ?_, forget_flat rfl (List.prefix_append _ _)⟩
    -- r3
    clear hN0 hR0 hE0
    refine congrArg (Value.int _) ?_
    rw [firstNZ_all (all_all c9 inv0.2)]
def orderM (g h : G) : Int := firstNZ [cmpM g.k h.k, lexM g.ws h.ws, cmpM g.b h.b, cmpM g.f h.f]
theorem order_ret (H : Heap) (g h : G) (p q : Pl) {S S' : Nat → Prop} (hv : Ints S H p g.ws) (hu : Ints S' H q h.ws) (hg : g.ws.length < 4611686018427387904) : Ret (tab Try.prog) 70 [gv g p, gv h q] H (.int .i64 (orderM g h)) H := by
  refine Ret_own k70 rfl ?_
  refine AX_seq (AX_E (E_boxA rfl (E_boxA rfl (E_mv (v := .int .i64 (0)) rfl (E_nil (AX_seq (AX_E (E_fa rfl (E_ldO (k := 0) (v := .int .i64 (g.k)) rfl rfl (E_fa rfl (E_ldO (k := 1) (v := .int .i64 (h.k)) rfl rfl (E_callV rfl (cmp_ret _ _ _) (E_fa rfl (E_ldO (k := 0) (v := .slice _ _ _) rfl rfl (E_fa rfl (E_ldO (k := 1) (v := .slice _ _ _) rfl rfl (E_callV rfl (lex_ret _ _ _ _ _ hv.app hu.app (by first | omega | (simp; done) | (simp; omega))) (E_fa rfl (E_ldO (k := 0) (v := .int .i64 (g.b)) rfl rfl (E_fa rfl (E_ldO (k := 1) (v := .int .i64 (h.b)) rfl rfl (E_callV rfl (cmp_ret _ _ _) (E_fa rfl (E_ldO (k := 0) (v := .int .i64 (g.f)) rfl rfl (E_fa rfl (E_ldO (k := 1) (v := .int .i64 (h.f)) rfl rfl (E_callV rfl (cmp_ret _ _ _) (E_mkS (cs := [.int .i64 (cmpM (g.k) (h.k)), .int .i64 (lexM (g.ws) (h.ws)), .int .i64 (cmpM (g.b) (h.b)), .int .i64 (cmpM (g.f) (h.f))]) rfl (E_callV rfl (or_ret _ (some ⟨(H).length + 2, 0, none⟩, 4) [cmpM g.k h.k, lexM g.ws h.ws, cmpM g.b h.b, cmpM g.f h.f] (ints_own (k := 2) rfl) (by simp)) (E_mv (v := .int .i64 (orderM g h)) rfl (E_nil (AX_ret ?_))))))))))))))))))))))))))))))))
  refine ⟨_, rfl, by simp, ?_, forget_flat rfl (List.prefix_append _ _)⟩
  refine congrArg (Value.int _) ?_
  rfl
theorem lex_neg : ∀ {a b : List Int}, a.length = b.length → (lexM a b < 0 ↔ wsLt a b) ∧ (lexM a b = 0 ↔ a = b)
  | [], [], _ => by simp [lexM, wsLt]
  | x :: xs, y :: ys, h => by
    have ih := lex_neg (a := xs) (b := ys) (by simpa using h)
    simp only [lexM, wsLt, List.cons.injEq]
    by_cases e : x = y
    · subst e
      have : cmpM x x = 0 := cmpM_eq.2 rfl
      simp [this, ih]
    · have h1 : cmpM x y ≠ 0 := fun h => e (cmpM_eq.1 h)
      rw [if_pos h1, if_pos e]
      refine ⟨?_, by simp [e, h1]⟩
      unfold cmpM
      (repeat' split) <;> omega
  | [], _ :: _, h => by simp at h
  | _ :: _, [], h => by simp at h
theorem order_iff {g h : G} (hg : GR g) (hh : GR h) : orderM g h < 0 ↔ beforeM g h := by
  unfold orderM beforeM
  by_cases hk : g.k = h.k
  · have hl : g.ws.length = h.ws.length := by
      have a1 := hg.ar
      have a2 := hh.ar
      rw [hk] at a1
      omega
    obtain ⟨l1, l2⟩ := lex_neg hl
    have c0 : cmpM g.k h.k = 0 := cmpM_eq.2 hk
    rw [if_neg (by simp [hk])]
    by_cases hw : g.ws = h.ws
    · have w0 : lexM g.ws h.ws = 0 := l2.2 hw
      rw [if_neg (by simp [hw])]
      simp only [firstNZ, c0, w0, ne_eq, not_true, if_false]
      unfold cmpM
      (repeat' split) <;> omega
    · have w0 : lexM g.ws h.ws ≠ 0 := fun e => hw (l2.1 e)
      rw [if_pos hw]
      simp only [firstNZ, c0, ne_eq, not_true, if_false]
      rw [if_pos w0]
      exact l1
  · rw [if_pos hk]
    have c0 : cmpM g.k h.k ≠ 0 := fun e => hk (cmpM_eq.1 e)
    rw [firstNZ, if_pos c0]
    unfold cmpM
    (repeat' split) <;> omega
end Go.Canon
namespace Go.Canon
open Go Go.Proofs
set_option linter.unusedVariables false
set_option linter.unusedSimpArgs false
def kf67 : KFunc := ⟨2, 9, [.tmp 4], .seq (.reg [⟨some 2, .box (.t 0), none⟩, ⟨some 3, .box (.t 1), none⟩, ⟨some 4, .mv (.c (.bool false)), none⟩] []) (.seq (.reg [⟨some 5, .ld (.t 2) (some 4), none⟩, ⟨some 6, .ld (.t 3) (some 4), none⟩, ⟨some 7, .call (.c (.func (.func 64) #[] #[])) [.t 5, .t 6], none⟩, ⟨some 8, .not (.t 7), none⟩, ⟨some 4, .mv (.t 8), none⟩] []) .ret)⟩
theorem k67 : tab Try.prog 67 = some kf67 := by kernel_rfl
def kf69 : KFunc := ⟨2, 6, [.tmp 4], .seq (.reg [⟨some 2, .box (.t 0), none⟩, ⟨some 3, .box (.t 1), none⟩, ⟨some 4, .mv (.c .nilFunc), none⟩] []) (.seq (.reg [⟨some 5, .fn 96 [] [.t 3, .t 2], none⟩, ⟨some 4, .mv (.t 5), none⟩] []) .ret)⟩
theorem k69 : tab Try.prog 69 = some kf69 := by kernel_rfl
def kf96 : KFunc := ⟨3, 31, [], .seq (.reg [⟨some 5, .ld (.t 1) none, none⟩, ⟨some 6, .mv (.c (.int .i64 0)), none⟩] []) (.block 0 (.loop (.seq (.reg [⟨some 7, .bin .lss (.t 6) (.t 5), none⟩] []) (.seq (.cond (.t 7) .skip (.exit 0)) (.seq (.block 1 (.seq (.reg [⟨some 8, .mv (.t 6), none⟩, ⟨some 4, .mv (.t 8), none⟩] []) (.seq (.reg [⟨some 9, .fa (.t 2) 3, none⟩, ⟨some 10, .ld (.t 9) none, none⟩, ⟨some 11, .fa (.t 2) 0, none⟩, ⟨some 12, .fa (.t 11) 2, none⟩, ⟨some 13, .ld (.t 12) none, none⟩, ⟨some 14, .mv (.t 4), none⟩, ⟨some 15, .iaS (.t 13) (.t 14) 4, none⟩, ⟨some 16, .ld (.t 15) (some 4), none⟩, ⟨some 17, .fa (.t 2) 0, none⟩, ⟨some 18, .fa (.t 17) 2, none⟩, ⟨some 19, .ld (.t 18) none, none⟩, ⟨some 20, .ld (.t 1) none, none⟩, ⟨some 21, .iaS (.t 19) (.t 20) 4, none⟩, ⟨some 22, .ld (.t 21) (some 4), none⟩, ⟨some 23, .call (.t 10) [.t 16, .t 22], none⟩, ⟨some 24, .mv (.t 23), none⟩, ⟨some 25, .mv (.t 0), some (24, true)⟩, ⟨some 26, .mv (.t 4), some (24, true)⟩, ⟨some 27, .call (.t 25) [.t 26], some (24, true)⟩, ⟨some 28, .not (.t 27), some (24, true)⟩, ⟨some 29, .pick (.t 24) (.t 28) (.c (.bool false)), none⟩] []) (.cond (.t 29) .ret .skip)))) (.reg [⟨some 30, .bin .add (.t 6) (.c (.int .i64 1)), none⟩, ⟨some 6, .mv (.t 30), none⟩] []))))))⟩
theorem k96 : tab Try.prog 96 = some kf96 := by kernel_rfl
theorem near_ret (H : Heap) (g h : G) (p q : Pl) {S S' : Nat → Prop} (hv : Ints S H p g.ws) (hu : Ints S' H q h.ws) (hg : GR g) (hh : GR h) : Ret (tab Try.prog) 67 [gv g p, gv h q] H (.bool (decide (¬ commM g h))) H := by
  refine Ret_own k67 rfl ?_
  refine AX_seq (AX_E (E_boxA rfl (E_boxA rfl (E_mv (v := .bool _) rfl (E_nil (AX_seq (AX_E (E_ldON (k := 0) rfl rfl (E_ldON (k := 1) rfl rfl (E_callP rfl (pcomm_ret _ g h _ _ hv.app hu.app (by assumption) (by assumption)) (fun c7 => ?_) (fun c7 => ?_)))))))))))
  · refine E_notV rfl rfl (E_mv (v := .bool _) rfl (E_nil (AX_ret ?_)))
    refine ⟨_, rfl, by simp, ?_, forget_flat rfl (List.prefix_append _ _)⟩
    refine congrArg (Value.bool) ?_
    refine (decide_eq_false ?_).symm
    simpa using c7
  · refine E_notV rfl rfl (E_mv (v := .bool _) rfl (E_nil (AX_ret ?_)))
    refine ⟨_, rfl, by simp, ?_, forget_flat rfl (List.prefix_append _ _)⟩
    refine congrArg (Value.bool) ?_
    refine (decide_eq_true ?_).symm
    simpa using c7
theorem before1_call (l n : Nat) (P : Nat → Prop) [DecidablePred P] (I : Nat → Heap → Prop) (Stop : Heap → Prop) (bn bw ow : Nat) (on f : Nat) (gs : List G) (p : Pl) (w b : Int)
    (hI : ∀ i K, I i K → rowGet K ⟨bn, on, none⟩ 1 = some [.int .i64 (n : Int)] ∧ rowGet K ⟨bw, ow, none⟩ 4 = some [.int .i64 w, .int .i64 b, .slice p.1 gs.length p.2, .func (.func f) #[] #[]] ∧ Gates allB K p gs)
    (hn : n < gs.length) (hl : gs.length < 4294967296)
    (hnear : ∀ i (hi : i < n) (K : Heap) (q1 q2 : Pl), Ints allB K q1 gs[i].ws → Ints allB K q2 gs[n].ws → Ret (tab Try.prog) f [gv gs[i] q1, gv gs[n] q2] K (.bool (decide (P i))) K)
    (hskip : ∀ i K, i < n → I i K → ¬ P i → I (i + 1) K)
    (hyield : ∀ i K, i < n → I i K → P i → ARound (tab Try.prog) l [.int .i64 (i : Int)] K (fun v K' => (v = .bool true ∧ I (i + 1) K') ∨ (v = .bool false ∧ Stop K')))
    (H : Heap) (h0 : I 0 H) : ACall (tab Try.prog) 96 [.func (.yield l) #[] #[], .pointer (some ⟨bn, on, none⟩), .pointer (some ⟨bw, ow, none⟩)] H (fun _ K' => ∃ Kf, (I n Kf ∨ Stop Kf) ∧ K' = forget H (.tuple #[]) Kf) := by
  refine ACall_ownR k96 rfl ?_
  obtain ⟨e1, e2, e3⟩ := hI 0 H h0
  refine AX_seq (AX_E (E_ldB (v := .int .i64 ((n : Int))) rfl e1 (E_mv (v := .int .i64 (0)) rfl (E_nil (AX_block ?_)))))
  refine AX_loopF (γ := Nat) (fun i => [(0, .func (.yield l) #[] #[]), (1, .pointer (some ⟨bn, on, none⟩)), (2, .pointer (some ⟨bw, ow, none⟩)), (5, .int .i64 ((n : Int))), (6, .int .i64 ((i : Int)))]) (fun i h_ m_ => (I i h_) ∧ m_ = [] ∧ i ≤ n) (fun i => n - i) (0) ⟨rfl, rfl, rfl, rfl, rfl, trivial⟩ ⟨(by simpa using h0), rfl, ?_⟩ ?_
  · omega
  rintro i fr0 KH0 m0 ⟨hI0, rfl, inv0⟩ K0 hN0 hR0 hE0
  obtain ⟨a1, a2, a3⟩ := hI i KH0 hI0
  refine AX_nil ?_
  refine AX_seq (AX_E (E_lssS rfl rfl (fun c7 => ?_) (fun c7 => ?_)))
  · refine E_nil (AX_seq (AX_condT rfl (AX_skip (AX_seq (AX_block (AX_seq (AX_E (E_mv (v := .int .i64 ((i : Int))) rfl (E_mv (v := .int .i64 ((i : Int))) rfl (E_nil (AX_seq (AX_E (E_fa rfl (E_ldB (v := .func _ _ _) rfl (rowGet_c (j := 3) a2 rfl) (E_fa rfl (E_fa rfl (E_ldB (v := .slice _ _ _) rfl (rowGet_c (j := 2) a2 rfl) (E_mv (v := .int .i64 ((i : Int))) rfl (have ix1 : i < (gs).length := (by first | omega | (simp; done) | (simp; omega)); E_iaGb (j := i) rfl a3 rfl rfl rfl ix1 fun b1 o1 q1 f1 w1 => (E_ldBN rfl w1 (E_fa rfl (E_fa rfl (E_ldB (v := .slice _ _ _) rfl (rowGet_c (j := 2) a2 rfl) (E_ldB (v := .int .i64 ((n : Int))) rfl a1 (have ix2 : n < (gs).length := (by first | omega | (simp; done) | (simp; omega)); E_iaGb (j := n) rfl a3 rfl rfl (by first | rfl | omega) ix2 fun b2 o2 q2 f2 w2 => (E_ldBN rfl w2 (E_callP rfl (hnear i (by omega) _ _ _ f1.app.all f2.app.all) (fun c23 => ?_) (fun c23 => ?_))))))))))))))))))))))))))))
    · refine E_mv (v := .bool _) rfl (E_on rfl (E_mv (v := .func _ _ _) rfl (E_on rfl (E_mv (v := .int .i64 ((i : Int))) rfl (E_on rfl ?_)))))
      have hy := hyield i KH0 (by omega) hI0 c23
      rw [← List.append_nil KH0] at hy
      refine E_yield rfl rfl ((hy).mono ?_)
      rintro _ KY3 (⟨rfl, hY3⟩ | ⟨rfl, hY3⟩)
      · refine E_nilR (E_on rfl (E_notV rfl rfl (E_pickT rfl (v := .bool _) rfl (E_nil (AX_condF rfl (AX_skip (AX_E (E_addI rfl rfl (by first | omega | (simp; done) | (simp; omega)) (by first | omega | (simp; done) | (simp; omega)) (E_mv (v := .int .i64 (((i : Int) + 1))) rfl (E_nil ?_))))))))))
        refine hN0 (i + 1) _ _ _ ⟨by first | rfl | (congr 1; omega), by first | rfl | (congr 1; omega), by first | rfl | (congr 1; omega), by first | rfl | (congr 1; omega), by first | rfl | (congr 1; omega), trivial⟩ ⟨?_, rfl, ?_⟩ ?_
        all_goals clear hN0 hR0 hE0
        · simpa using hY3
        · omega
        · (first | omega | (simp; omega))
      · refine E_nilR (E_on rfl (E_notV rfl rfl (E_pickT rfl (v := .bool _) rfl (E_nil (AX_condT rfl (AX_ret (hR0 _ _ _ ?_)))))))
        refine ⟨.tuple #[], rfl, by simp, _, ?_, rfl⟩
        exact .inr (by simpa using hY3)
    · refine E_mv (v := .bool _) rfl (E_notT rfl (E_notT rfl (E_notT rfl (E_notT rfl (E_pickF rfl (v := .bool _) rfl (E_nil (AX_condF rfl (AX_skip (AX_E (E_addI rfl rfl (by first | omega | (simp; done) | (simp; omega)) (by first | omega | (simp; done) | (simp; omega)) (E_mv (v := .int .i64 (((i : Int) + 1))) rfl (E_nil ?_))))))))))))
      refine hN0 (i + 1) _ _ _ ⟨by first | rfl | (congr 1; omega), by first | rfl | (congr 1; omega), by first | rfl | (congr 1; omega), by first | rfl | (congr 1; omega), by first | rfl | (congr 1; omega), trivial⟩ ⟨?_, rfl, ?_⟩ ?_
      all_goals clear hN0 hR0 hE0
      · simpa using hskip i KH0 (by omega) hI0 c23
      · omega
      · (first | omega | (simp; omega))
  · refine E_nil (AX_seq (AX_condF rfl (AX_exit (hE0 _ _ _ _ ?_))))
    have en : i = n := by omega
    subst en
    refine ⟨.tuple #[], rfl, by simp, _, ?_, rfl⟩
    exact .inl (by simpa using hI0)
abbrev wcells (c : C) (p : Pl) (f : Nat) : List Value := [.int .i64 c.w, .int .i64 c.b, .slice p.1 c.gs.length p.2, .func (.func f) #[] #[]]
theorem pbefore_ret (H : Heap) (c : C) (p : Pl) (f : Nat) (n : Int) : Ret (tab Try.prog) 69 [.agg #[.int .i64 c.w, .int .i64 c.b, .slice p.1 c.gs.length p.2, .func (.func f) #[] #[]], .int .i64 n] H (.func (.func 96) #[] #[.pointer (some ⟨H.length + 1, 0, none⟩), .pointer (some ⟨H.length + 0, 0, none⟩)]) (H ++ [.row (wcells c p f) true none, .row [.int .i64 n] true none]) := by
  refine Ret_own k69 rfl ?_
  refine AX_seq (AX_E (E_boxA rfl (E_boxV (v := .int .i64 (n)) rfl rfl (E_mv (v := .nilFunc) rfl (E_nil (AX_seq (AX_E (E_fn (u := []) (v := [.pointer (some ⟨(H).length + 1, 0, none⟩), .pointer (some ⟨(H).length + 0, 0, none⟩)]) rfl rfl (E_mv (v := .func _ _ _) rfl (E_nil (AX_ret ?_)))))))))))
  exact ⟨_, rfl, by simp, rfl, forget_more rfl⟩
/-- A range over the neighbours before a gate whose body leaves at once. -/
theorem rf_leave {fi : FI} {fr : Nat → Value} {b L : Heap} {m : List Nat} {Q : Ex → (Nat → Value) → Heap → List Nat → Prop} {f : KO} {ps : List Nat} {id id' n f1 bn bw : Nat} {c : C} {p : Pl} (P : Nat → Prop) [DecidablePred P]
    (hf : f.ev fr = .func (.func 96) #[] #[.pointer (some ⟨bn, 0, none⟩), .pointer (some ⟨bw, 0, none⟩)]) (hps : ps.length = 1) (hid : (id' = id) = False) (hrd : fi.rd = none)
    (h1 : rowGet (b ++ L) ⟨bn, 0, none⟩ 1 = some [.int .i64 (n : Int)]) (h2 : rowGet (b ++ L) ⟨bw, 0, none⟩ 4 = some (wcells c p f1)) (h3 : Gates allB (b ++ L) p c.gs) (hn : n < c.gs.length) (hl : c.gs.length < 4294967296)
    (hnear : ∀ i (hi : i < n) (K : Heap) (q1 q2 : Pl), Ints allB K q1 c.gs[i].ws → Ints allB K q2 c.gs[n].ws → Ret (tab Try.prog) f1 [gv c.gs[i] q1, gv c.gs[n] q2] K (.bool (decide (P i))) K)
    (hN : (∀ i, i < n → ¬ P i) → ∀ R, Q .normal fr (b ++ (L ++ [.mark, .loop R])) ((b ++ L).length :: m)) (hE : (∃ i, i < n ∧ P i) → ∀ R, Q (.exit id') fr (b ++ (L ++ [.mark, .loop R])) ((b ++ L).length :: m)) :
    AX (tab Try.prog) fi (.rf f ps .skip (.block id (.exit id'))) fr (b ++ L) m Q := by
  refine AX_rf hf hrd ?_
  have hN' : (∀ i, i < n → ¬ P i) → ∀ R, Q .normal fr ((b ++ L) ++ [.mark, .loop R]) ((b ++ L).length :: m) := fun x R => by rw [List.append_assoc]; exact hN x R
  have hE' : (∃ i, i < n ∧ P i) → ∀ R, Q (.exit id') fr ((b ++ L) ++ [.mark, .loop R]) ((b ++ L).length :: m) := fun x R => by rw [List.append_assoc]; exact hE x R
  clear hN hE
  generalize b ++ L = h at *
  generalize hR : rec0 fi fr ps .skip (.block id (.exit id')) h.length = R
  have hR1 : R.st = .ready := by rw [← hR]; rfl
  have hR2 : R.pending = none := by rw [← hR]; rfl
  have hR3 : R.fi.rd = some (h.length + 1) := by rw [← hR]; rfl
  have hR4 : R.params.length = 1 := by rw [← hR]; exact hps
  have hR5 : R.assign = .skip := by rw [← hR]; rfl
  have hR6 : R.body = .block id (.exit id') := by rw [← hR]; rfl
  clear hR
  obtain ⟨st, pd, fi', fr', ps', a', b', bk⟩ := R
  simp only at hR1 hR2 hR3 hR4 hR5 hR6
  subst hR1 hR2 hR5 hR6
  have hget : ∀ r, (h ++ [CO.mark, .loop r])[h.length + 1]? = some (.loop r) := fun r => by rw [List.getElem?_append_right (by omega)]; simp
  have hset : ∀ r r', (h ++ [CO.mark, .loop r]).set (h.length + 1) (.loop r') = h ++ [.mark, .loop r'] := fun r r' => by rw [List.set_append_right _ _ (by omega)]; simp
  have key := before1_call (h.length + 1) n P (fun i K => K = h ++ [.mark, .loop ⟨.ready, none, fi', fr', ps', .skip, .block id (.exit id'), bk⟩] ∧ ∀ j, j < i → ¬ P j) (fun K => K = h ++ [.mark, .loop ⟨.done, some (.exit id'), fi', fr', ps', .skip, .block id (.exit id'), bk⟩] ∧ ∃ j, j < n ∧ P j) bn bw 0 0 f1 c.gs p c.w c.b ?_ hn hl hnear ?_ ?_ (h ++ [.mark, .loop ⟨.ready, none, fi', fr', ps', .skip, .block id (.exit id'), bk⟩]) ⟨rfl, fun j hj => by omega⟩
  · refine ACall.mono key ?_
    rintro _ K' ⟨Kf, hK | hK, rfl⟩
    · obtain ⟨rfl, hj⟩ := hK
      rw [forget_flat rfl (List.prefix_refl _)]
      refine ⟨_, hget _, by simp, ?_⟩
      rw [hset]
      exact hN' hj _
    · obtain ⟨rfl, hj⟩ := hK
      have hne : ¬ (h ++ [CO.mark, .loop ⟨.ready, none, fi', fr', ps', .skip, .block id (.exit id'), bk⟩] <+: h ++ [CO.mark, .loop ⟨.done, some (.exit id'), fi', fr', ps', .skip, .block id (.exit id'), bk⟩]) := by
        rintro ⟨t, ht⟩
        have := congrArg (fun l : Heap => l[h.length + 1]?) ht
        simp only [List.append_assoc] at this
        rw [List.getElem?_append_right (by omega), hget] at this
        simp only [show h.length + 1 - h.length = 1 by omega, List.cons_append, List.getElem?_cons_succ, List.getElem?_cons_zero] at this
        injection this with this
        injection this with this
        have := congrArg CLoop.st this
        cases this
      unfold forget
      rw [if_neg (fun x => hne x.2)]
      refine ⟨_, hget _, by simp, ?_⟩
      rw [hset]
      exact hE' hj _
  · rintro i K ⟨rfl, _⟩
    exact ⟨rowGet_base h1, rowGet_base h2, h3.app⟩
  · rintro i K hi ⟨rfl, hj⟩ hp
    refine ⟨rfl, fun j hjj => ?_⟩
    by_cases e : j = i
    · subst e; exact hp
    · exact hj j (by omega)
  · rintro i K hi ⟨rfl, hj⟩ hp
    refine ARound_of (hget _) (by simp [hR4]) rfl hR3 ?_
    refine AX_skip ⟨rfl, rfl, _, hget _, rfl, ?_⟩
    rw [hset]
    refine AX_block (AX_exit ?_)
    simp only [blockK, hid, if_false]
    refine ⟨by trivial, _, hget _, ?_⟩
    rw [hset]
    exact .inr ⟨by trivial, by first | rfl | trivial, ⟨i, hi, hp⟩⟩
end Go.Canon
namespace Go.Canon
open Go Go.Proofs
set_option linter.unusedVariables false
set_option linter.unusedSimpArgs false
def kf71 : KFunc := ⟨3, 33, [.tmp 6], .seq (.reg [⟨some 6, .mv (.c (.slice none 0 0)), none⟩] []) (.seq (.reg [⟨some 8, .mv (.t 0), none⟩, ⟨some 9, .mv (.t 1), none⟩, ⟨some 10, .mv (.t 2), none⟩, ⟨some 11, .mv (.t 0), none⟩, ⟨some 12, .len (.t 11), none⟩, ⟨some 13, .slS (.t 8) (some (.t 9)) (some (.t 10)) (some (.t 12)) 4, none⟩] []) (.seq (.seq (.reg [⟨some 14, .mv (.t 1), none⟩, ⟨some 15, .mv (.t 2), none⟩, ⟨some 16, .bin .eql (.t 14) (.t 15), none⟩] []) (.cond (.t 16) (.seq (.reg [⟨some 17, .mv (.t 0), none⟩, ⟨some 6, .mv (.t 17), none⟩] []) .ret) .skip)) (.seq (.reg [⟨some 18, .mv (.t 0), none⟩, ⟨some 19, .len (.t 18), none⟩, ⟨some 7, .mv (.t 19), none⟩] []) (.seq (.reg [⟨some 20, .mv (.t 0), none⟩, ⟨some 21, .mv (.t 1), none⟩, ⟨some 22, .slS (.t 20) none (some (.t 21)) none 4, none⟩, ⟨some 23, .mv (.t 0), none⟩, ⟨some 24, .mv (.t 2), none⟩, ⟨some 25, .slS (.t 23) (some (.t 24)) none none 4, none⟩, ⟨some 26, .app (.t 22) (.t 25) 4 48, none⟩, ⟨some 0, .mv (.t 26), none⟩] []) (.seq (.reg [⟨some 27, .mv (.t 0), none⟩, ⟨some 28, .mv (.t 0), none⟩, ⟨some 29, .len (.t 28), none⟩, ⟨some 30, .mv (.t 7), none⟩, ⟨some 31, .slS (.t 27) (some (.t 29)) (some (.t 30)) none 4, none⟩, ⟨none, .clr (.t 31) [.int .i64 0, .slice none 0 0, .int .i64 0, .int .i64 0], none⟩] []) (.seq (.reg [⟨some 32, .mv (.t 0), none⟩, ⟨some 6, .mv (.t 32), none⟩] []) .ret))))))⟩
theorem k71 : tab Try.prog 71 = some kf71 := by kernel_rfl
theorem delete_ret (K : Heap) (b k cap j : Nat) (cs : List Value) (gr : Option Nat) (hrow : K[b]? = some (.row cs true gr)) (hg : gr = none ∨ gr = some 4) (hj : j < k) (hk : k ≤ cap) (hfit : k * 4 ≤ cs.length) (hcell : ∀ v ∈ cs, isCell v = true) :
    ∃ cs', Ret (tab Try.prog) 71 [.slice (some ⟨b, 0, none⟩) k cap, .int .i64 (j : Int), .int .i64 ((j : Int) + 1)] K (.slice (some ⟨b, 0, none⟩) (k - 1) cap) (K.set b (.row cs' true gr)) ∧ cs'.length = cs.length ∧ (∀ v ∈ cs', isCell v = true) ∧ cs'.take ((k - 1) * 4) = cs.take (j * 4) ++ (cs.drop ((j + 1) * 4)).take ((k - (j + 1)) * 4) := by
  have hb := (List.getElem?_eq_some_iff.1 hrow).1
  let new := (cs.drop ((j + 1) * 4)).take ((k - (j + 1)) * 4)
  have hnl : new.length = (k - (j + 1)) * 4 := by simp only [new, List.length_take, List.length_drop]; omega
  have hnc : ∀ v ∈ new, isCell v = true := fun v hv => hcell v (List.mem_of_mem_drop (List.mem_of_mem_take hv))
  let cs1 := cs.take (j * 4) ++ new ++ cs.drop (j * 4 + new.length)
  have hl1 : cs1.length = cs.length := by simp only [cs1, List.length_append, List.length_take, List.length_drop, hnl]; omega
  let z : List Value := [.int .i64 0, .slice none 0 0, .int .i64 0, .int .i64 0]
  let cs2 := cs1.take ((k - 1) * 4) ++ z ++ cs1.drop ((k - 1) * 4 + z.length)
  refine ⟨cs2, ?_, ?_, ?_, ?_⟩
  · refine Ret_own k71 rfl ?_
    have r0 : (K ++ [])[b]? = some (.row cs true gr) := by rw [List.append_nil]; exact hrow
    have e1 : (some ⟨b, (j + 1) * 4, none⟩ : Option Addr) = (if cap = j + 1 then (some ⟨b, 0, none⟩ : Option Addr) else (some ⟨b, 0, none⟩ : Option Addr).map (·.add ((j + 1) * 4))) ∨ cap = j + 1 := by
      by_cases h : cap = j + 1
      · exact .inr h
      · left; rw [if_neg h]; simp [add_pl]
    have hC : Cells allB (K ++ []) 4 (some ⟨b, 0, none⟩, cap) k (cs.take (k * 4)) := ⟨by simp; omega, hk, .inr ⟨b, 0, cs, true, gr, rfl, trivial, r0, hg, .inr ⟨by omega, by rw [List.drop_zero]⟩⟩⟩
    have hx : (cs.take (k * 4)).drop ((j + 1) * 4) = new := by
      simp only [new]
      rw [List.drop_take, Nat.sub_mul]
    refine AX_seq (AX_E (E_mv (v := .slice _ _ _) rfl (E_nil (AX_seq (AX_E (E_mv (v := .slice (some ⟨b, 0, none⟩) k cap) rfl (E_mv (v := .int .i64 (j : Int)) rfl (E_mv (v := .int .i64 ((j : Int) + 1)) rfl (E_mv (v := .slice (some ⟨b, 0, none⟩) k cap) rfl (E_len (n := k) rfl ?_))))))))))
    refine E_sl3 (i1 := j) (i2 := j + 1) rfl r0 hg rfl rfl rfl (by omega) (by omega) hk fun v13 => ?_
    refine E_nil (AX_seq (AX_seq (AX_E (E_mv (v := .int .i64 (j : Int)) rfl (E_mv (v := .int .i64 ((j : Int) + 1)) rfl (E_eqlS rfl rfl (fun c => absurd c (by omega)) fun c => ?_))))))
    refine E_nil (AX_condF rfl (AX_skip (AX_seq (AX_E (E_mv (v := .slice (some ⟨b, 0, none⟩) k cap) rfl (E_len (n := k) rfl (E_mv (v := .int .i64 (k : Int)) rfl (E_nil (AX_seq (AX_E (E_mv (v := .slice (some ⟨b, 0, none⟩) k cap) rfl (E_mv (v := .int .i64 (j : Int)) rfl ?_))))))))))))
    refine E_slHi (p := (some ⟨b, 0, none⟩, cap)) (j := j) rfl hC rfl rfl (by omega) (E_mv (v := .slice (some ⟨b, 0, none⟩) k cap) rfl (E_mv (v := .int .i64 ((j : Int) + 1)) rfl ?_))
    refine E_slLo (p := (some ⟨b, 0, none⟩, cap)) (j := j + 1) rfl hC rfl rfl (by omega) ?_
    refine E_appIn (cs := cs) (gr := gr) (new := new) rfl rfl (by rw [← hx]; exact (hC.drop (by omega)).first) r0 (by omega) (by omega) hnl (List.all_eq_true.2 hnc) rfl ?_
    refine E_mv (v := .slice (some ⟨b, 0, none⟩) (j + (k - (j + 1))) cap) rfl (E_nil (AX_seq (AX_E (E_mv (v := .slice (some ⟨b, 0, none⟩) (j + (k - (j + 1))) cap) rfl (E_mv (v := .slice (some ⟨b, 0, none⟩) (j + (k - (j + 1))) cap) rfl (E_len (n := j + (k - (j + 1))) rfl (E_mv (v := .int .i64 (k : Int)) rfl ?_)))))))
    have r1 : ((K ++ []).set b (.row (cs.take (j * 4) ++ new ++ cs.drop (j * 4 + new.length)) true gr))[b]? = some (.row cs1 true gr) := by rw [List.getElem?_set_self (by simpa using hb)]
    refine E_slLH (i1 := j + (k - (j + 1))) (i2 := k) rfl r1 hg rfl rfl (by omega) hk (by omega) ?_
    have e2 : k - (j + (k - (j + 1))) = 1 := by omega
    have e3 : j + (k - (j + 1)) = k - 1 := by omega
    rw [e2, e3]
    refine E_clr1 (cs := cs1) (gr := gr) rfl rfl r1 (by omega) rfl rfl ?_
    refine E_nil (AX_seq (AX_E (E_mv (v := .slice (some ⟨b, 0, none⟩) (k - 1) cap) (by rw [← e3]; rfl) (E_mv (v := .slice (some ⟨b, 0, none⟩) (k - 1) cap) rfl (E_nil (AX_ret ?_))))))
    refine ⟨_, rfl, by simp, rfl, ?_⟩
    refine (forget_more (v := .slice (some ⟨b, 0, none⟩) (k - 1) cap) rfl).trans ?_
    show ((K ++ []).set b _).set b _ = _
    rw [List.set_set, List.append_nil]
  · simp only [cs2, List.length_append, List.length_take, List.length_drop, hl1, z, List.length_cons, List.length_nil]; omega
  · intro v hv
    have h1 : ∀ v ∈ cs1, isCell v = true := by
      intro v hv
      simp only [cs1, List.mem_append] at hv
      rcases hv with (hv | hv) | hv
      · exact hcell v (List.mem_of_mem_take hv)
      · exact hnc v hv
      · exact hcell v (List.mem_of_mem_drop hv)
    simp only [cs2, List.mem_append] at hv
    rcases hv with (hv | hv) | hv
    · exact h1 v (List.mem_of_mem_take hv)
    · simp only [z, List.mem_cons, List.not_mem_nil, or_false] at hv
      rcases hv with rfl | rfl | rfl | rfl <;> rfl
    · exact h1 v (List.mem_of_mem_drop hv)
  · simp only [cs2]
    rw [List.append_assoc, List.take_append_of_le_length (by simp [hl1]; omega), List.take_take, Nat.min_self]
    simp only [cs1]
    rw [List.take_append_of_le_length (by simp [hnl]; omega)]
    exact List.take_of_length_le (by simp [hnl]; omega)
end Go.Canon
namespace Go.Canon
open Go Go.Proofs
set_option linter.unusedVariables false
set_option linter.unusedSimpArgs false
def kf79 : KFunc := ⟨1, 11, [.tmp 2], .seq (.reg [⟨some 1, .box (.t 0), none⟩, ⟨some 2, .mv (.c (.bool false)), none⟩] []) (.seq (.reg [⟨some 3, .fa (.t 1) 0, none⟩, ⟨some 4, .ld (.t 3) none, none⟩, ⟨some 5, .bin .leq (.t 4) (.c (.int .i64 12)), none⟩, ⟨some 6, .mv (.t 5), none⟩, ⟨some 7, .fa (.t 1) 3, some (6, true)⟩, ⟨some 8, .ld (.t 7) none, some (6, true)⟩, ⟨some 9, .bin .eql (.t 8) (.c (.int .i64 0)), some (6, true)⟩, ⟨some 10, .pick (.t 6) (.t 9) (.c (.bool false)), none⟩, ⟨some 2, .mv (.t 10), none⟩] []) .ret)⟩
theorem k79 : tab Try.prog 79 = some kf79 := by kernel_rfl
def kf101 : KFunc := ⟨2, 8, [.tmp 3], .seq (.reg [⟨some 2, .box (.t 0), none⟩, ⟨some 3, .mv (.c (.bool false)), none⟩] []) (.seq (.reg [⟨some 4, .ld (.t 1) none, none⟩, ⟨some 5, .ld (.t 2) (some 4), none⟩, ⟨some 6, .call (.t 4) [.t 5], none⟩, ⟨some 7, .not (.t 6), none⟩, ⟨some 3, .mv (.t 7), none⟩] []) .ret)⟩
theorem k101 : tab Try.prog 101 = some kf101 := by kernel_rfl
def kf78 : KFunc := ⟨2, 9, [.tmp 4], .seq (.reg [⟨some 3, .box (.t 1), none⟩, ⟨some 4, .mv (.c (.bool false)), none⟩] []) (.seq (.reg [⟨some 5, .mv (.t 0), none⟩, ⟨some 6, .fn 101 [] [.t 3], none⟩, ⟨some 7, .call (.c (.func (.func 49) #[] #[])) [.t 5, .t 6], none⟩, ⟨some 8, .not (.t 7), none⟩, ⟨some 4, .mv (.t 8), none⟩] []) .ret)⟩
theorem k78 : tab Try.prog 78 = some kf78 := by kernel_rfl
def kf27 : KFunc := ⟨1, 13, [.tmp 2, .tmp 3], .seq (.reg [⟨some 1, .box (.t 0), none⟩, ⟨some 2, .mv (.c (.bool false)), none⟩, ⟨some 3, .mv (.c (.int .i64 0)), none⟩] []) (.seq (.seq (.reg [⟨some 5, .ld (.t 1) (some 3), none⟩, ⟨some 6, .call (.c (.func (.func 32) #[] #[])) [.t 5], none⟩, ⟨some 4, .mv (.t 6), none⟩] []) (.seq (.reg [⟨some 7, .mv (.t 4), none⟩, ⟨some 8, .bin .neq (.t 7) (.c (.int .i64 0)), none⟩] []) (.cond (.t 8) (.seq (.reg [⟨some 9, .mv (.t 4), none⟩, ⟨some 2, .mv (.c (.bool false)), none⟩, ⟨some 3, .mv (.t 9), none⟩] []) .ret) .skip))) (.seq (.reg [⟨some 10, .fa (.t 1) 2, none⟩, ⟨some 11, .ld (.t 10) none, none⟩, ⟨some 12, .call (.c (.func (.func 78) #[] #[])) [.t 11, .c (.func (.func 79) #[] #[])], none⟩, ⟨some 2, .mv (.t 12), none⟩, ⟨some 3, .mv (.c (.int .i64 0)), none⟩] []) .ret))⟩
theorem k27 : tab Try.prog 27 = some kf27 := by kernel_rfl
def plainM (c : C) : Prop := ∀ g ∈ c.gs, g.k < 13 ∧ g.f = 0
instance (c : C) : Decidable (plainM c) := by unfold plainM; infer_instance
theorem plain_ret (H : Heap) (c : C) (p : Pl) {S : Nat → Prop} (hv : Gates S H p c.gs) (hl : c.gs.length < 4294967296) : Ret (tab Try.prog) 22 [cv c p] H (.bool (decide (plainM c))) H := by
  refine Ret_own k22 rfl ?_
  refine AX_seq (AX_E (E_boxA rfl (E_mv (v := .bool _) rfl (E_nil (AX_seq (AX_seq (AX_E (E_mv (v := .int .i64 (0)) rfl (E_nil (AX_block ?_))))))))))
  refine AX_loopF (γ := Nat) (fun j => [(1, .pointer (some ⟨(H).length + 0, 0, none⟩)), (3, .int .i64 ((j : Int)))]) (fun j h_ m_ => h_ = H ++ [CO.row [.int .i64 (c.w), .int .i64 (c.b), .slice (p).1 (c.gs).length (p).2] true none] ∧ m_ = [] ∧ j ≤ c.gs.length ∧ ∀ g ∈ c.gs.take j, g.k < 13 ∧ g.f = 0) (fun j => c.gs.length - j) (0) ⟨rfl, rfl, trivial⟩ ⟨rfl, rfl, ?_⟩ ?_
  · simp
  rintro j fr0 h0 m0 ⟨rfl, rfl, inv0⟩ K0 hN0 hR0 hE0
  refine AX_seq (AX_seq (AX_E (E_mv (v := .int .i64 ((j : Int))) rfl (E_fa rfl (E_ldO (k := 0) (v := .slice _ _ _) rfl rfl (E_len (n := (c.gs).length) rfl (E_lssS rfl rfl (fun c8 => ?_) (fun c8 => ?_))))))))
  · refine E_nil (AX_condT rfl (AX_skip (AX_seq (AX_block (AX_seq (AX_E (E_fa rfl (E_ldO (k := 0) (v := .slice _ _ _) rfl rfl (E_mv (v := .int .i64 ((j : Int))) rfl (have ix1 : j < (c.gs).length := (by first | omega | (simp; done) | (simp; omega)); E_iaGb (j := j) rfl hv rfl rfl rfl ix1 fun b1 o1 q1 f1 w1 => (E_fa rfl (E_ldB (v := .int .i64 ((c.gs[j]'ix1).k)) rfl (rowGet_c (j := 0) w1 rfl) (E_geqS rfl rfl (fun c17 => ?_) (fun c17 => ?_))))))))))))))
    · refine E_mv (v := .bool _) rfl (E_notF rfl (E_notF rfl (E_notF rfl (E_notF rfl (E_notF rfl (E_notF rfl (E_notF rfl (E_pickT rfl (v := .bool _) rfl (E_nil (AX_condT rfl (AX_seq (AX_E (E_mv (v := .bool _) rfl (E_nil (AX_ret (hR0 _ _ _ ?_))))))))))))))))
      refine ⟨_, rfl, by simp, ?_, forget_flat rfl (List.prefix_append _ _)⟩
      -- r1
      clear hN0 hR0 hE0
      refine congrArg (Value.bool) ?_
      refine (decide_eq_false ?_).symm
      exact fun x => absurd (x _ (List.getElem_mem ix1)).1 (by omega)
    · refine E_mv (v := .bool _) rfl (E_on rfl (E_fa rfl (E_on rfl (E_ldO (k := 0) (v := .slice _ _ _) rfl rfl (E_on rfl (E_mv (v := .int .i64 ((j : Int))) rfl (E_on rfl (have ix2 : j < (c.gs).length := (by first | omega | (simp; done) | (simp; omega)); E_iaGb (j := j) rfl hv rfl rfl rfl ix2 fun b2 o2 q2 f2 w2 => (E_on rfl (E_fa rfl (E_on rfl (E_ldB (v := .int .i64 ((c.gs[j]'ix2).f)) rfl (rowGet_c (j := 3) w2 rfl) (E_on rfl (E_neqS rfl rfl (fun c25 => ?_) (fun c25 => ?_)))))))))))))))
      · refine E_pickF rfl (v := .bool _) rfl (E_nil (AX_condT rfl (AX_seq (AX_E (E_mv (v := .bool _) rfl (E_nil (AX_ret (hR0 _ _ _ ?_))))))))
        refine ⟨_, rfl, by simp, ?_, forget_flat rfl (List.prefix_append _ _)⟩
        -- r2
        clear hN0 hR0 hE0
        refine congrArg (Value.bool) ?_
        refine (decide_eq_false ?_).symm
        exact fun x => c25 (x _ (List.getElem_mem ix1)).2
      · refine E_pickF rfl (v := .bool _) rfl (E_nil (AX_condF rfl (AX_skip (AX_E (E_mv (v := .int .i64 ((j : Int))) rfl (E_addI rfl rfl (by first | omega | (simp; done) | (simp; omega)) (by first | omega | (simp; done) | (simp; omega)) (E_mv (v := .int .i64 (((j : Int) + 1))) rfl (E_nil ?_))))))))
        refine hN0 (j + 1) _ _ _ ⟨by first | rfl | (congr 1; omega), by first | rfl | (congr 1; omega), trivial⟩ ⟨rfl, rfl, ?_⟩ ?_
        -- n3
        all_goals clear hN0 hR0 hE0
        · exact ⟨by omega, all_next (by omega) inv0.2 ⟨by omega, c25⟩⟩
        · (first | omega | (simp; omega))
  · refine E_nil (AX_condF rfl (AX_exit (hE0 _ _ _ _ ?_)))
    have e0 := all_all c8 inv0.2
    refine AX_seq (AX_E (E_mv (v := .bool _) rfl (E_nil (AX_ret ?_))))
    refine ⟨_, rfl, by simp, ?_, forget_flat rfl (List.prefix_append _ _)⟩
    -- r4
    clear hN0 hR0 hE0
    refine congrArg (Value.bool) ?_
    refine (decide_eq_true ?_).symm
    exact e0
theorem plain1_ret (H : Heap) (g : G) (p : Pl) (hg : GR g) : Ret (tab Try.prog) 79 [gv g p] H (.bool (decide (g.k < 13 ∧ g.f = 0))) H := by
  refine Ret_own k79 rfl ?_
  refine AX_seq (AX_E (E_boxA rfl (E_mv (v := .bool _) rfl (E_nil (AX_seq (AX_E (E_fa rfl (E_ldO (k := 0) (v := .int .i64 (g.k)) rfl rfl (E_leqS rfl rfl (fun c5 => ?_) (fun c5 => ?_))))))))))
  · refine E_mv (v := .bool _) rfl (E_on rfl (E_fa rfl (E_on rfl (E_ldO (k := 0) (v := .int .i64 (g.f)) rfl rfl (E_on rfl (E_eqlV rfl rfl (E_pickT rfl (v := .bool _) rfl (E_mv (v := .bool _) rfl (E_nil (AX_ret ?_))))))))))
    refine ⟨_, rfl, by simp, ?_, forget_flat rfl (List.prefix_append _ _)⟩
    refine congrArg (Value.bool) ?_
    refine decide_eq_decide.2 ?_
    omega
  · refine E_mv (v := .bool _) rfl (E_notT rfl (E_notT rfl (E_notT rfl (E_pickF rfl (v := .bool _) rfl (E_mv (v := .bool _) rfl (E_nil (AX_ret ?_)))))))
    refine ⟨_, rfl, by simp, ?_, forget_flat rfl (List.prefix_append _ _)⟩
    refine congrArg (Value.bool) ?_
    refine (decide_eq_false ?_).symm
    omega
theorem everyG1_ret (H : Heap) (g : G) (p : Pl) (b o : Nat) (f : Nat) (P : Prop) [Decidable P] (hr : rowGet H ⟨b, o, none⟩ 1 = some [.func (.func f) #[] #[]])
    (hf : ∀ K, H <+: K → Ret (tab Try.prog) f [gv g p] K (.bool (decide P)) K) : Ret (tab Try.prog) 101 [gv g p, .pointer (some ⟨b, o, none⟩)] H (.bool (decide ¬ P)) H := by
  refine Ret_own k101 rfl ?_
  refine AX_seq (AX_E (E_boxA rfl (E_mv (v := .bool _) rfl (E_nil (AX_seq (AX_E (E_ldB (v := .func _ _ _) rfl hr (E_ldON (k := 0) rfl rfl (E_callP rfl (hf _ (List.prefix_append _ _)) (fun c6 => ?_) (fun c6 => ?_))))))))))
  · refine E_notV rfl rfl (E_mv (v := .bool _) rfl (E_nil (AX_ret ?_)))
    refine ⟨_, rfl, by simp, ?_, forget_flat rfl (List.prefix_append _ _)⟩
    refine congrArg (Value.bool) ?_
    refine (decide_eq_false ?_).symm
    simp [*]
  · refine E_notV rfl rfl (E_mv (v := .bool _) rfl (E_nil (AX_ret ?_)))
    refine ⟨_, rfl, by simp, ?_, forget_flat rfl (List.prefix_append _ _)⟩
    refine congrArg (Value.bool) ?_
    refine (decide_eq_true ?_).symm
    simp [*]
theorem everyG_ret (H : Heap) (p : Pl) (l : List G) (f : Nat) (P : G → Prop) [DecidablePred P] {S : Nat → Prop} (hv : Gates S H p l) (hl : l.length < 4294967296)
    (hf : ∀ (g : G) (p : Pl) (K : Heap), H <+: K → g ∈ l → Ret (tab Try.prog) f [gv g p] K (.bool (decide (P g))) K) :
    Ret (tab Try.prog) 78 [.slice p.1 l.length p.2, .func (.func f) #[] #[]] H (.bool (decide (∀ x ∈ l, P x))) H := by
  refine Ret_own k78 rfl ?_
  refine AX_seq (AX_E (E_boxV (v := .func _ _ _) rfl rfl (E_mv (v := .bool _) rfl (E_nil (AX_seq (AX_E (E_mv (v := .slice _ _ _) rfl (E_fn (u := []) (v := [.pointer (some ⟨(H).length + 0, 0, none⟩)]) rfl rfl (E_callP rfl (containsfuncG_ret _ _ _ _ _ _ (fun x => ¬ P x) hv.app (by omega) (fun g p K hK hg _ => everyG1_ret K g p _ _ f (P g) (rowGet_pre (rowGet_own (k := 0) rfl) hK) (fun K2 h2 => hf g p K2 (((List.prefix_append _ _).trans hK).trans h2) hg))) (fun c7 => ?_) (fun c7 => ?_))))))))))
  · refine E_notV rfl rfl (E_mv (v := .bool _) rfl (E_nil (AX_ret ?_)))
    refine ⟨_, rfl, by simp, ?_, forget_flat rfl (List.prefix_append _ _)⟩
    refine congrArg (Value.bool) ?_
    refine (decide_eq_false ?_).symm
    first | (intro x hx; exact Decidable.byContradiction fun h => c7 ⟨x, hx, h⟩) | (obtain ⟨x, hx, h⟩ := c7; exact fun y => h (y x hx))
  · refine E_notV rfl rfl (E_mv (v := .bool _) rfl (E_nil (AX_ret ?_)))
    refine ⟨_, rfl, by simp, ?_, forget_flat rfl (List.prefix_append _ _)⟩
    refine congrArg (Value.bool) ?_
    refine (decide_eq_true ?_).symm
    first | (intro x hx; exact Decidable.byContradiction fun h => c7 ⟨x, hx, h⟩) | (obtain ⟨x, hx, h⟩ := c7; exact fun y => h (y x hx))
theorem pplain_ret (H : Heap) (c : C) (p : Pl) {S : Nat → Prop} (hv : Gates S H p c.gs) (hl : c.gs.length < 4294967296) : Ret (tab Try.prog) 27 [cv c p] H (.tuple #[.bool (if checkM c = 0 then decide (plainM c) else false), .int .i64 (checkM c)]) H := by
  refine Ret_own k27 rfl ?_
  refine AX_seq (AX_E (E_boxA rfl (E_mv (v := .bool _) rfl (E_mv (v := .int .i64 (0)) rfl (E_nil (AX_seq (AX_seq (AX_E (E_ldON (k := 0) rfl rfl (E_callV rfl (pcheck_ret _ c _ hv.app (by first | omega | (simp; done) | (simp; omega))) (E_mv (v := .int .i64 (checkM c)) rfl (E_nil (AX_seq (AX_E (E_mv (v := .int .i64 (checkM c)) rfl (E_neqS rfl rfl (fun c8 => ?_) (fun c8 => ?_)))))))))))))))))
  · refine E_nil (AX_condT rfl (AX_seq (AX_E (E_mv (v := .int .i64 (checkM c)) rfl (E_mv (v := .bool _) rfl (E_mv (v := .int .i64 (checkM c)) rfl (E_nil (AX_ret ?_))))))))
    refine ⟨_, rfl, by simp, ?_, forget_flat rfl (List.prefix_append _ _)⟩
    -- r1
    show Value.tuple #[.bool false, .int .i64 (checkM c)] = _
    first | (simp [*]; done) | (have h9 : plainM c := c12; simp [h9, c8]; done) | (have h9 : ¬ plainM c := c12; simp [h9, c8])
  · refine E_nil (AX_condF rfl (AX_skip (AX_seq (AX_E (E_fa rfl (E_ldO (k := 0) (v := .slice _ _ _) rfl rfl (E_callP rfl (everyG_ret _ _ _ 79 (fun g => g.k < 13 ∧ g.f = 0) hv.app (by omega) (fun g p K hK hg => plain1_ret K g p ((CR.of c8).gr hg))) (fun c12 => ?_) (fun c12 => ?_))))))))
    · refine E_mv (v := .bool _) rfl (E_mv (v := .int .i64 (0)) rfl (E_nil (AX_ret ?_)))
      refine ⟨_, rfl, by simp, ?_, forget_flat rfl (List.prefix_append _ _)⟩
      -- r2
      show Value.tuple #[.bool true, .int .i64 (0)] = _
      first | (simp [*]; done) | (have h9 : plainM c := c12; simp [h9, c8]; done) | (have h9 : ¬ plainM c := c12; simp [h9, c8])
    · refine E_mv (v := .bool _) rfl (E_mv (v := .int .i64 (0)) rfl (E_nil (AX_ret ?_)))
      refine ⟨_, rfl, by simp, ?_, forget_flat rfl (List.prefix_append _ _)⟩
      -- r3
      show Value.tuple #[.bool false, .int .i64 (0)] = _
      first | (simp [*]; done) | (have h9 : plainM c := c12; simp [h9, c8]; done) | (have h9 : ¬ plainM c := c12; simp [h9, c8])
/-- The layer of gate i, by the first k before it, whose layers are out. -/
def layerTo (gs : List G) (out : List Int) (i : Nat) : Nat → Int
  | 0 => 0
  | k + 1 => if meetM (gs.getD i default) (gs.getD k default) ∧ layerTo gs out i k ≤ out.getD k 0 then out.getD k 0 + 1 else layerTo gs out i k
def layersL (gs : List G) : Nat → List Int
  | 0 => []
  | i + 1 => layersL gs i ++ [layerTo gs (layersL gs i) i i]
theorem layersL_len (gs : List G) : ∀ i, (layersL gs i).length = i
  | 0 => rfl
  | i + 1 => by rw [layersL, List.length_append, layersL_len gs i]; rfl
theorem layerTo_le {gs : List G} {out : List Int} {i : Nat} {B : Int} (hB : 0 ≤ B) (H : ∀ x ∈ out, 0 ≤ x ∧ x < B) : ∀ k, k ≤ out.length → 0 ≤ layerTo gs out i k ∧ layerTo gs out i k ≤ B
  | 0, _ => by simp [layerTo, hB]
  | k + 1, hk => by
    have := layerTo_le (i := i) (gs := gs) hB H k (by omega)
    have h2 := H (out.getD k 0) (by rw [← getD_at (show k < out.length by omega)]; exact List.getElem_mem _)
    unfold layerTo
    split <;> omega
theorem layersL_le (gs : List G) : ∀ i, ∀ x ∈ layersL gs i, 0 ≤ x ∧ x < (i : Int)
  | 0, x, h => by simp [layersL] at h
  | i + 1, x, h => by
    rw [layersL, List.mem_append] at h
    have ih := layersL_le gs i
    rcases h with h | h
    · have := ih x h; omega
    · simp only [List.mem_cons, List.not_mem_nil, or_false] at h
      subst h
      have := layerTo_le (gs := gs) (i := i) (B := (i : Int)) (by omega) ih i (by rw [layersL_len]; omega)
      omega
theorem layer_yes {gs : List G} {out : List Int} {i k : Nat} (hi : i < gs.length) (hk : k < gs.length) (ho : k < out.length) (h1 : meetM gs[i] gs[k]) (h2 : layerTo gs out i k ≤ out[k]) : layerTo gs out i (k + 1) = out[k] + 1 := by
  rw [layerTo, getG_at hi, getG_at hk, ← getD_at ho, if_pos ⟨h1, h2⟩]
theorem layer_no {gs : List G} {out : List Int} {i k : Nat} (hi : i < gs.length) (hk : k < gs.length) (h1 : ¬ meetM gs[i] gs[k]) : layerTo gs out i (k + 1) = layerTo gs out i k := by
  rw [layerTo, getG_at hi, getG_at hk, if_neg (fun x => h1 x.1)]
theorem layer_no2 {gs : List G} {out : List Int} {i k : Nat} (ho : k < out.length) (h2 : ¬ layerTo gs out i k ≤ out[k]) : layerTo gs out i (k + 1) = layerTo gs out i k := by
  rw [layerTo, ← getD_at ho, if_neg (fun x => h2 x.2)]
end Go.Canon
namespace Go.Canon
open Go Go.Proofs
set_option linter.unusedVariables false
set_option linter.unusedSimpArgs false
def depthL (l : List Int) : Int := l.foldl (fun n x => if n ≤ x then x + 1 else n) 0
theorem depthL_next {l : List Int} {j : Nat} (hj : j < l.length) : depthL (l.take (j + 1)) = if depthL (l.take j) ≤ l[j] then l[j] + 1 else depthL (l.take j) := by
  unfold depthL
  rw [List.take_succ_eq_append_getElem hj, List.foldl_append]
  rfl
def depthM (c : C) : Int := depthL (layersL c.gs c.gs.length)
end Go.Canon
namespace Go.Canon
open Go Go.Proofs
set_option linter.unusedVariables false
set_option linter.unusedSimpArgs false
end Go.Canon
namespace Go.Canon
open Go Go.Proofs
set_option linter.unusedVariables false
set_option linter.unusedSimpArgs false
def kf40 : KFunc := ⟨1, 48, [.cell 2 (some 3), .tmp 3], .seq (.reg [⟨some 1, .box (.t 0), none⟩, ⟨some 2, .new [.int .i64 0, .int .i64 0, .slice none 0 0], none⟩, ⟨some 3, .mv (.c (.int .i64 0)), none⟩] []) (.seq (.seq (.reg [⟨some 8, .ld (.t 1) (some 3), none⟩, ⟨some 9, .call (.c (.func (.func 9) #[] #[])) [.t 8], none⟩, ⟨some 4, .mv (.t 9), none⟩] []) (.seq (.reg [⟨some 10, .mv (.t 4), none⟩, ⟨some 11, .bin .neq (.t 10) (.c (.int .i64 0)), none⟩] []) (.cond (.t 11) (.seq (.reg [⟨some 12, .mk [.int .i64 0, .int .i64 0, .slice none 0 0] [], none⟩, ⟨some 13, .mv (.t 4), none⟩, ⟨none, .st (.t 2) (.t 12) 3, none⟩, ⟨some 3, .mv (.t 13), none⟩] []) .ret) .skip))) (.seq (.seq (.reg [⟨some 14, .ld (.t 1) (some 3), none⟩, ⟨some 15, .call (.c (.func (.func 22) #[] #[])) [.t 14], none⟩, ⟨some 16, .not (.t 15), none⟩] []) (.cond (.t 16) (.seq (.reg [⟨some 17, .mk [.int .i64 0, .int .i64 0, .slice none 0 0] [], none⟩, ⟨none, .st (.t 2) (.t 17) 3, none⟩, ⟨some 3, .mv (.c (.int .i64 7)), none⟩] []) .ret) .skip)) (.seq (.reg [⟨some 18, .fa (.t 1) 0, none⟩, ⟨some 19, .ld (.t 18) none, none⟩, ⟨some 20, .fa (.t 1) 1, none⟩, ⟨some 21, .ld (.t 20) none, none⟩, ⟨some 22, .mk [.int .i64 0, .int .i64 0, .slice none 0 0] [(0, 1, .t 19), (1, 1, .t 21)], none⟩, ⟨some 5, .new [.int .i64 0, .int .i64 0, .slice none 0 0], none⟩, ⟨none, .st (.t 5) (.t 22) 3, none⟩] []) (.seq (.seq (.reg [⟨some 23, .fa (.t 1) 2, none⟩, ⟨some 24, .ld (.t 23) none, none⟩, ⟨some 25, .len (.t 24), none⟩, ⟨some 26, .bin .sub (.t 25) (.c (.int .i64 1)), none⟩, ⟨some 6, .mv (.t 26), none⟩] []) (.block 0 (.loop (.seq (.seq (.reg [⟨some 27, .mv (.t 6), none⟩, ⟨some 28, .bin .geq (.t 27) (.c (.int .i64 0)), none⟩] []) (.cond (.t 28) .skip (.exit 0))) (.seq (.block 1 (.seq (.reg [⟨some 31, .fa (.t 1) 2, none⟩, ⟨some 32, .ld (.t 31) none, none⟩, ⟨some 33, .mv (.t 6), none⟩, ⟨some 34, .iaS (.t 32) (.t 33) 4, none⟩, ⟨some 35, .ld (.t 34) (some 4), none⟩, ⟨some 36, .call (.c (.func (.func 83) #[] #[])) [.t 35], none⟩, ⟨some 7, .new [.int .i64 0, .slice none 0 0, .int .i64 0, .int .i64 0], none⟩, ⟨none, .st (.t 7) (.t 36) 4, none⟩] []) (.seq (.reg [⟨some 37, .fa (.t 7) 0, none⟩, ⟨some 38, .ld (.t 37) none, none⟩, ⟨some 39, .call (.c (.func (.func 61) #[] #[])) [.t 38], none⟩, ⟨some 40, .fa (.t 7) 0, none⟩, ⟨none, .st (.t 40) (.t 39) 1, none⟩] []) (.reg [⟨some 41, .fa (.t 5) 2, none⟩, ⟨some 42, .ld (.t 41) none, none⟩, ⟨some 43, .ld (.t 7) (some 4), none⟩, ⟨some 44, .mkS [.int .i64 0, .slice none 0 0, .int .i64 0, .int .i64 0] 1 [(0, 4, .t 43)], none⟩, ⟨some 45, .app (.t 42) (.t 44) 4 48, none⟩, ⟨some 46, .fa (.t 5) 2, none⟩, ⟨none, .st (.t 46) (.t 45) 1, none⟩] [])))) (.reg [⟨some 29, .mv (.t 6), none⟩, ⟨some 30, .bin .sub (.t 29) (.c (.int .i64 1)), none⟩, ⟨some 6, .mv (.t 30), none⟩] [])))))) (.seq (.reg [⟨some 47, .ld (.t 5) (some 3), none⟩, ⟨none, .st (.t 2) (.t 47) 3, none⟩, ⟨some 3, .mv (.c (.int .i64 0)), none⟩] []) .ret)))))⟩
theorem k40 : tab Try.prog 40 = some kf40 := by kernel_rfl
def kf42 : KFunc := ⟨3, 36, [.cell 6 (some 3), .tmp 7], .seq (.reg [⟨some 3, .box (.t 0), none⟩, ⟨some 6, .new [.int .i64 0, .int .i64 0, .slice none 0 0], none⟩, ⟨some 7, .mv (.c (.int .i64 0)), none⟩] []) (.seq (.seq (.reg [⟨some 10, .ld (.t 3) (some 3), none⟩, ⟨some 11, .call (.c (.func (.func 9) #[] #[])) [.t 10], none⟩, ⟨some 8, .mv (.t 11), none⟩] []) (.seq (.reg [⟨some 12, .mv (.t 8), none⟩, ⟨some 13, .bin .neq (.t 12) (.c (.int .i64 0)), none⟩] []) (.cond (.t 13) (.seq (.reg [⟨some 14, .mk [.int .i64 0, .int .i64 0, .slice none 0 0] [], none⟩, ⟨some 15, .mv (.t 8), none⟩, ⟨none, .st (.t 6) (.t 14) 3, none⟩, ⟨some 7, .mv (.t 15), none⟩] []) .ret) .skip))) (.seq (.seq (.reg [⟨some 16, .mv (.t 1), none⟩, ⟨some 17, .fa (.t 3) 0, none⟩, ⟨some 18, .ld (.t 17) none, none⟩, ⟨some 19, .call (.c (.func (.func 52) #[] #[])) [.t 16, .t 18, .c (.int .i64 12)], none⟩, ⟨some 20, .mv (.t 19), none⟩, ⟨some 21, .mv (.t 2), some (20, false)⟩, ⟨some 22, .fa (.t 3) 1, some (20, false)⟩, ⟨some 23, .ld (.t 22) none, some (20, false)⟩, ⟨some 24, .call (.c (.func (.func 52) #[] #[])) [.t 21, .t 23, .c (.int .i64 8)], some (20, false)⟩, ⟨some 25, .pick (.t 20) (.c (.bool true)) (.t 24), none⟩] []) (.cond (.t 25) (.seq (.reg [⟨some 26, .mk [.int .i64 0, .int .i64 0, .slice none 0 0] [], none⟩, ⟨none, .st (.t 6) (.t 26) 3, none⟩, ⟨some 7, .mv (.c (.int .i64 3)), none⟩] []) .ret) .skip)) (.seq (.reg [⟨some 27, .ld (.t 3) (some 3), none⟩, ⟨some 28, .fa (.t 3) 2, none⟩, ⟨some 29, .ld (.t 28) none, none⟩, ⟨some 30, .call (.c (.func (.func 55) #[] #[])) [.t 27, .t 29], none⟩, ⟨some 9, .new [.int .i64 0, .int .i64 0, .slice none 0 0], none⟩, ⟨none, .st (.t 9) (.t 30) 3, none⟩] []) (.seq (.reg [⟨some 31, .mv (.t 1), none⟩, ⟨some 32, .mv (.t 2), none⟩, ⟨some 33, .fa (.t 9) 0, none⟩, ⟨none, .st (.t 33) (.t 31) 1, none⟩, ⟨some 34, .fa (.t 9) 1, none⟩, ⟨none, .st (.t 34) (.t 32) 1, none⟩] []) (.seq (.reg [⟨some 35, .ld (.t 9) (some 3), none⟩, ⟨none, .st (.t 6) (.t 35) 3, none⟩, ⟨some 7, .mv (.c (.int .i64 0)), none⟩] []) .ret)))))⟩
theorem k42 : tab Try.prog 42 = some kf42 := by kernel_rfl
def kf43 : KFunc := ⟨3, 37, [.cell 6 (some 3), .tmp 7], .seq (.reg [⟨some 3, .box (.t 0), none⟩, ⟨some 6, .new [.int .i64 0, .int .i64 0, .slice none 0 0], none⟩, ⟨some 7, .mv (.c (.int .i64 0)), none⟩] []) (.seq (.seq (.reg [⟨some 9, .ld (.t 3) (some 3), none⟩, ⟨some 10, .call (.c (.func (.func 9) #[] #[])) [.t 9], none⟩, ⟨some 8, .mv (.t 10), none⟩] []) (.seq (.reg [⟨some 11, .mv (.t 8), none⟩, ⟨some 12, .bin .neq (.t 11) (.c (.int .i64 0)), none⟩] []) (.cond (.t 12) (.seq (.reg [⟨some 13, .mk [.int .i64 0, .int .i64 0, .slice none 0 0] [], none⟩, ⟨some 14, .mv (.t 8), none⟩, ⟨none, .st (.t 6) (.t 13) 3, none⟩, ⟨some 7, .mv (.t 14), none⟩] []) .ret) .skip))) (.seq (.seq (.reg [⟨some 15, .mv (.t 1), none⟩, ⟨some 16, .bin .lss (.t 15) (.c (.int .i64 0)), none⟩, ⟨some 17, .mv (.t 16), none⟩, ⟨some 18, .mv (.t 2), some (17, false)⟩, ⟨some 19, .mv (.t 1), some (17, false)⟩, ⟨some 20, .bin .lss (.t 18) (.t 19), some (17, false)⟩, ⟨some 21, .pick (.t 17) (.c (.bool true)) (.t 20), none⟩, ⟨some 22, .mv (.t 21), none⟩, ⟨some 23, .mv (.t 2), some (22, false)⟩, ⟨some 24, .fa (.t 3) 2, some (22, false)⟩, ⟨some 25, .ld (.t 24) none, some (22, false)⟩, ⟨some 26, .len (.t 25), some (22, false)⟩, ⟨some 27, .bin .gtr (.t 23) (.t 26), some (22, false)⟩, ⟨some 28, .pick (.t 22) (.c (.bool true)) (.t 27), none⟩] []) (.cond (.t 28) (.seq (.reg [⟨some 29, .mk [.int .i64 0, .int .i64 0, .slice none 0 0] [], none⟩, ⟨none, .st (.t 6) (.t 29) 3, none⟩, ⟨some 7, .mv (.c (.int .i64 3)), none⟩] []) .ret) .skip)) (.seq (.reg [⟨some 30, .ld (.t 3) (some 3), none⟩, ⟨some 31, .fa (.t 3) 2, none⟩, ⟨some 32, .ld (.t 31) none, none⟩, ⟨some 33, .mv (.t 1), none⟩, ⟨some 34, .mv (.t 2), none⟩, ⟨some 35, .slS (.t 32) (some (.t 33)) (some (.t 34)) none 4, none⟩, ⟨some 36, .call (.c (.func (.func 55) #[] #[])) [.t 30, .t 35], none⟩, ⟨none, .st (.t 6) (.t 36) 3, none⟩, ⟨some 7, .mv (.c (.int .i64 0)), none⟩] []) .ret)))⟩
theorem k43 : tab Try.prog 43 = some kf43 := by kernel_rfl
def invG (g : G) : G := ⟨oppM g.k, g.ws, g.b, g.f⟩
def inverseE (c : C) : Int := if checkM c ≠ 0 then checkM c else if plainM c then 0 else 7
def inverseM (c : C) : C := if inverseE c = 0 then ⟨c.w, c.b, c.gs.reverse.map invG⟩ else ⟨0, 0, []⟩
theorem rev_next {gs : List G} {j : Nat} (hj : j < gs.length) (h2 : gs.length - 1 - j < gs.length) : (gs.reverse.take (j + 1)).map invG = (gs.reverse.take j).map invG ++ [invG gs[gs.length - 1 - j]] := by
  rw [List.take_succ_eq_append_getElem (by simpa using hj), List.map_append, List.getElem_reverse]
  rfl
theorem inverse_ret (H : Heap) (c : C) (p : Pl) {S : Nat → Prop} (hv : Gates S H p c.gs) (hl : c.gs.length < 4294967296) : ∃ X p', Ret (tab Try.prog) 40 [cv c p] H (.tuple #[cv (inverseM c) p', .int .i64 (inverseE c)]) (H ++ X) ∧ GatesZ H.length X p' (inverseM c).gs := by
  have key := Ret_grow (T := tab Try.prog) (f := 40) (args := [cv c p]) (h := H) (fun u X => ∃ p' : Pl, u = .tuple #[cv (inverseM c) p', .int .i64 (inverseE c)] ∧ GatesZ H.length X p' (inverseM c).gs) k40 rfl ?_
  · obtain ⟨u, X, hr, p', rfl, f1⟩ := key
    exact ⟨X, p', hr, f1⟩
  refine AX_seq (AX_E (E_boxA rfl (E_new (E_mv (v := .int .i64 (0)) rfl (E_nil (AX_seq (AX_seq (AX_E (E_ldON (k := 0) rfl rfl (E_callV rfl (check_ret _ c _ hv.app (by first | omega | (simp; done) | (simp; omega))) (E_mv (v := .int .i64 (checkM c)) rfl (E_nil (AX_seq (AX_E (E_mv (v := .int .i64 (checkM c)) rfl (E_neqS rfl rfl (fun c11 => ?_) (fun c11 => ?_)))))))))))))))))
  · refine E_nil (AX_condT rfl (AX_seq (AX_E (E_mk (cs := [.int .i64 (0), .int .i64 (0), .slice none 0 0]) rfl (E_mv (v := .int .i64 (checkM c)) rfl (E_stO (k := 1) rfl rfl (v := .agg _) rfl rfl rfl rfl (E_mv (v := .int .i64 (checkM c)) rfl (E_nil (AX_ret ?_)))))))))
    -- r1
    have eE : inverseE c = checkM c := by unfold inverseE; (repeat' split) <;> first | omega | contradiction
    have eM : inverseM c = ⟨0, 0, []⟩ := if_neg (by omega)
    refine ⟨_, (res2 (res_cellN (k := 1) rfl rfl) (res_tmp rfl)), by simp, [], forget_nil rfl (List.prefix_append _ _), (none, 0), ?_, ?_⟩
    · show Value.tuple #[.agg #[.int .i64 (0), .int .i64 (0), .slice none 0 0], .int .i64 (checkM c)] = _; rw [eM, eE]; rfl
    · rw [eM]; exact fun A hA => GatesP.nil
  · refine E_nil (AX_condF rfl (AX_skip (AX_seq (AX_seq (AX_E (E_ldON (k := 0) rfl rfl (E_callP rfl (plain_ret _ c _ hv.app (by omega)) (fun c15 => ?_) (fun c15 => ?_))))))))
    · refine E_notV rfl rfl (E_nil (AX_condF rfl (AX_skip (AX_seq (AX_E (E_fa rfl (E_ldO (k := 0) (v := .int .i64 (c.w)) rfl rfl (E_fa rfl (E_ldO (k := 0) (v := .int .i64 (c.b)) rfl rfl (E_mk (cs := [.int .i64 (c.w), .int .i64 (c.b), .slice none 0 0]) rfl (E_new (E_stO (k := 2) rfl rfl (v := .agg _) rfl rfl rfl rfl (E_nil (AX_seq (AX_seq (AX_E (E_fa rfl (E_ldO (k := 0) (v := .slice _ _ _) rfl rfl (E_len (n := (c.gs).length) rfl (E_subI rfl rfl (by first | omega | (simp; done) | (simp; omega)) (by first | omega | (simp; done) | (simp; omega)) (E_mv (v := .int .i64 (((c.gs).length - 1))) rfl (E_nil (AX_block ?_)))))))))))))))))))))))
      refine AX_loopF (γ := Nat × Pl) (fun x => [(1, .pointer (some ⟨(H).length + 0, 0, none⟩)), (2, .pointer (some ⟨(H).length + 1, 0, none⟩)), (5, .pointer (some ⟨(H).length + 2, 0, none⟩)), (6, .int .i64 (((c.gs.length : Int) - 1 - (x.1 : Int))))]) (fun x h_ m_ => (∃ z_, h_ = H ++ ([CO.row [.int .i64 (c.w), .int .i64 (c.b), .slice (p).1 (c.gs).length (p).2] true none, CO.row [.int .i64 (0), .int .i64 (0), .slice none 0 0] true none, CO.row [.int .i64 (c.w), .int .i64 (c.b), .slice (x.2).1 (((c.gs.reverse.take x.1).map invG)).length (x.2).2] true none] ++ z_) ∧ Bld (H.length + 3) z_ x.2 ((c.gs.reverse.take x.1).map invG)) ∧ m_ = [] ∧ x.1 ≤ c.gs.length) (fun x => c.gs.length - x.1) (0, (none, 0)) ⟨rfl, rfl, rfl, (by simp [frOf, put]; done), trivial⟩ ⟨⟨[], app0 _ _, Bld.nil⟩, rfl, ?_⟩ ?_
      · simp
      rintro ⟨j, p0⟩ fr0 h0 m0 ⟨⟨z0, rfl, zf0⟩, rfl, inv0⟩ K0 hN0 hR0 hE0
      try dsimp only at zf0 inv0
      refine AX_nil ?_
      refine AX_seq (AX_seq (AX_E (E_mv (v := .int .i64 (((c.gs.length : Int) - 1 - (j : Int)))) rfl (E_geqS rfl rfl (fun c28 => ?_) (fun c28 => ?_)))))
      · refine E_nil (AX_condT rfl (AX_skip (AX_seq (AX_block (AX_seq (AX_E (E_fa rfl (E_ldB (v := .slice _ _ _) rfl (rowGet_own (k := 0) rfl) (E_mv (v := .int .i64 (((c.gs.length : Int) - 1 - (j : Int)))) rfl (have ix1 : c.gs.length - 1 - j < (c.gs).length := (by first | omega | (simp; done) | (simp; omega)); E_iaGb (j := c.gs.length - 1 - j) rfl hv.app rfl rfl (by first | rfl | omega) ix1 fun b1 o1 q1 f1 w1 => (E_ldBN rfl w1 ?_)))))))))))
        obtain ⟨X2, q2, hr2, f2, e2⟩ := own_ret _ (c.gs[c.gs.length - 1 - j]'ix1) _ f1.app (by have := ((CR.of c11).gr (List.getElem_mem ix1)).len; omega)
        refine E_callX (X := X2) rfl (hr2) (E_new (E_stO (k := 0) rfl rfl (v := .agg _) rfl rfl rfl rfl (E_nil (AX_seq (AX_E (E_fa rfl (E_ldO (k := 0) (v := .int .i64 ((c.gs[c.gs.length - 1 - j]'ix1).k)) rfl rfl (E_callV rfl (opp_ret _ _) (E_fa rfl (E_stO (k := 0) rfl rfl (v := .int .i64 (oppM ((c.gs[c.gs.length - 1 - j]'ix1).k))) rfl rfl rfl rfl (E_nil (AX_E (E_fa rfl (E_ldB (v := .slice _ _ _) rfl (rowGet_base (rowGet_own (k := 2) rfl)) (E_ldON (k := 0) rfl rfl (E_mkS (cs := [.int .i64 (oppM ((c.gs[c.gs.length - 1 - j]'ix1).k)), .slice (q2).1 ((c.gs[c.gs.length - 1 - j]'ix1).ws).length (q2).2, .int .i64 ((c.gs[c.gs.length - 1 - j]'ix1).b), .int .i64 ((c.gs[c.gs.length - 1 - j]'ix1).f)]) rfl (E_appG (A := [CO.row [.int .i64 (c.w), .int .i64 (c.b), .slice (p).1 (c.gs).length (p).2] true none, CO.row [.int .i64 (0), .int .i64 (0), .slice none 0 0] true none, CO.row [.int .i64 (c.w), .int .i64 (c.b), .slice (p0).1 (((c.gs.reverse.take j).map invG)).length (p0).2] true none]) (Z := z0) (W := ([] ++ (X2 ++ [CO.row [.int .i64 (oppM ((c.gs[c.gs.length - 1 - j]'ix1).k)), .slice (q2).1 ((c.gs[c.gs.length - 1 - j]'ix1).ws).length (q2).2, .int .i64 ((c.gs[c.gs.length - 1 - j]'ix1).b), .int .i64 ((c.gs[c.gs.length - 1 - j]'ix1).f)] true none, CO.row [.int .i64 (oppM ((c.gs[c.gs.length - 1 - j]'ix1).k)), .slice (q2).1 ((c.gs[c.gs.length - 1 - j]'ix1).ws).length (q2).2, .int .i64 ((c.gs[c.gs.length - 1 - j]'ix1).b), .int .i64 ((c.gs[c.gs.length - 1 - j]'ix1).f)] true none]))) (gs' := ((c.gs.reverse.take (j + 1)).map invG)) (by first | (simp only [List.append_assoc, List.append_nil, List.nil_append, List.cons_append, List.set_cons_zero, List.set_cons_succ]; done) | (simp only [List.append_assoc, List.append_nil, List.nil_append, List.cons_append, List.set_cons_zero, List.set_cons_succ]; rfl)) ((rev_next (by omega) ix1)) (n := (H.length + 3)) (by simp) (zf0) rfl rfl (rowGet_own (k := 1) rfl) (IntsZ.inside f2 (by simp; omega)) (by simp; omega) rfl fun z3n p3n hb3n => (E_fa rfl (E_stO (k := 2) rfl rfl (v := .slice _ _ _) rfl rfl rfl rfl (E_nil (AX_E (E_mv (v := .int .i64 (((c.gs.length : Int) - 1 - (j : Int)))) rfl (E_subI rfl rfl (by first | omega | (simp; done) | (simp; omega)) (by first | omega | (simp; done) | (simp; omega)) (E_mv (v := .int .i64 ((((c.gs.length : Int) - 1 - (j : Int)) - 1))) rfl (E_nil ?_)))))))))))))))))))))))))
        refine hN0 (j + 1, p3n) _ _ _ ⟨by first | rfl | (congr 1; omega), by first | rfl | (congr 1; omega), by first | rfl | (congr 1; omega), by first | rfl | (refine congrArg (Value.int _) ?_; omega), trivial⟩ ⟨⟨z3n, rfl, hb3n⟩, rfl, ?_⟩ ?_
        all_goals clear hN0 hR0 hE0
        · omega
        · (first | omega | (simp; omega))
      · refine E_nil (AX_condF rfl (AX_exit (hE0 _ _ _ _ ?_)))
        have e0 : c.gs.reverse.take j = c.gs.reverse := List.take_of_length_le (by simp; omega)
        refine AX_hp (h' := H ++ ([CO.row [.int .i64 (c.w), .int .i64 (c.b), .slice (p).1 (c.gs).length (p).2] true none, CO.row [.int .i64 (0), .int .i64 (0), .slice none 0 0] true none, CO.row [.int .i64 (c.w), .int .i64 (c.b), .slice (p0).1 (((c.gs.reverse.take j).map invG)).length (p0).2] true none] ++ z0)) (by first | (simp only [List.append_assoc, List.append_nil, List.nil_append, List.cons_append, List.set_cons_zero, List.set_cons_succ]; done) | (simp only [List.append_assoc, List.append_nil, List.nil_append, List.cons_append, List.set_cons_zero, List.set_cons_succ]; rfl)) ?_
        refine AX_seq (AX_E (E_ldON (k := 2) rfl rfl (E_stO (k := 1) rfl rfl (v := .agg _) rfl rfl rfl rfl (E_mv (v := .int .i64 (0)) rfl (E_nil (AX_ret ?_))))))
        -- r3
        clear hN0 hR0 hE0
        have eE : inverseE c = 0 := by unfold inverseE; (repeat' split) <;> first | omega | contradiction
        have eM : inverseM c = ⟨c.w, c.b, ((c.gs.reverse.take j).map invG)⟩ := (if_pos eE).trans (by rw [e0])
        refine ⟨_, (res2 (res_cellN (k := 1) rfl rfl) (res_tmp rfl)), by simp, ?_⟩
        obtain ⟨X, h1, h2⟩ := leafG (h := H) (h' := H ++ ([CO.row [.int .i64 (c.w), .int .i64 (c.b), .slice (p).1 (c.gs).length (p).2] true none, CO.row [.int .i64 (c.w), .int .i64 (c.b), .slice (p0).1 (((c.gs.reverse.take j).map invG)).length (p0).2] true none, CO.row [.int .i64 (c.w), .int .i64 (c.b), .slice (p0).1 (((c.gs.reverse.take j).map invG)).length (p0).2] true none] ++ z0)) (A := [CO.row [.int .i64 (c.w), .int .i64 (c.b), .slice (p).1 (c.gs).length (p).2] true none, CO.row [.int .i64 (c.w), .int .i64 (c.b), .slice (p0).1 (((c.gs.reverse.take j).map invG)).length (p0).2] true none, CO.row [.int .i64 (c.w), .int .i64 (c.b), .slice (p0).1 (((c.gs.reverse.take j).map invG)).length (p0).2] true none]) (Z := z0) (u := Value.tuple #[cv ⟨c.w, c.b, ((c.gs.reverse.take j).map invG)⟩ p0, .int .i64 0]) rfl zf0.gates (by simp) cvt_flat
        exact ⟨X, h1, p0, (show _ = Value.tuple #[cv ⟨c.w, c.b, ((c.gs.reverse.take j).map invG)⟩ p0, .int .i64 0] from rfl).trans (by rw [eM, eE]), by rw [eM]; exact h2⟩
    · refine E_notV rfl rfl (E_nil (AX_condT rfl (AX_seq (AX_E (E_mk (cs := [.int .i64 (0), .int .i64 (0), .slice none 0 0]) rfl (E_stO (k := 1) rfl rfl (v := .agg _) rfl rfl rfl rfl (E_mv (v := .int .i64 (7)) rfl (E_nil (AX_ret ?_)))))))))
      -- r4
      have eE : inverseE c = 7 := by unfold inverseE; (repeat' split) <;> first | omega | contradiction
      have eM : inverseM c = ⟨0, 0, []⟩ := if_neg (by omega)
      refine ⟨_, (res2 (res_cellN (k := 1) rfl rfl) (res_tmp rfl)), by simp, [], forget_nil rfl (List.prefix_append _ _), (none, 0), ?_, ?_⟩
      · show Value.tuple #[.agg #[.int .i64 (0), .int .i64 (0), .slice none 0 0], .int .i64 (7)] = _; rw [eM, eE]; rfl
      · rw [eM]; exact fun A hA => GatesP.nil
def widenE (c : C) (w b : Int) : Int := if checkM c ≠ 0 then checkM c else if (w < c.w ∨ 12 < w) ∨ (b < c.b ∨ 8 < b) then 3 else 0
def widenM (c : C) (w b : Int) : C := if widenE c w b = 0 then ⟨w, b, c.gs⟩ else ⟨0, 0, []⟩
theorem widen_ret (H : Heap) (c : C) (p : Pl) (w b : Int) {S : Nat → Prop} (hv : Gates S H p c.gs) (hl : c.gs.length < 4294967296) : ∃ X p', Ret (tab Try.prog) 42 [cv c p, .int .i64 w, .int .i64 b] H (.tuple #[cv (widenM c w b) p', .int .i64 (widenE c w b)]) (H ++ X) ∧ GatesZ H.length X p' (widenM c w b).gs := by
  have key := Ret_grow (T := tab Try.prog) (f := 42) (args := [cv c p, .int .i64 w, .int .i64 b]) (h := H) (fun u X => ∃ p' : Pl, u = .tuple #[cv (widenM c w b) p', .int .i64 (widenE c w b)] ∧ GatesZ H.length X p' (widenM c w b).gs) k42 rfl ?_
  · obtain ⟨u, X, hr, p', rfl, f1⟩ := key
    exact ⟨X, p', hr, f1⟩
  refine AX_seq (AX_E (E_boxA rfl (E_new (E_mv (v := .int .i64 (0)) rfl (E_nil (AX_seq (AX_seq (AX_E (E_ldON (k := 0) rfl rfl (E_callV rfl (check_ret _ c _ hv.app (by first | omega | (simp; done) | (simp; omega))) (E_mv (v := .int .i64 (checkM c)) rfl (E_nil (AX_seq (AX_E (E_mv (v := .int .i64 (checkM c)) rfl (E_neqS rfl rfl (fun c13 => ?_) (fun c13 => ?_)))))))))))))))))
  · refine E_nil (AX_condT rfl (AX_seq (AX_E (E_mk (cs := [.int .i64 (0), .int .i64 (0), .slice none 0 0]) rfl (E_mv (v := .int .i64 (checkM c)) rfl (E_stO (k := 1) rfl rfl (v := .agg _) rfl rfl rfl rfl (E_mv (v := .int .i64 (checkM c)) rfl (E_nil (AX_ret ?_)))))))))
    -- r1
    have eE : widenE c w b = checkM c := by unfold widenE; (repeat' split) <;> first | omega | contradiction
    have eM : widenM c w b = ⟨0, 0, []⟩ := if_neg (by omega)
    refine ⟨_, (res2 (res_cellN (k := 1) rfl rfl) (res_tmp rfl)), by simp, [], forget_nil rfl (List.prefix_append _ _), (none, 0), ?_, ?_⟩
    · show Value.tuple #[.agg #[.int .i64 (0), .int .i64 (0), .slice none 0 0], .int .i64 (checkM c)] = _; rw [eM, eE]; rfl
    · rw [eM]; exact fun A hA => GatesP.nil
  · refine E_nil (AX_condF rfl (AX_skip ?_))
    refine AX_cut (X := Unit) (fun _ => [(1, .int .i64 (w)), (2, .int .i64 (b)), (3, .pointer (some ⟨(H).length + 0, 0, none⟩)), (6, .pointer (some ⟨(H).length + 1, 0, none⟩))]) (fun _ h_ m_ => h_ = H ++ [CO.row [.int .i64 (c.w), .int .i64 (c.b), .slice (p).1 (c.gs).length (p).2] true none, CO.row [.int .i64 (0), .int .i64 (0), .slice none 0 0] true none] ∧ m_ = [] ∧ ¬ ((w < c.w ∨ 12 < w) ∨ (b < c.b ∨ 8 < b))) ?_ ?_
    · intro Kc25 hNc25 hRc25 hEc25
      refine AX_seq (AX_E (E_mv (v := .int .i64 (w)) rfl (E_fa rfl (E_ldO (k := 0) (v := .int .i64 (c.w)) rfl rfl (E_callP rfl (off_ret _ _ _ _) (fun c19 => ?_) (fun c19 => ?_))))))
      · refine E_mv (v := .bool _) rfl (E_notF rfl (E_notF rfl (E_notF rfl (E_notF rfl (E_pickT rfl (v := .bool _) rfl (E_nil (AX_condT rfl (AX_seq (AX_E (E_mk (cs := [.int .i64 (0), .int .i64 (0), .slice none 0 0]) rfl (E_stO (k := 1) rfl rfl (v := .agg _) rfl rfl rfl rfl (E_mv (v := .int .i64 (3)) rfl (E_nil (AX_ret (hRc25 _ _ _ ?_)))))))))))))))
        -- r2
        clear hNc25 hRc25 hEc25
        have eE : widenE c w b = 3 := by unfold widenE; (repeat' split) <;> first | omega | contradiction
        have eM : widenM c w b = ⟨0, 0, []⟩ := if_neg (by omega)
        refine ⟨_, (res2 (res_cellN (k := 1) rfl rfl) (res_tmp rfl)), by simp, [], forget_nil rfl (List.prefix_append _ _), (none, 0), ?_, ?_⟩
        · show Value.tuple #[.agg #[.int .i64 (0), .int .i64 (0), .slice none 0 0], .int .i64 (3)] = _; rw [eM, eE]; rfl
        · rw [eM]; exact fun A hA => GatesP.nil
      · refine E_mv (v := .bool _) rfl (E_on rfl (E_mv (v := .int .i64 (b)) rfl (E_on rfl (E_fa rfl (E_on rfl (E_ldO (k := 0) (v := .int .i64 (c.b)) rfl rfl (E_on rfl (E_callP rfl (off_ret _ _ _ _) (fun c24 => ?_) (fun c24 => ?_)))))))))
        · refine E_pickF rfl (v := .bool _) rfl (E_nil (AX_condT rfl (AX_seq (AX_E (E_mk (cs := [.int .i64 (0), .int .i64 (0), .slice none 0 0]) rfl (E_stO (k := 1) rfl rfl (v := .agg _) rfl rfl rfl rfl (E_mv (v := .int .i64 (3)) rfl (E_nil (AX_ret (hRc25 _ _ _ ?_))))))))))
          -- r3
          clear hNc25 hRc25 hEc25
          have eE : widenE c w b = 3 := by unfold widenE; (repeat' split) <;> first | omega | contradiction
          have eM : widenM c w b = ⟨0, 0, []⟩ := if_neg (by omega)
          refine ⟨_, (res2 (res_cellN (k := 1) rfl rfl) (res_tmp rfl)), by simp, [], forget_nil rfl (List.prefix_append _ _), (none, 0), ?_, ?_⟩
          · show Value.tuple #[.agg #[.int .i64 (0), .int .i64 (0), .slice none 0 0], .int .i64 (3)] = _; rw [eM, eE]; rfl
          · rw [eM]; exact fun A hA => GatesP.nil
        · refine E_pickF rfl (v := .bool _) rfl (E_nil (AX_condF rfl (AX_skip ?_)))
          refine hNc25 (()) _ _ _ ⟨by first | rfl | (congr 1; omega), by first | rfl | (congr 1; omega), by first | rfl | (congr 1; omega), by first | rfl | (congr 1; omega), trivial⟩ ⟨rfl, rfl, ?_⟩
          clear hNc25 hRc25 hEc25
          omega
    rintro ⟨⟩ frc25 hc25 mc25 ⟨rfl, rfl, invc25⟩
    refine AX_seq (AX_E (E_ldON (k := 0) rfl rfl (E_fa rfl (E_ldO (k := 0) (v := .slice _ _ _) rfl rfl ?_))))
    obtain ⟨X1, x1, hr1, f1⟩ := with_ret (H ++ [CO.row [.int .i64 (c.w), .int .i64 (c.b), .slice (p).1 (c.gs).length (p).2] true none, CO.row [.int .i64 (0), .int .i64 (0), .slice none 0 0] true none]) c _ (c.gs) _ hv.app (hl) (fun g hg => by have := ((CR.of c13).gr hg).len; omega)
    refine E_callX (X := X1) rfl (hr1) (E_new (E_stO (k := 0) rfl rfl (v := .agg _) rfl rfl rfl rfl (E_nil (AX_seq (AX_E (E_mv (v := .int .i64 (w)) rfl (E_mv (v := .int .i64 (b)) rfl (E_fa rfl (E_stO (k := 0) rfl rfl (v := .int .i64 (w)) rfl rfl rfl rfl (E_fa rfl (E_stO (k := 0) rfl rfl (v := .int .i64 (b)) rfl rfl rfl rfl (E_nil (AX_seq (AX_E (E_ldON (k := 0) rfl rfl (E_hp (h' := H ++ ([CO.row [.int .i64 (c.w), .int .i64 (c.b), .slice (p).1 (c.gs).length (p).2] true none, CO.row [.int .i64 (0), .int .i64 (0), .slice none 0 0] true none] ++ (X1 ++ [CO.row [.int .i64 (w), .int .i64 (b), .slice (x1).1 (c.gs).length (x1).2] true none]))) (by first | (simp only [List.append_assoc, List.append_nil, List.nil_append, List.cons_append, List.set_cons_zero, List.set_cons_succ]; done) | (simp only [List.append_assoc, List.append_nil, List.nil_append, List.cons_append, List.set_cons_zero, List.set_cons_succ]; rfl)) (E_stO (k := 1) rfl rfl (v := .agg _) rfl rfl rfl rfl (E_mv (v := .int .i64 (0)) rfl (E_nil (AX_ret ?_))))))))))))))))))))
    -- r5
    have eE : widenE c w b = 0 := by unfold widenE; (repeat' split) <;> first | omega | contradiction
    have eM : widenM c w b = ⟨w, b, c.gs⟩ := (if_pos eE).trans (rfl)
    refine ⟨_, (res2 (res_cellN (k := 1) rfl rfl) (res_tmp rfl)), by simp, ?_⟩
    obtain ⟨X, h1, h2⟩ := leafG (h := H) (h' := H ++ ([CO.row [.int .i64 (c.w), .int .i64 (c.b), .slice (p).1 (c.gs).length (p).2] true none, CO.row [.int .i64 (w), .int .i64 (b), .slice (x1).1 (c.gs).length (x1).2] true none] ++ (X1 ++ [CO.row [.int .i64 (w), .int .i64 (b), .slice (x1).1 (c.gs).length (x1).2] true none]))) (A := [CO.row [.int .i64 (c.w), .int .i64 (c.b), .slice (p).1 (c.gs).length (p).2] true none, CO.row [.int .i64 (w), .int .i64 (b), .slice (x1).1 (c.gs).length (x1).2] true none]) (Z := (X1 ++ [CO.row [.int .i64 (w), .int .i64 (b), .slice (x1).1 (c.gs).length (x1).2] true none])) (u := Value.tuple #[cv ⟨w, b, c.gs⟩ x1, .int .i64 0]) rfl f1.app (by simp) cvt_flat
    exact ⟨X, h1, x1, (show _ = Value.tuple #[cv ⟨w, b, c.gs⟩ x1, .int .i64 0] from rfl).trans (by rw [eM, eE]), by rw [eM]; exact h2⟩
def sliceE (c : C) (i j : Int) : Int := if checkM c ≠ 0 then checkM c else if i < 0 ∨ j < i ∨ (c.gs.length : Int) < j then 3 else 0
def sliceM (c : C) (i j : Int) : C := if sliceE c i j = 0 then ⟨c.w, c.b, (c.gs.take j.toNat).drop i.toNat⟩ else ⟨0, 0, []⟩
theorem slice_ret (H : Heap) (c : C) (p : Pl) (i j : Int) {S : Nat → Prop} (hv : Gates S H p c.gs) (hl : c.gs.length < 4294967296) : ∃ X p', Ret (tab Try.prog) 43 [cv c p, .int .i64 i, .int .i64 j] H (.tuple #[cv (sliceM c i j) p', .int .i64 (sliceE c i j)]) (H ++ X) ∧ GatesZ H.length X p' (sliceM c i j).gs := by
  have key := Ret_grow (T := tab Try.prog) (f := 43) (args := [cv c p, .int .i64 i, .int .i64 j]) (h := H) (fun u X => ∃ p' : Pl, u = .tuple #[cv (sliceM c i j) p', .int .i64 (sliceE c i j)] ∧ GatesZ H.length X p' (sliceM c i j).gs) k43 rfl ?_
  · obtain ⟨u, X, hr, p', rfl, f1⟩ := key
    exact ⟨X, p', hr, f1⟩
  refine AX_seq (AX_E (E_boxA rfl (E_new (E_mv (v := .int .i64 (0)) rfl (E_nil (AX_seq (AX_seq (AX_E (E_ldON (k := 0) rfl rfl (E_callV rfl (check_ret _ c _ hv.app (by first | omega | (simp; done) | (simp; omega))) (E_mv (v := .int .i64 (checkM c)) rfl (E_nil (AX_seq (AX_E (E_mv (v := .int .i64 (checkM c)) rfl (E_neqS rfl rfl (fun c12 => ?_) (fun c12 => ?_)))))))))))))))))
  · refine E_nil (AX_condT rfl (AX_seq (AX_E (E_mk (cs := [.int .i64 (0), .int .i64 (0), .slice none 0 0]) rfl (E_mv (v := .int .i64 (checkM c)) rfl (E_stO (k := 1) rfl rfl (v := .agg _) rfl rfl rfl rfl (E_mv (v := .int .i64 (checkM c)) rfl (E_nil (AX_ret ?_)))))))))
    -- r1
    have eE : sliceE c i j = checkM c := by unfold sliceE; (repeat' split) <;> first | omega | contradiction
    have eM : sliceM c i j = ⟨0, 0, []⟩ := if_neg (by omega)
    refine ⟨_, (res2 (res_cellN (k := 1) rfl rfl) (res_tmp rfl)), by simp, [], forget_nil rfl (List.prefix_append _ _), (none, 0), ?_, ?_⟩
    · show Value.tuple #[.agg #[.int .i64 (0), .int .i64 (0), .slice none 0 0], .int .i64 (checkM c)] = _; rw [eM, eE]; rfl
    · rw [eM]; exact fun A hA => GatesP.nil
  · refine E_nil (AX_condF rfl (AX_skip ?_))
    refine AX_cut (X := Unit) (fun _ => [(1, .int .i64 (i)), (2, .int .i64 (j)), (3, .pointer (some ⟨(H).length + 0, 0, none⟩)), (6, .pointer (some ⟨(H).length + 1, 0, none⟩))]) (fun _ h_ m_ => h_ = H ++ [CO.row [.int .i64 (c.w), .int .i64 (c.b), .slice (p).1 (c.gs).length (p).2] true none, CO.row [.int .i64 (0), .int .i64 (0), .slice none 0 0] true none] ∧ m_ = [] ∧ ¬ (i < 0 ∨ j < i ∨ (c.gs.length : Int) < j)) ?_ ?_
    · intro Kc28 hNc28 hRc28 hEc28
      refine AX_seq (AX_E (E_mv (v := .int .i64 (i)) rfl (E_lssS rfl rfl (fun c16 => ?_) (fun c16 => ?_))))
      · refine E_mv (v := .bool _) rfl (E_notF rfl (E_notF rfl (E_notF rfl (E_pickT rfl (v := .bool _) rfl (E_mv (v := .bool _) rfl (E_notF rfl (E_notF rfl (E_notF rfl (E_notF rfl (E_notF rfl (E_pickT rfl (v := .bool _) rfl (E_nil (AX_condT rfl (AX_seq (AX_E (E_mk (cs := [.int .i64 (0), .int .i64 (0), .slice none 0 0]) rfl (E_stO (k := 1) rfl rfl (v := .agg _) rfl rfl rfl rfl (E_mv (v := .int .i64 (3)) rfl (E_nil (AX_ret (hRc28 _ _ _ ?_)))))))))))))))))))))
        -- r2
        clear hNc28 hRc28 hEc28
        have eE : sliceE c i j = 3 := by unfold sliceE; (repeat' split) <;> first | omega | contradiction
        have eM : sliceM c i j = ⟨0, 0, []⟩ := if_neg (by omega)
        refine ⟨_, (res2 (res_cellN (k := 1) rfl rfl) (res_tmp rfl)), by simp, [], forget_nil rfl (List.prefix_append _ _), (none, 0), ?_, ?_⟩
        · show Value.tuple #[.agg #[.int .i64 (0), .int .i64 (0), .slice none 0 0], .int .i64 (3)] = _; rw [eM, eE]; rfl
        · rw [eM]; exact fun A hA => GatesP.nil
      · refine E_mv (v := .bool _) rfl (E_on rfl (E_mv (v := .int .i64 (j)) rfl (E_on rfl (E_mv (v := .int .i64 (i)) rfl (E_on rfl (E_lssS rfl rfl (fun c20 => ?_) (fun c20 => ?_)))))))
        · refine E_pickF rfl (v := .bool _) rfl (E_mv (v := .bool _) rfl (E_notF rfl (E_notF rfl (E_notF rfl (E_notF rfl (E_notF rfl (E_pickT rfl (v := .bool _) rfl (E_nil (AX_condT rfl (AX_seq (AX_E (E_mk (cs := [.int .i64 (0), .int .i64 (0), .slice none 0 0]) rfl (E_stO (k := 1) rfl rfl (v := .agg _) rfl rfl rfl rfl (E_mv (v := .int .i64 (3)) rfl (E_nil (AX_ret (hRc28 _ _ _ ?_)))))))))))))))))
          -- r3
          clear hNc28 hRc28 hEc28
          have eE : sliceE c i j = 3 := by unfold sliceE; (repeat' split) <;> first | omega | contradiction
          have eM : sliceM c i j = ⟨0, 0, []⟩ := if_neg (by omega)
          refine ⟨_, (res2 (res_cellN (k := 1) rfl rfl) (res_tmp rfl)), by simp, [], forget_nil rfl (List.prefix_append _ _), (none, 0), ?_, ?_⟩
          · show Value.tuple #[.agg #[.int .i64 (0), .int .i64 (0), .slice none 0 0], .int .i64 (3)] = _; rw [eM, eE]; rfl
          · rw [eM]; exact fun A hA => GatesP.nil
        · refine E_pickF rfl (v := .bool _) rfl (E_mv (v := .bool _) rfl (E_on rfl (E_mv (v := .int .i64 (j)) rfl (E_on rfl (E_fa rfl (E_on rfl (E_ldO (k := 0) (v := .slice _ _ _) rfl rfl (E_on rfl (E_len (n := (c.gs).length) rfl (E_on rfl (E_gtrS rfl rfl (fun c27 => ?_) (fun c27 => ?_))))))))))))
          · refine E_pickF rfl (v := .bool _) rfl (E_nil (AX_condT rfl (AX_seq (AX_E (E_mk (cs := [.int .i64 (0), .int .i64 (0), .slice none 0 0]) rfl (E_stO (k := 1) rfl rfl (v := .agg _) rfl rfl rfl rfl (E_mv (v := .int .i64 (3)) rfl (E_nil (AX_ret (hRc28 _ _ _ ?_))))))))))
            -- r4
            clear hNc28 hRc28 hEc28
            have eE : sliceE c i j = 3 := by unfold sliceE; (repeat' split) <;> first | omega | contradiction
            have eM : sliceM c i j = ⟨0, 0, []⟩ := if_neg (by omega)
            refine ⟨_, (res2 (res_cellN (k := 1) rfl rfl) (res_tmp rfl)), by simp, [], forget_nil rfl (List.prefix_append _ _), (none, 0), ?_, ?_⟩
            · show Value.tuple #[.agg #[.int .i64 (0), .int .i64 (0), .slice none 0 0], .int .i64 (3)] = _; rw [eM, eE]; rfl
            · rw [eM]; exact fun A hA => GatesP.nil
          · refine E_pickF rfl (v := .bool _) rfl (E_nil (AX_condF rfl (AX_skip ?_)))
            refine hNc28 (()) _ _ _ ⟨by first | rfl | (congr 1; omega), by first | rfl | (congr 1; omega), by first | rfl | (congr 1; omega), by first | rfl | (congr 1; omega), trivial⟩ ⟨rfl, rfl, ?_⟩
            clear hNc28 hRc28 hEc28
            omega
    rintro ⟨⟩ frc28 hc28 mc28 ⟨rfl, rfl, invc28⟩
    refine AX_seq (AX_E (E_ldON (k := 0) rfl rfl (E_fa rfl (E_ldO (k := 0) (v := .slice _ _ _) rfl rfl (E_mv (v := .int .i64 (i)) rfl (E_mv (v := .int .i64 (j)) rfl (E_slLHGb (i1 := i.toNat) (i2 := j.toNat) rfl hv rfl rfl rfl (by first | omega | (simp; done) | (simp; omega)) (by first | omega | (simp; done) | (simp; omega)) (by omega) (by omega) fun q1 f1 => ?_)))))))
    obtain ⟨X2, x2, hr2, f2⟩ := with_ret (H ++ [CO.row [.int .i64 (c.w), .int .i64 (c.b), .slice (p).1 (c.gs).length (p).2] true none, CO.row [.int .i64 (0), .int .i64 (0), .slice none 0 0] true none]) c _ (((c.gs.take j.toNat).drop i.toNat)) _ f1.app (by rw [List.length_drop, List.length_take]; omega) (fun g hg => by have := ((CR.of c12).gr (List.mem_of_mem_take (List.mem_of_mem_drop hg))).len; omega)
    refine E_callX (X := X2) rfl (hr2) (E_hp (h' := H ++ ([CO.row [.int .i64 (c.w), .int .i64 (c.b), .slice (p).1 (c.gs).length (p).2] true none, CO.row [.int .i64 (0), .int .i64 (0), .slice none 0 0] true none] ++ X2)) (by first | (simp only [List.append_assoc, List.append_nil, List.nil_append, List.cons_append, List.set_cons_zero, List.set_cons_succ]; done) | (simp only [List.append_assoc, List.append_nil, List.nil_append, List.cons_append, List.set_cons_zero, List.set_cons_succ]; rfl)) (E_stO (k := 1) rfl rfl (v := .agg _) rfl rfl rfl rfl (E_mv (v := .int .i64 (0)) rfl (E_nil (AX_ret ?_)))))
    -- r6
    have eE : sliceE c i j = 0 := by unfold sliceE; (repeat' split) <;> first | omega | contradiction
    have eM : sliceM c i j = ⟨c.w, c.b, (c.gs.take j.toNat).drop i.toNat⟩ := (if_pos eE).trans (rfl)
    refine ⟨_, (res2 (res_cellN (k := 1) rfl rfl) (res_tmp rfl)), by simp, ?_⟩
    obtain ⟨X, h1, h2⟩ := leafG (h := H) (h' := H ++ ([CO.row [.int .i64 (c.w), .int .i64 (c.b), .slice (p).1 (c.gs).length (p).2] true none, CO.row [.int .i64 (c.w), .int .i64 (c.b), .slice (x2).1 (((c.gs.take j.toNat).drop i.toNat)).length (x2).2] true none] ++ X2)) (A := [CO.row [.int .i64 (c.w), .int .i64 (c.b), .slice (p).1 (c.gs).length (p).2] true none, CO.row [.int .i64 (c.w), .int .i64 (c.b), .slice (x2).1 (((c.gs.take j.toNat).drop i.toNat)).length (x2).2] true none]) (Z := X2) (u := Value.tuple #[cv ⟨c.w, c.b, (c.gs.take j.toNat).drop i.toNat⟩ x2, .int .i64 0]) rfl f2 (by simp) cvt_flat
    exact ⟨X, h1, x2, (show _ = Value.tuple #[cv ⟨c.w, c.b, (c.gs.take j.toNat).drop i.toNat⟩ x2, .int .i64 0] from rfl).trans (by rw [eM, eE]), by rw [eM]; exact h2⟩
end Go.Canon
namespace Go.Canon
open Go Go.Proofs
set_option linter.unusedVariables false
set_option linter.unusedSimpArgs false
def kf44 : KFunc := ⟨2, 50, [.cell 4 (some 3), .tmp 5], .seq (.reg [⟨some 2, .box (.t 0), none⟩, ⟨some 3, .box (.t 1), none⟩, ⟨some 4, .new [.int .i64 0, .int .i64 0, .slice none 0 0], none⟩, ⟨some 5, .mv (.c (.int .i64 0)), none⟩] []) (.seq (.seq (.reg [⟨some 7, .ld (.t 2) (some 3), none⟩, ⟨some 8, .ld (.t 3) (some 3), none⟩, ⟨some 9, .call (.c (.func (.func 73) #[] #[])) [.t 7, .t 8], none⟩, ⟨some 6, .mv (.t 9), none⟩] []) (.block 0 (.seq (.reg [⟨some 11, .mv (.t 6), none⟩, ⟨some 12, .bin .neq (.t 11) (.c (.int .i64 0)), none⟩, ⟨some 10, .mv (.t 12), none⟩] []) (.cond (.t 10) (.seq (.reg [⟨some 13, .mk [.int .i64 0, .int .i64 0, .slice none 0 0] [], none⟩, ⟨some 14, .mv (.t 6), none⟩, ⟨none, .st (.t 4) (.t 13) 3, none⟩, ⟨some 5, .mv (.t 14), none⟩] []) .ret) (.seq (.reg [⟨some 16, .fa (.t 2) 0, none⟩, ⟨some 17, .ld (.t 16) none, none⟩, ⟨some 18, .fa (.t 3) 0, none⟩, ⟨some 19, .ld (.t 18) none, none⟩, ⟨some 20, .bin .neq (.t 17) (.t 19), none⟩, ⟨some 21, .mv (.t 20), none⟩, ⟨some 22, .fa (.t 2) 1, some (21, false)⟩, ⟨some 23, .ld (.t 22) none, some (21, false)⟩, ⟨some 24, .fa (.t 3) 1, some (21, false)⟩, ⟨some 25, .ld (.t 24) none, some (21, false)⟩, ⟨some 26, .bin .neq (.t 23) (.t 25), some (21, false)⟩, ⟨some 27, .pick (.t 21) (.c (.bool true)) (.t 26), none⟩, ⟨some 15, .mv (.t 27), none⟩] []) (.cond (.t 15) (.seq (.reg [⟨some 28, .mk [.int .i64 0, .int .i64 0, .slice none 0 0] [], none⟩, ⟨none, .st (.t 4) (.t 28) 3, none⟩, ⟨some 5, .mv (.c (.int .i64 7)), none⟩] []) .ret) (.seq (.reg [⟨some 30, .fa (.t 2) 2, none⟩, ⟨some 31, .ld (.t 30) none, none⟩, ⟨some 32, .len (.t 31), none⟩, ⟨some 33, .fa (.t 3) 2, none⟩, ⟨some 34, .ld (.t 33) none, none⟩, ⟨some 35, .len (.t 34), none⟩, ⟨some 36, .bin .add (.t 32) (.t 35), none⟩, ⟨some 37, .bin .gtr (.t 36) (.c (.int .i64 120)), none⟩, ⟨some 29, .mv (.t 37), none⟩] []) (.cond (.t 29) (.seq (.reg [⟨some 38, .mk [.int .i64 0, .int .i64 0, .slice none 0 0] [], none⟩, ⟨none, .st (.t 4) (.t 38) 3, none⟩, ⟨some 5, .mv (.c (.int .i64 2)), none⟩] []) .ret) .skip)))))))) (.seq (.reg [⟨some 39, .fa (.t 2) 0, none⟩, ⟨some 40, .ld (.t 39) none, none⟩, ⟨some 41, .fa (.t 2) 1, none⟩, ⟨some 42, .ld (.t 41) none, none⟩, ⟨some 43, .fa (.t 2) 2, none⟩, ⟨some 44, .ld (.t 43) none, none⟩, ⟨some 45, .fa (.t 3) 2, none⟩, ⟨some 46, .ld (.t 45) none, none⟩, ⟨some 47, .mkS [.slice none 0 0, .slice none 0 0] 2 [(0, 1, .t 44), (1, 1, .t 46)], none⟩, ⟨some 48, .call (.c (.func (.func 68) #[] #[])) [.t 47], none⟩, ⟨some 49, .mk [.int .i64 0, .int .i64 0, .slice none 0 0] [(0, 1, .t 40), (1, 1, .t 42), (2, 1, .t 48)], none⟩, ⟨none, .st (.t 4) (.t 49) 3, none⟩, ⟨some 5, .mv (.c (.int .i64 0)), none⟩] [(1, 9), (3, 9)]) .ret))⟩
theorem k44 : tab Try.prog 44 = some kf44 := by kernel_rfl
def kf47 : KFunc := ⟨3, 41, [.cell 6 (some 3), .tmp 7], .seq (.reg [⟨some 3, .box (.t 0), none⟩, ⟨some 6, .new [.int .i64 0, .int .i64 0, .slice none 0 0], none⟩, ⟨some 7, .mv (.c (.int .i64 0)), none⟩] []) (.seq (.seq (.reg [⟨some 9, .ld (.t 3) (some 3), none⟩, ⟨some 10, .call (.c (.func (.func 32) #[] #[])) [.t 9], none⟩, ⟨some 8, .mv (.t 10), none⟩] []) (.seq (.reg [⟨some 11, .mv (.t 8), none⟩, ⟨some 12, .bin .neq (.t 11) (.c (.int .i64 0)), none⟩] []) (.cond (.t 12) (.seq (.reg [⟨some 13, .mk [.int .i64 0, .int .i64 0, .slice none 0 0] [], none⟩, ⟨some 14, .mv (.t 8), none⟩, ⟨none, .st (.t 6) (.t 13) 3, none⟩, ⟨some 7, .mv (.t 14), none⟩] []) .ret) .skip))) (.seq (.seq (.reg [⟨some 15, .mv (.t 1), none⟩, ⟨some 16, .fa (.t 3) 0, none⟩, ⟨some 17, .ld (.t 16) none, none⟩, ⟨some 18, .bin .lss (.t 15) (.t 17), none⟩, ⟨some 19, .mv (.t 18), none⟩, ⟨some 20, .mv (.t 1), some (19, false)⟩, ⟨some 21, .bin .gtr (.t 20) (.c (.int .i64 12)), some (19, false)⟩, ⟨some 22, .pick (.t 19) (.c (.bool true)) (.t 21), none⟩, ⟨some 23, .mv (.t 22), none⟩, ⟨some 24, .mv (.t 2), some (23, false)⟩, ⟨some 25, .fa (.t 3) 1, some (23, false)⟩, ⟨some 26, .ld (.t 25) none, some (23, false)⟩, ⟨some 27, .bin .lss (.t 24) (.t 26), some (23, false)⟩, ⟨some 28, .pick (.t 23) (.c (.bool true)) (.t 27), none⟩, ⟨some 29, .mv (.t 28), none⟩, ⟨some 30, .mv (.t 2), some (29, false)⟩, ⟨some 31, .bin .gtr (.t 30) (.c (.int .i64 8)), some (29, false)⟩, ⟨some 32, .pick (.t 29) (.c (.bool true)) (.t 31), none⟩] []) (.cond (.t 32) (.seq (.reg [⟨some 33, .mk [.int .i64 0, .int .i64 0, .slice none 0 0] [], none⟩, ⟨none, .st (.t 6) (.t 33) 3, none⟩, ⟨some 7, .mv (.c (.int .i64 3)), none⟩] []) .ret) .skip)) (.seq (.reg [⟨some 34, .mv (.t 1), none⟩, ⟨some 35, .mv (.t 2), none⟩, ⟨some 36, .fa (.t 3) 2, none⟩, ⟨some 37, .ld (.t 36) none, none⟩, ⟨some 38, .mkS [.slice none 0 0] 1 [(0, 1, .t 37)], none⟩, ⟨some 39, .call (.c (.func (.func 68) #[] #[])) [.t 38], none⟩, ⟨some 40, .mk [.int .i64 0, .int .i64 0, .slice none 0 0] [(0, 1, .t 34), (1, 1, .t 35), (2, 1, .t 39)], none⟩, ⟨none, .st (.t 6) (.t 40) 3, none⟩, ⟨some 7, .mv (.c (.int .i64 0)), none⟩] []) .ret)))⟩
theorem k47 : tab Try.prog 47 = some kf47 := by kernel_rfl
def kf48 : KFunc := ⟨3, 42, [.cell 6 (some 3), .tmp 7], .seq (.reg [⟨some 3, .box (.t 0), none⟩, ⟨some 6, .new [.int .i64 0, .int .i64 0, .slice none 0 0], none⟩, ⟨some 7, .mv (.c (.int .i64 0)), none⟩] []) (.seq (.seq (.reg [⟨some 9, .ld (.t 3) (some 3), none⟩, ⟨some 10, .call (.c (.func (.func 32) #[] #[])) [.t 9], none⟩, ⟨some 8, .mv (.t 10), none⟩] []) (.seq (.reg [⟨some 11, .mv (.t 8), none⟩, ⟨some 12, .bin .neq (.t 11) (.c (.int .i64 0)), none⟩] []) (.cond (.t 12) (.seq (.reg [⟨some 13, .mk [.int .i64 0, .int .i64 0, .slice none 0 0] [], none⟩, ⟨some 14, .mv (.t 8), none⟩, ⟨none, .st (.t 6) (.t 13) 3, none⟩, ⟨some 7, .mv (.t 14), none⟩] []) .ret) .skip))) (.seq (.seq (.reg [⟨some 15, .mv (.t 1), none⟩, ⟨some 16, .bin .lss (.t 15) (.c (.int .i64 0)), none⟩, ⟨some 17, .mv (.t 16), none⟩, ⟨some 18, .mv (.t 2), some (17, false)⟩, ⟨some 19, .mv (.t 1), some (17, false)⟩, ⟨some 20, .bin .lss (.t 18) (.t 19), some (17, false)⟩, ⟨some 21, .pick (.t 17) (.c (.bool true)) (.t 20), none⟩, ⟨some 22, .mv (.t 21), none⟩, ⟨some 23, .mv (.t 2), some (22, false)⟩, ⟨some 24, .fa (.t 3) 2, some (22, false)⟩, ⟨some 25, .ld (.t 24) none, some (22, false)⟩, ⟨some 26, .len (.t 25), some (22, false)⟩, ⟨some 27, .bin .gtr (.t 23) (.t 26), some (22, false)⟩, ⟨some 28, .pick (.t 22) (.c (.bool true)) (.t 27), none⟩] []) (.cond (.t 28) (.seq (.reg [⟨some 29, .mk [.int .i64 0, .int .i64 0, .slice none 0 0] [], none⟩, ⟨none, .st (.t 6) (.t 29) 3, none⟩, ⟨some 7, .mv (.c (.int .i64 3)), none⟩] []) .ret) .skip)) (.seq (.reg [⟨some 30, .fa (.t 3) 0, none⟩, ⟨some 31, .ld (.t 30) none, none⟩, ⟨some 32, .fa (.t 3) 1, none⟩, ⟨some 33, .ld (.t 32) none, none⟩, ⟨some 34, .fa (.t 3) 2, none⟩, ⟨some 35, .ld (.t 34) none, none⟩, ⟨some 36, .mv (.t 1), none⟩, ⟨some 37, .mv (.t 2), none⟩, ⟨some 38, .slS (.t 35) (some (.t 36)) (some (.t 37)) none 4, none⟩, ⟨some 39, .mkS [.slice none 0 0] 1 [(0, 1, .t 38)], none⟩, ⟨some 40, .call (.c (.func (.func 68) #[] #[])) [.t 39], none⟩, ⟨some 41, .mk [.int .i64 0, .int .i64 0, .slice none 0 0] [(0, 1, .t 31), (1, 1, .t 33), (2, 1, .t 40)], none⟩, ⟨none, .st (.t 6) (.t 41) 3, none⟩, ⟨some 7, .mv (.c (.int .i64 0)), none⟩] [(1, 10), (3, 10)]) .ret)))⟩
theorem k48 : tab Try.prog 48 = some kf48 := by kernel_rfl
theorem cells_own {sz : Nat} {h L : Heap} {k n : Nat} {cells : List Value} {wr : Bool} (hL : L[k]? = some (.row cells wr none)) (hl : cells.length = n * sz) : Cells allB (h ++ L) sz (some ⟨h.length + k, 0, none⟩, n) n cells :=
  ⟨hl, Nat.le_refl _, .inr ⟨h.length + k, 0, cells, wr, none, rfl, trivial, by rw [own_get]; exact hL, .inl rfl, .inr ⟨by omega, by rw [List.drop_zero, ← hl, List.take_length]⟩⟩⟩
theorem behind1_ret (h L : Heap) (k : Nat) (q : Pl) (gs : List G) {S : Nat → Prop} (hL : L[k]? = some (.row [.slice q.1 gs.length q.2] true none)) (hv : Gates S (h ++ L) q gs) (hl : gs.length < 4294967296) (hw : ∀ g ∈ gs, g.ws.length < 4294967296) :
    ∃ X p', Ret (tab Try.prog) 68 [.slice (some ⟨h.length + k, 0, none⟩) 1 1] (h ++ L) (.slice p'.1 gs.length p'.2) (h ++ L ++ X) ∧ GatesZ (h ++ L).length X p' gs := by
  have e : [gs].flatten = gs := by simp
  have := behind_ret (h ++ L) (some ⟨h.length + k, 0, none⟩, 1) [gs] [q] (S := allB) (S' := S) ⟨rfl, cells_own hL rfl⟩ (fun j h1 h2 => by
    have : j = 0 := by simpa using h1
    subst this
    exact hv) (by simp) (by rw [e]; exact hl) (fun gs' hg g hgg => by simp at hg; subst hg; exact hw g hgg)
  rwa [e] at this
theorem behind2_ret (h L : Heap) (k : Nat) (q q2 : Pl) (gs hs : List G) {S : Nat → Prop} (hL : L[k]? = some (.row [.slice q.1 gs.length q.2, .slice q2.1 hs.length q2.2] true none)) (hv : Gates S (h ++ L) q gs) (hv2 : Gates S (h ++ L) q2 hs) (hl : gs.length + hs.length < 4294967296) (hw : ∀ g ∈ gs ++ hs, g.ws.length < 4294967296) :
    ∃ X p', Ret (tab Try.prog) 68 [.slice (some ⟨h.length + k, 0, none⟩) 2 2] (h ++ L) (.slice p'.1 (gs ++ hs).length p'.2) (h ++ L ++ X) ∧ GatesZ (h ++ L).length X p' (gs ++ hs) := by
  have e : [gs, hs].flatten = gs ++ hs := by simp
  have := behind_ret (h ++ L) (some ⟨h.length + k, 0, none⟩, 2) [gs, hs] [q, q2] (S := allB) (S' := S) ⟨rfl, cells_own hL rfl⟩ (fun j h1 h2 => by
    have : j = 0 ∨ j = 1 := by simp at h1; omega
    rcases this with rfl | rfl
    · exact hv
    · exact hv2) (by simp) (by rw [e]; simpa using hl) (fun gs' hg g hgg => by
      simp at hg
      rcases hg with rfl | rfl
      · exact hw g (by simp [hgg])
      · exact hw g (by simp [hgg]))
  rwa [e] at this
theorem pwiden_ret (H : Heap) (c : C) (p : Pl) (w b : Int) {S : Nat → Prop} (hv : Gates S H p c.gs) (hl : c.gs.length < 4294967296) : ∃ X p', Ret (tab Try.prog) 47 [cv c p, .int .i64 w, .int .i64 b] H (.tuple #[cv (widenM c w b) p', .int .i64 (widenE c w b)]) (H ++ X) ∧ GatesZ H.length X p' (widenM c w b).gs := by
  have key := Ret_grow (T := tab Try.prog) (f := 47) (args := [cv c p, .int .i64 w, .int .i64 b]) (h := H) (fun u X => ∃ p' : Pl, u = .tuple #[cv (widenM c w b) p', .int .i64 (widenE c w b)] ∧ GatesZ H.length X p' (widenM c w b).gs) k47 rfl ?_
  · obtain ⟨u, X, hr, p', rfl, f1⟩ := key
    exact ⟨X, p', hr, f1⟩
  refine AX_seq (AX_E (E_boxA rfl (E_new (E_mv (v := .int .i64 (0)) rfl (E_nil (AX_seq (AX_seq (AX_E (E_ldON (k := 0) rfl rfl (E_callV rfl (pcheck_ret _ c _ hv.app (by first | omega | (simp; done) | (simp; omega))) (E_mv (v := .int .i64 (checkM c)) rfl (E_nil (AX_seq (AX_E (E_mv (v := .int .i64 (checkM c)) rfl (E_neqS rfl rfl (fun c12 => ?_) (fun c12 => ?_)))))))))))))))))
  · refine E_nil (AX_condT rfl (AX_seq (AX_E (E_mk (cs := [.int .i64 (0), .int .i64 (0), .slice none 0 0]) rfl (E_mv (v := .int .i64 (checkM c)) rfl (E_stO (k := 1) rfl rfl (v := .agg _) rfl rfl rfl rfl (E_mv (v := .int .i64 (checkM c)) rfl (E_nil (AX_ret ?_)))))))))
    -- r1
    have eE : widenE c w b = checkM c := by unfold widenE; (repeat' split) <;> first | omega | contradiction
    have eM : widenM c w b = ⟨0, 0, []⟩ := if_neg (by omega)
    refine ⟨_, (res2 (res_cellN (k := 1) rfl rfl) (res_tmp rfl)), by simp, [], forget_nil rfl (List.prefix_append _ _), (none, 0), ?_, ?_⟩
    · show Value.tuple #[.agg #[.int .i64 (0), .int .i64 (0), .slice none 0 0], .int .i64 (checkM c)] = _; rw [eM, eE]; rfl
    · rw [eM]; exact fun A hA => GatesP.nil
  · refine E_nil (AX_condF rfl (AX_skip ?_))
    refine AX_cut (X := Unit) (fun _ => [(1, .int .i64 (w)), (2, .int .i64 (b)), (3, .pointer (some ⟨(H).length + 0, 0, none⟩)), (6, .pointer (some ⟨(H).length + 1, 0, none⟩))]) (fun _ h_ m_ => h_ = H ++ [CO.row [.int .i64 (c.w), .int .i64 (c.b), .slice (p).1 (c.gs).length (p).2] true none, CO.row [.int .i64 (0), .int .i64 (0), .slice none 0 0] true none] ∧ m_ = [] ∧ ¬ ((w < c.w ∨ 12 < w) ∨ (b < c.b ∨ 8 < b))) ?_ ?_
    · intro Kc32 hNc32 hRc32 hEc32
      refine AX_seq (AX_E (E_mv (v := .int .i64 (w)) rfl (E_fa rfl (E_ldO (k := 0) (v := .int .i64 (c.w)) rfl rfl (E_lssS rfl rfl (fun c18 => ?_) (fun c18 => ?_))))))
      · refine E_mv (v := .bool _) rfl (E_notF rfl (E_notF rfl (E_pickT rfl (v := .bool _) rfl (E_mv (v := .bool _) rfl (E_notF rfl (E_notF rfl (E_notF rfl (E_notF rfl (E_pickT rfl (v := .bool _) rfl (E_mv (v := .bool _) rfl (E_notF rfl (E_notF rfl (E_pickT rfl (v := .bool _) rfl (E_nil (AX_condT rfl (AX_seq (AX_E (E_mk (cs := [.int .i64 (0), .int .i64 (0), .slice none 0 0]) rfl (E_stO (k := 1) rfl rfl (v := .agg _) rfl rfl rfl rfl (E_mv (v := .int .i64 (3)) rfl (E_nil (AX_ret (hRc32 _ _ _ ?_)))))))))))))))))))))))
        -- r2
        clear hNc32 hRc32 hEc32
        have eE : widenE c w b = 3 := by unfold widenE; (repeat' split) <;> first | omega | contradiction
        have eM : widenM c w b = ⟨0, 0, []⟩ := if_neg (by omega)
        refine ⟨_, (res2 (res_cellN (k := 1) rfl rfl) (res_tmp rfl)), by simp, [], forget_nil rfl (List.prefix_append _ _), (none, 0), ?_, ?_⟩
        · show Value.tuple #[.agg #[.int .i64 (0), .int .i64 (0), .slice none 0 0], .int .i64 (3)] = _; rw [eM, eE]; rfl
        · rw [eM]; exact fun A hA => GatesP.nil
      · refine E_mv (v := .bool _) rfl (E_on rfl (E_mv (v := .int .i64 (w)) rfl (E_on rfl (E_gtrS rfl rfl (fun c21 => ?_) (fun c21 => ?_)))))
        · refine E_pickF rfl (v := .bool _) rfl (E_mv (v := .bool _) rfl (E_notF rfl (E_notF rfl (E_notF rfl (E_notF rfl (E_pickT rfl (v := .bool _) rfl (E_mv (v := .bool _) rfl (E_notF rfl (E_notF rfl (E_pickT rfl (v := .bool _) rfl (E_nil (AX_condT rfl (AX_seq (AX_E (E_mk (cs := [.int .i64 (0), .int .i64 (0), .slice none 0 0]) rfl (E_stO (k := 1) rfl rfl (v := .agg _) rfl rfl rfl rfl (E_mv (v := .int .i64 (3)) rfl (E_nil (AX_ret (hRc32 _ _ _ ?_))))))))))))))))))))
          -- r3
          clear hNc32 hRc32 hEc32
          have eE : widenE c w b = 3 := by unfold widenE; (repeat' split) <;> first | omega | contradiction
          have eM : widenM c w b = ⟨0, 0, []⟩ := if_neg (by omega)
          refine ⟨_, (res2 (res_cellN (k := 1) rfl rfl) (res_tmp rfl)), by simp, [], forget_nil rfl (List.prefix_append _ _), (none, 0), ?_, ?_⟩
          · show Value.tuple #[.agg #[.int .i64 (0), .int .i64 (0), .slice none 0 0], .int .i64 (3)] = _; rw [eM, eE]; rfl
          · rw [eM]; exact fun A hA => GatesP.nil
        · refine E_pickF rfl (v := .bool _) rfl (E_mv (v := .bool _) rfl (E_on rfl (E_mv (v := .int .i64 (b)) rfl (E_on rfl (E_fa rfl (E_on rfl (E_ldO (k := 0) (v := .int .i64 (c.b)) rfl rfl (E_on rfl (E_lssS rfl rfl (fun c27 => ?_) (fun c27 => ?_))))))))))
          · refine E_pickF rfl (v := .bool _) rfl (E_mv (v := .bool _) rfl (E_notF rfl (E_notF rfl (E_pickT rfl (v := .bool _) rfl (E_nil (AX_condT rfl (AX_seq (AX_E (E_mk (cs := [.int .i64 (0), .int .i64 (0), .slice none 0 0]) rfl (E_stO (k := 1) rfl rfl (v := .agg _) rfl rfl rfl rfl (E_mv (v := .int .i64 (3)) rfl (E_nil (AX_ret (hRc32 _ _ _ ?_))))))))))))))
            -- r4
            clear hNc32 hRc32 hEc32
            have eE : widenE c w b = 3 := by unfold widenE; (repeat' split) <;> first | omega | contradiction
            have eM : widenM c w b = ⟨0, 0, []⟩ := if_neg (by omega)
            refine ⟨_, (res2 (res_cellN (k := 1) rfl rfl) (res_tmp rfl)), by simp, [], forget_nil rfl (List.prefix_append _ _), (none, 0), ?_, ?_⟩
            · show Value.tuple #[.agg #[.int .i64 (0), .int .i64 (0), .slice none 0 0], .int .i64 (3)] = _; rw [eM, eE]; rfl
            · rw [eM]; exact fun A hA => GatesP.nil
          · refine E_pickF rfl (v := .bool _) rfl (E_mv (v := .bool _) rfl (E_on rfl (E_mv (v := .int .i64 (b)) rfl (E_on rfl (E_gtrS rfl rfl (fun c31 => ?_) (fun c31 => ?_))))))
            · refine E_pickF rfl (v := .bool _) rfl (E_nil (AX_condT rfl (AX_seq (AX_E (E_mk (cs := [.int .i64 (0), .int .i64 (0), .slice none 0 0]) rfl (E_stO (k := 1) rfl rfl (v := .agg _) rfl rfl rfl rfl (E_mv (v := .int .i64 (3)) rfl (E_nil (AX_ret (hRc32 _ _ _ ?_))))))))))
              -- r5
              clear hNc32 hRc32 hEc32
              have eE : widenE c w b = 3 := by unfold widenE; (repeat' split) <;> first | omega | contradiction
              have eM : widenM c w b = ⟨0, 0, []⟩ := if_neg (by omega)
              refine ⟨_, (res2 (res_cellN (k := 1) rfl rfl) (res_tmp rfl)), by simp, [], forget_nil rfl (List.prefix_append _ _), (none, 0), ?_, ?_⟩
              · show Value.tuple #[.agg #[.int .i64 (0), .int .i64 (0), .slice none 0 0], .int .i64 (3)] = _; rw [eM, eE]; rfl
              · rw [eM]; exact fun A hA => GatesP.nil
            · refine E_pickF rfl (v := .bool _) rfl (E_nil (AX_condF rfl (AX_skip ?_)))
              refine hNc32 (()) _ _ _ ⟨by first | rfl | (congr 1; omega), by first | rfl | (congr 1; omega), by first | rfl | (congr 1; omega), by first | rfl | (congr 1; omega), trivial⟩ ⟨rfl, rfl, ?_⟩
              clear hNc32 hRc32 hEc32
              omega
    rintro ⟨⟩ frc32 hc32 mc32 ⟨rfl, rfl, invc32⟩
    refine AX_seq (AX_E (E_mv (v := .int .i64 (w)) rfl (E_mv (v := .int .i64 (b)) rfl (E_fa rfl (E_ldO (k := 0) (v := .slice _ _ _) rfl rfl (E_mkS (cs := [.slice (p).1 (c.gs).length (p).2]) rfl ?_))))))
    obtain ⟨X1, x1, hr1, f1⟩ := behind1_ret (H) ([CO.row [.int .i64 (c.w), .int .i64 (c.b), .slice (p).1 (c.gs).length (p).2] true none, CO.row [.int .i64 (0), .int .i64 (0), .slice none 0 0] true none, CO.row [.slice (p).1 (c.gs).length (p).2] true none]) 2 (p) (c.gs) rfl hv.app (hl) (fun g hg => by have := ((CR.of c12).gr hg).len; omega)
    refine E_callX (X := X1) rfl (hr1) (E_mk (cs := [.int .i64 (w), .int .i64 (b), .slice (x1).1 (c.gs).length (x1).2]) rfl (E_hp (h' := H ++ ([CO.row [.int .i64 (c.w), .int .i64 (c.b), .slice (p).1 (c.gs).length (p).2] true none, CO.row [.int .i64 (0), .int .i64 (0), .slice none 0 0] true none, CO.row [.slice (p).1 (c.gs).length (p).2] true none] ++ X1)) (by first | (simp only [List.append_assoc, List.append_nil, List.nil_append, List.cons_append, List.set_cons_zero, List.set_cons_succ]; done) | (simp only [List.append_assoc, List.append_nil, List.nil_append, List.cons_append, List.set_cons_zero, List.set_cons_succ]; rfl)) (E_stO (k := 1) rfl rfl (v := .agg _) rfl rfl rfl rfl (E_mv (v := .int .i64 (0)) rfl (E_nil (AX_ret ?_))))))
    -- r7
    have eE : widenE c w b = 0 := by unfold widenE; (repeat' split) <;> first | omega | contradiction
    have eM : widenM c w b = ⟨w, b, c.gs⟩ := (if_pos eE).trans (rfl)
    refine ⟨_, (res2 (res_cellN (k := 1) rfl rfl) (res_tmp rfl)), by simp, ?_⟩
    obtain ⟨X, h1, h2⟩ := leafG (h := H) (h' := H ++ ([CO.row [.int .i64 (c.w), .int .i64 (c.b), .slice (p).1 (c.gs).length (p).2] true none, CO.row [.int .i64 (w), .int .i64 (b), .slice (x1).1 (c.gs).length (x1).2] true none, CO.row [.slice (p).1 (c.gs).length (p).2] true none] ++ X1)) (A := [CO.row [.int .i64 (c.w), .int .i64 (c.b), .slice (p).1 (c.gs).length (p).2] true none, CO.row [.int .i64 (w), .int .i64 (b), .slice (x1).1 (c.gs).length (x1).2] true none, CO.row [.slice (p).1 (c.gs).length (p).2] true none]) (Z := X1) (u := Value.tuple #[cv ⟨w, b, c.gs⟩ x1, .int .i64 0]) rfl f1 (by simp) cvt_flat
    exact ⟨X, h1, x1, (show _ = Value.tuple #[cv ⟨w, b, c.gs⟩ x1, .int .i64 0] from rfl).trans (by rw [eM, eE]), by rw [eM]; exact h2⟩
theorem pslice_ret (H : Heap) (c : C) (p : Pl) (i j : Int) {S : Nat → Prop} (hv : Gates S H p c.gs) (hl : c.gs.length < 4294967296) : ∃ X p', Ret (tab Try.prog) 48 [cv c p, .int .i64 i, .int .i64 j] H (.tuple #[cv (sliceM c i j) p', .int .i64 (sliceE c i j)]) (H ++ X) ∧ GatesZ H.length X p' (sliceM c i j).gs := by
  have key := Ret_grow (T := tab Try.prog) (f := 48) (args := [cv c p, .int .i64 i, .int .i64 j]) (h := H) (fun u X => ∃ p' : Pl, u = .tuple #[cv (sliceM c i j) p', .int .i64 (sliceE c i j)] ∧ GatesZ H.length X p' (sliceM c i j).gs) k48 rfl ?_
  · obtain ⟨u, X, hr, p', rfl, f1⟩ := key
    exact ⟨X, p', hr, f1⟩
  refine AX_seq (AX_E (E_boxA rfl (E_new (E_mv (v := .int .i64 (0)) rfl (E_nil (AX_seq (AX_seq (AX_E (E_ldON (k := 0) rfl rfl (E_callV rfl (pcheck_ret _ c _ hv.app (by first | omega | (simp; done) | (simp; omega))) (E_mv (v := .int .i64 (checkM c)) rfl (E_nil (AX_seq (AX_E (E_mv (v := .int .i64 (checkM c)) rfl (E_neqS rfl rfl (fun c12 => ?_) (fun c12 => ?_)))))))))))))))))
  · refine E_nil (AX_condT rfl (AX_seq (AX_E (E_mk (cs := [.int .i64 (0), .int .i64 (0), .slice none 0 0]) rfl (E_mv (v := .int .i64 (checkM c)) rfl (E_stO (k := 1) rfl rfl (v := .agg _) rfl rfl rfl rfl (E_mv (v := .int .i64 (checkM c)) rfl (E_nil (AX_ret ?_)))))))))
    -- r1
    have eE : sliceE c i j = checkM c := by unfold sliceE; (repeat' split) <;> first | omega | contradiction
    have eM : sliceM c i j = ⟨0, 0, []⟩ := if_neg (by omega)
    refine ⟨_, (res2 (res_cellN (k := 1) rfl rfl) (res_tmp rfl)), by simp, [], forget_nil rfl (List.prefix_append _ _), (none, 0), ?_, ?_⟩
    · show Value.tuple #[.agg #[.int .i64 (0), .int .i64 (0), .slice none 0 0], .int .i64 (checkM c)] = _; rw [eM, eE]; rfl
    · rw [eM]; exact fun A hA => GatesP.nil
  · refine E_nil (AX_condF rfl (AX_skip ?_))
    refine AX_cut (X := Unit) (fun _ => [(1, .int .i64 (i)), (2, .int .i64 (j)), (3, .pointer (some ⟨(H).length + 0, 0, none⟩)), (6, .pointer (some ⟨(H).length + 1, 0, none⟩))]) (fun _ h_ m_ => h_ = H ++ [CO.row [.int .i64 (c.w), .int .i64 (c.b), .slice (p).1 (c.gs).length (p).2] true none, CO.row [.int .i64 (0), .int .i64 (0), .slice none 0 0] true none] ∧ m_ = [] ∧ ¬ (i < 0 ∨ j < i ∨ (c.gs.length : Int) < j)) ?_ ?_
    · intro Kc28 hNc28 hRc28 hEc28
      refine AX_seq (AX_E (E_mv (v := .int .i64 (i)) rfl (E_lssS rfl rfl (fun c16 => ?_) (fun c16 => ?_))))
      · refine E_mv (v := .bool _) rfl (E_notF rfl (E_notF rfl (E_notF rfl (E_pickT rfl (v := .bool _) rfl (E_mv (v := .bool _) rfl (E_notF rfl (E_notF rfl (E_notF rfl (E_notF rfl (E_notF rfl (E_pickT rfl (v := .bool _) rfl (E_nil (AX_condT rfl (AX_seq (AX_E (E_mk (cs := [.int .i64 (0), .int .i64 (0), .slice none 0 0]) rfl (E_stO (k := 1) rfl rfl (v := .agg _) rfl rfl rfl rfl (E_mv (v := .int .i64 (3)) rfl (E_nil (AX_ret (hRc28 _ _ _ ?_)))))))))))))))))))))
        -- r2
        clear hNc28 hRc28 hEc28
        have eE : sliceE c i j = 3 := by unfold sliceE; (repeat' split) <;> first | omega | contradiction
        have eM : sliceM c i j = ⟨0, 0, []⟩ := if_neg (by omega)
        refine ⟨_, (res2 (res_cellN (k := 1) rfl rfl) (res_tmp rfl)), by simp, [], forget_nil rfl (List.prefix_append _ _), (none, 0), ?_, ?_⟩
        · show Value.tuple #[.agg #[.int .i64 (0), .int .i64 (0), .slice none 0 0], .int .i64 (3)] = _; rw [eM, eE]; rfl
        · rw [eM]; exact fun A hA => GatesP.nil
      · refine E_mv (v := .bool _) rfl (E_on rfl (E_mv (v := .int .i64 (j)) rfl (E_on rfl (E_mv (v := .int .i64 (i)) rfl (E_on rfl (E_lssS rfl rfl (fun c20 => ?_) (fun c20 => ?_)))))))
        · refine E_pickF rfl (v := .bool _) rfl (E_mv (v := .bool _) rfl (E_notF rfl (E_notF rfl (E_notF rfl (E_notF rfl (E_notF rfl (E_pickT rfl (v := .bool _) rfl (E_nil (AX_condT rfl (AX_seq (AX_E (E_mk (cs := [.int .i64 (0), .int .i64 (0), .slice none 0 0]) rfl (E_stO (k := 1) rfl rfl (v := .agg _) rfl rfl rfl rfl (E_mv (v := .int .i64 (3)) rfl (E_nil (AX_ret (hRc28 _ _ _ ?_)))))))))))))))))
          -- r3
          clear hNc28 hRc28 hEc28
          have eE : sliceE c i j = 3 := by unfold sliceE; (repeat' split) <;> first | omega | contradiction
          have eM : sliceM c i j = ⟨0, 0, []⟩ := if_neg (by omega)
          refine ⟨_, (res2 (res_cellN (k := 1) rfl rfl) (res_tmp rfl)), by simp, [], forget_nil rfl (List.prefix_append _ _), (none, 0), ?_, ?_⟩
          · show Value.tuple #[.agg #[.int .i64 (0), .int .i64 (0), .slice none 0 0], .int .i64 (3)] = _; rw [eM, eE]; rfl
          · rw [eM]; exact fun A hA => GatesP.nil
        · refine E_pickF rfl (v := .bool _) rfl (E_mv (v := .bool _) rfl (E_on rfl (E_mv (v := .int .i64 (j)) rfl (E_on rfl (E_fa rfl (E_on rfl (E_ldO (k := 0) (v := .slice _ _ _) rfl rfl (E_on rfl (E_len (n := (c.gs).length) rfl (E_on rfl (E_gtrS rfl rfl (fun c27 => ?_) (fun c27 => ?_))))))))))))
          · refine E_pickF rfl (v := .bool _) rfl (E_nil (AX_condT rfl (AX_seq (AX_E (E_mk (cs := [.int .i64 (0), .int .i64 (0), .slice none 0 0]) rfl (E_stO (k := 1) rfl rfl (v := .agg _) rfl rfl rfl rfl (E_mv (v := .int .i64 (3)) rfl (E_nil (AX_ret (hRc28 _ _ _ ?_))))))))))
            -- r4
            clear hNc28 hRc28 hEc28
            have eE : sliceE c i j = 3 := by unfold sliceE; (repeat' split) <;> first | omega | contradiction
            have eM : sliceM c i j = ⟨0, 0, []⟩ := if_neg (by omega)
            refine ⟨_, (res2 (res_cellN (k := 1) rfl rfl) (res_tmp rfl)), by simp, [], forget_nil rfl (List.prefix_append _ _), (none, 0), ?_, ?_⟩
            · show Value.tuple #[.agg #[.int .i64 (0), .int .i64 (0), .slice none 0 0], .int .i64 (3)] = _; rw [eM, eE]; rfl
            · rw [eM]; exact fun A hA => GatesP.nil
          · refine E_pickF rfl (v := .bool _) rfl (E_nil (AX_condF rfl (AX_skip ?_)))
            refine hNc28 (()) _ _ _ ⟨by first | rfl | (congr 1; omega), by first | rfl | (congr 1; omega), by first | rfl | (congr 1; omega), by first | rfl | (congr 1; omega), trivial⟩ ⟨rfl, rfl, ?_⟩
            clear hNc28 hRc28 hEc28
            omega
    rintro ⟨⟩ frc28 hc28 mc28 ⟨rfl, rfl, invc28⟩
    refine AX_seq (AX_E (E_fa rfl (E_ldO (k := 0) (v := .int .i64 (c.w)) rfl rfl (E_fa rfl (E_ldO (k := 0) (v := .int .i64 (c.b)) rfl rfl (E_fa rfl (E_ldO (k := 0) (v := .slice _ _ _) rfl rfl (E_mv (v := .int .i64 (i)) rfl (E_mv (v := .int .i64 (j)) rfl (E_slLHGb (i1 := i.toNat) (i2 := j.toNat) rfl hv rfl rfl rfl (by first | omega | (simp; done) | (simp; omega)) (by first | omega | (simp; done) | (simp; omega)) (by omega) (by omega) fun q1 f1 => (E_mkS (cs := [.slice (q1).1 (((c.gs.take j.toNat).drop i.toNat)).length (q1).2]) rfl ?_)))))))))))
    obtain ⟨X2, x2, hr2, f2⟩ := behind1_ret (H) ([CO.row [.int .i64 (c.w), .int .i64 (c.b), .slice (p).1 (c.gs).length (p).2] true none, CO.row [.int .i64 (0), .int .i64 (0), .slice none 0 0] true none, CO.row [.slice (q1).1 (((c.gs.take j.toNat).drop i.toNat)).length (q1).2] true none]) 2 (q1) (((c.gs.take j.toNat).drop i.toNat)) rfl f1.app (by rw [List.length_drop, List.length_take]; omega) (fun g hg => by have := ((CR.of c12).gr (List.mem_of_mem_take (List.mem_of_mem_drop hg))).len; omega)
    refine E_callX (X := X2) rfl (hr2) (E_mk (cs := [.int .i64 (c.w), .int .i64 (c.b), .slice (x2).1 (((c.gs.take j.toNat).drop i.toNat)).length (x2).2]) rfl (E_hp (h' := H ++ ([CO.row [.int .i64 (c.w), .int .i64 (c.b), .slice (p).1 (c.gs).length (p).2] true none, CO.row [.int .i64 (0), .int .i64 (0), .slice none 0 0] true none, CO.row [.slice (q1).1 (((c.gs.take j.toNat).drop i.toNat)).length (q1).2] true none] ++ X2)) (by first | (simp only [List.append_assoc, List.append_nil, List.nil_append, List.cons_append, List.set_cons_zero, List.set_cons_succ]; done) | (simp only [List.append_assoc, List.append_nil, List.nil_append, List.cons_append, List.set_cons_zero, List.set_cons_succ]; rfl)) (E_stO (k := 1) rfl rfl (v := .agg _) rfl rfl rfl rfl (E_mv (v := .int .i64 (0)) rfl (E_nil (AX_ret ?_))))))
    -- r6
    have eE : sliceE c i j = 0 := by unfold sliceE; (repeat' split) <;> first | omega | contradiction
    have eM : sliceM c i j = ⟨c.w, c.b, (c.gs.take j.toNat).drop i.toNat⟩ := (if_pos eE).trans (rfl)
    refine ⟨_, (res2 (res_cellN (k := 1) rfl rfl) (res_tmp rfl)), by simp, ?_⟩
    obtain ⟨X, h1, h2⟩ := leafG (h := H) (h' := H ++ ([CO.row [.int .i64 (c.w), .int .i64 (c.b), .slice (p).1 (c.gs).length (p).2] true none, CO.row [.int .i64 (c.w), .int .i64 (c.b), .slice (x2).1 (((c.gs.take j.toNat).drop i.toNat)).length (x2).2] true none, CO.row [.slice (q1).1 (((c.gs.take j.toNat).drop i.toNat)).length (q1).2] true none] ++ X2)) (A := [CO.row [.int .i64 (c.w), .int .i64 (c.b), .slice (p).1 (c.gs).length (p).2] true none, CO.row [.int .i64 (c.w), .int .i64 (c.b), .slice (x2).1 (((c.gs.take j.toNat).drop i.toNat)).length (x2).2] true none, CO.row [.slice (q1).1 (((c.gs.take j.toNat).drop i.toNat)).length (q1).2] true none]) (Z := X2) (u := Value.tuple #[cv ⟨c.w, c.b, (c.gs.take j.toNat).drop i.toNat⟩ x2, .int .i64 0]) rfl f2 (by simp) cvt_flat
    exact ⟨X, h1, x2, (show _ = Value.tuple #[cv ⟨c.w, c.b, (c.gs.take j.toNat).drop i.toNat⟩ x2, .int .i64 0] from rfl).trans (by rw [eM, eE]), by rw [eM]; exact h2⟩
def composeE (c d : C) : Int := if checkM c ≠ 0 then checkM c else if checkM d ≠ 0 then checkM d else if c.w ≠ d.w ∨ c.b ≠ d.b then 7 else if 120 < (c.gs.length : Int) + d.gs.length then 2 else 0
def composeM (c d : C) : C := if composeE c d = 0 then ⟨c.w, c.b, c.gs ++ d.gs⟩ else ⟨0, 0, []⟩
theorem pcompose_ret (H : Heap) (c d : C) (p q : Pl) (hv : Gates allB H p c.gs) (hu : Gates allB H q d.gs) (hl : c.gs.length < 4294967296) (hl2 : d.gs.length < 4294967296) : ∃ X p', Ret (tab Try.prog) 44 [cv c p, cv d q] H (.tuple #[cv (composeM c d) p', .int .i64 (composeE c d)]) (H ++ X) ∧ GatesZ H.length X p' (composeM c d).gs := by
  have key := Ret_grow (T := tab Try.prog) (f := 44) (args := [cv c p, cv d q]) (h := H) (fun u X => ∃ p' : Pl, u = .tuple #[cv (composeM c d) p', .int .i64 (composeE c d)] ∧ GatesZ H.length X p' (composeM c d).gs) k44 rfl ?_
  · obtain ⟨u, X, hr, p', rfl, f1⟩ := key
    exact ⟨X, p', hr, f1⟩
  refine AX_seq (AX_E (E_boxA rfl (E_boxA rfl (E_new (E_mv (v := .int .i64 (0)) rfl (E_nil (AX_seq (AX_seq (AX_E (E_ldON (k := 0) rfl rfl (E_ldON (k := 1) rfl rfl (E_callV rfl (checked_ret _ c d _ _ hv.app hu.app (by omega) (by omega)) (E_mv (v := .int .i64 (if checkM c ≠ 0 then checkM c else checkM d)) rfl (E_nil (AX_block (AX_seq (AX_E (E_mv (v := .int .i64 (if checkM c ≠ 0 then checkM c else checkM d)) rfl (E_neqS rfl rfl (fun c12 => ?_) (fun c12 => ?_))))))))))))))))))))
  · refine E_mv (v := .bool _) rfl (E_nil (AX_condT rfl (AX_seq (AX_E (E_mk (cs := [.int .i64 (0), .int .i64 (0), .slice none 0 0]) rfl (E_mv (v := .int .i64 (if checkM c ≠ 0 then checkM c else checkM d)) rfl (E_stO (k := 2) rfl rfl (v := .agg _) rfl rfl rfl rfl (E_mv (v := .int .i64 (if checkM c ≠ 0 then checkM c else checkM d)) rfl (E_nil (AX_ret ?_))))))))))
    -- r1
    have eE : composeE c d = if checkM c ≠ 0 then checkM c else checkM d := by unfold composeE; (repeat' split) <;> first | omega | contradiction | (simp_all; done) | (simp_all; omega)
    have eM : composeM c d = ⟨0, 0, []⟩ := if_neg (by omega)
    refine ⟨_, (res2 (res_cellN (k := 2) rfl rfl) (res_tmp rfl)), by simp, [], forget_nil rfl (List.prefix_append _ _), (none, 0), ?_, ?_⟩
    · show Value.tuple #[.agg #[.int .i64 (0), .int .i64 (0), .slice none 0 0], .int .i64 (if checkM c ≠ 0 then checkM c else checkM d)] = _; rw [eM, eE]; rfl
    · rw [eM]; exact fun A hA => GatesP.nil
  · refine E_mv (v := .bool _) rfl (E_nil (AX_condF rfl (AX_seq (AX_E (E_fa rfl (E_ldO (k := 0) (v := .int .i64 (c.w)) rfl rfl (E_fa rfl (E_ldO (k := 1) (v := .int .i64 (d.w)) rfl rfl (E_neqS rfl rfl (fun c20 => ?_) (fun c20 => ?_))))))))))
    · refine E_mv (v := .bool _) rfl (E_notF rfl (E_notF rfl (E_notF rfl (E_notF rfl (E_notF rfl (E_pickT rfl (v := .bool _) rfl (E_mv (v := .bool _) rfl (E_nil (AX_condT rfl (AX_seq (AX_E (E_mk (cs := [.int .i64 (0), .int .i64 (0), .slice none 0 0]) rfl (E_stO (k := 2) rfl rfl (v := .agg _) rfl rfl rfl rfl (E_mv (v := .int .i64 (7)) rfl (E_nil (AX_ret ?_))))))))))))))))
      -- r2
      have eE : composeE c d = 7 := by unfold composeE; (repeat' split) <;> first | omega | contradiction | (simp_all; done) | (simp_all; omega)
      have eM : composeM c d = ⟨0, 0, []⟩ := if_neg (by omega)
      refine ⟨_, (res2 (res_cellN (k := 2) rfl rfl) (res_tmp rfl)), by simp, [], forget_nil rfl (List.prefix_append _ _), (none, 0), ?_, ?_⟩
      · show Value.tuple #[.agg #[.int .i64 (0), .int .i64 (0), .slice none 0 0], .int .i64 (7)] = _; rw [eM, eE]; rfl
      · rw [eM]; exact fun A hA => GatesP.nil
    · refine E_mv (v := .bool _) rfl (E_on rfl (E_fa rfl (E_on rfl (E_ldO (k := 0) (v := .int .i64 (c.b)) rfl rfl (E_on rfl (E_fa rfl (E_on rfl (E_ldO (k := 1) (v := .int .i64 (d.b)) rfl rfl (E_on rfl (E_neqS rfl rfl (fun c26 => ?_) (fun c26 => ?_)))))))))))
      · refine E_pickF rfl (v := .bool _) rfl (E_mv (v := .bool _) rfl (E_nil (AX_condT rfl (AX_seq (AX_E (E_mk (cs := [.int .i64 (0), .int .i64 (0), .slice none 0 0]) rfl (E_stO (k := 2) rfl rfl (v := .agg _) rfl rfl rfl rfl (E_mv (v := .int .i64 (7)) rfl (E_nil (AX_ret ?_))))))))))
        -- r3
        have eE : composeE c d = 7 := by unfold composeE; (repeat' split) <;> first | omega | contradiction | (simp_all; done) | (simp_all; omega)
        have eM : composeM c d = ⟨0, 0, []⟩ := if_neg (by omega)
        refine ⟨_, (res2 (res_cellN (k := 2) rfl rfl) (res_tmp rfl)), by simp, [], forget_nil rfl (List.prefix_append _ _), (none, 0), ?_, ?_⟩
        · show Value.tuple #[.agg #[.int .i64 (0), .int .i64 (0), .slice none 0 0], .int .i64 (7)] = _; rw [eM, eE]; rfl
        · rw [eM]; exact fun A hA => GatesP.nil
      · refine E_pickF rfl (v := .bool _) rfl (E_mv (v := .bool _) rfl (E_nil (AX_condF rfl (AX_seq (AX_E (E_fa rfl (E_ldO (k := 0) (v := .slice _ _ _) rfl rfl (E_len (n := (c.gs).length) rfl (E_fa rfl (E_ldO (k := 1) (v := .slice _ _ _) rfl rfl (E_len (n := (d.gs).length) rfl (E_addI rfl rfl (by first | omega | (simp; done) | (simp; omega)) (by first | omega | (simp; done) | (simp; omega)) (E_gtrS rfl rfl (fun c37 => ?_) (fun c37 => ?_))))))))))))))
        · refine E_mv (v := .bool _) rfl (E_nil (AX_condT rfl (AX_seq (AX_E (E_mk (cs := [.int .i64 (0), .int .i64 (0), .slice none 0 0]) rfl (E_stO (k := 2) rfl rfl (v := .agg _) rfl rfl rfl rfl (E_mv (v := .int .i64 (2)) rfl (E_nil (AX_ret ?_)))))))))
          -- r4
          have eE : composeE c d = 2 := by unfold composeE; (repeat' split) <;> first | omega | contradiction | (simp_all; done) | (simp_all; omega)
          have eM : composeM c d = ⟨0, 0, []⟩ := if_neg (by omega)
          refine ⟨_, (res2 (res_cellN (k := 2) rfl rfl) (res_tmp rfl)), by simp, [], forget_nil rfl (List.prefix_append _ _), (none, 0), ?_, ?_⟩
          · show Value.tuple #[.agg #[.int .i64 (0), .int .i64 (0), .slice none 0 0], .int .i64 (2)] = _; rw [eM, eE]; rfl
          · rw [eM]; exact fun A hA => GatesP.nil
        · refine E_mv (v := .bool _) rfl (E_nil (AX_condF rfl (AX_skip (AX_seq (AX_E (E_fa rfl (E_ldO (k := 0) (v := .int .i64 (c.w)) rfl rfl (E_fa rfl (E_ldO (k := 0) (v := .int .i64 (c.b)) rfl rfl (E_fa rfl (E_ldO (k := 0) (v := .slice _ _ _) rfl rfl (E_fa rfl (E_ldO (k := 1) (v := .slice _ _ _) rfl rfl (E_mkS (cs := [.slice (p).1 (c.gs).length (p).2, .slice (q).1 (d.gs).length (q).2]) rfl ?_))))))))))))))
          obtain ⟨X1, x1, hr1, f1⟩ := behind2_ret (H) ([CO.row [.int .i64 (c.w), .int .i64 (c.b), .slice (p).1 (c.gs).length (p).2] true none, CO.row [.int .i64 (d.w), .int .i64 (d.b), .slice (q).1 (d.gs).length (q).2] true none, CO.row [.int .i64 (0), .int .i64 (0), .slice none 0 0] true none, CO.row [.slice (p).1 (c.gs).length (p).2, .slice (q).1 (d.gs).length (q).2] true none]) 3 (p) (q) (c.gs) (d.gs) rfl hv.app hu.app (by omega) (fun g hg => by have hcd := c12; split at hcd; contradiction; rename_i hc; rcases List.mem_append.1 hg with hg | hg; (have := ((CR.of (by simpa using hc)).gr hg).len; omega); (have := ((CR.of hcd).gr hg).len; omega))
          refine E_callX (X := X1) rfl (hr1) (E_mk (cs := [.int .i64 (c.w), .int .i64 (c.b), .slice (x1).1 ((c.gs ++ d.gs)).length (x1).2]) rfl (E_hp (h' := H ++ ([CO.row [.int .i64 (c.w), .int .i64 (c.b), .slice (p).1 (c.gs).length (p).2] true none, CO.row [.int .i64 (d.w), .int .i64 (d.b), .slice (q).1 (d.gs).length (q).2] true none, CO.row [.int .i64 (0), .int .i64 (0), .slice none 0 0] true none, CO.row [.slice (p).1 (c.gs).length (p).2, .slice (q).1 (d.gs).length (q).2] true none] ++ X1)) (by first | (simp only [List.append_assoc, List.append_nil, List.nil_append, List.cons_append, List.set_cons_zero, List.set_cons_succ]; done) | (simp only [List.append_assoc, List.append_nil, List.nil_append, List.cons_append, List.set_cons_zero, List.set_cons_succ]; rfl)) (E_stO (k := 2) rfl rfl (v := .agg _) rfl rfl rfl rfl (E_mv (v := .int .i64 (0)) rfl (E_nil (AX_ret ?_))))))
          -- r5
          have eE : composeE c d = 0 := by unfold composeE; (repeat' split) <;> first | omega | contradiction | (simp_all; done) | (simp_all; omega)
          have eM : composeM c d = ⟨c.w, c.b, c.gs ++ d.gs⟩ := (if_pos eE).trans (rfl)
          refine ⟨_, (res2 (res_cellN (k := 2) rfl rfl) (res_tmp rfl)), by simp, ?_⟩
          obtain ⟨X, h1, h2⟩ := leafG (h := H) (h' := H ++ ([CO.row [.int .i64 (c.w), .int .i64 (c.b), .slice (p).1 (c.gs).length (p).2] true none, CO.row [.int .i64 (d.w), .int .i64 (d.b), .slice (q).1 (d.gs).length (q).2] true none, CO.row [.int .i64 (c.w), .int .i64 (c.b), .slice (x1).1 ((c.gs ++ d.gs)).length (x1).2] true none, CO.row [.slice (p).1 (c.gs).length (p).2, .slice (q).1 (d.gs).length (q).2] true none] ++ X1)) (A := [CO.row [.int .i64 (c.w), .int .i64 (c.b), .slice (p).1 (c.gs).length (p).2] true none, CO.row [.int .i64 (d.w), .int .i64 (d.b), .slice (q).1 (d.gs).length (q).2] true none, CO.row [.int .i64 (c.w), .int .i64 (c.b), .slice (x1).1 ((c.gs ++ d.gs)).length (x1).2] true none, CO.row [.slice (p).1 (c.gs).length (p).2, .slice (q).1 (d.gs).length (q).2] true none]) (Z := X1) (u := Value.tuple #[cv ⟨c.w, c.b, c.gs ++ d.gs⟩ x1, .int .i64 0]) rfl f1 (by simp) cvt_flat
          exact ⟨X, h1, x1, (show _ = Value.tuple #[cv ⟨c.w, c.b, c.gs ++ d.gs⟩ x1, .int .i64 0] from rfl).trans (by rw [eM, eE]), by rw [eM]; exact h2⟩
end Go.Canon
namespace Go.Canon
open Go Go.Proofs
set_option linter.unusedVariables false
set_option linter.unusedSimpArgs false
def kf39 : KFunc := ⟨2, 51, [.cell 4 (some 3), .tmp 5], .seq (.reg [⟨some 2, .box (.t 0), none⟩, ⟨some 3, .box (.t 1), none⟩, ⟨some 4, .new [.int .i64 0, .int .i64 0, .slice none 0 0], none⟩, ⟨some 5, .mv (.c (.int .i64 0)), none⟩] []) (.seq (.seq (.reg [⟨some 8, .ld (.t 2) (some 3), none⟩, ⟨some 9, .call (.c (.func (.func 9) #[] #[])) [.t 8], none⟩, ⟨some 6, .mv (.t 9), none⟩] []) (.seq (.reg [⟨some 10, .mv (.t 6), none⟩, ⟨some 11, .bin .neq (.t 10) (.c (.int .i64 0)), none⟩] []) (.cond (.t 11) (.seq (.reg [⟨some 12, .mk [.int .i64 0, .int .i64 0, .slice none 0 0] [], none⟩, ⟨some 13, .mv (.t 6), none⟩, ⟨none, .st (.t 4) (.t 12) 3, none⟩, ⟨some 5, .mv (.t 13), none⟩] []) .ret) .skip))) (.seq (.seq (.reg [⟨some 14, .ld (.t 3) (some 3), none⟩, ⟨some 15, .call (.c (.func (.func 9) #[] #[])) [.t 14], none⟩, ⟨some 7, .mv (.t 15), none⟩] []) (.seq (.reg [⟨some 16, .mv (.t 7), none⟩, ⟨some 17, .bin .neq (.t 16) (.c (.int .i64 0)), none⟩] []) (.cond (.t 17) (.seq (.reg [⟨some 18, .mk [.int .i64 0, .int .i64 0, .slice none 0 0] [], none⟩, ⟨some 19, .mv (.t 7), none⟩, ⟨none, .st (.t 4) (.t 18) 3, none⟩, ⟨some 5, .mv (.t 19), none⟩] []) .ret) .skip))) (.seq (.seq (.reg [⟨some 20, .fa (.t 2) 0, none⟩, ⟨some 21, .ld (.t 20) none, none⟩, ⟨some 22, .fa (.t 3) 0, none⟩, ⟨some 23, .ld (.t 22) none, none⟩, ⟨some 24, .bin .neq (.t 21) (.t 23), none⟩, ⟨some 25, .mv (.t 24), none⟩, ⟨some 26, .fa (.t 2) 1, some (25, false)⟩, ⟨some 27, .ld (.t 26) none, some (25, false)⟩, ⟨some 28, .fa (.t 3) 1, some (25, false)⟩, ⟨some 29, .ld (.t 28) none, some (25, false)⟩, ⟨some 30, .bin .neq (.t 27) (.t 29), some (25, false)⟩, ⟨some 31, .pick (.t 25) (.c (.bool true)) (.t 30), none⟩] []) (.cond (.t 31) (.seq (.reg [⟨some 32, .mk [.int .i64 0, .int .i64 0, .slice none 0 0] [], none⟩, ⟨none, .st (.t 4) (.t 32) 3, none⟩, ⟨some 5, .mv (.c (.int .i64 7)), none⟩] []) .ret) .skip)) (.seq (.seq (.reg [⟨some 33, .fa (.t 2) 2, none⟩, ⟨some 34, .ld (.t 33) none, none⟩, ⟨some 35, .len (.t 34), none⟩, ⟨some 36, .fa (.t 3) 2, none⟩, ⟨some 37, .ld (.t 36) none, none⟩, ⟨some 38, .len (.t 37), none⟩, ⟨some 39, .bin .add (.t 35) (.t 38), none⟩, ⟨some 40, .bin .gtr (.t 39) (.c (.int .i64 120)), none⟩] []) (.cond (.t 40) (.seq (.reg [⟨some 41, .mk [.int .i64 0, .int .i64 0, .slice none 0 0] [], none⟩, ⟨none, .st (.t 4) (.t 41) 3, none⟩, ⟨some 5, .mv (.c (.int .i64 2)), none⟩] []) .ret) .skip)) (.seq (.reg [⟨some 42, .ld (.t 2) (some 3), none⟩, ⟨some 43, .mkS [] 0 [], none⟩, ⟨some 44, .fa (.t 2) 2, none⟩, ⟨some 45, .ld (.t 44) none, none⟩, ⟨some 46, .app (.t 43) (.t 45) 4 48, none⟩, ⟨some 47, .fa (.t 3) 2, none⟩, ⟨some 48, .ld (.t 47) none, none⟩, ⟨some 49, .app (.t 46) (.t 48) 4 48, none⟩, ⟨some 50, .call (.c (.func (.func 55) #[] #[])) [.t 42, .t 49], none⟩, ⟨none, .st (.t 4) (.t 50) 3, none⟩, ⟨some 5, .mv (.c (.int .i64 0)), none⟩] [(0, 4), (4, 6), (0, 7)]) .ret)))))⟩
theorem k39 : tab Try.prog 39 = some kf39 := by kernel_rfl
theorem compose_ret (H : Heap) (c d : C) (p q : Pl) (hv : Gates allB H p c.gs) (hu : Gates allB H q d.gs) (hl : c.gs.length < 4294967296) (hl2 : d.gs.length < 4294967296) : ∃ X p', Ret (tab Try.prog) 39 [cv c p, cv d q] H (.tuple #[cv (composeM c d) p', .int .i64 (composeE c d)]) (H ++ X) ∧ GatesZ H.length X p' (composeM c d).gs := by
  have key := Ret_grow (T := tab Try.prog) (f := 39) (args := [cv c p, cv d q]) (h := H) (fun u X => ∃ p' : Pl, u = .tuple #[cv (composeM c d) p', .int .i64 (composeE c d)] ∧ GatesZ H.length X p' (composeM c d).gs) k39 rfl ?_
  · obtain ⟨u, X, hr, p', rfl, f1⟩ := key
    exact ⟨X, p', hr, f1⟩
  obtain ⟨ps0, hps0, hC0, hI0⟩ := id hv
  obtain ⟨ps1, hps1, hC1, hI1⟩ := id hu
  have hbp : ∀ a, p.1 = some a → a.block < H.length := by
    intro a ha
    obtain ⟨_, _, ⟨h3, _⟩ | ⟨b, o, cs, wr, gr, e1, _, e3, _⟩⟩ := hC0
    · rw [h3] at ha; cases ha
    · rw [e1] at ha; injection ha with ha; subst ha; exact (List.getElem?_eq_some_iff.1 e3).1
  refine AX_seq (AX_E (E_boxA rfl (E_boxA rfl (E_new (E_mv (v := .int .i64 (0)) rfl (E_nil (AX_seq (AX_seq (AX_E (E_ldON (k := 0) rfl rfl (E_callV rfl (check_ret _ c _ hv.app (by first | omega | (simp; done) | (simp; omega))) (E_mv (v := .int .i64 (checkM c)) rfl (E_nil (AX_seq (AX_E (E_mv (v := .int .i64 (checkM c)) rfl (E_neqS rfl rfl (fun c11 => ?_) (fun c11 => ?_))))))))))))))))))
  · refine E_nil (AX_condT rfl (AX_seq (AX_E (E_mk (cs := [.int .i64 (0), .int .i64 (0), .slice none 0 0]) rfl (E_mv (v := .int .i64 (checkM c)) rfl (E_stO (k := 2) rfl rfl (v := .agg _) rfl rfl rfl rfl (E_mv (v := .int .i64 (checkM c)) rfl (E_nil (AX_ret ?_)))))))))
    -- r1
    have eE : composeE c d = checkM c := by unfold composeE; (repeat' split) <;> first | omega | contradiction | (simp_all; done) | (simp_all; omega)
    have eM : composeM c d = ⟨0, 0, []⟩ := if_neg (by omega)
    refine ⟨_, (res2 (res_cellN (k := 2) rfl rfl) (res_tmp rfl)), by simp, [], forget_nil rfl (List.prefix_append _ _), (none, 0), ?_, ?_⟩
    · show Value.tuple #[.agg #[.int .i64 (0), .int .i64 (0), .slice none 0 0], .int .i64 (checkM c)] = _; rw [eM, eE]; rfl
    · rw [eM]; exact fun A hA => GatesP.nil
  · refine E_nil (AX_condF rfl (AX_skip (AX_seq (AX_seq (AX_E (E_ldON (k := 1) rfl rfl (E_callV rfl (check_ret _ d _ hu.app (by first | omega | (simp; done) | (simp; omega))) (E_mv (v := .int .i64 (checkM d)) rfl (E_nil (AX_seq (AX_E (E_mv (v := .int .i64 (checkM d)) rfl (E_neqS rfl rfl (fun c17 => ?_) (fun c17 => ?_))))))))))))))
    · refine E_nil (AX_condT rfl (AX_seq (AX_E (E_mk (cs := [.int .i64 (0), .int .i64 (0), .slice none 0 0]) rfl (E_mv (v := .int .i64 (checkM d)) rfl (E_stO (k := 2) rfl rfl (v := .agg _) rfl rfl rfl rfl (E_mv (v := .int .i64 (checkM d)) rfl (E_nil (AX_ret ?_)))))))))
      -- r2
      have eE : composeE c d = checkM d := by unfold composeE; (repeat' split) <;> first | omega | contradiction | (simp_all; done) | (simp_all; omega)
      have eM : composeM c d = ⟨0, 0, []⟩ := if_neg (by omega)
      refine ⟨_, (res2 (res_cellN (k := 2) rfl rfl) (res_tmp rfl)), by simp, [], forget_nil rfl (List.prefix_append _ _), (none, 0), ?_, ?_⟩
      · show Value.tuple #[.agg #[.int .i64 (0), .int .i64 (0), .slice none 0 0], .int .i64 (checkM d)] = _; rw [eM, eE]; rfl
      · rw [eM]; exact fun A hA => GatesP.nil
    · refine E_nil (AX_condF rfl (AX_skip ?_))
      refine AX_cut (X := Unit) (fun _ => [(2, .pointer (some ⟨(H).length + 0, 0, none⟩)), (3, .pointer (some ⟨(H).length + 1, 0, none⟩)), (4, .pointer (some ⟨(H).length + 2, 0, none⟩))]) (fun _ h_ m_ => h_ = H ++ [CO.row [.int .i64 (c.w), .int .i64 (c.b), .slice (p).1 (c.gs).length (p).2] true none, CO.row [.int .i64 (d.w), .int .i64 (d.b), .slice (q).1 (d.gs).length (q).2] true none, CO.row [.int .i64 (0), .int .i64 (0), .slice none 0 0] true none] ∧ m_ = [] ∧ ¬ (c.w ≠ d.w ∨ c.b ≠ d.b)) ?_ ?_
      · intro Kc31 hNc31 hRc31 hEc31
        refine AX_seq (AX_E (E_fa rfl (E_ldO (k := 0) (v := .int .i64 (c.w)) rfl rfl (E_fa rfl (E_ldO (k := 1) (v := .int .i64 (d.w)) rfl rfl (E_neqS rfl rfl (fun c24 => ?_) (fun c24 => ?_)))))))
        · refine E_mv (v := .bool _) rfl (E_notF rfl (E_notF rfl (E_notF rfl (E_notF rfl (E_notF rfl (E_pickT rfl (v := .bool _) rfl (E_nil (AX_condT rfl (AX_seq (AX_E (E_mk (cs := [.int .i64 (0), .int .i64 (0), .slice none 0 0]) rfl (E_stO (k := 2) rfl rfl (v := .agg _) rfl rfl rfl rfl (E_mv (v := .int .i64 (7)) rfl (E_nil (AX_ret (hRc31 _ _ _ ?_))))))))))))))))
          -- r3
          clear hNc31 hRc31 hEc31
          have eE : composeE c d = 7 := by unfold composeE; (repeat' split) <;> first | omega | contradiction | (simp_all; done) | (simp_all; omega)
          have eM : composeM c d = ⟨0, 0, []⟩ := if_neg (by omega)
          refine ⟨_, (res2 (res_cellN (k := 2) rfl rfl) (res_tmp rfl)), by simp, [], forget_nil rfl (List.prefix_append _ _), (none, 0), ?_, ?_⟩
          · show Value.tuple #[.agg #[.int .i64 (0), .int .i64 (0), .slice none 0 0], .int .i64 (7)] = _; rw [eM, eE]; rfl
          · rw [eM]; exact fun A hA => GatesP.nil
        · refine E_mv (v := .bool _) rfl (E_on rfl (E_fa rfl (E_on rfl (E_ldO (k := 0) (v := .int .i64 (c.b)) rfl rfl (E_on rfl (E_fa rfl (E_on rfl (E_ldO (k := 1) (v := .int .i64 (d.b)) rfl rfl (E_on rfl (E_neqS rfl rfl (fun c30 => ?_) (fun c30 => ?_)))))))))))
          · refine E_pickF rfl (v := .bool _) rfl (E_nil (AX_condT rfl (AX_seq (AX_E (E_mk (cs := [.int .i64 (0), .int .i64 (0), .slice none 0 0]) rfl (E_stO (k := 2) rfl rfl (v := .agg _) rfl rfl rfl rfl (E_mv (v := .int .i64 (7)) rfl (E_nil (AX_ret (hRc31 _ _ _ ?_))))))))))
            -- r4
            clear hNc31 hRc31 hEc31
            have eE : composeE c d = 7 := by unfold composeE; (repeat' split) <;> first | omega | contradiction | (simp_all; done) | (simp_all; omega)
            have eM : composeM c d = ⟨0, 0, []⟩ := if_neg (by omega)
            refine ⟨_, (res2 (res_cellN (k := 2) rfl rfl) (res_tmp rfl)), by simp, [], forget_nil rfl (List.prefix_append _ _), (none, 0), ?_, ?_⟩
            · show Value.tuple #[.agg #[.int .i64 (0), .int .i64 (0), .slice none 0 0], .int .i64 (7)] = _; rw [eM, eE]; rfl
            · rw [eM]; exact fun A hA => GatesP.nil
          · refine E_pickF rfl (v := .bool _) rfl (E_nil (AX_condF rfl (AX_skip ?_)))
            refine hNc31 (()) _ _ _ ⟨by first | rfl | (congr 1; omega), by first | rfl | (congr 1; omega), by first | rfl | (congr 1; omega), trivial⟩ ⟨rfl, rfl, ?_⟩
            clear hNc31 hRc31 hEc31
            omega
      rintro ⟨⟩ frc31 hc31 mc31 ⟨rfl, rfl, invc31⟩
      refine AX_seq (AX_seq (AX_E (E_fa rfl (E_ldO (k := 0) (v := .slice _ _ _) rfl rfl (E_len (n := (c.gs).length) rfl (E_fa rfl (E_ldO (k := 1) (v := .slice _ _ _) rfl rfl (E_len (n := (d.gs).length) rfl (E_addI rfl rfl (by first | omega | (simp; done) | (simp; omega)) (by first | omega | (simp; done) | (simp; omega)) (E_gtrS rfl rfl (fun c40 => ?_) (fun c40 => ?_)))))))))))
      · refine E_nil (AX_condT rfl (AX_seq (AX_E (E_mk (cs := [.int .i64 (0), .int .i64 (0), .slice none 0 0]) rfl (E_stO (k := 2) rfl rfl (v := .agg _) rfl rfl rfl rfl (E_mv (v := .int .i64 (2)) rfl (E_nil (AX_ret ?_))))))))
        -- r6
        have eE : composeE c d = 2 := by unfold composeE; (repeat' split) <;> first | omega | contradiction | (simp_all; done) | (simp_all; omega)
        have eM : composeM c d = ⟨0, 0, []⟩ := if_neg (by omega)
        refine ⟨_, (res2 (res_cellN (k := 2) rfl rfl) (res_tmp rfl)), by simp, [], forget_nil rfl (List.prefix_append _ _), (none, 0), ?_, ?_⟩
        · show Value.tuple #[.agg #[.int .i64 (0), .int .i64 (0), .slice none 0 0], .int .i64 (2)] = _; rw [eM, eE]; rfl
        · rw [eM]; exact fun A hA => GatesP.nil
      · refine E_nil (AX_condF rfl (AX_skip (AX_seq (AX_EB (fun b => H.length + 4 ≤ b) (E_ldON (k := 0) rfl rfl (E_mkS (cs := []) rfl (E_fa rfl (E_ldO (k := 0) (v := .slice _ _ _) rfl rfl (E_app0B (k := 3) rfl rfl rfl (hC0.app).first (by simp only [roomB]; omega) (flat_len _ _ hps0) (fun b hb => by exact ⟨by omega, fun a ha => by have := hbp a ha; omega⟩) fun W q0 hW => (E_fa rfl (E_ldO (k := 1) (v := .slice _ _ _) rfl rfl (E_app2B (Bs := H ++ [CO.row [.int .i64 (c.w), .int .i64 (c.b), .slice (p).1 (c.gs).length (p).2] true none, CO.row [.int .i64 (d.w), .int .i64 (d.b), .slice (q).1 (d.gs).length (q).2] true none, CO.row [.int .i64 (0), .int .i64 (0), .slice none 0 0] true none]) (Z := [CO.row [] true none] ++ W) (n := H.length + 3) (m' := (c.gs ++ d.gs).length) (by first | (simp only [List.append_assoc, List.append_nil, List.nil_append, List.cons_append, List.set_cons_zero, List.set_cons_succ]; done) | (simp only [List.append_assoc, List.append_nil, List.nil_append, List.cons_append, List.set_cons_zero, List.set_cons_succ]; rfl)) (by rw [List.length_append]) (by simp) (Grown.lit (flat_len _ _ hps0) hW rfl rfl) rfl rfl (hC1.app).first (by simp only [roomB]; omega) (List.all_eq_true.2 fun v hv => flat_cells v hv) (flat_len _ _ hps1) (by decide) (fun j cs wr hj => by cases j with | zero => simp at hj | succ j => show _ ≤ _; omega) fun Y5 y5 hY5 => E_dropB (by decide) (E_hp (h' := (H ++ ([CO.row [.int .i64 (c.w), .int .i64 (c.b), .slice (p).1 (c.gs).length (p).2] true none, CO.row [.int .i64 (d.w), .int .i64 (d.b), .slice (q).1 (d.gs).length (q).2] true none, CO.row [.int .i64 (0), .int .i64 (0), .slice none 0 0] true none] ++ Y5)) ++ []) (by first | (simp only [List.append_assoc, List.append_nil, List.nil_append, List.cons_append, List.set_cons_zero, List.set_cons_succ]; done) | (simp only [List.append_assoc, List.append_nil, List.nil_append, List.cons_append, List.set_cons_zero, List.set_cons_succ]; rfl)) ?_)))))))))))))
        obtain ⟨X1, x1, hr1, f1⟩ := with_ret ((H ++ ([CO.row [.int .i64 (c.w), .int .i64 (c.b), .slice (p).1 (c.gs).length (p).2] true none, CO.row [.int .i64 (d.w), .int .i64 (d.b), .slice (q).1 (d.gs).length (q).2] true none, CO.row [.int .i64 (0), .int .i64 (0), .slice none 0 0] true none] ++ Y5)) ++ []) c _ ((c.gs ++ d.gs)) _ ((Lst.two hps0 hps1 hI0 hI1 hY5).gates (by simp)).app (by simp; omega) (fun g hg => by rcases List.mem_append.1 hg with hg | hg; (have := ((CR.of c11).gr hg).len; omega); (have := ((CR.of c17).gr hg).len; omega))
        refine E_callX (X := X1) rfl (hr1) (E_hp (h' := H ++ ([CO.row [.int .i64 (c.w), .int .i64 (c.b), .slice (p).1 (c.gs).length (p).2] true none, CO.row [.int .i64 (d.w), .int .i64 (d.b), .slice (q).1 (d.gs).length (q).2] true none, CO.row [.int .i64 (0), .int .i64 (0), .slice none 0 0] true none] ++ (Y5 ++ ([] ++ X1)))) (by first | (simp only [List.append_assoc, List.append_nil, List.nil_append, List.cons_append, List.set_cons_zero, List.set_cons_succ]; done) | (simp only [List.append_assoc, List.append_nil, List.nil_append, List.cons_append, List.set_cons_zero, List.set_cons_succ]; rfl)) (E_stO (k := 2) rfl rfl (v := .agg _) rfl rfl rfl rfl (E_mv (v := .int .i64 (0)) rfl (E_nil (AX_ret ?_)))))
        -- r7
        have eE : composeE c d = 0 := by unfold composeE; (repeat' split) <;> first | omega | contradiction | (simp_all; done) | (simp_all; omega)
        have eM : composeM c d = ⟨c.w, c.b, c.gs ++ d.gs⟩ := (if_pos eE).trans (rfl)
        refine ⟨_, (res2 (res_cellN (k := 2) rfl rfl) (res_tmp rfl)), by simp, ?_⟩
        obtain ⟨X, h1, h2⟩ := leafG (h := H) (h' := H ++ ([CO.row [.int .i64 (c.w), .int .i64 (c.b), .slice (p).1 (c.gs).length (p).2] true none, CO.row [.int .i64 (d.w), .int .i64 (d.b), .slice (q).1 (d.gs).length (q).2] true none, CO.row [.int .i64 (c.w), .int .i64 (c.b), .slice (x1).1 ((c.gs ++ d.gs)).length (x1).2] true none] ++ (Y5 ++ ([] ++ X1)))) (A := [CO.row [.int .i64 (c.w), .int .i64 (c.b), .slice (p).1 (c.gs).length (p).2] true none, CO.row [.int .i64 (d.w), .int .i64 (d.b), .slice (q).1 (d.gs).length (q).2] true none, CO.row [.int .i64 (c.w), .int .i64 (c.b), .slice (x1).1 ((c.gs ++ d.gs)).length (x1).2] true none]) (Z := (Y5 ++ ([] ++ X1))) (u := Value.tuple #[cv ⟨c.w, c.b, c.gs ++ d.gs⟩ x1, .int .i64 0]) rfl (GatesZ.pre (n := H.length + 3) (W := Y5) f1 (by simp; omega)) (by simp) cvt_flat
        exact ⟨X, h1, x1, (show _ = Value.tuple #[cv ⟨c.w, c.b, c.gs ++ d.gs⟩ x1, .int .i64 0] from rfl).trans (by rw [eM, eE]), by rw [eM]; exact h2⟩
end Go.Canon
namespace Go.Canon
open Go Go.Proofs
set_option linter.unusedVariables false
set_option linter.unusedSimpArgs false
def kf75 : KFunc := ⟨1, 16, [], .seq (.reg [⟨some 1, .box (.t 0), none⟩] []) (.seq (.seq (.reg [⟨some 4, .fa (.t 1) 2, none⟩, ⟨some 5, .ld (.t 4) none, none⟩, ⟨some 6, .len (.t 5), none⟩, ⟨some 7, .mv (.c (.int .i64 0)), none⟩] []) (.block 0 (.loop (.seq (.reg [⟨some 8, .bin .lss (.t 7) (.t 6), none⟩] []) (.seq (.cond (.t 8) .skip (.exit 0)) (.seq (.block 1 (.seq (.reg [⟨some 9, .iaS (.t 5) (.t 7) 4, none⟩, ⟨some 10, .ld (.t 9) (some 4), none⟩, ⟨some 3, .new [.int .i64 0, .slice none 0 0, .int .i64 0, .int .i64 0], none⟩, ⟨none, .st (.t 3) (.t 10) 4, none⟩] []) (.reg [⟨some 11, .fa (.t 3) 1, none⟩, ⟨some 12, .ld (.t 11) none, none⟩, ⟨none, .clr (.t 12) [.int .i64 0], none⟩] []))) (.reg [⟨some 13, .bin .add (.t 7) (.c (.int .i64 1)), none⟩, ⟨some 7, .mv (.t 13), none⟩] []))))))) (.reg [⟨some 14, .fa (.t 1) 2, none⟩, ⟨some 15, .ld (.t 14) none, none⟩, ⟨none, .clr (.t 15) [.int .i64 0, .slice none 0 0, .int .i64 0, .int .i64 0], none⟩] []))⟩
theorem k75 : tab Try.prog 75 = some kf75 := by kernel_rfl
structure SpI (H : Heap) (S : Nat → Prop) (c : C) (p : Pl) (ps : List Pl) (K : Heap) : Prop where
  len : H.length ≤ K.length
  keep : ∀ b, b < H.length → ¬ S b → K[b]? = H[b]?
  wr : ∀ b cs wr gr, S b → K[b]? = some (CO.row cs wr gr) → wr = true
  out : Cells S K 4 p c.gs.length (flat c.gs ps)
  inn : ∀ i (h1 : i < c.gs.length) (h2 : i < ps.length), ∃ cells, Cells (fun b => S b ∧ offP p b) K 1 ps[i] c.gs[i].ws.length cells
  box : rowGet K ⟨H.length + 0, 0, none⟩ 3 = some [.int .i64 c.w, .int .i64 c.b, .slice p.1 c.gs.length p.2]
theorem Cells.set {S : Nat → Prop} {h : Heap} {sz n b : Nat} {q : Pl} {cells cs cs' : List Value} {gr : Option Nat} (H : Cells S h sz q n cells) (hb : h[b]? = some (.row cs true gr)) (hl : cs'.length = cs.length) : ∃ cells', Cells S (h.set b (.row cs' true gr)) sz q n cells' := by
  obtain ⟨h1, h2, h3 | ⟨b1, o, cs1, wr, gr1, e1, e2, e3, e4, e5⟩⟩ := H
  · exact ⟨cells, h1, h2, .inl h3⟩
  · by_cases e : b = b1
    · subst e
      rw [hb] at e3
      injection e3 with e3
      injection e3 with e6 e7 e8
      subst e6 e7 e8
      have hlt := (List.getElem?_eq_some_iff.1 hb).1
      by_cases h0 : n = 0
      · exact ⟨cells, h1, h2, .inr ⟨b, o, cs', true, gr, e1, e2, by rw [List.getElem?_set_self hlt], e4, .inl h0⟩⟩
      · obtain ⟨a1, a2⟩ := e5.resolve_left h0
        exact ⟨(cs'.drop o).take (n * sz), by simp; omega, h2, .inr ⟨b, o, cs', true, gr, e1, e2, by rw [List.getElem?_set_self hlt], e4, .inr ⟨by omega, rfl⟩⟩⟩
    · exact ⟨cells, h1, h2, .inr ⟨b1, o, cs1, wr, gr1, e1, e2, by rw [List.getElem?_set_ne e]; exact e3, e4, e5⟩⟩
theorem Cells.set_ne {S : Nat → Prop} {h : Heap} {sz n b : Nat} {q : Pl} {cells : List Value} {ob : CO} (H : Cells S h sz q n cells) (hb : ∀ a, q.1 = some a → a.block ≠ b) : Cells S (h.set b ob) sz q n cells := by
  obtain ⟨h1, h2, h3 | ⟨b1, o, cs1, wr, gr1, e1, e2, e3, e4, e5⟩⟩ := H
  · exact ⟨h1, h2, .inl h3⟩
  · have := hb _ e1
    exact ⟨h1, h2, .inr ⟨b1, o, cs1, wr, gr1, e1, e2, by rw [List.getElem?_set_ne (Ne.symm this)]; exact e3, e4, e5⟩⟩
theorem rowGet_set_ne {h : Heap} {a : Addr} {n b : Nat} {l : List Value} {ob : CO} (H : rowGet h a n = some l) (hb : a.block ≠ b) : rowGet (h.set b ob) a n = some l := by
  unfold rowGet at H ⊢
  rw [List.getElem?_set_ne (Ne.symm hb)]
  exact H
theorem SpI.app {H : Heap} {S : Nat → Prop} {c : C} {p : Pl} {ps : List Pl} {K L : Heap} (I : SpI H S c p ps K) (hS : ∀ b, S b → b < H.length) : SpI H S c p ps (K ++ L) := by
  obtain ⟨a1, a2, a3, a4, a5, a6⟩ := I
  exact ⟨by simp; omega, fun b hb hn => by rw [pre_get (by omega)]; exact a2 b hb hn, fun b cs wr gr hb hr => a3 b cs wr gr hb (by have := hS b hb; rwa [pre_get (by omega)] at hr), a4.app, fun i h1 h2 => (a5 i h1 h2).imp fun _ x => x.app, rowGet_base a6⟩
theorem SpI.step {H : Heap} {S : Nat → Prop} {c : C} {p q : Pl} {ps : List Pl} {K K2 : Heap} (I : SpI H S c p ps K) (hS : ∀ b, S b → b < H.length)
    (hk : K2 = K ∨ ∃ b cs cs' gr a, (S b ∧ offP p b) ∧ q.1 = some a ∧ a.block = b ∧ K[b]? = some (CO.row cs true gr) ∧ cs'.length = cs.length ∧ K2 = K.set b (CO.row cs' true gr)) : SpI H S c p ps K2 := by
  rcases hk with rfl | ⟨b, cs, cs', gr, a, ⟨hb1, hb2⟩, _, _, hr, hl, rfl⟩
  · exact I
  · obtain ⟨a1, a2, a3, a4, a5, a6⟩ := I
    refine ⟨by simpa using a1, fun x hx hn => ?_, fun x cs2 wr gr2 hx hr2 => ?_, a4.set_ne hb2, fun i h1 h2 => ?_, rowGet_set_ne a6 (by have := hS b hb1; simp only; omega)⟩
    · rw [List.getElem?_set_ne (by intro e; subst e; exact hn hb1)]; exact a2 x hx hn
    · by_cases e : b = x
      · subst e
        rw [List.getElem?_set_self (List.getElem?_eq_some_iff.1 hr).1] at hr2
        injection hr2 with hr2
        injection hr2 with _ e2 _
        exact e2.symm
      · rw [List.getElem?_set_ne e] at hr2; exact a3 x cs2 wr gr2 hx hr2
    · obtain ⟨cells, hc⟩ := a5 i h1 h2
      exact hc.set hr hl
theorem spoil_ret (H : Heap) (S : Nat → Prop) (c : C) (p : Pl) (hP : GatesP S H p c.gs) (hS : ∀ b, S b → b < H.length) (hw : ∀ b cs wr gr, S b → H[b]? = some (CO.row cs wr gr) → wr = true) (hl : c.gs.length < 4294967296) :
    ∃ K', Ret (tab Try.prog) 75 [cv c p] H (.tuple #[]) K' ∧ H.length ≤ K'.length ∧ ∀ b, b < H.length → ¬ S b → K'[b]? = H[b]? := by
  obtain ⟨ps, hps, hC, hI, _⟩ := hP
  have key : ACall (tab Try.prog) 75 [cv c p] H fun u k => u = .tuple #[] ∧ ∃ Kf, k = forget H (.tuple #[]) Kf ∧ H.length ≤ Kf.length ∧ ∀ b, b < H.length → ¬ S b → Kf[b]? = H[b]? := by
    refine ACall_ownR k75 rfl ?_
    refine AX_seq (AX_E (E_boxA rfl (E_nil (AX_seq (AX_seq (AX_E (E_fa rfl (E_ldO (k := 0) (v := .slice _ _ _) rfl rfl (E_len (n := (c.gs).length) rfl (E_mv (v := .int .i64 (0)) rfl (E_nil (AX_block ?_))))))))))))
    refine AX_loopF (γ := Nat) (fun j => [(1, .pointer (some ⟨(H).length + 0, 0, none⟩)), (5, .slice (p).1 (c.gs).length (p).2), (6, .int .i64 ((c.gs).length)), (7, .int .i64 ((j : Int)))]) (fun j h_ m_ => (SpI H S c p ps h_) ∧ m_ = [] ∧ j ≤ c.gs.length) (fun j => c.gs.length - j) (0) ⟨rfl, rfl, rfl, rfl, trivial⟩ ⟨⟨by simp, fun b hb _ => pre_get hb, fun b cs wr gr hb hr => hw b cs wr gr hb (by have := hS b hb; rwa [pre_get this] at hr), hC.app, fun i h1 h2 => ⟨_, (hI i h1 h2).app⟩, rowGet_own (k := 0) rfl⟩, rfl, ?_⟩ ?_
    · omega
    rintro j fr0 KH0 m0 ⟨hI0, rfl, inv0⟩ K0 hN0 hR0 hE0
    refine AX_nil ?_
    refine AX_seq (AX_E (E_lssS rfl rfl (fun c8 => ?_) (fun c8 => ?_)))
    · refine E_nil (AX_seq (AX_condT rfl (AX_skip (AX_seq (AX_block (AX_seq (AX_E (have ix1 : j < (c.gs).length := (by first | omega | (simp; done) | (simp; omega)); have iy1 : j < ps.length := (by omega); E_iaPb (j := j) rfl hI0.out rfl hps rfl rfl ix1 iy1 fun b1 o1 w1 => (E_ldBN rfl w1 (E_new (E_stO (k := 0) rfl rfl (v := .agg _) rfl rfl rfl rfl (E_nil (AX_E (E_fa rfl (E_ldO (k := 0) (v := .slice _ _ _) rfl rfl ?_)))))))))))))))
      obtain ⟨cl, hcl⟩ := hI0.inn j ix1 iy1
      refine E_clrAny (S := fun b => S b ∧ offP p b) (q := ps[j]'iy1) rfl hcl.app rfl (fun b cs wr gr hb hr => (hI0.app hS).wr b cs wr gr hb.1 hr) rfl fun K2 hK2 => E_nilR (E_nil (AX_E (E_addI rfl rfl (by first | omega | (simp; done) | (simp; omega)) (by first | omega | (simp; done) | (simp; omega)) (E_mv (v := .int .i64 (((j : Int) + 1))) rfl (E_nil ?_)))))
      refine hN0 (j + 1) _ _ _ ⟨by first | rfl | (congr 1; omega), by first | rfl | (congr 1; omega), by first | rfl | (congr 1; omega), by first | rfl | (congr 1; omega), trivial⟩ ⟨?_, rfl, ?_⟩ ?_
      all_goals clear hN0 hR0 hE0
      · rw [List.append_nil]
        exact (hI0.app hS).step hS hK2
      · omega
      · (first | omega | (simp; omega))
    · refine E_nil (AX_seq (AX_condF rfl (AX_exit (hE0 _ _ _ _ (AX_E (E_fa rfl (E_ldB (v := .slice _ _ _) rfl (rowGet_c (j := 2) hI0.box rfl) (E_clrAny (S := S) (q := p) rfl hI0.out.app rfl (fun b cs wr gr hb hr => (hI0.app hS).wr b cs wr gr hb hr) rfl fun K3 hK3 => E_nilR (E_nil ?_)))))))))
      refine ⟨_, rfl, by simp, rfl, K3 ++ [], rfl, ?_, ?_⟩
      · rw [List.append_nil]; rcases hK3 with rfl | ⟨b, cs, cs2, gr, a, hb, _, _, hr, hl2, rfl⟩
        · exact (hI0.app hS).len
        · simpa using hI0.len
      · intro x hx hn; rw [List.append_nil]; rcases hK3 with rfl | ⟨b, cs, cs2, gr, a, hb, _, _, hr, hl2, rfl⟩
        · exact (hI0.app hS).keep x hx hn
        · rw [List.getElem?_set_ne (by intro e; subst e; exact hn hb)]; exact (hI0.app hS).keep x hx hn
  obtain ⟨n, u, k, e, rfl, Kf, rfl, h1, h2⟩ := key
  refine ⟨_, ⟨n, e⟩, ?_, ?_⟩
  · unfold forget; split
    · exact Nat.le_refl _
    · exact h1
  · intro b hb hn
    unfold forget; split
    · rfl
    · exact h2 b hb hn
end Go.Canon
