/- CircChecks, part 4: the canonical machine and the runs of the program's functions on it. No conditions. -/
import Derived.Test.YtpbamjaldnhamaaCkP3
namespace Go.Canon
open Go Go.Proofs
set_option linter.unusedVariables false
set_option linter.unusedSimpArgs false
def kf91 : KFunc := ⟨1, 17, [.cell 2 (some 12)], .seq (.reg [⟨some 1, .box (.t 0), none⟩, ⟨some 2, .new [.bool false, .bool false, .bool false, .bool false, .bool false, .bool false, .bool false, .bool false, .bool false, .bool false, .bool false, .bool false], none⟩] []) (.seq (.reg [⟨some 3, .new [.bool false, .bool false, .bool false, .bool false, .bool false, .bool false, .bool false, .bool false, .bool false, .bool false, .bool false, .bool false], none⟩] []) (.seq (.seq (.reg [⟨some 6, .fa (.t 1) 1, none⟩, ⟨some 7, .ld (.t 6) none, none⟩, ⟨some 8, .len (.t 7), none⟩, ⟨some 9, .mv (.c (.int .i64 0)), none⟩] []) (.block 0 (.loop (.seq (.reg [⟨some 10, .bin .lss (.t 9) (.t 8), none⟩] []) (.seq (.cond (.t 10) .skip (.exit 0)) (.seq (.block 1 (.seq (.reg [⟨some 11, .iaS (.t 7) (.t 9) 1, none⟩, ⟨some 12, .ld (.t 11) none, none⟩, ⟨some 5, .mv (.t 12), none⟩] []) (.reg [⟨some 13, .mv (.t 5), none⟩, ⟨some 14, .iaA (.t 3) (.t 13) 12 1, none⟩, ⟨none, .st (.t 14) (.c (.bool true)) 1, none⟩] []))) (.reg [⟨some 15, .bin .add (.t 9) (.c (.int .i64 1)), none⟩, ⟨some 9, .mv (.t 15), none⟩] []))))))) (.seq (.reg [⟨some 16, .ld (.t 3) (some 12), none⟩, ⟨none, .st (.t 2) (.t 16) 12, none⟩] []) .ret)))⟩
theorem k91 : tab Try.prog 91 = some kf91 := by kernel_rfl
def kf105 : KFunc := ⟨2, 21, [.cell 4 (some 12)], .seq (.reg [⟨some 2, .box (.t 0), none⟩, ⟨some 3, .box (.t 1), none⟩, ⟨some 4, .new [.bool false, .bool false, .bool false, .bool false, .bool false, .bool false, .bool false, .bool false, .bool false, .bool false, .bool false, .bool false], none⟩] []) (.seq (.seq (.reg [⟨some 6, .mv (.c (.int .i64 0)), none⟩] []) (.block 0 (.loop (.seq (.reg [⟨some 7, .bin .lss (.t 6) (.c (.int .i64 12)), none⟩] []) (.seq (.cond (.t 7) .skip (.exit 0)) (.seq (.block 1 (.seq (.reg [⟨some 8, .mv (.t 6), none⟩, ⟨some 5, .mv (.t 8), none⟩] []) (.reg [⟨some 9, .mv (.t 5), none⟩, ⟨some 10, .mv (.t 5), none⟩, ⟨some 11, .iaA (.t 2) (.t 10) 12 1, none⟩, ⟨some 12, .ld (.t 11) none, none⟩, ⟨some 13, .mv (.t 12), none⟩, ⟨some 14, .mv (.t 5), some (13, true)⟩, ⟨some 15, .iaA (.t 3) (.t 14) 12 1, some (13, true)⟩, ⟨some 16, .ld (.t 15) none, some (13, true)⟩, ⟨some 17, .pick (.t 13) (.t 16) (.c (.bool false)), none⟩, ⟨some 18, .iaA (.t 2) (.t 9) 12 1, none⟩, ⟨none, .st (.t 18) (.t 17) 1, none⟩] []))) (.reg [⟨some 19, .bin .add (.t 6) (.c (.int .i64 1)), none⟩, ⟨some 6, .mv (.t 19), none⟩] []))))))) (.seq (.reg [⟨some 20, .ld (.t 2) (some 12), none⟩, ⟨none, .st (.t 4) (.t 20) 12, none⟩] []) .ret))⟩
theorem k105 : tab Try.prog 105 = some kf105 := by kernel_rfl
def kf88 : KFunc := ⟨2, 22, [.tmp 4], .seq (.reg [⟨some 2, .box (.t 0), none⟩, ⟨some 3, .box (.t 1), none⟩, ⟨some 4, .mv (.c (.bool false)), none⟩] []) (.seq (.reg [⟨some 5, .ld (.t 2) (some 4), none⟩, ⟨some 6, .call (.c (.func (.func 91) #[] #[])) [.t 5], none⟩, ⟨some 7, .ld (.t 3) (some 4), none⟩, ⟨some 8, .call (.c (.func (.func 91) #[] #[])) [.t 7], none⟩, ⟨some 9, .call (.c (.func (.func 105) #[] #[])) [.t 6, .t 8], none⟩, ⟨some 10, .mk [.bool false, .bool false, .bool false, .bool false, .bool false, .bool false, .bool false, .bool false, .bool false, .bool false, .bool false, .bool false] [], none⟩, ⟨some 11, .eqA true [0, 0, 0, 0, 0, 0, 0, 0, 0, 0, 0, 0] (.t 9) (.t 10), none⟩, ⟨some 12, .mv (.t 11), none⟩, ⟨some 13, .ld (.t 2) (some 4), some (12, false)⟩, ⟨some 14, .ld (.t 3) (some 4), some (12, false)⟩, ⟨some 15, .call (.c (.func (.func 89) #[] #[])) [.t 13, .t 14], some (12, false)⟩, ⟨some 16, .pick (.t 12) (.c (.bool true)) (.t 15), none⟩, ⟨some 17, .mv (.t 16), none⟩, ⟨some 18, .ld (.t 3) (some 4), some (17, false)⟩, ⟨some 19, .ld (.t 2) (some 4), some (17, false)⟩, ⟨some 20, .call (.c (.func (.func 89) #[] #[])) [.t 18, .t 19], some (17, false)⟩, ⟨some 21, .pick (.t 17) (.c (.bool true)) (.t 20), none⟩, ⟨some 4, .mv (.t 21), none⟩] [(1, 2)]) .ret)⟩
theorem k88 : tab Try.prog 88 = some kf88 := by kernel_rfl
def kf64 : KFunc := ⟨2, 68, [.tmp 4], .seq (.reg [⟨some 2, .box (.t 0), none⟩, ⟨some 3, .box (.t 1), none⟩, ⟨some 4, .mv (.c (.bool false)), none⟩] []) (.seq (.seq (.reg [⟨some 9, .ld (.t 2) (some 4), none⟩, ⟨some 10, .ld (.t 3) (some 4), none⟩, ⟨some 11, .call (.c (.func (.func 88) #[] #[])) [.t 9, .t 10], none⟩, ⟨some 12, .not (.t 11), none⟩] []) (.cond (.t 12) (.seq (.reg [⟨some 4, .mv (.c (.bool true)), none⟩] []) .ret) .skip)) (.seq (.seq (.reg [⟨some 13, .ld (.t 2) (some 4), none⟩, ⟨some 14, .ld (.t 3) (some 4), none⟩, ⟨some 15, .call (.c (.func (.func 89) #[] #[])) [.t 13, .t 14], none⟩, ⟨some 16, .mv (.t 15), none⟩, ⟨some 17, .ld (.t 3) (some 4), some (16, false)⟩, ⟨some 18, .ld (.t 2) (some 4), some (16, false)⟩, ⟨some 19, .call (.c (.func (.func 89) #[] #[])) [.t 17, .t 18], some (16, false)⟩, ⟨some 20, .pick (.t 16) (.c (.bool true)) (.t 19), none⟩] []) (.cond (.t 20) (.seq (.reg [⟨some 4, .mv (.c (.bool false)), none⟩] []) .ret) .skip)) (.seq (.reg [⟨some 5, .mv (.c (.func (.func 90) #[] #[])), none⟩] []) (.seq (.seq (.reg [⟨some 21, .mv (.t 5), none⟩, ⟨some 22, .ld (.t 2) (some 4), none⟩, ⟨some 23, .ld (.t 3) (some 4), none⟩, ⟨some 24, .call (.t 21) [.t 22, .t 23], none⟩, ⟨some 25, .mv (.t 24), none⟩, ⟨some 26, .mv (.t 5), some (25, false)⟩, ⟨some 27, .ld (.t 3) (some 4), some (25, false)⟩, ⟨some 28, .ld (.t 2) (some 4), some (25, false)⟩, ⟨some 29, .call (.t 26) [.t 27, .t 28], some (25, false)⟩, ⟨some 30, .pick (.t 25) (.c (.bool true)) (.t 29), none⟩, ⟨some 31, .mv (.t 30), none⟩, ⟨some 32, .ld (.t 2) (some 4), some (31, true)⟩, ⟨some 33, .call (.c (.func (.func 91) #[] #[])) [.t 32], some (31, true)⟩, ⟨some 34, .ld (.t 3) (some 4), some (31, true)⟩, ⟨some 35, .call (.c (.func (.func 91) #[] #[])) [.t 34], some (31, true)⟩, ⟨some 36, .eqA false [0, 0, 0, 0, 0, 0, 0, 0, 0, 0, 0, 0] (.t 33) (.t 35), some (31, true)⟩, ⟨some 37, .pick (.t 31) (.t 36) (.c (.bool false)), none⟩] [(12, 13)]) (.cond (.t 37) (.seq (.reg [⟨some 4, .mv (.c (.bool true)), none⟩] []) .ret) .skip)) (.seq (.seq (.reg [⟨some 38, .fa (.t 2) 1, none⟩, ⟨some 39, .ld (.t 38) none, none⟩, ⟨some 40, .len (.t 39), none⟩, ⟨some 41, .mv (.c (.int .i64 0)), none⟩] []) (.block 0 (.loop (.seq (.reg [⟨some 42, .bin .lss (.t 41) (.t 40), none⟩] []) (.seq (.cond (.t 42) .skip (.exit 0)) (.seq (.block 1 (.seq (.reg [⟨some 43, .mv (.t 41), none⟩, ⟨some 44, .iaS (.t 39) (.t 41) 1, none⟩, ⟨some 45, .ld (.t 44) none, none⟩, ⟨some 6, .mv (.t 43), none⟩, ⟨some 7, .mv (.t 45), none⟩] []) (.seq (.reg [⟨some 46, .fa (.t 3) 1, none⟩, ⟨some 47, .ld (.t 46) none, none⟩, ⟨some 48, .mv (.t 7), none⟩, ⟨some 49, .call (.c (.func (.func 92) #[] #[])) [.t 47, .t 48], none⟩, ⟨some 8, .mv (.t 49), none⟩] []) (.seq (.reg [⟨some 50, .mv (.t 8), none⟩, ⟨some 51, .bin .geq (.t 50) (.c (.int .i64 0)), none⟩, ⟨some 52, .mv (.t 51), none⟩, ⟨some 53, .ld (.t 2) (some 4), some (52, true)⟩, ⟨some 54, .mv (.t 6), some (52, true)⟩, ⟨some 55, .call (.c (.func (.func 93) #[] #[])) [.t 53, .t 54], some (52, true)⟩, ⟨some 56, .bin .eql (.t 55) (.c (.int .i64 0)), some (52, true)⟩, ⟨some 57, .mv (.t 56), some (52, true)⟩, ⟨some 58, .ld (.t 2) (some 4), some (57, false)⟩, ⟨some 59, .mv (.t 6), some (57, false)⟩, ⟨some 60, .call (.c (.func (.func 93) #[] #[])) [.t 58, .t 59], some (57, false)⟩, ⟨some 61, .ld (.t 3) (some 4), some (57, false)⟩, ⟨some 62, .mv (.t 8), some (57, false)⟩, ⟨some 63, .call (.c (.func (.func 93) #[] #[])) [.t 61, .t 62], some (57, false)⟩, ⟨some 64, .bin .neq (.t 60) (.t 63), some (57, false)⟩, ⟨some 65, .pick (.t 57) (.c (.bool true)) (.t 64), some (52, true)⟩, ⟨some 66, .pick (.t 52) (.t 65) (.c (.bool false)), none⟩] [(10, 11)]) (.cond (.t 66) (.seq (.reg [⟨some 4, .mv (.c (.bool false)), none⟩] []) .ret) .skip))))) (.reg [⟨some 67, .bin .add (.t 41) (.c (.int .i64 1)), none⟩, ⟨some 41, .mv (.t 67), none⟩] []))))))) (.seq (.reg [⟨some 4, .mv (.c (.bool true)), none⟩] []) .ret))))))⟩
theorem k64 : tab Try.prog 64 = some kf64 := by kernel_rfl
def ofM (ws : List Int) : Nat → Bool := fun i => decide ((i : Int) ∈ ws)
theorem of_next {l : List Int} {j k : Nat} (hj : j < l.length) (e : l[j] = (k : Int)) : ∀ i, i < 12 → (fun i => if i = k then true else ofM (l.take j) i) i = ofM (l.take (j + 1)) i := by
  intro i _
  simp only [ofM]
  rw [List.take_succ_eq_append_getElem hj, e]
  by_cases h : i = k
  · subst h; simp
  · have : ¬ (i : Int) = (k : Int) := by omega
    simp [h, this]
theorem heap3 {H : Heap} {r0 r1 : CO} {f g : Nat → Bool} (e : ∀ i, i < 12 → f i = g i) : H ++ [r0, r1, .row (bl f) true none] = H ++ [r0, r1, .row (bl g) true none] := by rw [bl_ext e]
theorem of_ret (H : Heap) (g : G) (p : Pl) {S : Nat → Prop} (hv : Ints S H p g.ws) (hg : GR g) : Ret (tab Try.prog) 91 [gv g p] H (.agg (bl (ofM g.ws)).toArray) H := by
  have hl := hg.len
  refine Ret_own k91 rfl ?_
  refine AX_seq (AX_E (E_boxA rfl (E_new (E_nil (AX_seq (AX_E (E_new (E_nil (AX_seq (AX_seq (AX_E (E_fa rfl (E_ldO (k := 0) (v := .slice _ _ _) rfl rfl (E_len (n := (g.ws).length) rfl (E_mv (v := .int .i64 (0)) rfl (E_nil (AX_block ?_)))))))))))))))))
  refine AX_loopF (γ := Nat) (fun j => [(2, .pointer (some ⟨(H).length + 1, 0, none⟩)), (3, .pointer (some ⟨(H).length + 2, 0, none⟩)), (7, .slice (p).1 (g.ws).length (p).2), (8, .int .i64 ((g.ws).length)), (9, .int .i64 ((j : Int)))]) (fun j h_ m_ => h_ = H ++ [CO.row [.int .i64 (g.k), .slice (p).1 (g.ws).length (p).2, .int .i64 (g.b), .int .i64 (g.f)] true none, CO.row [.bool false, .bool false, .bool false, .bool false, .bool false, .bool false, .bool false, .bool false, .bool false, .bool false, .bool false, .bool false] true none, CO.row (bl (ofM (g.ws.take j))) true none] ∧ m_ = [] ∧ j ≤ g.ws.length) (fun j => g.ws.length - j) (0) ⟨rfl, rfl, rfl, rfl, rfl, trivial⟩ ⟨heap3 (f := fun _ => false) (g := ofM (g.ws.take 0)) (by simp [ofM]), rfl, ?_⟩ ?_
  · simp
  rintro j fr0 h0 m0 ⟨rfl, rfl, inv0⟩ K0 hN0 hR0 hE0
  refine AX_seq (AX_E (E_lssS rfl rfl (fun c10 => ?_) (fun c10 => ?_)))
  · refine E_nil (AX_seq (AX_condT rfl (AX_skip (AX_seq (AX_block (AX_seq (AX_E (have ix1 : j < (g.ws).length := (by first | omega | (simp; done) | (simp; omega)); E_iaIb (j := j) rfl hv rfl rfl rfl ix1 fun b1 o1 w1 => (E_ldB (v := .int .i64 (g.ws[j]'ix1)) rfl w1 (E_mv (v := .int .i64 (g.ws[j]'ix1)) rfl (E_nil (AX_E (E_mv (v := .int .i64 (g.ws[j]'ix1)) rfl (E_iaA (j := (g.ws[j]'ix1).toNat) rfl rfl (by have := hg.rng _ (List.getElem_mem (l := g.ws) (n := j) (by omega)); omega) (by have := hg.rng _ (List.getElem_mem (l := g.ws) (n := j) (by omega)); omega) (E_stO (k := 2) rfl rfl (v := .bool _) rfl rfl rfl (bl_set (f := ofM (g.ws.take j)) (j := (g.ws[j]'ix1).toNat) rfl (by have := hg.rng _ (List.getElem_mem (l := g.ws) (n := j) (by omega)); omega)) (E_nil (AX_E (E_addI rfl rfl (by first | omega | (simp; done) | (simp; omega)) (by first | omega | (simp; done) | (simp; omega)) (E_mv (v := .int .i64 (((j : Int) + 1))) rfl (E_nil ?_))))))))))))))))))))
    refine hN0 (j + 1) _ _ _ ⟨by first | rfl | (congr 1; omega), by first | rfl | (congr 1; omega), by first | rfl | (congr 1; omega), by first | rfl | (congr 1; omega), by first | rfl | (congr 1; omega), trivial⟩ ⟨heap3 (of_next (by omega) (by have := hg.rng _ (List.getElem_mem (l := g.ws) (n := j) (by omega)); omega)), rfl, ?_⟩ ?_
    -- n1
    all_goals clear hN0 hR0 hE0
    · omega
    · (first | omega | (simp; omega))
  · refine E_nil (AX_seq (AX_condF rfl (AX_exit (hE0 _ _ _ _ ?_))))
    have e0 : g.ws.take j = g.ws := List.take_of_length_le (by omega)
    refine AX_seq (AX_E (E_ldON (k := 2) (cs := bl (ofM (g.ws.take j))) rfl rfl (E_stO (k := 1) (ob := .row (bl (ofM (g.ws.take j))) true none) rfl rfl (v := .agg _) rfl rfl rfl rfl (E_nil (AX_ret ?_)))))
    refine ⟨_, (res1 (res_cellN (k := 1) (cs := bl (ofM (g.ws.take j))) rfl rfl)), by simp, ?_, forget_flat rfl (List.prefix_append _ _)⟩
    -- r2
    clear hN0 hR0 hE0
    rw [e0]
theorem heap4 {H : Heap} {r1 r2 : CO} {f g : Nat → Bool} (e : ∀ i, i < 12 → f i = g i) : H ++ [.row (bl f) true none, r1, r2] = H ++ [.row (bl g) true none, r1, r2] := by rw [bl_ext e]
theorem both_next {u v : Nat → Bool} {j : Nat} {b : Bool} (e : b = (u j && v j)) : ∀ i, i < 12 → (fun i => if i = j then b else (fun i => if i < j then u i && v i else u i) i) i = (fun i => if i < j + 1 then u i && v i else u i) i := by
  intro i _
  simp only
  by_cases h : i = j
  · subst h; simp [e]
  · by_cases h2 : i < j
    · rw [if_neg h, if_pos h2, if_pos (by omega)]
    · rw [if_neg h, if_neg h2, if_neg (by omega)]
theorem both_ret (H : Heap) (u v : Nat → Bool) : Ret (tab Try.prog) 105 [.agg (bl u).toArray, .agg (bl v).toArray] H (.agg (bl fun i => u i && v i).toArray) H := by
  refine Ret_own k105 rfl ?_
  refine AX_seq (AX_E (E_boxA rfl (E_boxA rfl (E_new (E_nil (AX_seq (AX_seq (AX_E (E_mv (v := .int .i64 (0)) rfl (E_nil (AX_block ?_)))))))))))
  refine AX_loopF (γ := Nat) (fun j => [(2, .pointer (some ⟨(H).length + 0, 0, none⟩)), (3, .pointer (some ⟨(H).length + 1, 0, none⟩)), (4, .pointer (some ⟨(H).length + 2, 0, none⟩)), (6, .int .i64 ((j : Int)))]) (fun j h_ m_ => h_ = H ++ [CO.row (bl (fun i => if i < j then u i && v i else u i)) true none, CO.row (bl (v)) true none, CO.row [.bool false, .bool false, .bool false, .bool false, .bool false, .bool false, .bool false, .bool false, .bool false, .bool false, .bool false, .bool false] true none] ∧ m_ = [] ∧ j ≤ 12) (fun j => 12 - j) (0) ⟨rfl, rfl, rfl, rfl, trivial⟩ ⟨heap4 (f := u) (g := fun i => if i < 0 then u i && v i else u i) (fun i _ => (if_neg (Nat.not_lt_zero i)).symm), rfl, ?_⟩ ?_
  · simp
  rintro j fr0 h0 m0 ⟨rfl, rfl, inv0⟩ K0 hN0 hR0 hE0
  refine AX_seq (AX_E (E_lssS rfl rfl (fun c7 => ?_) (fun c7 => ?_)))
  · refine E_nil (AX_seq (AX_condT rfl (AX_skip (AX_seq (AX_block (AX_seq (AX_E (E_mv (v := .int .i64 ((j : Int))) rfl (E_mv (v := .int .i64 ((j : Int))) rfl (E_nil (AX_E (E_mv (v := .int .i64 ((j : Int))) rfl (E_mv (v := .int .i64 ((j : Int))) rfl (E_iaA (j := j) rfl rfl rfl (by first | omega | (simp; done) | (simp; omega)) (E_ldO (k := 0) (v := .bool ((fun i => if i < j then u i && v i else u i) j)) rfl (bl_get (f := fun i => if i < j then u i && v i else u i) (j := j) rfl (by first | omega | (simp; done) | (simp; omega))) (E_bs (fun c12 => ?_) (fun c12 => ?_)))))))))))))))))
    · refine E_mv (v := .bool _) rfl (E_on rfl (E_mv (v := .int .i64 ((j : Int))) rfl (E_on rfl (E_iaA (j := j) rfl rfl rfl (by first | omega | (simp; done) | (simp; omega)) (E_on rfl (E_ldO (k := 1) (v := .bool ((v) j)) rfl (bl_get (f := v) (j := j) rfl (by first | omega | (simp; done) | (simp; omega))) (E_pickT rfl (v := .bool _) rfl (E_iaA (j := j) rfl rfl rfl (by first | omega | (simp; done) | (simp; omega)) (E_stO (k := 0) rfl rfl (v := .bool _) rfl rfl rfl (bl_set (f := fun i => if i < j then u i && v i else u i) (j := j) rfl (by first | omega | (simp; done) | (simp; omega))) (E_nil (AX_E (E_addI rfl rfl (by first | omega | (simp; done) | (simp; omega)) (by first | omega | (simp; done) | (simp; omega)) (E_mv (v := .int .i64 (((j : Int) + 1))) rfl (E_nil ?_))))))))))))))
      refine hN0 (j + 1) _ _ _ ⟨by first | rfl | (congr 1; omega), by first | rfl | (congr 1; omega), by first | rfl | (congr 1; omega), by first | rfl | (congr 1; omega), trivial⟩ ⟨heap4 (both_next (by simp_all)), rfl, ?_⟩ ?_
      -- n1
      all_goals clear hN0 hR0 hE0
      · omega
      · (first | omega | (simp; omega))
    · refine E_mv (v := .bool _) rfl (E_notT rfl (E_notT rfl (E_notT rfl (E_pickF rfl (v := .bool _) rfl (E_iaA (j := j) rfl rfl rfl (by first | omega | (simp; done) | (simp; omega)) (E_stO (k := 0) rfl rfl (v := .bool _) rfl rfl rfl (bl_set (f := fun i => if i < j then u i && v i else u i) (j := j) rfl (by first | omega | (simp; done) | (simp; omega))) (E_nil (AX_E (E_addI rfl rfl (by first | omega | (simp; done) | (simp; omega)) (by first | omega | (simp; done) | (simp; omega)) (E_mv (v := .int .i64 (((j : Int) + 1))) rfl (E_nil ?_)))))))))))
      refine hN0 (j + 1) _ _ _ ⟨by first | rfl | (congr 1; omega), by first | rfl | (congr 1; omega), by first | rfl | (congr 1; omega), by first | rfl | (congr 1; omega), trivial⟩ ⟨heap4 (both_next (by simp_all)), rfl, ?_⟩ ?_
      -- n2
      all_goals clear hN0 hR0 hE0
      · omega
      · (first | omega | (simp; omega))
  · refine E_nil (AX_seq (AX_condF rfl (AX_exit (hE0 _ _ _ _ (AX_seq (AX_E (E_ldON (k := 0) (cs := bl (fun i => if i < j then u i && v i else u i)) rfl rfl (E_stO (k := 2) (ob := .row (bl (fun i => if i < j then u i && v i else u i)) true none) rfl rfl (v := .agg _) rfl rfl rfl rfl (E_nil (AX_ret ?_))))))))))
    refine ⟨_, (res1 (res_cellN (k := 2) (cs := bl (fun i => if i < j then u i && v i else u i)) rfl rfl)), by simp, ?_, forget_flat rfl (List.prefix_append _ _)⟩
    -- r3
    clear hN0 hR0 hE0
    show Value.agg (bl _).toArray = Value.agg (bl _).toArray
    rw [bl_ext (g := fun i => u i && v i) (fun i hi => if_pos (by omega))]
theorem gr_nat {g : G} (hg : GR g) {x : Int} (hx : x ∈ g.ws) : ∃ i : Nat, i < 12 ∧ x = (i : Int) := ⟨x.toNat, by have := hg.rng x hx; omega, by have := hg.rng x hx; omega⟩
theorem pmeet_iff {g h : G} (hg : GR g) (hh : GR h) : ((¬ ∀ i, i < 12 → (ofM g.ws i && ofM h.ws i) = false) ∨ ptouchM g h ∨ ptouchM h g) ↔ meetM g h := by
  have h1 : (¬ ∀ i, i < 12 → (ofM g.ws i && ofM h.ws i) = false) ↔ ∃ x ∈ g.ws, x ∈ h.ws := by
    constructor
    · intro H
      refine Decidable.byContradiction fun hn => H fun i hi => ?_
      simp only [ofM, Bool.and_eq_false_iff, decide_eq_false_iff_not]
      by_cases ha : (i : Int) ∈ g.ws
      · exact .inr fun hb => hn ⟨_, ha, hb⟩
      · exact .inl ha
    · rintro ⟨x, hx, hy⟩ H
      obtain ⟨i, hi, rfl⟩ := gr_nat hg hx
      have := H i hi
      simp [ofM, hx, hy] at this
  have b1 := hg.b0
  have b2 := hh.b0
  rw [h1]
  unfold meetM touchM ptouchM
  constructor
  · rintro (h | h | h)
    · exact .inl h
    · right; omega
    · right; omega
  · rintro (h | h)
    · exact .inl h
    · right; omega
theorem pmeet_ret (H : Heap) (g h : G) (p q : Pl) {S S' : Nat → Prop} (hv : Ints S H p g.ws) (hu : Ints S' H q h.ws) (hg : GR g) (hh : GR h) : Ret (tab Try.prog) 88 [gv g p, gv h q] H (.bool (decide (meetM g h))) H := by
  refine Ret_own k88 rfl ?_
  refine AX_seq (AX_E (E_boxA rfl (E_boxA rfl (E_mv (v := .bool _) rfl (E_nil (AX_seq (AX_E (E_ldON (k := 0) rfl rfl (E_callV rfl (of_ret _ g _ hv.app (by assumption)) (E_ldON (k := 1) rfl rfl (E_callV rfl (of_ret _ h _ hu.app (by assumption)) (E_callV rfl (both_ret _ (ofM g.ws) (ofM h.ws)) (E_mk (cs := [.bool false, .bool false, .bool false, .bool false, .bool false, .bool false, .bool false, .bool false, .bool false, .bool false, .bool false, .bool false]) rfl (E_eqAP rfl rfl (bl_eq (f := fun i => (ofM g.ws) i && (ofM h.ws) i) (g := fun _ => false)) (fun c11 => ?_) (fun c11 => ?_)))))))))))))))
  · refine E_mv (v := .bool _) rfl (E_on rfl (E_ldON (k := 0) rfl rfl (E_on rfl (E_ldON (k := 1) rfl rfl (E_on rfl (E_callP rfl (ptouch_ret _ g h _ _ (by assumption)) (fun c15 => ?_) (fun c15 => ?_)))))))
    · refine E_pickF rfl (v := .bool _) rfl (E_mv (v := .bool _) rfl (E_notF rfl (E_notF rfl (E_notF rfl (E_pickT rfl (v := .bool _) rfl (E_mv (v := .bool _) rfl (E_nil (AX_ret ?_))))))))
      refine ⟨_, rfl, by simp, ?_, forget_flat rfl (List.prefix_append _ _)⟩
      refine congrArg (Value.bool) ?_
      refine (decide_eq_true ?_).symm
      rw [← pmeet_iff hg hh]
      first | exact .inl c11 | exact .inr (.inl c15) | exact .inr (.inr c20) | exact fun x => x.elim (fun y => y c11) fun y => y.elim c15 c20
    · refine E_pickF rfl (v := .bool _) rfl (E_mv (v := .bool _) rfl (E_on rfl (E_ldON (k := 1) rfl rfl (E_on rfl (E_ldON (k := 0) rfl rfl (E_on rfl (E_callP rfl (ptouch_ret _ h g _ _ (by assumption)) (fun c20 => ?_) (fun c20 => ?_))))))))
      · refine E_pickF rfl (v := .bool _) rfl (E_mv (v := .bool _) rfl (E_nil (AX_ret ?_)))
        refine ⟨_, rfl, by simp, ?_, forget_flat rfl (List.prefix_append _ _)⟩
        refine congrArg (Value.bool) ?_
        refine (decide_eq_true ?_).symm
        rw [← pmeet_iff hg hh]
        first | exact .inl c11 | exact .inr (.inl c15) | exact .inr (.inr c20) | exact fun x => x.elim (fun y => y c11) fun y => y.elim c15 c20
      · refine E_pickF rfl (v := .bool _) rfl (E_mv (v := .bool _) rfl (E_nil (AX_ret ?_)))
        refine ⟨_, rfl, by simp, ?_, forget_flat rfl (List.prefix_append _ _)⟩
        refine congrArg (Value.bool) ?_
        refine (decide_eq_false ?_).symm
        rw [← pmeet_iff hg hh]
        first | exact .inl c11 | exact .inr (.inl c15) | exact .inr (.inr c20) | exact fun x => x.elim (fun y => y c11) fun y => y.elim c15 c20
  · refine E_mv (v := .bool _) rfl (E_notF rfl (E_notF rfl (E_notF rfl (E_pickT rfl (v := .bool _) rfl (E_mv (v := .bool _) rfl (E_notF rfl (E_notF rfl (E_notF rfl (E_pickT rfl (v := .bool _) rfl (E_mv (v := .bool _) rfl (E_nil (AX_ret ?_))))))))))))
    refine ⟨_, rfl, by simp, ?_, forget_flat rfl (List.prefix_append _ _)⟩
    refine congrArg (Value.bool) ?_
    refine (decide_eq_true ?_).symm
    rw [← pmeet_iff hg hh]
    first | exact .inl c11 | exact .inr (.inl c15) | exact .inr (.inr c20) | exact fun x => x.elim (fun y => y c11) fun y => y.elim c15 c20
def pcommM (g h : G) : Prop := ¬ meetM g h ∨ ¬ (ptouchM g h ∨ ptouchM h g) ∧ ((swapsM g h ∨ swapsM h g) ∧ (∀ i, i < 12 → ofM g.ws i = ofM h.ws i) ∨ ∀ j (hj : j < g.ws.length), 0 ≤ idxM h.ws g.ws[j] → paxisM g j ≠ 0 ∧ paxisM g j = paxisM h (idxM h.ws g.ws[j]))
open Classical in
theorem pcomm_ret0 (H : Heap) (g h : G) (p q : Pl) {S S' : Nat → Prop} (hv : Ints S H p g.ws) (hu : Ints S' H q h.ws) (hg : GR g) (hh : GR h) : Ret (tab Try.prog) 64 [gv g p, gv h q] H (.bool (decide (pcommM g h))) H := by
  have l1 := hg.len
  have l2 := hh.len
  refine Ret_own k64 rfl ?_
  refine AX_seq (AX_E (E_boxA rfl (E_boxA rfl (E_mv (v := .bool _) rfl (E_nil (AX_seq (AX_seq (AX_E (E_ldON (k := 0) rfl rfl (E_ldON (k := 1) rfl rfl (E_callP rfl (pmeet_ret _ g h _ _ hv.app hu.app (by assumption) (by assumption)) (fun c11 => ?_) (fun c11 => ?_))))))))))))
  · refine E_notV rfl rfl (E_nil (AX_condF rfl (AX_skip ?_)))
    refine AX_cut (X := Unit) (fun _ => [(2, .pointer (some ⟨(H).length + 0, 0, none⟩)), (3, .pointer (some ⟨(H).length + 1, 0, none⟩))]) (fun _ h_ m_ => h_ = H ++ [CO.row [.int .i64 (g.k), .slice (p).1 (g.ws).length (p).2, .int .i64 (g.b), .int .i64 (g.f)] true none, CO.row [.int .i64 (h.k), .slice (q).1 (h.ws).length (q).2, .int .i64 (h.b), .int .i64 (h.f)] true none] ∧ m_ = [] ∧ ¬ (ptouchM g h ∨ ptouchM h g)) ?_ ?_
    · intro Kc20 hNc20 hRc20 hEc20
      refine AX_seq (AX_E (E_ldON (k := 0) rfl rfl (E_ldON (k := 1) rfl rfl (E_callP rfl (ptouch_ret _ g h _ _ (by assumption)) (fun c15 => ?_) (fun c15 => ?_)))))
      · refine E_mv (v := .bool _) rfl (E_notF rfl (E_notF rfl (E_notF rfl (E_pickT rfl (v := .bool _) rfl (E_nil (AX_condT rfl (AX_seq (AX_E (E_mv (v := .bool _) rfl (E_nil (AX_ret (hRc20 _ _ _ ?_))))))))))))
        refine ⟨_, rfl, by simp, ?_, forget_flat rfl (List.prefix_append _ _)⟩
        -- r1
        clear hNc20 hRc20 hEc20
        refine congrArg (Value.bool) ?_
        refine (decide_eq_false ?_).symm
        first | exact .inl c11 | exact fun x => x.elim (fun y => y c11) (fun y => y.1 (.inl c15)) | exact fun x => x.elim (fun y => y c11) (fun y => y.1 (.inr c19)) | exact .inr ⟨invc20, .inl ⟨.inl c24, c36⟩⟩ | exact .inr ⟨invc20, .inl ⟨.inr c29, c36⟩⟩ | exact fun x => x.elim (fun y => y c11) (fun y => y.2.elim invc37 fun z => (z j (by omega) c51).1 c56) | exact fun x => x.elim (fun y => y c11) (fun y => y.2.elim invc37 fun z => c64 (z j (by omega) c51).2) | exact .inr ⟨invc20, .inr fun i hi => inv0.2 i hi (by omega)⟩
      · refine E_mv (v := .bool _) rfl (E_on rfl (E_ldON (k := 1) rfl rfl (E_on rfl (E_ldON (k := 0) rfl rfl (E_on rfl (E_callP rfl (ptouch_ret _ h g _ _ (by assumption)) (fun c19 => ?_) (fun c19 => ?_)))))))
        · refine E_pickF rfl (v := .bool _) rfl (E_nil (AX_condT rfl (AX_seq (AX_E (E_mv (v := .bool _) rfl (E_nil (AX_ret (hRc20 _ _ _ ?_))))))))
          refine ⟨_, rfl, by simp, ?_, forget_flat rfl (List.prefix_append _ _)⟩
          -- r2
          clear hNc20 hRc20 hEc20
          refine congrArg (Value.bool) ?_
          refine (decide_eq_false ?_).symm
          first | exact .inl c11 | exact fun x => x.elim (fun y => y c11) (fun y => y.1 (.inl c15)) | exact fun x => x.elim (fun y => y c11) (fun y => y.1 (.inr c19)) | exact .inr ⟨invc20, .inl ⟨.inl c24, c36⟩⟩ | exact .inr ⟨invc20, .inl ⟨.inr c29, c36⟩⟩ | exact fun x => x.elim (fun y => y c11) (fun y => y.2.elim invc37 fun z => (z j (by omega) c51).1 c56) | exact fun x => x.elim (fun y => y c11) (fun y => y.2.elim invc37 fun z => c64 (z j (by omega) c51).2) | exact .inr ⟨invc20, .inr fun i hi => inv0.2 i hi (by omega)⟩
        · refine E_pickF rfl (v := .bool _) rfl (E_nil (AX_condF rfl (AX_skip ?_)))
          refine hNc20 (()) _ _ _ ⟨by first | rfl | (congr 1; omega), by first | rfl | (congr 1; omega), trivial⟩ ⟨rfl, rfl, ?_⟩
          -- u3
          clear hNc20 hRc20 hEc20
          exact fun x => x.elim c15 c19
    rintro ⟨⟩ frc20 hc20 mc20 ⟨rfl, rfl, invc20⟩
    refine AX_seq (AX_E (E_mv (v := .func _ _ _) rfl (E_nil ?_)))
    refine AX_cut (X := Unit) (fun _ => [(2, .pointer (some ⟨(H).length + 0, 0, none⟩)), (3, .pointer (some ⟨(H).length + 1, 0, none⟩))]) (fun _ h_ m_ => h_ = H ++ [CO.row [.int .i64 (g.k), .slice (p).1 (g.ws).length (p).2, .int .i64 (g.b), .int .i64 (g.f)] true none, CO.row [.int .i64 (h.k), .slice (q).1 (h.ws).length (q).2, .int .i64 (h.b), .int .i64 (h.f)] true none] ∧ m_ = [] ∧ ¬ ((swapsM g h ∨ swapsM h g) ∧ (∀ i, i < 12 → ofM g.ws i = ofM h.ws i))) ?_ ?_
    · intro Kc37 hNc37 hRc37 hEc37
      refine AX_seq (AX_E (E_mv (v := .func _ _ _) rfl (E_ldON (k := 0) rfl rfl (E_ldON (k := 1) rfl rfl (E_callP rfl (swaps_ret _ g h _ _) (fun c24 => ?_) (fun c24 => ?_))))))
      · refine E_mv (v := .bool _) rfl (E_notF rfl (E_notF rfl (E_notF rfl (E_notF rfl (E_pickT rfl (v := .bool _) rfl (E_mv (v := .bool _) rfl (E_on rfl (E_ldON (k := 0) rfl rfl (E_on rfl (E_callV rfl (of_ret _ g _ hv.app (by assumption)) (E_on rfl (E_ldON (k := 1) rfl rfl (E_on rfl (E_callV rfl (of_ret _ h _ hu.app (by assumption)) (E_on rfl (E_eqAP rfl rfl (bl_eq (f := ofM g.ws) (g := ofM h.ws)) (fun c36 => ?_) (fun c36 => ?_)))))))))))))))))
        · refine E_pickT rfl (v := .bool _) rfl (E_nil (AX_condT rfl (AX_seq (AX_E (E_mv (v := .bool _) rfl (E_nil (AX_ret (hRc37 _ _ _ ?_))))))))
          refine ⟨_, rfl, by simp, ?_, forget_flat rfl (List.prefix_append _ _)⟩
          -- r4
          clear hNc37 hRc37 hEc37
          refine congrArg (Value.bool) ?_
          refine (decide_eq_true ?_).symm
          first | exact .inl c11 | exact fun x => x.elim (fun y => y c11) (fun y => y.1 (.inl c15)) | exact fun x => x.elim (fun y => y c11) (fun y => y.1 (.inr c19)) | exact .inr ⟨invc20, .inl ⟨.inl c24, c36⟩⟩ | exact .inr ⟨invc20, .inl ⟨.inr c29, c36⟩⟩ | exact fun x => x.elim (fun y => y c11) (fun y => y.2.elim invc37 fun z => (z j (by omega) c51).1 c56) | exact fun x => x.elim (fun y => y c11) (fun y => y.2.elim invc37 fun z => c64 (z j (by omega) c51).2) | exact .inr ⟨invc20, .inr fun i hi => inv0.2 i hi (by omega)⟩
        · refine E_pickT rfl (v := .bool _) rfl (E_nil (AX_condF rfl (AX_skip ?_)))
          refine hNc37 (()) _ _ _ ⟨by first | rfl | (congr 1; omega), by first | rfl | (congr 1; omega), trivial⟩ ⟨rfl, rfl, ?_⟩
          -- u5
          clear hNc37 hRc37 hEc37
          first | exact fun x => c36 x.2 | exact fun x => x.1.elim c24 c29
      · refine E_mv (v := .bool _) rfl (E_on rfl (E_mv (v := .func _ _ _) rfl (E_on rfl (E_ldON (k := 1) rfl rfl (E_on rfl (E_ldON (k := 0) rfl rfl (E_on rfl (E_callP rfl (swaps_ret _ h g _ _) (fun c29 => ?_) (fun c29 => ?_)))))))))
        · refine E_pickF rfl (v := .bool _) rfl (E_mv (v := .bool _) rfl (E_on rfl (E_ldON (k := 0) rfl rfl (E_on rfl (E_callV rfl (of_ret _ g _ hv.app (by assumption)) (E_on rfl (E_ldON (k := 1) rfl rfl (E_on rfl (E_callV rfl (of_ret _ h _ hu.app (by assumption)) (E_on rfl (E_eqAP rfl rfl (bl_eq (f := ofM g.ws) (g := ofM h.ws)) (fun c36 => ?_) (fun c36 => ?_))))))))))))
          · refine E_pickT rfl (v := .bool _) rfl (E_nil (AX_condT rfl (AX_seq (AX_E (E_mv (v := .bool _) rfl (E_nil (AX_ret (hRc37 _ _ _ ?_))))))))
            refine ⟨_, rfl, by simp, ?_, forget_flat rfl (List.prefix_append _ _)⟩
            -- r6
            clear hNc37 hRc37 hEc37
            refine congrArg (Value.bool) ?_
            refine (decide_eq_true ?_).symm
            first | exact .inl c11 | exact fun x => x.elim (fun y => y c11) (fun y => y.1 (.inl c15)) | exact fun x => x.elim (fun y => y c11) (fun y => y.1 (.inr c19)) | exact .inr ⟨invc20, .inl ⟨.inl c24, c36⟩⟩ | exact .inr ⟨invc20, .inl ⟨.inr c29, c36⟩⟩ | exact fun x => x.elim (fun y => y c11) (fun y => y.2.elim invc37 fun z => (z j (by omega) c51).1 c56) | exact fun x => x.elim (fun y => y c11) (fun y => y.2.elim invc37 fun z => c64 (z j (by omega) c51).2) | exact .inr ⟨invc20, .inr fun i hi => inv0.2 i hi (by omega)⟩
          · refine E_pickT rfl (v := .bool _) rfl (E_nil (AX_condF rfl (AX_skip ?_)))
            refine hNc37 (()) _ _ _ ⟨by first | rfl | (congr 1; omega), by first | rfl | (congr 1; omega), trivial⟩ ⟨rfl, rfl, ?_⟩
            -- u7
            clear hNc37 hRc37 hEc37
            first | exact fun x => c36 x.2 | exact fun x => x.1.elim c24 c29
        · refine E_pickF rfl (v := .bool _) rfl (E_mv (v := .bool _) rfl (E_notT rfl (E_notT rfl (E_notT rfl (E_notT rfl (E_notT rfl (E_pickF rfl (v := .bool _) rfl (E_nil (AX_condF rfl (AX_skip ?_))))))))))
          refine hNc37 (()) _ _ _ ⟨by first | rfl | (congr 1; omega), by first | rfl | (congr 1; omega), trivial⟩ ⟨rfl, rfl, ?_⟩
          -- u8
          clear hNc37 hRc37 hEc37
          first | exact fun x => c36 x.2 | exact fun x => x.1.elim c24 c29
    rintro ⟨⟩ frc37 hc37 mc37 ⟨rfl, rfl, invc37⟩
    refine AX_seq (AX_seq (AX_E (E_fa rfl (E_ldO (k := 0) (v := .slice _ _ _) rfl rfl (E_len (n := (g.ws).length) rfl (E_mv (v := .int .i64 (0)) rfl (E_nil (AX_block ?_))))))))
    refine AX_loopF (γ := Nat) (fun j => [(2, .pointer (some ⟨(H).length + 0, 0, none⟩)), (3, .pointer (some ⟨(H).length + 1, 0, none⟩)), (39, .slice (p).1 (g.ws).length (p).2), (40, .int .i64 ((g.ws).length)), (41, .int .i64 ((j : Int)))]) (fun j h_ m_ => h_ = H ++ [CO.row [.int .i64 (g.k), .slice (p).1 (g.ws).length (p).2, .int .i64 (g.b), .int .i64 (g.f)] true none, CO.row [.int .i64 (h.k), .slice (q).1 (h.ws).length (q).2, .int .i64 (h.b), .int .i64 (h.f)] true none] ∧ m_ = [] ∧ j ≤ g.ws.length ∧ ∀ i (hi : i < g.ws.length), i < j → 0 ≤ idxM h.ws g.ws[i] → paxisM g i ≠ 0 ∧ paxisM g i = paxisM h (idxM h.ws g.ws[i])) (fun j => g.ws.length - j) (0) ⟨rfl, rfl, rfl, rfl, rfl, trivial⟩ ⟨rfl, rfl, ?_⟩ ?_
    · simp
    rintro j fr0 h0 m0 ⟨rfl, rfl, inv0⟩ K0 hN0 hR0 hE0
    refine AX_seq (AX_E (E_lssS rfl rfl (fun c42 => ?_) (fun c42 => ?_)))
    · refine E_nil (AX_seq (AX_condT rfl (AX_skip ?_)))
      refine AX_cut (X := Unit) (fun _ => [(2, .pointer (some ⟨(H).length + 0, 0, none⟩)), (3, .pointer (some ⟨(H).length + 1, 0, none⟩)), (39, .slice (p).1 (g.ws).length (p).2), (40, .int .i64 ((g.ws).length)), (41, .int .i64 ((j : Int)))]) (fun _ h_ m_ => h_ = H ++ [CO.row [.int .i64 (g.k), .slice (p).1 (g.ws).length (p).2, .int .i64 (g.b), .int .i64 (g.f)] true none, CO.row [.int .i64 (h.k), .slice (q).1 (h.ws).length (q).2, .int .i64 (h.b), .int .i64 (h.f)] true none] ∧ m_ = [] ∧ (0 ≤ idxM h.ws g.ws[j] → paxisM g j ≠ 0 ∧ paxisM g j = paxisM h (idxM h.ws g.ws[j]))) ?_ ?_
      · intro Kc66 hNc66 hRc66 hEc66
        refine AX_block (AX_seq (AX_E (E_mv (v := .int .i64 ((j : Int))) rfl (have ix1 : j < (g.ws).length := (by first | omega | (simp; done) | (simp; omega)); E_iaIb (j := j) rfl hv rfl rfl rfl ix1 fun b1 o1 w1 => (E_ldB (v := .int .i64 (g.ws[j]'ix1)) rfl w1 (E_mv (v := .int .i64 ((j : Int))) rfl (E_mv (v := .int .i64 (g.ws[j]'ix1)) rfl (E_nil (AX_seq (AX_E (E_fa rfl (E_ldO (k := 1) (v := .slice _ _ _) rfl rfl (E_mv (v := .int .i64 (g.ws[j]'ix1)) rfl (E_callV rfl (index_ret _ _ _ _ hu.app (by first | omega | (simp; done) | (simp; omega))) (E_mv (v := .int .i64 (idxM (h.ws) (g.ws[j]'ix1))) rfl (E_nil (AX_seq (AX_E (E_mv (v := .int .i64 (idxM (h.ws) (g.ws[j]'ix1))) rfl (E_geqS rfl rfl (fun c51 => ?_) (fun c51 => ?_)))))))))))))))))))))
        · refine E_mv (v := .bool _) rfl (E_on rfl (E_ldON (k := 0) rfl rfl (E_on rfl (E_mv (v := .int .i64 ((j : Int))) rfl (E_on rfl (E_callV rfl (paxis_ret _ g _ _ (by assumption)) (E_on rfl (E_eqlS rfl rfl (fun c56 => ?_) (fun c56 => ?_)))))))))
          · refine E_on rfl (E_mv (v := .bool _) rfl (E_notF rfl (E_notF rfl (E_notF rfl (E_notF rfl (E_notF rfl (E_notF rfl (E_notF rfl (E_on rfl (E_pickT rfl (v := .bool _) rfl (E_pickT rfl (v := .bool _) rfl (E_nil (AX_condT rfl (AX_seq (AX_E (E_mv (v := .bool _) rfl (E_nil (AX_ret (hRc66 _ _ _ (hR0 _ _ _ ?_))))))))))))))))))))
            refine ⟨_, rfl, by simp, ?_, forget_flat rfl (List.prefix_append _ _)⟩
            -- r9
            clear hN0 hR0 hE0 hNc66 hRc66 hEc66
            refine congrArg (Value.bool) ?_
            refine (decide_eq_false ?_).symm
            first | exact .inl c11 | exact fun x => x.elim (fun y => y c11) (fun y => y.1 (.inl c15)) | exact fun x => x.elim (fun y => y c11) (fun y => y.1 (.inr c19)) | exact .inr ⟨invc20, .inl ⟨.inl c24, c36⟩⟩ | exact .inr ⟨invc20, .inl ⟨.inr c29, c36⟩⟩ | exact fun x => x.elim (fun y => y c11) (fun y => y.2.elim invc37 fun z => (z j (by omega) c51).1 c56) | exact fun x => x.elim (fun y => y c11) (fun y => y.2.elim invc37 fun z => c64 (z j (by omega) c51).2) | exact .inr ⟨invc20, .inr fun i hi => inv0.2 i hi (by omega)⟩
          · refine E_on rfl (E_mv (v := .bool _) rfl (E_on rfl (E_ldON (k := 0) rfl rfl (E_on rfl (E_mv (v := .int .i64 ((j : Int))) rfl (E_on rfl (E_callV rfl (paxis_ret _ g _ _ (by assumption)) (E_on rfl (E_ldON (k := 1) rfl rfl (E_on rfl (E_mv (v := .int .i64 (idxM (h.ws) (g.ws[j]'ix1))) rfl (E_on rfl (E_callV rfl (paxis_ret _ h _ _ (by assumption)) (E_on rfl (E_neqS rfl rfl (fun c64 => ?_) (fun c64 => ?_))))))))))))))))
            · refine E_on rfl (E_pickF rfl (v := .bool _) rfl (E_pickT rfl (v := .bool _) rfl (E_nil (AX_condT rfl (AX_seq (AX_E (E_mv (v := .bool _) rfl (E_nil (AX_ret (hRc66 _ _ _ (hR0 _ _ _ ?_)))))))))))
              refine ⟨_, rfl, by simp, ?_, forget_flat rfl (List.prefix_append _ _)⟩
              -- r10
              clear hN0 hR0 hE0 hNc66 hRc66 hEc66
              refine congrArg (Value.bool) ?_
              refine (decide_eq_false ?_).symm
              first | exact .inl c11 | exact fun x => x.elim (fun y => y c11) (fun y => y.1 (.inl c15)) | exact fun x => x.elim (fun y => y c11) (fun y => y.1 (.inr c19)) | exact .inr ⟨invc20, .inl ⟨.inl c24, c36⟩⟩ | exact .inr ⟨invc20, .inl ⟨.inr c29, c36⟩⟩ | exact fun x => x.elim (fun y => y c11) (fun y => y.2.elim invc37 fun z => (z j (by omega) c51).1 c56) | exact fun x => x.elim (fun y => y c11) (fun y => y.2.elim invc37 fun z => c64 (z j (by omega) c51).2) | exact .inr ⟨invc20, .inr fun i hi => inv0.2 i hi (by omega)⟩
            · refine E_on rfl (E_pickF rfl (v := .bool _) rfl (E_pickT rfl (v := .bool _) rfl (E_nil (AX_condF rfl (AX_skip ?_)))))
              refine hNc66 (()) _ _ _ ⟨by first | rfl | (congr 1; omega), by first | rfl | (congr 1; omega), by first | rfl | (congr 1; omega), by first | rfl | (congr 1; omega), by first | rfl | (congr 1; omega), trivial⟩ ⟨rfl, rfl, ?_⟩
              -- u11
              clear hN0 hR0 hE0 hNc66 hRc66 hEc66
              first | exact fun x => absurd x c51 | exact fun _ => ⟨c56, c64⟩
        · refine E_mv (v := .bool _) rfl (E_notT rfl (E_notT rfl (E_notT rfl (E_notT rfl (E_notT rfl (E_notU rfl (E_notU rfl (E_notU rfl (E_notU rfl (E_notU rfl (E_notU rfl (E_notU rfl (E_notT rfl (E_pickF rfl (v := .bool _) rfl (E_nil (AX_condF rfl (AX_skip ?_)))))))))))))))))
          refine hNc66 (()) _ _ _ ⟨by first | rfl | (congr 1; omega), by first | rfl | (congr 1; omega), by first | rfl | (congr 1; omega), by first | rfl | (congr 1; omega), by first | rfl | (congr 1; omega), trivial⟩ ⟨rfl, rfl, ?_⟩
          -- u12
          clear hN0 hR0 hE0 hNc66 hRc66 hEc66
          first | exact fun x => absurd x c51 | exact fun _ => ⟨c56, c64⟩
      rintro ⟨⟩ frc66 hc66 mc66 ⟨rfl, rfl, invc66⟩
      refine AX_E (E_addI rfl rfl (by first | omega | (simp; done) | (simp; omega)) (by first | omega | (simp; done) | (simp; omega)) (E_mv (v := .int .i64 (((j : Int) + 1))) rfl (E_nil ?_)))
      refine hN0 (j + 1) _ _ _ ⟨by first | rfl | (congr 1; omega), by first | rfl | (congr 1; omega), by first | rfl | (congr 1; omega), by first | rfl | (congr 1; omega), by first | rfl | (congr 1; omega), trivial⟩ ⟨rfl, rfl, ?_⟩ ?_
      -- n13
      all_goals clear hN0 hR0 hE0
      · refine ⟨by omega, fun i hi hij => ?_⟩
        by_cases e : i = j
        · subst e; exact invc66
        · exact inv0.2 i hi (by omega)
      · (first | omega | (simp; omega))
    · refine E_nil (AX_seq (AX_condF rfl (AX_exit (hE0 _ _ _ _ (AX_seq (AX_E (E_mv (v := .bool _) rfl (E_nil (AX_ret ?_)))))))))
      refine ⟨_, rfl, by simp, ?_, forget_flat rfl (List.prefix_append _ _)⟩
      -- r14
      clear hN0 hR0 hE0
      refine congrArg (Value.bool) ?_
      refine (decide_eq_true ?_).symm
      first | exact .inl c11 | exact fun x => x.elim (fun y => y c11) (fun y => y.1 (.inl c15)) | exact fun x => x.elim (fun y => y c11) (fun y => y.1 (.inr c19)) | exact .inr ⟨invc20, .inl ⟨.inl c24, c36⟩⟩ | exact .inr ⟨invc20, .inl ⟨.inr c29, c36⟩⟩ | exact fun x => x.elim (fun y => y c11) (fun y => y.2.elim invc37 fun z => (z j (by omega) c51).1 c56) | exact fun x => x.elim (fun y => y c11) (fun y => y.2.elim invc37 fun z => c64 (z j (by omega) c51).2) | exact .inr ⟨invc20, .inr fun i hi => inv0.2 i hi (by omega)⟩
  · refine E_notV rfl rfl (E_nil (AX_condT rfl (AX_seq (AX_E (E_mv (v := .bool _) rfl (E_nil (AX_ret ?_)))))))
    refine ⟨_, rfl, by simp, ?_, forget_flat rfl (List.prefix_append _ _)⟩
    -- r15
    refine congrArg (Value.bool) ?_
    refine (decide_eq_true ?_).symm
    first | exact .inl c11 | exact fun x => x.elim (fun y => y c11) (fun y => y.1 (.inl c15)) | exact fun x => x.elim (fun y => y c11) (fun y => y.1 (.inr c19)) | exact .inr ⟨invc20, .inl ⟨.inl c24, c36⟩⟩ | exact .inr ⟨invc20, .inl ⟨.inr c29, c36⟩⟩ | exact fun x => x.elim (fun y => y c11) (fun y => y.2.elim invc37 fun z => (z j (by omega) c51).1 c56) | exact fun x => x.elim (fun y => y c11) (fun y => y.2.elim invc37 fun z => c64 (z j (by omega) c51).2) | exact .inr ⟨invc20, .inr fun i hi => inv0.2 i hi (by omega)⟩
end Go.Canon
namespace Go.Canon
open Go Go.Proofs
set_option linter.unusedVariables false
set_option linter.unusedSimpArgs false
theorem idx_mem {l : List Int} {n : Int} : 0 ≤ idxM l n ↔ n ∈ l := by unfold idxM; split <;> simp [*]
theorem nodup_inj {l : List Int} (hn : l.Nodup) {i j : Nat} (hi : i < l.length) (hj : j < l.length) : l[i] = l[j] ↔ i = j := by
  constructor
  · intro e
    exact (List.getElem_inj hn).1 e
  · intro e; subst e; rfl
theorem paxis_eq {g : G} (hg : GR g) {j : Nat} (hj : j < g.ws.length) : paxisM g j = axisM g g.ws[j] := by
  have hl := hg.len
  have h1 : (g.ws.getD (g.ws.length - 1) 0 = g.ws[j]) ↔ ((j : Int) = g.ws.length - 1) := by
    rw [← getD_at (show g.ws.length - 1 < g.ws.length by omega), nodup_inj hg.nd]
    omega
  unfold paxisM axisM
  simp only [h1]
theorem paxis_idx {h : G} (hh : GR h) {x : Int} (hx : x ∈ h.ws) : paxisM h (idxM h.ws x) = axisM h x := by
  have hi := List.idxOf_lt_length_of_mem hx
  rw [idxM, if_pos hx, paxis_eq hh hi, List.getElem_idxOf hi]
theorem comm_wires {g h : G} (hg : GR g) (hh : GR h) : (∀ j (hj : j < g.ws.length), 0 ≤ idxM h.ws g.ws[j] → paxisM g j ≠ 0 ∧ paxisM g j = paxisM h (idxM h.ws g.ws[j])) ↔ ∀ x ∈ g.ws, x ∈ h.ws → axisM g x ≠ 0 ∧ axisM g x = axisM h x := by
  constructor
  · intro H x hx hy
    obtain ⟨j, hj, rfl⟩ := List.getElem_of_mem hx
    have := H j hj (idx_mem.2 hy)
    rwa [paxis_eq hg hj, paxis_idx hh hy] at this
  · intro H j hj hi
    have hy := idx_mem.1 hi
    have := H _ (List.getElem_mem hj) hy
    rwa [paxis_eq hg hj, paxis_idx hh hy]
theorem two_wires {g : G} (hg : GR g) (hk : g.k = 10 ∨ g.k = 11) : ∃ a b, g.ws = [a, b] ∧ a ≠ b := by
  have h1 := hg.ar
  have h2 : arityM g.k = 2 := by rcases hk with e | e <;> rw [e] <;> rfl
  have h3 := hg.nd
  match hw : g.ws with
  | [a, b] => rw [hw] at h3; exact ⟨a, b, rfl, by simpa using h3⟩
  | [] => rw [hw, h2] at h1; simp at h1
  | [a] => rw [hw, h2] at h1; simp at h1
  | a :: b :: c :: t => rw [hw, h2] at h1; simp only [List.length_cons] at h1; omega
theorem of_eq {g h : G} (hg : GR g) (hh : GR h) : (∀ i, i < 12 → ofM g.ws i = ofM h.ws i) ↔ ∀ x, x ∈ g.ws ↔ x ∈ h.ws := by
  constructor
  · intro H x
    constructor
    · intro hx
      obtain ⟨i, hi, rfl⟩ := gr_nat hg hx
      have := H i hi
      simpa [ofM, hx] using this
    · intro hx
      obtain ⟨i, hi, rfl⟩ := gr_nat hh hx
      have := H i hi
      simpa [ofM, hx] using this
  · intro H i _
    simp only [ofM, H]
theorem alike_iff {g h : G} (hg : GR g) (hh : GR h) (kg : g.k = 10 ∨ g.k = 11) (kh : h.k = 10 ∨ h.k = 11) : (∀ x, x ∈ g.ws ↔ x ∈ h.ws) ↔ alikeM g h := by
  obtain ⟨a, b, e1, n1⟩ := two_wires hg kg
  obtain ⟨c, d, e2, n2⟩ := two_wires hh kh
  simp only [alikeM, e1, e2, List.mem_cons, List.not_mem_nil, or_false, List.getD_cons_zero, List.getD_cons_succ]
  constructor
  · intro H; exact ⟨(H a).1 (.inl rfl), (H b).1 (.inr rfl)⟩
  · intro H x; omega
theorem pcomm_iff {g h : G} (hg : GR g) (hh : GR h) : pcommM g h ↔ commM g h := by
  have b1 := hg.b0
  have b2 := hh.b0
  have ht : (ptouchM g h ∨ ptouchM h g) ↔ touchM g h := by unfold touchM ptouchM; omega
  unfold pcommM commM
  rw [ht, comm_wires hg hh, of_eq hg hh]
  by_cases hm : meetM g h
  · by_cases htt : touchM g h
    · simp [hm, htt]
    · obtain ⟨y, hy1, hy2⟩ : ∃ x ∈ g.ws, x ∈ h.ws := by
        rcases hm with h | h
        · exact h
        · exact (htt h).elim
      simp only [hm, htt, not_true, not_false_iff, true_and, false_or]
      split
      · rename_i hc
        have hs : swapsM g h ∨ swapsM h g := by unfold swapsM; omega
        rw [← alike_iff hg hh (by omega) (by omega)]
        constructor
        · rintro (⟨_, x⟩ | x)
          · exact x
          · have := x y hy1 hy2
            exfalso
            rcases hc with ⟨a, b⟩ | ⟨a, b⟩
            · exact this.1 (by simp [axisM, a])
            · have h0 := this.2
              rw [show axisM h y = 0 by simp [axisM, a]] at h0
              exact this.1 h0
        · intro x; exact .inl ⟨hs, x⟩
      · rename_i hc
        have hs : ¬ (swapsM g h ∨ swapsM h g) := by unfold swapsM; omega
        simp [hs]
  · simp [hm]
theorem pcomm_ret (H : Heap) (g h : G) (p q : Pl) {S S' : Nat → Prop} (hv : Ints S H p g.ws) (hu : Ints S' H q h.ws) (hg : GR g) (hh : GR h) : Ret (tab Try.prog) 64 [gv g p, gv h q] H (.bool (decide (commM g h))) H := by
  have := pcomm_ret0 H g h p q hv hu hg hh
  rwa [decide_eq_decide.2 (pcomm_iff hg hh)] at this
end Go.Canon
namespace Go.Canon
open Go Go.Proofs
set_option linter.unusedVariables false
set_option linter.unusedSimpArgs false
def kf104 : KFunc := ⟨0, 3, [.tmp 0], .seq (.reg [⟨some 0, .mv (.c (.map none)), none⟩] []) (.seq (.reg [⟨some 1, .mkM, none⟩, ⟨none, .ins 1 (.t 1) (.c (.int .i64 5)) (.c (.int .i64 6)), none⟩, ⟨none, .ins 1 (.t 1) (.c (.int .i64 6)) (.c (.int .i64 5)), none⟩, ⟨none, .ins 1 (.t 1) (.c (.int .i64 7)) (.c (.int .i64 8)), none⟩, ⟨none, .ins 1 (.t 1) (.c (.int .i64 8)) (.c (.int .i64 7)), none⟩, ⟨some 2, .mv (.t 1), none⟩, ⟨some 0, .mv (.t 2), none⟩] []) .ret)⟩
theorem k104 : tab Try.prog 104 = some kf104 := by kernel_rfl
def kf85 : KFunc := ⟨1, 14, [.tmp 2], .seq (.reg [⟨some 2, .mv (.c (.int .i64 0)), none⟩] []) (.seq (.seq (.reg [⟨some 6, .call (.c (.func (.func 104) #[] #[])) [], none⟩, ⟨some 7, .mv (.t 0), none⟩, ⟨some 8, .lk 1 (.t 6) (.t 7) (.int .i64 0) true, none⟩, ⟨some 5, .mv (.t 8), none⟩, ⟨some 9, .ext (.t 5) 0, none⟩, ⟨some 10, .ext (.t 5) 1, none⟩, ⟨some 3, .mv (.t 9), none⟩, ⟨some 4, .mv (.t 10), none⟩] []) (.seq (.reg [⟨some 11, .mv (.t 4), none⟩] []) (.cond (.t 11) (.seq (.reg [⟨some 12, .mv (.t 3), none⟩, ⟨some 2, .mv (.t 12), none⟩] []) .ret) .skip))) (.seq (.reg [⟨some 13, .mv (.t 0), none⟩, ⟨some 2, .mv (.t 13), none⟩] []) .ret))⟩
theorem k85 : tab Try.prog 85 = some kf85 := by kernel_rfl
def kf94 : KFunc := ⟨1, 29, [.cell 2 (some 15)], .seq (.reg [⟨some 1, .box (.t 0), none⟩, ⟨some 2, .new [.int .i64 0, .int .i64 0, .bool false, .bool false, .bool false, .bool false, .bool false, .bool false, .bool false, .bool false, .bool false, .bool false, .bool false, .bool false, .int .i64 0], none⟩] []) (.seq (.reg [⟨some 4, .fa (.t 1) 0, none⟩, ⟨some 5, .ld (.t 4) none, none⟩, ⟨some 6, .fa (.t 1) 3, none⟩, ⟨some 7, .ld (.t 6) none, none⟩, ⟨some 8, .ld (.t 1) (some 4), none⟩, ⟨some 9, .call (.c (.func (.func 91) #[] #[])) [.t 8], none⟩, ⟨some 10, .mk [.int .i64 0, .int .i64 0, .bool false, .bool false, .bool false, .bool false, .bool false, .bool false, .bool false, .bool false, .bool false, .bool false, .bool false, .bool false, .int .i64 0] [(0, 1, .t 5), (1, 1, .t 7), (2, 12, .t 9)], none⟩, ⟨some 3, .new [.int .i64 0, .int .i64 0, .bool false, .bool false, .bool false, .bool false, .bool false, .bool false, .bool false, .bool false, .bool false, .bool false, .bool false, .bool false, .int .i64 0], none⟩, ⟨none, .st (.t 3) (.t 10) 15, none⟩] [(1, 5), (3, 5)]) (.seq (.seq (.reg [⟨some 11, .fa (.t 1) 0, none⟩, ⟨some 12, .ld (.t 11) none, none⟩, ⟨some 13, .bin .eql (.t 12) (.c (.int .i64 9)), none⟩, ⟨some 14, .mv (.t 13), none⟩, ⟨some 15, .fa (.t 1) 0, some (14, false)⟩, ⟨some 16, .ld (.t 15) none, some (14, false)⟩, ⟨some 17, .bin .eql (.t 16) (.c (.int .i64 12)), some (14, false)⟩, ⟨some 18, .pick (.t 14) (.c (.bool true)) (.t 17), none⟩] []) (.cond (.t 18) (.reg [⟨some 19, .fa (.t 1) 1, none⟩, ⟨some 20, .ld (.t 19) none, none⟩, ⟨some 21, .fa (.t 1) 1, none⟩, ⟨some 22, .ld (.t 21) none, none⟩, ⟨some 23, .len (.t 22), none⟩, ⟨some 24, .bin .sub (.t 23) (.c (.int .i64 1)), none⟩, ⟨some 25, .iaS (.t 20) (.t 24) 1, none⟩, ⟨some 26, .ld (.t 25) none, none⟩, ⟨some 27, .fa (.t 3) 14, none⟩, ⟨none, .st (.t 27) (.t 26) 1, none⟩] []) .skip)) (.seq (.reg [⟨some 28, .ld (.t 3) (some 15), none⟩, ⟨none, .st (.t 2) (.t 28) 15, none⟩] []) .ret)))⟩
theorem k94 : tab Try.prog 94 = some kf94 := by kernel_rfl
def kf65 : KFunc := ⟨2, 21, [.tmp 4], .seq (.reg [⟨some 2, .box (.t 0), none⟩, ⟨some 3, .box (.t 1), none⟩, ⟨some 4, .mv (.c (.bool false)), none⟩] []) (.seq (.reg [⟨some 6, .ld (.t 3) (some 4), none⟩, ⟨some 7, .call (.c (.func (.func 94) #[] #[])) [.t 6], none⟩, ⟨some 5, .new [.int .i64 0, .int .i64 0, .bool false, .bool false, .bool false, .bool false, .bool false, .bool false, .bool false, .bool false, .bool false, .bool false, .bool false, .bool false, .int .i64 0], none⟩, ⟨none, .st (.t 5) (.t 7) 15, none⟩] []) (.seq (.reg [⟨some 8, .fa (.t 5) 0, none⟩, ⟨some 9, .ld (.t 8) none, none⟩, ⟨some 10, .call (.c (.func (.func 85) #[] #[])) [.t 9], none⟩, ⟨some 11, .fa (.t 5) 0, none⟩, ⟨none, .st (.t 11) (.t 10) 1, none⟩] []) (.seq (.reg [⟨some 12, .fa (.t 2) 0, none⟩, ⟨some 13, .ld (.t 12) none, none⟩, ⟨some 14, .bin .leq (.t 13) (.c (.int .i64 12)), none⟩, ⟨some 15, .mv (.t 14), none⟩, ⟨some 16, .ld (.t 2) (some 4), some (15, true)⟩, ⟨some 17, .call (.c (.func (.func 94) #[] #[])) [.t 16], some (15, true)⟩, ⟨some 18, .ld (.t 5) (some 15), some (15, true)⟩, ⟨some 19, .eqA false [1, 1, 0, 0, 0, 0, 0, 0, 0, 0, 0, 0, 0, 0, 1] (.t 17) (.t 18), some (15, true)⟩, ⟨some 20, .pick (.t 15) (.t 19) (.c (.bool false)), none⟩, ⟨some 4, .mv (.t 20), none⟩] [(5, 6)]) .ret)))⟩
theorem k65 : tab Try.prog 65 = some kf65 := by kernel_rfl
def opMap : CO := .map [{ key := .int .i64 5, val := .int .i64 6, born := 0 }, { key := .int .i64 6, val := .int .i64 5, born := 1 }, { key := .int .i64 7, val := .int .i64 8, born := 2 }, { key := .int .i64 8, val := .int .i64 7, born := 3 }] 4
theorem opposite_ret (H : Heap) : Ret (tab Try.prog) 104 [] H (.map (some (H.length + 0))) (H ++ [opMap]) := by
  refine Ret_own k104 rfl ?_
  refine AX_seq (AX_E (E_mv (v := .map none) rfl (E_nil (AX_seq (AX_E (E_mkM ?_))))))
  refine E_ins (k := 0) rfl rfl rfl rfl rfl rfl rfl (E_ins (k := 0) rfl rfl rfl rfl rfl rfl rfl (E_ins (k := 0) rfl rfl rfl rfl rfl rfl rfl (E_ins (k := 0) rfl rfl rfl rfl rfl rfl rfl ?_)))
  refine E_mv (v := .map _) rfl (E_mv (v := .map _) rfl (E_nil (AX_ret ?_)))
  refine ⟨_, rfl, by simp, ?_⟩
  exact ⟨rfl, forget_more rfl⟩
theorem undone_ret (H : Heap) (n : Int) : Ret (tab Try.prog) 85 [.int .i64 n] H (.int .i64 (oppM n)) H := by
  refine Ret_own k85 rfl ?_
  refine AX_seq (AX_E (E_mv (v := .int _ _) rfl (E_nil (AX_seq (AX_seq (AX_E (E_callX rfl (opposite_ret _) (E_mv (v := .int _ _) rfl ?_))))))))
  have hb : ((H ++ ([] ++ [opMap])) ++ [])[(H ++ []).length + 0]? = some opMap := by simp
  by_cases hn : n = 5 ∨ n = 6 ∨ n = 7 ∨ n = 8
  · have hf : ∃ j, findK 1 (.int .i64 n) [{ key := .int .i64 5, val := .int .i64 6, born := 0 }, { key := .int .i64 6, val := .int .i64 5, born := 1 }, { key := .int .i64 7, val := .int .i64 8, born := 2 }, { key := .int .i64 8, val := .int .i64 7, born := 3 }] 0 = some (some (j, .int .i64 (oppM n))) := by
      rcases hn with rfl | rfl | rfl | rfl
      · exact ⟨0, rfl⟩
      · exact ⟨1, rfl⟩
      · exact ⟨2, rfl⟩
      · exact ⟨3, rfl⟩
    obtain ⟨j, hf⟩ := hf
    refine E_lk rfl hb rfl rfl hf (E_mv (v := .tuple _) rfl (E_ext (v := .int _ _) rfl rfl (E_ext (v := .bool _) rfl rfl (E_mv (v := .int _ _) rfl (E_mv (v := .bool _) rfl (E_nil (AX_seq (AX_E (E_mv (v := .bool _) rfl (E_nil (AX_condT rfl (AX_seq (AX_E (E_mv (v := .int _ _) rfl (E_mv (v := .int _ _) rfl (E_nil (AX_ret ?_)))))))))))))))))
    exact ⟨_, rfl, by simp, rfl, forget_flat rfl ((List.prefix_append _ _).trans (List.prefix_append _ _))⟩
  · have hf : findK 1 (.int .i64 n) [{ key := .int .i64 5, val := .int .i64 6, born := 0 }, { key := .int .i64 6, val := .int .i64 5, born := 1 }, { key := .int .i64 7, val := .int .i64 8, born := 2 }, { key := .int .i64 8, val := .int .i64 7, born := 3 }] 0 = some none := by
      have h5 : (n == 5) = false := by simpa using fun e => hn (.inl e)
      have h6 : (n == 6) = false := by simpa using fun e => hn (.inr (.inl e))
      have h7 : (n == 7) = false := by simpa using fun e => hn (.inr (.inr (.inl e)))
      have h8 : (n == 8) = false := by simpa using fun e => hn (.inr (.inr (.inr e)))
      simp [findK, cellEq, h5, h6, h7, h8]
    have ho : oppM n = n := by unfold oppM; (repeat' split) <;> omega
    refine E_lk rfl hb rfl rfl hf (E_mv (v := .tuple _) rfl (E_ext (v := .int _ _) rfl rfl (E_ext (v := .bool _) rfl rfl (E_mv (v := .int _ _) rfl (E_mv (v := .bool _) rfl (E_nil (AX_seq (AX_E (E_mv (v := .bool _) rfl (E_nil (AX_condF rfl (AX_skip (AX_seq (AX_E (E_mv (v := .int _ _) rfl (E_mv (v := .int _ _) rfl (E_nil (AX_ret ?_))))))))))))))))))
    exact ⟨_, rfl, by simp, by rw [ho]; rfl, forget_flat rfl ((List.prefix_append _ _).trans (List.prefix_append _ _))⟩
def lastM (g : G) : Int := if g.k = 9 ∨ g.k = 12 then g.ws.getD (g.ws.length - 1) 0 else 0
abbrev dv (k f : Int) (u : Nat → Bool) (l : Int) : Value := .agg #[.int .i64 k, .int .i64 f, .bool (u 0), .bool (u 1), .bool (u 2), .bool (u 3), .bool (u 4), .bool (u 5), .bool (u 6), .bool (u 7), .bool (u 8), .bool (u 9), .bool (u 10), .bool (u 11), .int .i64 l]
theorem doing_ret (H : Heap) (g : G) (p : Pl) {S : Nat → Prop} (hv : Ints S H p g.ws) (hg : GR g) : Ret (tab Try.prog) 94 [gv g p] H (dv g.k g.f (ofM g.ws) (lastM g)) H := by
  have hl := hg.len
  have el := getD_at (l := g.ws) (j := g.ws.length - 1) (by omega)
  refine Ret_own k94 rfl ?_
  refine AX_seq (AX_E (E_boxA rfl (E_new (E_nil (AX_seq (AX_E (E_fa rfl (E_ldO (k := 0) (v := .int .i64 (g.k)) rfl rfl (E_fa rfl (E_ldO (k := 0) (v := .int .i64 (g.f)) rfl rfl (E_ldON (k := 0) rfl rfl (E_callV rfl (of_ret _ g _ hv.app (by assumption)) (E_mk (cs := [.int .i64 (g.k), .int .i64 (g.f), .bool ((ofM g.ws) 0), .bool ((ofM g.ws) 1), .bool ((ofM g.ws) 2), .bool ((ofM g.ws) 3), .bool ((ofM g.ws) 4), .bool ((ofM g.ws) 5), .bool ((ofM g.ws) 6), .bool ((ofM g.ws) 7), .bool ((ofM g.ws) 8), .bool ((ofM g.ws) 9), .bool ((ofM g.ws) 10), .bool ((ofM g.ws) 11), .int .i64 (0)]) rfl (E_new (E_stO (k := 2) rfl rfl (v := .agg _) rfl rfl rfl rfl (E_nil (AX_seq (AX_seq (AX_E (E_fa rfl (E_ldO (k := 0) (v := .int .i64 (g.k)) rfl rfl (E_eqlS rfl rfl (fun c13 => ?_) (fun c13 => ?_)))))))))))))))))))))))
  · refine E_mv (v := .bool _) rfl (E_notF rfl (E_notF rfl (E_notF rfl (E_pickT rfl (v := .bool _) rfl (E_nil (AX_condT rfl (AX_E (E_fa rfl (E_ldO (k := 0) (v := .slice _ _ _) rfl rfl (E_fa rfl (E_ldO (k := 0) (v := .slice _ _ _) rfl rfl (E_len (n := (g.ws).length) rfl (E_subI rfl rfl (by first | omega | (simp; done) | (simp; omega)) (by first | omega | (simp; done) | (simp; omega)) (have ix1 : g.ws.length - 1 < (g.ws).length := (by first | omega | (simp; done) | (simp; omega)); E_iaIb (j := g.ws.length - 1) rfl hv rfl rfl (by first | rfl | omega) ix1 fun b1 o1 w1 => (E_ldB (v := .int .i64 (g.ws[g.ws.length - 1]'ix1)) rfl w1 (E_fa rfl (E_stO (k := 2) rfl rfl (v := .int .i64 (g.ws[g.ws.length - 1]'ix1)) rfl rfl rfl rfl (E_nil (AX_seq (AX_E (E_ldON (k := 2) rfl rfl (E_stO (k := 1) rfl rfl (v := .agg _) rfl rfl rfl rfl (E_nil (AX_ret ?_))))))))))))))))))))))))
    refine ⟨_, (res1 (res_cellN (k := 1) rfl rfl)), by simp, ?_, forget_flat rfl (List.prefix_append _ _)⟩
    -- r1
    first | (rw [lastM, if_pos (by omega), ← el]; rfl) | (rw [lastM, if_neg (by omega)]; rfl)
  · refine E_mv (v := .bool _) rfl (E_on rfl (E_fa rfl (E_on rfl (E_ldO (k := 0) (v := .int .i64 (g.k)) rfl rfl (E_on rfl (E_eqlS rfl rfl (fun c17 => ?_) (fun c17 => ?_)))))))
    · refine E_pickF rfl (v := .bool _) rfl (E_nil (AX_condT rfl (AX_E (E_fa rfl (E_ldO (k := 0) (v := .slice _ _ _) rfl rfl (E_fa rfl (E_ldO (k := 0) (v := .slice _ _ _) rfl rfl (E_len (n := (g.ws).length) rfl (E_subI rfl rfl (by first | omega | (simp; done) | (simp; omega)) (by first | omega | (simp; done) | (simp; omega)) (have ix2 : g.ws.length - 1 < (g.ws).length := (by first | omega | (simp; done) | (simp; omega)); E_iaIb (j := g.ws.length - 1) rfl hv rfl rfl (by first | rfl | omega) ix2 fun b2 o2 w2 => (E_ldB (v := .int .i64 (g.ws[g.ws.length - 1]'ix2)) rfl w2 (E_fa rfl (E_stO (k := 2) rfl rfl (v := .int .i64 (g.ws[g.ws.length - 1]'ix2)) rfl rfl rfl rfl (E_nil (AX_seq (AX_E (E_ldON (k := 2) rfl rfl (E_stO (k := 1) rfl rfl (v := .agg _) rfl rfl rfl rfl (E_nil (AX_ret ?_))))))))))))))))))))
      refine ⟨_, (res1 (res_cellN (k := 1) rfl rfl)), by simp, ?_, forget_flat rfl (List.prefix_append _ _)⟩
      -- r2
      first | (rw [lastM, if_pos (by omega), ← el]; rfl) | (rw [lastM, if_neg (by omega)]; rfl)
    · refine E_pickF rfl (v := .bool _) rfl (E_nil (AX_condF rfl (AX_skip (AX_seq (AX_E (E_ldON (k := 2) rfl rfl (E_stO (k := 1) rfl rfl (v := .agg _) rfl rfl rfl rfl (E_nil (AX_ret ?_)))))))))
      refine ⟨_, (res1 (res_cellN (k := 1) rfl rfl)), by simp, ?_, forget_flat rfl (List.prefix_append _ _)⟩
      -- r3
      first | (rw [lastM, if_pos (by omega), ← el]; rfl) | (rw [lastM, if_neg (by omega)]; rfl)
theorem dv_eq {k f l k' f' l' : Int} {u u' : Nat → Bool} [Decidable (k = k' ∧ f = f' ∧ (∀ i, i < 12 → u i = u' i) ∧ l = l')] : cellsEq [1, 1, 0, 0, 0, 0, 0, 0, 0, 0, 0, 0, 0, 0, 1] [.int .i64 k, .int .i64 f, .bool (u 0), .bool (u 1), .bool (u 2), .bool (u 3), .bool (u 4), .bool (u 5), .bool (u 6), .bool (u 7), .bool (u 8), .bool (u 9), .bool (u 10), .bool (u 11), .int .i64 l] [.int .i64 k', .int .i64 f', .bool (u' 0), .bool (u' 1), .bool (u' 2), .bool (u' 3), .bool (u' 4), .bool (u' 5), .bool (u' 6), .bool (u' 7), .bool (u' 8), .bool (u' 9), .bool (u' 10), .bool (u' 11), .int .i64 l'] = some (decide (k = k' ∧ f = f' ∧ (∀ i, i < 12 → u i = u' i) ∧ l = l')) := by
  have : (∀ i, i < 12 → u i = u' i) ↔ u 0 = u' 0 ∧ u 1 = u' 1 ∧ u 2 = u' 2 ∧ u 3 = u' 3 ∧ u 4 = u' 4 ∧ u 5 = u' 5 ∧ u 6 = u' 6 ∧ u 7 = u' 7 ∧ u 8 = u' 8 ∧ u 9 = u' 9 ∧ u 10 = u' 10 ∧ u 11 = u' 11 := by
    constructor
    · intro H; exact ⟨H 0 (by decide), H 1 (by decide), H 2 (by decide), H 3 (by decide), H 4 (by decide), H 5 (by decide), H 6 (by decide), H 7 (by decide), H 8 (by decide), H 9 (by decide), H 10 (by decide), H 11 (by decide)⟩
    · rintro ⟨h0, h1, h2, h3, h4, h5, h6, h7, h8, h9, h10, h11⟩ j hj
      have : j = 0 ∨ j = 1 ∨ j = 2 ∨ j = 3 ∨ j = 4 ∨ j = 5 ∨ j = 6 ∨ j = 7 ∨ j = 8 ∨ j = 9 ∨ j = 10 ∨ j = 11 := by omega
      rcases this with h | h | h | h | h | h | h | h | h | h | h | h <;> subst h <;> assumption
  simp only [cellsEq, cellEq, Option.some.injEq, if_true]
  rw [Bool.eq_iff_iff, decide_eq_true_iff, this]
  simp [and_assoc]
def pundoM (g h : G) : Prop := g.k ≤ 12 ∧ g.k = oppM h.k ∧ g.f = h.f ∧ (∀ i, i < 12 → ofM g.ws i = ofM h.ws i) ∧ lastM g = lastM h
open Classical in
theorem pundo_ret0 (H : Heap) (g h : G) (p q : Pl) {S S' : Nat → Prop} (hv : Ints S H p g.ws) (hu : Ints S' H q h.ws) (hg : GR g) (hh : GR h) : Ret (tab Try.prog) 65 [gv g p, gv h q] H (.bool (decide (pundoM g h))) H := by
  refine Ret_own k65 rfl ?_
  refine AX_seq (AX_E (E_boxA rfl (E_boxA rfl (E_mv (v := .bool _) rfl (E_nil (AX_seq (AX_E (E_ldON (k := 1) rfl rfl (E_callV rfl (doing_ret _ h _ hu.app (by assumption)) (E_new (E_stO (k := 2) rfl rfl (v := .agg _) rfl rfl rfl rfl (E_nil (AX_seq (AX_E (E_fa rfl (E_ldO (k := 2) (v := .int .i64 (h.k)) rfl rfl (E_callV rfl (undone_ret _ _) (E_fa rfl (E_stO (k := 2) rfl rfl (v := .int .i64 (oppM (h.k))) rfl rfl rfl rfl (E_nil (AX_seq (AX_E (E_fa rfl (E_ldO (k := 0) (v := .int .i64 (g.k)) rfl rfl (E_leqS rfl rfl (fun c14 => ?_) (fun c14 => ?_))))))))))))))))))))))))))
  · refine E_mv (v := .bool _) rfl (E_on rfl (E_ldON (k := 0) rfl rfl (E_on rfl (E_callV rfl (doing_ret _ g _ hv.app (by assumption)) (E_on rfl (E_ldON (k := 2) rfl rfl (E_on rfl (E_eqAP rfl rfl (dv_eq (u := ofM g.ws) (u' := ofM h.ws)) (fun c19 => ?_) (fun c19 => ?_)))))))))
    · refine E_pickT rfl (v := .bool _) rfl (E_mv (v := .bool _) rfl (E_nil (AX_ret ?_)))
      refine ⟨_, rfl, by simp, ?_, forget_flat rfl (List.prefix_append _ _)⟩
      -- r1
      refine congrArg (Value.bool) ?_
      refine (decide_eq_true ?_).symm
      first | exact ⟨c14, c19⟩ | exact fun x => c19 x.2 | exact fun x => c14 x.1
    · refine E_pickT rfl (v := .bool _) rfl (E_mv (v := .bool _) rfl (E_nil (AX_ret ?_)))
      refine ⟨_, rfl, by simp, ?_, forget_flat rfl (List.prefix_append _ _)⟩
      -- r2
      refine congrArg (Value.bool) ?_
      refine (decide_eq_false ?_).symm
      first | exact ⟨c14, c19⟩ | exact fun x => c19 x.2 | exact fun x => c14 x.1
  · refine E_mv (v := .bool _) rfl (E_notT rfl (E_notT rfl (E_notT rfl (E_notT rfl (E_pickF rfl (v := .bool _) rfl (E_mv (v := .bool _) rfl (E_nil (AX_ret ?_))))))))
    refine ⟨_, rfl, by simp, ?_, forget_flat rfl (List.prefix_append _ _)⟩
    -- r3
    refine congrArg (Value.bool) ?_
    refine (decide_eq_false ?_).symm
    first | exact ⟨c14, c19⟩ | exact fun x => c19 x.2 | exact fun x => c14 x.1
end Go.Canon
namespace Go.Canon
open Go Go.Proofs
set_option linter.unusedVariables false
set_option linter.unusedSimpArgs false
theorem shape1 {g : G} (hg : GR g) (hk : arityM g.k = 1) : ∃ a, g.ws = [a] := by
  have h1 := hg.ar
  match hw : g.ws with
  | [a] => exact ⟨a, rfl⟩
  | [] => rw [hw, hk] at h1; simp at h1
  | a :: b :: t => rw [hw, hk] at h1; simp only [List.length_cons] at h1; omega
theorem shape2 {g : G} (hg : GR g) (hk : arityM g.k = 2) : ∃ a b, g.ws = [a, b] ∧ a ≠ b := by
  have h1 := hg.ar
  have h3 := hg.nd
  match hw : g.ws with
  | [a, b] => rw [hw] at h3; exact ⟨a, b, rfl, by simpa using h3⟩
  | [] => rw [hw, hk] at h1; simp at h1
  | [a] => rw [hw, hk] at h1; simp at h1
  | a :: b :: c :: t => rw [hw, hk] at h1; simp only [List.length_cons] at h1; omega
theorem shape3 {g : G} (hg : GR g) (hk : arityM g.k = 3) : ∃ a b c, g.ws = [a, b, c] ∧ a ≠ b ∧ a ≠ c ∧ b ≠ c := by
  have h1 := hg.ar
  have h3 := hg.nd
  match hw : g.ws with
  | [a, b, c] => rw [hw] at h3; exact ⟨a, b, c, rfl, by simp at h3; omega⟩
  | [] => rw [hw, hk] at h1; simp at h1
  | [a] => rw [hw, hk] at h1; simp at h1
  | [a, b] => rw [hw, hk] at h1; simp at h1
  | a :: b :: c :: d :: t => rw [hw, hk] at h1; simp only [List.length_cons] at h1; omega
theorem opp_opp {a b : Int} : a = oppM b ↔ b = oppM a := by unfold oppM; (repeat' split) <;> omega
theorem opp_ar (a : Int) : arityM (oppM a) = arityM a := by unfold oppM arityM; (repeat' split) <;> omega
theorem pundo_iff {g h : G} (hg : GR g) (hh : GR h) : pundoM g h ↔ undoM g h := by
  unfold pundoM undoM
  rw [of_eq hg hh, opp_opp]
  by_cases hk : h.k = oppM g.k
  · by_cases h12 : g.k ≤ 12
    · have hkk := hg.kind
      have ha : arityM h.k = arityM g.k := by rw [hk, opp_ar]
      by_cases c1 : g.k = 10 ∨ g.k = 11
      · have hh' : h.k = g.k := by rw [hk]; unfold oppM; (repeat' split) <;> omega
        rw [if_pos c1, alike_iff hg hh c1 (by omega)]
        have l1 : lastM g = 0 := by rw [lastM, if_neg (by omega)]
        have l2 : lastM h = 0 := by rw [lastM, if_neg (by omega)]
        rw [l1, l2]
        constructor
        · rintro ⟨a, b, c, d, _⟩; exact ⟨c, by omega, b, d⟩
        · rintro ⟨a, b, c, d⟩; exact ⟨by omega, c, a, d, rfl⟩
      · rw [if_neg c1]
        by_cases c2 : g.k = 12
        · have hh' : h.k = g.k := by rw [hk]; unfold oppM; (repeat' split) <;> omega
          obtain ⟨a, b, c, e1, n1⟩ := shape3 hg (by rw [c2]; rfl)
          obtain ⟨a', b', c', e2, n2⟩ := shape3 hh (by rw [hh', c2]; rfl)
          rw [if_pos c2]
          have l1 : lastM g = c := by rw [lastM, if_pos (by omega), e1]; rfl
          have l2 : lastM h = c' := by rw [lastM, if_pos (by omega), e2]; rfl
          rw [l1, l2]
          simp only [alikeM, e1, e2, List.mem_cons, List.not_mem_nil, or_false, List.getD_cons_zero, List.getD_cons_succ]
          constructor
          · rintro ⟨_, x, y, z, w⟩
            exact ⟨y, by omega, x, w, (z a).1 (.inl rfl), (z b).1 (.inr (.inl rfl))⟩
          · rintro ⟨x, y, z, w, u, v⟩
            exact ⟨h12, z, x, fun t => by omega, w⟩
        · rw [if_neg c2]
          have cases : arityM g.k = 1 ∧ g.k ≠ 9 ∨ g.k = 9 := by unfold arityM; (repeat' split) <;> omega
          rcases cases with ⟨h1, h9⟩ | h9
          · have h9' : h.k ≠ 9 ∧ h.k ≠ 12 := by rw [hk]; unfold oppM; (repeat' split) <;> omega
            obtain ⟨a, e1⟩ := shape1 hg h1
            obtain ⟨b, e2⟩ := shape1 hh (by rw [ha, h1])
            have l1 : lastM g = 0 := by rw [lastM, if_neg (by omega)]
            have l2 : lastM h = 0 := by rw [lastM, if_neg (by omega)]
            rw [l1, l2, e1, e2]
            simp only [List.mem_cons, List.not_mem_nil, or_false, List.cons.injEq, and_true]
            constructor
            · rintro ⟨_, x, y, z⟩
              exact ⟨y, by omega, x, (z a).1 rfl⟩
            · rintro ⟨x, y, z, w⟩
              exact ⟨h12, z, x, fun t => by rw [w]⟩
          · have hh' : h.k = g.k := by rw [hk]; unfold oppM; (repeat' split) <;> omega
            obtain ⟨a, b, e1, n1⟩ := shape2 hg (by rw [h9]; rfl)
            obtain ⟨a', b', e2, n2⟩ := shape2 hh (by rw [hh', h9]; rfl)
            have l1 : lastM g = b := by rw [lastM, if_pos (by omega), e1]; rfl
            have l2 : lastM h = b' := by rw [lastM, if_pos (by omega), e2]; rfl
            rw [l1, l2, e1, e2]
            simp only [List.mem_cons, List.not_mem_nil, or_false, List.cons.injEq, and_true]
            constructor
            · rintro ⟨_, x, y, z, w⟩
              have := (z a).1 (.inl rfl)
              exact ⟨y, by omega, x, by omega, w⟩
            · rintro ⟨x, y, z, w, v⟩
              exact ⟨h12, z, x, fun t => by rw [w, v], v⟩
    · constructor
      · rintro ⟨x, _⟩; exact (h12 x).elim
      · rintro ⟨_, x, _⟩; exact (h12 (by omega)).elim
  · constructor
    · rintro ⟨_, x, _⟩; exact (hk x).elim
    · rintro ⟨_, _, x, _⟩; exact (hk x).elim
theorem pundo_symm {g h : G} (hg : GR g) (hh : GR h) : pundoM g h → pundoM h g := by
  rintro ⟨a, b, c, d, e⟩
  have := hh.kind
  refine ⟨?_, opp_opp.1 b, c.symm, fun i hi => (d i hi).symm, e.symm⟩
  unfold oppM at b
  (repeat' split at b) <;> omega
theorem undo_symm {g h : G} (hg : GR g) (hh : GR h) : undoM g h ↔ undoM h g := by
  rw [← pundo_iff hg hh, ← pundo_iff hh hg]
  exact ⟨pundo_symm hg hh, pundo_symm hh hg⟩
theorem touch_symm {g h : G} : touchM g h ↔ touchM h g := by unfold touchM; omega
theorem meet_symm {g h : G} : meetM g h ↔ meetM h g := by
  unfold meetM
  rw [touch_symm]
  constructor
  · rintro (⟨x, a, b⟩ | x)
    · exact .inl ⟨x, b, a⟩
    · exact .inr x
  · rintro (⟨x, a, b⟩ | x)
    · exact .inl ⟨x, b, a⟩
    · exact .inr x
theorem comm_symm {g h : G} (hg : GR g) (hh : GR h) : commM g h ↔ commM h g := by
  unfold commM
  rw [meet_symm (g := g), touch_symm (g := g)]
  by_cases c : (g.k = 11 ∧ (h.k = 10 ∨ h.k = 11)) ∨ (h.k = 11 ∧ g.k = 10)
  · rw [if_pos c, if_pos (by omega), ← alike_iff hg hh (by omega) (by omega), ← alike_iff hh hg (by omega) (by omega)]
    constructor
    · rintro (x | ⟨x, y⟩)
      · exact .inl x
      · exact .inr ⟨x, fun z => (y z).symm⟩
    · rintro (x | ⟨x, y⟩)
      · exact .inl x
      · exact .inr ⟨x, fun z => (y z).symm⟩
  · rw [if_neg c, if_neg (by omega)]
    constructor
    · rintro (x | ⟨x, y⟩)
      · exact .inl x
      · exact .inr ⟨x, fun z a b => ⟨(y z b a).2 ▸ (y z b a).1, (y z b a).2.symm⟩⟩
    · rintro (x | ⟨x, y⟩)
      · exact .inl x
      · exact .inr ⟨x, fun z a b => ⟨(y z b a).2 ▸ (y z b a).1, (y z b a).2.symm⟩⟩
theorem pundo_ret (H : Heap) (g h : G) (p q : Pl) {S S' : Nat → Prop} (hv : Ints S H p g.ws) (hu : Ints S' H q h.ws) (hg : GR g) (hh : GR h) : Ret (tab Try.prog) 65 [gv g p, gv h q] H (.bool (decide (undoM g h))) H := by
  have := pundo_ret0 H g h p q hv hu hg hh
  rwa [decide_eq_decide.2 (pundo_iff hg hh)] at this
end Go.Canon
namespace Go.Canon
open Go Go.Proofs
set_option linter.unusedVariables false
set_option linter.unusedSimpArgs false
def kf63 : KFunc := ⟨3, 49, [.cell 6 (some 4), .cell 7 (some 4), .tmp 8], .seq (.reg [⟨some 3, .box (.t 0), none⟩, ⟨some 6, .new [.int .i64 0, .slice none 0 0, .int .i64 0, .int .i64 0], none⟩, ⟨some 7, .new [.int .i64 0, .slice none 0 0, .int .i64 0, .int .i64 0], none⟩, ⟨some 8, .mv (.c (.int .i64 0)), none⟩] []) (.seq (.seq (.reg [⟨some 10, .ld (.t 3) (some 3), none⟩, ⟨some 11, .call (.c (.func (.func 32) #[] #[])) [.t 10], none⟩, ⟨some 9, .mv (.t 11), none⟩] []) (.seq (.reg [⟨some 12, .mv (.t 9), none⟩, ⟨some 13, .bin .neq (.t 12) (.c (.int .i64 0)), none⟩] []) (.cond (.t 13) (.seq (.reg [⟨some 14, .ld (.t 6) (some 4), none⟩, ⟨some 15, .ld (.t 7) (some 4), none⟩, ⟨some 16, .mv (.t 9), none⟩, ⟨none, .st (.t 6) (.t 14) 4, none⟩, ⟨none, .st (.t 7) (.t 15) 4, none⟩, ⟨some 8, .mv (.t 16), none⟩] [(1, 3)]) .ret) .skip))) (.seq (.seq (.reg [⟨some 17, .mv (.t 1), none⟩, ⟨some 18, .bin .lss (.t 17) (.c (.int .i64 0)), none⟩, ⟨some 19, .mv (.t 18), none⟩, ⟨some 20, .mv (.t 2), some (19, false)⟩, ⟨some 21, .bin .lss (.t 20) (.c (.int .i64 0)), some (19, false)⟩, ⟨some 22, .pick (.t 19) (.c (.bool true)) (.t 21), none⟩, ⟨some 23, .mv (.t 22), none⟩, ⟨some 24, .mv (.t 1), some (23, false)⟩, ⟨some 25, .fa (.t 3) 2, some (23, false)⟩, ⟨some 26, .ld (.t 25) none, some (23, false)⟩, ⟨some 27, .len (.t 26), some (23, false)⟩, ⟨some 28, .bin .geq (.t 24) (.t 27), some (23, false)⟩, ⟨some 29, .pick (.t 23) (.c (.bool true)) (.t 28), none⟩, ⟨some 30, .mv (.t 29), none⟩, ⟨some 31, .mv (.t 2), some (30, false)⟩, ⟨some 32, .fa (.t 3) 2, some (30, false)⟩, ⟨some 33, .ld (.t 32) none, some (30, false)⟩, ⟨some 34, .len (.t 33), some (30, false)⟩, ⟨some 35, .bin .geq (.t 31) (.t 34), some (30, false)⟩, ⟨some 36, .pick (.t 30) (.c (.bool true)) (.t 35), none⟩] []) (.cond (.t 36) (.seq (.reg [⟨some 37, .ld (.t 6) (some 4), none⟩, ⟨some 38, .ld (.t 7) (some 4), none⟩, ⟨none, .st (.t 6) (.t 37) 4, none⟩, ⟨none, .st (.t 7) (.t 38) 4, none⟩, ⟨some 8, .mv (.c (.int .i64 1)), none⟩] [(1, 2)]) .ret) .skip)) (.seq (.reg [⟨some 39, .fa (.t 3) 2, none⟩, ⟨some 40, .ld (.t 39) none, none⟩, ⟨some 41, .mv (.t 1), none⟩, ⟨some 42, .iaS (.t 40) (.t 41) 4, none⟩, ⟨some 43, .ld (.t 42) (some 4), none⟩, ⟨some 44, .fa (.t 3) 2, none⟩, ⟨some 45, .ld (.t 44) none, none⟩, ⟨some 46, .mv (.t 2), none⟩, ⟨some 47, .iaS (.t 45) (.t 46) 4, none⟩, ⟨some 48, .ld (.t 47) (some 4), none⟩, ⟨none, .st (.t 6) (.t 43) 4, none⟩, ⟨none, .st (.t 7) (.t 48) 4, none⟩, ⟨some 8, .mv (.c (.int .i64 0)), none⟩] [(6, 10), (9, 10)]) .ret)))⟩
theorem k63 : tab Try.prog 63 = some kf63 := by kernel_rfl
def kf15 : KFunc := ⟨3, 25, [.tmp 6, .tmp 7], .seq (.reg [⟨some 3, .box (.t 0), none⟩, ⟨some 6, .mv (.c (.bool false)), none⟩, ⟨some 7, .mv (.c (.int .i64 0)), none⟩] []) (.seq (.reg [⟨some 12, .ld (.t 3) (some 3), none⟩, ⟨some 13, .mv (.t 1), none⟩, ⟨some 14, .mv (.t 2), none⟩, ⟨some 15, .call (.c (.func (.func 63) #[] #[])) [.t 12, .t 13, .t 14], none⟩, ⟨some 11, .mv (.t 15), none⟩, ⟨some 16, .ext (.t 11) 0, none⟩, ⟨some 17, .ext (.t 11) 1, none⟩, ⟨some 18, .ext (.t 11) 2, none⟩, ⟨some 8, .new [.int .i64 0, .slice none 0 0, .int .i64 0, .int .i64 0], none⟩, ⟨some 9, .new [.int .i64 0, .slice none 0 0, .int .i64 0, .int .i64 0], none⟩, ⟨none, .st (.t 8) (.t 16) 4, none⟩, ⟨none, .st (.t 9) (.t 17) 4, none⟩, ⟨some 10, .mv (.t 18), none⟩] []) (.seq (.seq (.reg [⟨some 19, .mv (.t 10), none⟩, ⟨some 20, .bin .neq (.t 19) (.c (.int .i64 0)), none⟩] []) (.cond (.t 20) (.seq (.reg [⟨some 21, .mv (.t 10), none⟩, ⟨some 6, .mv (.c (.bool false)), none⟩, ⟨some 7, .mv (.t 21), none⟩] []) .ret) .skip)) (.seq (.reg [⟨some 22, .ld (.t 8) (some 4), none⟩, ⟨some 23, .ld (.t 9) (some 4), none⟩, ⟨some 24, .call (.c (.func (.func 64) #[] #[])) [.t 22, .t 23], none⟩, ⟨some 6, .mv (.t 24), none⟩, ⟨some 7, .mv (.c (.int .i64 0)), none⟩] []) .ret)))⟩
theorem k15 : tab Try.prog 15 = some kf15 := by kernel_rfl
def twoE (c : C) (i j : Int) : Int := if checkM c ≠ 0 then checkM c else if i < 0 ∨ j < 0 ∨ (c.gs.length : Int) ≤ i ∨ (c.gs.length : Int) ≤ j then 1 else 0
def twoG (c : C) (i j n : Int) : G := if twoE c i j = 0 then c.gs.getD n.toNat default else ⟨0, [], 0, 0⟩
theorem getG_at {l : List G} {j : Nat} (hj : j < l.length) : l.getD j default = l[j] := by simp [List.getD, hj]
theorem two_ret (H : Heap) (c : C) (p : Pl) (i j : Int) {S : Nat → Prop} (hv : Gates S H p c.gs) (hl : c.gs.length < 4611686018427387904) :
    ∃ X q1 q2, Ret (tab Try.prog) 63 [cv c p, .int .i64 i, .int .i64 j] H (.tuple #[gv (twoG c i j i) q1, gv (twoG c i j j) q2, .int .i64 (twoE c i j)]) (H ++ X) ∧ Ints S H q1 (twoG c i j i).ws ∧ Ints S H q2 (twoG c i j j).ws := by
  have key := Ret_grow (T := tab Try.prog) (f := 63) (args := [cv c p, .int .i64 i, .int .i64 j]) (h := H) (fun u _ => ∃ q1 q2, u = .tuple #[gv (twoG c i j i) q1, gv (twoG c i j j) q2, .int .i64 (twoE c i j)] ∧ Ints S H q1 (twoG c i j i).ws ∧ Ints S H q2 (twoG c i j j).ws) k63 rfl ?_
  · obtain ⟨u, X, hr, q1, q2, rfl, f1, f2⟩ := key
    exact ⟨X, q1, q2, hr, f1, f2⟩
  refine AX_seq (AX_E (E_boxA rfl (E_new (E_new (E_mv (v := .int .i64 (0)) rfl (E_nil (AX_seq (AX_seq (AX_E (E_ldON (k := 0) rfl rfl (E_callV rfl (pcheck_ret _ c _ hv.app (by first | omega | (simp; done) | (simp; omega))) (E_mv (v := .int .i64 (checkM c)) rfl (E_nil (AX_seq (AX_E (E_mv (v := .int .i64 (checkM c)) rfl (E_neqS rfl rfl (fun c13 => ?_) (fun c13 => ?_))))))))))))))))))
  · refine E_nil (AX_condT rfl (AX_seq (AX_EB (fun b => b = (H).length + 1) (E_ldON (k := 1) rfl rfl (E_ldON (k := 2) rfl rfl (E_mv (v := .int .i64 (checkM c)) rfl (E_stP (k := 1) (by first | rfl | exact .inl rfl | exact .inr rfl | exact .inr (.inr rfl)) (by decide) rfl (v := .agg _) rfl rfl rfl rfl (E_stO (k := 2) rfl rfl (v := .agg _) rfl rfl rfl rfl (E_mv (v := .int .i64 (checkM c)) rfl (E_nil (AX_ret ?_)))))))))))
    refine ⟨_, (res3 (res_cellN (k := 1) rfl rfl) (res_cellN (k := 2) rfl rfl) (res_tmp rfl)), by simp, (forget_any (List.prefix_append _ _)).imp fun X e => ⟨e, ?_⟩⟩
    -- r1
    have e0 : twoE c i j = checkM c := by unfold twoE; (repeat' split) <;> omega
    have e1 : twoE c i j ≠ 0 := by omega
    simp only [twoG, if_neg e1]
    exact ⟨(none, 0), (none, 0), by rw [e0]; rfl, Ints.nil, Ints.nil⟩
  · refine E_nil (AX_condF rfl (AX_skip ?_))
    refine AX_cut (X := Unit) (fun _ => [(1, .int .i64 (i)), (2, .int .i64 (j)), (3, .pointer (some ⟨(H).length + 0, 0, none⟩)), (6, .pointer (some ⟨(H).length + 1, 0, none⟩)), (7, .pointer (some ⟨(H).length + 2, 0, none⟩))]) (fun _ h_ m_ => h_ = H ++ [CO.row [.int .i64 (c.w), .int .i64 (c.b), .slice (p).1 (c.gs).length (p).2] true none, CO.row [.int .i64 (0), .slice none 0 0, .int .i64 (0), .int .i64 (0)] true none, CO.row [.int .i64 (0), .slice none 0 0, .int .i64 (0), .int .i64 (0)] true none] ∧ m_ = [] ∧ ¬ (i < 0 ∨ j < 0 ∨ (c.gs.length : Int) ≤ i ∨ (c.gs.length : Int) ≤ j)) ?_ ?_
    · intro Kc36 hNc36 hRc36 hEc36
      refine AX_seq (AX_E (E_mv (v := .int .i64 (i)) rfl (E_lssS rfl rfl (fun c18 => ?_) (fun c18 => ?_))))
      · refine E_mv (v := .bool _) rfl (E_notF rfl (E_notF rfl (E_pickT rfl (v := .bool _) rfl (E_mv (v := .bool _) rfl (E_notF rfl (E_notF rfl (E_notF rfl (E_notF rfl (E_notF rfl (E_pickT rfl (v := .bool _) rfl (E_mv (v := .bool _) rfl (E_notF rfl (E_notF rfl (E_notF rfl (E_notF rfl (E_notF rfl (E_pickT rfl (v := .bool _) rfl (E_nil (AX_condT rfl (AX_seq (AX_EB (fun b => b = (H).length + 1) (E_ldON (k := 1) rfl rfl (E_ldON (k := 2) rfl rfl (E_stP (k := 1) (by first | rfl | exact .inl rfl | exact .inr rfl | exact .inr (.inr rfl)) (by decide) rfl (v := .agg _) rfl rfl rfl rfl (E_stO (k := 2) rfl rfl (v := .agg _) rfl rfl rfl rfl (E_mv (v := .int .i64 (1)) rfl (E_nil (AX_ret (hRc36 _ _ _ ?_)))))))))))))))))))))))))))))
        refine ⟨_, (res3 (res_cellN (k := 1) rfl rfl) (res_cellN (k := 2) rfl rfl) (res_tmp rfl)), by simp, (forget_any (List.prefix_append _ _)).imp fun X e => ⟨e, ?_⟩⟩
        -- r2
        have e0 : twoE c i j = 1 := by unfold twoE; (repeat' split) <;> omega
        have e1 : twoE c i j ≠ 0 := by omega
        simp only [twoG, if_neg e1]
        exact ⟨(none, 0), (none, 0), by rw [e0]; rfl, Ints.nil, Ints.nil⟩
      · refine E_mv (v := .bool _) rfl (E_on rfl (E_mv (v := .int .i64 (j)) rfl (E_on rfl (E_lssS rfl rfl (fun c21 => ?_) (fun c21 => ?_)))))
        · refine E_pickF rfl (v := .bool _) rfl (E_mv (v := .bool _) rfl (E_notF rfl (E_notF rfl (E_notF rfl (E_notF rfl (E_notF rfl (E_pickT rfl (v := .bool _) rfl (E_mv (v := .bool _) rfl (E_notF rfl (E_notF rfl (E_notF rfl (E_notF rfl (E_notF rfl (E_pickT rfl (v := .bool _) rfl (E_nil (AX_condT rfl (AX_seq (AX_EB (fun b => b = (H).length + 1) (E_ldON (k := 1) rfl rfl (E_ldON (k := 2) rfl rfl (E_stP (k := 1) (by first | rfl | exact .inl rfl | exact .inr rfl | exact .inr (.inr rfl)) (by decide) rfl (v := .agg _) rfl rfl rfl rfl (E_stO (k := 2) rfl rfl (v := .agg _) rfl rfl rfl rfl (E_mv (v := .int .i64 (1)) rfl (E_nil (AX_ret (hRc36 _ _ _ ?_))))))))))))))))))))))))))
          refine ⟨_, (res3 (res_cellN (k := 1) rfl rfl) (res_cellN (k := 2) rfl rfl) (res_tmp rfl)), by simp, (forget_any (List.prefix_append _ _)).imp fun X e => ⟨e, ?_⟩⟩
          -- r3
          have e0 : twoE c i j = 1 := by unfold twoE; (repeat' split) <;> omega
          have e1 : twoE c i j ≠ 0 := by omega
          simp only [twoG, if_neg e1]
          exact ⟨(none, 0), (none, 0), by rw [e0]; rfl, Ints.nil, Ints.nil⟩
        · refine E_pickF rfl (v := .bool _) rfl (E_mv (v := .bool _) rfl (E_on rfl (E_mv (v := .int .i64 (i)) rfl (E_on rfl (E_fa rfl (E_on rfl (E_ldO (k := 0) (v := .slice _ _ _) rfl rfl (E_on rfl (E_len (n := (c.gs).length) rfl (E_on rfl (E_geqS rfl rfl (fun c28 => ?_) (fun c28 => ?_))))))))))))
          · refine E_pickF rfl (v := .bool _) rfl (E_mv (v := .bool _) rfl (E_notF rfl (E_notF rfl (E_notF rfl (E_notF rfl (E_notF rfl (E_pickT rfl (v := .bool _) rfl (E_nil (AX_condT rfl (AX_seq (AX_EB (fun b => b = (H).length + 1) (E_ldON (k := 1) rfl rfl (E_ldON (k := 2) rfl rfl (E_stP (k := 1) (by first | rfl | exact .inl rfl | exact .inr rfl | exact .inr (.inr rfl)) (by decide) rfl (v := .agg _) rfl rfl rfl rfl (E_stO (k := 2) rfl rfl (v := .agg _) rfl rfl rfl rfl (E_mv (v := .int .i64 (1)) rfl (E_nil (AX_ret (hRc36 _ _ _ ?_)))))))))))))))))))
            refine ⟨_, (res3 (res_cellN (k := 1) rfl rfl) (res_cellN (k := 2) rfl rfl) (res_tmp rfl)), by simp, (forget_any (List.prefix_append _ _)).imp fun X e => ⟨e, ?_⟩⟩
            -- r4
            have e0 : twoE c i j = 1 := by unfold twoE; (repeat' split) <;> omega
            have e1 : twoE c i j ≠ 0 := by omega
            simp only [twoG, if_neg e1]
            exact ⟨(none, 0), (none, 0), by rw [e0]; rfl, Ints.nil, Ints.nil⟩
          · refine E_pickF rfl (v := .bool _) rfl (E_mv (v := .bool _) rfl (E_on rfl (E_mv (v := .int .i64 (j)) rfl (E_on rfl (E_fa rfl (E_on rfl (E_ldO (k := 0) (v := .slice _ _ _) rfl rfl (E_on rfl (E_len (n := (c.gs).length) rfl (E_on rfl (E_geqS rfl rfl (fun c35 => ?_) (fun c35 => ?_))))))))))))
            · refine E_pickF rfl (v := .bool _) rfl (E_nil (AX_condT rfl (AX_seq (AX_EB (fun b => b = (H).length + 1) (E_ldON (k := 1) rfl rfl (E_ldON (k := 2) rfl rfl (E_stP (k := 1) (by first | rfl | exact .inl rfl | exact .inr rfl | exact .inr (.inr rfl)) (by decide) rfl (v := .agg _) rfl rfl rfl rfl (E_stO (k := 2) rfl rfl (v := .agg _) rfl rfl rfl rfl (E_mv (v := .int .i64 (1)) rfl (E_nil (AX_ret (hRc36 _ _ _ ?_))))))))))))
              refine ⟨_, (res3 (res_cellN (k := 1) rfl rfl) (res_cellN (k := 2) rfl rfl) (res_tmp rfl)), by simp, (forget_any (List.prefix_append _ _)).imp fun X e => ⟨e, ?_⟩⟩
              -- r5
              have e0 : twoE c i j = 1 := by unfold twoE; (repeat' split) <;> omega
              have e1 : twoE c i j ≠ 0 := by omega
              simp only [twoG, if_neg e1]
              exact ⟨(none, 0), (none, 0), by rw [e0]; rfl, Ints.nil, Ints.nil⟩
            · refine E_pickF rfl (v := .bool _) rfl (E_nil (AX_condF rfl (AX_skip ?_)))
              refine hNc36 (()) _ _ _ ⟨by first | rfl | (congr 1; omega), by first | rfl | (congr 1; omega), by first | rfl | (congr 1; omega), by first | rfl | (congr 1; omega), by first | rfl | (congr 1; omega), trivial⟩ ⟨rfl, rfl, ?_⟩
              -- u6
              clear hNc36 hRc36 hEc36
              omega
    rintro ⟨⟩ frc36 hc36 mc36 ⟨rfl, rfl, invc36⟩
    refine AX_seq (AX_EB (fun b => b = (H).length + 1) (E_fa rfl (E_ldO (k := 0) (v := .slice _ _ _) rfl rfl (E_mv (v := .int .i64 (i)) rfl (have ix1 : (i).toNat < (c.gs).length := (by first | omega | (simp; done) | (simp; omega)); E_iaGb (j := (i).toNat) rfl hv rfl rfl (by omega) ix1 fun b1 o1 q1 f1 w1 => (E_ldBN rfl w1 (E_fa rfl (E_ldO (k := 0) (v := .slice _ _ _) rfl rfl (E_mv (v := .int .i64 (j)) rfl (have ix2 : (j).toNat < (c.gs).length := (by first | omega | (simp; done) | (simp; omega)); E_iaGb (j := (j).toNat) rfl hv rfl rfl (by omega) ix2 fun b2 o2 q2 f2 w2 => (E_ldBN rfl w2 (E_stP (k := 1) (by first | rfl | exact .inl rfl | exact .inr rfl | exact .inr (.inr rfl)) (by decide) rfl (v := .agg _) rfl rfl rfl rfl (E_stO (k := 2) rfl rfl (v := .agg _) rfl rfl rfl rfl (E_mv (v := .int .i64 (0)) rfl (E_nil (AX_ret ?_))))))))))))))))
    refine ⟨_, (res3 (res_cellN (k := 1) rfl rfl) (res_cellN (k := 2) rfl rfl) (res_tmp rfl)), by simp, (forget_any (List.prefix_append _ _)).imp fun X e => ⟨e, ?_⟩⟩
    -- r7
    have e1 : twoE c i j = 0 := by unfold twoE; (repeat' split) <;> omega
    simp only [twoG, if_pos e1, e1, getG_at (show i.toNat < c.gs.length by omega), getG_at (show j.toNat < c.gs.length by omega)]
    exact ⟨q1, q2, rfl, f1, f2⟩
theorem two_gr {c : C} {i j n : Int} (e : twoE c i j = 0) (hn : n = i ∨ n = j) : GR (twoG c i j n) := by
  have h := e
  unfold twoE at h
  split at h
  · omega
  · split at h
    · omega
    · rename_i h1 h2
      have hc : CR c := CR.of (by simpa using h1)
      rw [twoG, if_pos e, getG_at (show n.toNat < c.gs.length by omega)]
      exact hc.gr (List.getElem_mem _)
theorem pCommute_ret (H : Heap) (c : C) (p : Pl) (i j : Int) {S : Nat → Prop} (hv : Gates S H p c.gs) (hl : c.gs.length < 4611686018427387904) :
    Ret (tab Try.prog) 15 [cv c p, .int .i64 i, .int .i64 j] H (.tuple #[.bool (if twoE c i j = 0 then decide (commM (twoG c i j i) (twoG c i j j)) else false), .int .i64 (twoE c i j)]) H := by
  refine Ret_own k15 rfl ?_
  refine AX_seq (AX_E (E_boxA rfl (E_mv (v := .bool _) rfl (E_mv (v := .int .i64 (0)) rfl (E_nil (AX_seq (AX_E (E_ldON (k := 0) rfl rfl (E_mv (v := .int .i64 (i)) rfl (E_mv (v := .int .i64 (j)) rfl ?_))))))))))
  obtain ⟨X1, p1, q1, hr1, f1, g1⟩ := two_ret _ c _ (i) (j) hv.app (by first | omega | (simp; done) | (simp; omega))
  refine E_callX (X := X1) rfl (hr1) (E_mv (v := .tuple _) rfl (E_ext (v := .agg _) rfl rfl (E_ext (v := .agg _) rfl rfl (E_ext (v := .int .i64 (twoE c (i) (j))) rfl rfl (E_new (E_new (E_stO (k := 0) rfl rfl (v := .agg _) rfl rfl rfl rfl (E_stO (k := 1) rfl rfl (v := .agg _) rfl rfl rfl rfl (E_mv (v := .int .i64 (twoE c (i) (j))) rfl (E_nil (AX_seq (AX_seq (AX_E (E_mv (v := .int .i64 (twoE c (i) (j))) rfl (E_neqS rfl rfl (fun c20 => ?_) (fun c20 => ?_))))))))))))))))
  · refine E_nil (AX_condT rfl (AX_seq (AX_E (E_mv (v := .int .i64 (twoE c (i) (j))) rfl (E_mv (v := .bool _) rfl (E_mv (v := .int .i64 (twoE c (i) (j))) rfl (E_nil (AX_ret ?_))))))))
    refine ⟨_, rfl, by simp, ?_, forget_flat rfl ((List.prefix_append _ _).trans (List.prefix_append _ _))⟩
    -- r1
    show Value.tuple #[.bool false, .int .i64 (twoE c (i) (j))] = _
    simp [*]
  · refine E_nil (AX_condF rfl (AX_skip (AX_seq (AX_E (E_ldON (k := 0) rfl rfl (E_ldON (k := 1) rfl rfl (E_callP rfl (pcomm_ret _ (twoG c (i) (j) (i)) (twoG c (i) (j) (j)) _ _ f1.grow.app g1.grow.app (two_gr c20 (.inl rfl)) (two_gr c20 (.inr rfl))) (fun c24 => ?_) (fun c24 => ?_))))))))
    · refine E_mv (v := .bool _) rfl (E_mv (v := .int .i64 (0)) rfl (E_nil (AX_ret ?_)))
      refine ⟨_, rfl, by simp, ?_, forget_flat rfl ((List.prefix_append _ _).trans (List.prefix_append _ _))⟩
      -- r2
      show Value.tuple #[.bool true, .int .i64 (0)] = _
      simp [*]
    · refine E_mv (v := .bool _) rfl (E_mv (v := .int .i64 (0)) rfl (E_nil (AX_ret ?_)))
      refine ⟨_, rfl, by simp, ?_, forget_flat rfl ((List.prefix_append _ _).trans (List.prefix_append _ _))⟩
      -- r3
      show Value.tuple #[.bool false, .int .i64 (0)] = _
      simp [*]
end Go.Canon
namespace Go.Canon
open Go Go.Proofs
set_option linter.unusedVariables false
set_option linter.unusedSimpArgs false
def kf95 : KFunc := ⟨1, 15, [.cell 2 (some 4)], .seq (.reg [⟨some 1, .box (.t 0), none⟩, ⟨some 2, .new [.int .i64 0, .slice none 0 0, .int .i64 0, .int .i64 0], none⟩] []) (.seq (.reg [⟨some 4, .fa (.t 1) 1, none⟩, ⟨some 5, .ld (.t 4) none, none⟩, ⟨some 6, .len (.t 5), none⟩, ⟨some 7, .mkSl (.t 6) (.t 6) [.int .i64 0] 8, none⟩, ⟨some 3, .mv (.t 7), none⟩] []) (.seq (.reg [⟨some 8, .mv (.t 3), none⟩, ⟨some 9, .fa (.t 1) 1, none⟩, ⟨some 10, .ld (.t 9) none, none⟩, ⟨some 11, .cpy (.t 8) (.t 10) 1, none⟩] []) (.seq (.reg [⟨some 12, .mv (.t 3), none⟩, ⟨some 13, .fa (.t 1) 1, none⟩, ⟨none, .st (.t 13) (.t 12) 1, none⟩] []) (.seq (.reg [⟨some 14, .ld (.t 1) (some 4), none⟩, ⟨none, .st (.t 2) (.t 14) 4, none⟩] []) .ret))))⟩
theorem k95 : tab Try.prog 95 = some kf95 := by kernel_rfl
def kf38 : KFunc := ⟨1, 8, [.tmp 2], .seq (.reg [⟨some 2, .mv (.c (.slice none 0 0)), none⟩] []) (.seq (.seq (.reg [⟨some 3, .mv (.t 0), none⟩, ⟨some 4, .eqN false 0 (.t 3), none⟩] []) (.cond (.t 4) (.seq (.reg [⟨some 2, .mv (.c (.slice none 0 0)), none⟩] []) .ret) .skip)) (.seq (.reg [⟨some 5, .mkS [] 0 [], none⟩, ⟨some 6, .mv (.t 0), none⟩, ⟨some 7, .app (.t 5) (.t 6) 1 8, none⟩, ⟨some 2, .mv (.t 7), none⟩] []) .ret))⟩
theorem k38 : tab Try.prog 38 = some kf38 := by kernel_rfl
def kf72 : KFunc := ⟨1, 8, [.tmp 2], .seq (.reg [⟨some 2, .mv (.c (.slice none 0 0)), none⟩] []) (.seq (.seq (.reg [⟨some 3, .mv (.t 0), none⟩, ⟨some 4, .eqN false 0 (.t 3), none⟩] []) (.cond (.t 4) (.seq (.reg [⟨some 2, .mv (.c (.slice none 0 0)), none⟩] []) .ret) .skip)) (.seq (.reg [⟨some 5, .mkS [] 0 [], none⟩, ⟨some 6, .mv (.t 0), none⟩, ⟨some 7, .app (.t 5) (.t 6) 4 48, none⟩, ⟨some 2, .mv (.t 7), none⟩] []) .ret))⟩
theorem k72 : tab Try.prog 72 = some kf72 := by kernel_rfl
def kf8 : KFunc := ⟨1, 35, [.cell 2 (some 3)], .seq (.reg [⟨some 1, .box (.t 0), none⟩, ⟨some 2, .new [.int .i64 0, .int .i64 0, .slice none 0 0], none⟩] []) (.seq (.reg [⟨some 6, .fa (.t 1) 0, none⟩, ⟨some 7, .ld (.t 6) none, none⟩, ⟨some 8, .fa (.t 1) 1, none⟩, ⟨some 9, .ld (.t 8) none, none⟩, ⟨some 10, .mk [.int .i64 0, .int .i64 0, .slice none 0 0] [(0, 1, .t 7), (1, 1, .t 9)], none⟩, ⟨some 3, .new [.int .i64 0, .int .i64 0, .slice none 0 0], none⟩, ⟨none, .st (.t 3) (.t 10) 3, none⟩] []) (.seq (.seq (.reg [⟨some 11, .fa (.t 1) 2, none⟩, ⟨some 12, .ld (.t 11) none, none⟩, ⟨some 13, .len (.t 12), none⟩, ⟨some 14, .mv (.c (.int .i64 0)), none⟩] []) (.block 0 (.loop (.seq (.reg [⟨some 15, .bin .lss (.t 14) (.t 13), none⟩] []) (.seq (.cond (.t 15) .skip (.exit 0)) (.seq (.block 1 (.seq (.reg [⟨some 16, .iaS (.t 12) (.t 14) 4, none⟩, ⟨some 17, .ld (.t 16) (some 4), none⟩, ⟨some 5, .new [.int .i64 0, .slice none 0 0, .int .i64 0, .int .i64 0], none⟩, ⟨none, .st (.t 5) (.t 17) 4, none⟩] []) (.reg [⟨some 18, .fa (.t 3) 2, none⟩, ⟨some 19, .ld (.t 18) none, none⟩, ⟨some 20, .fa (.t 5) 0, none⟩, ⟨some 21, .ld (.t 20) none, none⟩, ⟨some 22, .fa (.t 5) 1, none⟩, ⟨some 23, .ld (.t 22) none, none⟩, ⟨some 24, .call (.c (.func (.func 38) #[] #[])) [.t 23], none⟩, ⟨some 25, .fa (.t 5) 2, none⟩, ⟨some 26, .ld (.t 25) none, none⟩, ⟨some 27, .fa (.t 5) 3, none⟩, ⟨some 28, .ld (.t 27) none, none⟩, ⟨some 29, .mk [.int .i64 0, .slice none 0 0, .int .i64 0, .int .i64 0] [(0, 1, .t 21), (1, 1, .t 24), (2, 1, .t 26), (3, 1, .t 28)], none⟩, ⟨some 30, .mkS [.int .i64 0, .slice none 0 0, .int .i64 0, .int .i64 0] 1 [(0, 4, .t 29)], none⟩, ⟨some 31, .app (.t 19) (.t 30) 4 48, none⟩, ⟨some 32, .fa (.t 3) 2, none⟩, ⟨none, .st (.t 32) (.t 31) 1, none⟩] [(1, 6), (3, 6), (6, 8), (6, 10)]))) (.reg [⟨some 33, .bin .add (.t 14) (.c (.int .i64 1)), none⟩, ⟨some 14, .mv (.t 33), none⟩] []))))))) (.seq (.reg [⟨some 34, .ld (.t 3) (some 3), none⟩, ⟨none, .st (.t 2) (.t 34) 3, none⟩] []) .ret)))⟩
theorem k8 : tab Try.prog 8 = some kf8 := by kernel_rfl
def kf68 : KFunc := ⟨1, 28, [.tmp 2], .seq (.reg [⟨some 2, .mv (.c (.slice none 0 0)), none⟩] []) (.seq (.reg [⟨some 3, .mv (.c (.slice none 0 0)), none⟩] []) (.seq (.seq (.reg [⟨some 8, .mv (.t 0), none⟩, ⟨some 9, .len (.t 8), none⟩, ⟨some 10, .mv (.c (.int .i64 0)), none⟩] []) (.block 0 (.loop (.seq (.reg [⟨some 11, .bin .lss (.t 10) (.t 9), none⟩] []) (.seq (.cond (.t 11) .skip (.exit 0)) (.seq (.block 1 (.seq (.reg [⟨some 12, .iaS (.t 8) (.t 10) 1, none⟩, ⟨some 13, .ld (.t 12) none, none⟩, ⟨some 5, .mv (.t 13), none⟩] []) (.seq (.reg [⟨some 14, .mv (.t 5), none⟩, ⟨some 15, .len (.t 14), none⟩, ⟨some 16, .mv (.c (.int .i64 0)), none⟩] []) (.block 2 (.loop (.seq (.reg [⟨some 17, .bin .lss (.t 16) (.t 15), none⟩] []) (.seq (.cond (.t 17) .skip (.exit 2)) (.seq (.block 3 (.seq (.reg [⟨some 18, .iaS (.t 14) (.t 16) 4, none⟩, ⟨some 19, .ld (.t 18) (some 4), none⟩, ⟨some 7, .new [.int .i64 0, .slice none 0 0, .int .i64 0, .int .i64 0], none⟩, ⟨none, .st (.t 7) (.t 19) 4, none⟩] []) (.reg [⟨some 20, .mv (.t 3), none⟩, ⟨some 21, .ld (.t 7) (some 4), none⟩, ⟨some 22, .call (.c (.func (.func 95) #[] #[])) [.t 21], none⟩, ⟨some 23, .mkS [.int .i64 0, .slice none 0 0, .int .i64 0, .int .i64 0] 1 [(0, 4, .t 22)], none⟩, ⟨some 24, .app (.t 20) (.t 23) 4 48, none⟩, ⟨some 3, .mv (.t 24), none⟩] []))) (.reg [⟨some 25, .bin .add (.t 16) (.c (.int .i64 1)), none⟩, ⟨some 16, .mv (.t 25), none⟩] []))))))))) (.reg [⟨some 26, .bin .add (.t 10) (.c (.int .i64 1)), none⟩, ⟨some 10, .mv (.t 26), none⟩] []))))))) (.seq (.reg [⟨some 27, .mv (.t 3), none⟩, ⟨some 2, .mv (.t 27), none⟩] []) .ret)))⟩
theorem k68 : tab Try.prog 68 = some kf68 := by kernel_rfl
theorem pown_ret (H : Heap) (g : G) (p : Pl) {S : Nat → Prop} (hv : Ints S H p g.ws) (hl : g.ws.length < 4294967296) : ∃ X q, Ret (tab Try.prog) 95 [gv g p] H (gv g q) (H ++ X) ∧ IntsZ H.length X q g.ws ∧ q.1 ≠ none := by
  have key := Ret_grow (T := tab Try.prog) (f := 95) (args := [gv g p]) (h := H) (fun u X => ∃ q, u = gv g q ∧ IntsZ H.length X q g.ws ∧ q.1 ≠ none) k95 rfl ?_
  · obtain ⟨u, X, hr, q, rfl, f1⟩ := key
    exact ⟨X, q, hr, f1⟩
  refine AX_seq (AX_E (E_boxA rfl (E_new (E_nil (AX_seq (AX_E (E_fa rfl (E_ldO (k := 0) (v := .slice _ _ _) rfl rfl (E_len (n := (g.ws).length) rfl (E_mkSlI (n := g.ws.length) rfl rfl (by first | omega | (simp; done) | (simp; omega)) (E_mv (v := .slice _ _ _) rfl (E_nil (AX_seq (AX_E (E_mv (v := .slice _ _ _) rfl (E_fa rfl (E_ldO (k := 0) (v := .slice _ _ _) rfl rfl (E_cpyI (k := 2) rfl rfl rfl (by simp) rfl (hv).app rfl (E_nil (AX_seq (AX_E (E_mv (v := .slice _ _ _) rfl (E_fa rfl (E_stO (k := 0) rfl rfl (v := .slice _ _ _) rfl rfl rfl rfl (E_nil (AX_seq (AX_E (E_ldON (k := 0) rfl rfl (E_stO (k := 1) rfl rfl (v := .agg _) rfl rfl rfl rfl (E_nil (AX_ret ?_)))))))))))))))))))))))))))))))
  refine ⟨_, res1 (res_cellN (k := 1) rfl rfl), by simp, ?_⟩
  exact ⟨_, forget_more (v := gv g (some ⟨H.length + 2, 0, none⟩, g.ws.length)) (gv_more (by simp)), _, rfl, IntsZ.row (j := 2) rfl (.inl rfl), by simp⟩
theorem clone_ret (H : Heap) (p : Pl) (l : List Int) {S : Nat → Prop} (hv : Ints S H p l) (hl : l.length < 4294967296) : ∃ X q, Ret (tab Try.prog) 38 [.slice p.1 l.length p.2] H (.slice q.1 l.length q.2) (H ++ X) ∧ IntsZ H.length X q l := by
  have key := Ret_grow (T := tab Try.prog) (f := 38) (args := [.slice p.1 l.length p.2]) (h := H) (fun u X => ∃ q : Pl, u = .slice q.1 l.length q.2 ∧ IntsZ H.length X q l) k38 rfl ?_
  · obtain ⟨u, X, hr, q, rfl, f1⟩ := key
    exact ⟨X, q, hr, f1⟩
  refine AX_seq (AX_E (E_mv (v := .slice _ _ _) rfl (E_nil (AX_seq (AX_seq (AX_E (E_mv (v := .slice _ _ _) rfl (E_eqN (b := (p).1.isNone) rfl (E_bs (fun c4 => ?_) (fun c4 => ?_))))))))))
  · refine E_nil (AX_condT rfl (AX_seq (AX_E (E_mv (v := .slice _ _ _) rfl (E_nil (AX_ret ?_))))))
    have hp : p.1 = none := by simpa using c4
    have hl0 : l = [] := by
      obtain ⟨h1, h2, ⟨h3, h4⟩ | ⟨b, o, cs, wr, gr, e1, _⟩⟩ := hv
      · exact List.length_eq_zero_iff.1 (by omega)
      · rw [hp] at e1; cases e1
    subst hl0
    refine ⟨_, rfl, by simp, [], forget_nil rfl (List.prefix_append _ _), (none, 0), rfl, ?_⟩
    exact fun A hA => Ints.nil
  · refine E_nil (AX_condF rfl (AX_skip (AX_seq (AX_E (E_mkS (cs := []) rfl (E_mv (v := .slice _ _ _) rfl (E_app0 (k := 0) rfl rfl rfl (Cells.first (Ints.app hv)) (by simp only [roomB]; omega) (by simp) fun W q hW => (E_mv (v := .slice _ _ _) rfl (E_nil (AX_ret ?_))))))))))
    have hq : q.1 ≠ none := by rcases hW with ⟨_, rfl, _⟩ | ⟨_, rfl, _⟩ <;> simp
    refine ⟨_, rfl, by simp, _, forget_more (v := .slice q.1 l.length q.2) (by rcases h : flat2 (.slice q.1 l.length q.2); rfl; exact (hq (sl_flat h)).elim), q, rfl, ?_⟩
    rcases hW with ⟨h0, rfl, rfl⟩ | ⟨_, rfl, rfl⟩
    · have : l = [] := List.length_eq_zero_iff.1 h0
      rw [this]
      exact IntsZ.empty (j := 0) rfl
    · exact IntsZ.row (j := 1) rfl (.inr rfl)
theorem kown_ret (H : Heap) (c : C) (p : Pl) {S : Nat → Prop} (hv : Gates S H p c.gs) (hl : c.gs.length < 4294967296) (hw : ∀ g ∈ c.gs, g.ws.length < 4294967296) : ∃ X p', Ret (tab Try.prog) 8 [cv c p] H (cv c p') (H ++ X) ∧ GatesZ H.length X p' c.gs := by
  have key := Ret_grow (T := tab Try.prog) (f := 8) (args := [cv c p]) (h := H) (fun u X => ∃ p', u = cv c p' ∧ GatesZ H.length X p' c.gs) k8 rfl ?_
  · obtain ⟨u, X, hr, p', rfl, f1⟩ := key
    exact ⟨X, p', hr, f1⟩
  refine AX_seq (AX_E (E_boxA rfl (E_new (E_nil (AX_seq (AX_E (E_fa rfl (E_ldO (k := 0) (v := .int .i64 (c.w)) rfl rfl (E_fa rfl (E_ldO (k := 0) (v := .int .i64 (c.b)) rfl rfl (E_mk (cs := [.int .i64 (c.w), .int .i64 (c.b), .slice none 0 0]) rfl (E_new (E_stO (k := 2) rfl rfl (v := .agg _) rfl rfl rfl rfl (E_nil (AX_seq (AX_seq (AX_E (E_fa rfl (E_ldO (k := 0) (v := .slice _ _ _) rfl rfl (E_len (n := (c.gs).length) rfl (E_mv (v := .int .i64 (0)) rfl (E_nil (AX_block ?_)))))))))))))))))))))))
  refine AX_loopF (γ := Nat × Pl) (fun x => [(2, .pointer (some ⟨(H).length + 1, 0, none⟩)), (3, .pointer (some ⟨(H).length + 2, 0, none⟩)), (12, .slice (p).1 (c.gs).length (p).2), (13, .int .i64 ((c.gs).length)), (14, .int .i64 ((x.1 : Int)))]) (fun x h_ m_ => (∃ z_, h_ = H ++ ([CO.row [.int .i64 (c.w), .int .i64 (c.b), .slice (p).1 (c.gs).length (p).2] true none, CO.row [.int .i64 (0), .int .i64 (0), .slice none 0 0] true none, CO.row [.int .i64 (c.w), .int .i64 (c.b), .slice (x.2).1 (c.gs.take x.1).length (x.2).2] true none] ++ z_) ∧ Bld (H.length + 3) z_ x.2 (c.gs.take x.1)) ∧ m_ = [] ∧ x.1 ≤ c.gs.length) (fun x => c.gs.length - x.1) (0, (none, 0)) ⟨rfl, rfl, rfl, rfl, rfl, trivial⟩ ⟨⟨[], app0 _ _, Bld.nil⟩, rfl, ?_⟩ ?_
  · simp
  rintro ⟨j, p0⟩ fr0 h0 m0 ⟨⟨z0, rfl, zf0⟩, rfl, inv0⟩ K0 hN0 hR0 hE0
  try dsimp only at zf0 inv0
  refine AX_nil ?_
  refine AX_seq (AX_E (E_lssS rfl rfl (fun c15 => ?_) (fun c15 => ?_)))
  · refine E_nil (AX_seq (AX_condT rfl (AX_skip (AX_seq (AX_block (AX_seq (AX_E (have ix1 : j < (c.gs).length := (by first | omega | (simp; done) | (simp; omega)); E_iaGb (j := j) rfl hv.app rfl rfl rfl ix1 fun b1 o1 q1 f1 w1 => (E_ldBN rfl w1 (E_new (E_stO (k := 0) rfl rfl (v := .agg _) rfl rfl rfl rfl (E_nil (AX_E (E_fa rfl (E_ldB (v := .slice _ _ _) rfl (rowGet_own (k := 2) rfl) (E_fa rfl (E_ldO (k := 0) (v := .int .i64 ((c.gs[j]'ix1).k)) rfl rfl (E_fa rfl (E_ldO (k := 0) (v := .slice _ _ _) rfl rfl ?_)))))))))))))))))))
    obtain ⟨X2, q2, hr2, f2⟩ := clone_ret _ _ _ f1.app (by exact hw _ (List.getElem_mem _))
    refine E_callX (X := X2) rfl (hr2) (E_fa rfl (E_ldB (v := .int .i64 ((c.gs[j]'ix1).b)) rfl (rowGet_own (k := 0) rfl) (E_fa rfl (E_ldB (v := .int .i64 ((c.gs[j]'ix1).f)) rfl (rowGet_own (k := 0) rfl) (E_mk (cs := [.int .i64 ((c.gs[j]'ix1).k), .slice (q2).1 ((c.gs[j]'ix1).ws).length (q2).2, .int .i64 ((c.gs[j]'ix1).b), .int .i64 ((c.gs[j]'ix1).f)]) rfl (E_mkS (cs := [.int .i64 ((c.gs[j]'ix1).k), .slice (q2).1 ((c.gs[j]'ix1).ws).length (q2).2, .int .i64 ((c.gs[j]'ix1).b), .int .i64 ((c.gs[j]'ix1).f)]) rfl (E_appG (A := [CO.row [.int .i64 (c.w), .int .i64 (c.b), .slice (p).1 (c.gs).length (p).2] true none, CO.row [.int .i64 (0), .int .i64 (0), .slice none 0 0] true none, CO.row [.int .i64 (c.w), .int .i64 (c.b), .slice (p0).1 (c.gs.take j).length (p0).2] true none]) (Z := z0) (W := ([CO.row [.int .i64 ((c.gs[j]'ix1).k), .slice (q1).1 ((c.gs[j]'ix1).ws).length (q1).2, .int .i64 ((c.gs[j]'ix1).b), .int .i64 ((c.gs[j]'ix1).f)] true none] ++ (X2 ++ [CO.row [.int .i64 ((c.gs[j]'ix1).k), .slice (q2).1 ((c.gs[j]'ix1).ws).length (q2).2, .int .i64 ((c.gs[j]'ix1).b), .int .i64 ((c.gs[j]'ix1).f)] true none]))) (gs' := c.gs.take (j + 1)) (by first | (simp only [List.append_assoc, List.append_nil, List.nil_append, List.cons_append, List.set_cons_zero, List.set_cons_succ]; done) | (simp only [List.append_assoc, List.append_nil, List.nil_append, List.cons_append, List.set_cons_zero, List.set_cons_succ]; rfl)) (List.take_succ_eq_append_getElem (by omega)) (n := (H.length + 3)) (by simp) (zf0) rfl rfl (rowGet_own (k := 0) rfl) (IntsZ.inside f2 (by simp; omega)) (by rw [List.length_take]; omega) rfl fun z3n p3n hb3n => (E_fa rfl (E_stO (k := 2) rfl rfl (v := .slice _ _ _) rfl rfl rfl rfl (E_nil (AX_E (E_addI rfl rfl (by first | omega | (simp; done) | (simp; omega)) (by first | omega | (simp; done) | (simp; omega)) (E_mv (v := .int .i64 (((j : Int) + 1))) rfl (E_nil ?_))))))))))))))
    refine hN0 (j + 1, p3n) _ _ _ ⟨by first | rfl | (congr 1; omega), by first | rfl | (congr 1; omega), by first | rfl | (congr 1; omega), by first | rfl | (congr 1; omega), by first | rfl | (congr 1; omega), trivial⟩ ⟨⟨z3n, rfl, hb3n⟩, rfl, ?_⟩ ?_
    -- n1
    all_goals clear hN0 hR0 hE0
    · omega
    · (first | omega | (simp; omega))
  · refine E_nil (AX_seq (AX_condF rfl (AX_exit (hE0 _ _ _ _ ?_))))
    have e0 : c.gs.take j = c.gs := List.take_of_length_le (by omega)
    refine AX_hp (h' := H ++ ([CO.row [.int .i64 (c.w), .int .i64 (c.b), .slice (p).1 (c.gs).length (p).2] true none, CO.row [.int .i64 (0), .int .i64 (0), .slice none 0 0] true none, CO.row [.int .i64 (c.w), .int .i64 (c.b), .slice (p0).1 (c.gs.take j).length (p0).2] true none] ++ z0)) (by first | (simp only [List.append_assoc, List.append_nil, List.nil_append, List.cons_append, List.set_cons_zero, List.set_cons_succ]; done) | (simp only [List.append_assoc, List.append_nil, List.nil_append, List.cons_append, List.set_cons_zero, List.set_cons_succ]; rfl)) ?_
    refine AX_seq (AX_E (E_ldON (k := 2) rfl rfl (E_stO (k := 1) rfl rfl (v := .agg _) rfl rfl rfl rfl (E_nil (AX_ret ?_)))))
    refine ⟨_, res1 (res_cellN (k := 1) rfl rfl), by simp, ?_⟩
    obtain ⟨X, h1, h2⟩ := leafG (h := H) (h' := H ++ ([CO.row [.int .i64 (c.w), .int .i64 (c.b), .slice (p).1 (c.gs).length (p).2] true none, CO.row [.int .i64 (c.w), .int .i64 (c.b), .slice (p0).1 (c.gs.take j).length (p0).2] true none, CO.row [.int .i64 (c.w), .int .i64 (c.b), .slice (p0).1 (c.gs.take j).length (p0).2] true none] ++ z0)) (A := [CO.row [.int .i64 (c.w), .int .i64 (c.b), .slice (p).1 (c.gs).length (p).2] true none, CO.row [.int .i64 (c.w), .int .i64 (c.b), .slice (p0).1 (c.gs.take j).length (p0).2] true none, CO.row [.int .i64 (c.w), .int .i64 (c.b), .slice (p0).1 (c.gs.take j).length (p0).2] true none]) (Z := z0) (u := cv ⟨c.w, c.b, c.gs.take j⟩ p0) rfl zf0.gates (by simp) cv_flat
    exact ⟨X, h1, p0, (show _ = cv ⟨c.w, c.b, c.gs.take j⟩ p0 from rfl).trans (by rw [e0] <;> rfl), by rw [e0] at h2; exact h2⟩
end Go.Canon
namespace Go.Canon
open Go Go.Proofs
set_option linter.unusedVariables false
set_option linter.unusedSimpArgs false
theorem flatten_next {gss : List (List G)} {j i : Nat} (hj : j < gss.length) (hi : ¬ ((i : Int) < (gss[j].length : Int))) : (gss.take j).flatten ++ gss[j].take i = (gss.take (j + 1)).flatten := by
  have e : gss[j].take i = gss[j] := List.take_of_length_le (by omega)
  rw [e, List.take_succ_eq_append_getElem hj, List.flatten_append]
  simp
theorem flatten_le {gss : List (List G)} {j i : Nat} (hj : j < gss.length) : ((gss.take j).flatten ++ gss[j].take i).length ≤ gss.flatten.length := by
  have h1 : gss.flatten = (gss.take j).flatten ++ (gss[j] ++ (gss.drop (j + 1)).flatten) := by
    conv => lhs; rw [← List.take_append_drop j gss, List.flatten_append, List.drop_eq_getElem_cons hj, List.flatten_cons]
  rw [h1]
  simp only [List.length_append, List.length_take]
  omega
theorem behind_ret (H : Heap) (p : Pl) (gss : List (List G)) (ps : List Pl) {S S' : Nat → Prop} (hv : Lists S H p ps gss) (hgs : ∀ j (h1 : j < gss.length) (h2 : j < ps.length), Gates S' H ps[j] gss[j]) (hn : gss.length < 4294967296) (hl : gss.flatten.length < 4294967296) (hw : ∀ gs ∈ gss, ∀ g ∈ gs, g.ws.length < 4294967296) :
    ∃ X p', Ret (tab Try.prog) 68 [.slice p.1 gss.length p.2] H (.slice p'.1 gss.flatten.length p'.2) (H ++ X) ∧ GatesZ H.length X p' gss.flatten := by
  have key := Ret_grow (T := tab Try.prog) (f := 68) (args := [.slice p.1 gss.length p.2]) (h := H) (fun u X => ∃ p' : Pl, u = .slice p'.1 gss.flatten.length p'.2 ∧ GatesZ H.length X p' gss.flatten) k68 rfl ?_
  · obtain ⟨u, X, hr, p', rfl, f1⟩ := key
    exact ⟨X, p', hr, f1⟩
  obtain ⟨hps, hc⟩ := hv
  refine AX_seq (AX_E (E_mv (v := .slice _ _ _) rfl (E_nil (AX_seq (AX_E (E_mv (v := .slice _ _ _) rfl (E_nil (AX_seq (AX_seq (AX_E (E_mv (v := .slice _ _ _) rfl (E_len (n := (gss).length) rfl (E_mv (v := .int .i64 (0)) rfl (E_nil (AX_block ?_)))))))))))))))
  refine AX_loopF (γ := Nat × Pl) (fun x => [(3, .slice (x.2).1 (((gss.take x.1).flatten)).length (x.2).2), (8, .slice p.1 gss.length p.2), (9, .int .i64 ((gss).length)), (10, .int .i64 ((x.1 : Int)))]) (fun x h_ m_ => (∃ z_, h_ = H ++ ([] ++ z_) ∧ Bld (H.length + 0) z_ x.2 ((gss.take x.1).flatten)) ∧ m_ = [] ∧ x.1 ≤ gss.length) (fun x => gss.length - x.1) (0, (none, 0)) ⟨rfl, rfl, rfl, rfl, trivial⟩ ⟨⟨[], app0 _ _, Bld.nil⟩, rfl, ?_⟩ ?_
  · simp
  rintro ⟨j, p0⟩ fr0 h0 m0 ⟨⟨z0, rfl, zf0⟩, rfl, inv0⟩ K0 hN0 hR0 hE0
  try dsimp only at zf0 inv0
  refine AX_nil ?_
  refine AX_seq (AX_E (E_lssS rfl rfl (fun c11 => ?_) (fun c11 => ?_)))
  · refine E_nil (AX_seq (AX_condT rfl (AX_skip (AX_seq (AX_block (AX_seq (AX_E (have hj1 : j < gss.length := (by omega); have hj2 : j < ps.length := (by omega); have hle : gss[j].length ≤ gss.flatten.length := (by have := flatten_le (i := gss[j].length) hj1; simp only [List.length_append, List.take_length] at this; omega); E_iaCb (j := j) (v := .slice ((ps[j]'hj2)).1 ((gss[j]'hj1)).length ((ps[j]'hj2)).2) rfl hc.app rfl rfl (by first | omega | (simp; done) | (simp; omega)) (lists_at hj1 hj2) fun b1 o1 w1 => (E_ldB (v := .slice _ _ _) rfl w1 (E_mv (v := .slice _ _ _) rfl (E_nil (AX_seq (AX_E (E_mv (v := .slice _ _ _) rfl (E_len (n := ((gss[j]'hj1)).length) rfl (E_mv (v := .int .i64 (0)) rfl (E_nil (AX_block ?_))))))))))))))))))
    refine AX_hp (h' := H ++ ([] ++ z0)) (by first | (simp only [List.append_assoc, List.append_nil, List.nil_append, List.cons_append, List.set_cons_zero, List.set_cons_succ]; done) | (simp only [List.append_assoc, List.append_nil, List.nil_append, List.cons_append, List.set_cons_zero, List.set_cons_succ]; rfl)) ?_
    refine AX_loopF (γ := Nat × Pl) (fun x => [(3, .slice (x.2).1 (((gss.take j).flatten ++ gss[j].take x.1)).length (x.2).2), (8, .slice p.1 gss.length p.2), (9, .int .i64 ((gss).length)), (10, .int .i64 ((j : Int))), (14, .slice ((ps[j]'hj2)).1 ((gss[j]'hj1)).length ((ps[j]'hj2)).2), (15, .int .i64 (((gss[j]'hj1)).length)), (16, .int .i64 ((x.1 : Int)))]) (fun x h_ m_ => (∃ z_, h_ = H ++ ([] ++ z_) ∧ Bld (H.length + 0) z_ x.2 ((gss.take j).flatten ++ gss[j].take x.1)) ∧ m_ = [] ∧ x.1 ≤ gss[j].length) (fun x => gss[j].length - x.1) (0, p0) ⟨(congrArg (fun l => Value.slice p0.1 (List.length l) p0.2) (show (gss.take j).flatten = (gss.take j).flatten ++ gss[j].take 0 by simp)), rfl, rfl, rfl, rfl, rfl, rfl, trivial⟩ ⟨⟨z0, rfl, (by simpa using zf0)⟩, rfl, ?_⟩ ?_
    · simp
    rintro ⟨i, p2⟩ fr2 h2 m2 ⟨⟨z2, rfl, zf2⟩, rfl, inv2⟩ K2 hN2 hR2 hE2
    try dsimp only at zf2 inv2
    refine AX_nil ?_
    refine AX_seq (AX_E (E_lssS rfl rfl (fun c17 => ?_) (fun c17 => ?_)))
    · refine E_nil (AX_seq (AX_condT rfl (AX_skip (AX_seq (AX_block (AX_seq (AX_E (have ix2 : i < ((gss[j]'hj1)).length := (by first | omega | (simp; done) | (simp; omega)); E_iaGb (j := i) rfl (hgs j hj1 hj2).app rfl rfl rfl ix2 fun b2 o2 q2 f2 w2 => (E_ldBN rfl w2 (E_new (E_stO (k := 0) rfl rfl (v := .agg _) rfl rfl rfl rfl (E_nil (AX_E (E_mv (v := .slice _ _ _) rfl (E_ldON (k := 0) rfl rfl ?_)))))))))))))))
      obtain ⟨X3, q3, hr3, f3, e3⟩ := pown_ret _ ((gss[j]'hj1)[i]'ix2) _ f2.app (by exact hw _ (List.getElem_mem hj1) _ (List.getElem_mem (by omega)))
      refine E_callX (X := X3) rfl (hr3) (E_mkS (cs := [.int .i64 (((gss[j]'hj1)[i]'ix2).k), .slice (q3).1 (((gss[j]'hj1)[i]'ix2).ws).length (q3).2, .int .i64 (((gss[j]'hj1)[i]'ix2).b), .int .i64 (((gss[j]'hj1)[i]'ix2).f)]) rfl (E_appG (A := []) (Z := z2) (W := ([CO.row [.int .i64 (((gss[j]'hj1)[i]'ix2).k), .slice (q2).1 (((gss[j]'hj1)[i]'ix2).ws).length (q2).2, .int .i64 (((gss[j]'hj1)[i]'ix2).b), .int .i64 (((gss[j]'hj1)[i]'ix2).f)] true none] ++ (X3 ++ [CO.row [.int .i64 (((gss[j]'hj1)[i]'ix2).k), .slice (q3).1 (((gss[j]'hj1)[i]'ix2).ws).length (q3).2, .int .i64 (((gss[j]'hj1)[i]'ix2).b), .int .i64 (((gss[j]'hj1)[i]'ix2).f)] true none]))) (gs' := (gss.take j).flatten ++ gss[j].take (i + 1)) (by first | (simp only [List.append_assoc, List.append_nil, List.nil_append, List.cons_append, List.set_cons_zero, List.set_cons_succ]; done) | (simp only [List.append_assoc, List.append_nil, List.nil_append, List.cons_append, List.set_cons_zero, List.set_cons_succ]; rfl)) (by rw [List.take_succ_eq_append_getElem (by omega), List.append_assoc]) (n := (H.length + 0)) (by simp) (zf2) rfl rfl (rowGet_own (k := 0) rfl) (IntsZ.inside f3 (by simp; omega)) (by have := flatten_le (i := i) hj1; omega) rfl fun z4n p4n hb4n => (E_mv (v := .slice _ _ _) rfl (E_nil (AX_E (E_addI rfl rfl (by first | omega | (simp; done) | (simp; omega)) (by first | omega | (simp; done) | (simp; omega)) (E_mv (v := .int .i64 (((i : Int) + 1))) rfl (E_nil ?_))))))))
      refine hN2 (i + 1, p4n) _ _ _ ⟨by first | rfl | (congr 1; omega), by first | rfl | (congr 1; omega), by first | rfl | (congr 1; omega), by first | rfl | (congr 1; omega), by first | rfl | (congr 1; omega), by first | rfl | (congr 1; omega), by first | rfl | (congr 1; omega), trivial⟩ ⟨⟨z4n, rfl, hb4n⟩, rfl, ?_⟩ ?_
      -- n1
      all_goals clear hN0 hR0 hE0 hN2 hR2 hE2
      · omega
      · (first | omega | (simp; omega))
    · refine E_nil (AX_seq (AX_condF rfl (AX_exit (hE2 _ _ _ _ ?_))))
      have e2 := flatten_next hj1 c17
      refine AX_hp (h' := H ++ ([] ++ z2)) (by first | (simp only [List.append_assoc, List.append_nil, List.nil_append, List.cons_append, List.set_cons_zero, List.set_cons_succ]; done) | (simp only [List.append_assoc, List.append_nil, List.nil_append, List.cons_append, List.set_cons_zero, List.set_cons_succ]; rfl)) ?_
      refine AX_E (E_addI rfl rfl (by first | omega | (simp; done) | (simp; omega)) (by first | omega | (simp; done) | (simp; omega)) (E_mv (v := .int .i64 (((j : Int) + 1))) rfl (E_nil ?_)))
      refine hN0 (j + 1, p2) _ _ _ ⟨by exact congrArg (fun l => Value.slice p2.1 (List.length l) p2.2) e2, by first | rfl | (congr 1; omega), by first | rfl | (congr 1; omega), by first | rfl | (congr 1; omega), trivial⟩ ⟨⟨z2, rfl, (by rw [← e2]; exact zf2)⟩, rfl, ?_⟩ ?_
      -- n2
      all_goals clear hN0 hR0 hE0 hN2 hR2 hE2
      · omega
      · (first | omega | (simp; omega))
  · refine E_nil (AX_seq (AX_condF rfl (AX_exit (hE0 _ _ _ _ ?_))))
    have e0 : gss.take j = gss := List.take_of_length_le (by omega)
    refine AX_hp (h' := H ++ ([] ++ z0)) (by first | (simp only [List.append_assoc, List.append_nil, List.nil_append, List.cons_append, List.set_cons_zero, List.set_cons_succ]; done) | (simp only [List.append_assoc, List.append_nil, List.nil_append, List.cons_append, List.set_cons_zero, List.set_cons_succ]; rfl)) ?_
    refine AX_seq (AX_E (E_mv (v := .slice _ _ _) rfl (E_mv (v := .slice _ _ _) rfl (E_nil (AX_ret ?_)))))
    refine ⟨_, rfl, by simp, ?_⟩
    obtain ⟨X, h1, h2⟩ := leafG (h := H) (h' := H ++ ([] ++ z0)) (A := []) (Z := z0) (u := Value.slice p0.1 ((gss.take j).flatten).length p0.2) rfl zf0.gates (by simp) sl_flat
    exact ⟨X, h1, p0, (show _ = Value.slice p0.1 ((gss.take j).flatten).length p0.2 from rfl).trans (by rw [e0] <;> rfl), by rw [e0] at h2; exact h2⟩
end Go.Canon
namespace Go.Canon
open Go Go.Proofs
set_option linter.unusedVariables false
set_option linter.unusedSimpArgs false
def freeTo (l : List G) (i k : Nat) : Prop := ∀ j, j < k → commM (l.getD j default) (l.getD i default)
instance (l : List G) (i k : Nat) : Decidable (freeTo l i k) := by unfold freeTo; infer_instance
/-- The gate that is taken next, of the first so many: -1 if there is none. -/
def nextM (l : List G) : Nat → Int
  | 0 => -1
  | i + 1 => if freeTo l i i ∧ (nextM l i < 0 ∨ beforeM (l.getD i default) (l.getD (nextM l i).toNat default)) then (i : Int) else nextM l i
theorem nextM_lt (l : List G) : ∀ i, -1 ≤ nextM l i ∧ nextM l i < i
  | 0 => by simp [nextM]
  | i + 1 => by
    have := nextM_lt l i
    unfold nextM
    split <;> omega
theorem nextM_pos (l : List G) : ∀ i, 0 < i → 0 ≤ nextM l i
  | 1, _ => by
    have : freeTo l 0 0 := fun j hj => by omega
    simp [nextM, this]
  | i + 2, _ => by
    have := nextM_pos l (i + 1) (by omega)
    unfold nextM
    split <;> omega
theorem next_take {l : List G} {i : Nat} (h1 : freeTo l i i) (h2 : nextM l i < 0 ∨ beforeM (l.getD i default) (l.getD (nextM l i).toNat default)) : nextM l (i + 1) = i := by rw [nextM, if_pos ⟨h1, h2⟩]
theorem next_skip {l : List G} {i : Nat} (h : ¬ (freeTo l i i ∧ (nextM l i < 0 ∨ beforeM (l.getD i default) (l.getD (nextM l i).toNat default)))) : nextM l (i + 1) = nextM l i := by rw [nextM, if_neg h]
theorem before_getD {l : List G} {i j : Nat} (hi : i < l.length) (hj : j < l.length) (h : beforeM l[i] l[j]) : beforeM (l.getD i default) (l.getD j default) := by rwa [getG_at hi, getG_at hj]
theorem before_getD2 {l : List G} {i j : Nat} (hi : i < l.length) (hj : j < l.length) (h : beforeM (l.getD i default) (l.getD j default)) : beforeM l[i] l[j] := by rwa [getG_at hi, getG_at hj] at h
def tidyL : Nat → List G → List G
  | 0, _ => []
  | n + 1, l => l.getD (nextM l l.length).toNat default :: tidyL n (l.eraseIdx (nextM l l.length).toNat)
def tidyM (c : C) : C := ⟨c.w, c.b, tidyL c.gs.length c.gs⟩
theorem tidyL_len : ∀ (n : Nat) (l : List G), (tidyL n l).length = n
  | 0, _ => rfl
  | n + 1, l => by rw [tidyL, List.length_cons, tidyL_len]
theorem tidyL_step {l : List G} {b : Nat} (hb : nextM l l.length = (b : Int)) (hbl : b < l.length) : tidyL l.length l = l[b] :: tidyL (l.eraseIdx b).length (l.eraseIdx b) := by
  have h1 : (l.eraseIdx b).length = l.length - 1 := List.length_eraseIdx_of_lt hbl
  obtain ⟨m, hm⟩ : ∃ m, l.length = m + 1 := ⟨l.length - 1, by omega⟩
  have h2 : (l.eraseIdx b).length = m := by omega
  rw [h2, hm, tidyL, hb, Int.toNat_natCast, getG_at hbl]
end Go.Canon
namespace Go.Canon
open Go Go.Proofs
set_option linter.unusedVariables false
set_option linter.unusedSimpArgs false
/-- The last gate of the first k with which g does not commute, or that g undoes; -1 if there is none. -/
def scanM (l : List G) (g : G) : Nat → Int
  | 0 => -1
  | k + 1 => if undoM (l.getD k default) g ∨ ¬ commM (l.getD k default) g then (k : Int) else scanM l g k
theorem scan_stop {l : List G} {g : G} {k : Nat} (hk : k - 1 < l.length) (h0 : 0 < k) (h : undoM l[k - 1] g ∨ ¬ commM l[k - 1] g) : scanM l g k = (k : Int) - 1 := by
  obtain ⟨m, rfl⟩ : ∃ m, k = m + 1 := ⟨k - 1, by omega⟩
  simp only [Nat.add_sub_cancel] at h
  rw [scanM, if_pos (by rwa [getG_at (by omega)])]
  omega
theorem scan_go {l : List G} {g : G} {k : Nat} (hk : k - 1 < l.length) (h0 : 0 < k) (h : ¬ undoM l[k - 1] g) (h2 : commM l[k - 1] g) : scanM l g k = scanM l g (k - 1) := by
  obtain ⟨m, rfl⟩ : ∃ m, k = m + 1 := ⟨k - 1, by omega⟩
  simp only [Nat.add_sub_cancel] at h h2
  rw [scanM, if_neg (by rw [getG_at (by omega)]; simp [h, h2]), Nat.add_sub_cancel]
def cstep (l : List G) (g : G) : List G := if 0 ≤ scanM l g l.length ∧ undoM (l.getD (scanM l g l.length).toNat default) g then l.eraseIdx (scanM l g l.length).toNat else l ++ [g]
def cancelL (gs : List G) : List G := gs.foldl cstep []
def cancelM (c : C) : C := ⟨c.w, c.b, cancelL c.gs⟩
theorem cancelL_next {gs : List G} {j : Nat} (hj : j < gs.length) : cancelL (gs.take (j + 1)) = cstep (cancelL (gs.take j)) gs[j] := by
  unfold cancelL
  rw [List.take_succ_eq_append_getElem hj, List.foldl_append]
  rfl
theorem cstep_mem {l : List G} {g x : G} (h : x ∈ cstep l g) : x ∈ l ∨ x = g := by
  unfold cstep at h
  split at h
  · exact .inl (List.mem_of_mem_eraseIdx h)
  · simpa using h
theorem cancelL_mem (gs : List G) : ∀ (l : List G) x, x ∈ gs.foldl cstep l → x ∈ l ∨ x ∈ gs := by
  induction gs with
  | nil => intro l x h; exact .inl h
  | cons g gs ih =>
    intro l x h
    rcases ih _ _ h with h | h
    · rcases cstep_mem h with h | h
      · exact .inl h
      · exact .inr (by simp [h])
    · exact .inr (by simp [h])
theorem cancelL_sub {gs : List G} {x : G} (h : x ∈ cancelL gs) : x ∈ gs := (cancelL_mem gs [] x h).resolve_left (by simp)
theorem cstep_rm {l : List G} {g : G} {k : Nat} (hk : k - 1 < l.length) (h0 : 0 < k) (he : scanM l g k = scanM l g l.length) (hu : undoM l[k - 1] g) : cstep l g = l.eraseIdx (k - 1) := by
  have hs := scan_stop hk h0 (.inl hu)
  rw [he] at hs
  have e : (scanM l g l.length).toNat = k - 1 := by omega
  rw [cstep, e, if_pos ⟨by omega, by rwa [getG_at hk]⟩]
theorem cstep_ap {l : List G} {g : G} {k : Nat} (hk : k - 1 < l.length) (h0 : 0 < k) (he : scanM l g k = scanM l g l.length) (hu : ¬ undoM l[k - 1] g) (hc : ¬ commM l[k - 1] g) : cstep l g = l ++ [g] := by
  have hs := scan_stop hk h0 (.inr hc)
  rw [he] at hs
  have e : (scanM l g l.length).toNat = k - 1 := by omega
  rw [cstep, e, if_neg (fun x => by have := x.2; rw [getG_at hk] at this; exact hu this)]
end Go.Canon
namespace Go.Canon
open Go Go.Proofs
set_option linter.unusedVariables false
set_option linter.unusedSimpArgs false
def kf97 : KFunc := ⟨1, 18, [.tmp 2], .seq (.reg [⟨some 2, .mv (.c (.int .i64 0)), none⟩] []) (.seq (.reg [⟨some 3, .mv (.c (.int .i64 0)), none⟩] []) (.seq (.seq (.reg [⟨some 6, .mv (.t 0), none⟩, ⟨some 7, .len (.t 6), none⟩, ⟨some 8, .mv (.c (.int .i64 0)), none⟩] []) (.block 0 (.loop (.seq (.reg [⟨some 9, .bin .lss (.t 8) (.t 7), none⟩] []) (.seq (.cond (.t 9) .skip (.exit 0)) (.seq (.block 1 (.seq (.reg [⟨some 10, .iaS (.t 6) (.t 8) 1, none⟩, ⟨some 11, .ld (.t 10) none, none⟩, ⟨some 5, .mv (.t 11), none⟩] []) (.seq (.reg [⟨some 12, .mv (.t 5), none⟩, ⟨some 13, .mv (.t 3), none⟩, ⟨some 14, .bin .neq (.t 12) (.t 13), none⟩] []) (.cond (.t 14) (.seq (.reg [⟨some 15, .mv (.t 5), none⟩, ⟨some 2, .mv (.t 15), none⟩] []) .ret) .skip)))) (.reg [⟨some 16, .bin .add (.t 8) (.c (.int .i64 1)), none⟩, ⟨some 8, .mv (.t 16), none⟩] []))))))) (.seq (.reg [⟨some 17, .mv (.t 3), none⟩, ⟨some 2, .mv (.t 17), none⟩] []) .ret)))⟩
theorem k97 : tab Try.prog 97 = some kf97 := by kernel_rfl
def kf70 : KFunc := ⟨2, 27, [.tmp 4], .seq (.reg [⟨some 2, .box (.t 0), none⟩, ⟨some 3, .box (.t 1), none⟩, ⟨some 4, .mv (.c (.int .i64 0)), none⟩] []) (.seq (.reg [⟨some 5, .fa (.t 2) 0, none⟩, ⟨some 6, .ld (.t 5) none, none⟩, ⟨some 7, .fa (.t 3) 0, none⟩, ⟨some 8, .ld (.t 7) none, none⟩, ⟨some 9, .call (.c (.func (.func 98) #[] #[])) [.t 6, .t 8], none⟩, ⟨some 10, .fa (.t 2) 1, none⟩, ⟨some 11, .ld (.t 10) none, none⟩, ⟨some 12, .fa (.t 3) 1, none⟩, ⟨some 13, .ld (.t 12) none, none⟩, ⟨some 14, .call (.c (.func (.func 99) #[] #[])) [.t 11, .t 13], none⟩, ⟨some 15, .fa (.t 2) 2, none⟩, ⟨some 16, .ld (.t 15) none, none⟩, ⟨some 17, .fa (.t 3) 2, none⟩, ⟨some 18, .ld (.t 17) none, none⟩, ⟨some 19, .call (.c (.func (.func 98) #[] #[])) [.t 16, .t 18], none⟩, ⟨some 20, .fa (.t 2) 3, none⟩, ⟨some 21, .ld (.t 20) none, none⟩, ⟨some 22, .fa (.t 3) 3, none⟩, ⟨some 23, .ld (.t 22) none, none⟩, ⟨some 24, .call (.c (.func (.func 98) #[] #[])) [.t 21, .t 23], none⟩, ⟨some 25, .mkS [.int .i64 0, .int .i64 0, .int .i64 0, .int .i64 0] 4 [(0, 1, .t 9), (1, 1, .t 14), (2, 1, .t 19), (3, 1, .t 24)], none⟩, ⟨some 26, .call (.c (.func (.func 97) #[] #[])) [.t 25], none⟩, ⟨some 4, .mv (.t 26), none⟩] [(4, 6), (4, 8), (4, 11), (9, 11), (4, 13), (9, 13), (4, 16), (9, 16), (14, 16), (4, 18), (9, 18), (14, 18)]) .ret)⟩
theorem k70 : tab Try.prog 70 = some kf70 := by kernel_rfl
def firstNZ : List Int → Int
  | [] => 0
  | x :: xs => if x ≠ 0 then x else firstNZ xs
theorem firstNZ_at : ∀ {l : List Int} {j : Nat} (hj : j < l.length), (∀ x ∈ l.take j, x = 0) → l[j] ≠ 0 → firstNZ l = l[j]
  | x :: xs, 0, _, _, h => by simp at h; simp [firstNZ, h]
  | x :: xs, j + 1, hj, H, h => by
    simp only [List.getElem_cons_succ] at h ⊢
    rw [firstNZ, if_neg (by simp [H x (by simp)])]
    exact firstNZ_at (by simpa using hj) (fun y hy => H y (by simp [hy])) h
theorem firstNZ_all : ∀ {l : List Int}, (∀ x ∈ l, x = 0) → firstNZ l = 0
  | [], _ => rfl
  | x :: xs, H => by rw [firstNZ, if_neg (by simp [H x (by simp)])]; exact firstNZ_all fun y hy => H y (by simp [hy])
theorem or_ret (H : Heap) (p : Pl) (l : List Int) {S : Nat → Prop} (hv : Ints S H p l) (hl : l.length < 4611686018427387904) : Ret (tab Try.prog) 97 [.slice p.1 l.length p.2] H (.int .i64 (firstNZ l)) H := by
  refine Ret_own k97 rfl ?_
  refine AX_seq (AX_E (E_mv (v := .int .i64 (0)) rfl (E_nil (AX_seq (AX_E (E_mv (v := .int .i64 (0)) rfl (E_nil (AX_seq (AX_seq (AX_E (E_mv (v := .slice _ _ _) rfl (E_len (n := (l).length) rfl (E_mv (v := .int .i64 (0)) rfl (E_nil (AX_block ?_)))))))))))))))
  refine AX_loopF (γ := Nat) (fun j => [(3, .int .i64 (0)), (6, .slice (p).1 (l).length (p).2), (7, .int .i64 ((l).length)), (8, .int .i64 ((j : Int)))]) (fun j h_ m_ => h_ = H ++ [] ∧ m_ = [] ∧ j ≤ l.length ∧ ∀ x ∈ l.take j, x = 0) (fun j => l.length - j) (0) ⟨rfl, rfl, rfl, rfl, trivial⟩ ⟨rfl, rfl, ?_⟩ ?_
  · simp
  rintro j fr0 h0 m0 ⟨rfl, rfl, inv0⟩ K0 hN0 hR0 hE0
  refine AX_seq (AX_E (E_lssS rfl rfl (fun c9 => ?_) (fun c9 => ?_)))
  · refine E_nil (AX_seq (AX_condT rfl (AX_skip (AX_seq (AX_block (AX_seq (AX_E (have ix1 : j < (l).length := (by first | omega | (simp; done) | (simp; omega)); E_iaIb (j := j) rfl hv rfl rfl rfl ix1 fun b1 o1 w1 => (E_ldB (v := .int .i64 (l[j]'ix1)) rfl w1 (E_mv (v := .int .i64 (l[j]'ix1)) rfl (E_nil (AX_seq (AX_E (E_mv (v := .int .i64 (l[j]'ix1)) rfl (E_mv (v := .int .i64 (0)) rfl (E_neqS rfl rfl (fun c14 => ?_) (fun c14 => ?_)))))))))))))))))
    · refine E_nil (AX_condT rfl (AX_seq (AX_E (E_mv (v := .int .i64 (l[j]'ix1)) rfl (E_mv (v := .int .i64 (l[j]'ix1)) rfl (E_nil (AX_ret (hR0 _ _ _ ?_))))))))
      refine ⟨_, rfl, by simp, ?_, forget_flat rfl (List.prefix_append _ _)⟩
      -- r1
      clear hN0 hR0 hE0
      refine congrArg (Value.int _) ?_
      rw [firstNZ_at (by omega) inv0.2 c14]
    · refine E_nil (AX_condF rfl (AX_skip (AX_E (E_addI rfl rfl (by first | omega | (simp; done) | (simp; omega)) (by first | omega | (simp; done) | (simp; omega)) (E_mv (v := .int .i64 (((j : Int) + 1))) rfl (E_nil ?_))))))
      refine hN0 (j + 1) _ _ _ ⟨by first | rfl | (congr 1; omega), by first | rfl | (congr 1; omega), by first | rfl | (congr 1; omega), by first | rfl | (congr 1; omega), trivial⟩ ⟨rfl, rfl, ?_⟩ ?_
      -- n2
      all_goals clear hN0 hR0 hE0
      · exact ⟨by omega, all_next (by omega) inv0.2 c14⟩
      · (first | omega | (simp; omega))
  · refine E_nil (AX_seq (AX_condF rfl (AX_exit (hE0 _ _ _ _ (AX_seq (AX_E (E_mv (v := .int .i64 (0)) rfl (E_mv (v := .int .i64 (0)) rfl (E_nil (AX_ret ?_))))))))))
    refine ⟨_, rfl, by simp, ?_, forget_flat rfl (List.prefix_append _ _)⟩
    -- r3
    clear hN0 hR0 hE0
    refine congrArg (Value.int _) ?_
    rw [firstNZ_all (all_all c9 inv0.2)]
def orderM (g h : G) : Int := firstNZ [cmpM g.k h.k, lexM g.ws h.ws, cmpM g.b h.b, cmpM g.f h.f]
theorem order_ret (H : Heap) (g h : G) (p q : Pl) {S S' : Nat → Prop} (hv : Ints S H p g.ws) (hu : Ints S' H q h.ws) (hg : g.ws.length < 4611686018427387904) : Ret (tab Try.prog) 70 [gv g p, gv h q] H (.int .i64 (orderM g h)) H := by
  refine Ret_own k70 rfl ?_
  refine AX_seq (AX_E (E_boxA rfl (E_boxA rfl (E_mv (v := .int .i64 (0)) rfl (E_nil (AX_seq (AX_E (E_fa rfl (E_ldO (k := 0) (v := .int .i64 (g.k)) rfl rfl (E_fa rfl (E_ldO (k := 1) (v := .int .i64 (h.k)) rfl rfl (E_callV rfl (cmp_ret _ _ _) (E_fa rfl (E_ldO (k := 0) (v := .slice _ _ _) rfl rfl (E_fa rfl (E_ldO (k := 1) (v := .slice _ _ _) rfl rfl (E_callV rfl (lex_ret _ _ _ _ _ hv.app hu.app (by first | omega | (simp; done) | (simp; omega))) (E_fa rfl (E_ldO (k := 0) (v := .int .i64 (g.b)) rfl rfl (E_fa rfl (E_ldO (k := 1) (v := .int .i64 (h.b)) rfl rfl (E_callV rfl (cmp_ret _ _ _) (E_fa rfl (E_ldO (k := 0) (v := .int .i64 (g.f)) rfl rfl (E_fa rfl (E_ldO (k := 1) (v := .int .i64 (h.f)) rfl rfl (E_callV rfl (cmp_ret _ _ _) (E_mkS (cs := [.int .i64 (cmpM (g.k) (h.k)), .int .i64 (lexM (g.ws) (h.ws)), .int .i64 (cmpM (g.b) (h.b)), .int .i64 (cmpM (g.f) (h.f))]) rfl (E_callV rfl (or_ret _ (some ⟨(H).length + 2, 0, none⟩, 4) [cmpM g.k h.k, lexM g.ws h.ws, cmpM g.b h.b, cmpM g.f h.f] (ints_own (k := 2) rfl) (by simp)) (E_mv (v := .int .i64 (orderM g h)) rfl (E_nil (AX_ret ?_))))))))))))))))))))))))))))))))
  refine ⟨_, rfl, by simp, ?_, forget_flat rfl (List.prefix_append _ _)⟩
  refine congrArg (Value.int _) ?_
  rfl
theorem lex_neg : ∀ {a b : List Int}, a.length = b.length → (lexM a b < 0 ↔ wsLt a b) ∧ (lexM a b = 0 ↔ a = b)
  | [], [], _ => by simp [lexM, wsLt]
  | x :: xs, y :: ys, h => by
    have ih := lex_neg (a := xs) (b := ys) (by simpa using h)
    simp only [lexM, wsLt, List.cons.injEq]
    by_cases e : x = y
    · subst e
      have : cmpM x x = 0 := cmpM_eq.2 rfl
      simp [this, ih]
    · have h1 : cmpM x y ≠ 0 := fun h => e (cmpM_eq.1 h)
      rw [if_pos h1, if_pos e]
      refine ⟨?_, by simp [e, h1]⟩
      unfold cmpM
      (repeat' split) <;> omega
  | [], _ :: _, h => by simp at h
  | _ :: _, [], h => by simp at h
theorem order_iff {g h : G} (hg : GR g) (hh : GR h) : orderM g h < 0 ↔ beforeM g h := by
  unfold orderM beforeM
  by_cases hk : g.k = h.k
  · have hl : g.ws.length = h.ws.length := by
      have a1 := hg.ar
      have a2 := hh.ar
      rw [hk] at a1
      omega
    obtain ⟨l1, l2⟩ := lex_neg hl
    have c0 : cmpM g.k h.k = 0 := cmpM_eq.2 hk
    rw [if_neg (by simp [hk])]
    by_cases hw : g.ws = h.ws
    · have w0 : lexM g.ws h.ws = 0 := l2.2 hw
      rw [if_neg (by simp [hw])]
      simp only [firstNZ, c0, w0, ne_eq, not_true, if_false]
      unfold cmpM
      (repeat' split) <;> omega
    · have w0 : lexM g.ws h.ws ≠ 0 := fun e => hw (l2.1 e)
      rw [if_pos hw]
      simp only [firstNZ, c0, ne_eq, not_true, if_false]
      rw [if_pos w0]
      exact l1
  · rw [if_pos hk]
    have c0 : cmpM g.k h.k ≠ 0 := fun e => hk (cmpM_eq.1 e)
    rw [firstNZ, if_pos c0]
    unfold cmpM
    (repeat' split) <;> omega
end Go.Canon
namespace Go.Canon
open Go Go.Proofs
set_option linter.unusedVariables false
set_option linter.unusedSimpArgs false
def kf67 : KFunc := ⟨2, 9, [.tmp 4], .seq (.reg [⟨some 2, .box (.t 0), none⟩, ⟨some 3, .box (.t 1), none⟩, ⟨some 4, .mv (.c (.bool false)), none⟩] []) (.seq (.reg [⟨some 5, .ld (.t 2) (some 4), none⟩, ⟨some 6, .ld (.t 3) (some 4), none⟩, ⟨some 7, .call (.c (.func (.func 64) #[] #[])) [.t 5, .t 6], none⟩, ⟨some 8, .not (.t 7), none⟩, ⟨some 4, .mv (.t 8), none⟩] []) .ret)⟩
theorem k67 : tab Try.prog 67 = some kf67 := by kernel_rfl
def kf69 : KFunc := ⟨2, 6, [.tmp 4], .seq (.reg [⟨some 2, .box (.t 0), none⟩, ⟨some 3, .box (.t 1), none⟩, ⟨some 4, .mv (.c .nilFunc), none⟩] []) (.seq (.reg [⟨some 5, .fn 96 [] [.t 3, .t 2], none⟩, ⟨some 4, .mv (.t 5), none⟩] []) .ret)⟩
theorem k69 : tab Try.prog 69 = some kf69 := by kernel_rfl
def kf96 : KFunc := ⟨3, 31, [], .seq (.reg [⟨some 5, .ld (.t 1) none, none⟩, ⟨some 6, .mv (.c (.int .i64 0)), none⟩] []) (.block 0 (.loop (.seq (.reg [⟨some 7, .bin .lss (.t 6) (.t 5), none⟩] []) (.seq (.cond (.t 7) .skip (.exit 0)) (.seq (.block 1 (.seq (.reg [⟨some 8, .mv (.t 6), none⟩, ⟨some 4, .mv (.t 8), none⟩] []) (.seq (.reg [⟨some 9, .fa (.t 2) 3, none⟩, ⟨some 10, .ld (.t 9) none, none⟩, ⟨some 11, .fa (.t 2) 0, none⟩, ⟨some 12, .fa (.t 11) 2, none⟩, ⟨some 13, .ld (.t 12) none, none⟩, ⟨some 14, .mv (.t 4), none⟩, ⟨some 15, .iaS (.t 13) (.t 14) 4, none⟩, ⟨some 16, .ld (.t 15) (some 4), none⟩, ⟨some 17, .fa (.t 2) 0, none⟩, ⟨some 18, .fa (.t 17) 2, none⟩, ⟨some 19, .ld (.t 18) none, none⟩, ⟨some 20, .ld (.t 1) none, none⟩, ⟨some 21, .iaS (.t 19) (.t 20) 4, none⟩, ⟨some 22, .ld (.t 21) (some 4), none⟩, ⟨some 23, .call (.t 10) [.t 16, .t 22], none⟩, ⟨some 24, .mv (.t 23), none⟩, ⟨some 25, .mv (.t 0), some (24, true)⟩, ⟨some 26, .mv (.t 4), some (24, true)⟩, ⟨some 27, .call (.t 25) [.t 26], some (24, true)⟩, ⟨some 28, .not (.t 27), some (24, true)⟩, ⟨some 29, .pick (.t 24) (.t 28) (.c (.bool false)), none⟩] []) (.cond (.t 29) .ret .skip)))) (.reg [⟨some 30, .bin .add (.t 6) (.c (.int .i64 1)), none⟩, ⟨some 6, .mv (.t 30), none⟩] []))))))⟩
theorem k96 : tab Try.prog 96 = some kf96 := by kernel_rfl
theorem near_ret (H : Heap) (g h : G) (p q : Pl) {S S' : Nat → Prop} (hv : Ints S H p g.ws) (hu : Ints S' H q h.ws) (hg : GR g) (hh : GR h) : Ret (tab Try.prog) 67 [gv g p, gv h q] H (.bool (decide (¬ commM g h))) H := by
  refine Ret_own k67 rfl ?_
  refine AX_seq (AX_E (E_boxA rfl (E_boxA rfl (E_mv (v := .bool _) rfl (E_nil (AX_seq (AX_E (E_ldON (k := 0) rfl rfl (E_ldON (k := 1) rfl rfl (E_callP rfl (pcomm_ret _ g h _ _ hv.app hu.app (by assumption) (by assumption)) (fun c7 => ?_) (fun c7 => ?_)))))))))))
  · refine E_notV rfl rfl (E_mv (v := .bool _) rfl (E_nil (AX_ret ?_)))
    refine ⟨_, rfl, by simp, ?_, forget_flat rfl (List.prefix_append _ _)⟩
    refine congrArg (Value.bool) ?_
    refine (decide_eq_false ?_).symm
    simpa using c7
  · refine E_notV rfl rfl (E_mv (v := .bool _) rfl (E_nil (AX_ret ?_)))
    refine ⟨_, rfl, by simp, ?_, forget_flat rfl (List.prefix_append _ _)⟩
    refine congrArg (Value.bool) ?_
    refine (decide_eq_true ?_).symm
    simpa using c7
theorem before1_call (l n : Nat) (P : Nat → Prop) [DecidablePred P] (I : Nat → Heap → Prop) (Stop : Heap → Prop) (bn bw ow : Nat) (on f : Nat) (gs : List G) (p : Pl) (w b : Int)
    (hI : ∀ i K, I i K → rowGet K ⟨bn, on, none⟩ 1 = some [.int .i64 (n : Int)] ∧ rowGet K ⟨bw, ow, none⟩ 4 = some [.int .i64 w, .int .i64 b, .slice p.1 gs.length p.2, .func (.func f) #[] #[]] ∧ Gates allB K p gs)
    (hn : n < gs.length) (hl : gs.length < 4294967296)
    (hnear : ∀ i (hi : i < n) (K : Heap) (q1 q2 : Pl), Ints allB K q1 gs[i].ws → Ints allB K q2 gs[n].ws → Ret (tab Try.prog) f [gv gs[i] q1, gv gs[n] q2] K (.bool (decide (P i))) K)
    (hskip : ∀ i K, i < n → I i K → ¬ P i → I (i + 1) K)
    (hyield : ∀ i K, i < n → I i K → P i → ARound (tab Try.prog) l [.int .i64 (i : Int)] K (fun v K' => (v = .bool true ∧ I (i + 1) K') ∨ (v = .bool false ∧ Stop K')))
    (H : Heap) (h0 : I 0 H) : ACall (tab Try.prog) 96 [.func (.yield l) #[] #[], .pointer (some ⟨bn, on, none⟩), .pointer (some ⟨bw, ow, none⟩)] H (fun _ K' => ∃ Kf, (I n Kf ∨ Stop Kf) ∧ K' = forget H (.tuple #[]) Kf) := by
  refine ACall_ownR k96 rfl ?_
  obtain ⟨e1, e2, e3⟩ := hI 0 H h0
  refine AX_seq (AX_E (E_ldB (v := .int .i64 ((n : Int))) rfl e1 (E_mv (v := .int .i64 (0)) rfl (E_nil (AX_block ?_)))))
  refine AX_loopF (γ := Nat) (fun i => [(0, .func (.yield l) #[] #[]), (1, .pointer (some ⟨bn, on, none⟩)), (2, .pointer (some ⟨bw, ow, none⟩)), (5, .int .i64 ((n : Int))), (6, .int .i64 ((i : Int)))]) (fun i h_ m_ => (I i h_) ∧ m_ = [] ∧ i ≤ n) (fun i => n - i) (0) ⟨rfl, rfl, rfl, rfl, rfl, trivial⟩ ⟨(by simpa using h0), rfl, ?_⟩ ?_
  · omega
  rintro i fr0 KH0 m0 ⟨hI0, rfl, inv0⟩ K0 hN0 hR0 hE0
  obtain ⟨a1, a2, a3⟩ := hI i KH0 hI0
  refine AX_nil ?_
  refine AX_seq (AX_E (E_lssS rfl rfl (fun c7 => ?_) (fun c7 => ?_)))
  · refine E_nil (AX_seq (AX_condT rfl (AX_skip (AX_seq (AX_block (AX_seq (AX_E (E_mv (v := .int .i64 ((i : Int))) rfl (E_mv (v := .int .i64 ((i : Int))) rfl (E_nil (AX_seq (AX_E (E_fa rfl (E_ldB (v := .func _ _ _) rfl (rowGet_c (j := 3) a2 rfl) (E_fa rfl (E_fa rfl (E_ldB (v := .slice _ _ _) rfl (rowGet_c (j := 2) a2 rfl) (E_mv (v := .int .i64 ((i : Int))) rfl (have ix1 : i < (gs).length := (by first | omega | (simp; done) | (simp; omega)); E_iaGb (j := i) rfl a3 rfl rfl rfl ix1 fun b1 o1 q1 f1 w1 => (E_ldBN rfl w1 (E_fa rfl (E_fa rfl (E_ldB (v := .slice _ _ _) rfl (rowGet_c (j := 2) a2 rfl) (E_ldB (v := .int .i64 ((n : Int))) rfl a1 (have ix2 : n < (gs).length := (by first | omega | (simp; done) | (simp; omega)); E_iaGb (j := n) rfl a3 rfl rfl (by first | rfl | omega) ix2 fun b2 o2 q2 f2 w2 => (E_ldBN rfl w2 (E_callP rfl (hnear i (by omega) _ _ _ f1.app.all f2.app.all) (fun c23 => ?_) (fun c23 => ?_))))))))))))))))))))))))))))
    · refine E_mv (v := .bool _) rfl (E_on rfl (E_mv (v := .func _ _ _) rfl (E_on rfl (E_mv (v := .int .i64 ((i : Int))) rfl (E_on rfl ?_)))))
      have hy := hyield i KH0 (by omega) hI0 c23
      rw [← List.append_nil KH0] at hy
      refine E_yield rfl rfl ((hy).mono ?_)
      rintro _ KY3 (⟨rfl, hY3⟩ | ⟨rfl, hY3⟩)
      · refine E_nilR (E_on rfl (E_notV rfl rfl (E_pickT rfl (v := .bool _) rfl (E_nil (AX_condF rfl (AX_skip (AX_E (E_addI rfl rfl (by first | omega | (simp; done) | (simp; omega)) (by first | omega | (simp; done) | (simp; omega)) (E_mv (v := .int .i64 (((i : Int) + 1))) rfl (E_nil ?_))))))))))
        refine hN0 (i + 1) _ _ _ ⟨by first | rfl | (congr 1; omega), by first | rfl | (congr 1; omega), by first | rfl | (congr 1; omega), by first | rfl | (congr 1; omega), by first | rfl | (congr 1; omega), trivial⟩ ⟨?_, rfl, ?_⟩ ?_
        all_goals clear hN0 hR0 hE0
        · simpa using hY3
        · omega
        · (first | omega | (simp; omega))
      · refine E_nilR (E_on rfl (E_notV rfl rfl (E_pickT rfl (v := .bool _) rfl (E_nil (AX_condT rfl (AX_ret (hR0 _ _ _ ?_)))))))
        refine ⟨.tuple #[], rfl, by simp, _, ?_, rfl⟩
        exact .inr (by simpa using hY3)
    · refine E_mv (v := .bool _) rfl (E_notT rfl (E_notT rfl (E_notT rfl (E_notT rfl (E_pickF rfl (v := .bool _) rfl (E_nil (AX_condF rfl (AX_skip (AX_E (E_addI rfl rfl (by first | omega | (simp; done) | (simp; omega)) (by first | omega | (simp; done) | (simp; omega)) (E_mv (v := .int .i64 (((i : Int) + 1))) rfl (E_nil ?_))))))))))))
      refine hN0 (i + 1) _ _ _ ⟨by first | rfl | (congr 1; omega), by first | rfl | (congr 1; omega), by first | rfl | (congr 1; omega), by first | rfl | (congr 1; omega), by first | rfl | (congr 1; omega), trivial⟩ ⟨?_, rfl, ?_⟩ ?_
      all_goals clear hN0 hR0 hE0
      · simpa using hskip i KH0 (by omega) hI0 c23
      · omega
      · (first | omega | (simp; omega))
  · refine E_nil (AX_seq (AX_condF rfl (AX_exit (hE0 _ _ _ _ ?_))))
    have en : i = n := by omega
    subst en
    refine ⟨.tuple #[], rfl, by simp, _, ?_, rfl⟩
    exact .inl (by simpa using hI0)
abbrev wcells (c : C) (p : Pl) (f : Nat) : List Value := [.int .i64 c.w, .int .i64 c.b, .slice p.1 c.gs.length p.2, .func (.func f) #[] #[]]
theorem pbefore_ret (H : Heap) (c : C) (p : Pl) (f : Nat) (n : Int) : Ret (tab Try.prog) 69 [.agg #[.int .i64 c.w, .int .i64 c.b, .slice p.1 c.gs.length p.2, .func (.func f) #[] #[]], .int .i64 n] H (.func (.func 96) #[] #[.pointer (some ⟨H.length + 1, 0, none⟩), .pointer (some ⟨H.length + 0, 0, none⟩)]) (H ++ [.row (wcells c p f) true none, .row [.int .i64 n] true none]) := by
  refine Ret_own k69 rfl ?_
  refine AX_seq (AX_E (E_boxA rfl (E_boxV (v := .int .i64 (n)) rfl rfl (E_mv (v := .nilFunc) rfl (E_nil (AX_seq (AX_E (E_fn (u := []) (v := [.pointer (some ⟨(H).length + 1, 0, none⟩), .pointer (some ⟨(H).length + 0, 0, none⟩)]) rfl rfl (E_mv (v := .func _ _ _) rfl (E_nil (AX_ret ?_)))))))))))
  exact ⟨_, rfl, by simp, rfl, forget_more rfl⟩
/-- A range over the neighbours before a gate whose body leaves at once. -/
theorem rf_leave {fi : FI} {fr : Nat → Value} {b L : Heap} {m : List Nat} {Q : Ex → (Nat → Value) → Heap → List Nat → Prop} {f : KO} {ps : List Nat} {id id' n f1 bn bw : Nat} {c : C} {p : Pl} (P : Nat → Prop) [DecidablePred P]
    (hf : f.ev fr = .func (.func 96) #[] #[.pointer (some ⟨bn, 0, none⟩), .pointer (some ⟨bw, 0, none⟩)]) (hps : ps.length = 1) (hid : (id' = id) = False) (hrd : fi.rd = none)
    (h1 : rowGet (b ++ L) ⟨bn, 0, none⟩ 1 = some [.int .i64 (n : Int)]) (h2 : rowGet (b ++ L) ⟨bw, 0, none⟩ 4 = some (wcells c p f1)) (h3 : Gates allB (b ++ L) p c.gs) (hn : n < c.gs.length) (hl : c.gs.length < 4294967296)
    (hnear : ∀ i (hi : i < n) (K : Heap) (q1 q2 : Pl), Ints allB K q1 c.gs[i].ws → Ints allB K q2 c.gs[n].ws → Ret (tab Try.prog) f1 [gv c.gs[i] q1, gv c.gs[n] q2] K (.bool (decide (P i))) K)
    (hN : (∀ i, i < n → ¬ P i) → ∀ R, Q .normal fr (b ++ (L ++ [.mark, .loop R])) ((b ++ L).length :: m)) (hE : (∃ i, i < n ∧ P i) → ∀ R, Q (.exit id') fr (b ++ (L ++ [.mark, .loop R])) ((b ++ L).length :: m)) :
    AX (tab Try.prog) fi (.rf f ps .skip (.block id (.exit id'))) fr (b ++ L) m Q := by
  refine AX_rf hf hrd ?_
  have hN' : (∀ i, i < n → ¬ P i) → ∀ R, Q .normal fr ((b ++ L) ++ [.mark, .loop R]) ((b ++ L).length :: m) := fun x R => by rw [List.append_assoc]; exact hN x R
  have hE' : (∃ i, i < n ∧ P i) → ∀ R, Q (.exit id') fr ((b ++ L) ++ [.mark, .loop R]) ((b ++ L).length :: m) := fun x R => by rw [List.append_assoc]; exact hE x R
  clear hN hE
  generalize b ++ L = h at *
  generalize hR : rec0 fi fr ps .skip (.block id (.exit id')) h.length = R
  have hR1 : R.st = .ready := by rw [← hR]; rfl
  have hR2 : R.pending = none := by rw [← hR]; rfl
  have hR3 : R.fi.rd = some (h.length + 1) := by rw [← hR]; rfl
  have hR4 : R.params.length = 1 := by rw [← hR]; exact hps
  have hR5 : R.assign = .skip := by rw [← hR]; rfl
  have hR6 : R.body = .block id (.exit id') := by rw [← hR]; rfl
  clear hR
  obtain ⟨st, pd, fi', fr', ps', a', b', bk⟩ := R
  simp only at hR1 hR2 hR3 hR4 hR5 hR6
  subst hR1 hR2 hR5 hR6
  have hget : ∀ r, (h ++ [CO.mark, .loop r])[h.length + 1]? = some (.loop r) := fun r => by rw [List.getElem?_append_right (by omega)]; simp
  have hset : ∀ r r', (h ++ [CO.mark, .loop r]).set (h.length + 1) (.loop r') = h ++ [.mark, .loop r'] := fun r r' => by rw [List.set_append_right _ _ (by omega)]; simp
  have key := before1_call (h.length + 1) n P (fun i K => K = h ++ [.mark, .loop ⟨.ready, none, fi', fr', ps', .skip, .block id (.exit id'), bk⟩] ∧ ∀ j, j < i → ¬ P j) (fun K => K = h ++ [.mark, .loop ⟨.done, some (.exit id'), fi', fr', ps', .skip, .block id (.exit id'), bk⟩] ∧ ∃ j, j < n ∧ P j) bn bw 0 0 f1 c.gs p c.w c.b ?_ hn hl hnear ?_ ?_ (h ++ [.mark, .loop ⟨.ready, none, fi', fr', ps', .skip, .block id (.exit id'), bk⟩]) ⟨rfl, fun j hj => by omega⟩
  · refine ACall.mono key ?_
    rintro _ K' ⟨Kf, hK | hK, rfl⟩
    · obtain ⟨rfl, hj⟩ := hK
      rw [forget_flat rfl (List.prefix_refl _)]
      refine ⟨_, hget _, by simp, ?_⟩
      rw [hset]
      exact hN' hj _
    · obtain ⟨rfl, hj⟩ := hK
      have hne : ¬ (h ++ [CO.mark, .loop ⟨.ready, none, fi', fr', ps', .skip, .block id (.exit id'), bk⟩] <+: h ++ [CO.mark, .loop ⟨.done, some (.exit id'), fi', fr', ps', .skip, .block id (.exit id'), bk⟩]) := by
        rintro ⟨t, ht⟩
        have := congrArg (fun l : Heap => l[h.length + 1]?) ht
        simp only [List.append_assoc] at this
        rw [List.getElem?_append_right (by omega), hget] at this
        simp only [show h.length + 1 - h.length = 1 by omega, List.cons_append, List.getElem?_cons_succ, List.getElem?_cons_zero] at this
        injection this with this
        injection this with this
        have := congrArg CLoop.st this
        cases this
      unfold forget
      rw [if_neg (fun x => hne x.2)]
      refine ⟨_, hget _, by simp, ?_⟩
      rw [hset]
      exact hE' hj _
  · rintro i K ⟨rfl, _⟩
    exact ⟨rowGet_base h1, rowGet_base h2, h3.app⟩
  · rintro i K hi ⟨rfl, hj⟩ hp
    refine ⟨rfl, fun j hjj => ?_⟩
    by_cases e : j = i
    · subst e; exact hp
    · exact hj j (by omega)
  · rintro i K hi ⟨rfl, hj⟩ hp
    refine ARound_of (hget _) (by simp [hR4]) rfl hR3 ?_
    refine AX_skip ⟨rfl, rfl, _, hget _, rfl, ?_⟩
    rw [hset]
    refine AX_block (AX_exit ?_)
    simp only [blockK, hid, if_false]
    refine ⟨by trivial, _, hget _, ?_⟩
    rw [hset]
    exact .inr ⟨by trivial, by first | rfl | trivial, ⟨i, hi, hp⟩⟩
end Go.Canon
namespace Go.Canon
open Go Go.Proofs
set_option linter.unusedVariables false
set_option linter.unusedSimpArgs false
def kf71 : KFunc := ⟨3, 33, [.tmp 6], .seq (.reg [⟨some 6, .mv (.c (.slice none 0 0)), none⟩] []) (.seq (.reg [⟨some 8, .mv (.t 0), none⟩, ⟨some 9, .mv (.t 1), none⟩, ⟨some 10, .mv (.t 2), none⟩, ⟨some 11, .mv (.t 0), none⟩, ⟨some 12, .len (.t 11), none⟩, ⟨some 13, .slS (.t 8) (some (.t 9)) (some (.t 10)) (some (.t 12)) 4, none⟩] []) (.seq (.seq (.reg [⟨some 14, .mv (.t 1), none⟩, ⟨some 15, .mv (.t 2), none⟩, ⟨some 16, .bin .eql (.t 14) (.t 15), none⟩] []) (.cond (.t 16) (.seq (.reg [⟨some 17, .mv (.t 0), none⟩, ⟨some 6, .mv (.t 17), none⟩] []) .ret) .skip)) (.seq (.reg [⟨some 18, .mv (.t 0), none⟩, ⟨some 19, .len (.t 18), none⟩, ⟨some 7, .mv (.t 19), none⟩] []) (.seq (.reg [⟨some 20, .mv (.t 0), none⟩, ⟨some 21, .mv (.t 1), none⟩, ⟨some 22, .slS (.t 20) none (some (.t 21)) none 4, none⟩, ⟨some 23, .mv (.t 0), none⟩, ⟨some 24, .mv (.t 2), none⟩, ⟨some 25, .slS (.t 23) (some (.t 24)) none none 4, none⟩, ⟨some 26, .app (.t 22) (.t 25) 4 48, none⟩, ⟨some 0, .mv (.t 26), none⟩] []) (.seq (.reg [⟨some 27, .mv (.t 0), none⟩, ⟨some 28, .mv (.t 0), none⟩, ⟨some 29, .len (.t 28), none⟩, ⟨some 30, .mv (.t 7), none⟩, ⟨some 31, .slS (.t 27) (some (.t 29)) (some (.t 30)) none 4, none⟩, ⟨none, .clr (.t 31) [.int .i64 0, .slice none 0 0, .int .i64 0, .int .i64 0], none⟩] []) (.seq (.reg [⟨some 32, .mv (.t 0), none⟩, ⟨some 6, .mv (.t 32), none⟩] []) .ret))))))⟩
theorem k71 : tab Try.prog 71 = some kf71 := by kernel_rfl
theorem delete_ret (K : Heap) (b k cap j : Nat) (cs : List Value) (gr : Option Nat) (hrow : K[b]? = some (.row cs true gr)) (hg : gr = none ∨ gr = some 4) (hj : j < k) (hk : k ≤ cap) (hfit : k * 4 ≤ cs.length) (hcell : ∀ v ∈ cs, isCell v = true) :
    ∃ cs', Ret (tab Try.prog) 71 [.slice (some ⟨b, 0, none⟩) k cap, .int .i64 (j : Int), .int .i64 ((j : Int) + 1)] K (.slice (some ⟨b, 0, none⟩) (k - 1) cap) (K.set b (.row cs' true gr)) ∧ cs'.length = cs.length ∧ (∀ v ∈ cs', isCell v = true) ∧ cs'.take ((k - 1) * 4) = cs.take (j * 4) ++ (cs.drop ((j + 1) * 4)).take ((k - (j + 1)) * 4) := by
  have hb := (List.getElem?_eq_some_iff.1 hrow).1
  let new := (cs.drop ((j + 1) * 4)).take ((k - (j + 1)) * 4)
  have hnl : new.length = (k - (j + 1)) * 4 := by simp only [new, List.length_take, List.length_drop]; omega
  have hnc : ∀ v ∈ new, isCell v = true := fun v hv => hcell v (List.mem_of_mem_drop (List.mem_of_mem_take hv))
  let cs1 := cs.take (j * 4) ++ new ++ cs.drop (j * 4 + new.length)
  have hl1 : cs1.length = cs.length := by simp only [cs1, List.length_append, List.length_take, List.length_drop, hnl]; omega
  let z : List Value := [.int .i64 0, .slice none 0 0, .int .i64 0, .int .i64 0]
  let cs2 := cs1.take ((k - 1) * 4) ++ z ++ cs1.drop ((k - 1) * 4 + z.length)
  refine ⟨cs2, ?_, ?_, ?_, ?_⟩
  · refine Ret_own k71 rfl ?_
    have r0 : (K ++ [])[b]? = some (.row cs true gr) := by rw [List.append_nil]; exact hrow
    have e1 : (some ⟨b, (j + 1) * 4, none⟩ : Option Addr) = (if cap = j + 1 then (some ⟨b, 0, none⟩ : Option Addr) else (some ⟨b, 0, none⟩ : Option Addr).map (·.add ((j + 1) * 4))) ∨ cap = j + 1 := by
      by_cases h : cap = j + 1
      · exact .inr h
      · left; rw [if_neg h]; simp [add_pl]
    have hC : Cells allB (K ++ []) 4 (some ⟨b, 0, none⟩, cap) k (cs.take (k * 4)) := ⟨by simp; omega, hk, .inr ⟨b, 0, cs, true, gr, rfl, trivial, r0, hg, .inr ⟨by omega, by rw [List.drop_zero]⟩⟩⟩
    have hx : (cs.take (k * 4)).drop ((j + 1) * 4) = new := by
      simp only [new]
      rw [List.drop_take, Nat.sub_mul]
    refine AX_seq (AX_E (E_mv (v := .slice _ _ _) rfl (E_nil (AX_seq (AX_E (E_mv (v := .slice (some ⟨b, 0, none⟩) k cap) rfl (E_mv (v := .int .i64 (j : Int)) rfl (E_mv (v := .int .i64 ((j : Int) + 1)) rfl (E_mv (v := .slice (some ⟨b, 0, none⟩) k cap) rfl (E_len (n := k) rfl ?_))))))))))
    refine E_sl3 (i1 := j) (i2 := j + 1) rfl r0 hg rfl rfl rfl (by omega) (by omega) hk fun v13 => ?_
    refine E_nil (AX_seq (AX_seq (AX_E (E_mv (v := .int .i64 (j : Int)) rfl (E_mv (v := .int .i64 ((j : Int) + 1)) rfl (E_eqlS rfl rfl (fun c => absurd c (by omega)) fun c => ?_))))))
    refine E_nil (AX_condF rfl (AX_skip (AX_seq (AX_E (E_mv (v := .slice (some ⟨b, 0, none⟩) k cap) rfl (E_len (n := k) rfl (E_mv (v := .int .i64 (k : Int)) rfl (E_nil (AX_seq (AX_E (E_mv (v := .slice (some ⟨b, 0, none⟩) k cap) rfl (E_mv (v := .int .i64 (j : Int)) rfl ?_))))))))))))
    refine E_slHi (p := (some ⟨b, 0, none⟩, cap)) (j := j) rfl hC rfl rfl (by omega) (E_mv (v := .slice (some ⟨b, 0, none⟩) k cap) rfl (E_mv (v := .int .i64 ((j : Int) + 1)) rfl ?_))
    refine E_slLo (p := (some ⟨b, 0, none⟩, cap)) (j := j + 1) rfl hC rfl rfl (by omega) ?_
    refine E_appIn (cs := cs) (gr := gr) (new := new) rfl rfl (by rw [← hx]; exact (hC.drop (by omega)).first) r0 (by omega) (by omega) hnl (List.all_eq_true.2 hnc) rfl ?_
    refine E_mv (v := .slice (some ⟨b, 0, none⟩) (j + (k - (j + 1))) cap) rfl (E_nil (AX_seq (AX_E (E_mv (v := .slice (some ⟨b, 0, none⟩) (j + (k - (j + 1))) cap) rfl (E_mv (v := .slice (some ⟨b, 0, none⟩) (j + (k - (j + 1))) cap) rfl (E_len (n := j + (k - (j + 1))) rfl (E_mv (v := .int .i64 (k : Int)) rfl ?_)))))))
    have r1 : ((K ++ []).set b (.row (cs.take (j * 4) ++ new ++ cs.drop (j * 4 + new.length)) true gr))[b]? = some (.row cs1 true gr) := by rw [List.getElem?_set_self (by simpa using hb)]
    refine E_slLH (i1 := j + (k - (j + 1))) (i2 := k) rfl r1 hg rfl rfl (by omega) hk (by omega) ?_
    have e2 : k - (j + (k - (j + 1))) = 1 := by omega
    have e3 : j + (k - (j + 1)) = k - 1 := by omega
    rw [e2, e3]
    refine E_clr1 (cs := cs1) (gr := gr) rfl rfl r1 (by omega) rfl rfl ?_
    refine E_nil (AX_seq (AX_E (E_mv (v := .slice (some ⟨b, 0, none⟩) (k - 1) cap) (by rw [← e3]; rfl) (E_mv (v := .slice (some ⟨b, 0, none⟩) (k - 1) cap) rfl (E_nil (AX_ret ?_))))))
    refine ⟨_, rfl, by simp, rfl, ?_⟩
    refine (forget_more (v := .slice (some ⟨b, 0, none⟩) (k - 1) cap) rfl).trans ?_
    show ((K ++ []).set b _).set b _ = _
    rw [List.set_set, List.append_nil]
  · simp only [cs2, List.length_append, List.length_take, List.length_drop, hl1, z, List.length_cons, List.length_nil]; omega
  · intro v hv
    have h1 : ∀ v ∈ cs1, isCell v = true := by
      intro v hv
      simp only [cs1, List.mem_append] at hv
      rcases hv with (hv | hv) | hv
      · exact hcell v (List.mem_of_mem_take hv)
      · exact hnc v hv
      · exact hcell v (List.mem_of_mem_drop hv)
    simp only [cs2, List.mem_append] at hv
    rcases hv with (hv | hv) | hv
    · exact h1 v (List.mem_of_mem_take hv)
    · simp only [z, List.mem_cons, List.not_mem_nil, or_false] at hv
      rcases hv with rfl | rfl | rfl | rfl <;> rfl
    · exact h1 v (List.mem_of_mem_drop hv)
  · simp only [cs2]
    rw [List.append_assoc, List.take_append_of_le_length (by simp [hl1]; omega), List.take_take, Nat.min_self]
    simp only [cs1]
    rw [List.take_append_of_le_length (by simp [hnl]; omega)]
    exact List.take_of_length_le (by simp [hnl]; omega)
end Go.Canon
namespace Go.Canon
open Go Go.Proofs
set_option linter.unusedVariables false
set_option linter.unusedSimpArgs false
def kf79 : KFunc := ⟨1, 11, [.tmp 2], .seq (.reg [⟨some 1, .box (.t 0), none⟩, ⟨some 2, .mv (.c (.bool false)), none⟩] []) (.seq (.reg [⟨some 3, .fa (.t 1) 0, none⟩, ⟨some 4, .ld (.t 3) none, none⟩, ⟨some 5, .bin .leq (.t 4) (.c (.int .i64 12)), none⟩, ⟨some 6, .mv (.t 5), none⟩, ⟨some 7, .fa (.t 1) 3, some (6, true)⟩, ⟨some 8, .ld (.t 7) none, some (6, true)⟩, ⟨some 9, .bin .eql (.t 8) (.c (.int .i64 0)), some (6, true)⟩, ⟨some 10, .pick (.t 6) (.t 9) (.c (.bool false)), none⟩, ⟨some 2, .mv (.t 10), none⟩] []) .ret)⟩
theorem k79 : tab Try.prog 79 = some kf79 := by kernel_rfl
def kf101 : KFunc := ⟨2, 8, [.tmp 3], .seq (.reg [⟨some 2, .box (.t 0), none⟩, ⟨some 3, .mv (.c (.bool false)), none⟩] []) (.seq (.reg [⟨some 4, .ld (.t 1) none, none⟩, ⟨some 5, .ld (.t 2) (some 4), none⟩, ⟨some 6, .call (.t 4) [.t 5], none⟩, ⟨some 7, .not (.t 6), none⟩, ⟨some 3, .mv (.t 7), none⟩] []) .ret)⟩
theorem k101 : tab Try.prog 101 = some kf101 := by kernel_rfl
def kf78 : KFunc := ⟨2, 9, [.tmp 4], .seq (.reg [⟨some 3, .box (.t 1), none⟩, ⟨some 4, .mv (.c (.bool false)), none⟩] []) (.seq (.reg [⟨some 5, .mv (.t 0), none⟩, ⟨some 6, .fn 101 [] [.t 3], none⟩, ⟨some 7, .call (.c (.func (.func 49) #[] #[])) [.t 5, .t 6], none⟩, ⟨some 8, .not (.t 7), none⟩, ⟨some 4, .mv (.t 8), none⟩] []) .ret)⟩
theorem k78 : tab Try.prog 78 = some kf78 := by kernel_rfl
def kf27 : KFunc := ⟨1, 13, [.tmp 2, .tmp 3], .seq (.reg [⟨some 1, .box (.t 0), none⟩, ⟨some 2, .mv (.c (.bool false)), none⟩, ⟨some 3, .mv (.c (.int .i64 0)), none⟩] []) (.seq (.seq (.reg [⟨some 5, .ld (.t 1) (some 3), none⟩, ⟨some 6, .call (.c (.func (.func 32) #[] #[])) [.t 5], none⟩, ⟨some 4, .mv (.t 6), none⟩] []) (.seq (.reg [⟨some 7, .mv (.t 4), none⟩, ⟨some 8, .bin .neq (.t 7) (.c (.int .i64 0)), none⟩] []) (.cond (.t 8) (.seq (.reg [⟨some 9, .mv (.t 4), none⟩, ⟨some 2, .mv (.c (.bool false)), none⟩, ⟨some 3, .mv (.t 9), none⟩] []) .ret) .skip))) (.seq (.reg [⟨some 10, .fa (.t 1) 2, none⟩, ⟨some 11, .ld (.t 10) none, none⟩, ⟨some 12, .call (.c (.func (.func 78) #[] #[])) [.t 11, .c (.func (.func 79) #[] #[])], none⟩, ⟨some 2, .mv (.t 12), none⟩, ⟨some 3, .mv (.c (.int .i64 0)), none⟩] []) .ret))⟩
theorem k27 : tab Try.prog 27 = some kf27 := by kernel_rfl
def kf24 : KFunc := ⟨1, 48, [.tmp 2], .seq (.reg [⟨some 1, .box (.t 0), none⟩, ⟨some 2, .mv (.c (.slice none 0 0)), none⟩] []) (.seq (.reg [⟨some 3, .mv (.c (.slice none 0 0)), none⟩] []) (.seq (.seq (.reg [⟨some 4, .mv (.c (.int .i64 0)), none⟩] []) (.block 0 (.loop (.seq (.seq (.reg [⟨some 7, .mv (.t 4), none⟩, ⟨some 8, .fa (.t 1) 2, none⟩, ⟨some 9, .ld (.t 8) none, none⟩, ⟨some 10, .len (.t 9), none⟩, ⟨some 11, .bin .lss (.t 7) (.t 10), none⟩] []) (.cond (.t 11) .skip (.exit 0))) (.seq (.block 1 (.seq (.reg [⟨some 5, .mv (.c (.int .i64 0)), none⟩] []) (.seq (.seq (.reg [⟨some 6, .mv (.c (.int .i64 0)), none⟩] []) (.block 2 (.loop (.seq (.seq (.reg [⟨some 14, .mv (.t 6), none⟩, ⟨some 15, .mv (.t 4), none⟩, ⟨some 16, .bin .lss (.t 14) (.t 15), none⟩] []) (.cond (.t 16) .skip (.exit 2))) (.seq (.block 3 (.seq (.reg [⟨some 19, .fa (.t 1) 2, none⟩, ⟨some 20, .ld (.t 19) none, none⟩, ⟨some 21, .mv (.t 4), none⟩, ⟨some 22, .iaS (.t 20) (.t 21) 4, none⟩, ⟨some 23, .ld (.t 22) (some 4), none⟩, ⟨some 24, .fa (.t 1) 2, none⟩, ⟨some 25, .ld (.t 24) none, none⟩, ⟨some 26, .mv (.t 6), none⟩, ⟨some 27, .iaS (.t 25) (.t 26) 4, none⟩, ⟨some 28, .ld (.t 27) (some 4), none⟩, ⟨some 29, .call (.c (.func (.func 56) #[] #[])) [.t 23, .t 28], none⟩, ⟨some 30, .mv (.t 29), none⟩, ⟨some 31, .mv (.t 3), some (30, true)⟩, ⟨some 32, .mv (.t 6), some (30, true)⟩, ⟨some 33, .iaS (.t 31) (.t 32) 1, some (30, true)⟩, ⟨some 34, .ld (.t 33) none, some (30, true)⟩, ⟨some 35, .mv (.t 5), some (30, true)⟩, ⟨some 36, .bin .geq (.t 34) (.t 35), some (30, true)⟩, ⟨some 37, .pick (.t 30) (.t 36) (.c (.bool false)), none⟩] []) (.cond (.t 37) (.reg [⟨some 38, .mv (.t 3), none⟩, ⟨some 39, .mv (.t 6), none⟩, ⟨some 40, .iaS (.t 38) (.t 39) 1, none⟩, ⟨some 41, .ld (.t 40) none, none⟩, ⟨some 42, .bin .add (.t 41) (.c (.int .i64 1)), none⟩, ⟨some 5, .mv (.t 42), none⟩] []) .skip))) (.reg [⟨some 17, .mv (.t 6), none⟩, ⟨some 18, .bin .add (.t 17) (.c (.int .i64 1)), none⟩, ⟨some 6, .mv (.t 18), none⟩] [])))))) (.reg [⟨some 43, .mv (.t 3), none⟩, ⟨some 44, .mv (.t 5), none⟩, ⟨some 45, .mkS [.int .i64 0] 1 [(0, 1, .t 44)], none⟩, ⟨some 46, .app (.t 43) (.t 45) 1 8, none⟩, ⟨some 3, .mv (.t 46), none⟩] [])))) (.reg [⟨some 12, .mv (.t 4), none⟩, ⟨some 13, .bin .add (.t 12) (.c (.int .i64 1)), none⟩, ⟨some 4, .mv (.t 13), none⟩] [])))))) (.seq (.reg [⟨some 47, .mv (.t 3), none⟩, ⟨some 2, .mv (.t 47), none⟩] []) .ret)))⟩
theorem k24 : tab Try.prog 24 = some kf24 := by kernel_rfl
def kf23 : KFunc := ⟨1, 26, [.tmp 2], .seq (.reg [⟨some 1, .box (.t 0), none⟩, ⟨some 2, .mv (.c (.int .i64 0)), none⟩] []) (.seq (.reg [⟨some 3, .mv (.c (.int .i64 0)), none⟩] []) (.seq (.reg [⟨some 6, .ld (.t 1) (some 3), none⟩, ⟨some 7, .call (.c (.func (.func 24) #[] #[])) [.t 6], none⟩, ⟨some 4, .mv (.t 7), none⟩] []) (.seq (.seq (.reg [⟨some 5, .mv (.c (.int .i64 0)), none⟩] []) (.block 0 (.loop (.seq (.seq (.reg [⟨some 8, .mv (.t 5), none⟩, ⟨some 9, .mv (.t 4), none⟩, ⟨some 10, .len (.t 9), none⟩, ⟨some 11, .bin .lss (.t 8) (.t 10), none⟩] []) (.cond (.t 11) .skip (.exit 0))) (.seq (.block 1 (.seq (.reg [⟨some 14, .mv (.t 4), none⟩, ⟨some 15, .mv (.t 5), none⟩, ⟨some 16, .iaS (.t 14) (.t 15) 1, none⟩, ⟨some 17, .ld (.t 16) none, none⟩, ⟨some 18, .mv (.t 3), none⟩, ⟨some 19, .bin .geq (.t 17) (.t 18), none⟩] []) (.cond (.t 19) (.reg [⟨some 20, .mv (.t 4), none⟩, ⟨some 21, .mv (.t 5), none⟩, ⟨some 22, .iaS (.t 20) (.t 21) 1, none⟩, ⟨some 23, .ld (.t 22) none, none⟩, ⟨some 24, .bin .add (.t 23) (.c (.int .i64 1)), none⟩, ⟨some 3, .mv (.t 24), none⟩] []) .skip))) (.reg [⟨some 12, .mv (.t 5), none⟩, ⟨some 13, .bin .add (.t 12) (.c (.int .i64 1)), none⟩, ⟨some 5, .mv (.t 13), none⟩] [])))))) (.seq (.reg [⟨some 25, .mv (.t 3), none⟩, ⟨some 2, .mv (.t 25), none⟩] []) .ret))))⟩
theorem k23 : tab Try.prog 23 = some kf23 := by kernel_rfl
def kf25 : KFunc := ⟨1, 32, [.tmp 2], .seq (.reg [⟨some 1, .box (.t 0), none⟩, ⟨some 2, .mv (.c (.slice none 0 0)), none⟩] []) (.seq (.reg [⟨some 3, .mv (.c (.slice none 0 0)), none⟩] []) (.seq (.seq (.reg [⟨some 4, .mv (.c (.int .i64 0)), none⟩] []) (.block 0 (.loop (.seq (.seq (.reg [⟨some 6, .mv (.t 4), none⟩, ⟨some 7, .fa (.t 1) 0, none⟩, ⟨some 8, .ld (.t 7) none, none⟩, ⟨some 9, .bin .lss (.t 6) (.t 8), none⟩] []) (.cond (.t 9) .skip (.exit 0))) (.seq (.block 1 (.seq (.reg [⟨some 5, .mv (.c (.int .i64 0)), none⟩] []) (.block 2 (.loop (.seq (.seq (.reg [⟨some 12, .mv (.t 5), none⟩, ⟨some 13, .fa (.t 1) 2, none⟩, ⟨some 14, .ld (.t 13) none, none⟩, ⟨some 15, .len (.t 14), none⟩, ⟨some 16, .bin .lss (.t 12) (.t 15), none⟩] []) (.cond (.t 16) .skip (.exit 2))) (.seq (.block 3 (.seq (.reg [⟨some 19, .fa (.t 1) 2, none⟩, ⟨some 20, .ld (.t 19) none, none⟩, ⟨some 21, .mv (.t 5), none⟩, ⟨some 22, .iaS (.t 20) (.t 21) 4, none⟩, ⟨some 23, .fa (.t 22) 1, none⟩, ⟨some 24, .ld (.t 23) none, none⟩, ⟨some 25, .mv (.t 4), none⟩, ⟨some 26, .call (.c (.func (.func 59) #[] #[])) [.t 24, .t 25], none⟩] []) (.cond (.t 26) (.seq (.reg [⟨some 27, .mv (.t 3), none⟩, ⟨some 28, .mv (.t 4), none⟩, ⟨some 29, .mkS [.int .i64 0] 1 [(0, 1, .t 28)], none⟩, ⟨some 30, .app (.t 27) (.t 29) 1 8, none⟩, ⟨some 3, .mv (.t 30), none⟩] []) (.exit 2)) .skip))) (.reg [⟨some 17, .mv (.t 5), none⟩, ⟨some 18, .bin .add (.t 17) (.c (.int .i64 1)), none⟩, ⟨some 5, .mv (.t 18), none⟩] []))))))) (.reg [⟨some 10, .mv (.t 4), none⟩, ⟨some 11, .bin .add (.t 10) (.c (.int .i64 1)), none⟩, ⟨some 4, .mv (.t 11), none⟩] [])))))) (.seq (.reg [⟨some 31, .mv (.t 3), none⟩, ⟨some 2, .mv (.t 31), none⟩] []) .ret)))⟩
theorem k25 : tab Try.prog 25 = some kf25 := by kernel_rfl
def plainM (c : C) : Prop := ∀ g ∈ c.gs, g.k < 13 ∧ g.f = 0
instance (c : C) : Decidable (plainM c) := by unfold plainM; infer_instance
theorem plain_ret (H : Heap) (c : C) (p : Pl) {S : Nat → Prop} (hv : Gates S H p c.gs) (hl : c.gs.length < 4294967296) : Ret (tab Try.prog) 22 [cv c p] H (.bool (decide (plainM c))) H := by
  refine Ret_own k22 rfl ?_
  refine AX_seq (AX_E (E_boxA rfl (E_mv (v := .bool _) rfl (E_nil (AX_seq (AX_seq (AX_E (E_mv (v := .int .i64 (0)) rfl (E_nil (AX_block ?_))))))))))
  refine AX_loopF (γ := Nat) (fun j => [(1, .pointer (some ⟨(H).length + 0, 0, none⟩)), (3, .int .i64 ((j : Int)))]) (fun j h_ m_ => h_ = H ++ [CO.row [.int .i64 (c.w), .int .i64 (c.b), .slice (p).1 (c.gs).length (p).2] true none] ∧ m_ = [] ∧ j ≤ c.gs.length ∧ ∀ g ∈ c.gs.take j, g.k < 13 ∧ g.f = 0) (fun j => c.gs.length - j) (0) ⟨rfl, rfl, trivial⟩ ⟨rfl, rfl, ?_⟩ ?_
  · simp
  rintro j fr0 h0 m0 ⟨rfl, rfl, inv0⟩ K0 hN0 hR0 hE0
  refine AX_seq (AX_seq (AX_E (E_mv (v := .int .i64 ((j : Int))) rfl (E_fa rfl (E_ldO (k := 0) (v := .slice _ _ _) rfl rfl (E_len (n := (c.gs).length) rfl (E_lssS rfl rfl (fun c8 => ?_) (fun c8 => ?_))))))))
  · refine E_nil (AX_condT rfl (AX_skip (AX_seq (AX_block (AX_seq (AX_E (E_fa rfl (E_ldO (k := 0) (v := .slice _ _ _) rfl rfl (E_mv (v := .int .i64 ((j : Int))) rfl (have ix1 : j < (c.gs).length := (by first | omega | (simp; done) | (simp; omega)); E_iaGb (j := j) rfl hv rfl rfl rfl ix1 fun b1 o1 q1 f1 w1 => (E_fa rfl (E_ldB (v := .int .i64 ((c.gs[j]'ix1).k)) rfl (rowGet_c (j := 0) w1 rfl) (E_geqS rfl rfl (fun c17 => ?_) (fun c17 => ?_))))))))))))))
    · refine E_mv (v := .bool _) rfl (E_notF rfl (E_notF rfl (E_notF rfl (E_notF rfl (E_notF rfl (E_notF rfl (E_notF rfl (E_pickT rfl (v := .bool _) rfl (E_nil (AX_condT rfl (AX_seq (AX_E (E_mv (v := .bool _) rfl (E_nil (AX_ret (hR0 _ _ _ ?_))))))))))))))))
      refine ⟨_, rfl, by simp, ?_, forget_flat rfl (List.prefix_append _ _)⟩
      -- r1
      clear hN0 hR0 hE0
      refine congrArg (Value.bool) ?_
      refine (decide_eq_false ?_).symm
      exact fun x => absurd (x _ (List.getElem_mem ix1)).1 (by omega)
    · refine E_mv (v := .bool _) rfl (E_on rfl (E_fa rfl (E_on rfl (E_ldO (k := 0) (v := .slice _ _ _) rfl rfl (E_on rfl (E_mv (v := .int .i64 ((j : Int))) rfl (E_on rfl (have ix2 : j < (c.gs).length := (by first | omega | (simp; done) | (simp; omega)); E_iaGb (j := j) rfl hv rfl rfl rfl ix2 fun b2 o2 q2 f2 w2 => (E_on rfl (E_fa rfl (E_on rfl (E_ldB (v := .int .i64 ((c.gs[j]'ix2).f)) rfl (rowGet_c (j := 3) w2 rfl) (E_on rfl (E_neqS rfl rfl (fun c25 => ?_) (fun c25 => ?_)))))))))))))))
      · refine E_pickF rfl (v := .bool _) rfl (E_nil (AX_condT rfl (AX_seq (AX_E (E_mv (v := .bool _) rfl (E_nil (AX_ret (hR0 _ _ _ ?_))))))))
        refine ⟨_, rfl, by simp, ?_, forget_flat rfl (List.prefix_append _ _)⟩
        -- r2
        clear hN0 hR0 hE0
        refine congrArg (Value.bool) ?_
        refine (decide_eq_false ?_).symm
        exact fun x => c25 (x _ (List.getElem_mem ix1)).2
      · refine E_pickF rfl (v := .bool _) rfl (E_nil (AX_condF rfl (AX_skip (AX_E (E_mv (v := .int .i64 ((j : Int))) rfl (E_addI rfl rfl (by first | omega | (simp; done) | (simp; omega)) (by first | omega | (simp; done) | (simp; omega)) (E_mv (v := .int .i64 (((j : Int) + 1))) rfl (E_nil ?_))))))))
        refine hN0 (j + 1) _ _ _ ⟨by first | rfl | (congr 1; omega), by first | rfl | (congr 1; omega), trivial⟩ ⟨rfl, rfl, ?_⟩ ?_
        -- n3
        all_goals clear hN0 hR0 hE0
        · exact ⟨by omega, all_next (by omega) inv0.2 ⟨by omega, c25⟩⟩
        · (first | omega | (simp; omega))
  · refine E_nil (AX_condF rfl (AX_exit (hE0 _ _ _ _ ?_)))
    have e0 := all_all c8 inv0.2
    refine AX_seq (AX_E (E_mv (v := .bool _) rfl (E_nil (AX_ret ?_))))
    refine ⟨_, rfl, by simp, ?_, forget_flat rfl (List.prefix_append _ _)⟩
    -- r4
    clear hN0 hR0 hE0
    refine congrArg (Value.bool) ?_
    refine (decide_eq_true ?_).symm
    exact e0
theorem plain1_ret (H : Heap) (g : G) (p : Pl) (hg : GR g) : Ret (tab Try.prog) 79 [gv g p] H (.bool (decide (g.k < 13 ∧ g.f = 0))) H := by
  refine Ret_own k79 rfl ?_
  refine AX_seq (AX_E (E_boxA rfl (E_mv (v := .bool _) rfl (E_nil (AX_seq (AX_E (E_fa rfl (E_ldO (k := 0) (v := .int .i64 (g.k)) rfl rfl (E_leqS rfl rfl (fun c5 => ?_) (fun c5 => ?_))))))))))
  · refine E_mv (v := .bool _) rfl (E_on rfl (E_fa rfl (E_on rfl (E_ldO (k := 0) (v := .int .i64 (g.f)) rfl rfl (E_on rfl (E_eqlV rfl rfl (E_pickT rfl (v := .bool _) rfl (E_mv (v := .bool _) rfl (E_nil (AX_ret ?_))))))))))
    refine ⟨_, rfl, by simp, ?_, forget_flat rfl (List.prefix_append _ _)⟩
    refine congrArg (Value.bool) ?_
    refine decide_eq_decide.2 ?_
    omega
  · refine E_mv (v := .bool _) rfl (E_notT rfl (E_notT rfl (E_notT rfl (E_pickF rfl (v := .bool _) rfl (E_mv (v := .bool _) rfl (E_nil (AX_ret ?_)))))))
    refine ⟨_, rfl, by simp, ?_, forget_flat rfl (List.prefix_append _ _)⟩
    refine congrArg (Value.bool) ?_
    refine (decide_eq_false ?_).symm
    omega
theorem everyG1_ret (H : Heap) (g : G) (p : Pl) (b o : Nat) (f : Nat) (P : Prop) [Decidable P] (hr : rowGet H ⟨b, o, none⟩ 1 = some [.func (.func f) #[] #[]])
    (hf : ∀ K, H <+: K → Ret (tab Try.prog) f [gv g p] K (.bool (decide P)) K) : Ret (tab Try.prog) 101 [gv g p, .pointer (some ⟨b, o, none⟩)] H (.bool (decide ¬ P)) H := by
  refine Ret_own k101 rfl ?_
  refine AX_seq (AX_E (E_boxA rfl (E_mv (v := .bool _) rfl (E_nil (AX_seq (AX_E (E_ldB (v := .func _ _ _) rfl hr (E_ldON (k := 0) rfl rfl (E_callP rfl (hf _ (List.prefix_append _ _)) (fun c6 => ?_) (fun c6 => ?_))))))))))
  · refine E_notV rfl rfl (E_mv (v := .bool _) rfl (E_nil (AX_ret ?_)))
    refine ⟨_, rfl, by simp, ?_, forget_flat rfl (List.prefix_append _ _)⟩
    refine congrArg (Value.bool) ?_
    refine (decide_eq_false ?_).symm
    simp [*]
  · refine E_notV rfl rfl (E_mv (v := .bool _) rfl (E_nil (AX_ret ?_)))
    refine ⟨_, rfl, by simp, ?_, forget_flat rfl (List.prefix_append _ _)⟩
    refine congrArg (Value.bool) ?_
    refine (decide_eq_true ?_).symm
    simp [*]
theorem everyG_ret (H : Heap) (p : Pl) (l : List G) (f : Nat) (P : G → Prop) [DecidablePred P] {S : Nat → Prop} (hv : Gates S H p l) (hl : l.length < 4294967296)
    (hf : ∀ (g : G) (p : Pl) (K : Heap), H <+: K → g ∈ l → Ret (tab Try.prog) f [gv g p] K (.bool (decide (P g))) K) :
    Ret (tab Try.prog) 78 [.slice p.1 l.length p.2, .func (.func f) #[] #[]] H (.bool (decide (∀ x ∈ l, P x))) H := by
  refine Ret_own k78 rfl ?_
  refine AX_seq (AX_E (E_boxV (v := .func _ _ _) rfl rfl (E_mv (v := .bool _) rfl (E_nil (AX_seq (AX_E (E_mv (v := .slice _ _ _) rfl (E_fn (u := []) (v := [.pointer (some ⟨(H).length + 0, 0, none⟩)]) rfl rfl (E_callP rfl (containsfuncG_ret _ _ _ _ _ _ (fun x => ¬ P x) hv.app (by omega) (fun g p K hK hg _ => everyG1_ret K g p _ _ f (P g) (rowGet_pre (rowGet_own (k := 0) rfl) hK) (fun K2 h2 => hf g p K2 (((List.prefix_append _ _).trans hK).trans h2) hg))) (fun c7 => ?_) (fun c7 => ?_))))))))))
  · refine E_notV rfl rfl (E_mv (v := .bool _) rfl (E_nil (AX_ret ?_)))
    refine ⟨_, rfl, by simp, ?_, forget_flat rfl (List.prefix_append _ _)⟩
    refine congrArg (Value.bool) ?_
    refine (decide_eq_false ?_).symm
    first | (intro x hx; exact Decidable.byContradiction fun h => c7 ⟨x, hx, h⟩) | (obtain ⟨x, hx, h⟩ := c7; exact fun y => h (y x hx))
  · refine E_notV rfl rfl (E_mv (v := .bool _) rfl (E_nil (AX_ret ?_)))
    refine ⟨_, rfl, by simp, ?_, forget_flat rfl (List.prefix_append _ _)⟩
    refine congrArg (Value.bool) ?_
    refine (decide_eq_true ?_).symm
    first | (intro x hx; exact Decidable.byContradiction fun h => c7 ⟨x, hx, h⟩) | (obtain ⟨x, hx, h⟩ := c7; exact fun y => h (y x hx))
theorem pplain_ret (H : Heap) (c : C) (p : Pl) {S : Nat → Prop} (hv : Gates S H p c.gs) (hl : c.gs.length < 4294967296) : Ret (tab Try.prog) 27 [cv c p] H (.tuple #[.bool (if checkM c = 0 then decide (plainM c) else false), .int .i64 (checkM c)]) H := by
  refine Ret_own k27 rfl ?_
  refine AX_seq (AX_E (E_boxA rfl (E_mv (v := .bool _) rfl (E_mv (v := .int .i64 (0)) rfl (E_nil (AX_seq (AX_seq (AX_E (E_ldON (k := 0) rfl rfl (E_callV rfl (pcheck_ret _ c _ hv.app (by first | omega | (simp; done) | (simp; omega))) (E_mv (v := .int .i64 (checkM c)) rfl (E_nil (AX_seq (AX_E (E_mv (v := .int .i64 (checkM c)) rfl (E_neqS rfl rfl (fun c8 => ?_) (fun c8 => ?_)))))))))))))))))
  · refine E_nil (AX_condT rfl (AX_seq (AX_E (E_mv (v := .int .i64 (checkM c)) rfl (E_mv (v := .bool _) rfl (E_mv (v := .int .i64 (checkM c)) rfl (E_nil (AX_ret ?_))))))))
    refine ⟨_, rfl, by simp, ?_, forget_flat rfl (List.prefix_append _ _)⟩
    -- r1
    show Value.tuple #[.bool false, .int .i64 (checkM c)] = _
    first | (simp [*]; done) | (have h9 : plainM c := c12; simp [h9, c8]; done) | (have h9 : ¬ plainM c := c12; simp [h9, c8])
  · refine E_nil (AX_condF rfl (AX_skip (AX_seq (AX_E (E_fa rfl (E_ldO (k := 0) (v := .slice _ _ _) rfl rfl (E_callP rfl (everyG_ret _ _ _ 79 (fun g => g.k < 13 ∧ g.f = 0) hv.app (by omega) (fun g p K hK hg => plain1_ret K g p ((CR.of c8).gr hg))) (fun c12 => ?_) (fun c12 => ?_))))))))
    · refine E_mv (v := .bool _) rfl (E_mv (v := .int .i64 (0)) rfl (E_nil (AX_ret ?_)))
      refine ⟨_, rfl, by simp, ?_, forget_flat rfl (List.prefix_append _ _)⟩
      -- r2
      show Value.tuple #[.bool true, .int .i64 (0)] = _
      first | (simp [*]; done) | (have h9 : plainM c := c12; simp [h9, c8]; done) | (have h9 : ¬ plainM c := c12; simp [h9, c8])
    · refine E_mv (v := .bool _) rfl (E_mv (v := .int .i64 (0)) rfl (E_nil (AX_ret ?_)))
      refine ⟨_, rfl, by simp, ?_, forget_flat rfl (List.prefix_append _ _)⟩
      -- r3
      show Value.tuple #[.bool false, .int .i64 (0)] = _
      first | (simp [*]; done) | (have h9 : plainM c := c12; simp [h9, c8]; done) | (have h9 : ¬ plainM c := c12; simp [h9, c8])
/-- The layer of gate i, by the first k before it, whose layers are out. -/
def layerTo (gs : List G) (out : List Int) (i : Nat) : Nat → Int
  | 0 => 0
  | k + 1 => if meetM (gs.getD i default) (gs.getD k default) ∧ layerTo gs out i k ≤ out.getD k 0 then out.getD k 0 + 1 else layerTo gs out i k
def layersL (gs : List G) : Nat → List Int
  | 0 => []
  | i + 1 => layersL gs i ++ [layerTo gs (layersL gs i) i i]
theorem layersL_len (gs : List G) : ∀ i, (layersL gs i).length = i
  | 0 => rfl
  | i + 1 => by rw [layersL, List.length_append, layersL_len gs i]; rfl
theorem layerTo_le {gs : List G} {out : List Int} {i : Nat} {B : Int} (hB : 0 ≤ B) (H : ∀ x ∈ out, 0 ≤ x ∧ x < B) : ∀ k, k ≤ out.length → 0 ≤ layerTo gs out i k ∧ layerTo gs out i k ≤ B
  | 0, _ => by simp [layerTo, hB]
  | k + 1, hk => by
    have := layerTo_le (i := i) (gs := gs) hB H k (by omega)
    have h2 := H (out.getD k 0) (by rw [← getD_at (show k < out.length by omega)]; exact List.getElem_mem _)
    unfold layerTo
    split <;> omega
theorem layersL_le (gs : List G) : ∀ i, ∀ x ∈ layersL gs i, 0 ≤ x ∧ x < (i : Int)
  | 0, x, h => by simp [layersL] at h
  | i + 1, x, h => by
    rw [layersL, List.mem_append] at h
    have ih := layersL_le gs i
    rcases h with h | h
    · have := ih x h; omega
    · simp only [List.mem_cons, List.not_mem_nil, or_false] at h
      subst h
      have := layerTo_le (gs := gs) (i := i) (B := (i : Int)) (by omega) ih i (by rw [layersL_len]; omega)
      omega
theorem layer_yes {gs : List G} {out : List Int} {i k : Nat} (hi : i < gs.length) (hk : k < gs.length) (ho : k < out.length) (h1 : meetM gs[i] gs[k]) (h2 : layerTo gs out i k ≤ out[k]) : layerTo gs out i (k + 1) = out[k] + 1 := by
  rw [layerTo, getG_at hi, getG_at hk, ← getD_at ho, if_pos ⟨h1, h2⟩]
theorem layer_no {gs : List G} {out : List Int} {i k : Nat} (hi : i < gs.length) (hk : k < gs.length) (h1 : ¬ meetM gs[i] gs[k]) : layerTo gs out i (k + 1) = layerTo gs out i k := by
  rw [layerTo, getG_at hi, getG_at hk, if_neg (fun x => h1 x.1)]
theorem layer_no2 {gs : List G} {out : List Int} {i k : Nat} (ho : k < out.length) (h2 : ¬ layerTo gs out i k ≤ out[k]) : layerTo gs out i (k + 1) = layerTo gs out i k := by
  rw [layerTo, ← getD_at ho, if_neg (fun x => h2 x.2)]
theorem layers_ret (H : Heap) (c : C) (p : Pl) {S : Nat → Prop} (hv : Gates S H p c.gs) (hr : CR c) : ∃ X p', Ret (tab Try.prog) 24 [cv c p] H (.slice p'.1 (layersL c.gs c.gs.length).length p'.2) (H ++ X) ∧ IntsZ H.length X p' (layersL c.gs c.gs.length) := by
  have key := Ret_grow (T := tab Try.prog) (f := 24) (args := [cv c p]) (h := H) (fun u X => ∃ p' : Pl, u = .slice p'.1 (layersL c.gs c.gs.length).length p'.2 ∧ IntsZ H.length X p' (layersL c.gs c.gs.length)) k24 rfl ?_
  · obtain ⟨u, X, hr, p', rfl, f1⟩ := key
    exact ⟨X, p', hr, f1⟩
  have hn := hr.n0
  refine AX_seq (AX_E (E_boxA rfl (E_mv (v := .slice _ _ _) rfl (E_nil (AX_seq (AX_E (E_mv (v := .slice _ _ _) rfl (E_nil (AX_seq (AX_seq (AX_E (E_mv (v := .int .i64 (0)) rfl (E_nil (AX_block ?_))))))))))))))
  refine AX_loopF (γ := Nat × Pl) (fun x => [(1, .pointer (some ⟨(H).length + 0, 0, none⟩)), (3, .slice (x.2).1 ((layersL c.gs x.1)).length (x.2).2), (4, .int .i64 ((x.1 : Int)))]) (fun x h_ m_ => (∃ z_, h_ = H ++ ([CO.row [.int .i64 (c.w), .int .i64 (c.b), .slice (p).1 (c.gs).length (p).2] true none] ++ z_) ∧ Grown 1 (H.length + 1) z_ x.2 (layersL c.gs x.1).length ((layersL c.gs x.1).map (.int .i64 ·))) ∧ m_ = [] ∧ x.1 ≤ c.gs.length) (fun x => c.gs.length - x.1) (0, (none, 0)) ⟨rfl, rfl, rfl, trivial⟩ ⟨⟨[], app0 _ _, Grown.nil⟩, rfl, ?_⟩ ?_
  · simp
  rintro ⟨i, p0⟩ fr0 h0 m0 ⟨⟨z0, rfl, zf0⟩, rfl, inv0⟩ K0 hN0 hR0 hE0
  try dsimp only at zf0 inv0
  have hll := layersL_len c.gs i
  have hlb := layersL_le c.gs i
  refine AX_nil ?_
  refine AX_seq (AX_seq (AX_E (E_mv (v := .int .i64 ((i : Int))) rfl (E_fa rfl (E_ldB (v := .slice _ _ _) rfl (rowGet_own (k := 0) rfl) (E_len (n := (c.gs).length) rfl (E_lssS rfl rfl (fun c11 => ?_) (fun c11 => ?_))))))))
  · refine E_nil (AX_condT rfl (AX_skip (AX_seq (AX_block (AX_seq (AX_E (E_mv (v := .int .i64 (0)) rfl (E_nil (AX_seq (AX_seq (AX_E (E_mv (v := .int .i64 (0)) rfl (E_nil (AX_block ?_))))))))))))))
    refine AX_loopF (γ := Nat) (fun k => [(1, .pointer (some ⟨(H).length + 0, 0, none⟩)), (3, .slice (p0).1 ((layersL c.gs i)).length (p0).2), (4, .int .i64 ((i : Int))), (5, .int .i64 (layerTo c.gs (layersL c.gs i) i k)), (6, .int .i64 ((k : Int)))]) (fun k h_ m_ => h_ = (H ++ ([CO.row [.int .i64 (c.w), .int .i64 (c.b), .slice (p).1 (c.gs).length (p).2] true none] ++ z0)) ++ [] ∧ m_ = [] ∧ k ≤ i) (fun k => i - k) (0) ⟨rfl, rfl, rfl, rfl, rfl, trivial⟩ ⟨rfl, rfl, ?_⟩ ?_
    · simp
    rintro k fr2 h2 m2 ⟨rfl, rfl, inv2⟩ K2 hN2 hR2 hE2
    refine AX_seq (AX_seq (AX_E (E_mv (v := .int .i64 ((k : Int))) rfl (E_mv (v := .int .i64 ((i : Int))) rfl (E_lssS rfl rfl (fun c16 => ?_) (fun c16 => ?_))))))
    · refine E_nil (AX_condT rfl (AX_skip (AX_seq (AX_block (AX_seq (AX_E (E_fa rfl (E_ldB (v := .slice _ _ _) rfl (rowGet_own (k := 0) rfl) (E_mv (v := .int .i64 ((i : Int))) rfl (have ix1 : i < (c.gs).length := (by first | omega | (simp; done) | (simp; omega)); E_iaGb (j := i) rfl hv.app rfl rfl rfl ix1 fun b1 o1 q1 f1 w1 => (E_ldBN rfl w1 (E_fa rfl (E_ldB (v := .slice _ _ _) rfl (rowGet_own (k := 0) rfl) (E_mv (v := .int .i64 ((k : Int))) rfl (have ix2 : k < (c.gs).length := (by first | omega | (simp; done) | (simp; omega)); E_iaGb (j := k) rfl hv.app rfl rfl rfl ix2 fun b2 o2 q2 f2 w2 => (E_ldBN rfl w2 (E_callP rfl (meet_ret _ (c.gs[i]'ix1) (c.gs[k]'ix2) _ _ f1.app f2.app (hr.gr (List.getElem_mem _)) (hr.gr (List.getElem_mem _))) (fun c29 => ?_) (fun c29 => ?_))))))))))))))))))
      · refine E_mv (v := .bool _) rfl (E_on rfl (E_mv (v := .slice _ _ _) rfl (E_on rfl (E_mv (v := .int .i64 ((k : Int))) rfl (E_on rfl (have ix3 : k < ((layersL c.gs i)).length := (by first | omega | (simp; done) | (simp; omega)); E_iaIb (j := k) rfl (zf0.ints.at (by simp)) rfl rfl rfl ix3 fun b3 o3 w3 => (E_on rfl (E_ldB (v := .int .i64 ((layersL c.gs i)[k]'ix3)) rfl w3 (E_on rfl (E_mv (v := .int .i64 (layerTo c.gs (layersL c.gs i) i k)) rfl (E_on rfl (E_geqS rfl rfl (fun c36 => ?_) (fun c36 => ?_)))))))))))))
        · refine E_pickT rfl (v := .bool _) rfl (E_nil (AX_condT rfl (AX_E (E_mv (v := .slice _ _ _) rfl (E_mv (v := .int .i64 ((k : Int))) rfl (have ix4 : k < ((layersL c.gs i)).length := (by first | omega | (simp; done) | (simp; omega)); E_iaIb (j := k) rfl (zf0.ints.at (by simp)) rfl rfl rfl ix4 fun b4 o4 w4 => (E_ldB (v := .int .i64 ((layersL c.gs i)[k]'ix4)) rfl w4 (E_addI rfl rfl (by have := hlb _ (List.getElem_mem (show k < (layersL c.gs i).length by omega)); omega) (by have := hlb _ (List.getElem_mem (show k < (layersL c.gs i).length by omega)); omega) (E_mv (v := .int .i64 (((layersL c.gs i)[k]'ix4 + 1))) rfl (E_nil (AX_E (E_mv (v := .int .i64 ((k : Int))) rfl (E_addI rfl rfl (by first | omega | (simp; done) | (simp; omega)) (by first | omega | (simp; done) | (simp; omega)) (E_mv (v := .int .i64 (((k : Int) + 1))) rfl (E_nil ?_)))))))))))))))
          refine hN2 (k + 1) _ _ _ ⟨by first | rfl | (congr 1; omega), by first | rfl | (congr 1; omega), by first | rfl | (congr 1; omega), by first | exact congrArg (Value.int _) (layer_yes _ _ _ c29 c36).symm | exact congrArg (Value.int _) (layer_no2 _ c36).symm | exact congrArg (Value.int _) (layer_no _ _ c29).symm, by first | rfl | (congr 1; omega), trivial⟩ ⟨rfl, rfl, ?_⟩ ?_
          all_goals clear hN0 hR0 hE0 hN2 hR2 hE2
          · omega
          · (first | omega | (simp; omega))
        · refine E_pickT rfl (v := .bool _) rfl (E_nil (AX_condF rfl (AX_skip (AX_E (E_mv (v := .int .i64 ((k : Int))) rfl (E_addI rfl rfl (by first | omega | (simp; done) | (simp; omega)) (by first | omega | (simp; done) | (simp; omega)) (E_mv (v := .int .i64 (((k : Int) + 1))) rfl (E_nil ?_))))))))
          refine hN2 (k + 1) _ _ _ ⟨by first | rfl | (congr 1; omega), by first | rfl | (congr 1; omega), by first | rfl | (congr 1; omega), by first | exact congrArg (Value.int _) (layer_yes _ _ _ c29 c36).symm | exact congrArg (Value.int _) (layer_no2 _ c36).symm | exact congrArg (Value.int _) (layer_no _ _ c29).symm, by first | rfl | (congr 1; omega), trivial⟩ ⟨rfl, rfl, ?_⟩ ?_
          all_goals clear hN0 hR0 hE0 hN2 hR2 hE2
          · omega
          · (first | omega | (simp; omega))
      · refine E_mv (v := .bool _) rfl (E_notT rfl (E_notT rfl (E_notT rfl (E_notT rfl (E_notT rfl (E_notT rfl (E_pickF rfl (v := .bool _) rfl (E_nil (AX_condF rfl (AX_skip (AX_E (E_mv (v := .int .i64 ((k : Int))) rfl (E_addI rfl rfl (by first | omega | (simp; done) | (simp; omega)) (by first | omega | (simp; done) | (simp; omega)) (E_mv (v := .int .i64 (((k : Int) + 1))) rfl (E_nil ?_)))))))))))))))
        refine hN2 (k + 1) _ _ _ ⟨by first | rfl | (congr 1; omega), by first | rfl | (congr 1; omega), by first | rfl | (congr 1; omega), by first | exact congrArg (Value.int _) (layer_yes _ _ _ c29 c36).symm | exact congrArg (Value.int _) (layer_no2 _ c36).symm | exact congrArg (Value.int _) (layer_no _ _ c29).symm, by first | rfl | (congr 1; omega), trivial⟩ ⟨rfl, rfl, ?_⟩ ?_
        all_goals clear hN0 hR0 hE0 hN2 hR2 hE2
        · omega
        · (first | omega | (simp; omega))
    · refine E_nil (AX_condF rfl (AX_exit (hE2 _ _ _ _ ?_)))
      have ek : k = i := by omega
      refine AX_E (E_mv (v := .slice _ _ _) rfl (E_mv (v := .int .i64 (layerTo c.gs (layersL c.gs i) i k)) rfl (E_mkS (cs := [.int .i64 (layerTo c.gs (layersL c.gs i) i k)]) rfl (E_appI (A := [CO.row [.int .i64 (c.w), .int .i64 (c.b), .slice (p).1 (c.gs).length (p).2] true none]) (Z := (z0 ++ [CO.row [.int .i64 (layerTo c.gs (layersL c.gs i) i k)] true none])) (l' := layersL c.gs (i + 1)) (by first | (simp only [List.append_assoc, List.append_nil, List.nil_append, List.cons_append, List.set_cons_zero, List.set_cons_succ]; done) | (simp only [List.append_assoc, List.append_nil, List.nil_append, List.cons_append, List.set_cons_zero, List.set_cons_succ]; rfl)) (by rw [layersL, ek]) (n := (H.length + 1)) (by simp) (zf0).app rfl rfl (rowGet_own (k := 0) rfl) (by omega) rfl fun z5n p5n hb5n => (E_mv (v := .slice _ _ _) rfl (E_nil (AX_E (E_mv (v := .int .i64 ((i : Int))) rfl (E_addI rfl rfl (by first | omega | (simp; done) | (simp; omega)) (by first | omega | (simp; done) | (simp; omega)) (E_mv (v := .int .i64 (((i : Int) + 1))) rfl (E_nil ?_)))))))))))
      refine hN0 (i + 1, p5n) _ _ _ ⟨by first | rfl | (congr 1; omega), by first | rfl | (congr 1; omega), by first | rfl | (congr 1; omega), trivial⟩ ⟨⟨z5n, rfl, hb5n⟩, rfl, ?_⟩ ?_
      all_goals clear hN0 hR0 hE0 hN2 hR2 hE2
      · omega
      · (first | omega | (simp; omega))
  · refine E_nil (AX_condF rfl (AX_exit (hE0 _ _ _ _ ?_)))
    have e0 : layersL c.gs i = layersL c.gs c.gs.length := by rw [show i = c.gs.length by omega]
    refine AX_hp (h' := H ++ ([CO.row [.int .i64 (c.w), .int .i64 (c.b), .slice (p).1 (c.gs).length (p).2] true none] ++ z0)) (by first | (simp only [List.append_assoc, List.append_nil, List.nil_append, List.cons_append, List.set_cons_zero, List.set_cons_succ]; done) | (simp only [List.append_assoc, List.append_nil, List.nil_append, List.cons_append, List.set_cons_zero, List.set_cons_succ]; rfl)) ?_
    refine AX_seq (AX_E (E_mv (v := .slice _ _ _) rfl (E_mv (v := .slice _ _ _) rfl (E_nil (AX_ret ?_)))))
    refine ⟨_, rfl, by simp, ?_⟩
    obtain ⟨X, h1, h2⟩ := leafI (h := H) (h' := H ++ ([CO.row [.int .i64 (c.w), .int .i64 (c.b), .slice (p).1 (c.gs).length (p).2] true none] ++ z0)) (A := [CO.row [.int .i64 (c.w), .int .i64 (c.b), .slice (p).1 (c.gs).length (p).2] true none]) (Z := z0) (u := Value.slice p0.1 (layersL c.gs i).length p0.2) rfl zf0.ints (by simp) sl_flat
    exact ⟨X, h1, p0, (show _ = Value.slice p0.1 (layersL c.gs i).length p0.2 from rfl).trans (by rw [e0] <;> rfl), by rw [e0] at h2; exact h2⟩
end Go.Canon
namespace Go.Canon
open Go Go.Proofs
set_option linter.unusedVariables false
set_option linter.unusedSimpArgs false
def depthL (l : List Int) : Int := l.foldl (fun n x => if n ≤ x then x + 1 else n) 0
theorem depthL_next {l : List Int} {j : Nat} (hj : j < l.length) : depthL (l.take (j + 1)) = if depthL (l.take j) ≤ l[j] then l[j] + 1 else depthL (l.take j) := by
  unfold depthL
  rw [List.take_succ_eq_append_getElem hj, List.foldl_append]
  rfl
def depthM (c : C) : Int := depthL (layersL c.gs c.gs.length)
theorem depth_ret (H : Heap) (c : C) (p : Pl) {S : Nat → Prop} (hv : Gates S H p c.gs) (hr : CR c) : Ret (tab Try.prog) 23 [cv c p] H (.int .i64 (depthM c)) H := by
  have hn := hr.n0
  have hll := layersL_len c.gs c.gs.length
  have hlb := layersL_le c.gs c.gs.length
  refine Ret_own k23 rfl ?_
  refine AX_seq (AX_E (E_boxA rfl (E_mv (v := .int .i64 (0)) rfl (E_nil (AX_seq (AX_E (E_mv (v := .int .i64 (0)) rfl (E_nil (AX_seq (AX_E (E_ldON (k := 0) rfl rfl ?_)))))))))))
  obtain ⟨X1, q1, hr1, f1⟩ := layers_ret (H ++ [CO.row [.int .i64 (c.w), .int .i64 (c.b), .slice (p).1 (c.gs).length (p).2] true none]) c _ hv.app (by assumption)
  refine E_callX (X := X1) rfl (hr1) (E_mv (v := .slice _ _ _) rfl (E_nil (AX_seq (AX_seq (AX_E (E_mv (v := .int .i64 (0)) rfl (E_nil (AX_block ?_))))))))
  refine AX_loopF (γ := Nat) (fun j => [(3, .int .i64 (depthL ((layersL c.gs c.gs.length).take j))), (4, .slice (q1).1 ((layersL c.gs c.gs.length)).length (q1).2), (5, .int .i64 ((j : Int)))]) (fun j h_ m_ => h_ = (H ++ ([CO.row [.int .i64 (c.w), .int .i64 (c.b), .slice (p).1 (c.gs).length (p).2] true none] ++ X1)) ++ [] ∧ m_ = [] ∧ j ≤ (layersL c.gs c.gs.length).length) (fun j => (layersL c.gs c.gs.length).length - j) (0) ⟨rfl, rfl, rfl, trivial⟩ ⟨rfl, rfl, ?_⟩ ?_
  · simp
  rintro j fr0 h0 m0 ⟨rfl, rfl, inv0⟩ K0 hN0 hR0 hE0
  refine AX_seq (AX_seq (AX_E (E_mv (v := .int .i64 ((j : Int))) rfl (E_mv (v := .slice _ _ _) rfl (E_len (n := ((layersL c.gs c.gs.length)).length) rfl (E_lssS rfl rfl (fun c11 => ?_) (fun c11 => ?_)))))))
  · refine E_nil (AX_condT rfl (AX_skip (AX_seq (AX_block (AX_seq (AX_E (E_mv (v := .slice _ _ _) rfl (E_mv (v := .int .i64 ((j : Int))) rfl (have ix2 : j < ((layersL c.gs c.gs.length)).length := (by first | omega | (simp; done) | (simp; omega)); E_iaIb (j := j) rfl (f1.at rfl) rfl rfl rfl ix2 fun b2 o2 w2 => (E_ldB (v := .int .i64 ((layersL c.gs c.gs.length)[j]'ix2)) rfl w2 (E_mv (v := .int .i64 (depthL ((layersL c.gs c.gs.length).take j))) rfl (E_geqS rfl rfl (fun c19 => ?_) (fun c19 => ?_)))))))))))))
    · refine E_nil (AX_condT rfl (AX_E (E_mv (v := .slice _ _ _) rfl (E_mv (v := .int .i64 ((j : Int))) rfl (have ix3 : j < ((layersL c.gs c.gs.length)).length := (by first | omega | (simp; done) | (simp; omega)); E_iaIb (j := j) rfl (f1.at rfl) rfl rfl rfl ix3 fun b3 o3 w3 => (E_ldB (v := .int .i64 ((layersL c.gs c.gs.length)[j]'ix3)) rfl w3 (E_addI rfl rfl (by have := hlb _ (List.getElem_mem (show j < (layersL c.gs c.gs.length).length by omega)); omega) (by have := hlb _ (List.getElem_mem (show j < (layersL c.gs c.gs.length).length by omega)); omega) (E_mv (v := .int .i64 (((layersL c.gs c.gs.length)[j]'ix3 + 1))) rfl (E_nil (AX_E (E_mv (v := .int .i64 ((j : Int))) rfl (E_addI rfl rfl (by first | omega | (simp; done) | (simp; omega)) (by first | omega | (simp; done) | (simp; omega)) (E_mv (v := .int .i64 (((j : Int) + 1))) rfl (E_nil ?_))))))))))))))
      refine hN0 (j + 1) _ _ _ ⟨by first | exact congrArg (Value.int _) ((depthL_next ix2).trans (if_pos c19)).symm | exact congrArg (Value.int _) ((depthL_next ix2).trans (if_neg c19)).symm | exact congrArg (Value.int _) ((depthL_next ix1).trans (if_neg c19)).symm, by first | rfl | (congr 1; omega), by first | rfl | (congr 1; omega), trivial⟩ ⟨rfl, rfl, ?_⟩ ?_
      -- n1
      all_goals clear hN0 hR0 hE0
      · omega
      · (first | omega | (simp; omega))
    · refine E_nil (AX_condF rfl (AX_skip (AX_E (E_mv (v := .int .i64 ((j : Int))) rfl (E_addI rfl rfl (by first | omega | (simp; done) | (simp; omega)) (by first | omega | (simp; done) | (simp; omega)) (E_mv (v := .int .i64 (((j : Int) + 1))) rfl (E_nil ?_)))))))
      refine hN0 (j + 1) _ _ _ ⟨by first | exact congrArg (Value.int _) ((depthL_next ix2).trans (if_pos c19)).symm | exact congrArg (Value.int _) ((depthL_next ix2).trans (if_neg c19)).symm | exact congrArg (Value.int _) ((depthL_next ix1).trans (if_neg c19)).symm, by first | rfl | (congr 1; omega), by first | rfl | (congr 1; omega), trivial⟩ ⟨rfl, rfl, ?_⟩ ?_
      -- n2
      all_goals clear hN0 hR0 hE0
      · omega
      · (first | omega | (simp; omega))
  · refine E_nil (AX_condF rfl (AX_exit (hE0 _ _ _ _ ?_)))
    have e0 : depthL ((layersL c.gs c.gs.length).take j) = depthM c := by rw [List.take_of_length_le (by omega)]; rfl
    refine AX_seq (AX_E (E_mv (v := .int .i64 (depthL ((layersL c.gs c.gs.length).take j))) rfl (E_mv (v := .int .i64 (depthL ((layersL c.gs c.gs.length).take j))) rfl (E_nil (AX_ret ?_)))))
    refine ⟨_, rfl, by simp, ?_, forget_flat rfl ((List.prefix_append _ _).trans (List.prefix_append _ _))⟩
    -- r3
    clear hN0 hR0 hE0
    refine congrArg (Value.int _) ?_
    exact e0
def usedL (gs : List G) : Nat → List Int
  | 0 => []
  | w + 1 => usedL gs w ++ (if ∃ g ∈ gs, (w : Int) ∈ g.ws then [(w : Int)] else [])
theorem usedL_len (gs : List G) : ∀ w, (usedL gs w).length ≤ w
  | 0 => by simp [usedL]
  | w + 1 => by
    have := usedL_len gs w
    rw [usedL, List.length_append]
    split <;> simp <;> omega
def usedM (c : C) : List Int := usedL c.gs c.w.toNat
theorem used_ret (H : Heap) (c : C) (p : Pl) {S : Nat → Prop} (hv : Gates S H p c.gs) (hr : CR c) : ∃ X p', Ret (tab Try.prog) 25 [cv c p] H (.slice p'.1 (usedM c).length p'.2) (H ++ X) ∧ IntsZ H.length X p' (usedM c) := by
  have key := Ret_grow (T := tab Try.prog) (f := 25) (args := [cv c p]) (h := H) (fun u X => ∃ p' : Pl, u = .slice p'.1 (usedM c).length p'.2 ∧ IntsZ H.length X p' (usedM c)) k25 rfl ?_
  · obtain ⟨u, X, hr, p', rfl, f1⟩ := key
    exact ⟨X, p', hr, f1⟩
  have hn := hr.n0
  have hw := hr.w0
  refine AX_seq (AX_E (E_boxA rfl (E_mv (v := .slice _ _ _) rfl (E_nil (AX_seq (AX_E (E_mv (v := .slice _ _ _) rfl (E_nil (AX_seq (AX_seq (AX_E (E_mv (v := .int .i64 (0)) rfl (E_nil (AX_block ?_))))))))))))))
  refine AX_loopF (γ := Nat × Pl) (fun x => [(1, .pointer (some ⟨(H).length + 0, 0, none⟩)), (3, .slice (x.2).1 ((usedL c.gs x.1)).length (x.2).2), (4, .int .i64 ((x.1 : Int)))]) (fun x h_ m_ => (∃ z_, h_ = H ++ ([CO.row [.int .i64 (c.w), .int .i64 (c.b), .slice (p).1 (c.gs).length (p).2] true none] ++ z_) ∧ Grown 1 (H.length + 1) z_ x.2 (usedL c.gs x.1).length ((usedL c.gs x.1).map (.int .i64 ·))) ∧ m_ = [] ∧ (x.1 : Int) ≤ c.w) (fun x => c.w.toNat - x.1) (0, (none, 0)) ⟨rfl, rfl, rfl, trivial⟩ ⟨⟨[], app0 _ _, Grown.nil⟩, rfl, ?_⟩ ?_
  · omega
  rintro ⟨w, p0⟩ fr0 h0 m0 ⟨⟨z0, rfl, zf0⟩, rfl, inv0⟩ K0 hN0 hR0 hE0
  try dsimp only at zf0 inv0
  have hul := usedL_len c.gs w
  refine AX_nil ?_
  refine AX_seq (AX_seq (AX_E (E_mv (v := .int .i64 ((w : Int))) rfl (E_fa rfl (E_ldB (v := .int .i64 (c.w)) rfl (rowGet_own (k := 0) rfl) (E_lssS rfl rfl (fun c9 => ?_) (fun c9 => ?_)))))))
  · refine E_nil (AX_condT rfl (AX_skip (AX_seq (AX_block (AX_seq (AX_E (E_mv (v := .int .i64 (0)) rfl (E_nil (AX_block ?_)))))))))
    refine AX_loopF (γ := Nat) (fun j => [(1, .pointer (some ⟨(H).length + 0, 0, none⟩)), (3, .slice (p0).1 ((usedL c.gs w)).length (p0).2), (4, .int .i64 ((w : Int))), (5, .int .i64 ((j : Int)))]) (fun j h_ m_ => h_ = (H ++ ([CO.row [.int .i64 (c.w), .int .i64 (c.b), .slice (p).1 (c.gs).length (p).2] true none] ++ z0)) ++ [] ∧ m_ = [] ∧ j ≤ c.gs.length ∧ ∀ g ∈ c.gs.take j, ¬ (w : Int) ∈ g.ws) (fun j => c.gs.length - j) (0) ⟨rfl, rfl, rfl, rfl, trivial⟩ ⟨rfl, rfl, ?_⟩ ?_
    · simp
    rintro j fr2 h2 m2 ⟨rfl, rfl, inv2⟩ K2 hN2 hR2 hE2
    refine AX_seq (AX_seq (AX_E (E_mv (v := .int .i64 ((j : Int))) rfl (E_fa rfl (E_ldB (v := .slice _ _ _) rfl (rowGet_own (k := 0) rfl) (E_len (n := (c.gs).length) rfl (E_lssS rfl rfl (fun c16 => ?_) (fun c16 => ?_))))))))
    · refine E_nil (AX_condT rfl (AX_skip (AX_seq (AX_block (AX_seq (AX_E (E_fa rfl (E_ldB (v := .slice _ _ _) rfl (rowGet_own (k := 0) rfl) (E_mv (v := .int .i64 ((j : Int))) rfl (have ix1 : j < (c.gs).length := (by first | omega | (simp; done) | (simp; omega)); E_iaGb (j := j) rfl hv.app rfl rfl rfl ix1 fun b1 o1 q1 f1 w1 => (E_fa rfl (E_ldB (v := .slice _ _ _) rfl (rowGet_c (j := 1) w1 rfl) (E_mv (v := .int .i64 ((w : Int))) rfl (E_callP rfl (has_ret _ _ _ _ f1.app (by have := (hr.gr (List.getElem_mem ix1)).len; omega)) (fun c26 => ?_) (fun c26 => ?_)))))))))))))))
      · refine E_nil (AX_condT rfl (AX_seq (AX_E (E_mv (v := .slice _ _ _) rfl (E_mv (v := .int .i64 ((w : Int))) rfl (E_mkS (cs := [.int .i64 ((w : Int))]) rfl (E_appI (A := [CO.row [.int .i64 (c.w), .int .i64 (c.b), .slice (p).1 (c.gs).length (p).2] true none]) (Z := (z0 ++ [CO.row [.int .i64 ((w : Int))] true none])) (l' := usedL c.gs (w + 1)) (by first | (simp only [List.append_assoc, List.append_nil, List.nil_append, List.cons_append, List.set_cons_zero, List.set_cons_succ]; done) | (simp only [List.append_assoc, List.append_nil, List.nil_append, List.cons_append, List.set_cons_zero, List.set_cons_succ]; rfl)) (by rw [usedL, if_pos ⟨_, List.getElem_mem ix1, c26⟩]) (n := (H.length + 1)) (by simp) (zf0).app rfl rfl (rowGet_own (k := 0) rfl) (by omega) rfl fun z2n p2n hb2n => (E_mv (v := .slice _ _ _) rfl (E_nil (AX_exit (hE2 _ _ _ _ ?_)))))))))))
        refine AX_E (E_mv (v := .int .i64 ((w : Int))) rfl (E_addI rfl rfl (by first | omega | (simp; done) | (simp; omega)) (by first | omega | (simp; done) | (simp; omega)) (E_mv (v := .int .i64 (((w : Int) + 1))) rfl (E_nil ?_))))
        refine hN0 (w + 1, p2n) _ _ _ ⟨by first | rfl | (congr 1; omega), by first | rfl | exact congrArg (fun l => Value.slice p0.1 (List.length l) p0.2) e9.symm, by first | rfl | (congr 1; omega), trivial⟩ ⟨⟨z2n, rfl, hb2n⟩, rfl, ?_⟩ ?_
        all_goals clear hN0 hR0 hE0 hN2 hR2 hE2
        · omega
        · (first | omega | (simp; omega))
      · refine E_nil (AX_condF rfl (AX_skip (AX_E (E_mv (v := .int .i64 ((j : Int))) rfl (E_addI rfl rfl (by first | omega | (simp; done) | (simp; omega)) (by first | omega | (simp; done) | (simp; omega)) (E_mv (v := .int .i64 (((j : Int) + 1))) rfl (E_nil ?_)))))))
        refine hN2 (j + 1) _ _ _ ⟨by first | rfl | (congr 1; omega), by first | rfl | (congr 1; omega), by first | rfl | (congr 1; omega), by first | rfl | (congr 1; omega), trivial⟩ ⟨rfl, rfl, ?_⟩ ?_
        all_goals clear hN0 hR0 hE0 hN2 hR2 hE2
        · exact ⟨by omega, all_next (by omega) inv2.2 c26⟩
        · (first | omega | (simp; omega))
    · refine E_nil (AX_condF rfl (AX_exit (hE2 _ _ _ _ ?_)))
      have e9 : usedL c.gs (w + 1) = usedL c.gs w := by rw [usedL, if_neg (fun ⟨g, hg, h⟩ => all_all c16 inv2.2 g hg h), List.append_nil]
      refine AX_E (E_mv (v := .int .i64 ((w : Int))) rfl (E_addI rfl rfl (by first | omega | (simp; done) | (simp; omega)) (by first | omega | (simp; done) | (simp; omega)) (E_mv (v := .int .i64 (((w : Int) + 1))) rfl (E_nil ?_))))
      refine hN0 (w + 1, p0) _ _ _ ⟨by first | rfl | (congr 1; omega), by first | rfl | exact congrArg (fun l => Value.slice p0.1 (List.length l) p0.2) e9.symm, by first | rfl | (congr 1; omega), trivial⟩ ⟨⟨z0, by first | (simp only [List.append_assoc, List.append_nil, List.nil_append, List.cons_append, List.set_cons_zero, List.set_cons_succ]; done) | (simp only [List.append_assoc, List.append_nil, List.nil_append, List.cons_append, List.set_cons_zero, List.set_cons_succ]; rfl), (by rw [e9]; exact zf0)⟩, rfl, ?_⟩ ?_
      all_goals clear hN0 hR0 hE0 hN2 hR2 hE2
      · omega
      · (first | omega | (simp; omega))
  · refine E_nil (AX_condF rfl (AX_exit (hE0 _ _ _ _ ?_)))
    have e0 : usedL c.gs w = usedM c := by rw [usedM, show c.w.toNat = w by omega]
    refine AX_hp (h' := H ++ ([CO.row [.int .i64 (c.w), .int .i64 (c.b), .slice (p).1 (c.gs).length (p).2] true none] ++ z0)) (by first | (simp only [List.append_assoc, List.append_nil, List.nil_append, List.cons_append, List.set_cons_zero, List.set_cons_succ]; done) | (simp only [List.append_assoc, List.append_nil, List.nil_append, List.cons_append, List.set_cons_zero, List.set_cons_succ]; rfl)) ?_
    refine AX_seq (AX_E (E_mv (v := .slice _ _ _) rfl (E_mv (v := .slice _ _ _) rfl (E_nil (AX_ret ?_)))))
    refine ⟨_, rfl, by simp, ?_⟩
    obtain ⟨X, h1, h2⟩ := leafI (h := H) (h' := H ++ ([CO.row [.int .i64 (c.w), .int .i64 (c.b), .slice (p).1 (c.gs).length (p).2] true none] ++ z0)) (A := [CO.row [.int .i64 (c.w), .int .i64 (c.b), .slice (p).1 (c.gs).length (p).2] true none]) (Z := z0) (u := Value.slice p0.1 (usedL c.gs w).length p0.2) rfl zf0.ints (by simp) sl_flat
    exact ⟨X, h1, p0, (show _ = Value.slice p0.1 (usedL c.gs w).length p0.2 from rfl).trans (by rw [e0] <;> rfl), by rw [e0] at h2; exact h2⟩
end Go.Canon
namespace Go.Canon
open Go Go.Proofs
set_option linter.unusedVariables false
set_option linter.unusedSimpArgs false
def kf26 : KFunc := ⟨1, 24, [.cell 2 (some 14)], .seq (.reg [⟨some 1, .box (.t 0), none⟩, ⟨some 2, .new [.int .i64 0, .int .i64 0, .int .i64 0, .int .i64 0, .int .i64 0, .int .i64 0, .int .i64 0, .int .i64 0, .int .i64 0, .int .i64 0, .int .i64 0, .int .i64 0, .int .i64 0, .int .i64 0], none⟩] []) (.seq (.reg [⟨some 3, .new [.int .i64 0, .int .i64 0, .int .i64 0, .int .i64 0, .int .i64 0, .int .i64 0, .int .i64 0, .int .i64 0, .int .i64 0, .int .i64 0, .int .i64 0, .int .i64 0, .int .i64 0, .int .i64 0], none⟩] []) (.seq (.seq (.reg [⟨some 4, .mv (.c (.int .i64 0)), none⟩] []) (.block 0 (.loop (.seq (.seq (.reg [⟨some 5, .mv (.t 4), none⟩, ⟨some 6, .fa (.t 1) 2, none⟩, ⟨some 7, .ld (.t 6) none, none⟩, ⟨some 8, .len (.t 7), none⟩, ⟨some 9, .bin .lss (.t 5) (.t 8), none⟩] []) (.cond (.t 9) .skip (.exit 0))) (.seq (.block 1 (.reg [⟨some 12, .fa (.t 1) 2, none⟩, ⟨some 13, .ld (.t 12) none, none⟩, ⟨some 14, .mv (.t 4), none⟩, ⟨some 15, .iaS (.t 13) (.t 14) 4, none⟩, ⟨some 16, .fa (.t 15) 0, none⟩, ⟨some 17, .ld (.t 16) none, none⟩, ⟨some 18, .bin .sub (.t 17) (.c (.int .i64 1)), none⟩, ⟨some 19, .iaA (.t 3) (.t 18) 14 1, none⟩, ⟨some 20, .ld (.t 19) none, none⟩, ⟨some 21, .bin .add (.t 20) (.c (.int .i64 1)), none⟩, ⟨some 22, .iaA (.t 3) (.t 18) 14 1, none⟩, ⟨none, .st (.t 22) (.t 21) 1, none⟩] [])) (.reg [⟨some 10, .mv (.t 4), none⟩, ⟨some 11, .bin .add (.t 10) (.c (.int .i64 1)), none⟩, ⟨some 4, .mv (.t 11), none⟩] [])))))) (.seq (.reg [⟨some 23, .ld (.t 3) (some 14), none⟩, ⟨none, .st (.t 2) (.t 23) 14, none⟩] []) .ret)))⟩
theorem k26 : tab Try.prog 26 = some kf26 := by kernel_rfl
def countL (gs : List G) : Nat → Int := fun i => ((gs.filter fun g => g.k = (i : Int) + 1).length : Int)
theorem countL_next {gs : List G} {j m : Nat} (hj : j < gs.length) (hm : gs[j].k - 1 = (m : Int)) : ∀ i, i < 14 → (fun i => if i = m then countL (gs.take j) m + 1 else countL (gs.take j) i) i = countL (gs.take (j + 1)) i := by
  intro i _
  simp only [countL]
  rw [List.take_succ_eq_append_getElem hj, List.filter_append]
  by_cases h : i = m
  · subst h
    have : gs[j].k = (i : Int) + 1 := by omega
    simp [this]
  · have : ¬ gs[j].k = (i : Int) + 1 := by omega
    simp [this, h]
theorem countL_le (gs : List G) (i : Nat) : 0 ≤ countL gs i ∧ countL gs i ≤ gs.length := by
  have := List.length_filter_le (fun g : G => decide (g.k = (i : Int) + 1)) gs
  simp only [countL]
  omega
theorem heapI {H : Heap} {r0 r1 : CO} {f g : Nat → Int} (e : ∀ i, i < 14 → f i = g i) : H ++ [r0, r1, .row (il f) true none] = H ++ [r0, r1, .row (il g) true none] := by rw [il_ext e]
theorem count_ret (H : Heap) (c : C) (p : Pl) {S : Nat → Prop} (hv : Gates S H p c.gs) (hr : CR c) : Ret (tab Try.prog) 26 [cv c p] H (.agg (il (countL c.gs)).toArray) H := by
  have hn := hr.n0
  refine Ret_own k26 rfl ?_
  refine AX_seq (AX_E (E_boxA rfl (E_new (E_nil (AX_seq (AX_E (E_new (E_nil (AX_seq (AX_seq (AX_E (E_mv (v := .int .i64 (0)) rfl (E_nil (AX_block ?_))))))))))))))
  refine AX_loopF (γ := Nat) (fun j => [(1, .pointer (some ⟨(H).length + 0, 0, none⟩)), (2, .pointer (some ⟨(H).length + 1, 0, none⟩)), (3, .pointer (some ⟨(H).length + 2, 0, none⟩)), (4, .int .i64 ((j : Int)))]) (fun j h_ m_ => h_ = H ++ [CO.row [.int .i64 (c.w), .int .i64 (c.b), .slice (p).1 (c.gs).length (p).2] true none, CO.row [.int .i64 (0), .int .i64 (0), .int .i64 (0), .int .i64 (0), .int .i64 (0), .int .i64 (0), .int .i64 (0), .int .i64 (0), .int .i64 (0), .int .i64 (0), .int .i64 (0), .int .i64 (0), .int .i64 (0), .int .i64 (0)] true none, CO.row (il (countL (c.gs.take j))) true none] ∧ m_ = [] ∧ j ≤ c.gs.length) (fun j => c.gs.length - j) (0) ⟨rfl, rfl, rfl, rfl, trivial⟩ ⟨heapI (f := fun _ => 0) (g := countL (c.gs.take 0)) (fun i _ => by simp [countL]), rfl, ?_⟩ ?_
  · simp
  rintro j fr0 h0 m0 ⟨rfl, rfl, inv0⟩ K0 hN0 hR0 hE0
  refine AX_seq (AX_seq (AX_E (E_mv (v := .int .i64 ((j : Int))) rfl (E_fa rfl (E_ldO (k := 0) (v := .slice _ _ _) rfl rfl (E_len (n := (c.gs).length) rfl (E_lssS rfl rfl (fun c9 => ?_) (fun c9 => ?_))))))))
  · refine E_nil (AX_condT rfl (AX_skip (AX_seq (AX_block (AX_E (E_fa rfl (E_ldO (k := 0) (v := .slice _ _ _) rfl rfl (E_mv (v := .int .i64 ((j : Int))) rfl (have ix1 : j < (c.gs).length := (by first | omega | (simp; done) | (simp; omega)); E_iaGb (j := j) rfl hv rfl rfl rfl ix1 fun b1 o1 q1 f1 w1 => (E_fa rfl (E_ldB (v := .int .i64 ((c.gs[j]'ix1).k)) rfl (rowGet_c (j := 0) w1 rfl) (E_subI rfl rfl (by have := (hr.gr (List.getElem_mem ix1)).kind; omega) (by have := (hr.gr (List.getElem_mem ix1)).kind; omega) (E_iaA (j := (((c.gs[j]'ix1).k - 1)).toNat) rfl rfl (by have := (hr.gr (List.getElem_mem ix1)).kind; omega) (by have := (hr.gr (List.getElem_mem ix1)).kind; omega) (E_ldO (k := 2) (v := .int .i64 ((countL (c.gs.take j)) (((c.gs[j]'ix1).k - 1)).toNat)) rfl (il_get (f := countL (c.gs.take j)) (j := (((c.gs[j]'ix1).k - 1)).toNat) rfl (by have := (hr.gr (List.getElem_mem ix1)).kind; omega)) (E_addI rfl rfl (by have := countL_le (c.gs.take j) (c.gs[j].k - 1).toNat; have := List.length_take_le j c.gs; omega) (by have := countL_le (c.gs.take j) (c.gs[j].k - 1).toNat; have := List.length_take_le j c.gs; omega) (E_iaA (j := (((c.gs[j]'ix1).k - 1)).toNat) rfl rfl (by have := (hr.gr (List.getElem_mem ix1)).kind; omega) (by have := (hr.gr (List.getElem_mem ix1)).kind; omega) (E_stO (k := 2) rfl rfl (v := .int _ _) rfl rfl rfl (il_set (f := countL (c.gs.take j)) (j := (((c.gs[j]'ix1).k - 1)).toNat) rfl (by have := (hr.gr (List.getElem_mem ix1)).kind; omega)) (E_nil (AX_E (E_mv (v := .int .i64 ((j : Int))) rfl (E_addI rfl rfl (by first | omega | (simp; done) | (simp; omega)) (by first | omega | (simp; done) | (simp; omega)) (E_mv (v := .int .i64 (((j : Int) + 1))) rfl (E_nil ?_)))))))))))))))))))))))
    refine hN0 (j + 1) _ _ _ ⟨by first | rfl | (congr 1; omega), by first | rfl | (congr 1; omega), by first | rfl | (congr 1; omega), by first | rfl | (congr 1; omega), trivial⟩ ⟨heapI (countL_next ix1 (by have := (hr.gr (List.getElem_mem ix1)).kind; omega)), rfl, ?_⟩ ?_
    -- n1
    all_goals clear hN0 hR0 hE0
    · omega
    · (first | omega | (simp; omega))
  · refine E_nil (AX_condF rfl (AX_exit (hE0 _ _ _ _ ?_)))
    have e0 : c.gs.take j = c.gs := List.take_of_length_le (by omega)
    refine AX_seq (AX_E (E_ldON (k := 2) (cs := il (countL (c.gs.take j))) rfl rfl (E_stO (k := 1) (ob := .row (il (countL (c.gs.take j))) true none) rfl rfl (v := .agg _) rfl rfl rfl rfl (E_nil (AX_ret ?_)))))
    refine ⟨_, (res1 (res_cellN (k := 1) (cs := il (countL (c.gs.take j))) rfl rfl)), by simp, ?_, forget_flat rfl (List.prefix_append _ _)⟩
    -- r2
    clear hN0 hR0 hE0
    rw [e0]
end Go.Canon
namespace Go.Canon
open Go Go.Proofs
set_option linter.unusedVariables false
set_option linter.unusedSimpArgs false
def invG (g : G) : G := ⟨oppM g.k, g.ws, g.b, g.f⟩
def inverseE (c : C) : Int := if checkM c ≠ 0 then checkM c else if plainM c then 0 else 7
def inverseM (c : C) : C := if inverseE c = 0 then ⟨c.w, c.b, c.gs.reverse.map invG⟩ else ⟨0, 0, []⟩
end Go.Canon
namespace Go.Canon
open Go Go.Proofs
set_option linter.unusedVariables false
set_option linter.unusedSimpArgs false
theorem cells_own {sz : Nat} {h L : Heap} {k n : Nat} {cells : List Value} {wr : Bool} (hL : L[k]? = some (.row cells wr none)) (hl : cells.length = n * sz) : Cells allB (h ++ L) sz (some ⟨h.length + k, 0, none⟩, n) n cells :=
  ⟨hl, Nat.le_refl _, .inr ⟨h.length + k, 0, cells, wr, none, rfl, trivial, by rw [own_get]; exact hL, .inl rfl, .inr ⟨by omega, by rw [List.drop_zero, ← hl, List.take_length]⟩⟩⟩
theorem behind1_ret (h L : Heap) (k : Nat) (q : Pl) (gs : List G) {S : Nat → Prop} (hL : L[k]? = some (.row [.slice q.1 gs.length q.2] true none)) (hv : Gates S (h ++ L) q gs) (hl : gs.length < 4294967296) (hw : ∀ g ∈ gs, g.ws.length < 4294967296) :
    ∃ X p', Ret (tab Try.prog) 68 [.slice (some ⟨h.length + k, 0, none⟩) 1 1] (h ++ L) (.slice p'.1 gs.length p'.2) (h ++ L ++ X) ∧ GatesZ (h ++ L).length X p' gs := by
  have e : [gs].flatten = gs := by simp
  have := behind_ret (h ++ L) (some ⟨h.length + k, 0, none⟩, 1) [gs] [q] (S := allB) (S' := S) ⟨rfl, cells_own hL rfl⟩ (fun j h1 h2 => by
    have : j = 0 := by simpa using h1
    subst this
    exact hv) (by simp) (by rw [e]; exact hl) (fun gs' hg g hgg => by simp at hg; subst hg; exact hw g hgg)
  rwa [e] at this
end Go.Canon
namespace Go.Canon
open Go Go.Proofs
set_option linter.unusedVariables false
set_option linter.unusedSimpArgs false
end Go.Canon
namespace Go.Canon
open Go Go.Proofs
set_option linter.unusedVariables false
set_option linter.unusedSimpArgs false
end Go.Canon
namespace Go.Canon
open Go Go.Proofs
set_option linter.unusedVariables false
set_option linter.unusedSimpArgs false
def kf51 : KFunc := ⟨2, 8, [.cell 4 (some 4)], .seq (.reg [⟨some 4, .new [.int .i64 0, .slice none 0 0, .int .i64 0, .int .i64 0], none⟩] []) (.seq (.reg [⟨some 5, .mv (.t 0), none⟩, ⟨some 6, .mv (.t 1), none⟩, ⟨some 7, .mk [.int .i64 0, .slice none 0 0, .int .i64 0, .int .i64 0] [(0, 1, .t 5), (1, 1, .t 6)], none⟩, ⟨none, .st (.t 4) (.t 7) 4, none⟩] []) .ret)⟩
theorem k51 : tab Try.prog 51 = some kf51 := by kernel_rfl
end Go.Canon
