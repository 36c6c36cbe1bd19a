/- CircLayered, part 6: the canonical machine and the runs of the program's functions on it. No conditions. -/
import Derived.Test.YtpbamjaldnhamaaDoorLyP5
namespace Go.Canon
open Go Go.Proofs
set_option linter.unusedVariables false
set_option linter.unusedSimpArgs false
def kf213 : KFunc := ⟨1, 12, [.tmp 2, .tmp 3], .seq (.reg [⟨some 1, .box (.t 0), none⟩, ⟨some 2, .mv (.c (.int .i64 0)), none⟩, ⟨some 3, .mv (.c (.bool false)), none⟩] []) (.seq (.seq (.reg [⟨some 4, .fa (.t 1) 0, none⟩, ⟨some 5, .ld (.t 4) none, none⟩, ⟨some 6, .bin .eql (.t 5) (.c (.int .i64 13)), none⟩] []) (.cond (.t 6) (.seq (.reg [⟨some 7, .fa (.t 1) 2, none⟩, ⟨some 8, .ld (.t 7) none, none⟩, ⟨some 2, .mv (.t 8), none⟩, ⟨some 3, .mv (.c (.bool true)), none⟩] []) .ret) .skip)) (.seq (.reg [⟨some 9, .fa (.t 1) 3, none⟩, ⟨some 10, .ld (.t 9) none, none⟩, ⟨some 11, .bin .sub (.t 10) (.c (.int .i64 1)), none⟩, ⟨some 2, .mv (.t 11), none⟩, ⟨some 3, .mv (.c (.bool false)), none⟩] []) .ret))⟩
theorem k213 : tab Tryd.prog 13 = some kf213 := by kernel_rfl
def kf214 : KFunc := ⟨3, 41, [.tmp 5], .seq (.reg [⟨some 3, .box (.t 0), none⟩, ⟨some 4, .box (.t 1), none⟩, ⟨some 5, .mv (.c (.bool false)), none⟩] []) (.seq (.reg [⟨some 11, .ld (.t 2) none, none⟩, ⟨some 12, .ld (.t 3) (some 4), none⟩, ⟨some 13, .call (.t 11) [.t 12], none⟩, ⟨some 10, .mv (.t 13), none⟩, ⟨some 14, .ext (.t 10) 0, none⟩, ⟨some 15, .ext (.t 10) 1, none⟩, ⟨some 6, .mv (.t 14), none⟩, ⟨some 7, .mv (.t 15), none⟩] []) (.seq (.reg [⟨some 17, .ld (.t 2) none, none⟩, ⟨some 18, .ld (.t 4) (some 4), none⟩, ⟨some 19, .call (.t 17) [.t 18], none⟩, ⟨some 16, .mv (.t 19), none⟩, ⟨some 20, .ext (.t 16) 0, none⟩, ⟨some 21, .ext (.t 16) 1, none⟩, ⟨some 8, .mv (.t 20), none⟩, ⟨some 9, .mv (.t 21), none⟩] []) (.seq (.reg [⟨some 22, .mv (.t 6), none⟩, ⟨some 23, .bin .geq (.t 22) (.c (.int .i64 0)), none⟩, ⟨some 24, .mv (.t 23), none⟩, ⟨some 25, .mv (.t 6), some (24, true)⟩, ⟨some 26, .mv (.t 8), some (24, true)⟩, ⟨some 27, .bin .eql (.t 25) (.t 26), some (24, true)⟩, ⟨some 28, .pick (.t 24) (.t 27) (.c (.bool false)), none⟩, ⟨some 29, .mv (.t 28), none⟩, ⟨some 30, .mv (.t 7), some (29, true)⟩, ⟨some 31, .mv (.t 30), some (29, true)⟩, ⟨some 32, .mv (.t 9), some (31, false)⟩, ⟨some 33, .pick (.t 31) (.c (.bool true)) (.t 32), some (29, true)⟩, ⟨some 34, .pick (.t 29) (.t 33) (.c (.bool false)), none⟩, ⟨some 35, .mv (.t 34), none⟩, ⟨some 36, .fa (.t 3) 1, some (35, false)⟩, ⟨some 37, .ld (.t 36) none, some (35, false)⟩, ⟨some 38, .fn 16 [] [.t 4], some (35, false)⟩, ⟨some 39, .call (.c (.func (.func 15) #[] #[])) [.t 37, .t 38], some (35, false)⟩, ⟨some 40, .pick (.t 35) (.c (.bool true)) (.t 39), none⟩, ⟨some 5, .mv (.t 40), none⟩] []) .ret)))⟩
theorem k214 : tab Tryd.prog 14 = some kf214 := by kernel_rfl
def kf216 : KFunc := ⟨2, 8, [.tmp 3], .seq (.reg [⟨some 3, .mv (.c (.bool false)), none⟩] []) (.seq (.reg [⟨some 4, .fa (.t 1) 1, none⟩, ⟨some 5, .ld (.t 4) none, none⟩, ⟨some 6, .mv (.t 0), none⟩, ⟨some 7, .call (.c (.func (.func 17) #[] #[])) [.t 5, .t 6], none⟩, ⟨some 3, .mv (.t 7), none⟩] []) .ret)⟩
theorem k216 : tab Tryd.prog 16 = some kf216 := by kernel_rfl
def bitV (g : G) : Int := if g.k = 13 then g.b else g.f - 1
theorem bit_ret (H : Heap) (g : G) (p : Pl) (hf : 0 ≤ g.f ∧ g.f ≤ 8) : Ret (tab Tryd.prog) 13 [gv g p] H (.tuple #[.int .i64 (bitV g), .bool (decide (g.k = 13))]) H := by
  refine Ret_own k213 rfl ?_
  refine AX_seq (AX_E (E_boxA rfl (E_mv (v := .int .i64 (0)) rfl (E_mv (v := .bool _) rfl (E_nil (AX_seq (AX_seq (AX_E (E_fa rfl (E_ldO (k := 0) (v := .int .i64 (g.k)) rfl rfl (E_eqlS rfl rfl (fun c6 => ?_) (fun c6 => ?_))))))))))))
  · refine E_nil (AX_condT rfl (AX_seq (AX_E (E_fa rfl (E_ldO (k := 0) (v := .int .i64 (g.b)) rfl rfl (E_mv (v := .int .i64 (g.b)) rfl (E_mv (v := .bool _) rfl (E_nil (AX_ret ?_)))))))))
    refine ⟨_, rfl, by simp, ?_, forget_flat rfl (List.prefix_append _ _)⟩
    show Value.tuple #[.int .i64 (g.b), .bool true] = _
    simp [bitV, c6]
  · refine E_nil (AX_condF rfl (AX_skip (AX_seq (AX_E (E_fa rfl (E_ldO (k := 0) (v := .int .i64 (g.f)) rfl rfl (E_subI rfl rfl (by first | omega | (simp; done) | (simp; omega)) (by first | omega | (simp; done) | (simp; omega)) (E_mv (v := .int .i64 ((g.f - 1))) rfl (E_mv (v := .bool _) rfl (E_nil (AX_ret ?_)))))))))))
    refine ⟨_, rfl, by simp, ?_, forget_flat rfl (List.prefix_append _ _)⟩
    show Value.tuple #[.int .i64 ((g.f - 1)), .bool false] = _
    simp [bitV, c6]
theorem meet1_ret (H : Heap) (x : Int) (h : G) (q : Pl) (b o : Nat) {S : Nat → Prop} (hr : rowGet H ⟨b, o, none⟩ 4 = some (gcells h q)) (hq : Ints S H q h.ws) (hl : h.ws.length < 4611686018427387904) : Ret (tab Tryd.prog) 16 [.int .i64 x, .pointer (some ⟨b, o, none⟩)] H (.bool (decide (x ∈ h.ws))) H := by
  refine Ret_own k216 rfl ?_
  refine AX_seq (AX_E (E_mv (v := .bool _) rfl (E_nil (AX_seq (AX_E (E_fa rfl (E_ldB (v := .slice _ _ _) rfl (rowGet_c (j := 1) hr rfl) (E_mv (v := .int .i64 (x)) rfl (E_callP rfl (contains_ret _ _ _ _ hq.app (by first | omega | (simp; done) | (simp; omega))) (fun c7 => ?_) (fun c7 => ?_))))))))))
  · refine E_mv (v := .bool _) rfl (E_nil (AX_ret ?_))
    refine ⟨_, rfl, by simp, ?_, forget_flat rfl (List.prefix_append _ _)⟩
    refine congrArg (Value.bool) ?_
    refine (decide_eq_true ?_).symm
    assumption
  · refine E_mv (v := .bool _) rfl (E_nil (AX_ret ?_))
    refine ⟨_, rfl, by simp, ?_, forget_flat rfl (List.prefix_append _ _)⟩
    refine congrArg (Value.bool) ?_
    refine (decide_eq_false ?_).symm
    assumption
theorem ints_pre {S : Nat → Prop} {h k : Heap} {p : Pl} {l : List Int} (H : Ints S h p l) (hp : h <+: k) : Ints S k p l := by obtain ⟨t, rfl⟩ := hp; exact H.app
def lmeet (g h : G) : Prop := (0 ≤ bitV g ∧ bitV g = bitV h ∧ (g.k = 13 ∨ h.k = 13)) ∨ ∃ x ∈ g.ws, x ∈ h.ws
instance (g h : G) : Decidable (lmeet g h) := by unfold lmeet; infer_instance
theorem lmeet_iff {g h : G} (hg : GR g) (hh : GR h) : lmeet g h ↔ meetM g h := by
  have a1 := hg.f0; have a2 := hh.f0; have a3 := hg.b0; have a4 := hh.b0; have a5 := hg.fk; have a6 := hh.fk
  unfold lmeet meetM touchM bitV
  constructor
  · rintro (⟨x, y, z⟩ | x)
    · right
      split at x <;> split at y <;> omega
    · exact .inl x
  · rintro (x | x)
    · exact .inr x
    · left
      split <;> split <;> omega
theorem lmeet_ret (H : Heap) (g h : G) (p q : Pl) (b o : Nat) {S S' : Nat → Prop} (hr : rowGet H ⟨b, o, none⟩ 1 = some [.func (.func 13) #[] #[]]) (hp : Ints S H p g.ws) (hq : Ints S' H q h.ws) (hg : GR g) (hh : GR h) : Ret (tab Tryd.prog) 14 [gv g p, gv h q, .pointer (some ⟨b, o, none⟩)] H (.bool (decide (lmeet g h))) H := by
  have lg := hg.len; have lh := hh.len
  refine Ret_own k214 rfl ?_
  refine AX_seq (AX_E (E_boxA rfl (E_boxA rfl (E_mv (v := .bool _) rfl (E_nil (AX_seq (AX_E (E_ldB (v := .func _ _ _) rfl hr (E_ldON (k := 0) rfl rfl (E_callV rfl (bit_ret _ g _ hg.f0) (E_mv (v := .tuple _) rfl (E_ext (v := .int .i64 ((bitV g))) rfl rfl (E_ext (v := .bool _) rfl rfl (E_bs (fun c15 => ?_) (fun c15 => ?_)))))))))))))))
  · refine E_mv (v := .int .i64 ((bitV g))) rfl (E_mv (v := .bool _) rfl (E_nil (AX_seq (AX_E (E_ldB (v := .func _ _ _) rfl hr (E_ldON (k := 1) rfl rfl (E_callV rfl (bit_ret _ h _ hh.f0) (E_mv (v := .tuple _) rfl (E_ext (v := .int .i64 ((bitV h))) rfl rfl (E_ext (v := .bool _) rfl rfl (E_bs (fun c21 => ?_) (fun c21 => ?_))))))))))))
    · refine E_mv (v := .int .i64 ((bitV h))) rfl (E_mv (v := .bool _) rfl (E_nil (AX_seq (AX_E (E_mv (v := .int .i64 ((bitV g))) rfl (E_geqS rfl rfl (fun c23 => ?_) (fun c23 => ?_)))))))
      · refine E_mv (v := .bool _) rfl (E_on rfl (E_mv (v := .int .i64 ((bitV g))) rfl (E_on rfl (E_mv (v := .int .i64 ((bitV h))) rfl (E_on rfl (E_eqlS rfl rfl (fun c27 => ?_) (fun c27 => ?_)))))))
        · refine E_pickT rfl (v := .bool _) rfl (E_mv (v := .bool _) rfl (E_on rfl (E_mv (v := .bool _) rfl (E_on rfl (E_mv (v := .bool _) rfl (E_notF rfl (E_on rfl (E_pickT rfl (v := .bool _) rfl (E_pickT rfl (v := .bool _) rfl (E_mv (v := .bool _) rfl (E_notF rfl (E_notF rfl (E_notF rfl (E_notF rfl (E_pickT rfl (v := .bool _) rfl (E_mv (v := .bool _) rfl (E_nil (AX_ret ?_))))))))))))))))))
          refine ⟨_, rfl, by simp, ?_, forget_flat rfl (List.prefix_append _ _)⟩
          -- r1
          refine congrArg (Value.bool) ?_
          refine (decide_eq_true ?_).symm
          first | (unfold lmeet; simp [*]; done) | (unfold lmeet; omega) | (unfold lmeet; simp_all; done) | (unfold lmeet; simp_all; omega)
        · refine E_pickT rfl (v := .bool _) rfl (E_mv (v := .bool _) rfl (E_notT rfl (E_notT rfl (E_notU rfl (E_notT rfl (E_pickF rfl (v := .bool _) rfl (E_mv (v := .bool _) rfl (E_on rfl (E_fa rfl (E_on rfl (E_ldO (k := 0) (v := .slice _ _ _) rfl rfl (E_on rfl (E_fn (u := []) (v := [.pointer (some ⟨(H).length + 1, 0, none⟩)]) rfl rfl (E_on rfl (E_callP rfl (containsfunc_ret _ _ _ _ _ _ (fun x => x ∈ h.ws) hp.app (by omega) (fun x K hK hx => meet1_ret K x h q _ _ (rowGet_pre (rowGet_own (k := 1) rfl) hK) (ints_pre hq.app hK) (by omega))) (fun c39 => ?_) (fun c39 => ?_))))))))))))))))
          · refine E_pickF rfl (v := .bool _) rfl (E_mv (v := .bool _) rfl (E_nil (AX_ret ?_)))
            refine ⟨_, rfl, by simp, ?_, forget_flat rfl (List.prefix_append _ _)⟩
            -- r2
            refine congrArg (Value.bool) ?_
            refine (decide_eq_true ?_).symm
            first | (unfold lmeet; simp [*]; done) | (unfold lmeet; omega) | (unfold lmeet; simp_all; done) | (unfold lmeet; simp_all; omega)
          · refine E_pickF rfl (v := .bool _) rfl (E_mv (v := .bool _) rfl (E_nil (AX_ret ?_)))
            refine ⟨_, rfl, by simp, ?_, forget_flat rfl (List.prefix_append _ _)⟩
            -- r3
            refine congrArg (Value.bool) ?_
            refine (decide_eq_false ?_).symm
            first | (unfold lmeet; simp [*]; done) | (unfold lmeet; omega) | (unfold lmeet; simp_all; done) | (unfold lmeet; simp_all; omega)
      · refine E_mv (v := .bool _) rfl (E_notT rfl (E_notT rfl (E_notT rfl (E_pickF rfl (v := .bool _) rfl (E_mv (v := .bool _) rfl (E_notT rfl (E_notT rfl (E_notU rfl (E_notT rfl (E_pickF rfl (v := .bool _) rfl (E_mv (v := .bool _) rfl (E_on rfl (E_fa rfl (E_on rfl (E_ldO (k := 0) (v := .slice _ _ _) rfl rfl (E_on rfl (E_fn (u := []) (v := [.pointer (some ⟨(H).length + 1, 0, none⟩)]) rfl rfl (E_on rfl (E_callP rfl (containsfunc_ret _ _ _ _ _ _ (fun x => x ∈ h.ws) hp.app (by omega) (fun x K hK hx => meet1_ret K x h q _ _ (rowGet_pre (rowGet_own (k := 1) rfl) hK) (ints_pre hq.app hK) (by omega))) (fun c39 => ?_) (fun c39 => ?_))))))))))))))))))))
        · refine E_pickF rfl (v := .bool _) rfl (E_mv (v := .bool _) rfl (E_nil (AX_ret ?_)))
          refine ⟨_, rfl, by simp, ?_, forget_flat rfl (List.prefix_append _ _)⟩
          -- r4
          refine congrArg (Value.bool) ?_
          refine (decide_eq_true ?_).symm
          first | (unfold lmeet; simp [*]; done) | (unfold lmeet; omega) | (unfold lmeet; simp_all; done) | (unfold lmeet; simp_all; omega)
        · refine E_pickF rfl (v := .bool _) rfl (E_mv (v := .bool _) rfl (E_nil (AX_ret ?_)))
          refine ⟨_, rfl, by simp, ?_, forget_flat rfl (List.prefix_append _ _)⟩
          -- r5
          refine congrArg (Value.bool) ?_
          refine (decide_eq_false ?_).symm
          first | (unfold lmeet; simp [*]; done) | (unfold lmeet; omega) | (unfold lmeet; simp_all; done) | (unfold lmeet; simp_all; omega)
    · refine E_mv (v := .int .i64 ((bitV h))) rfl (E_mv (v := .bool _) rfl (E_nil (AX_seq (AX_E (E_mv (v := .int .i64 ((bitV g))) rfl (E_geqS rfl rfl (fun c23 => ?_) (fun c23 => ?_)))))))
      · refine E_mv (v := .bool _) rfl (E_on rfl (E_mv (v := .int .i64 ((bitV g))) rfl (E_on rfl (E_mv (v := .int .i64 ((bitV h))) rfl (E_on rfl (E_eqlS rfl rfl (fun c27 => ?_) (fun c27 => ?_)))))))
        · refine E_pickT rfl (v := .bool _) rfl (E_mv (v := .bool _) rfl (E_on rfl (E_mv (v := .bool _) rfl (E_on rfl (E_mv (v := .bool _) rfl (E_notF rfl (E_on rfl (E_pickT rfl (v := .bool _) rfl (E_pickT rfl (v := .bool _) rfl (E_mv (v := .bool _) rfl (E_notF rfl (E_notF rfl (E_notF rfl (E_notF rfl (E_pickT rfl (v := .bool _) rfl (E_mv (v := .bool _) rfl (E_nil (AX_ret ?_))))))))))))))))))
          refine ⟨_, rfl, by simp, ?_, forget_flat rfl (List.prefix_append _ _)⟩
          -- r6
          refine congrArg (Value.bool) ?_
          refine (decide_eq_true ?_).symm
          first | (unfold lmeet; simp [*]; done) | (unfold lmeet; omega) | (unfold lmeet; simp_all; done) | (unfold lmeet; simp_all; omega)
        · refine E_pickT rfl (v := .bool _) rfl (E_mv (v := .bool _) rfl (E_notT rfl (E_notT rfl (E_notU rfl (E_notT rfl (E_pickF rfl (v := .bool _) rfl (E_mv (v := .bool _) rfl (E_on rfl (E_fa rfl (E_on rfl (E_ldO (k := 0) (v := .slice _ _ _) rfl rfl (E_on rfl (E_fn (u := []) (v := [.pointer (some ⟨(H).length + 1, 0, none⟩)]) rfl rfl (E_on rfl (E_callP rfl (containsfunc_ret _ _ _ _ _ _ (fun x => x ∈ h.ws) hp.app (by omega) (fun x K hK hx => meet1_ret K x h q _ _ (rowGet_pre (rowGet_own (k := 1) rfl) hK) (ints_pre hq.app hK) (by omega))) (fun c39 => ?_) (fun c39 => ?_))))))))))))))))
          · refine E_pickF rfl (v := .bool _) rfl (E_mv (v := .bool _) rfl (E_nil (AX_ret ?_)))
            refine ⟨_, rfl, by simp, ?_, forget_flat rfl (List.prefix_append _ _)⟩
            -- r7
            refine congrArg (Value.bool) ?_
            refine (decide_eq_true ?_).symm
            first | (unfold lmeet; simp [*]; done) | (unfold lmeet; omega) | (unfold lmeet; simp_all; done) | (unfold lmeet; simp_all; omega)
          · refine E_pickF rfl (v := .bool _) rfl (E_mv (v := .bool _) rfl (E_nil (AX_ret ?_)))
            refine ⟨_, rfl, by simp, ?_, forget_flat rfl (List.prefix_append _ _)⟩
            -- r8
            refine congrArg (Value.bool) ?_
            refine (decide_eq_false ?_).symm
            first | (unfold lmeet; simp [*]; done) | (unfold lmeet; omega) | (unfold lmeet; simp_all; done) | (unfold lmeet; simp_all; omega)
      · refine E_mv (v := .bool _) rfl (E_notT rfl (E_notT rfl (E_notT rfl (E_pickF rfl (v := .bool _) rfl (E_mv (v := .bool _) rfl (E_notT rfl (E_notT rfl (E_notU rfl (E_notT rfl (E_pickF rfl (v := .bool _) rfl (E_mv (v := .bool _) rfl (E_on rfl (E_fa rfl (E_on rfl (E_ldO (k := 0) (v := .slice _ _ _) rfl rfl (E_on rfl (E_fn (u := []) (v := [.pointer (some ⟨(H).length + 1, 0, none⟩)]) rfl rfl (E_on rfl (E_callP rfl (containsfunc_ret _ _ _ _ _ _ (fun x => x ∈ h.ws) hp.app (by omega) (fun x K hK hx => meet1_ret K x h q _ _ (rowGet_pre (rowGet_own (k := 1) rfl) hK) (ints_pre hq.app hK) (by omega))) (fun c39 => ?_) (fun c39 => ?_))))))))))))))))))))
        · refine E_pickF rfl (v := .bool _) rfl (E_mv (v := .bool _) rfl (E_nil (AX_ret ?_)))
          refine ⟨_, rfl, by simp, ?_, forget_flat rfl (List.prefix_append _ _)⟩
          -- r9
          refine congrArg (Value.bool) ?_
          refine (decide_eq_true ?_).symm
          first | (unfold lmeet; simp [*]; done) | (unfold lmeet; omega) | (unfold lmeet; simp_all; done) | (unfold lmeet; simp_all; omega)
        · refine E_pickF rfl (v := .bool _) rfl (E_mv (v := .bool _) rfl (E_nil (AX_ret ?_)))
          refine ⟨_, rfl, by simp, ?_, forget_flat rfl (List.prefix_append _ _)⟩
          -- r10
          refine congrArg (Value.bool) ?_
          refine (decide_eq_false ?_).symm
          first | (unfold lmeet; simp [*]; done) | (unfold lmeet; omega) | (unfold lmeet; simp_all; done) | (unfold lmeet; simp_all; omega)
  · refine E_mv (v := .int .i64 ((bitV g))) rfl (E_mv (v := .bool _) rfl (E_nil (AX_seq (AX_E (E_ldB (v := .func _ _ _) rfl hr (E_ldON (k := 1) rfl rfl (E_callV rfl (bit_ret _ h _ hh.f0) (E_mv (v := .tuple _) rfl (E_ext (v := .int .i64 ((bitV h))) rfl rfl (E_ext (v := .bool _) rfl rfl (E_bs (fun c21 => ?_) (fun c21 => ?_))))))))))))
    · refine E_mv (v := .int .i64 ((bitV h))) rfl (E_mv (v := .bool _) rfl (E_nil (AX_seq (AX_E (E_mv (v := .int .i64 ((bitV g))) rfl (E_geqS rfl rfl (fun c23 => ?_) (fun c23 => ?_)))))))
      · refine E_mv (v := .bool _) rfl (E_on rfl (E_mv (v := .int .i64 ((bitV g))) rfl (E_on rfl (E_mv (v := .int .i64 ((bitV h))) rfl (E_on rfl (E_eqlS rfl rfl (fun c27 => ?_) (fun c27 => ?_)))))))
        · refine E_pickT rfl (v := .bool _) rfl (E_mv (v := .bool _) rfl (E_on rfl (E_mv (v := .bool _) rfl (E_on rfl (E_mv (v := .bool _) rfl (E_on rfl (E_mv (v := .bool _) rfl (E_on rfl (E_pickF rfl (v := .bool _) rfl (E_pickT rfl (v := .bool _) rfl (E_mv (v := .bool _) rfl (E_notF rfl (E_notF rfl (E_notF rfl (E_notF rfl (E_pickT rfl (v := .bool _) rfl (E_mv (v := .bool _) rfl (E_nil (AX_ret ?_)))))))))))))))))))
          refine ⟨_, rfl, by simp, ?_, forget_flat rfl (List.prefix_append _ _)⟩
          -- r11
          refine congrArg (Value.bool) ?_
          refine (decide_eq_true ?_).symm
          first | (unfold lmeet; simp [*]; done) | (unfold lmeet; omega) | (unfold lmeet; simp_all; done) | (unfold lmeet; simp_all; omega)
        · refine E_pickT rfl (v := .bool _) rfl (E_mv (v := .bool _) rfl (E_notT rfl (E_notT rfl (E_notU rfl (E_notT rfl (E_pickF rfl (v := .bool _) rfl (E_mv (v := .bool _) rfl (E_on rfl (E_fa rfl (E_on rfl (E_ldO (k := 0) (v := .slice _ _ _) rfl rfl (E_on rfl (E_fn (u := []) (v := [.pointer (some ⟨(H).length + 1, 0, none⟩)]) rfl rfl (E_on rfl (E_callP rfl (containsfunc_ret _ _ _ _ _ _ (fun x => x ∈ h.ws) hp.app (by omega) (fun x K hK hx => meet1_ret K x h q _ _ (rowGet_pre (rowGet_own (k := 1) rfl) hK) (ints_pre hq.app hK) (by omega))) (fun c39 => ?_) (fun c39 => ?_))))))))))))))))
          · refine E_pickF rfl (v := .bool _) rfl (E_mv (v := .bool _) rfl (E_nil (AX_ret ?_)))
            refine ⟨_, rfl, by simp, ?_, forget_flat rfl (List.prefix_append _ _)⟩
            -- r12
            refine congrArg (Value.bool) ?_
            refine (decide_eq_true ?_).symm
            first | (unfold lmeet; simp [*]; done) | (unfold lmeet; omega) | (unfold lmeet; simp_all; done) | (unfold lmeet; simp_all; omega)
          · refine E_pickF rfl (v := .bool _) rfl (E_mv (v := .bool _) rfl (E_nil (AX_ret ?_)))
            refine ⟨_, rfl, by simp, ?_, forget_flat rfl (List.prefix_append _ _)⟩
            -- r13
            refine congrArg (Value.bool) ?_
            refine (decide_eq_false ?_).symm
            first | (unfold lmeet; simp [*]; done) | (unfold lmeet; omega) | (unfold lmeet; simp_all; done) | (unfold lmeet; simp_all; omega)
      · refine E_mv (v := .bool _) rfl (E_notT rfl (E_notT rfl (E_notT rfl (E_pickF rfl (v := .bool _) rfl (E_mv (v := .bool _) rfl (E_notT rfl (E_notT rfl (E_notU rfl (E_notT rfl (E_pickF rfl (v := .bool _) rfl (E_mv (v := .bool _) rfl (E_on rfl (E_fa rfl (E_on rfl (E_ldO (k := 0) (v := .slice _ _ _) rfl rfl (E_on rfl (E_fn (u := []) (v := [.pointer (some ⟨(H).length + 1, 0, none⟩)]) rfl rfl (E_on rfl (E_callP rfl (containsfunc_ret _ _ _ _ _ _ (fun x => x ∈ h.ws) hp.app (by omega) (fun x K hK hx => meet1_ret K x h q _ _ (rowGet_pre (rowGet_own (k := 1) rfl) hK) (ints_pre hq.app hK) (by omega))) (fun c39 => ?_) (fun c39 => ?_))))))))))))))))))))
        · refine E_pickF rfl (v := .bool _) rfl (E_mv (v := .bool _) rfl (E_nil (AX_ret ?_)))
          refine ⟨_, rfl, by simp, ?_, forget_flat rfl (List.prefix_append _ _)⟩
          -- r14
          refine congrArg (Value.bool) ?_
          refine (decide_eq_true ?_).symm
          first | (unfold lmeet; simp [*]; done) | (unfold lmeet; omega) | (unfold lmeet; simp_all; done) | (unfold lmeet; simp_all; omega)
        · refine E_pickF rfl (v := .bool _) rfl (E_mv (v := .bool _) rfl (E_nil (AX_ret ?_)))
          refine ⟨_, rfl, by simp, ?_, forget_flat rfl (List.prefix_append _ _)⟩
          -- r15
          refine congrArg (Value.bool) ?_
          refine (decide_eq_false ?_).symm
          first | (unfold lmeet; simp [*]; done) | (unfold lmeet; omega) | (unfold lmeet; simp_all; done) | (unfold lmeet; simp_all; omega)
    · refine E_mv (v := .int .i64 ((bitV h))) rfl (E_mv (v := .bool _) rfl (E_nil (AX_seq (AX_E (E_mv (v := .int .i64 ((bitV g))) rfl (E_geqS rfl rfl (fun c23 => ?_) (fun c23 => ?_)))))))
      · refine E_mv (v := .bool _) rfl (E_on rfl (E_mv (v := .int .i64 ((bitV g))) rfl (E_on rfl (E_mv (v := .int .i64 ((bitV h))) rfl (E_on rfl (E_eqlS rfl rfl (fun c27 => ?_) (fun c27 => ?_)))))))
        · refine E_pickT rfl (v := .bool _) rfl (E_mv (v := .bool _) rfl (E_on rfl (E_mv (v := .bool _) rfl (E_on rfl (E_mv (v := .bool _) rfl (E_on rfl (E_mv (v := .bool _) rfl (E_on rfl (E_pickF rfl (v := .bool _) rfl (E_pickT rfl (v := .bool _) rfl (E_mv (v := .bool _) rfl (E_on rfl (E_fa rfl (E_on rfl (E_ldO (k := 0) (v := .slice _ _ _) rfl rfl (E_on rfl (E_fn (u := []) (v := [.pointer (some ⟨(H).length + 1, 0, none⟩)]) rfl rfl (E_on rfl (E_callP rfl (containsfunc_ret _ _ _ _ _ _ (fun x => x ∈ h.ws) hp.app (by omega) (fun x K hK hx => meet1_ret K x h q _ _ (rowGet_pre (rowGet_own (k := 1) rfl) hK) (ints_pre hq.app hK) (by omega))) (fun c39 => ?_) (fun c39 => ?_))))))))))))))))))))
          · refine E_pickF rfl (v := .bool _) rfl (E_mv (v := .bool _) rfl (E_nil (AX_ret ?_)))
            refine ⟨_, rfl, by simp, ?_, forget_flat rfl (List.prefix_append _ _)⟩
            -- r16
            refine congrArg (Value.bool) ?_
            refine (decide_eq_true ?_).symm
            first | (unfold lmeet; simp [*]; done) | (unfold lmeet; omega) | (unfold lmeet; simp_all; done) | (unfold lmeet; simp_all; omega)
          · refine E_pickF rfl (v := .bool _) rfl (E_mv (v := .bool _) rfl (E_nil (AX_ret ?_)))
            refine ⟨_, rfl, by simp, ?_, forget_flat rfl (List.prefix_append _ _)⟩
            -- r17
            refine congrArg (Value.bool) ?_
            refine (decide_eq_false ?_).symm
            first | (unfold lmeet; simp [*]; done) | (unfold lmeet; omega) | (unfold lmeet; simp_all; done) | (unfold lmeet; simp_all; omega)
        · refine E_pickT rfl (v := .bool _) rfl (E_mv (v := .bool _) rfl (E_notT rfl (E_notT rfl (E_notU rfl (E_notT rfl (E_pickF rfl (v := .bool _) rfl (E_mv (v := .bool _) rfl (E_on rfl (E_fa rfl (E_on rfl (E_ldO (k := 0) (v := .slice _ _ _) rfl rfl (E_on rfl (E_fn (u := []) (v := [.pointer (some ⟨(H).length + 1, 0, none⟩)]) rfl rfl (E_on rfl (E_callP rfl (containsfunc_ret _ _ _ _ _ _ (fun x => x ∈ h.ws) hp.app (by omega) (fun x K hK hx => meet1_ret K x h q _ _ (rowGet_pre (rowGet_own (k := 1) rfl) hK) (ints_pre hq.app hK) (by omega))) (fun c39 => ?_) (fun c39 => ?_))))))))))))))))
          · refine E_pickF rfl (v := .bool _) rfl (E_mv (v := .bool _) rfl (E_nil (AX_ret ?_)))
            refine ⟨_, rfl, by simp, ?_, forget_flat rfl (List.prefix_append _ _)⟩
            -- r18
            refine congrArg (Value.bool) ?_
            refine (decide_eq_true ?_).symm
            first | (unfold lmeet; simp [*]; done) | (unfold lmeet; omega) | (unfold lmeet; simp_all; done) | (unfold lmeet; simp_all; omega)
          · refine E_pickF rfl (v := .bool _) rfl (E_mv (v := .bool _) rfl (E_nil (AX_ret ?_)))
            refine ⟨_, rfl, by simp, ?_, forget_flat rfl (List.prefix_append _ _)⟩
            -- r19
            refine congrArg (Value.bool) ?_
            refine (decide_eq_false ?_).symm
            first | (unfold lmeet; simp [*]; done) | (unfold lmeet; omega) | (unfold lmeet; simp_all; done) | (unfold lmeet; simp_all; omega)
      · refine E_mv (v := .bool _) rfl (E_notT rfl (E_notT rfl (E_notT rfl (E_pickF rfl (v := .bool _) rfl (E_mv (v := .bool _) rfl (E_notT rfl (E_notT rfl (E_notU rfl (E_notT rfl (E_pickF rfl (v := .bool _) rfl (E_mv (v := .bool _) rfl (E_on rfl (E_fa rfl (E_on rfl (E_ldO (k := 0) (v := .slice _ _ _) rfl rfl (E_on rfl (E_fn (u := []) (v := [.pointer (some ⟨(H).length + 1, 0, none⟩)]) rfl rfl (E_on rfl (E_callP rfl (containsfunc_ret _ _ _ _ _ _ (fun x => x ∈ h.ws) hp.app (by omega) (fun x K hK hx => meet1_ret K x h q _ _ (rowGet_pre (rowGet_own (k := 1) rfl) hK) (ints_pre hq.app hK) (by omega))) (fun c39 => ?_) (fun c39 => ?_))))))))))))))))))))
        · refine E_pickF rfl (v := .bool _) rfl (E_mv (v := .bool _) rfl (E_nil (AX_ret ?_)))
          refine ⟨_, rfl, by simp, ?_, forget_flat rfl (List.prefix_append _ _)⟩
          -- r20
          refine congrArg (Value.bool) ?_
          refine (decide_eq_true ?_).symm
          first | (unfold lmeet; simp [*]; done) | (unfold lmeet; omega) | (unfold lmeet; simp_all; done) | (unfold lmeet; simp_all; omega)
        · refine E_pickF rfl (v := .bool _) rfl (E_mv (v := .bool _) rfl (E_nil (AX_ret ?_)))
          refine ⟨_, rfl, by simp, ?_, forget_flat rfl (List.prefix_append _ _)⟩
          -- r21
          refine congrArg (Value.bool) ?_
          refine (decide_eq_false ?_).symm
          first | (unfold lmeet; simp [*]; done) | (unfold lmeet; omega) | (unfold lmeet; simp_all; done) | (unfold lmeet; simp_all; omega)
end Go.Canon
namespace Go.Canon
open Go Go.Proofs
set_option linter.unusedVariables false
set_option linter.unusedSimpArgs false
theorem layersL_take (gs : List G) : ∀ i n, i ≤ n → (layersL gs n).take i = layersL gs i
  | i, 0, h => by obtain rfl : i = 0 := by omega
                  simp [layersL]
  | i, n + 1, h => by
    by_cases e : i = n + 1
    · subst e; rw [List.take_of_length_le (by rw [layersL_len]; omega)]
    · rw [layersL, List.take_append_of_le_length (by rw [layersL_len]; omega)]
      exact layersL_take gs i n (by omega)
theorem layersL_at (gs : List G) {i n : Nat} (h : i < n) (h2 : i < (layersL gs n).length) : (layersL gs n)[i] = layerTo gs (layersL gs i) i i := by
  have h1 := layersL_take gs (i + 1) n h
  have h3 : ((layersL gs n).take (i + 1))[i]? = some (layersL gs n)[i] := by rw [List.getElem?_take_of_lt (by omega), List.getElem?_eq_getElem h2]
  rw [h1, layersL, List.getElem?_append_right (by rw [layersL_len]; omega), layersL_len] at h3
  simpa using h3.symm
theorem layersL_getD (gs : List G) {i k n : Nat} (hk : k < i) (hi : i ≤ n) : (layersL gs i).getD k 0 = (layersL gs n).getD k 0 := by
  rw [← layersL_take gs i n hi]
  simp only [List.getD_eq_getElem?_getD, List.getElem?_take_of_lt hk]
theorem layerTo_mono {gs : List G} {out : List Int} {i : Nat} : ∀ {k k' : Nat}, k ≤ k' → layerTo gs out i k ≤ layerTo gs out i k'
  | k, 0, h => by obtain rfl : k = 0 := by omega
                  exact Int.le_refl _
  | k, k' + 1, h => by
    by_cases e : k = k' + 1
    · subst e; exact Int.le_refl _
    · have ih := layerTo_mono (gs := gs) (out := out) (i := i) (show k ≤ k' by omega)
      have : layerTo gs out i k' ≤ layerTo gs out i (k' + 1) := by
        rw [layerTo.eq_2]; split <;> omega
      omega
theorem layerTo_gt {gs : List G} {out : List Int} {i k m : Nat} (hk : k < m) (hm : meetM (gs.getD i default) (gs.getD k default)) : out.getD k 0 < layerTo gs out i m := by
  have h1 : out.getD k 0 < layerTo gs out i (k + 1) := by
    rw [layerTo.eq_2]
    split
    · omega
    · rename_i h
      have : ¬ (layerTo gs out i k ≤ out.getD k 0) := fun h2 => h ⟨hm, h2⟩
      omega
  have := layerTo_mono (gs := gs) (out := out) (i := i) (show k + 1 ≤ m from hk)
  omega
theorem layerTo_from {gs : List G} {out : List Int} {i : Nat} : ∀ {m : Nat}, 0 < layerTo gs out i m → ∃ k, k < m ∧ meetM (gs.getD i default) (gs.getD k default) ∧ out.getD k 0 = layerTo gs out i m - 1
  | 0, h => by simp [layerTo] at h
  | m + 1, h => by
    rw [layerTo.eq_2] at h ⊢
    split at h
    · rename_i hc
      rw [if_pos hc]
      exact ⟨m, by omega, hc.1, by omega⟩
    · rename_i hc
      rw [if_neg hc]
      obtain ⟨k, h1, h2, h3⟩ := layerTo_from h
      exact ⟨k, by omega, h2, h3⟩
/-- The layers of a circuit. -/
structure LY (gs : List G) (out : List Int) : Prop where
  len : out.length = gs.length
  rng : ∀ x ∈ out, 0 ≤ x ∧ x < depthL out
  dep : 0 ≤ depthL out ∧ depthL out ≤ gs.length
  lt : ∀ i k, k < i → i < gs.length → meetM (gs.getD i default) (gs.getD k default) → out.getD k 0 < out.getD i 0
  one : ∀ i, i < gs.length → 0 < out.getD i 0 → ∃ k, k < i ∧ meetM (gs.getD i default) (gs.getD k default) ∧ out.getD k 0 = out.getD i 0 - 1
  all : ∀ x, 0 ≤ x → x < depthL out → x ∈ out
theorem depthL_all : ∀ (l : List Int) (n : Int), n ≤ l.foldl (fun n x => if n ≤ x then x + 1 else n) n ∧ (∀ x ∈ l, x < l.foldl (fun n x => if n ≤ x then x + 1 else n) n) ∧ (l.foldl (fun n x => if n ≤ x then x + 1 else n) n = n ∨ l.foldl (fun n x => if n ≤ x then x + 1 else n) n - 1 ∈ l)
  | [], n => ⟨Int.le_refl _, fun x h => by simp at h, .inl rfl⟩
  | y :: l, n => by
    obtain ⟨h1, h2, h3⟩ := depthL_all l (if n ≤ y then y + 1 else n)
    simp only [List.foldl_cons]
    refine ⟨?_, fun x hx => ?_, ?_⟩
    · split at h1 <;> split <;> omega
    · rcases List.mem_cons.1 hx with rfl | hx
      · split at h1 <;> split <;> omega
      · exact h2 x hx
    · rcases h3 with h3 | h3
      · by_cases hc : n ≤ y
        · right
          rw [h3, if_pos hc]
          simp
        · left; rw [h3, if_neg hc]
      · exact .inr (List.mem_cons_of_mem _ h3)
theorem layers_law (gs : List G) : LY gs (layersL gs gs.length) := by
  have hlen := layersL_len gs gs.length
  have hle := layersL_le gs gs.length
  obtain ⟨d1, d2, d3⟩ := depthL_all (layersL gs gs.length) 0
  have hget : ∀ i, i < gs.length → (layersL gs gs.length).getD i 0 = layerTo gs (layersL gs i) i i := fun i hi => by
    rw [List.getD_eq_getElem?_getD, List.getElem?_eq_getElem (by omega)]
    simp [layersL_at gs hi (by omega)]
  have hone : ∀ i, i < gs.length → 0 < (layersL gs gs.length).getD i 0 → ∃ k, k < i ∧ meetM (gs.getD i default) (gs.getD k default) ∧ (layersL gs gs.length).getD k 0 = (layersL gs gs.length).getD i 0 - 1 := fun i hi h0 => by
    rw [hget i hi] at h0 ⊢
    obtain ⟨k, h1, h2, h3⟩ := layerTo_from h0
    exact ⟨k, h1, h2, by rw [← h3]; exact (layersL_getD gs h1 (by omega)).symm⟩
  refine ⟨hlen, fun x hx => ⟨(hle x hx).1, d2 x hx⟩, ⟨d1, ?_⟩, fun i k hk hi hm => ?_, hone, fun x h0 hx => ?_⟩
  · rcases d3 with d3 | d3
    · show List.foldl _ 0 _ ≤ _; rw [d3]; omega
    · have := hle _ d3; show List.foldl _ 0 _ ≤ _; omega
  · rw [hget i hi, ← layersL_getD gs hk (by omega)]
    exact layerTo_gt hk hm
  · -- downwards from the greatest one
    have key : ∀ (n : Nat) (y : Int), y ∈ layersL gs gs.length → y = x + n → x ∈ layersL gs gs.length := by
      intro n
      induction n with
      | zero => intro y hy e; rw [show x = y by omega]; exact hy
      | succ n ih =>
        intro y hy e
        obtain ⟨i, hi, rfl⟩ := List.mem_iff_getElem.1 hy
        have hg : (layersL gs gs.length).getD i 0 = (layersL gs gs.length)[i] := by rw [List.getD_eq_getElem?_getD, List.getElem?_eq_getElem hi]; rfl
        obtain ⟨k, h1, _, h3⟩ := hone i (by omega) (by rw [hg]; omega)
        have hk : k < (layersL gs gs.length).length := by omega
        have hgk : (layersL gs gs.length).getD k 0 = (layersL gs gs.length)[k] := by rw [List.getD_eq_getElem?_getD, List.getElem?_eq_getElem hk]; rfl
        exact ih _ (List.getElem_mem hk) (by rw [← hgk, h3, hg]; omega)
    rcases d3 with d3 | d3
    · have : depthL (layersL gs gs.length) = 0 := d3
      omega
    · have e : depthL (layersL gs gs.length) - 1 ∈ layersL gs gs.length := d3
      exact key (depthL (layersL gs gs.length) - 1 - x).toNat _ e (by omega)
end Go.Canon
namespace Go.Canon
open Go Go.Proofs
set_option linter.unusedVariables false
set_option linter.unusedSimpArgs false
section
variable {B : Nat → Prop} {T : Nat → Option KFunc} {fi : FI} {prs : List (Nat × Nat)} {i : Nat} {d : Option Nat} {r : List KOper} {fr : Nat → Value} {h L : Heap} {m : List Nat} {K : (Nat → Value) → Heap → List Nat → Prop}
theorem E_mkSlB {x y : KO} {n : Nat} {bytes : Nat} (hx : x.ev fr = .int .i64 (n : Int)) (hy : y.ev fr = .int .i64 (n : Int)) (hr : n * bytes ≤ roomB) (H : AE B T fi prs (i + 1) r (put fr d (.slice (some ⟨h.length + L.length, 0, none⟩) n n)) (h ++ (L ++ [.row ((List.replicate n false).map (.bool ·)) true none])) m K) : AE B T fi prs i (⟨d, .mkSl x y [.bool false] bytes, none⟩ :: r) fr (h ++ L) m K := by
  have e : (List.replicate n [Value.bool false]).flatten = (List.replicate n false).map (.bool ·) := by
    clear hr hx hy H
    induction n with
    | zero => rfl
    | succ n ih => simp only [List.replicate_succ, List.flatten_cons, List.map_cons, ih]; rfl
  refine E_add (v := .slice (some ⟨(h ++ L).length, 0, none⟩) n n) (e := .new (.row ((List.replicate n false).map (.bool ·)) true none)) rfl ?_ (List.prefix_append _ _) (.inl fun b _ => ⟨rfl, by simp [rds]⟩) (by simpa [Eff.on] using H)
  simp only [kop, hx, hy]
  rw [if_pos ⟨by omega, by omega, by simpa using hr⟩]
  simp [e]
end
abbrev Bools (S : Nat → Prop) (h : Heap) (p : Pl) (l : List Bool) : Prop := Cells S h 1 p l.length (l.map (.bool ·))
def kf253 : KFunc := ⟨2, 19, [.tmp 4], .seq (.reg [⟨some 4, .mv (.c (.int .i64 0)), none⟩] []) (.seq (.seq (.reg [⟨some 6, .mv (.t 0), none⟩, ⟨some 7, .len (.t 6), none⟩, ⟨some 8, .mv (.c (.int .i64 0)), none⟩] []) (.block 0 (.loop (.seq (.reg [⟨some 9, .bin .lss (.t 8) (.t 7), none⟩] []) (.seq (.cond (.t 9) .skip (.exit 0)) (.seq (.block 1 (.seq (.reg [⟨some 10, .mv (.t 8), none⟩, ⟨some 5, .mv (.t 10), none⟩] []) (.seq (.reg [⟨some 11, .mv (.t 1), none⟩, ⟨some 12, .mv (.t 0), none⟩, ⟨some 13, .mv (.t 5), none⟩, ⟨some 14, .iaS (.t 12) (.t 13) 1, none⟩, ⟨some 15, .ld (.t 14) none, none⟩, ⟨some 16, .eqB false (.t 11) (.t 15), none⟩] []) (.cond (.t 16) (.seq (.reg [⟨some 17, .mv (.t 5), none⟩, ⟨some 4, .mv (.t 17), none⟩] []) .ret) .skip)))) (.reg [⟨some 18, .bin .add (.t 8) (.c (.int .i64 1)), none⟩, ⟨some 8, .mv (.t 18), none⟩] []))))))) (.seq (.reg [⟨some 4, .mv (.c (.int .i64 (-1))), none⟩] []) .ret))⟩
theorem k253 : tab Tryd.prog 53 = some kf253 := by kernel_rfl
def kf218 : KFunc := ⟨2, 9, [.tmp 4], .seq (.reg [⟨some 4, .mv (.c (.bool false)), none⟩] []) (.seq (.reg [⟨some 5, .mv (.t 0), none⟩, ⟨some 6, .mv (.t 1), none⟩, ⟨some 7, .call (.c (.func (.func 53) #[] #[])) [.t 5, .t 6], none⟩, ⟨some 8, .bin .geq (.t 7) (.c (.int .i64 0)), none⟩, ⟨some 4, .mv (.t 8), none⟩] []) .ret)⟩
theorem k218 : tab Tryd.prog 18 = some kf218 := by kernel_rfl
theorem idxb_ret (H : Heap) (p : Pl) (l : List Bool) {S : Nat → Prop} (hv : Bools S H p l) (hl : l.length < 4611686018427387904) (ha : ∀ x ∈ l, x = true) : Ret (tab Tryd.prog) 53 [.slice p.1 l.length p.2, .bool false] H (.int .i64 (-1)) H := by
  refine Ret_own k253 rfl ?_
  refine AX_seq (AX_E (E_mv (v := .int .i64 (0)) rfl (E_nil (AX_seq (AX_seq (AX_E (E_mv (v := .slice _ _ _) rfl (E_len (n := (l).length) rfl (E_mv (v := .int .i64 (0)) rfl (E_nil (AX_block ?_)))))))))))
  refine AX_loopF (γ := Nat) (fun j => [(0, .slice p.1 l.length p.2), (1, .bool false), (7, .int .i64 ((l).length)), (8, .int .i64 ((j : Int)))]) (fun j h_ m_ => h_ = H ++ [] ∧ m_ = [] ∧ j ≤ l.length) (fun j => l.length - j) (0) ⟨rfl, rfl, rfl, rfl, trivial⟩ ⟨rfl, rfl, ?_⟩ ?_
  · omega
  rintro j fr0 h0 m0 ⟨rfl, rfl, inv0⟩ K0 hN0 hR0 hE0
  refine AX_seq (AX_E (E_lssS rfl rfl (fun c9 => ?_) (fun c9 => ?_)))
  · refine E_nil (AX_seq (AX_condT rfl (AX_skip (AX_seq (AX_block (AX_seq (AX_E (E_mv (v := .int .i64 ((j : Int))) rfl (E_mv (v := .int .i64 ((j : Int))) rfl (E_nil (AX_seq (AX_E (E_mv (v := .bool _) rfl (E_mv (v := .slice _ _ _) rfl (E_mv (v := .int .i64 ((j : Int))) rfl (E_iaCb (j := j) (v := .bool true) rfl hv rfl rfl (by first | omega | (simp; done) | (simp; omega)) (by rw [List.getElem?_map, List.getElem?_eq_getElem (by omega)]; exact congrArg (fun b => some (Value.bool b)) (ha _ (List.getElem_mem _))) fun b1 o1 w1 => (E_ldB (v := .bool _) rfl w1 (E_eqB rfl rfl (E_nil (AX_condF rfl (AX_skip (AX_E (E_addI rfl rfl (by first | omega | (simp; done) | (simp; omega)) (by first | omega | (simp; done) | (simp; omega)) (E_mv (v := .int .i64 (((j : Int) + 1))) rfl (E_nil ?_)))))))))))))))))))))))))
    refine hN0 (j + 1) _ _ _ ⟨by first | rfl | (congr 1; omega), by first | rfl | (congr 1; omega), by first | rfl | (congr 1; omega), by first | rfl | (congr 1; omega), trivial⟩ ⟨rfl, rfl, ?_⟩ ?_
    -- n1
    all_goals clear hN0 hR0 hE0
    · omega
    · (first | omega | (simp; omega))
  · refine E_nil (AX_seq (AX_condF rfl (AX_exit (hE0 _ _ _ _ (AX_seq (AX_E (E_mv (v := .int .i64 ((-1))) rfl (E_nil (AX_ret ?_)))))))))
    refine ⟨_, rfl, by simp, ?_, forget_flat rfl (List.prefix_append _ _)⟩
    -- r2
    clear hN0 hR0 hE0
    refine congrArg (Value.int _) ?_
    rfl
theorem containsb_ret (H : Heap) (p : Pl) (l : List Bool) {S : Nat → Prop} (hv : Bools S H p l) (hl : l.length < 4611686018427387904) (ha : ∀ x ∈ l, x = true) : Ret (tab Tryd.prog) 18 [.slice p.1 l.length p.2, .bool false] H (.bool false) H := by
  refine Ret_own k218 rfl ?_
  refine AX_seq (AX_E (E_mv (v := .bool _) rfl (E_nil (AX_seq (AX_E (E_mv (v := .slice _ _ _) rfl (E_mv (v := .bool _) rfl (E_callV rfl (idxb_ret _ p l hv.app hl ha) (E_geqV rfl rfl (E_mv (v := .bool _) rfl (E_nil (AX_ret ?_))))))))))))
  refine ⟨_, rfl, by simp, ?_, forget_flat rfl (List.prefix_append _ _)⟩
  refine congrArg (Value.bool) ?_
  rfl
end Go.Canon
namespace Go.Canon
open Go Go.Proofs
set_option linter.unusedVariables false
set_option linter.unusedSimpArgs false
def kf203 : KFunc := ⟨2, 123, [.tmp 4], .seq (.reg [⟨some 4, .mv (.c (.bool false)), none⟩] []) (.seq (.reg [⟨some 19, .mv (.t 0), none⟩, ⟨some 20, .call (.c (.func (.func 10) #[] #[])) [.t 19], none⟩, ⟨some 21, .mv (.t 1), none⟩, ⟨some 22, .call (.c (.func (.func 9) #[] #[])) [.t 20, .t 21], none⟩, ⟨some 5, .new [.int .i64 0, .int .i64 0, .slice none 0 0], none⟩, ⟨none, .st (.t 5) (.t 22) 3, none⟩] []) (.seq (.reg [⟨some 24, .ld (.t 5) (some 3), none⟩, ⟨some 25, .call (.c (.func (.func 11) #[] #[])) [.t 24], none⟩, ⟨some 23, .mv (.t 25), none⟩, ⟨some 26, .ext (.t 23) 0, none⟩, ⟨some 27, .ext (.t 23) 1, none⟩, ⟨some 6, .mv (.t 26), none⟩, ⟨some 7, .mv (.t 27), none⟩] []) (.seq (.reg [⟨some 29, .ld (.t 5) (some 3), none⟩, ⟨some 30, .call (.c (.func (.func 12) #[] #[])) [.t 29], none⟩, ⟨some 28, .mv (.t 30), none⟩, ⟨some 31, .ext (.t 28) 0, none⟩, ⟨some 32, .ext (.t 28) 1, none⟩, ⟨some 8, .mv (.t 31), none⟩, ⟨some 9, .mv (.t 32), none⟩] []) (.seq (.seq (.reg [⟨some 33, .mv (.t 7), none⟩, ⟨some 34, .bin .neq (.t 33) (.c (.int .i64 0)), none⟩, ⟨some 35, .mv (.t 34), none⟩, ⟨some 36, .mv (.t 9), some (35, false)⟩, ⟨some 37, .bin .neq (.t 36) (.c (.int .i64 0)), some (35, false)⟩, ⟨some 38, .pick (.t 35) (.c (.bool true)) (.t 37), none⟩, ⟨some 39, .mv (.t 38), none⟩, ⟨some 40, .mv (.t 6), some (39, false)⟩, ⟨some 41, .len (.t 40), some (39, false)⟩, ⟨some 42, .fa (.t 5) 2, some (39, false)⟩, ⟨some 43, .ld (.t 42) none, some (39, false)⟩, ⟨some 44, .len (.t 43), some (39, false)⟩, ⟨some 45, .bin .neq (.t 41) (.t 44), some (39, false)⟩, ⟨some 46, .pick (.t 39) (.c (.bool true)) (.t 45), none⟩, ⟨some 47, .mv (.t 46), none⟩, ⟨some 48, .mv (.t 8), some (47, false)⟩, ⟨some 49, .bin .lss (.t 48) (.c (.int .i64 0)), some (47, false)⟩, ⟨some 50, .pick (.t 47) (.c (.bool true)) (.t 49), none⟩, ⟨some 51, .mv (.t 50), none⟩, ⟨some 52, .mv (.t 8), some (51, false)⟩, ⟨some 53, .mv (.t 6), some (51, false)⟩, ⟨some 54, .len (.t 53), some (51, false)⟩, ⟨some 55, .bin .gtr (.t 52) (.t 54), some (51, false)⟩, ⟨some 56, .pick (.t 51) (.c (.bool true)) (.t 55), none⟩] []) (.cond (.t 56) (.seq (.reg [⟨some 4, .mv (.c (.bool false)), none⟩] []) .ret) .skip)) (.seq (.reg [⟨some 10, .new [.nilFunc], none⟩, ⟨none, .st (.t 10) (.c (.func (.func 13) #[] #[])) 1, none⟩] []) (.seq (.reg [⟨some 57, .fn 14 [] [.t 10], none⟩, ⟨some 11, .mv (.t 57), none⟩] []) (.seq (.reg [⟨some 58, .mv (.t 8), none⟩, ⟨some 59, .mkSl (.t 58) (.t 58) [.bool false] 1, none⟩, ⟨some 12, .mv (.t 59), none⟩] []) (.seq (.seq (.reg [⟨some 60, .mv (.t 6), none⟩, ⟨some 61, .len (.t 60), none⟩, ⟨some 62, .mv (.c (.int .i64 0)), none⟩] []) (.block 0 (.loop (.seq (.reg [⟨some 63, .bin .lss (.t 62) (.t 61), none⟩] []) (.seq (.cond (.t 63) .skip (.exit 0)) (.seq (.block 1 (.seq (.reg [⟨some 64, .mv (.t 62), none⟩, ⟨some 65, .iaS (.t 60) (.t 62) 1, none⟩, ⟨some 66, .ld (.t 65) none, none⟩, ⟨some 13, .mv (.t 64), none⟩, ⟨some 14, .mv (.t 66), none⟩] []) (.seq (.seq (.reg [⟨some 67, .mv (.t 14), none⟩, ⟨some 68, .bin .lss (.t 67) (.c (.int .i64 0)), none⟩, ⟨some 69, .mv (.t 68), none⟩, ⟨some 70, .mv (.t 14), some (69, false)⟩, ⟨some 71, .mv (.t 8), some (69, false)⟩, ⟨some 72, .bin .geq (.t 70) (.t 71), some (69, false)⟩, ⟨some 73, .pick (.t 69) (.c (.bool true)) (.t 72), none⟩] []) (.cond (.t 73) (.seq (.reg [⟨some 4, .mv (.c (.bool false)), none⟩] []) .ret) .skip)) (.seq (.reg [⟨some 74, .mv (.t 12), none⟩, ⟨some 75, .mv (.t 14), none⟩, ⟨some 76, .iaS (.t 74) (.t 75) 1, none⟩, ⟨none, .st (.t 76) (.c (.bool true)) 1, none⟩] []) (.seq (.reg [⟨some 77, .mv (.t 14), none⟩, ⟨some 78, .bin .eql (.t 77) (.c (.int .i64 0)), none⟩, ⟨some 15, .mv (.t 78), none⟩] []) (.seq (.seq (.reg [⟨some 79, .mv (.t 6), none⟩, ⟨some 80, .mv (.t 13), none⟩, ⟨some 81, .slS (.t 79) none (some (.t 80)) none 1, none⟩, ⟨some 82, .len (.t 81), none⟩, ⟨some 83, .mv (.c (.int .i64 0)), none⟩] []) (.block 2 (.loop (.seq (.reg [⟨some 84, .bin .lss (.t 83) (.t 82), none⟩] []) (.seq (.cond (.t 84) .skip (.exit 2)) (.seq (.block 3 (.seq (.reg [⟨some 85, .mv (.t 83), none⟩, ⟨some 86, .iaS (.t 81) (.t 83) 1, none⟩, ⟨some 87, .ld (.t 86) none, none⟩, ⟨some 16, .mv (.t 85), none⟩, ⟨some 17, .mv (.t 87), none⟩] []) (.seq (.reg [⟨some 88, .mv (.t 11), none⟩, ⟨some 89, .fa (.t 5) 2, none⟩, ⟨some 90, .ld (.t 89) none, none⟩, ⟨some 91, .mv (.t 13), none⟩, ⟨some 92, .iaS (.t 90) (.t 91) 4, none⟩, ⟨some 93, .ld (.t 92) (some 4), none⟩, ⟨some 94, .fa (.t 5) 2, none⟩, ⟨some 95, .ld (.t 94) none, none⟩, ⟨some 96, .mv (.t 16), none⟩, ⟨some 97, .iaS (.t 95) (.t 96) 4, none⟩, ⟨some 98, .ld (.t 97) (some 4), none⟩, ⟨some 99, .call (.t 88) [.t 93, .t 98], none⟩, ⟨some 18, .mv (.t 99), none⟩] []) (.seq (.reg [⟨some 100, .mv (.t 18), none⟩, ⟨some 101, .mv (.t 100), none⟩, ⟨some 102, .mv (.t 17), some (101, true)⟩, ⟨some 103, .mv (.t 14), some (101, true)⟩, ⟨some 104, .bin .geq (.t 102) (.t 103), some (101, true)⟩, ⟨some 105, .pick (.t 101) (.t 104) (.c (.bool false)), none⟩] []) (.cond (.t 105) (.seq (.reg [⟨some 4, .mv (.c (.bool false)), none⟩] []) .ret) (.seq (.reg [⟨some 106, .mv (.t 18), none⟩, ⟨some 107, .mv (.t 106), none⟩, ⟨some 108, .mv (.t 17), some (107, true)⟩, ⟨some 109, .mv (.t 14), some (107, true)⟩, ⟨some 110, .bin .sub (.t 109) (.c (.int .i64 1)), some (107, true)⟩, ⟨some 111, .bin .eql (.t 108) (.t 110), some (107, true)⟩, ⟨some 112, .pick (.t 107) (.t 111) (.c (.bool false)), none⟩] []) (.cond (.t 112) (.reg [⟨some 15, .mv (.c (.bool true)), none⟩] []) .skip))))))) (.reg [⟨some 113, .bin .add (.t 83) (.c (.int .i64 1)), none⟩, ⟨some 83, .mv (.t 113), none⟩] []))))))) (.seq (.reg [⟨some 114, .mv (.t 15), none⟩, ⟨some 115, .not (.t 114), none⟩] []) (.cond (.t 115) (.seq (.reg [⟨some 4, .mv (.c (.bool false)), none⟩] []) .ret) .skip)))))))) (.reg [⟨some 116, .bin .add (.t 62) (.c (.int .i64 1)), none⟩, ⟨some 62, .mv (.t 116), none⟩] []))))))) (.seq (.reg [⟨some 117, .mv (.t 12), none⟩, ⟨some 118, .call (.c (.func (.func 18) #[] #[])) [.t 117, .c (.bool false)], none⟩, ⟨some 119, .not (.t 118), none⟩, ⟨some 120, .mv (.t 119), none⟩, ⟨some 121, .call (.c (.func (.func 19) #[] #[])) [], some (120, true)⟩, ⟨some 122, .pick (.t 120) (.t 121) (.c (.bool false)), none⟩, ⟨some 4, .mv (.t 122), none⟩] []) .ret)))))))))⟩
theorem k203 : tab Tryd.prog 3 = some kf203 := by kernel_rfl
theorem gates_lt2 {S : Nat → Prop} {h : Heap} {p : Pl} {gs : List G} (H : Gates S h p gs) : Gates (fun b => S b ∧ b < h.length) h p gs := by
  obtain ⟨ps, e, a, b⟩ := H
  exact ⟨ps, e, Cells.lt a, fun i h1 h2 => Cells.lt (b i h1 h2)⟩
theorem ly_dep {c : C} (hc : checkM c = 0) : LY c.gs (layersR c) ∧ depthL (layersR c) = depthR c ∧ (layersR c).length = c.gs.length ∧ 0 ≤ depthR c ∧ depthR c ≤ c.gs.length := by
  have e : layersR c = layersL c.gs c.gs.length := if_pos hc
  have ly := layers_law c.gs
  rw [← e] at ly
  exact ⟨ly, depthR_eq c, ly.len, by rw [← depthR_eq]; exact ly.dep.1, by rw [← depthR_eq]; exact ly.dep.2⟩
theorem bools_set {f : List Bool} {o : Nat} (ho : o < f.length) : (f.map (Value.bool ·)).take (0 + o * 1) ++ [Value.bool true] ++ (f.map (Value.bool ·)).drop (0 + o * 1 + 1) = (f.set o true).map (.bool ·) := by
  rw [List.map_set, List.set_eq_take_append_cons_drop, if_pos (by simpa using ho)]
  simp
theorem bools_row {h : Heap} {b : Nat} {l : List Bool} (hr : h[b]? = some (.row (l.map (.bool ·)) true none)) : Bools allB h (some ⟨b, 0, none⟩, l.length) l :=
  ⟨by simp, Nat.le_refl _, .inr ⟨b, 0, _, true, _, rfl, trivial, hr, .inl rfl, .inr ⟨by simp, by rw [List.drop_zero, List.take_of_length_le (by simp)]⟩⟩⟩
theorem getI {l : List Int} {j : Nat} (h : j < l.length) : l.getD j 0 = l[j] := by rw [List.getD_eq_getElem?_getD, List.getElem?_eq_getElem h]; rfl
theorem ly_bb {gs : List G} {out : List Int} (ly : LY gs out) {i : Nat} (hi : i < out.length) {bb : Bool} (hz : out[i] = 0 → bb = true) (hq : ∀ q, q < i → meetM (gs.getD i default) (gs.getD q default) → out.getD q 0 = out[i] - 1 → bb = true) : bb = true := by
  by_cases hx0 : out[i] = 0
  · exact hz hx0
  · have hl := ly.len
    obtain ⟨q, h1, hm, ho⟩ := ly.one i (by omega) (by rw [getI hi]; have := (ly.rng _ (List.getElem_mem hi)).1; omega)
    exact hq q h1 hm (by rw [ho, getI hi])
theorem l_meet {c : C} {i k : Nat} (hr : CR c) (hi : i < c.gs.length) (hk : k < c.gs.length) (h : meetM (c.gs.getD i default) (c.gs.getD k default)) : lmeet c.gs[i] c.gs[k] := by
  rw [getG_at hi, getG_at hk] at h
  exact (lmeet_iff (hr.gr (List.getElem_mem _)) (hr.gr (List.getElem_mem _))).2 h
theorem m_meet {c : C} {i k : Nat} (hr : CR c) (hi : i < c.gs.length) (hk : k < c.gs.length) (h : lmeet c.gs[i] c.gs[k]) : meetM (c.gs.getD i default) (c.gs.getD k default) := by
  rw [getG_at hi, getG_at hk]
  exact (lmeet_iff (hr.gr (List.getElem_mem _)) (hr.gr (List.getElem_mem _))).1 h
set_option maxRecDepth 100000 in
theorem layered_run (H : Heap) (pb pk : Pl) (bs kl : List Int) (pl : Bool) (hB : Byts allB H pb bs) (hl : bs.length < 9223372036854775808) (hg : rowGet H ⟨0, 0, none⟩ 1 = some [.slice pk.1 kl.length pk.2]) (h0 : 0 < H.length) (hkl : Ints allB H pk kl) (hk : kl = [1, 2, 3, 4, 5, 6, 7, 8, 9, 10, 11, 12]) : ∃ v h', Ret (tab Tryd.prog) 3 [.slice pb.1 bs.length pb.2, .bool pl] H v h' ∧ v = .bool true := by
  have hne : 0 < kl.length ∧ kl.length < 100 := by rw [hk]; decide
  have hkk : ∀ x ∈ kl, 1 ≤ x ∧ x ≤ 12 := by rw [hk]; decide
  have h1 : arityM (kl[0]'hne.1) = 1 := by subst hk; rfl
  have key : ACall (tab Tryd.prog) 3 [.slice pb.1 bs.length pb.2, .bool pl] H fun u _ => u = .bool true := by
    refine ACall_ownR k203 rfl ?_
    refine AX_seq (AX_E (E_mv (v := .bool _) rfl (E_nil (AX_seq (AX_E (E_mv (v := .slice _ _ _) rfl ?_))))))
    obtain ⟨s, X20, hr20, hsH, so20⟩ := sof_ret H pb bs hB hl
    obtain ⟨KA, hKA⟩ : ∃ K : Heap, K = H ++ X20 := ⟨_, rfl⟩
    rw [← hKA] at hr20 so20
    obtain ⟨N, hN⟩ : ∃ n : Nat, n = KA.length := ⟨_, rfl⟩
    rw [← hN] at so20
    have soKA := so20
    have kqKA : Kp (fun b => b = s) H KA := by rw [hKA]; exact Kp.app
    have lKA : H.length ≤ KA.length := kqKA.len
    have hsN := so20.1
    have klA : Ints (fun b => b < N ∧ b ≠ s) KA pk kl := Cells.congr (ints_lt hkl) (fun b hb => by have := hb.2; omega) (fun b hb hl => kqKA.keep b hl (by have := hb.2; omega))
    have gA : rowGet KA ⟨0, 0, none⟩ 1 = some [.slice pk.1 kl.length pk.2] := (rowGet_ne (kqKA.keep 0 h0 (by omega))).trans hg
    refine E_callU rfl hr20 rfl (E_mv (v := .bool _) rfl ?_)
    obtain ⟨c, q22, U22, hr22, hb22, ga22, soU22, kpU22⟩ := steered_ret N KA s 0 pl pk kl soKA (by omega) gA ⟨by omega, by omega⟩ klA hne hkk h1
    have kqU22 : Kp (fun b => b = s) H U22 := kqKA.trans kpU22 (fun _ _ x => x) (fun _ _ x => x)
    have leU22 : KA.length ≤ U22.length := kpU22.len
    have lhU22 : H.length ≤ U22.length := kqU22.len
    refine E_callU rfl hr22 rfl (E_new (E_stO (k := 0) rfl rfl (v := .agg _) rfl rfl rfl rfl (E_nil (AX_seq (AX_E (E_ldON (k := 0) rfl rfl ?_))))))
    obtain ⟨X1, q1, hr1, f1⟩ := players_ret (U22 ++ [CO.row [.int .i64 (c.w), .int .i64 (c.b), .slice (q22).1 (c.gs).length (q22).2] true none]) c _ (gates_lt2 ga22).app (by omega)
    obtain ⟨K2, hK2⟩ : ∃ K : Heap, K = U22 ++ ([CO.row [.int .i64 (c.w), .int .i64 (c.b), .slice (q22).1 (c.gs).length (q22).2] true none] ++ X1) := ⟨_, rfl⟩
    have lK2 : U22.length + 1 ≤ K2.length := by rw [hK2]; simp only [List.length_append, List.length_cons, List.length_nil]; omega
    have pK2 : U22 <+: K2 := by rw [hK2]; exact List.prefix_append _ _
    have fk3 : Ints (fun b => (U22.length + 1 ≤ b ∧ b < K2.length)) K2 (q1) ((layersR c)) := f1.atS (by simp) hK2
    refine E_callX (X := X1) rfl (hr1) (E_hp (h' := K2 ++ []) (congrArg (fun x : Heap => x ++ []) hK2.symm) (E_mv (v := .tuple _) rfl (E_ext (v := .slice _ _ _) rfl rfl (E_ext (v := .int .i64 ((checkM c))) rfl rfl (E_mv (v := .slice _ _ _) rfl (E_mv (v := .int .i64 ((checkM c))) rfl (E_nil (AX_seq (AX_E (E_ldBN (cs := [.int .i64 (c.w), .int .i64 (c.b), .slice (q22).1 (c.gs).length (q22).2]) rfl (rowGet_eq hK2 (rowGet_own (k := 0) rfl)) (E_callV rfl (pdepth_ret _ c _ ((gates_lt2 ga22).lift hK2).app (by omega)) (E_mv (v := .tuple _) rfl (E_ext (v := .int .i64 ((depthR c))) rfl rfl (E_ext (v := .int .i64 ((checkM c))) rfl rfl (E_mv (v := .int .i64 ((depthR c))) rfl (E_mv (v := .int .i64 ((checkM c))) rfl (E_nil (AX_seq (AX_seq (AX_E (E_mv (v := .int .i64 ((checkM c))) rfl (E_neqS rfl rfl (fun c34 => ?_) (fun c34 => ?_)))))))))))))))))))))))
    · exact (c34 hb22.1).elim
    · refine E_mv (v := .bool _) rfl (E_on rfl (E_mv (v := .int .i64 ((checkM c))) rfl (E_on rfl (E_neqS rfl rfl (fun c37 => ?_) (fun c37 => ?_)))))
      · exact (c37 hb22.1).elim
      · refine E_pickF rfl (v := .bool _) rfl (E_mv (v := .bool _) rfl (E_on rfl (E_mv (v := .slice _ _ _) rfl (E_on rfl (E_len (n := ((layersR c)).length) rfl (E_on rfl (E_fa rfl (E_on rfl (E_ldB (v := .slice _ _ _) rfl (rowGet_eq hK2 (rowGet_own (k := 0) rfl)) (E_on rfl (E_len (n := (c.gs).length) rfl (E_on rfl (E_neqS rfl rfl (fun c45 => ?_) (fun c45 => ?_))))))))))))))
        · have := (ly_dep hb22.1).2.2.1; omega
        · refine E_pickF rfl (v := .bool _) rfl (E_mv (v := .bool _) rfl (E_on rfl (E_mv (v := .int .i64 ((depthR c))) rfl (E_on rfl (E_lssS rfl rfl (fun c49 => ?_) (fun c49 => ?_))))))
          · have := (ly_dep hb22.1).2.2.2; omega
          · refine E_pickF rfl (v := .bool _) rfl (E_mv (v := .bool _) rfl (E_on rfl (E_mv (v := .int .i64 ((depthR c))) rfl (E_on rfl (E_mv (v := .slice _ _ _) rfl (E_on rfl (E_len (n := ((layersR c)).length) rfl (E_on rfl (E_gtrS rfl rfl (fun c55 => ?_) (fun c55 => ?_))))))))))
            · have := (ly_dep hb22.1).2.2; omega
            · refine E_pickF rfl (v := .bool _) rfl (E_nil (AX_condF rfl (AX_skip (AX_seq (AX_E (E_new (E_stO (k := 0) rfl rfl (v := .func _ _ _) rfl rfl rfl rfl (E_nil (AX_seq (AX_E (E_fn (u := []) (v := [.pointer (some ⟨(K2).length + 0, 0, none⟩)]) rfl rfl (E_mv (v := .func _ _ _) rfl (E_nil (AX_seq (AX_E (E_mv (v := .int .i64 ((depthR c))) rfl ?_))))))))))))))))
              obtain ⟨n, hn⟩ : ∃ n : Nat, depthR c = (n : Int) := ⟨(depthR c).toNat, by have := (ly_dep hb22.1).2.2.2; omega⟩
              refine E_mkSlB (n := n) (congrArg (Value.int .i64) hn) (congrArg (Value.int .i64) hn) (by simp only [roomB]; have := (ly_dep hb22.1).2.2; omega) (E_mv (v := .slice (some ⟨(K2).length + 1, 0, none⟩) n n) rfl (E_nil (AX_seq (AX_seq (AX_E (E_mv (v := .slice _ _ _) rfl (E_len (n := ((layersR c)).length) rfl ?_)))))))
              obtain ⟨K4, hK4⟩ : ∃ K : Heap, K = K2 ++ ([CO.row [.func (.func 13) #[] #[]] true none, CO.row (((List.replicate n false).map (.bool ·))) true none] ++ []) := ⟨_, rfl⟩
              have lK4 : K2.length + 2 ≤ K4.length := by rw [hK4]; simp only [List.length_append, List.length_cons, List.length_nil]; omega
              have pK4 : U22 <+: K4 := by rw [hK4]; exact (pK2).trans (List.prefix_append _ _)
              obtain ⟨KB, hKB⟩ : ∃ K' : Heap, K' = K4 := ⟨_, rfl⟩
              have kpB : Kp (fun b => b < 0) K4 KB := by rw [hKB]; exact ⟨Nat.le_refl _, fun _ _ _ => rfl⟩
              have rB : KB[(K2).length + 1]? = some (CO.row ((List.replicate n false).map (.bool ·)) true none) := by rw [hKB]; exact get_own hK4 (k := 1) rfl
              obtain ⟨ly, eD, lRl, _, _⟩ := ly_dep hb22.1
              have hr := CR.of hb22.1
              have fk5 : Gates (fun b => (KA.length ≤ b ∧ b < U22.length)) KB (q22) (c.gs) := kpB.ga (((gates_lt2 ga22).lift hK2).lift hK4) (fun b hb => ⟨trivial, fun e => by have h : (KA.length ≤ b ∧ b < U22.length) := hb; have e1 : (b < 0) := e; omega⟩)
              have rw6 : KB[(U22).length + 0]? = some (CO.row [.int .i64 (c.w), .int .i64 (c.b), .slice (q22).1 (c.gs).length (q22).2] true none) := kpB.row (getq hK4 (get_own hK2 (k := 0) rfl)) (by show ¬ ((U22).length + 0 < 0); omega)
              have fk7 : Ints (fun b => (U22.length + 1 ≤ b ∧ b < K2.length)) KB (q1) ((layersR c)) := kpB.ii (fk3.lift hK4) (fun b hb => ⟨trivial, fun e => by have h : (U22.length + 1 ≤ b ∧ b < K2.length) := hb; have e1 : (b < 0) := e; omega⟩)
              have rw8 : KB[(U22).length + 0]? = some (CO.row [.int .i64 (c.w), .int .i64 (c.b), .slice (q22).1 (c.gs).length (q22).2] true none) := kpB.row (getq hK4 (get_own hK2 (k := 0) rfl)) (by show ¬ ((U22).length + 0 < 0); omega)
              have rw9 : KB[(K2).length + 0]? = some (CO.row [.func (.func 13) #[] #[]] true none) := kpB.row (get_own hK4 (k := 0) rfl) (by show ¬ ((K2).length + 0 < 0); omega)
              have rC := rw6
              have rM := rw9
              have fL := fk7
              have gC := fk5
              refine E_hp (h' := K4 ++ []) (((List.append_nil _).symm.trans (congrArg (fun x : Heap => (K2 ++ x) ++ []) (List.append_nil _).symm)).trans (congrArg (fun x : Heap => x ++ []) hK4.symm)) (E_hp (h' := KB ++ []) (congrArg (· ++ []) hKB.symm) (E_mv (v := .int .i64 (0)) rfl (E_nil (AX_block ?_))))
              refine AX_loopF (γ := Nat × List Bool) (fun x => [(5, .pointer (some ⟨(U22).length + 0, 0, none⟩)), (6, .slice (q1).1 ((layersR c)).length (q1).2), (8, .int .i64 ((depthR c))), (11, .func (.func 14) #[] #[.pointer (some ⟨(K2).length + 0, 0, none⟩)]), (12, .slice (some ⟨(K2).length + 1, 0, none⟩) n n), (60, .slice (q1).1 ((layersR c)).length (q1).2), (61, .int .i64 (((layersR c)).length)), (62, .int .i64 ((x.1 : Int)))]) (fun x h_ m_ => (m_ = [] ∧ Kp (fun b => b = (K2).length + 1) KB h_ ∧ h_[(K2).length + 1]? = some (CO.row ((x.2).map (.bool ·)) true none)) ∧ (x.2).length = n ∧ x.1 ≤ c.gs.length ∧ ∀ k, k < x.1 → (x.2).getD ((layersR c).getD k 0).toNat false = true) (fun x => c.gs.length - x.1) (0, List.replicate n false) ⟨rfl, rfl, rfl, rfl, rfl, rfl, rfl, rfl, trivial⟩ ⟨?_, ?_⟩ ?_
              · rw [List.append_nil]
                exact ⟨rfl, ⟨Nat.le_refl _, fun _ _ _ => rfl⟩, rB⟩
              · exact ⟨by simp, by omega, fun k h => by omega⟩
              rintro ⟨i, f⟩ fr0 KH0 mk0 ⟨hI0, inv0⟩ K0 hN0 hR0 hE0
              try dsimp only at hI0 inv0
              obtain ⟨rfl, kp0, rF0⟩ := hI0
              obtain ⟨hf0, hi0, hd0⟩ := inv0
              have rC0 := kp0.row rC (by show ¬ (U22).length + 0 = (K2).length + 1; omega)
              have rM0 := kp0.row rM (by show ¬ (K2).length + 0 = (K2).length + 1; omega)
              have fL0 := kp0.ii fL (fun b hb => ⟨trivial, fun e => by have h : (U22.length + 1 ≤ b ∧ b < K2.length) := hb; have e1 : b = (K2).length + 1 := e; omega⟩)
              have gC0 := kp0.ga gC (fun b hb => ⟨trivial, fun e => by have h : (KA.length ≤ b ∧ b < U22.length) := hb; have e1 : b = (K2).length + 1 := e; omega⟩)
              refine AX_nil ?_
              refine AX_seq (AX_E (E_lssS rfl rfl (fun c63 => ?_) (fun c63 => ?_)))
              · refine E_nil (AX_seq (AX_condT rfl (AX_skip (AX_seq (AX_block (AX_seq (AX_E (E_mv (v := .int .i64 ((i : Int))) rfl (have ix10 : i < ((layersR c)).length := (by first | omega | (simp; done) | (simp; omega)); E_iaIb (j := i) rfl fL0 rfl rfl rfl ix10 fun b10 o10 w10 => (E_ldB (v := .int .i64 ((layersR c)[i]'ix10)) rfl w10 (E_mv (v := .int .i64 ((i : Int))) rfl (E_mv (v := .int .i64 ((layersR c)[i]'ix10)) rfl (E_nil (AX_seq (AX_seq (AX_E (E_mv (v := .int .i64 ((layersR c)[i]'ix10)) rfl (E_lssS rfl rfl (fun c68 => ?_) (fun c68 => ?_)))))))))))))))))))
                · have := ly.rng _ (List.getElem_mem (show i < (layersR c).length by omega)); omega
                · refine E_mv (v := .bool _) rfl (E_on rfl (E_mv (v := .int .i64 ((layersR c)[i]'ix10)) rfl (E_on rfl (E_mv (v := .int .i64 ((depthR c))) rfl (E_on rfl (E_geqS rfl rfl (fun c72 => ?_) (fun c72 => ?_)))))))
                  · have := ly.rng _ (List.getElem_mem (show i < (layersR c).length by omega)); omega
                  · refine E_pickF rfl (v := .bool _) rfl (E_nil (AX_condF rfl (AX_skip (AX_seq (AX_E (E_mv (v := .slice (some ⟨(K2).length + 1, 0, none⟩) n n) rfl (E_mv (v := .int .i64 ((layersR c)[i]'ix10)) rfl ?_)))))))
                    have hix : i < (layersR c).length := by omega
                    have hrg := ly.rng _ (List.getElem_mem hix)
                    refine E_iaS rfl rfl (by omega) (by omega) (E_stX (b := (K2).length + 1) (o := 0 + ((layersR c)[i]'ix10).toNat * 1) (l := [.bool true]) (v := .bool _) rfl rfl rfl rfl ((congrArg (fun h : Heap => h[(K2).length + 1]?) (List.append_nil _)).trans rF0) (by simp; omega) rfl rfl fun V eV => ?_)
                    obtain ⟨f2, hf2⟩ : ∃ g : List Bool, g = f.set ((layersR c)[i]'ix10).toNat true := ⟨_, rfl⟩
                    have hxf : ((layersR c)[i]'ix10).toNat < f.length := by omega
                    have eV2 : V = KH0.set ((K2).length + 1) (CO.row ((f2).map (.bool ·)) true none) := by rw [eV, List.append_nil, hf2, ← bools_set hxf]; rfl
                    have kpV : Kp (fun b => b = (K2).length + 1) KB V := kp0.trans (by rw [eV2]; exact Kp.set) (fun _ _ x => x) (fun _ _ x => x)
                    have rV : V[(K2).length + 1]? = some (CO.row ((f2).map (.bool ·)) true none) := by rw [eV2, List.getElem?_set_self (List.getElem?_eq_some_iff.1 rF0).1]
                    have rCV := kpV.row rC (by show ¬ (U22).length + 0 = (K2).length + 1; omega)
                    have rMV := kpV.row rM (by show ¬ (K2).length + 0 = (K2).length + 1; omega)
                    have fLV := kpV.ii fL (fun b hb => ⟨trivial, fun e => by have h : (U22.length + 1 ≤ b ∧ b < K2.length) := hb; have e1 : b = (K2).length + 1 := e; omega⟩)
                    have gCV := kpV.ga gC (fun b hb => ⟨trivial, fun e => by have h : (KA.length ≤ b ∧ b < U22.length) := hb; have e1 : b = (K2).length + 1 := e; omega⟩)
                    refine E_nil (AX_seq (AX_E (E_mv (v := .int .i64 ((layersR c)[i]'ix10)) rfl (E_eqlV rfl rfl (E_mv (v := .bool (decide ((layersR c)[i]'ix10 = 0))) rfl (E_nil (AX_seq (AX_seq (AX_E (E_mv (v := .slice _ _ _) rfl (E_mv (v := .int .i64 ((i : Int))) rfl (E_slHiIb (j := i) rfl fLV rfl rfl rfl (by first | omega | (simp; done) | (simp; omega)) fun f11 => (E_len (n := (((layersR c).take i)).length) rfl (E_mv (v := .int .i64 (0)) rfl (E_nil (AX_block ?_))))))))))))))))
                    refine AX_loopF (γ := Nat × Bool) (fun x => [(5, .pointer (some ⟨(U22).length + 0, 0, none⟩)), (6, .slice (q1).1 ((layersR c)).length (q1).2), (8, .int .i64 ((depthR c))), (11, .func (.func 14) #[] #[.pointer (some ⟨(K2).length + 0, 0, none⟩)]), (12, .slice (some ⟨(K2).length + 1, 0, none⟩) n n), (13, .int .i64 ((i : Int))), (14, .int .i64 ((layersR c)[i]'ix10)), (15, .bool (x.2)), (60, .slice (q1).1 ((layersR c)).length (q1).2), (61, .int .i64 (((layersR c)).length)), (62, .int .i64 ((i : Int))), (81, .slice (q1).1 (((layersR c).take i)).length (q1).2), (82, .int .i64 ((((layersR c).take i)).length)), (83, .int .i64 ((x.1 : Int)))]) (fun x h_ m_ => (m_ = [] ∧ h_ = V) ∧ x.1 ≤ i ∧ ((layersR c)[i] = 0 → x.2 = true) ∧ ∀ q, q < x.1 → meetM (c.gs.getD i default) (c.gs.getD q default) → (layersR c).getD q 0 = (layersR c)[i] - 1 → x.2 = true) (fun x => i - x.1) (0, decide ((layersR c)[i] = 0)) ⟨rfl, rfl, rfl, rfl, rfl, rfl, rfl, rfl, rfl, rfl, rfl, rfl, rfl, rfl, trivial⟩ ⟨?_, ?_⟩ ?_
                    · rw [List.append_nil]
                      exact ⟨rfl, rfl⟩
                    · exact ⟨by omega, fun h => by simpa using h, fun q h => by omega⟩
                    rintro ⟨k, bb⟩ fr2 KH2 mk2 ⟨hI2, inv2⟩ K2 hN2 hR2 hE2
                    try dsimp only at hI2 inv2
                    obtain ⟨rfl, e2⟩ := hI2
                    subst e2
                    obtain ⟨hk2, hz2, hq2⟩ := inv2
                    refine AX_nil ?_
                    refine AX_seq (AX_E (E_lssS rfl rfl (fun c84 => ?_) (fun c84 => ?_)))
                    · refine E_nil (AX_seq (AX_condT rfl (AX_skip (AX_seq (AX_block (AX_seq (AX_E ?_)))))))
                      have hki : k < i := by have h := c84; simp only [List.length_take] at h; omega
                      refine E_mv (v := .int .i64 ((k : Int))) rfl (have ix12 : k < (((layersR c).take i)).length := (by first | omega | (simp; done) | (simp; omega)); E_iaIb (j := k) rfl f11 rfl rfl rfl ix12 fun b12 o12 w12 => (E_ldB (v := .int .i64 (((layersR c).take i)[k]'ix12)) rfl w12 (E_mv (v := .int .i64 ((k : Int))) rfl (E_mv (v := .int .i64 (((layersR c).take i)[k]'ix12)) rfl (E_nil (AX_seq (AX_E (E_mv (v := .func _ _ _) rfl (E_fa rfl (E_ldB (v := .slice _ _ _) rfl (rowGet_c (j := 2) (rowGet_all rCV rfl) rfl) (E_mv (v := .int .i64 ((i : Int))) rfl (have ix13 : i < (c.gs).length := (by first | omega | (simp; done) | (simp; omega)); E_iaGb (j := i) rfl gCV rfl rfl rfl ix13 fun b13 o13 q13 f13 w13 => (E_ldBN rfl w13 (E_fa rfl (E_ldB (v := .slice _ _ _) rfl (rowGet_c (j := 2) (rowGet_all rCV rfl) rfl) (E_mv (v := .int .i64 ((k : Int))) rfl (have ix14 : k < (c.gs).length := (by first | omega | (simp; done) | (simp; omega)); E_iaGb (j := k) rfl gCV rfl rfl rfl ix14 fun b14 o14 q14 f14 w14 => (E_ldBN rfl w14 (E_callP rfl (lmeet_ret _ (c.gs[i]'ix13) (c.gs[k]'ix14) _ _ _ _ (rowGet_base (rowGet_all rMV rfl)) f13.app f14.app (hr.gr (List.getElem_mem _)) (hr.gr (List.getElem_mem _))) (fun c99 => ?_) (fun c99 => ?_))))))))))))))))))))
                      · refine E_mv (v := .bool _) rfl (E_nil (AX_seq (AX_E (E_mv (v := .bool _) rfl (E_mv (v := .bool _) rfl (E_on rfl (E_mv (v := .int .i64 (((layersR c).take i)[k]'ix12)) rfl (E_on rfl (E_mv (v := .int .i64 ((layersR c)[i]'ix10)) rfl (E_on rfl (E_geqS rfl rfl (fun c104 => ?_) (fun c104 => ?_))))))))))))
                        · have h5 := ly.lt i k (by omega) (by omega) (m_meet hr (by omega) (by omega) c99); rw [getI (by omega), getI (by omega)] at h5; simp only [List.getElem_take] at c104; omega
                        · refine E_pickT rfl (v := .bool _) rfl (E_nil (AX_condF rfl (AX_seq (AX_E (E_mv (v := .bool _) rfl (E_mv (v := .bool _) rfl (E_on rfl (E_mv (v := .int .i64 (((layersR c).take i)[k]'ix12)) rfl (E_on rfl (E_mv (v := .int .i64 ((layersR c)[i]'ix10)) rfl (E_on rfl (E_subI rfl rfl (by first | omega | (simp; done) | (simp; omega)) (by first | omega | (simp; done) | (simp; omega)) (E_on rfl (E_eqlS rfl rfl (fun c111 => ?_) (fun c111 => ?_)))))))))))))))
                          · refine E_pickT rfl (v := .bool _) rfl (E_nil (AX_condT rfl (AX_E (E_mv (v := .bool _) rfl (E_nil (AX_E (E_addI rfl rfl (by first | omega | (simp; done) | (simp; omega)) (by first | omega | (simp; done) | (simp; omega)) (E_mv (v := .int .i64 (((k : Int) + 1))) rfl (E_nil ?_)))))))))
                            refine hN2 (k + 1, true) _ _ _ ⟨by first | rfl | (congr 1; omega), by first | rfl | (congr 1; omega), by first | rfl | (congr 1; omega), by first | rfl | (congr 1; omega), by first | rfl | (congr 1; omega), by first | rfl | (congr 1; omega), by first | rfl | (congr 1; omega), by rfl, by first | rfl | (congr 1; omega), by first | rfl | (congr 1; omega), by first | rfl | (congr 1; omega), by first | rfl | (congr 1; omega), by first | rfl | (congr 1; omega), by rfl, trivial⟩ ⟨?_, ?_⟩ ?_
                            -- n1
                            all_goals clear hN0 hR0 hE0 hN2 hR2 hE2
                            · rw [List.append_nil]
                              exact ⟨rfl, rfl⟩
                            · refine ⟨by omega, ?_, ?_⟩
                              · first | exact fun _ => rfl | exact hz2
                              · first
                                | exact fun _ _ _ _ => rfl
                                | (intro q hq hm ho
                                   by_cases e : q = k
                                   · subst e
                                     first
                                     | exact (c99 (l_meet hr (by omega) (by omega) hm)).elim
                                     | exact (c111 (by rw [List.getElem_take, ← getI (by omega)]; exact ho)).elim
                                   · exact hq2 q (by omega) hm ho)
                            · (first | omega | (simp; omega))
                          · refine E_pickT rfl (v := .bool _) rfl (E_nil (AX_condF rfl (AX_skip (AX_E (E_addI rfl rfl (by first | omega | (simp; done) | (simp; omega)) (by first | omega | (simp; done) | (simp; omega)) (E_mv (v := .int .i64 (((k : Int) + 1))) rfl (E_nil ?_)))))))
                            refine hN2 (k + 1, bb) _ _ _ ⟨by first | rfl | (congr 1; omega), by first | rfl | (congr 1; omega), by first | rfl | (congr 1; omega), by first | rfl | (congr 1; omega), by first | rfl | (congr 1; omega), by first | rfl | (congr 1; omega), by first | rfl | (congr 1; omega), by rfl, by first | rfl | (congr 1; omega), by first | rfl | (congr 1; omega), by first | rfl | (congr 1; omega), by first | rfl | (congr 1; omega), by first | rfl | (congr 1; omega), by rfl, trivial⟩ ⟨?_, ?_⟩ ?_
                            -- n2
                            all_goals clear hN0 hR0 hE0 hN2 hR2 hE2
                            · rw [List.append_nil]
                              exact ⟨rfl, rfl⟩
                            · refine ⟨by omega, ?_, ?_⟩
                              · first | exact fun _ => rfl | exact hz2
                              · first
                                | exact fun _ _ _ _ => rfl
                                | (intro q hq hm ho
                                   by_cases e : q = k
                                   · subst e
                                     first
                                     | exact (c99 (l_meet hr (by omega) (by omega) hm)).elim
                                     | exact (c111 (by rw [List.getElem_take, ← getI (by omega)]; exact ho)).elim
                                   · exact hq2 q (by omega) hm ho)
                            · (first | omega | (simp; omega))
                      · refine E_mv (v := .bool _) rfl (E_nil (AX_seq (AX_E (E_mv (v := .bool _) rfl (E_mv (v := .bool _) rfl (E_notT rfl (E_notT rfl (E_notT rfl (E_pickF rfl (v := .bool _) rfl (E_nil (AX_condF rfl (AX_seq (AX_E (E_mv (v := .bool _) rfl (E_mv (v := .bool _) rfl (E_notT rfl (E_notT rfl (E_notT rfl (E_notT rfl (E_pickF rfl (v := .bool _) rfl (E_nil (AX_condF rfl (AX_skip (AX_E (E_addI rfl rfl (by first | omega | (simp; done) | (simp; omega)) (by first | omega | (simp; done) | (simp; omega)) (E_mv (v := .int .i64 (((k : Int) + 1))) rfl (E_nil ?_)))))))))))))))))))))))))))
                        refine hN2 (k + 1, bb) _ _ _ ⟨by first | rfl | (congr 1; omega), by first | rfl | (congr 1; omega), by first | rfl | (congr 1; omega), by first | rfl | (congr 1; omega), by first | rfl | (congr 1; omega), by first | rfl | (congr 1; omega), by first | rfl | (congr 1; omega), by rfl, by first | rfl | (congr 1; omega), by first | rfl | (congr 1; omega), by first | rfl | (congr 1; omega), by first | rfl | (congr 1; omega), by first | rfl | (congr 1; omega), by rfl, trivial⟩ ⟨?_, ?_⟩ ?_
                        -- n3
                        all_goals clear hN0 hR0 hE0 hN2 hR2 hE2
                        · rw [List.append_nil]
                          exact ⟨rfl, rfl⟩
                        · refine ⟨by omega, ?_, ?_⟩
                          · first | exact fun _ => rfl | exact hz2
                          · first
                            | exact fun _ _ _ _ => rfl
                            | (intro q hq hm ho
                               by_cases e : q = k
                               · subst e
                                 first
                                 | exact (c99 (l_meet hr (by omega) (by omega) hm)).elim
                                 | exact (c111 (by rw [List.getElem_take, ← getI (by omega)]; exact ho)).elim
                               · exact hq2 q (by omega) hm ho)
                        · (first | omega | (simp; omega))
                    · refine E_nil (AX_seq (AX_condF rfl (AX_exit (hE2 _ _ _ _ (AX_seq (AX_E (E_mv (v := .bool _) rfl (E_bs (fun c114 => ?_) (fun c114 => ?_)))))))))
                      · refine E_notV rfl rfl (E_nil (AX_condF rfl (AX_skip (AX_E (E_addI rfl rfl (by first | omega | (simp; done) | (simp; omega)) (by first | omega | (simp; done) | (simp; omega)) (E_mv (v := .int .i64 (((i : Int) + 1))) rfl (E_nil ?_)))))))
                        refine hN0 (i + 1, f2) _ _ _ ⟨by first | rfl | (congr 1; omega), by first | rfl | (congr 1; omega), by first | rfl | (congr 1; omega), by first | rfl | (congr 1; omega), by first | rfl | (congr 1; omega), by first | rfl | (congr 1; omega), by first | rfl | (congr 1; omega), by rfl, trivial⟩ ⟨?_, ?_⟩ ?_
                        -- n4
                        all_goals clear hN0 hR0 hE0 hN2 hR2 hE2
                        · rw [List.append_nil]
                          exact ⟨rfl, kpV, rV⟩
                        · refine ⟨by rw [hf2]; simp; omega, by omega, fun k hk => ?_⟩
                          rw [hf2]
                          by_cases e : k = i
                          · subst e; rw [getI (by omega)]; simp [List.getD_eq_getElem?_getD, hxf]
                          · have h9 := hd0 k (by omega)
                            simp only [List.getD_eq_getElem?_getD] at h9 ⊢
                            rw [List.getElem?_set]
                            split
                            · simp
                            · exact h9
                        · (first | omega | (simp; omega))
                      · have h5 := ly_bb ly hix hz2 (fun q hq hm ho => hq2 q (by simp only [List.length_take] at c84; omega) hm ho); rw [h5] at c114; cases c114
              · refine E_nil (AX_seq (AX_condF rfl (AX_exit (hE0 _ _ _ _ ?_))))
                have hall : ∀ y ∈ f, y = true := fun y hy => by
                  obtain ⟨j, hj, rfl⟩ := List.mem_iff_getElem.1 hy
                  obtain ⟨q, hq, e⟩ := List.mem_iff_getElem.1 (ly.all (j : Int) (by omega) (by omega))
                  have h9 := hd0 q (by omega)
                  rw [getI hq, e] at h9
                  simpa [List.getD_eq_getElem?_getD, hj] using h9
                have hc118 : Ret (tab Tryd.prog) 18 [.slice (some ⟨(K2).length + 1, 0, none⟩) n n, .bool false] (KH0 ++ []) (.bool false) (KH0 ++ []) := by
                  rw [List.append_nil]
                  have h9 := containsb_ret KH0 (some ⟨(K2).length + 1, 0, none⟩, f.length) f (bools_row rF0) (by omega) hall
                  dsimp only at h9
                  rwa [hf0] at h9
                refine AX_seq (AX_E (E_mv (v := .slice (some ⟨(K2).length + 1, 0, none⟩) n n) rfl (E_callV rfl (hc118) (E_notV rfl rfl (E_mv (v := .bool _) rfl (E_on rfl (E_callV rfl (awake_ret _) (E_pickT rfl (v := .bool _) rfl (E_mv (v := .bool _) rfl (E_nil (AX_ret ?_)))))))))))
                exact ⟨_, rfl, by simp, rfl⟩
  obtain ⟨q, v, u, hr, rfl⟩ := key
  exact ⟨_, u, ⟨q, hr⟩, rfl⟩
end Go.Canon
