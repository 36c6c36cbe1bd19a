/- CircOrders, part 3: the canonical machine and the runs of the program's functions on it. No conditions. -/
import Derived.Test.YtpbamjaldnhamaaProg
import Derived.Test.YtpbamjaldnhamaaOrP2
namespace Go.Canon
open Go Go.Proofs
set_option linter.unusedVariables false
set_option linter.unusedSimpArgs false
def arityM (k : Int) : Int := if (1 ≤ k ∧ k ≤ 8) ∨ k = 13 ∨ k = 14 then 1 else if 9 ≤ k ∧ k ≤ 11 then 2 else if k = 12 then 3 else 0
theorem arity_le (k : Int) : 0 ≤ arityM k ∧ arityM k ≤ 3 := by unfold arityM; (repeat' split) <;> omega
def cgM (g : G) (w b : Int) : Int :=
  if arityM g.k = 0 then 3 else if (g.ws.length : Int) ≠ arityM g.k then 2 else if ∃ x ∈ g.ws, x < 0 ∨ w - 1 < x then 1 else if ¬ g.ws.Nodup then 5
  else if (g.f < 0 ∨ b < g.f) ∨ g.k = 13 ∧ (g.b < 0 ∨ b - 1 < g.b) then 1 else if (13 ≤ g.k ∧ g.f ≠ 0) ∨ (g.k ≠ 13 ∧ g.b ≠ 0) then 7 else 0
def firstErr (w b : Int) : List G → Int
  | [] => 0
  | g :: gs => if cgM g w b ≠ 0 then cgM g w b else firstErr w b gs
def checkM (c : C) : Int := if (c.w < 1 ∨ 12 < c.w) ∨ (c.b < 0 ∨ 8 < c.b) then 3 else if 120 < c.gs.length then 2 else firstErr c.w c.b c.gs
def kf35 : KFunc := ⟨1, 25, [.tmp 2], .seq (.reg [⟨some 2, .mv (.c (.int .i64 0)), none⟩] []) (.seq (.seq (.reg [⟨some 3, .mv (.t 0), none⟩, ⟨some 4, .bin .geq (.t 3) (.c (.int .i64 1)), none⟩, ⟨some 5, .mv (.t 4), none⟩, ⟨some 6, .mv (.t 0), some (5, true)⟩, ⟨some 7, .bin .leq (.t 6) (.c (.int .i64 8)), some (5, true)⟩, ⟨some 8, .pick (.t 5) (.t 7) (.c (.bool false)), none⟩, ⟨some 9, .mv (.t 8), none⟩, ⟨some 10, .mv (.t 0), some (9, false)⟩, ⟨some 11, .bin .eql (.t 10) (.c (.int .i64 13)), some (9, false)⟩, ⟨some 12, .pick (.t 9) (.c (.bool true)) (.t 11), none⟩, ⟨some 13, .mv (.t 12), none⟩, ⟨some 14, .mv (.t 0), some (13, false)⟩, ⟨some 15, .bin .eql (.t 14) (.c (.int .i64 14)), some (13, false)⟩, ⟨some 16, .pick (.t 13) (.c (.bool true)) (.t 15), none⟩] []) (.cond (.t 16) (.seq (.reg [⟨some 2, .mv (.c (.int .i64 1)), none⟩] []) .ret) .skip)) (.seq (.seq (.reg [⟨some 17, .mv (.t 0), none⟩, ⟨some 18, .bin .geq (.t 17) (.c (.int .i64 9)), none⟩, ⟨some 19, .mv (.t 18), none⟩, ⟨some 20, .mv (.t 0), some (19, true)⟩, ⟨some 21, .bin .leq (.t 20) (.c (.int .i64 11)), some (19, true)⟩, ⟨some 22, .pick (.t 19) (.t 21) (.c (.bool false)), none⟩] []) (.cond (.t 22) (.seq (.reg [⟨some 2, .mv (.c (.int .i64 2)), none⟩] []) .ret) .skip)) (.seq (.seq (.reg [⟨some 23, .mv (.t 0), none⟩, ⟨some 24, .bin .eql (.t 23) (.c (.int .i64 12)), none⟩] []) (.cond (.t 24) (.seq (.reg [⟨some 2, .mv (.c (.int .i64 3)), none⟩] []) .ret) .skip)) (.seq (.reg [⟨some 2, .mv (.c (.int .i64 0)), none⟩] []) .ret))))⟩
theorem k35 : tab Try.prog 35 = some kf35 := by kernel_rfl
def kf52 : KFunc := ⟨3, 15, [.tmp 6], .seq (.reg [⟨some 6, .mv (.c (.bool false)), none⟩] []) (.seq (.reg [⟨some 7, .mv (.t 0), none⟩, ⟨some 8, .mv (.t 1), none⟩, ⟨some 9, .bin .lss (.t 7) (.t 8), none⟩, ⟨some 10, .mv (.t 9), none⟩, ⟨some 11, .mv (.t 0), some (10, false)⟩, ⟨some 12, .mv (.t 2), some (10, false)⟩, ⟨some 13, .bin .gtr (.t 11) (.t 12), some (10, false)⟩, ⟨some 14, .pick (.t 10) (.c (.bool true)) (.t 13), none⟩, ⟨some 6, .mv (.t 14), none⟩] []) .ret)⟩
theorem k52 : tab Try.prog 52 = some kf52 := by kernel_rfl
def kf59 : KFunc := ⟨2, 18, [.tmp 4], .seq (.reg [⟨some 4, .mv (.c (.bool false)), none⟩] []) (.seq (.seq (.reg [⟨some 5, .mv (.c (.int .i64 0)), none⟩] []) (.block 0 (.loop (.seq (.seq (.reg [⟨some 6, .mv (.t 5), none⟩, ⟨some 7, .mv (.t 0), none⟩, ⟨some 8, .len (.t 7), none⟩, ⟨some 9, .bin .lss (.t 6) (.t 8), none⟩] []) (.cond (.t 9) .skip (.exit 0))) (.seq (.block 1 (.seq (.reg [⟨some 12, .mv (.t 0), none⟩, ⟨some 13, .mv (.t 5), none⟩, ⟨some 14, .iaS (.t 12) (.t 13) 1, none⟩, ⟨some 15, .ld (.t 14) none, none⟩, ⟨some 16, .mv (.t 1), none⟩, ⟨some 17, .bin .eql (.t 15) (.t 16), none⟩] []) (.cond (.t 17) (.seq (.reg [⟨some 4, .mv (.c (.bool true)), none⟩] []) .ret) .skip))) (.reg [⟨some 10, .mv (.t 5), none⟩, ⟨some 11, .bin .add (.t 10) (.c (.int .i64 1)), none⟩, ⟨some 5, .mv (.t 11), none⟩] [])))))) (.seq (.reg [⟨some 4, .mv (.c (.bool false)), none⟩] []) .ret))⟩
theorem k59 : tab Try.prog 59 = some kf59 := by kernel_rfl
def kf53 : KFunc := ⟨3, 86, [.tmp 6], .seq (.reg [⟨some 3, .box (.t 0), none⟩, ⟨some 6, .mv (.c (.int .i64 0)), none⟩] []) (.seq (.seq (.reg [⟨some 9, .fa (.t 3) 0, none⟩, ⟨some 10, .ld (.t 9) none, none⟩, ⟨some 11, .call (.c (.func (.func 35) #[] #[])) [.t 10], none⟩, ⟨some 12, .bin .eql (.t 11) (.c (.int .i64 0)), none⟩] []) (.cond (.t 12) (.seq (.reg [⟨some 6, .mv (.c (.int .i64 3)), none⟩] []) .ret) .skip)) (.seq (.seq (.reg [⟨some 13, .fa (.t 3) 1, none⟩, ⟨some 14, .ld (.t 13) none, none⟩, ⟨some 15, .len (.t 14), none⟩, ⟨some 16, .fa (.t 3) 0, none⟩, ⟨some 17, .ld (.t 16) none, none⟩, ⟨some 18, .call (.c (.func (.func 35) #[] #[])) [.t 17], none⟩, ⟨some 19, .bin .neq (.t 15) (.t 18), none⟩] [(1, 5)]) (.cond (.t 19) (.seq (.reg [⟨some 6, .mv (.c (.int .i64 2)), none⟩] []) .ret) .skip)) (.seq (.seq (.reg [⟨some 7, .mv (.c (.int .i64 0)), none⟩] []) (.block 0 (.loop (.seq (.seq (.reg [⟨some 20, .mv (.t 7), none⟩, ⟨some 21, .fa (.t 3) 1, none⟩, ⟨some 22, .ld (.t 21) none, none⟩, ⟨some 23, .len (.t 22), none⟩, ⟨some 24, .bin .lss (.t 20) (.t 23), none⟩] []) (.cond (.t 24) .skip (.exit 0))) (.seq (.block 1 (.seq (.reg [⟨some 27, .fa (.t 3) 1, none⟩, ⟨some 28, .ld (.t 27) none, none⟩, ⟨some 29, .mv (.t 7), none⟩, ⟨some 30, .iaS (.t 28) (.t 29) 1, none⟩, ⟨some 31, .ld (.t 30) none, none⟩, ⟨some 32, .mv (.t 1), none⟩, ⟨some 33, .bin .sub (.t 32) (.c (.int .i64 1)), none⟩, ⟨some 34, .call (.c (.func (.func 52) #[] #[])) [.t 31, .c (.int .i64 0), .t 33], none⟩] []) (.cond (.t 34) (.seq (.reg [⟨some 6, .mv (.c (.int .i64 1)), none⟩] []) .ret) .skip))) (.reg [⟨some 25, .mv (.t 7), none⟩, ⟨some 26, .bin .add (.t 25) (.c (.int .i64 1)), none⟩, ⟨some 7, .mv (.t 26), none⟩] [])))))) (.seq (.seq (.reg [⟨some 8, .mv (.c (.int .i64 0)), none⟩] []) (.block 2 (.loop (.seq (.seq (.reg [⟨some 35, .mv (.t 8), none⟩, ⟨some 36, .fa (.t 3) 1, none⟩, ⟨some 37, .ld (.t 36) none, none⟩, ⟨some 38, .len (.t 37), none⟩, ⟨some 39, .bin .lss (.t 35) (.t 38), none⟩] []) (.cond (.t 39) .skip (.exit 2))) (.seq (.block 3 (.seq (.reg [⟨some 42, .fa (.t 3) 1, none⟩, ⟨some 43, .ld (.t 42) none, none⟩, ⟨some 44, .mv (.t 8), none⟩, ⟨some 45, .slS (.t 43) none (some (.t 44)) none 1, none⟩, ⟨some 46, .fa (.t 3) 1, none⟩, ⟨some 47, .ld (.t 46) none, none⟩, ⟨some 48, .mv (.t 8), none⟩, ⟨some 49, .iaS (.t 47) (.t 48) 1, none⟩, ⟨some 50, .ld (.t 49) none, none⟩, ⟨some 51, .call (.c (.func (.func 59) #[] #[])) [.t 45, .t 50], none⟩] []) (.cond (.t 51) (.seq (.reg [⟨some 6, .mv (.c (.int .i64 5)), none⟩] []) .ret) .skip))) (.reg [⟨some 40, .mv (.t 8), none⟩, ⟨some 41, .bin .add (.t 40) (.c (.int .i64 1)), none⟩, ⟨some 8, .mv (.t 41), none⟩] [])))))) (.seq (.seq (.reg [⟨some 52, .fa (.t 3) 3, none⟩, ⟨some 53, .ld (.t 52) none, none⟩, ⟨some 54, .mv (.t 2), none⟩, ⟨some 55, .call (.c (.func (.func 52) #[] #[])) [.t 53, .c (.int .i64 0), .t 54], none⟩, ⟨some 56, .mv (.t 55), none⟩, ⟨some 57, .fa (.t 3) 0, some (56, false)⟩, ⟨some 58, .ld (.t 57) none, some (56, false)⟩, ⟨some 59, .bin .eql (.t 58) (.c (.int .i64 13)), some (56, false)⟩, ⟨some 60, .mv (.t 59), some (56, false)⟩, ⟨some 61, .fa (.t 3) 2, some (60, true)⟩, ⟨some 62, .ld (.t 61) none, some (60, true)⟩, ⟨some 63, .mv (.t 2), some (60, true)⟩, ⟨some 64, .bin .sub (.t 63) (.c (.int .i64 1)), some (60, true)⟩, ⟨some 65, .call (.c (.func (.func 52) #[] #[])) [.t 62, .c (.int .i64 0), .t 64], some (60, true)⟩, ⟨some 66, .pick (.t 60) (.t 65) (.c (.bool false)), some (56, false)⟩, ⟨some 67, .pick (.t 56) (.c (.bool true)) (.t 66), none⟩] []) (.cond (.t 67) (.seq (.reg [⟨some 6, .mv (.c (.int .i64 1)), none⟩] []) .ret) .skip)) (.seq (.seq (.reg [⟨some 68, .fa (.t 3) 0, none⟩, ⟨some 69, .ld (.t 68) none, none⟩, ⟨some 70, .bin .geq (.t 69) (.c (.int .i64 13)), none⟩, ⟨some 71, .mv (.t 70), none⟩, ⟨some 72, .fa (.t 3) 3, some (71, true)⟩, ⟨some 73, .ld (.t 72) none, some (71, true)⟩, ⟨some 74, .bin .neq (.t 73) (.c (.int .i64 0)), some (71, true)⟩, ⟨some 75, .pick (.t 71) (.t 74) (.c (.bool false)), none⟩, ⟨some 76, .mv (.t 75), none⟩, ⟨some 77, .fa (.t 3) 0, some (76, false)⟩, ⟨some 78, .ld (.t 77) none, some (76, false)⟩, ⟨some 79, .bin .neq (.t 78) (.c (.int .i64 13)), some (76, false)⟩, ⟨some 80, .mv (.t 79), some (76, false)⟩, ⟨some 81, .fa (.t 3) 2, some (80, true)⟩, ⟨some 82, .ld (.t 81) none, some (80, true)⟩, ⟨some 83, .bin .neq (.t 82) (.c (.int .i64 0)), some (80, true)⟩, ⟨some 84, .pick (.t 80) (.t 83) (.c (.bool false)), some (76, false)⟩, ⟨some 85, .pick (.t 76) (.c (.bool true)) (.t 84), none⟩] []) (.cond (.t 85) (.seq (.reg [⟨some 6, .mv (.c (.int .i64 7)), none⟩] []) .ret) .skip)) (.seq (.reg [⟨some 6, .mv (.c (.int .i64 0)), none⟩] []) .ret)))))))⟩
theorem k53 : tab Try.prog 53 = some kf53 := by kernel_rfl
def kf9 : KFunc := ⟨1, 37, [.tmp 2], .seq (.reg [⟨some 1, .box (.t 0), none⟩, ⟨some 2, .mv (.c (.int .i64 0)), none⟩] []) (.seq (.seq (.reg [⟨some 5, .fa (.t 1) 0, none⟩, ⟨some 6, .ld (.t 5) none, none⟩, ⟨some 7, .call (.c (.func (.func 52) #[] #[])) [.t 6, .c (.int .i64 1), .c (.int .i64 12)], none⟩, ⟨some 8, .mv (.t 7), none⟩, ⟨some 9, .fa (.t 1) 1, some (8, false)⟩, ⟨some 10, .ld (.t 9) none, some (8, false)⟩, ⟨some 11, .call (.c (.func (.func 52) #[] #[])) [.t 10, .c (.int .i64 0), .c (.int .i64 8)], some (8, false)⟩, ⟨some 12, .pick (.t 8) (.c (.bool true)) (.t 11), none⟩] []) (.cond (.t 12) (.seq (.reg [⟨some 2, .mv (.c (.int .i64 3)), none⟩] []) .ret) .skip)) (.seq (.seq (.reg [⟨some 13, .fa (.t 1) 2, none⟩, ⟨some 14, .ld (.t 13) none, none⟩, ⟨some 15, .len (.t 14), none⟩, ⟨some 16, .bin .gtr (.t 15) (.c (.int .i64 120)), none⟩] []) (.cond (.t 16) (.seq (.reg [⟨some 2, .mv (.c (.int .i64 2)), none⟩] []) .ret) .skip)) (.seq (.seq (.reg [⟨some 3, .mv (.c (.int .i64 0)), none⟩] []) (.block 0 (.loop (.seq (.seq (.reg [⟨some 17, .mv (.t 3), none⟩, ⟨some 18, .fa (.t 1) 2, none⟩, ⟨some 19, .ld (.t 18) none, none⟩, ⟨some 20, .len (.t 19), none⟩, ⟨some 21, .bin .lss (.t 17) (.t 20), none⟩] []) (.cond (.t 21) .skip (.exit 0))) (.seq (.block 1 (.seq (.reg [⟨some 24, .fa (.t 1) 2, none⟩, ⟨some 25, .ld (.t 24) none, none⟩, ⟨some 26, .mv (.t 3), none⟩, ⟨some 27, .iaS (.t 25) (.t 26) 4, none⟩, ⟨some 28, .ld (.t 27) (some 4), none⟩, ⟨some 29, .fa (.t 1) 0, none⟩, ⟨some 30, .ld (.t 29) none, none⟩, ⟨some 31, .fa (.t 1) 1, none⟩, ⟨some 32, .ld (.t 31) none, none⟩, ⟨some 33, .call (.c (.func (.func 53) #[] #[])) [.t 28, .t 30, .t 32], none⟩, ⟨some 4, .mv (.t 33), none⟩] []) (.seq (.reg [⟨some 34, .mv (.t 4), none⟩, ⟨some 35, .bin .neq (.t 34) (.c (.int .i64 0)), none⟩] []) (.cond (.t 35) (.seq (.reg [⟨some 36, .mv (.t 4), none⟩, ⟨some 2, .mv (.t 36), none⟩] []) .ret) .skip)))) (.reg [⟨some 22, .mv (.t 3), none⟩, ⟨some 23, .bin .add (.t 22) (.c (.int .i64 1)), none⟩, ⟨some 3, .mv (.t 23), none⟩] [])))))) (.seq (.reg [⟨some 2, .mv (.c (.int .i64 0)), none⟩] []) .ret))))⟩
theorem k9 : tab Try.prog 9 = some kf9 := by kernel_rfl
theorem off_ret (H : Heap) (n lo hi : Int) : Ret (tab Try.prog) 52 [.int .i64 n, .int .i64 lo, .int .i64 hi] H (.bool (decide (n < lo ∨ hi < n))) H := by
  refine Ret_own k52 rfl ?_
  refine AX_seq (AX_E (E_mv (v := .bool _) rfl (E_nil (AX_seq (AX_E (E_mv (v := .int .i64 (n)) rfl (E_mv (v := .int .i64 (lo)) rfl (E_lssS rfl rfl (fun c9 => ?_) (fun c9 => ?_)))))))))
  · refine E_mv (v := .bool _) rfl (E_notF rfl (E_notF rfl (E_notF rfl (E_pickT rfl (v := .bool _) rfl (E_mv (v := .bool _) rfl (E_nil (AX_ret ?_)))))))
    refine ⟨_, rfl, by simp, ?_, forget_flat rfl (List.prefix_append _ _)⟩
    refine congrArg (Value.bool) ?_
    refine (decide_eq_true ?_).symm
    omega
  · refine E_mv (v := .bool _) rfl (E_on rfl (E_mv (v := .int .i64 (n)) rfl (E_on rfl (E_mv (v := .int .i64 (hi)) rfl (E_on rfl (E_gtrV rfl rfl (E_pickF rfl (v := .bool _) rfl (E_mv (v := .bool _) rfl (E_nil (AX_ret ?_))))))))))
    refine ⟨_, rfl, by simp, ?_, forget_flat rfl (List.prefix_append _ _)⟩
    refine congrArg (Value.bool) ?_
    refine decide_eq_decide.2 ?_
    omega
theorem rarity_ret (H : Heap) (n : Int) : Ret (tab Try.prog) 35 [.int .i64 n] H (.int .i64 (arityM n)) H := by
  refine Ret_own k35 rfl ?_
  refine AX_seq (AX_E (E_mv (v := .int .i64 (0)) rfl (E_nil (AX_seq (AX_seq (AX_E (E_mv (v := .int .i64 (n)) rfl (E_geqS rfl rfl (fun c4 => ?_) (fun c4 => ?_)))))))))
  · refine E_mv (v := .bool _) rfl (E_on rfl (E_mv (v := .int .i64 (n)) rfl (E_on rfl (E_leqS rfl rfl (fun c7 => ?_) (fun c7 => ?_)))))
    · refine E_pickT rfl (v := .bool _) rfl (E_mv (v := .bool _) rfl (E_notF rfl (E_notF rfl (E_pickT rfl (v := .bool _) rfl (E_mv (v := .bool _) rfl (E_notF rfl (E_notF rfl (E_pickT rfl (v := .bool _) rfl (E_nil (AX_condT rfl (AX_seq (AX_E (E_mv (v := .int .i64 (1)) rfl (E_nil (AX_ret ?_)))))))))))))))
      refine ⟨_, rfl, by simp, ?_, forget_flat rfl (List.prefix_append _ _)⟩
      refine congrArg (Value.int _) ?_
      unfold arityM
      (repeat' split) <;> omega
    · refine E_pickT rfl (v := .bool _) rfl (E_mv (v := .bool _) rfl (E_on rfl (E_mv (v := .int .i64 (n)) rfl (E_on rfl (E_eqlS rfl rfl (fun c11 => ?_) (fun c11 => ?_))))))
      · refine E_pickF rfl (v := .bool _) rfl (E_mv (v := .bool _) rfl (E_notF rfl (E_notF rfl (E_pickT rfl (v := .bool _) rfl (E_nil (AX_condT rfl (AX_seq (AX_E (E_mv (v := .int .i64 (1)) rfl (E_nil (AX_ret ?_)))))))))))
        refine ⟨_, rfl, by simp, ?_, forget_flat rfl (List.prefix_append _ _)⟩
        refine congrArg (Value.int _) ?_
        unfold arityM
        (repeat' split) <;> omega
      · refine E_pickF rfl (v := .bool _) rfl (E_mv (v := .bool _) rfl (E_on rfl (E_mv (v := .int .i64 (n)) rfl (E_on rfl (E_eqlS rfl rfl (fun c15 => ?_) (fun c15 => ?_))))))
        · refine E_pickF rfl (v := .bool _) rfl (E_nil (AX_condT rfl (AX_seq (AX_E (E_mv (v := .int .i64 (1)) rfl (E_nil (AX_ret ?_)))))))
          refine ⟨_, rfl, by simp, ?_, forget_flat rfl (List.prefix_append _ _)⟩
          refine congrArg (Value.int _) ?_
          unfold arityM
          (repeat' split) <;> omega
        · refine E_pickF rfl (v := .bool _) rfl (E_nil (AX_condF rfl (AX_skip (AX_seq (AX_seq (AX_E (E_mv (v := .int .i64 (n)) rfl (E_geqS rfl rfl (fun c18 => ?_) (fun c18 => ?_)))))))))
          · refine E_mv (v := .bool _) rfl (E_on rfl (E_mv (v := .int .i64 (n)) rfl (E_on rfl (E_leqS rfl rfl (fun c21 => ?_) (fun c21 => ?_)))))
            · refine E_pickT rfl (v := .bool _) rfl (E_nil (AX_condT rfl (AX_seq (AX_E (E_mv (v := .int .i64 (2)) rfl (E_nil (AX_ret ?_)))))))
              refine ⟨_, rfl, by simp, ?_, forget_flat rfl (List.prefix_append _ _)⟩
              refine congrArg (Value.int _) ?_
              unfold arityM
              (repeat' split) <;> omega
            · refine E_pickT rfl (v := .bool _) rfl (E_nil (AX_condF rfl (AX_skip (AX_seq (AX_seq (AX_E (E_mv (v := .int .i64 (n)) rfl (E_eqlS rfl rfl (fun c24 => ?_) (fun c24 => ?_)))))))))
              · refine E_nil (AX_condT rfl (AX_seq (AX_E (E_mv (v := .int .i64 (3)) rfl (E_nil (AX_ret ?_))))))
                refine ⟨_, rfl, by simp, ?_, forget_flat rfl (List.prefix_append _ _)⟩
                refine congrArg (Value.int _) ?_
                unfold arityM
                (repeat' split) <;> omega
              · refine E_nil (AX_condF rfl (AX_skip (AX_seq (AX_E (E_mv (v := .int .i64 (0)) rfl (E_nil (AX_ret ?_)))))))
                refine ⟨_, rfl, by simp, ?_, forget_flat rfl (List.prefix_append _ _)⟩
                refine congrArg (Value.int _) ?_
                unfold arityM
                (repeat' split) <;> omega
          · refine E_mv (v := .bool _) rfl (E_notT rfl (E_notT rfl (E_pickF rfl (v := .bool _) rfl (E_nil (AX_condF rfl (AX_skip (AX_seq (AX_seq (AX_E (E_mv (v := .int .i64 (n)) rfl (E_eqlS rfl rfl (fun c24 => ?_) (fun c24 => ?_))))))))))))
            · refine E_nil (AX_condT rfl (AX_seq (AX_E (E_mv (v := .int .i64 (3)) rfl (E_nil (AX_ret ?_))))))
              refine ⟨_, rfl, by simp, ?_, forget_flat rfl (List.prefix_append _ _)⟩
              refine congrArg (Value.int _) ?_
              unfold arityM
              (repeat' split) <;> omega
            · refine E_nil (AX_condF rfl (AX_skip (AX_seq (AX_E (E_mv (v := .int .i64 (0)) rfl (E_nil (AX_ret ?_)))))))
              refine ⟨_, rfl, by simp, ?_, forget_flat rfl (List.prefix_append _ _)⟩
              refine congrArg (Value.int _) ?_
              unfold arityM
              (repeat' split) <;> omega
  · refine E_mv (v := .bool _) rfl (E_notT rfl (E_notT rfl (E_pickF rfl (v := .bool _) rfl (E_mv (v := .bool _) rfl (E_on rfl (E_mv (v := .int .i64 (n)) rfl (E_on rfl (E_eqlS rfl rfl (fun c11 => ?_) (fun c11 => ?_)))))))))
    · refine E_pickF rfl (v := .bool _) rfl (E_mv (v := .bool _) rfl (E_notF rfl (E_notF rfl (E_pickT rfl (v := .bool _) rfl (E_nil (AX_condT rfl (AX_seq (AX_E (E_mv (v := .int .i64 (1)) rfl (E_nil (AX_ret ?_)))))))))))
      refine ⟨_, rfl, by simp, ?_, forget_flat rfl (List.prefix_append _ _)⟩
      refine congrArg (Value.int _) ?_
      unfold arityM
      (repeat' split) <;> omega
    · refine E_pickF rfl (v := .bool _) rfl (E_mv (v := .bool _) rfl (E_on rfl (E_mv (v := .int .i64 (n)) rfl (E_on rfl (E_eqlS rfl rfl (fun c15 => ?_) (fun c15 => ?_))))))
      · refine E_pickF rfl (v := .bool _) rfl (E_nil (AX_condT rfl (AX_seq (AX_E (E_mv (v := .int .i64 (1)) rfl (E_nil (AX_ret ?_)))))))
        refine ⟨_, rfl, by simp, ?_, forget_flat rfl (List.prefix_append _ _)⟩
        refine congrArg (Value.int _) ?_
        unfold arityM
        (repeat' split) <;> omega
      · refine E_pickF rfl (v := .bool _) rfl (E_nil (AX_condF rfl (AX_skip (AX_seq (AX_seq (AX_E (E_mv (v := .int .i64 (n)) rfl (E_geqS rfl rfl (fun c18 => ?_) (fun c18 => ?_)))))))))
        · refine E_mv (v := .bool _) rfl (E_on rfl (E_mv (v := .int .i64 (n)) rfl (E_on rfl (E_leqS rfl rfl (fun c21 => ?_) (fun c21 => ?_)))))
          · refine E_pickT rfl (v := .bool _) rfl (E_nil (AX_condT rfl (AX_seq (AX_E (E_mv (v := .int .i64 (2)) rfl (E_nil (AX_ret ?_)))))))
            refine ⟨_, rfl, by simp, ?_, forget_flat rfl (List.prefix_append _ _)⟩
            refine congrArg (Value.int _) ?_
            unfold arityM
            (repeat' split) <;> omega
          · refine E_pickT rfl (v := .bool _) rfl (E_nil (AX_condF rfl (AX_skip (AX_seq (AX_seq (AX_E (E_mv (v := .int .i64 (n)) rfl (E_eqlS rfl rfl (fun c24 => ?_) (fun c24 => ?_)))))))))
            · refine E_nil (AX_condT rfl (AX_seq (AX_E (E_mv (v := .int .i64 (3)) rfl (E_nil (AX_ret ?_))))))
              refine ⟨_, rfl, by simp, ?_, forget_flat rfl (List.prefix_append _ _)⟩
              refine congrArg (Value.int _) ?_
              unfold arityM
              (repeat' split) <;> omega
            · refine E_nil (AX_condF rfl (AX_skip (AX_seq (AX_E (E_mv (v := .int .i64 (0)) rfl (E_nil (AX_ret ?_)))))))
              refine ⟨_, rfl, by simp, ?_, forget_flat rfl (List.prefix_append _ _)⟩
              refine congrArg (Value.int _) ?_
              unfold arityM
              (repeat' split) <;> omega
        · refine E_mv (v := .bool _) rfl (E_notT rfl (E_notT rfl (E_pickF rfl (v := .bool _) rfl (E_nil (AX_condF rfl (AX_skip (AX_seq (AX_seq (AX_E (E_mv (v := .int .i64 (n)) rfl (E_eqlS rfl rfl (fun c24 => ?_) (fun c24 => ?_))))))))))))
          · refine E_nil (AX_condT rfl (AX_seq (AX_E (E_mv (v := .int .i64 (3)) rfl (E_nil (AX_ret ?_))))))
            refine ⟨_, rfl, by simp, ?_, forget_flat rfl (List.prefix_append _ _)⟩
            refine congrArg (Value.int _) ?_
            unfold arityM
            (repeat' split) <;> omega
          · refine E_nil (AX_condF rfl (AX_skip (AX_seq (AX_E (E_mv (v := .int .i64 (0)) rfl (E_nil (AX_ret ?_)))))))
            refine ⟨_, rfl, by simp, ?_, forget_flat rfl (List.prefix_append _ _)⟩
            refine congrArg (Value.int _) ?_
            unfold arityM
            (repeat' split) <;> omega
theorem has_ret (H : Heap) (p : Pl) (l : List Int) (n : Int) {S : Nat → Prop} (hv : Ints S H p l) (hl : l.length < 4611686018427387904) :
    Ret (tab Try.prog) 59 [.slice p.1 l.length p.2, .int .i64 n] H (.bool (decide (n ∈ l))) H := by
  refine Ret_own k59 rfl ?_
  refine AX_seq (AX_E (E_mv (v := .bool _) rfl (E_nil (AX_seq (AX_seq (AX_E (E_mv (v := .int .i64 (0)) rfl (E_nil (AX_block ?_)))))))))
  refine AX_loopF (γ := Nat) (fun g => [(0, .slice (p).1 (l).length (p).2), (1, .int .i64 (n)), (5, .int .i64 ((g : Int)))]) (fun g h_ m_ => h_ = H ++ [] ∧ m_ = [] ∧ g ≤ l.length ∧ ∀ x ∈ l.take g, ¬ x = n) (fun g => l.length - g) (0) ⟨rfl, rfl, rfl, trivial⟩ ⟨rfl, rfl, ?_⟩ ?_
  · simp
  rintro g fr0 h0 m0 ⟨rfl, rfl, inv0⟩ K0 hN0 hR0 hE0
  refine AX_seq (AX_seq (AX_E (E_mv (v := .int .i64 ((g : Int))) rfl (E_mv (v := .slice _ _ _) rfl (E_len (n := (l).length) rfl (E_lssS rfl rfl (fun c9 => ?_) (fun c9 => ?_)))))))
  · refine E_nil (AX_condT rfl (AX_skip (AX_seq (AX_block (AX_seq (AX_E (E_mv (v := .slice _ _ _) rfl (E_mv (v := .int .i64 ((g : Int))) rfl (have ix1 : g < (l).length := (by first | omega | (simp; done) | (simp; omega)); E_iaIb (j := g) rfl hv rfl rfl rfl ix1 fun b1 o1 w1 => (E_ldB (v := .int .i64 (l[g]'ix1)) rfl w1 (E_mv (v := .int .i64 (n)) rfl (E_eqlS rfl rfl (fun c17 => ?_) (fun c17 => ?_)))))))))))))
    · refine E_nil (AX_condT rfl (AX_seq (AX_E (E_mv (v := .bool _) rfl (E_nil (AX_ret (hR0 _ _ _ ?_)))))))
      refine ⟨_, rfl, by simp, ?_, forget_flat rfl (List.prefix_append _ _)⟩
      clear hN0 hR0 hE0
      refine congrArg (Value.bool) ?_
      refine (decide_eq_true ?_).symm
      subst c17
      simp
    · refine E_nil (AX_condF rfl (AX_skip (AX_E (E_mv (v := .int .i64 ((g : Int))) rfl (E_addI rfl rfl (by first | omega | (simp; done) | (simp; omega)) (by first | omega | (simp; done) | (simp; omega)) (E_mv (v := .int .i64 (((g : Int) + 1))) rfl (E_nil ?_)))))))
      refine hN0 (g + 1) _ _ _ ⟨by first | rfl | (congr 1; omega), by first | rfl | (congr 1; omega), by first | rfl | (congr 1; omega), trivial⟩ ⟨rfl, rfl, ?_⟩ ?_
      all_goals clear hN0 hR0 hE0
      · exact ⟨by omega, all_next (by omega) inv0.2 c17⟩
      · (first | omega | (simp; omega))
  · refine E_nil (AX_condF rfl (AX_exit (hE0 _ _ _ _ (AX_seq (AX_E (E_mv (v := .bool _) rfl (E_nil (AX_ret ?_))))))))
    refine ⟨_, rfl, by simp, ?_, forget_flat rfl (List.prefix_append _ _)⟩
    clear hN0 hR0 hE0
    refine congrArg (Value.bool) ?_
    refine (decide_eq_false ?_).symm
    exact fun hx => all_all c9 inv0.2 n hx rfl
theorem cg_ret (H : Heap) (p : Pl) (g : G) (w b : Int) {S : Nat → Prop} (hv : Ints S H p g.ws) (hw : 1 ≤ w ∧ w ≤ 12) (hb : 0 ≤ b ∧ b ≤ 8) :
    Ret (tab Try.prog) 53 [gv g p, .int .i64 w, .int .i64 b] H (.int .i64 (cgM g w b)) H := by
  have ha := arity_le g.k
  refine Ret_own k53 rfl ?_
  refine AX_seq (AX_E (E_boxA rfl (E_mv (v := .int .i64 (0)) rfl (E_nil (AX_seq (AX_seq (AX_E (E_fa rfl (E_ldO (k := 0) (v := .int .i64 (g.k)) rfl rfl (E_callV rfl (rarity_ret _ _) (E_eqlS rfl rfl (fun c12 => ?_) (fun c12 => ?_))))))))))))
  · refine E_nil (AX_condT rfl (AX_seq (AX_E (E_mv (v := .int .i64 (3)) rfl (E_nil (AX_ret ?_))))))
    refine ⟨_, rfl, by simp, ?_, forget_flat rfl (List.prefix_append _ _)⟩
    refine congrArg (Value.int _) ?_
    simp [cgM, *]
  · refine E_nil (AX_condF rfl (AX_skip (AX_seq (AX_seq (AX_E (E_fa rfl (E_ldO (k := 0) (v := .slice _ _ _) rfl rfl (E_len (n := (g.ws).length) rfl (E_fa rfl (E_ldO (k := 0) (v := .int .i64 (g.k)) rfl rfl (E_callV rfl (rarity_ret _ _) (E_neqS rfl rfl (fun c19 => ?_) (fun c19 => ?_)))))))))))))
    · refine E_nil (AX_condT rfl (AX_seq (AX_E (E_mv (v := .int .i64 (2)) rfl (E_nil (AX_ret ?_))))))
      refine ⟨_, rfl, by simp, ?_, forget_flat rfl (List.prefix_append _ _)⟩
      refine congrArg (Value.int _) ?_
      simp [cgM, *]
    · refine E_nil (AX_condF rfl (AX_skip (AX_seq (AX_seq (AX_E (E_mv (v := .int .i64 (0)) rfl (E_nil (AX_block ?_))))))))
      refine AX_loopF (γ := Nat) (fun j => [(1, .int .i64 (w)), (2, .int .i64 (b)), (3, .pointer (some ⟨(H).length + 0, 0, none⟩)), (7, .int .i64 ((j : Int)))]) (fun j h_ m_ => h_ = H ++ [CO.row [.int .i64 (g.k), .slice (p).1 (g.ws).length (p).2, .int .i64 (g.b), .int .i64 (g.f)] true none] ∧ m_ = [] ∧ j ≤ g.ws.length ∧ ∀ x ∈ g.ws.take j, ¬ (x < 0 ∨ w - 1 < x)) (fun j => g.ws.length - j) (0) ⟨rfl, rfl, rfl, rfl, trivial⟩ ⟨rfl, rfl, ?_⟩ ?_
      · simp
      rintro j fr0 h0 m0 ⟨rfl, rfl, inv0⟩ K0 hN0 hR0 hE0
      refine AX_seq (AX_seq (AX_E (E_mv (v := .int .i64 ((j : Int))) rfl (E_fa rfl (E_ldO (k := 0) (v := .slice _ _ _) rfl rfl (E_len (n := (g.ws).length) rfl (E_lssS rfl rfl (fun c24 => ?_) (fun c24 => ?_))))))))
      · refine E_nil (AX_condT rfl (AX_skip (AX_seq (AX_block (AX_seq (AX_E (E_fa rfl (E_ldO (k := 0) (v := .slice _ _ _) rfl rfl (E_mv (v := .int .i64 ((j : Int))) rfl (have ix1 : j < (g.ws).length := (by first | omega | (simp; done) | (simp; omega)); E_iaIb (j := j) rfl hv rfl rfl rfl ix1 fun b1 o1 w1 => (E_ldB (v := .int .i64 (g.ws[j]'ix1)) rfl w1 (E_mv (v := .int .i64 (w)) rfl (E_subI rfl rfl (by first | omega | (simp; done) | (simp; omega)) (by first | omega | (simp; done) | (simp; omega)) (E_callP rfl (off_ret _ _ _ _) (fun c34 => ?_) (fun c34 => ?_)))))))))))))))
        · refine E_nil (AX_condT rfl (AX_seq (AX_E (E_mv (v := .int .i64 (1)) rfl (E_nil (AX_ret (hR0 _ _ _ ?_)))))))
          refine ⟨_, rfl, by simp, ?_, forget_flat rfl (List.prefix_append _ _)⟩
          clear hN0 hR0 hE0
          refine congrArg (Value.int _) ?_
          have e0 : ∃ x ∈ g.ws, (x < 0 ∨ w - 1 < x) := ⟨_, List.getElem_mem _, c34⟩
          simp [cgM, *]
        · refine E_nil (AX_condF rfl (AX_skip (AX_E (E_mv (v := .int .i64 ((j : Int))) rfl (E_addI rfl rfl (by first | omega | (simp; done) | (simp; omega)) (by first | omega | (simp; done) | (simp; omega)) (E_mv (v := .int .i64 (((j : Int) + 1))) rfl (E_nil ?_)))))))
          refine hN0 (j + 1) _ _ _ ⟨by first | rfl | (congr 1; omega), by first | rfl | (congr 1; omega), by first | rfl | (congr 1; omega), by first | rfl | (congr 1; omega), trivial⟩ ⟨rfl, rfl, ?_⟩ ?_
          all_goals clear hN0 hR0 hE0
          · exact ⟨by omega, all_next (by omega) inv0.2 c34⟩
          · (first | omega | (simp; omega))
      · refine E_nil (AX_condF rfl (AX_exit (hE0 _ _ _ _ ?_)))
        have e0 : ¬ ∃ x ∈ g.ws, (x < 0 ∨ w - 1 < x) := fun ⟨x, hx, h⟩ => all_all c24 inv0.2 x hx h
        refine AX_seq (AX_seq (AX_E (E_mv (v := .int .i64 (0)) rfl (E_nil (AX_block ?_)))))
        refine AX_loopF (γ := Nat) (fun j => [(2, .int .i64 (b)), (3, .pointer (some ⟨(H).length + 0, 0, none⟩)), (8, .int .i64 ((j : Int)))]) (fun j h_ m_ => h_ = H ++ [CO.row [.int .i64 (g.k), .slice (p).1 (g.ws).length (p).2, .int .i64 (g.b), .int .i64 (g.f)] true none] ∧ m_ = [] ∧ j ≤ g.ws.length ∧ (g.ws.take j).Nodup) (fun j => g.ws.length - j) (0) ⟨rfl, rfl, rfl, trivial⟩ ⟨rfl, rfl, ?_⟩ ?_
        · simp
        rintro j fr2 h2 m2 ⟨rfl, rfl, inv2⟩ K2 hN2 hR2 hE2
        refine AX_seq (AX_seq (AX_E (E_mv (v := .int .i64 ((j : Int))) rfl (E_fa rfl (E_ldO (k := 0) (v := .slice _ _ _) rfl rfl (E_len (n := (g.ws).length) rfl (E_lssS rfl rfl (fun c39 => ?_) (fun c39 => ?_))))))))
        · refine E_nil (AX_condT rfl (AX_skip (AX_seq (AX_block (AX_seq (AX_E (E_fa rfl (E_ldO (k := 0) (v := .slice _ _ _) rfl rfl (E_mv (v := .int .i64 ((j : Int))) rfl (E_slHiIb (j := j) rfl hv rfl rfl rfl (by first | omega | (simp; done) | (simp; omega)) fun f2 => (E_fa rfl (E_ldO (k := 0) (v := .slice _ _ _) rfl rfl (E_mv (v := .int .i64 ((j : Int))) rfl (have ix3 : j < (g.ws).length := (by first | omega | (simp; done) | (simp; omega)); E_iaIb (j := j) rfl hv rfl rfl rfl ix3 fun b3 o3 w3 => (E_ldB (v := .int .i64 (g.ws[j]'ix3)) rfl w3 (E_callP rfl (has_ret _ _ _ _ f2.app (by have := List.length_take_le j g.ws; omega)) (fun c51 => ?_) (fun c51 => ?_)))))))))))))))))
          · refine E_nil (AX_condT rfl (AX_seq (AX_E (E_mv (v := .int .i64 (5)) rfl (E_nil (AX_ret (hR2 _ _ _ ?_)))))))
            refine ⟨_, rfl, by simp, ?_, forget_flat rfl (List.prefix_append _ _)⟩
            clear hN0 hR0 hE0 hN2 hR2 hE2
            refine congrArg (Value.int _) ?_
            have e2 : ¬ g.ws.Nodup := fun x => ((nodup_take (by omega)).1 (x.sublist (List.take_sublist _ _))).2 c51
            simp [cgM, *]
          · refine E_nil (AX_condF rfl (AX_skip (AX_E (E_mv (v := .int .i64 ((j : Int))) rfl (E_addI rfl rfl (by first | omega | (simp; done) | (simp; omega)) (by first | omega | (simp; done) | (simp; omega)) (E_mv (v := .int .i64 (((j : Int) + 1))) rfl (E_nil ?_)))))))
            refine hN2 (j + 1) _ _ _ ⟨by first | rfl | (congr 1; omega), by first | rfl | (congr 1; omega), by first | rfl | (congr 1; omega), trivial⟩ ⟨rfl, rfl, ?_⟩ ?_
            all_goals clear hN0 hR0 hE0 hN2 hR2 hE2
            · exact ⟨by omega, (nodup_take (by omega)).2 ⟨inv2.2, c51⟩⟩
            · (first | omega | (simp; omega))
        · refine E_nil (AX_condF rfl (AX_exit (hE2 _ _ _ _ ?_)))
          have e2 : g.ws.Nodup := by have := inv2.2; rwa [List.take_of_length_le (by omega)] at this
          refine AX_cut (X := Unit) (fun _ => [(3, .pointer (some ⟨(H).length + 0, 0, none⟩))]) (fun _ h_ m_ => h_ = H ++ [CO.row [.int .i64 (g.k), .slice (p).1 (g.ws).length (p).2, .int .i64 (g.b), .int .i64 (g.f)] true none] ∧ m_ = [] ∧ ¬ ((g.f < 0 ∨ b < g.f) ∨ g.k = 13 ∧ (g.b < 0 ∨ b - 1 < g.b))) ?_ ?_
          · intro Kc67 hNc67 hRc67 hEc67
            refine AX_seq (AX_E (E_fa rfl (E_ldO (k := 0) (v := .int .i64 (g.f)) rfl rfl (E_mv (v := .int .i64 (b)) rfl (E_callP rfl (off_ret _ _ _ _) (fun c55 => ?_) (fun c55 => ?_))))))
            · refine E_mv (v := .bool _) rfl (E_notF rfl (E_notF rfl (E_notF rfl (E_notF rfl (E_notU rfl (E_notU rfl (E_notU rfl (E_notU rfl (E_notU rfl (E_notF rfl (E_pickT rfl (v := .bool _) rfl (E_nil (AX_condT rfl (AX_seq (AX_E (E_mv (v := .int .i64 (1)) rfl (E_nil (AX_ret (hRc67 _ _ _ ?_)))))))))))))))))))
              refine ⟨_, rfl, by simp, ?_, forget_flat rfl (List.prefix_append _ _)⟩
              clear hN0 hR0 hE0 hN2 hR2 hE2 hNc67 hRc67 hEc67
              refine congrArg (Value.int _) ?_
              rw [cgM, if_neg c12, if_neg (by omega), if_neg e0, if_neg (not_not_intro e2)]
              (repeat' split) <;> omega
            · refine E_mv (v := .bool _) rfl (E_on rfl (E_fa rfl (E_on rfl (E_ldO (k := 0) (v := .int .i64 (g.k)) rfl rfl (E_on rfl (E_eqlS rfl rfl (fun c59 => ?_) (fun c59 => ?_)))))))
              · refine E_on rfl (E_mv (v := .bool _) rfl (E_on rfl (E_fa rfl (E_on rfl (E_ldO (k := 0) (v := .int .i64 (g.b)) rfl rfl (E_on rfl (E_mv (v := .int .i64 (b)) rfl (E_on rfl (E_subI rfl rfl (by first | omega | (simp; done) | (simp; omega)) (by first | omega | (simp; done) | (simp; omega)) (E_on rfl (E_callP rfl (off_ret _ _ _ _) (fun c65 => ?_) (fun c65 => ?_))))))))))))
                · refine E_on rfl (E_pickT rfl (v := .bool _) rfl (E_pickF rfl (v := .bool _) rfl (E_nil (AX_condT rfl (AX_seq (AX_E (E_mv (v := .int .i64 (1)) rfl (E_nil (AX_ret (hRc67 _ _ _ ?_))))))))))
                  refine ⟨_, rfl, by simp, ?_, forget_flat rfl (List.prefix_append _ _)⟩
                  clear hN0 hR0 hE0 hN2 hR2 hE2 hNc67 hRc67 hEc67
                  refine congrArg (Value.int _) ?_
                  rw [cgM, if_neg c12, if_neg (by omega), if_neg e0, if_neg (not_not_intro e2)]
                  (repeat' split) <;> omega
                · refine E_on rfl (E_pickT rfl (v := .bool _) rfl (E_pickF rfl (v := .bool _) rfl (E_nil (AX_condF rfl (AX_skip ?_)))))
                  refine hNc67 (()) _ _ _ ⟨by first | rfl | (congr 1; omega), trivial⟩ ⟨rfl, rfl, ?_⟩
                  clear hN0 hR0 hE0 hN2 hR2 hE2 hNc67 hRc67 hEc67
                  simp [*]
              · refine E_on rfl (E_mv (v := .bool _) rfl (E_notT rfl (E_notT rfl (E_notT rfl (E_notT rfl (E_notT rfl (E_on rfl (E_pickF rfl (v := .bool _) rfl (E_pickF rfl (v := .bool _) rfl (E_nil (AX_condF rfl (AX_skip ?_))))))))))))
                refine hNc67 (()) _ _ _ ⟨by first | rfl | (congr 1; omega), trivial⟩ ⟨rfl, rfl, ?_⟩
                clear hN0 hR0 hE0 hN2 hR2 hE2 hNc67 hRc67 hEc67
                simp [*]
          rintro ⟨⟩ frc67 hc67 mc67 ⟨rfl, rfl, invc67⟩
          refine AX_seq (AX_seq (AX_E (E_fa rfl (E_ldO (k := 0) (v := .int .i64 (g.k)) rfl rfl (E_geqS rfl rfl (fun c70 => ?_) (fun c70 => ?_))))))
          · refine E_mv (v := .bool _) rfl (E_on rfl (E_fa rfl (E_on rfl (E_ldO (k := 0) (v := .int .i64 (g.f)) rfl rfl (E_on rfl (E_neqS rfl rfl (fun c74 => ?_) (fun c74 => ?_)))))))
            · refine E_pickT rfl (v := .bool _) rfl (E_mv (v := .bool _) rfl (E_notF rfl (E_notF rfl (E_notF rfl (E_notF rfl (E_notU rfl (E_notU rfl (E_notU rfl (E_notF rfl (E_pickT rfl (v := .bool _) rfl (E_nil (AX_condT rfl (AX_seq (AX_E (E_mv (v := .int .i64 (7)) rfl (E_nil (AX_ret ?_)))))))))))))))))
              refine ⟨_, rfl, by simp, ?_, forget_flat rfl (List.prefix_append _ _)⟩
              clear hN0 hR0 hE0 hN2 hR2 hE2
              refine congrArg (Value.int _) ?_
              rw [cgM, if_neg c12, if_neg (by omega), if_neg e0, if_neg (not_not_intro e2)]
              (repeat' split) <;> omega
            · refine E_pickT rfl (v := .bool _) rfl (E_mv (v := .bool _) rfl (E_on rfl (E_fa rfl (E_on rfl (E_ldO (k := 0) (v := .int .i64 (g.k)) rfl rfl (E_on rfl (E_neqS rfl rfl (fun c79 => ?_) (fun c79 => ?_))))))))
              · refine E_on rfl (E_mv (v := .bool _) rfl (E_on rfl (E_fa rfl (E_on rfl (E_ldO (k := 0) (v := .int .i64 (g.b)) rfl rfl (E_on rfl (E_neqS rfl rfl (fun c83 => ?_) (fun c83 => ?_))))))))
                · refine E_on rfl (E_pickT rfl (v := .bool _) rfl (E_pickF rfl (v := .bool _) rfl (E_nil (AX_condT rfl (AX_seq (AX_E (E_mv (v := .int .i64 (7)) rfl (E_nil (AX_ret ?_)))))))))
                  refine ⟨_, rfl, by simp, ?_, forget_flat rfl (List.prefix_append _ _)⟩
                  clear hN0 hR0 hE0 hN2 hR2 hE2
                  refine congrArg (Value.int _) ?_
                  rw [cgM, if_neg c12, if_neg (by omega), if_neg e0, if_neg (not_not_intro e2)]
                  (repeat' split) <;> omega
                · refine E_on rfl (E_pickT rfl (v := .bool _) rfl (E_pickF rfl (v := .bool _) rfl (E_nil (AX_condF rfl (AX_skip (AX_seq (AX_E (E_mv (v := .int .i64 (0)) rfl (E_nil (AX_ret ?_))))))))))
                  refine ⟨_, rfl, by simp, ?_, forget_flat rfl (List.prefix_append _ _)⟩
                  clear hN0 hR0 hE0 hN2 hR2 hE2
                  refine congrArg (Value.int _) ?_
                  rw [cgM, if_neg c12, if_neg (by omega), if_neg e0, if_neg (not_not_intro e2)]
                  (repeat' split) <;> omega
              · refine E_on rfl (E_mv (v := .bool _) rfl (E_notT rfl (E_notT rfl (E_notT rfl (E_on rfl (E_pickF rfl (v := .bool _) rfl (E_pickF rfl (v := .bool _) rfl (E_nil (AX_condF rfl (AX_skip (AX_seq (AX_E (E_mv (v := .int .i64 (0)) rfl (E_nil (AX_ret ?_)))))))))))))))
                refine ⟨_, rfl, by simp, ?_, forget_flat rfl (List.prefix_append _ _)⟩
                clear hN0 hR0 hE0 hN2 hR2 hE2
                refine congrArg (Value.int _) ?_
                rw [cgM, if_neg c12, if_neg (by omega), if_neg e0, if_neg (not_not_intro e2)]
                (repeat' split) <;> omega
          · refine E_mv (v := .bool _) rfl (E_notT rfl (E_notT rfl (E_notT rfl (E_pickF rfl (v := .bool _) rfl (E_mv (v := .bool _) rfl (E_on rfl (E_fa rfl (E_on rfl (E_ldO (k := 0) (v := .int .i64 (g.k)) rfl rfl (E_on rfl (E_neqS rfl rfl (fun c79 => ?_) (fun c79 => ?_))))))))))))
            · refine E_on rfl (E_mv (v := .bool _) rfl (E_on rfl (E_fa rfl (E_on rfl (E_ldO (k := 0) (v := .int .i64 (g.b)) rfl rfl (E_on rfl (E_neqS rfl rfl (fun c83 => ?_) (fun c83 => ?_))))))))
              · refine E_on rfl (E_pickT rfl (v := .bool _) rfl (E_pickF rfl (v := .bool _) rfl (E_nil (AX_condT rfl (AX_seq (AX_E (E_mv (v := .int .i64 (7)) rfl (E_nil (AX_ret ?_)))))))))
                refine ⟨_, rfl, by simp, ?_, forget_flat rfl (List.prefix_append _ _)⟩
                clear hN0 hR0 hE0 hN2 hR2 hE2
                refine congrArg (Value.int _) ?_
                rw [cgM, if_neg c12, if_neg (by omega), if_neg e0, if_neg (not_not_intro e2)]
                (repeat' split) <;> omega
              · refine E_on rfl (E_pickT rfl (v := .bool _) rfl (E_pickF rfl (v := .bool _) rfl (E_nil (AX_condF rfl (AX_skip (AX_seq (AX_E (E_mv (v := .int .i64 (0)) rfl (E_nil (AX_ret ?_))))))))))
                refine ⟨_, rfl, by simp, ?_, forget_flat rfl (List.prefix_append _ _)⟩
                clear hN0 hR0 hE0 hN2 hR2 hE2
                refine congrArg (Value.int _) ?_
                rw [cgM, if_neg c12, if_neg (by omega), if_neg e0, if_neg (not_not_intro e2)]
                (repeat' split) <;> omega
            · refine E_on rfl (E_mv (v := .bool _) rfl (E_notT rfl (E_notT rfl (E_notT rfl (E_on rfl (E_pickF rfl (v := .bool _) rfl (E_pickF rfl (v := .bool _) rfl (E_nil (AX_condF rfl (AX_skip (AX_seq (AX_E (E_mv (v := .int .i64 (0)) rfl (E_nil (AX_ret ?_)))))))))))))))
              refine ⟨_, rfl, by simp, ?_, forget_flat rfl (List.prefix_append _ _)⟩
              clear hN0 hR0 hE0 hN2 hR2 hE2
              refine congrArg (Value.int _) ?_
              rw [cgM, if_neg c12, if_neg (by omega), if_neg e0, if_neg (not_not_intro e2)]
              (repeat' split) <;> omega
end Go.Canon
namespace Go.Canon
open Go Go.Proofs
set_option linter.unusedVariables false
set_option linter.unusedSimpArgs false
/-- A right gate. -/
structure GR (g : G) : Prop where
  ar : (g.ws.length : Int) = arityM g.k
  pos : arityM g.k ≠ 0
  rng : ∀ x ∈ g.ws, 0 ≤ x ∧ x < 12
  nd : g.ws.Nodup
  f0 : 0 ≤ g.f ∧ g.f ≤ 8
  b0 : 0 ≤ g.b ∧ g.b < 8
  fk : 13 ≤ g.k → g.f = 0
  bk : g.k ≠ 13 → g.b = 0
theorem GR.len {g : G} (h : GR g) : 1 ≤ g.ws.length ∧ g.ws.length ≤ 3 := by
  have h1 := h.ar
  have h2 := h.pos
  have h3 := arity_le g.k
  omega
theorem GR.kind {g : G} (h : GR g) : 1 ≤ g.k ∧ g.k ≤ 14 := by
  have h2 := h.pos
  unfold arityM at h2
  (repeat' split at h2) <;> omega
theorem GR.of {g : G} {w b : Int} (h : cgM g w b = 0) (hw : w ≤ 12) (hb : b ≤ 8) : GR g := by
  unfold cgM at h
  split at h <;> try omega
  split at h <;> try omega
  split at h <;> try omega
  split at h <;> try omega
  split at h <;> try omega
  split at h <;> try omega
  rename_i h1 h2 h3 h4 h5 h6
  refine ⟨by omega, h1, fun x hx => ?_, by simpa using h4, by omega, by omega, fun _ => by omega, fun _ => by omega⟩
  by_cases hc : x < 0 ∨ w - 1 < x
  · exact (h3 ⟨x, hx, hc⟩).elim
  · omega
def touchM (g h : G) : Prop := (g.k = 13 ∧ (h.f = g.b + 1 ∨ h.k = 13 ∧ h.b = g.b)) ∨ (h.k = 13 ∧ g.f = h.b + 1)
instance (g h : G) : Decidable (touchM g h) := by unfold touchM; infer_instance
def meetM (g h : G) : Prop := (∃ x ∈ g.ws, x ∈ h.ws) ∨ touchM g h
instance (g h : G) : Decidable (meetM g h) := by unfold meetM; infer_instance
def axisM (g : G) (n : Int) : Int := if g.k = 3 ∨ (5 ≤ g.k ∧ g.k ≤ 8) ∨ g.k = 10 ∨ g.k = 13 then 3 else if g.k = 1 then 1 else if g.k = 2 then 2 else if g.k = 4 then 4 else if g.k = 9 ∨ g.k = 12 then (if g.ws.getD (g.ws.length - 1) 0 = n then 1 else 3) else 0
def alikeM (g h : G) : Prop := g.ws.getD 0 0 ∈ h.ws ∧ g.ws.getD 1 0 ∈ h.ws
instance (g h : G) : Decidable (alikeM g h) := by unfold alikeM; infer_instance
def commM (g h : G) : Prop := ¬ meetM g h ∨ ¬ touchM g h ∧ (if (g.k = 11 ∧ (h.k = 10 ∨ h.k = 11)) ∨ (h.k = 11 ∧ g.k = 10) then alikeM g h else ∀ x ∈ g.ws, x ∈ h.ws → axisM g x ≠ 0 ∧ axisM g x = axisM h x)
instance (g h : G) : Decidable (commM g h) := by unfold commM; infer_instance
def oppM (k : Int) : Int := if k = 5 then 6 else if k = 6 then 5 else if k = 7 then 8 else if k = 8 then 7 else k
def undoM (g h : G) : Prop := g.f = h.f ∧ g.k < 13 ∧ h.k = oppM g.k ∧ (if g.k = 10 ∨ g.k = 11 then alikeM g h else if g.k = 12 then g.ws.getD 2 0 = h.ws.getD 2 0 ∧ alikeM g h else g.ws = h.ws)
instance (g h : G) : Decidable (undoM g h) := by unfold undoM; infer_instance
def wsLt : List Int → List Int → Prop
  | x :: xs, y :: ys => if x ≠ y then x < y else wsLt xs ys
  | _, _ => False
instance : ∀ a b : List Int, Decidable (wsLt a b)
  | x :: xs, y :: ys => by unfold wsLt; have := instDecidableWsLt xs ys; infer_instance
  | [], _ => by unfold wsLt; infer_instance
  | _ :: _, [] => by unfold wsLt; infer_instance
def beforeM (g h : G) : Prop := if g.k ≠ h.k then g.k < h.k else if g.ws ≠ h.ws then wsLt g.ws h.ws else if g.b ≠ h.b then g.b < h.b else g.f < h.f
instance (g h : G) : Decidable (beforeM g h) := by unfold beforeM; infer_instance
theorem getD_at {l : List Int} {j : Nat} (hj : j < l.length) : l[j] = l.getD j 0 := by simp [List.getD, hj]
theorem take_eq_next {a b : List Int} {j : Nat} (h1 : j < a.length) (h2 : j < b.length) (H : a.take j = b.take j) (e : a[j] = b[j]) : a.take (j + 1) = b.take (j + 1) := by
  rw [List.take_succ_eq_append_getElem h1, List.take_succ_eq_append_getElem h2, H, e]
theorem take_eq_all {a b : List Int} {j : Nat} (h1 : ¬ (j : Int) < (a.length : Int)) (h2 : a.length = b.length) (H : a.take j = b.take j) : a = b := by
  rwa [List.take_of_length_le (by omega), List.take_of_length_le (by omega)] at H
theorem wsLt_at : ∀ {a b : List Int} {j : Nat} (h1 : j < a.length) (h2 : j < b.length), a.take j = b.take j → ¬ a[j] = b[j] → (wsLt a b ↔ a[j] < b[j])
  | x :: xs, y :: ys, 0, _, _, _, h => by simp at h; simp [wsLt, h]
  | x :: xs, y :: ys, j + 1, h1, h2, ht, h => by
    simp only [List.take_succ_cons, List.cons.injEq] at ht
    obtain ⟨rfl, ht⟩ := ht
    simp only [List.getElem_cons_succ] at h ⊢
    rw [← wsLt_at (by simpa using h1) (by simpa using h2) ht h]
    simp [wsLt]
def kf61 : KFunc := ⟨1, 13, [.tmp 2], .seq (.reg [⟨some 2, .mv (.c (.int .i64 0)), none⟩] []) (.seq (.seq (.reg [⟨some 3, .mv (.t 0), none⟩] []) (.block 0 (.seq (.reg [⟨some 5, .bin .eql (.t 3) (.c (.int .i64 5)), none⟩, ⟨some 4, .mv (.t 5), none⟩] []) (.cond (.t 4) (.seq (.reg [⟨some 2, .mv (.c (.int .i64 6)), none⟩] []) .ret) (.seq (.reg [⟨some 7, .bin .eql (.t 3) (.c (.int .i64 6)), none⟩, ⟨some 6, .mv (.t 7), none⟩] []) (.cond (.t 6) (.seq (.reg [⟨some 2, .mv (.c (.int .i64 5)), none⟩] []) .ret) (.seq (.reg [⟨some 9, .bin .eql (.t 3) (.c (.int .i64 7)), none⟩, ⟨some 8, .mv (.t 9), none⟩] []) (.cond (.t 8) (.seq (.reg [⟨some 2, .mv (.c (.int .i64 8)), none⟩] []) .ret) (.seq (.reg [⟨some 11, .bin .eql (.t 3) (.c (.int .i64 8)), none⟩, ⟨some 10, .mv (.t 11), none⟩] []) (.cond (.t 10) (.seq (.reg [⟨some 2, .mv (.c (.int .i64 7)), none⟩] []) .ret) .skip)))))))))) (.seq (.reg [⟨some 12, .mv (.t 0), none⟩, ⟨some 2, .mv (.t 12), none⟩] []) .ret))⟩
theorem k61 : tab Try.prog 61 = some kf61 := by kernel_rfl
def kf60 : KFunc := ⟨2, 60, [.tmp 4], .seq (.reg [⟨some 2, .box (.t 0), none⟩, ⟨some 4, .mv (.c (.int .i64 0)), none⟩] []) (.seq (.block 0 (.seq (.reg [⟨some 6, .fa (.t 2) 0, none⟩, ⟨some 7, .ld (.t 6) none, none⟩, ⟨some 8, .bin .eql (.t 7) (.c (.int .i64 3)), none⟩, ⟨some 9, .mv (.t 8), none⟩, ⟨some 10, .fa (.t 2) 0, some (9, false)⟩, ⟨some 11, .ld (.t 10) none, some (9, false)⟩, ⟨some 12, .bin .geq (.t 11) (.c (.int .i64 5)), some (9, false)⟩, ⟨some 13, .mv (.t 12), some (9, false)⟩, ⟨some 14, .fa (.t 2) 0, some (13, true)⟩, ⟨some 15, .ld (.t 14) none, some (13, true)⟩, ⟨some 16, .bin .leq (.t 15) (.c (.int .i64 8)), some (13, true)⟩, ⟨some 17, .pick (.t 13) (.t 16) (.c (.bool false)), some (9, false)⟩, ⟨some 18, .pick (.t 9) (.c (.bool true)) (.t 17), none⟩, ⟨some 19, .mv (.t 18), none⟩, ⟨some 20, .fa (.t 2) 0, some (19, false)⟩, ⟨some 21, .ld (.t 20) none, some (19, false)⟩, ⟨some 22, .bin .eql (.t 21) (.c (.int .i64 10)), some (19, false)⟩, ⟨some 23, .pick (.t 19) (.c (.bool true)) (.t 22), none⟩, ⟨some 24, .mv (.t 23), none⟩, ⟨some 25, .fa (.t 2) 0, some (24, false)⟩, ⟨some 26, .ld (.t 25) none, some (24, false)⟩, ⟨some 27, .bin .eql (.t 26) (.c (.int .i64 13)), some (24, false)⟩, ⟨some 28, .pick (.t 24) (.c (.bool true)) (.t 27), none⟩, ⟨some 5, .mv (.t 28), none⟩] []) (.cond (.t 5) (.seq (.reg [⟨some 4, .mv (.c (.int .i64 3)), none⟩] []) .ret) (.seq (.reg [⟨some 30, .fa (.t 2) 0, none⟩, ⟨some 31, .ld (.t 30) none, none⟩, ⟨some 32, .bin .eql (.t 31) (.c (.int .i64 1)), none⟩, ⟨some 29, .mv (.t 32), none⟩] []) (.cond (.t 29) (.seq (.reg [⟨some 4, .mv (.c (.int .i64 1)), none⟩] []) .ret) (.seq (.reg [⟨some 34, .fa (.t 2) 0, none⟩, ⟨some 35, .ld (.t 34) none, none⟩, ⟨some 36, .bin .eql (.t 35) (.c (.int .i64 2)), none⟩, ⟨some 33, .mv (.t 36), none⟩] []) (.cond (.t 33) (.seq (.reg [⟨some 4, .mv (.c (.int .i64 2)), none⟩] []) .ret) (.seq (.reg [⟨some 38, .fa (.t 2) 0, none⟩, ⟨some 39, .ld (.t 38) none, none⟩, ⟨some 40, .bin .eql (.t 39) (.c (.int .i64 4)), none⟩, ⟨some 37, .mv (.t 40), none⟩] []) (.cond (.t 37) (.seq (.reg [⟨some 4, .mv (.c (.int .i64 4)), none⟩] []) .ret) (.seq (.reg [⟨some 42, .fa (.t 2) 0, none⟩, ⟨some 43, .ld (.t 42) none, none⟩, ⟨some 44, .bin .eql (.t 43) (.c (.int .i64 9)), none⟩, ⟨some 45, .mv (.t 44), none⟩, ⟨some 46, .fa (.t 2) 0, some (45, false)⟩, ⟨some 47, .ld (.t 46) none, some (45, false)⟩, ⟨some 48, .bin .eql (.t 47) (.c (.int .i64 12)), some (45, false)⟩, ⟨some 49, .pick (.t 45) (.c (.bool true)) (.t 48), none⟩, ⟨some 41, .mv (.t 49), none⟩] []) (.cond (.t 41) (.seq (.seq (.reg [⟨some 50, .fa (.t 2) 1, none⟩, ⟨some 51, .ld (.t 50) none, none⟩, ⟨some 52, .fa (.t 2) 1, none⟩, ⟨some 53, .ld (.t 52) none, none⟩, ⟨some 54, .len (.t 53), none⟩, ⟨some 55, .bin .sub (.t 54) (.c (.int .i64 1)), none⟩, ⟨some 56, .iaS (.t 51) (.t 55) 1, none⟩, ⟨some 57, .ld (.t 56) none, none⟩, ⟨some 58, .mv (.t 1), none⟩, ⟨some 59, .bin .eql (.t 57) (.t 58), none⟩] []) (.cond (.t 59) (.seq (.reg [⟨some 4, .mv (.c (.int .i64 1)), none⟩] []) .ret) .skip)) (.seq (.reg [⟨some 4, .mv (.c (.int .i64 3)), none⟩] []) .ret)) .skip))))))))))) (.seq (.reg [⟨some 4, .mv (.c (.int .i64 0)), none⟩] []) .ret))⟩
theorem k60 : tab Try.prog 60 = some kf60 := by kernel_rfl
def kf58 : KFunc := ⟨2, 21, [.tmp 4], .seq (.reg [⟨some 2, .box (.t 0), none⟩, ⟨some 3, .box (.t 1), none⟩, ⟨some 4, .mv (.c (.bool false)), none⟩] []) (.seq (.reg [⟨some 5, .fa (.t 3) 1, none⟩, ⟨some 6, .ld (.t 5) none, none⟩, ⟨some 7, .fa (.t 2) 1, none⟩, ⟨some 8, .ld (.t 7) none, none⟩, ⟨some 9, .iaS (.t 8) (.c (.int .i64 0)) 1, none⟩, ⟨some 10, .ld (.t 9) none, none⟩, ⟨some 11, .call (.c (.func (.func 59) #[] #[])) [.t 6, .t 10], none⟩, ⟨some 12, .mv (.t 11), none⟩, ⟨some 13, .fa (.t 3) 1, some (12, true)⟩, ⟨some 14, .ld (.t 13) none, some (12, true)⟩, ⟨some 15, .fa (.t 2) 1, some (12, true)⟩, ⟨some 16, .ld (.t 15) none, some (12, true)⟩, ⟨some 17, .iaS (.t 16) (.c (.int .i64 1)) 1, some (12, true)⟩, ⟨some 18, .ld (.t 17) none, some (12, true)⟩, ⟨some 19, .call (.c (.func (.func 59) #[] #[])) [.t 14, .t 18], some (12, true)⟩, ⟨some 20, .pick (.t 12) (.t 19) (.c (.bool false)), none⟩, ⟨some 4, .mv (.t 20), none⟩] []) .ret)⟩
theorem k58 : tab Try.prog 58 = some kf58 := by kernel_rfl
def kf57 : KFunc := ⟨2, 39, [.tmp 4], .seq (.reg [⟨some 2, .box (.t 0), none⟩, ⟨some 3, .box (.t 1), none⟩, ⟨some 4, .mv (.c (.bool false)), none⟩] []) (.seq (.seq (.reg [⟨some 5, .fa (.t 2) 0, none⟩, ⟨some 6, .ld (.t 5) none, none⟩, ⟨some 7, .bin .eql (.t 6) (.c (.int .i64 13)), none⟩, ⟨some 8, .mv (.t 7), none⟩, ⟨some 9, .fa (.t 3) 3, some (8, true)⟩, ⟨some 10, .ld (.t 9) none, some (8, true)⟩, ⟨some 11, .fa (.t 2) 2, some (8, true)⟩, ⟨some 12, .ld (.t 11) none, some (8, true)⟩, ⟨some 13, .bin .add (.t 12) (.c (.int .i64 1)), some (8, true)⟩, ⟨some 14, .bin .eql (.t 10) (.t 13), some (8, true)⟩, ⟨some 15, .mv (.t 14), some (8, true)⟩, ⟨some 16, .fa (.t 3) 0, some (15, false)⟩, ⟨some 17, .ld (.t 16) none, some (15, false)⟩, ⟨some 18, .bin .eql (.t 17) (.c (.int .i64 13)), some (15, false)⟩, ⟨some 19, .mv (.t 18), some (15, false)⟩, ⟨some 20, .fa (.t 3) 2, some (19, true)⟩, ⟨some 21, .ld (.t 20) none, some (19, true)⟩, ⟨some 22, .fa (.t 2) 2, some (19, true)⟩, ⟨some 23, .ld (.t 22) none, some (19, true)⟩, ⟨some 24, .bin .eql (.t 21) (.t 23), some (19, true)⟩, ⟨some 25, .pick (.t 19) (.t 24) (.c (.bool false)), some (15, false)⟩, ⟨some 26, .pick (.t 15) (.c (.bool true)) (.t 25), some (8, true)⟩, ⟨some 27, .pick (.t 8) (.t 26) (.c (.bool false)), none⟩] []) (.cond (.t 27) (.seq (.reg [⟨some 4, .mv (.c (.bool true)), none⟩] []) .ret) .skip)) (.seq (.reg [⟨some 28, .fa (.t 3) 0, none⟩, ⟨some 29, .ld (.t 28) none, none⟩, ⟨some 30, .bin .eql (.t 29) (.c (.int .i64 13)), none⟩, ⟨some 31, .mv (.t 30), none⟩, ⟨some 32, .fa (.t 2) 3, some (31, true)⟩, ⟨some 33, .ld (.t 32) none, some (31, true)⟩, ⟨some 34, .fa (.t 3) 2, some (31, true)⟩, ⟨some 35, .ld (.t 34) none, some (31, true)⟩, ⟨some 36, .bin .add (.t 35) (.c (.int .i64 1)), some (31, true)⟩, ⟨some 37, .bin .eql (.t 33) (.t 36), some (31, true)⟩, ⟨some 38, .pick (.t 31) (.t 37) (.c (.bool false)), none⟩, ⟨some 4, .mv (.t 38), none⟩] []) .ret))⟩
theorem k57 : tab Try.prog 57 = some kf57 := by kernel_rfl
def kf56 : KFunc := ⟨2, 24, [.tmp 4], .seq (.reg [⟨some 2, .box (.t 0), none⟩, ⟨some 3, .box (.t 1), none⟩, ⟨some 4, .mv (.c (.bool false)), none⟩] []) (.seq (.seq (.reg [⟨some 5, .mv (.c (.int .i64 0)), none⟩] []) (.block 0 (.loop (.seq (.seq (.reg [⟨some 6, .mv (.t 5), none⟩, ⟨some 7, .fa (.t 2) 1, none⟩, ⟨some 8, .ld (.t 7) none, none⟩, ⟨some 9, .len (.t 8), none⟩, ⟨some 10, .bin .lss (.t 6) (.t 9), none⟩] []) (.cond (.t 10) .skip (.exit 0))) (.seq (.block 1 (.seq (.reg [⟨some 13, .fa (.t 3) 1, none⟩, ⟨some 14, .ld (.t 13) none, none⟩, ⟨some 15, .fa (.t 2) 1, none⟩, ⟨some 16, .ld (.t 15) none, none⟩, ⟨some 17, .mv (.t 5), none⟩, ⟨some 18, .iaS (.t 16) (.t 17) 1, none⟩, ⟨some 19, .ld (.t 18) none, none⟩, ⟨some 20, .call (.c (.func (.func 59) #[] #[])) [.t 14, .t 19], none⟩] []) (.cond (.t 20) (.seq (.reg [⟨some 4, .mv (.c (.bool true)), none⟩] []) .ret) .skip))) (.reg [⟨some 11, .mv (.t 5), none⟩, ⟨some 12, .bin .add (.t 11) (.c (.int .i64 1)), none⟩, ⟨some 5, .mv (.t 12), none⟩] [])))))) (.seq (.reg [⟨some 21, .ld (.t 2) (some 4), none⟩, ⟨some 22, .ld (.t 3) (some 4), none⟩, ⟨some 23, .call (.c (.func (.func 57) #[] #[])) [.t 21, .t 22], none⟩, ⟨some 4, .mv (.t 23), none⟩] []) .ret))⟩
theorem k56 : tab Try.prog 56 = some kf56 := by kernel_rfl
def kf62 : KFunc := ⟨2, 52, [.tmp 4], .seq (.reg [⟨some 2, .box (.t 0), none⟩, ⟨some 3, .box (.t 1), none⟩, ⟨some 4, .mv (.c (.bool false)), none⟩] []) (.seq (.seq (.reg [⟨some 6, .fa (.t 2) 0, none⟩, ⟨some 7, .ld (.t 6) none, none⟩, ⟨some 8, .fa (.t 3) 0, none⟩, ⟨some 9, .ld (.t 8) none, none⟩, ⟨some 10, .bin .neq (.t 7) (.t 9), none⟩, ⟨some 11, .mv (.t 10), none⟩, ⟨some 12, .fa (.t 2) 2, some (11, false)⟩, ⟨some 13, .ld (.t 12) none, some (11, false)⟩, ⟨some 14, .fa (.t 3) 2, some (11, false)⟩, ⟨some 15, .ld (.t 14) none, some (11, false)⟩, ⟨some 16, .bin .neq (.t 13) (.t 15), some (11, false)⟩, ⟨some 17, .pick (.t 11) (.c (.bool true)) (.t 16), none⟩, ⟨some 18, .mv (.t 17), none⟩, ⟨some 19, .fa (.t 2) 3, some (18, false)⟩, ⟨some 20, .ld (.t 19) none, some (18, false)⟩, ⟨some 21, .fa (.t 3) 3, some (18, false)⟩, ⟨some 22, .ld (.t 21) none, some (18, false)⟩, ⟨some 23, .bin .neq (.t 20) (.t 22), some (18, false)⟩, ⟨some 24, .pick (.t 18) (.c (.bool true)) (.t 23), none⟩, ⟨some 25, .mv (.t 24), none⟩, ⟨some 26, .fa (.t 2) 1, some (25, false)⟩, ⟨some 27, .ld (.t 26) none, some (25, false)⟩, ⟨some 28, .len (.t 27), some (25, false)⟩, ⟨some 29, .fa (.t 3) 1, some (25, false)⟩, ⟨some 30, .ld (.t 29) none, some (25, false)⟩, ⟨some 31, .len (.t 30), some (25, false)⟩, ⟨some 32, .bin .neq (.t 28) (.t 31), some (25, false)⟩, ⟨some 33, .pick (.t 25) (.c (.bool true)) (.t 32), none⟩] []) (.cond (.t 33) (.seq (.reg [⟨some 4, .mv (.c (.bool false)), none⟩] []) .ret) .skip)) (.seq (.seq (.reg [⟨some 5, .mv (.c (.int .i64 0)), none⟩] []) (.block 0 (.loop (.seq (.seq (.reg [⟨some 34, .mv (.t 5), none⟩, ⟨some 35, .fa (.t 2) 1, none⟩, ⟨some 36, .ld (.t 35) none, none⟩, ⟨some 37, .len (.t 36), none⟩, ⟨some 38, .bin .lss (.t 34) (.t 37), none⟩] []) (.cond (.t 38) .skip (.exit 0))) (.seq (.block 1 (.seq (.reg [⟨some 41, .fa (.t 2) 1, none⟩, ⟨some 42, .ld (.t 41) none, none⟩, ⟨some 43, .mv (.t 5), none⟩, ⟨some 44, .iaS (.t 42) (.t 43) 1, none⟩, ⟨some 45, .ld (.t 44) none, none⟩, ⟨some 46, .fa (.t 3) 1, none⟩, ⟨some 47, .ld (.t 46) none, none⟩, ⟨some 48, .mv (.t 5), none⟩, ⟨some 49, .iaS (.t 47) (.t 48) 1, none⟩, ⟨some 50, .ld (.t 49) none, none⟩, ⟨some 51, .bin .neq (.t 45) (.t 50), none⟩] []) (.cond (.t 51) (.seq (.reg [⟨some 4, .mv (.c (.bool false)), none⟩] []) .ret) .skip))) (.reg [⟨some 39, .mv (.t 5), none⟩, ⟨some 40, .bin .add (.t 39) (.c (.int .i64 1)), none⟩, ⟨some 5, .mv (.t 40), none⟩] [])))))) (.seq (.reg [⟨some 4, .mv (.c (.bool true)), none⟩] []) .ret)))⟩
theorem k62 : tab Try.prog 62 = some kf62 := by kernel_rfl
theorem opp_ret (H : Heap) (n : Int) : Ret (tab Try.prog) 61 [.int .i64 n] H (.int .i64 (oppM n)) H := by
  refine Ret_own k61 rfl ?_
  refine AX_seq (AX_E (E_mv (v := .int .i64 (0)) rfl (E_nil (AX_seq (AX_seq (AX_E (E_mv (v := .int .i64 (n)) rfl (E_nil (AX_block (AX_seq (AX_E (E_eqlS rfl rfl (fun c5 => ?_) (fun c5 => ?_)))))))))))))
  · refine E_mv (v := .bool _) rfl (E_nil (AX_condT rfl (AX_seq (AX_E (E_mv (v := .int .i64 (6)) rfl (E_nil (AX_ret ?_)))))))
    refine ⟨_, rfl, by simp, ?_, forget_flat rfl (List.prefix_append _ _)⟩
    refine congrArg (Value.int _) ?_
    unfold oppM
    (repeat' split) <;> omega
  · refine E_mv (v := .bool _) rfl (E_nil (AX_condF rfl (AX_seq (AX_E (E_eqlS rfl rfl (fun c7 => ?_) (fun c7 => ?_))))))
    · refine E_mv (v := .bool _) rfl (E_nil (AX_condT rfl (AX_seq (AX_E (E_mv (v := .int .i64 (5)) rfl (E_nil (AX_ret ?_)))))))
      refine ⟨_, rfl, by simp, ?_, forget_flat rfl (List.prefix_append _ _)⟩
      refine congrArg (Value.int _) ?_
      unfold oppM
      (repeat' split) <;> omega
    · refine E_mv (v := .bool _) rfl (E_nil (AX_condF rfl (AX_seq (AX_E (E_eqlS rfl rfl (fun c9 => ?_) (fun c9 => ?_))))))
      · refine E_mv (v := .bool _) rfl (E_nil (AX_condT rfl (AX_seq (AX_E (E_mv (v := .int .i64 (8)) rfl (E_nil (AX_ret ?_)))))))
        refine ⟨_, rfl, by simp, ?_, forget_flat rfl (List.prefix_append _ _)⟩
        refine congrArg (Value.int _) ?_
        unfold oppM
        (repeat' split) <;> omega
      · refine E_mv (v := .bool _) rfl (E_nil (AX_condF rfl (AX_seq (AX_E (E_eqlS rfl rfl (fun c11 => ?_) (fun c11 => ?_))))))
        · refine E_mv (v := .bool _) rfl (E_nil (AX_condT rfl (AX_seq (AX_E (E_mv (v := .int .i64 (7)) rfl (E_nil (AX_ret ?_)))))))
          refine ⟨_, rfl, by simp, ?_, forget_flat rfl (List.prefix_append _ _)⟩
          refine congrArg (Value.int _) ?_
          unfold oppM
          (repeat' split) <;> omega
        · refine E_mv (v := .bool _) rfl (E_nil (AX_condF rfl (AX_skip (AX_seq (AX_E (E_mv (v := .int .i64 (n)) rfl (E_mv (v := .int .i64 (n)) rfl (E_nil (AX_ret ?_)))))))))
          refine ⟨_, rfl, by simp, ?_, forget_flat rfl (List.prefix_append _ _)⟩
          refine congrArg (Value.int _) ?_
          unfold oppM
          (repeat' split) <;> omega
theorem axis_ret (H : Heap) (g : G) (p : Pl) (n : Int) {S : Nat → Prop} (hv : Ints S H p g.ws) (hg : GR g) : Ret (tab Try.prog) 60 [gv g p, .int .i64 n] H (.int .i64 (axisM g n)) H := by
  have hl := hg.len
  have el := getD_at (l := g.ws) (j := g.ws.length - 1) (by omega)
  refine Ret_own k60 rfl ?_
  refine AX_seq (AX_E (E_boxA rfl (E_mv (v := .int .i64 (0)) rfl (E_nil (AX_seq (AX_block (AX_seq (AX_E (E_fa rfl (E_ldO (k := 0) (v := .int .i64 (g.k)) rfl rfl (E_eqlS rfl rfl (fun c8 => ?_) (fun c8 => ?_))))))))))))
  · refine E_mv (v := .bool _) rfl (E_notF rfl (E_notF rfl (E_notF rfl (E_notF rfl (E_notU rfl (E_notU rfl (E_notU rfl (E_notF rfl (E_pickT rfl (v := .bool _) rfl (E_mv (v := .bool _) rfl (E_notF rfl (E_notF rfl (E_notF rfl (E_pickT rfl (v := .bool _) rfl (E_mv (v := .bool _) rfl (E_notF rfl (E_notF rfl (E_notF rfl (E_pickT rfl (v := .bool _) rfl (E_mv (v := .bool _) rfl (E_nil (AX_condT rfl (AX_seq (AX_E (E_mv (v := .int .i64 (3)) rfl (E_nil (AX_ret ?_)))))))))))))))))))))))))))
    refine ⟨_, rfl, by simp, ?_, forget_flat rfl (List.prefix_append _ _)⟩
    -- r1
    refine congrArg (Value.int _) ?_
    unfold axisM
    (repeat' split) <;> omega
  · refine E_mv (v := .bool _) rfl (E_on rfl (E_fa rfl (E_on rfl (E_ldO (k := 0) (v := .int .i64 (g.k)) rfl rfl (E_on rfl (E_geqS rfl rfl (fun c12 => ?_) (fun c12 => ?_)))))))
    · refine E_on rfl (E_mv (v := .bool _) rfl (E_on rfl (E_fa rfl (E_on rfl (E_ldO (k := 0) (v := .int .i64 (g.k)) rfl rfl (E_on rfl (E_leqS rfl rfl (fun c16 => ?_) (fun c16 => ?_))))))))
      · refine E_on rfl (E_pickT rfl (v := .bool _) rfl (E_pickF rfl (v := .bool _) rfl (E_mv (v := .bool _) rfl (E_notF rfl (E_notF rfl (E_notF rfl (E_pickT rfl (v := .bool _) rfl (E_mv (v := .bool _) rfl (E_notF rfl (E_notF rfl (E_notF rfl (E_pickT rfl (v := .bool _) rfl (E_mv (v := .bool _) rfl (E_nil (AX_condT rfl (AX_seq (AX_E (E_mv (v := .int .i64 (3)) rfl (E_nil (AX_ret ?_))))))))))))))))))))
        refine ⟨_, rfl, by simp, ?_, forget_flat rfl (List.prefix_append _ _)⟩
        -- r2
        refine congrArg (Value.int _) ?_
        unfold axisM
        (repeat' split) <;> omega
      · refine E_on rfl (E_pickT rfl (v := .bool _) rfl (E_pickF rfl (v := .bool _) rfl (E_mv (v := .bool _) rfl (E_on rfl (E_fa rfl (E_on rfl (E_ldO (k := 0) (v := .int .i64 (g.k)) rfl rfl (E_on rfl (E_eqlS rfl rfl (fun c22 => ?_) (fun c22 => ?_))))))))))
        · refine E_pickF rfl (v := .bool _) rfl (E_mv (v := .bool _) rfl (E_notF rfl (E_notF rfl (E_notF rfl (E_pickT rfl (v := .bool _) rfl (E_mv (v := .bool _) rfl (E_nil (AX_condT rfl (AX_seq (AX_E (E_mv (v := .int .i64 (3)) rfl (E_nil (AX_ret ?_)))))))))))))
          refine ⟨_, rfl, by simp, ?_, forget_flat rfl (List.prefix_append _ _)⟩
          -- r3
          refine congrArg (Value.int _) ?_
          unfold axisM
          (repeat' split) <;> omega
        · refine E_pickF rfl (v := .bool _) rfl (E_mv (v := .bool _) rfl (E_on rfl (E_fa rfl (E_on rfl (E_ldO (k := 0) (v := .int .i64 (g.k)) rfl rfl (E_on rfl (E_eqlS rfl rfl (fun c27 => ?_) (fun c27 => ?_))))))))
          · refine E_pickF rfl (v := .bool _) rfl (E_mv (v := .bool _) rfl (E_nil (AX_condT rfl (AX_seq (AX_E (E_mv (v := .int .i64 (3)) rfl (E_nil (AX_ret ?_))))))))
            refine ⟨_, rfl, by simp, ?_, forget_flat rfl (List.prefix_append _ _)⟩
            -- r4
            refine congrArg (Value.int _) ?_
            unfold axisM
            (repeat' split) <;> omega
          · refine E_pickF rfl (v := .bool _) rfl (E_mv (v := .bool _) rfl (E_nil (AX_condF rfl (AX_seq (AX_E (E_fa rfl (E_ldO (k := 0) (v := .int .i64 (g.k)) rfl rfl (E_eqlS rfl rfl (fun c32 => ?_) (fun c32 => ?_)))))))))
            · refine E_mv (v := .bool _) rfl (E_nil (AX_condT rfl (AX_seq (AX_E (E_mv (v := .int .i64 (1)) rfl (E_nil (AX_ret ?_)))))))
              refine ⟨_, rfl, by simp, ?_, forget_flat rfl (List.prefix_append _ _)⟩
              -- r5
              refine congrArg (Value.int _) ?_
              unfold axisM
              (repeat' split) <;> omega
            · refine E_mv (v := .bool _) rfl (E_nil (AX_condF rfl (AX_seq (AX_E (E_fa rfl (E_ldO (k := 0) (v := .int .i64 (g.k)) rfl rfl (E_eqlS rfl rfl (fun c36 => ?_) (fun c36 => ?_))))))))
              · refine E_mv (v := .bool _) rfl (E_nil (AX_condT rfl (AX_seq (AX_E (E_mv (v := .int .i64 (2)) rfl (E_nil (AX_ret ?_)))))))
                refine ⟨_, rfl, by simp, ?_, forget_flat rfl (List.prefix_append _ _)⟩
                -- r6
                refine congrArg (Value.int _) ?_
                unfold axisM
                (repeat' split) <;> omega
              · refine E_mv (v := .bool _) rfl (E_nil (AX_condF rfl (AX_seq (AX_E (E_fa rfl (E_ldO (k := 0) (v := .int .i64 (g.k)) rfl rfl (E_eqlS rfl rfl (fun c40 => ?_) (fun c40 => ?_))))))))
                · refine E_mv (v := .bool _) rfl (E_nil (AX_condT rfl (AX_seq (AX_E (E_mv (v := .int .i64 (4)) rfl (E_nil (AX_ret ?_)))))))
                  refine ⟨_, rfl, by simp, ?_, forget_flat rfl (List.prefix_append _ _)⟩
                  -- r7
                  refine congrArg (Value.int _) ?_
                  unfold axisM
                  (repeat' split) <;> omega
                · refine E_mv (v := .bool _) rfl (E_nil (AX_condF rfl (AX_seq (AX_E (E_fa rfl (E_ldO (k := 0) (v := .int .i64 (g.k)) rfl rfl (E_eqlS rfl rfl (fun c44 => ?_) (fun c44 => ?_))))))))
                  · refine E_mv (v := .bool _) rfl (E_notF rfl (E_notF rfl (E_notF rfl (E_pickT rfl (v := .bool _) rfl (E_mv (v := .bool _) rfl (E_nil (AX_condT rfl (AX_seq (AX_seq (AX_E (E_fa rfl (E_ldO (k := 0) (v := .slice _ _ _) rfl rfl (E_fa rfl (E_ldO (k := 0) (v := .slice _ _ _) rfl rfl (E_len (n := (g.ws).length) rfl (E_subI rfl rfl (by first | omega | (simp; done) | (simp; omega)) (by first | omega | (simp; done) | (simp; omega)) (have ix1 : g.ws.length - 1 < (g.ws).length := (by first | omega | (simp; done) | (simp; omega)); E_iaIb (j := g.ws.length - 1) rfl hv rfl rfl (by first | rfl | omega) ix1 fun b1 o1 w1 => (E_ldB (v := .int .i64 (g.ws[g.ws.length - 1]'ix1)) rfl w1 (E_mv (v := .int .i64 (n)) rfl (E_eqlS rfl rfl (fun c59 => ?_) (fun c59 => ?_)))))))))))))))))))))
                    · refine E_nil (AX_condT rfl (AX_seq (AX_E (E_mv (v := .int .i64 (1)) rfl (E_nil (AX_ret ?_))))))
                      refine ⟨_, rfl, by simp, ?_, forget_flat rfl (List.prefix_append _ _)⟩
                      -- r8
                      refine congrArg (Value.int _) ?_
                      unfold axisM
                      (repeat' split) <;> omega
                    · refine E_nil (AX_condF rfl (AX_skip (AX_seq (AX_E (E_mv (v := .int .i64 (3)) rfl (E_nil (AX_ret ?_)))))))
                      refine ⟨_, rfl, by simp, ?_, forget_flat rfl (List.prefix_append _ _)⟩
                      -- r9
                      refine congrArg (Value.int _) ?_
                      unfold axisM
                      (repeat' split) <;> omega
                  · refine E_mv (v := .bool _) rfl (E_on rfl (E_fa rfl (E_on rfl (E_ldO (k := 0) (v := .int .i64 (g.k)) rfl rfl (E_on rfl (E_eqlS rfl rfl (fun c48 => ?_) (fun c48 => ?_)))))))
                    · refine E_pickF rfl (v := .bool _) rfl (E_mv (v := .bool _) rfl (E_nil (AX_condT rfl (AX_seq (AX_seq (AX_E (E_fa rfl (E_ldO (k := 0) (v := .slice _ _ _) rfl rfl (E_fa rfl (E_ldO (k := 0) (v := .slice _ _ _) rfl rfl (E_len (n := (g.ws).length) rfl (E_subI rfl rfl (by first | omega | (simp; done) | (simp; omega)) (by first | omega | (simp; done) | (simp; omega)) (have ix2 : g.ws.length - 1 < (g.ws).length := (by first | omega | (simp; done) | (simp; omega)); E_iaIb (j := g.ws.length - 1) rfl hv rfl rfl (by first | rfl | omega) ix2 fun b2 o2 w2 => (E_ldB (v := .int .i64 (g.ws[g.ws.length - 1]'ix2)) rfl w2 (E_mv (v := .int .i64 (n)) rfl (E_eqlS rfl rfl (fun c59 => ?_) (fun c59 => ?_)))))))))))))))))
                      · refine E_nil (AX_condT rfl (AX_seq (AX_E (E_mv (v := .int .i64 (1)) rfl (E_nil (AX_ret ?_))))))
                        refine ⟨_, rfl, by simp, ?_, forget_flat rfl (List.prefix_append _ _)⟩
                        -- r10
                        refine congrArg (Value.int _) ?_
                        unfold axisM
                        (repeat' split) <;> omega
                      · refine E_nil (AX_condF rfl (AX_skip (AX_seq (AX_E (E_mv (v := .int .i64 (3)) rfl (E_nil (AX_ret ?_)))))))
                        refine ⟨_, rfl, by simp, ?_, forget_flat rfl (List.prefix_append _ _)⟩
                        -- r11
                        refine congrArg (Value.int _) ?_
                        unfold axisM
                        (repeat' split) <;> omega
                    · refine E_pickF rfl (v := .bool _) rfl (E_mv (v := .bool _) rfl (E_nil (AX_condF rfl (AX_skip (AX_seq (AX_E (E_mv (v := .int .i64 (0)) rfl (E_nil (AX_ret ?_)))))))))
                      refine ⟨_, rfl, by simp, ?_, forget_flat rfl (List.prefix_append _ _)⟩
                      -- r12
                      refine congrArg (Value.int _) ?_
                      unfold axisM
                      (repeat' split) <;> omega
    · refine E_on rfl (E_mv (v := .bool _) rfl (E_notT rfl (E_notT rfl (E_notT rfl (E_on rfl (E_pickF rfl (v := .bool _) rfl (E_pickF rfl (v := .bool _) rfl (E_mv (v := .bool _) rfl (E_on rfl (E_fa rfl (E_on rfl (E_ldO (k := 0) (v := .int .i64 (g.k)) rfl rfl (E_on rfl (E_eqlS rfl rfl (fun c22 => ?_) (fun c22 => ?_)))))))))))))))
      · refine E_pickF rfl (v := .bool _) rfl (E_mv (v := .bool _) rfl (E_notF rfl (E_notF rfl (E_notF rfl (E_pickT rfl (v := .bool _) rfl (E_mv (v := .bool _) rfl (E_nil (AX_condT rfl (AX_seq (AX_E (E_mv (v := .int .i64 (3)) rfl (E_nil (AX_ret ?_)))))))))))))
        refine ⟨_, rfl, by simp, ?_, forget_flat rfl (List.prefix_append _ _)⟩
        -- r13
        refine congrArg (Value.int _) ?_
        unfold axisM
        (repeat' split) <;> omega
      · refine E_pickF rfl (v := .bool _) rfl (E_mv (v := .bool _) rfl (E_on rfl (E_fa rfl (E_on rfl (E_ldO (k := 0) (v := .int .i64 (g.k)) rfl rfl (E_on rfl (E_eqlS rfl rfl (fun c27 => ?_) (fun c27 => ?_))))))))
        · refine E_pickF rfl (v := .bool _) rfl (E_mv (v := .bool _) rfl (E_nil (AX_condT rfl (AX_seq (AX_E (E_mv (v := .int .i64 (3)) rfl (E_nil (AX_ret ?_))))))))
          refine ⟨_, rfl, by simp, ?_, forget_flat rfl (List.prefix_append _ _)⟩
          -- r14
          refine congrArg (Value.int _) ?_
          unfold axisM
          (repeat' split) <;> omega
        · refine E_pickF rfl (v := .bool _) rfl (E_mv (v := .bool _) rfl (E_nil (AX_condF rfl (AX_seq (AX_E (E_fa rfl (E_ldO (k := 0) (v := .int .i64 (g.k)) rfl rfl (E_eqlS rfl rfl (fun c32 => ?_) (fun c32 => ?_)))))))))
          · refine E_mv (v := .bool _) rfl (E_nil (AX_condT rfl (AX_seq (AX_E (E_mv (v := .int .i64 (1)) rfl (E_nil (AX_ret ?_)))))))
            refine ⟨_, rfl, by simp, ?_, forget_flat rfl (List.prefix_append _ _)⟩
            -- r15
            refine congrArg (Value.int _) ?_
            unfold axisM
            (repeat' split) <;> omega
          · refine E_mv (v := .bool _) rfl (E_nil (AX_condF rfl (AX_seq (AX_E (E_fa rfl (E_ldO (k := 0) (v := .int .i64 (g.k)) rfl rfl (E_eqlS rfl rfl (fun c36 => ?_) (fun c36 => ?_))))))))
            · refine E_mv (v := .bool _) rfl (E_nil (AX_condT rfl (AX_seq (AX_E (E_mv (v := .int .i64 (2)) rfl (E_nil (AX_ret ?_)))))))
              refine ⟨_, rfl, by simp, ?_, forget_flat rfl (List.prefix_append _ _)⟩
              -- r16
              refine congrArg (Value.int _) ?_
              unfold axisM
              (repeat' split) <;> omega
            · refine E_mv (v := .bool _) rfl (E_nil (AX_condF rfl (AX_seq (AX_E (E_fa rfl (E_ldO (k := 0) (v := .int .i64 (g.k)) rfl rfl (E_eqlS rfl rfl (fun c40 => ?_) (fun c40 => ?_))))))))
              · refine E_mv (v := .bool _) rfl (E_nil (AX_condT rfl (AX_seq (AX_E (E_mv (v := .int .i64 (4)) rfl (E_nil (AX_ret ?_)))))))
                refine ⟨_, rfl, by simp, ?_, forget_flat rfl (List.prefix_append _ _)⟩
                -- r17
                refine congrArg (Value.int _) ?_
                unfold axisM
                (repeat' split) <;> omega
              · refine E_mv (v := .bool _) rfl (E_nil (AX_condF rfl (AX_seq (AX_E (E_fa rfl (E_ldO (k := 0) (v := .int .i64 (g.k)) rfl rfl (E_eqlS rfl rfl (fun c44 => ?_) (fun c44 => ?_))))))))
                · refine E_mv (v := .bool _) rfl (E_notF rfl (E_notF rfl (E_notF rfl (E_pickT rfl (v := .bool _) rfl (E_mv (v := .bool _) rfl (E_nil (AX_condT rfl (AX_seq (AX_seq (AX_E (E_fa rfl (E_ldO (k := 0) (v := .slice _ _ _) rfl rfl (E_fa rfl (E_ldO (k := 0) (v := .slice _ _ _) rfl rfl (E_len (n := (g.ws).length) rfl (E_subI rfl rfl (by first | omega | (simp; done) | (simp; omega)) (by first | omega | (simp; done) | (simp; omega)) (have ix3 : g.ws.length - 1 < (g.ws).length := (by first | omega | (simp; done) | (simp; omega)); E_iaIb (j := g.ws.length - 1) rfl hv rfl rfl (by first | rfl | omega) ix3 fun b3 o3 w3 => (E_ldB (v := .int .i64 (g.ws[g.ws.length - 1]'ix3)) rfl w3 (E_mv (v := .int .i64 (n)) rfl (E_eqlS rfl rfl (fun c59 => ?_) (fun c59 => ?_)))))))))))))))))))))
                  · refine E_nil (AX_condT rfl (AX_seq (AX_E (E_mv (v := .int .i64 (1)) rfl (E_nil (AX_ret ?_))))))
                    refine ⟨_, rfl, by simp, ?_, forget_flat rfl (List.prefix_append _ _)⟩
                    -- r18
                    refine congrArg (Value.int _) ?_
                    unfold axisM
                    (repeat' split) <;> omega
                  · refine E_nil (AX_condF rfl (AX_skip (AX_seq (AX_E (E_mv (v := .int .i64 (3)) rfl (E_nil (AX_ret ?_)))))))
                    refine ⟨_, rfl, by simp, ?_, forget_flat rfl (List.prefix_append _ _)⟩
                    -- r19
                    refine congrArg (Value.int _) ?_
                    unfold axisM
                    (repeat' split) <;> omega
                · refine E_mv (v := .bool _) rfl (E_on rfl (E_fa rfl (E_on rfl (E_ldO (k := 0) (v := .int .i64 (g.k)) rfl rfl (E_on rfl (E_eqlS rfl rfl (fun c48 => ?_) (fun c48 => ?_)))))))
                  · refine E_pickF rfl (v := .bool _) rfl (E_mv (v := .bool _) rfl (E_nil (AX_condT rfl (AX_seq (AX_seq (AX_E (E_fa rfl (E_ldO (k := 0) (v := .slice _ _ _) rfl rfl (E_fa rfl (E_ldO (k := 0) (v := .slice _ _ _) rfl rfl (E_len (n := (g.ws).length) rfl (E_subI rfl rfl (by first | omega | (simp; done) | (simp; omega)) (by first | omega | (simp; done) | (simp; omega)) (have ix4 : g.ws.length - 1 < (g.ws).length := (by first | omega | (simp; done) | (simp; omega)); E_iaIb (j := g.ws.length - 1) rfl hv rfl rfl (by first | rfl | omega) ix4 fun b4 o4 w4 => (E_ldB (v := .int .i64 (g.ws[g.ws.length - 1]'ix4)) rfl w4 (E_mv (v := .int .i64 (n)) rfl (E_eqlS rfl rfl (fun c59 => ?_) (fun c59 => ?_)))))))))))))))))
                    · refine E_nil (AX_condT rfl (AX_seq (AX_E (E_mv (v := .int .i64 (1)) rfl (E_nil (AX_ret ?_))))))
                      refine ⟨_, rfl, by simp, ?_, forget_flat rfl (List.prefix_append _ _)⟩
                      -- r20
                      refine congrArg (Value.int _) ?_
                      unfold axisM
                      (repeat' split) <;> omega
                    · refine E_nil (AX_condF rfl (AX_skip (AX_seq (AX_E (E_mv (v := .int .i64 (3)) rfl (E_nil (AX_ret ?_)))))))
                      refine ⟨_, rfl, by simp, ?_, forget_flat rfl (List.prefix_append _ _)⟩
                      -- r21
                      refine congrArg (Value.int _) ?_
                      unfold axisM
                      (repeat' split) <;> omega
                  · refine E_pickF rfl (v := .bool _) rfl (E_mv (v := .bool _) rfl (E_nil (AX_condF rfl (AX_skip (AX_seq (AX_E (E_mv (v := .int .i64 (0)) rfl (E_nil (AX_ret ?_)))))))))
                    refine ⟨_, rfl, by simp, ?_, forget_flat rfl (List.prefix_append _ _)⟩
                    -- r22
                    refine congrArg (Value.int _) ?_
                    unfold axisM
                    (repeat' split) <;> omega
theorem alike_ret (H : Heap) (g h : G) (p q : Pl) {S S' : Nat → Prop} (hv : Ints S H p g.ws) (hu : Ints S' H q h.ws) (hg : 2 ≤ g.ws.length) (hh : h.ws.length ≤ 3) : Ret (tab Try.prog) 58 [gv g p, gv h q] H (.bool (decide (alikeM g h))) H := by
  have e0 := getD_at (l := g.ws) (j := 0) (by omega)
  have e1 := getD_at (l := g.ws) (j := 1) (by omega)
  refine Ret_own k58 rfl ?_
  refine AX_seq (AX_E (E_boxA rfl (E_boxA rfl (E_mv (v := .bool _) rfl (E_nil (AX_seq (AX_E (E_fa rfl (E_ldO (k := 1) (v := .slice _ _ _) rfl rfl (E_fa rfl (E_ldO (k := 0) (v := .slice _ _ _) rfl rfl (have ix1 : 0 < (g.ws).length := (by first | omega | (simp; done) | (simp; omega)); E_iaIb (j := 0) rfl hv rfl rfl rfl ix1 fun b1 o1 w1 => (E_ldB (v := .int .i64 (g.ws[0]'ix1)) rfl w1 (E_callP rfl (has_ret _ _ _ _ hu.app (by first | omega | (simp; done) | (simp; omega))) (fun c11 => ?_) (fun c11 => ?_)))))))))))))))
  · refine E_mv (v := .bool _) rfl (E_on rfl (E_fa rfl (E_on rfl (E_ldO (k := 1) (v := .slice _ _ _) rfl rfl (E_on rfl (E_fa rfl (E_on rfl (E_ldO (k := 0) (v := .slice _ _ _) rfl rfl (E_on rfl (have ix2 : 1 < (g.ws).length := (by first | omega | (simp; done) | (simp; omega)); E_iaIb (j := 1) rfl hv rfl rfl rfl ix2 fun b2 o2 w2 => (E_on rfl (E_ldB (v := .int .i64 (g.ws[1]'ix2)) rfl w2 (E_on rfl (E_callP rfl (has_ret _ _ _ _ hu.app (by first | omega | (simp; done) | (simp; omega))) (fun c19 => ?_) (fun c19 => ?_)))))))))))))))
    · refine E_pickT rfl (v := .bool _) rfl (E_mv (v := .bool _) rfl (E_nil (AX_ret ?_)))
      refine ⟨_, rfl, by simp, ?_, forget_flat rfl (List.prefix_append _ _)⟩
      refine congrArg (Value.bool) ?_
      refine (decide_eq_true ?_).symm
      rw [alikeM, ← e0, ← e1]
      clear e0 e1
      simp [*]
    · refine E_pickT rfl (v := .bool _) rfl (E_mv (v := .bool _) rfl (E_nil (AX_ret ?_)))
      refine ⟨_, rfl, by simp, ?_, forget_flat rfl (List.prefix_append _ _)⟩
      refine congrArg (Value.bool) ?_
      refine (decide_eq_false ?_).symm
      rw [alikeM, ← e0, ← e1]
      clear e0 e1
      simp [*]
  · refine E_mv (v := .bool _) rfl (E_notT rfl (E_notT rfl (E_notT rfl (E_notT rfl (E_notT rfl (E_notT rfl (E_notT rfl (E_pickF rfl (v := .bool _) rfl (E_mv (v := .bool _) rfl (E_nil (AX_ret ?_)))))))))))
    refine ⟨_, rfl, by simp, ?_, forget_flat rfl (List.prefix_append _ _)⟩
    refine congrArg (Value.bool) ?_
    refine (decide_eq_false ?_).symm
    rw [alikeM, ← e0, ← e1]
    clear e0 e1
    simp [*]
theorem touch_ret (H : Heap) (g h : G) (p q : Pl) (hg : GR g) (hh : GR h) : Ret (tab Try.prog) 57 [gv g p, gv h q] H (.bool (decide (touchM g h))) H := by
  have b1 := hg.b0
  have b2 := hh.b0
  refine Ret_own k57 rfl ?_
  refine AX_seq (AX_E (E_boxA rfl (E_boxA rfl (E_mv (v := .bool _) rfl (E_nil ?_)))))
  refine AX_cut (X := Unit) (fun _ => [(2, .pointer (some ⟨(H).length + 0, 0, none⟩)), (3, .pointer (some ⟨(H).length + 1, 0, none⟩))]) (fun _ h_ m_ => h_ = H ++ [CO.row [.int .i64 (g.k), .slice (p).1 (g.ws).length (p).2, .int .i64 (g.b), .int .i64 (g.f)] true none, CO.row [.int .i64 (h.k), .slice (q).1 (h.ws).length (q).2, .int .i64 (h.b), .int .i64 (h.f)] true none] ∧ m_ = [] ∧ ¬ (g.k = 13 ∧ (h.f = g.b + 1 ∨ h.k = 13 ∧ h.b = g.b))) ?_ ?_
  · intro Kc27 hNc27 hRc27 hEc27
    refine AX_seq (AX_E (E_fa rfl (E_ldO (k := 0) (v := .int .i64 (g.k)) rfl rfl (E_eqlS rfl rfl (fun c7 => ?_) (fun c7 => ?_)))))
    · refine E_mv (v := .bool _) rfl (E_on rfl (E_fa rfl (E_on rfl (E_ldO (k := 1) (v := .int .i64 (h.f)) rfl rfl (E_on rfl (E_fa rfl (E_on rfl (E_ldO (k := 0) (v := .int .i64 (g.b)) rfl rfl (E_on rfl (E_addI rfl rfl (by first | omega | (simp; done) | (simp; omega)) (by first | omega | (simp; done) | (simp; omega)) (E_on rfl (E_eqlS rfl rfl (fun c14 => ?_) (fun c14 => ?_)))))))))))))
      · refine E_on rfl (E_mv (v := .bool _) rfl (E_notF rfl (E_notF rfl (E_notF rfl (E_notF rfl (E_notU rfl (E_notU rfl (E_notU rfl (E_notU rfl (E_notU rfl (E_notF rfl (E_on rfl (E_pickT rfl (v := .bool _) rfl (E_pickT rfl (v := .bool _) rfl (E_nil (AX_condT rfl (AX_seq (AX_E (E_mv (v := .bool _) rfl (E_nil (AX_ret (hRc27 _ _ _ ?_))))))))))))))))))))))
        refine ⟨_, rfl, by simp, ?_, forget_flat rfl (List.prefix_append _ _)⟩
        -- r1
        clear hNc27 hRc27 hEc27
        refine congrArg (Value.bool) ?_
        refine (decide_eq_true ?_).symm
        unfold touchM
        omega
      · refine E_on rfl (E_mv (v := .bool _) rfl (E_on rfl (E_fa rfl (E_on rfl (E_ldO (k := 1) (v := .int .i64 (h.k)) rfl rfl (E_on rfl (E_eqlS rfl rfl (fun c18 => ?_) (fun c18 => ?_))))))))
        · refine E_on rfl (E_mv (v := .bool _) rfl (E_on rfl (E_fa rfl (E_on rfl (E_ldO (k := 1) (v := .int .i64 (h.b)) rfl rfl (E_on rfl (E_fa rfl (E_on rfl (E_ldO (k := 0) (v := .int .i64 (g.b)) rfl rfl (E_on rfl (E_eqlS rfl rfl (fun c24 => ?_) (fun c24 => ?_))))))))))))
          · refine E_on rfl (E_pickT rfl (v := .bool _) rfl (E_on rfl (E_pickF rfl (v := .bool _) rfl (E_pickT rfl (v := .bool _) rfl (E_nil (AX_condT rfl (AX_seq (AX_E (E_mv (v := .bool _) rfl (E_nil (AX_ret (hRc27 _ _ _ ?_))))))))))))
            refine ⟨_, rfl, by simp, ?_, forget_flat rfl (List.prefix_append _ _)⟩
            -- r2
            clear hNc27 hRc27 hEc27
            refine congrArg (Value.bool) ?_
            refine (decide_eq_true ?_).symm
            unfold touchM
            omega
          · refine E_on rfl (E_pickT rfl (v := .bool _) rfl (E_on rfl (E_pickF rfl (v := .bool _) rfl (E_pickT rfl (v := .bool _) rfl (E_nil (AX_condF rfl (AX_skip ?_)))))))
            refine hNc27 (()) _ _ _ ⟨by first | rfl | (congr 1; omega), by first | rfl | (congr 1; omega), trivial⟩ ⟨rfl, rfl, ?_⟩
            -- u3
            clear hNc27 hRc27 hEc27
            first | omega | (simp; omega) | (simp_all; done) | (simp_all; omega)
        · refine E_on rfl (E_mv (v := .bool _) rfl (E_notT rfl (E_notT rfl (E_notT rfl (E_notT rfl (E_notT rfl (E_on rfl (E_pickF rfl (v := .bool _) rfl (E_on rfl (E_pickF rfl (v := .bool _) rfl (E_pickT rfl (v := .bool _) rfl (E_nil (AX_condF rfl (AX_skip ?_))))))))))))))
          refine hNc27 (()) _ _ _ ⟨by first | rfl | (congr 1; omega), by first | rfl | (congr 1; omega), trivial⟩ ⟨rfl, rfl, ?_⟩
          -- u4
          clear hNc27 hRc27 hEc27
          first | omega | (simp; omega) | (simp_all; done) | (simp_all; omega)
    · refine E_mv (v := .bool _) rfl (E_notT rfl (E_notT rfl (E_notT rfl (E_notT rfl (E_notT rfl (E_notT rfl (E_notT rfl (E_notU rfl (E_notU rfl (E_notU rfl (E_notU rfl (E_notU rfl (E_notU rfl (E_notU rfl (E_notU rfl (E_notU rfl (E_notU rfl (E_notT rfl (E_pickF rfl (v := .bool _) rfl (E_nil (AX_condF rfl (AX_skip ?_))))))))))))))))))))))
      refine hNc27 (()) _ _ _ ⟨by first | rfl | (congr 1; omega), by first | rfl | (congr 1; omega), trivial⟩ ⟨rfl, rfl, ?_⟩
      -- u5
      clear hNc27 hRc27 hEc27
      first | omega | (simp; omega) | (simp_all; done) | (simp_all; omega)
  rintro ⟨⟩ frc27 hc27 mc27 ⟨rfl, rfl, invc27⟩
  refine AX_seq (AX_E (E_fa rfl (E_ldO (k := 1) (v := .int .i64 (h.k)) rfl rfl (E_eqlS rfl rfl (fun c30 => ?_) (fun c30 => ?_)))))
  · refine E_mv (v := .bool _) rfl (E_on rfl (E_fa rfl (E_on rfl (E_ldO (k := 0) (v := .int .i64 (g.f)) rfl rfl (E_on rfl (E_fa rfl (E_on rfl (E_ldO (k := 1) (v := .int .i64 (h.b)) rfl rfl (E_on rfl (E_addI rfl rfl (by first | omega | (simp; done) | (simp; omega)) (by first | omega | (simp; done) | (simp; omega)) (E_on rfl (E_eqlV rfl rfl (E_pickT rfl (v := .bool _) rfl (E_mv (v := .bool _) rfl (E_nil (AX_ret ?_))))))))))))))))
    refine ⟨_, rfl, by simp, ?_, forget_flat rfl (List.prefix_append _ _)⟩
    -- r6
    refine congrArg (Value.bool) ?_
    refine decide_eq_decide.2 ?_
    unfold touchM
    omega
  · refine E_mv (v := .bool _) rfl (E_notT rfl (E_notT rfl (E_notT rfl (E_notT rfl (E_notT rfl (E_notT rfl (E_pickF rfl (v := .bool _) rfl (E_mv (v := .bool _) rfl (E_nil (AX_ret ?_))))))))))
    refine ⟨_, rfl, by simp, ?_, forget_flat rfl (List.prefix_append _ _)⟩
    -- r7
    refine congrArg (Value.bool) ?_
    refine (decide_eq_false ?_).symm
    unfold touchM
    omega
theorem meet_ret (H : Heap) (g h : G) (p q : Pl) {S S' : Nat → Prop} (hv : Ints S H p g.ws) (hu : Ints S' H q h.ws) (hg : GR g) (hh : GR h) : Ret (tab Try.prog) 56 [gv g p, gv h q] H (.bool (decide (meetM g h))) H := by
  have l1 := hg.len
  have l2 := hh.len
  refine Ret_own k56 rfl ?_
  refine AX_seq (AX_E (E_boxA rfl (E_boxA rfl (E_mv (v := .bool _) rfl (E_nil (AX_seq (AX_seq (AX_E (E_mv (v := .int .i64 (0)) rfl (E_nil (AX_block ?_)))))))))))
  refine AX_loopF (γ := Nat) (fun j => [(2, .pointer (some ⟨(H).length + 0, 0, none⟩)), (3, .pointer (some ⟨(H).length + 1, 0, none⟩)), (5, .int .i64 ((j : Int)))]) (fun j h_ m_ => h_ = H ++ [CO.row [.int .i64 (g.k), .slice (p).1 (g.ws).length (p).2, .int .i64 (g.b), .int .i64 (g.f)] true none, CO.row [.int .i64 (h.k), .slice (q).1 (h.ws).length (q).2, .int .i64 (h.b), .int .i64 (h.f)] true none] ∧ m_ = [] ∧ j ≤ g.ws.length ∧ ∀ x ∈ g.ws.take j, ¬ x ∈ h.ws) (fun j => g.ws.length - j) (0) ⟨rfl, rfl, rfl, trivial⟩ ⟨rfl, rfl, ?_⟩ ?_
  · simp
  rintro j fr0 h0 m0 ⟨rfl, rfl, inv0⟩ K0 hN0 hR0 hE0
  refine AX_seq (AX_seq (AX_E (E_mv (v := .int .i64 ((j : Int))) rfl (E_fa rfl (E_ldO (k := 0) (v := .slice _ _ _) rfl rfl (E_len (n := (g.ws).length) rfl (E_lssS rfl rfl (fun c10 => ?_) (fun c10 => ?_))))))))
  · refine E_nil (AX_condT rfl (AX_skip (AX_seq (AX_block (AX_seq (AX_E (E_fa rfl (E_ldO (k := 1) (v := .slice _ _ _) rfl rfl (E_fa rfl (E_ldO (k := 0) (v := .slice _ _ _) rfl rfl (E_mv (v := .int .i64 ((j : Int))) rfl (have ix1 : j < (g.ws).length := (by first | omega | (simp; done) | (simp; omega)); E_iaIb (j := j) rfl hv rfl rfl rfl ix1 fun b1 o1 w1 => (E_ldB (v := .int .i64 (g.ws[j]'ix1)) rfl w1 (E_callP rfl (has_ret _ _ _ _ hu.app (by first | omega | (simp; done) | (simp; omega))) (fun c20 => ?_) (fun c20 => ?_)))))))))))))))
    · refine E_nil (AX_condT rfl (AX_seq (AX_E (E_mv (v := .bool _) rfl (E_nil (AX_ret (hR0 _ _ _ ?_)))))))
      refine ⟨_, rfl, by simp, ?_, forget_flat rfl (List.prefix_append _ _)⟩
      -- r1
      clear hN0 hR0 hE0
      refine congrArg (Value.bool) ?_
      refine (decide_eq_true ?_).symm
      have e0 : ∃ x ∈ g.ws, x ∈ h.ws := ⟨_, List.getElem_mem _, c20⟩
      simp [meetM, e0]
    · refine E_nil (AX_condF rfl (AX_skip (AX_E (E_mv (v := .int .i64 ((j : Int))) rfl (E_addI rfl rfl (by first | omega | (simp; done) | (simp; omega)) (by first | omega | (simp; done) | (simp; omega)) (E_mv (v := .int .i64 (((j : Int) + 1))) rfl (E_nil ?_)))))))
      refine hN0 (j + 1) _ _ _ ⟨by first | rfl | (congr 1; omega), by first | rfl | (congr 1; omega), by first | rfl | (congr 1; omega), trivial⟩ ⟨rfl, rfl, ?_⟩ ?_
      -- n2
      all_goals clear hN0 hR0 hE0
      · exact ⟨by omega, all_next (by omega) inv0.2 c20⟩
      · (first | omega | (simp; omega))
  · refine E_nil (AX_condF rfl (AX_exit (hE0 _ _ _ _ ?_)))
    have e0 := all_all c10 inv0.2
    refine AX_seq (AX_E (E_ldON (k := 0) rfl rfl (E_ldON (k := 1) rfl rfl (E_callP rfl (touch_ret _ _ _ _ _ (by assumption) (by assumption)) (fun c23 => ?_) (fun c23 => ?_)))))
    · refine E_mv (v := .bool _) rfl (E_nil (AX_ret ?_))
      refine ⟨_, rfl, by simp, ?_, forget_flat rfl (List.prefix_append _ _)⟩
      -- r3
      clear hN0 hR0 hE0
      refine congrArg (Value.bool) ?_
      refine (decide_eq_true ?_).symm
      simp [meetM, *]
    · refine E_mv (v := .bool _) rfl (E_nil (AX_ret ?_))
      refine ⟨_, rfl, by simp, ?_, forget_flat rfl (List.prefix_append _ _)⟩
      -- r4
      clear hN0 hR0 hE0
      refine congrArg (Value.bool) ?_
      refine (decide_eq_false ?_).symm
      simp only [meetM, not_or]
      exact ⟨fun ⟨x, a, b⟩ => e0 x a b, c23⟩
theorem samegate_ret (H : Heap) (g h : G) (p q : Pl) {S S' : Nat → Prop} (hv : Ints S H p g.ws) (hu : Ints S' H q h.ws) (hl : g.ws.length < 4611686018427387904) : Ret (tab Try.prog) 62 [gv g p, gv h q] H (.bool (decide (g = h))) H := by
  have ext : g = h ↔ g.k = h.k ∧ g.ws = h.ws ∧ g.b = h.b ∧ g.f = h.f := by cases g; cases h; simp
  rw [show decide (g = h) = decide (g.k = h.k ∧ g.ws = h.ws ∧ g.b = h.b ∧ g.f = h.f) from decide_eq_decide.2 ext]
  refine Ret_own k62 rfl ?_
  refine AX_seq (AX_E (E_boxA rfl (E_boxA rfl (E_mv (v := .bool _) rfl (E_nil (AX_seq (AX_seq (AX_E (E_fa rfl (E_ldO (k := 0) (v := .int .i64 (g.k)) rfl rfl (E_fa rfl (E_ldO (k := 1) (v := .int .i64 (h.k)) rfl rfl (E_neqS rfl rfl (fun c10 => ?_) (fun c10 => ?_))))))))))))))
  · refine E_mv (v := .bool _) rfl (E_notF rfl (E_notF rfl (E_notF rfl (E_notF rfl (E_notF rfl (E_pickT rfl (v := .bool _) rfl (E_mv (v := .bool _) rfl (E_notF rfl (E_notF rfl (E_notF rfl (E_notF rfl (E_notF rfl (E_pickT rfl (v := .bool _) rfl (E_mv (v := .bool _) rfl (E_notF rfl (E_notF rfl (E_notF rfl (E_notF rfl (E_notF rfl (E_notF rfl (E_notF rfl (E_pickT rfl (v := .bool _) rfl (E_nil (AX_condT rfl (AX_seq (AX_E (E_mv (v := .bool _) rfl (E_nil (AX_ret ?_)))))))))))))))))))))))))))))
    refine ⟨_, rfl, by simp, ?_, forget_flat rfl (List.prefix_append _ _)⟩
    -- r1
    refine congrArg (Value.bool) ?_
    refine (decide_eq_false ?_).symm
    simp [*]
  · refine E_mv (v := .bool _) rfl (E_on rfl (E_fa rfl (E_on rfl (E_ldO (k := 0) (v := .int .i64 (g.b)) rfl rfl (E_on rfl (E_fa rfl (E_on rfl (E_ldO (k := 1) (v := .int .i64 (h.b)) rfl rfl (E_on rfl (E_neqS rfl rfl (fun c16 => ?_) (fun c16 => ?_)))))))))))
    · refine E_pickF rfl (v := .bool _) rfl (E_mv (v := .bool _) rfl (E_notF rfl (E_notF rfl (E_notF rfl (E_notF rfl (E_notF rfl (E_pickT rfl (v := .bool _) rfl (E_mv (v := .bool _) rfl (E_notF rfl (E_notF rfl (E_notF rfl (E_notF rfl (E_notF rfl (E_notF rfl (E_notF rfl (E_pickT rfl (v := .bool _) rfl (E_nil (AX_condT rfl (AX_seq (AX_E (E_mv (v := .bool _) rfl (E_nil (AX_ret ?_)))))))))))))))))))))))
      refine ⟨_, rfl, by simp, ?_, forget_flat rfl (List.prefix_append _ _)⟩
      -- r2
      refine congrArg (Value.bool) ?_
      refine (decide_eq_false ?_).symm
      simp [*]
    · refine E_pickF rfl (v := .bool _) rfl (E_mv (v := .bool _) rfl (E_on rfl (E_fa rfl (E_on rfl (E_ldO (k := 0) (v := .int .i64 (g.f)) rfl rfl (E_on rfl (E_fa rfl (E_on rfl (E_ldO (k := 1) (v := .int .i64 (h.f)) rfl rfl (E_on rfl (E_neqS rfl rfl (fun c23 => ?_) (fun c23 => ?_))))))))))))
      · refine E_pickF rfl (v := .bool _) rfl (E_mv (v := .bool _) rfl (E_notF rfl (E_notF rfl (E_notF rfl (E_notF rfl (E_notF rfl (E_notF rfl (E_notF rfl (E_pickT rfl (v := .bool _) rfl (E_nil (AX_condT rfl (AX_seq (AX_E (E_mv (v := .bool _) rfl (E_nil (AX_ret ?_))))))))))))))))
        refine ⟨_, rfl, by simp, ?_, forget_flat rfl (List.prefix_append _ _)⟩
        -- r3
        refine congrArg (Value.bool) ?_
        refine (decide_eq_false ?_).symm
        simp [*]
      · refine E_pickF rfl (v := .bool _) rfl (E_mv (v := .bool _) rfl (E_on rfl (E_fa rfl (E_on rfl (E_ldO (k := 0) (v := .slice _ _ _) rfl rfl (E_on rfl (E_len (n := (g.ws).length) rfl (E_on rfl (E_fa rfl (E_on rfl (E_ldO (k := 1) (v := .slice _ _ _) rfl rfl (E_on rfl (E_len (n := (h.ws).length) rfl (E_on rfl (E_neqS rfl rfl (fun c32 => ?_) (fun c32 => ?_))))))))))))))))
        · refine E_pickF rfl (v := .bool _) rfl (E_nil (AX_condT rfl (AX_seq (AX_E (E_mv (v := .bool _) rfl (E_nil (AX_ret ?_)))))))
          refine ⟨_, rfl, by simp, ?_, forget_flat rfl (List.prefix_append _ _)⟩
          -- r4
          refine congrArg (Value.bool) ?_
          refine (decide_eq_false ?_).symm
          have : g.ws ≠ h.ws := fun e => c32 (by rw [e])
          simp [this]
        · refine E_pickF rfl (v := .bool _) rfl (E_nil (AX_condF rfl (AX_skip (AX_seq (AX_seq (AX_E (E_mv (v := .int .i64 (0)) rfl (E_nil (AX_block ?_)))))))))
          refine AX_loopF (γ := Nat) (fun j => [(2, .pointer (some ⟨(H).length + 0, 0, none⟩)), (3, .pointer (some ⟨(H).length + 1, 0, none⟩)), (5, .int .i64 ((j : Int)))]) (fun j h_ m_ => h_ = H ++ [CO.row [.int .i64 (g.k), .slice (p).1 (g.ws).length (p).2, .int .i64 (g.b), .int .i64 (g.f)] true none, CO.row [.int .i64 (h.k), .slice (q).1 (h.ws).length (q).2, .int .i64 (h.b), .int .i64 (h.f)] true none] ∧ m_ = [] ∧ j ≤ g.ws.length ∧ g.ws.take j = h.ws.take j) (fun j => g.ws.length - j) (0) ⟨rfl, rfl, rfl, trivial⟩ ⟨rfl, rfl, ?_⟩ ?_
          · simp
          rintro j fr0 h0 m0 ⟨rfl, rfl, inv0⟩ K0 hN0 hR0 hE0
          refine AX_seq (AX_seq (AX_E (E_mv (v := .int .i64 ((j : Int))) rfl (E_fa rfl (E_ldO (k := 0) (v := .slice _ _ _) rfl rfl (E_len (n := (g.ws).length) rfl (E_lssS rfl rfl (fun c38 => ?_) (fun c38 => ?_))))))))
          · refine E_nil (AX_condT rfl (AX_skip (AX_seq (AX_block (AX_seq (AX_E (E_fa rfl (E_ldO (k := 0) (v := .slice _ _ _) rfl rfl (E_mv (v := .int .i64 ((j : Int))) rfl (have ix1 : j < (g.ws).length := (by first | omega | (simp; done) | (simp; omega)); E_iaIb (j := j) rfl hv rfl rfl rfl ix1 fun b1 o1 w1 => (E_ldB (v := .int .i64 (g.ws[j]'ix1)) rfl w1 (E_fa rfl (E_ldO (k := 1) (v := .slice _ _ _) rfl rfl (E_mv (v := .int .i64 ((j : Int))) rfl (have ix2 : j < (h.ws).length := (by first | omega | (simp; done) | (simp; omega)); E_iaIb (j := j) rfl hu rfl rfl rfl ix2 fun b2 o2 w2 => (E_ldB (v := .int .i64 (h.ws[j]'ix2)) rfl w2 (E_neqS rfl rfl (fun c51 => ?_) (fun c51 => ?_))))))))))))))))))
            · refine E_nil (AX_condT rfl (AX_seq (AX_E (E_mv (v := .bool _) rfl (E_nil (AX_ret (hR0 _ _ _ ?_)))))))
              refine ⟨_, rfl, by simp, ?_, forget_flat rfl (List.prefix_append _ _)⟩
              -- r5
              clear hN0 hR0 hE0
              refine congrArg (Value.bool) ?_
              refine (decide_eq_false ?_).symm
              have : g.ws ≠ h.ws := fun e => c51 (by simp [e])
              simp [this]
            · refine E_nil (AX_condF rfl (AX_skip (AX_E (E_mv (v := .int .i64 ((j : Int))) rfl (E_addI rfl rfl (by first | omega | (simp; done) | (simp; omega)) (by first | omega | (simp; done) | (simp; omega)) (E_mv (v := .int .i64 (((j : Int) + 1))) rfl (E_nil ?_)))))))
              refine hN0 (j + 1) _ _ _ ⟨by first | rfl | (congr 1; omega), by first | rfl | (congr 1; omega), by first | rfl | (congr 1; omega), trivial⟩ ⟨rfl, rfl, ?_⟩ ?_
              -- n6
              all_goals clear hN0 hR0 hE0
              · exact ⟨by omega, take_eq_next (by omega) (by omega) inv0.2 c51⟩
              · (first | omega | (simp; omega))
          · refine E_nil (AX_condF rfl (AX_exit (hE0 _ _ _ _ ?_)))
            have e0 := take_eq_all c38 (by omega) inv0.2
            refine AX_seq (AX_E (E_mv (v := .bool _) rfl (E_nil (AX_ret ?_))))
            refine ⟨_, rfl, by simp, ?_, forget_flat rfl (List.prefix_append _ _)⟩
            -- r7
            clear hN0 hR0 hE0
            refine congrArg (Value.bool) ?_
            refine (decide_eq_true ?_).symm
            simp [*]
end Go.Canon
namespace Go.Canon
open Go Go.Proofs
set_option linter.unusedVariables false
set_option linter.unusedSimpArgs false
def kf12 : KFunc := ⟨2, 71, [.tmp 4], .seq (.reg [⟨some 2, .box (.t 0), none⟩, ⟨some 3, .box (.t 1), none⟩, ⟨some 4, .mv (.c (.bool false)), none⟩] []) (.seq (.seq (.reg [⟨some 7, .ld (.t 2) (some 4), none⟩, ⟨some 8, .ld (.t 3) (some 4), none⟩, ⟨some 9, .call (.c (.func (.func 56) #[] #[])) [.t 7, .t 8], none⟩, ⟨some 10, .not (.t 9), none⟩] []) (.cond (.t 10) (.seq (.reg [⟨some 4, .mv (.c (.bool true)), none⟩] []) .ret) .skip)) (.seq (.seq (.reg [⟨some 11, .ld (.t 2) (some 4), none⟩, ⟨some 12, .ld (.t 3) (some 4), none⟩, ⟨some 13, .call (.c (.func (.func 57) #[] #[])) [.t 11, .t 12], none⟩] []) (.cond (.t 13) (.seq (.reg [⟨some 4, .mv (.c (.bool false)), none⟩] []) .ret) .skip)) (.seq (.seq (.reg [⟨some 14, .fa (.t 2) 0, none⟩, ⟨some 15, .ld (.t 14) none, none⟩, ⟨some 16, .bin .eql (.t 15) (.c (.int .i64 11)), none⟩, ⟨some 17, .mv (.t 16), none⟩, ⟨some 18, .fa (.t 3) 0, some (17, true)⟩, ⟨some 19, .ld (.t 18) none, some (17, true)⟩, ⟨some 20, .bin .eql (.t 19) (.c (.int .i64 10)), some (17, true)⟩, ⟨some 21, .mv (.t 20), some (17, true)⟩, ⟨some 22, .fa (.t 3) 0, some (21, false)⟩, ⟨some 23, .ld (.t 22) none, some (21, false)⟩, ⟨some 24, .bin .eql (.t 23) (.c (.int .i64 11)), some (21, false)⟩, ⟨some 25, .pick (.t 21) (.c (.bool true)) (.t 24), some (17, true)⟩, ⟨some 26, .pick (.t 17) (.t 25) (.c (.bool false)), none⟩, ⟨some 27, .mv (.t 26), none⟩, ⟨some 28, .fa (.t 3) 0, some (27, false)⟩, ⟨some 29, .ld (.t 28) none, some (27, false)⟩, ⟨some 30, .bin .eql (.t 29) (.c (.int .i64 11)), some (27, false)⟩, ⟨some 31, .mv (.t 30), some (27, false)⟩, ⟨some 32, .fa (.t 2) 0, some (31, true)⟩, ⟨some 33, .ld (.t 32) none, some (31, true)⟩, ⟨some 34, .bin .eql (.t 33) (.c (.int .i64 10)), some (31, true)⟩, ⟨some 35, .pick (.t 31) (.t 34) (.c (.bool false)), some (27, false)⟩, ⟨some 36, .pick (.t 27) (.c (.bool true)) (.t 35), none⟩] []) (.cond (.t 36) (.seq (.reg [⟨some 37, .ld (.t 2) (some 4), none⟩, ⟨some 38, .ld (.t 3) (some 4), none⟩, ⟨some 39, .call (.c (.func (.func 58) #[] #[])) [.t 37, .t 38], none⟩, ⟨some 4, .mv (.t 39), none⟩] []) .ret) .skip)) (.seq (.seq (.reg [⟨some 5, .mv (.c (.int .i64 0)), none⟩] []) (.block 0 (.loop (.seq (.seq (.reg [⟨some 40, .mv (.t 5), none⟩, ⟨some 41, .fa (.t 2) 1, none⟩, ⟨some 42, .ld (.t 41) none, none⟩, ⟨some 43, .len (.t 42), none⟩, ⟨some 44, .bin .lss (.t 40) (.t 43), none⟩] []) (.cond (.t 44) .skip (.exit 0))) (.seq (.block 1 (.seq (.reg [⟨some 47, .fa (.t 2) 1, none⟩, ⟨some 48, .ld (.t 47) none, none⟩, ⟨some 49, .mv (.t 5), none⟩, ⟨some 50, .iaS (.t 48) (.t 49) 1, none⟩, ⟨some 51, .ld (.t 50) none, none⟩, ⟨some 6, .mv (.t 51), none⟩] []) (.seq (.reg [⟨some 52, .fa (.t 3) 1, none⟩, ⟨some 53, .ld (.t 52) none, none⟩, ⟨some 54, .mv (.t 6), none⟩, ⟨some 55, .call (.c (.func (.func 59) #[] #[])) [.t 53, .t 54], none⟩, ⟨some 56, .mv (.t 55), none⟩, ⟨some 57, .ld (.t 2) (some 4), some (56, true)⟩, ⟨some 58, .mv (.t 6), some (56, true)⟩, ⟨some 59, .call (.c (.func (.func 60) #[] #[])) [.t 57, .t 58], some (56, true)⟩, ⟨some 60, .bin .eql (.t 59) (.c (.int .i64 0)), some (56, true)⟩, ⟨some 61, .mv (.t 60), some (56, true)⟩, ⟨some 62, .ld (.t 2) (some 4), some (61, false)⟩, ⟨some 63, .mv (.t 6), some (61, false)⟩, ⟨some 64, .call (.c (.func (.func 60) #[] #[])) [.t 62, .t 63], some (61, false)⟩, ⟨some 65, .ld (.t 3) (some 4), some (61, false)⟩, ⟨some 66, .mv (.t 6), some (61, false)⟩, ⟨some 67, .call (.c (.func (.func 60) #[] #[])) [.t 65, .t 66], some (61, false)⟩, ⟨some 68, .bin .neq (.t 64) (.t 67), some (61, false)⟩, ⟨some 69, .pick (.t 61) (.c (.bool true)) (.t 68), some (56, true)⟩, ⟨some 70, .pick (.t 56) (.t 69) (.c (.bool false)), none⟩] [(12, 13)]) (.cond (.t 70) (.seq (.reg [⟨some 4, .mv (.c (.bool false)), none⟩] []) .ret) .skip)))) (.reg [⟨some 45, .mv (.t 5), none⟩, ⟨some 46, .bin .add (.t 45) (.c (.int .i64 1)), none⟩, ⟨some 5, .mv (.t 46), none⟩] [])))))) (.seq (.reg [⟨some 4, .mv (.c (.bool true)), none⟩] []) .ret)))))⟩
theorem k12 : tab Try.prog 12 = some kf12 := by kernel_rfl
def kf13 : KFunc := ⟨2, 54, [.tmp 4], .seq (.reg [⟨some 2, .box (.t 0), none⟩, ⟨some 3, .box (.t 1), none⟩, ⟨some 4, .mv (.c (.bool false)), none⟩] []) (.seq (.seq (.reg [⟨some 5, .fa (.t 2) 3, none⟩, ⟨some 6, .ld (.t 5) none, none⟩, ⟨some 7, .fa (.t 3) 3, none⟩, ⟨some 8, .ld (.t 7) none, none⟩, ⟨some 9, .bin .neq (.t 6) (.t 8), none⟩, ⟨some 10, .mv (.t 9), none⟩, ⟨some 11, .fa (.t 2) 0, some (10, false)⟩, ⟨some 12, .ld (.t 11) none, some (10, false)⟩, ⟨some 13, .bin .geq (.t 12) (.c (.int .i64 13)), some (10, false)⟩, ⟨some 14, .pick (.t 10) (.c (.bool true)) (.t 13), none⟩, ⟨some 15, .mv (.t 14), none⟩, ⟨some 16, .fa (.t 3) 0, some (15, false)⟩, ⟨some 17, .ld (.t 16) none, some (15, false)⟩, ⟨some 18, .fa (.t 2) 0, some (15, false)⟩, ⟨some 19, .ld (.t 18) none, some (15, false)⟩, ⟨some 20, .call (.c (.func (.func 61) #[] #[])) [.t 19], some (15, false)⟩, ⟨some 21, .bin .neq (.t 17) (.t 20), some (15, false)⟩, ⟨some 22, .pick (.t 15) (.c (.bool true)) (.t 21), none⟩] [(12, 15)]) (.cond (.t 22) (.seq (.reg [⟨some 4, .mv (.c (.bool false)), none⟩] []) .ret) .skip)) (.seq (.seq (.reg [⟨some 23, .fa (.t 2) 0, none⟩, ⟨some 24, .ld (.t 23) none, none⟩] []) (.block 0 (.seq (.seq (.reg [⟨some 26, .bin .eql (.t 24) (.c (.int .i64 10)), none⟩, ⟨some 25, .mv (.t 26), none⟩] []) (.cond (.t 25) .skip (.reg [⟨some 27, .bin .eql (.t 24) (.c (.int .i64 11)), none⟩, ⟨some 25, .mv (.t 27), none⟩] []))) (.cond (.t 25) (.seq (.reg [⟨some 28, .ld (.t 2) (some 4), none⟩, ⟨some 29, .ld (.t 3) (some 4), none⟩, ⟨some 30, .call (.c (.func (.func 58) #[] #[])) [.t 28, .t 29], none⟩, ⟨some 4, .mv (.t 30), none⟩] []) .ret) (.seq (.reg [⟨some 32, .bin .eql (.t 24) (.c (.int .i64 12)), none⟩, ⟨some 31, .mv (.t 32), none⟩] []) (.cond (.t 31) (.seq (.reg [⟨some 33, .fa (.t 2) 1, none⟩, ⟨some 34, .ld (.t 33) none, none⟩, ⟨some 35, .iaS (.t 34) (.c (.int .i64 2)) 1, none⟩, ⟨some 36, .ld (.t 35) none, none⟩, ⟨some 37, .fa (.t 3) 1, none⟩, ⟨some 38, .ld (.t 37) none, none⟩, ⟨some 39, .iaS (.t 38) (.c (.int .i64 2)) 1, none⟩, ⟨some 40, .ld (.t 39) none, none⟩, ⟨some 41, .bin .eql (.t 36) (.t 40), none⟩, ⟨some 42, .mv (.t 41), none⟩, ⟨some 43, .ld (.t 2) (some 4), some (42, true)⟩, ⟨some 44, .ld (.t 3) (some 4), some (42, true)⟩, ⟨some 45, .call (.c (.func (.func 58) #[] #[])) [.t 43, .t 44], some (42, true)⟩, ⟨some 46, .pick (.t 42) (.t 45) (.c (.bool false)), none⟩, ⟨some 4, .mv (.t 46), none⟩] []) .ret) .skip)))))) (.seq (.reg [⟨some 47, .fa (.t 2) 1, none⟩, ⟨some 48, .ld (.t 47) none, none⟩, ⟨some 49, .mk [.int .i64 0, .slice none 0 0, .int .i64 0, .int .i64 0] [(1, 1, .t 48)], none⟩, ⟨some 50, .fa (.t 3) 1, none⟩, ⟨some 51, .ld (.t 50) none, none⟩, ⟨some 52, .mk [.int .i64 0, .slice none 0 0, .int .i64 0, .int .i64 0] [(1, 1, .t 51)], none⟩, ⟨some 53, .call (.c (.func (.func 62) #[] #[])) [.t 49, .t 52], none⟩, ⟨some 4, .mv (.t 53), none⟩] []) .ret)))⟩
theorem k13 : tab Try.prog 13 = some kf13 := by kernel_rfl
def kf54 : KFunc := ⟨2, 60, [.tmp 4], .seq (.reg [⟨some 2, .box (.t 0), none⟩, ⟨some 3, .box (.t 1), none⟩, ⟨some 4, .mv (.c (.bool false)), none⟩] []) (.seq (.seq (.reg [⟨some 6, .fa (.t 2) 0, none⟩, ⟨some 7, .ld (.t 6) none, none⟩, ⟨some 8, .fa (.t 3) 0, none⟩, ⟨some 9, .ld (.t 8) none, none⟩, ⟨some 10, .bin .neq (.t 7) (.t 9), none⟩] []) (.cond (.t 10) (.seq (.reg [⟨some 11, .fa (.t 2) 0, none⟩, ⟨some 12, .ld (.t 11) none, none⟩, ⟨some 13, .fa (.t 3) 0, none⟩, ⟨some 14, .ld (.t 13) none, none⟩, ⟨some 15, .bin .lss (.t 12) (.t 14), none⟩, ⟨some 4, .mv (.t 15), none⟩] []) .ret) .skip)) (.seq (.seq (.reg [⟨some 5, .mv (.c (.int .i64 0)), none⟩] []) (.block 0 (.loop (.seq (.seq (.reg [⟨some 16, .mv (.t 5), none⟩, ⟨some 17, .fa (.t 2) 1, none⟩, ⟨some 18, .ld (.t 17) none, none⟩, ⟨some 19, .len (.t 18), none⟩, ⟨some 20, .bin .lss (.t 16) (.t 19), none⟩] []) (.cond (.t 20) .skip (.exit 0))) (.seq (.block 1 (.seq (.reg [⟨some 23, .fa (.t 2) 1, none⟩, ⟨some 24, .ld (.t 23) none, none⟩, ⟨some 25, .mv (.t 5), none⟩, ⟨some 26, .iaS (.t 24) (.t 25) 1, none⟩, ⟨some 27, .ld (.t 26) none, none⟩, ⟨some 28, .fa (.t 3) 1, none⟩, ⟨some 29, .ld (.t 28) none, none⟩, ⟨some 30, .mv (.t 5), none⟩, ⟨some 31, .iaS (.t 29) (.t 30) 1, none⟩, ⟨some 32, .ld (.t 31) none, none⟩, ⟨some 33, .bin .neq (.t 27) (.t 32), none⟩] []) (.cond (.t 33) (.seq (.reg [⟨some 34, .fa (.t 2) 1, none⟩, ⟨some 35, .ld (.t 34) none, none⟩, ⟨some 36, .mv (.t 5), none⟩, ⟨some 37, .iaS (.t 35) (.t 36) 1, none⟩, ⟨some 38, .ld (.t 37) none, none⟩, ⟨some 39, .fa (.t 3) 1, none⟩, ⟨some 40, .ld (.t 39) none, none⟩, ⟨some 41, .mv (.t 5), none⟩, ⟨some 42, .iaS (.t 40) (.t 41) 1, none⟩, ⟨some 43, .ld (.t 42) none, none⟩, ⟨some 44, .bin .lss (.t 38) (.t 43), none⟩, ⟨some 4, .mv (.t 44), none⟩] []) .ret) .skip))) (.reg [⟨some 21, .mv (.t 5), none⟩, ⟨some 22, .bin .add (.t 21) (.c (.int .i64 1)), none⟩, ⟨some 5, .mv (.t 22), none⟩] [])))))) (.seq (.seq (.reg [⟨some 45, .fa (.t 2) 2, none⟩, ⟨some 46, .ld (.t 45) none, none⟩, ⟨some 47, .fa (.t 3) 2, none⟩, ⟨some 48, .ld (.t 47) none, none⟩, ⟨some 49, .bin .neq (.t 46) (.t 48), none⟩] []) (.cond (.t 49) (.seq (.reg [⟨some 50, .fa (.t 2) 2, none⟩, ⟨some 51, .ld (.t 50) none, none⟩, ⟨some 52, .fa (.t 3) 2, none⟩, ⟨some 53, .ld (.t 52) none, none⟩, ⟨some 54, .bin .lss (.t 51) (.t 53), none⟩, ⟨some 4, .mv (.t 54), none⟩] []) .ret) .skip)) (.seq (.reg [⟨some 55, .fa (.t 2) 3, none⟩, ⟨some 56, .ld (.t 55) none, none⟩, ⟨some 57, .fa (.t 3) 3, none⟩, ⟨some 58, .ld (.t 57) none, none⟩, ⟨some 59, .bin .lss (.t 56) (.t 58), none⟩, ⟨some 4, .mv (.t 59), none⟩] []) .ret))))⟩
theorem k54 : tab Try.prog 54 = some kf54 := by kernel_rfl
def kf37 : KFunc := ⟨2, 46, [.tmp 4], .seq (.reg [⟨some 2, .box (.t 0), none⟩, ⟨some 3, .box (.t 1), none⟩, ⟨some 4, .mv (.c (.bool false)), none⟩] []) (.seq (.seq (.reg [⟨some 6, .fa (.t 2) 0, none⟩, ⟨some 7, .ld (.t 6) none, none⟩, ⟨some 8, .fa (.t 3) 0, none⟩, ⟨some 9, .ld (.t 8) none, none⟩, ⟨some 10, .bin .neq (.t 7) (.t 9), none⟩, ⟨some 11, .mv (.t 10), none⟩, ⟨some 12, .fa (.t 2) 1, some (11, false)⟩, ⟨some 13, .ld (.t 12) none, some (11, false)⟩, ⟨some 14, .fa (.t 3) 1, some (11, false)⟩, ⟨some 15, .ld (.t 14) none, some (11, false)⟩, ⟨some 16, .bin .neq (.t 13) (.t 15), some (11, false)⟩, ⟨some 17, .pick (.t 11) (.c (.bool true)) (.t 16), none⟩, ⟨some 18, .mv (.t 17), none⟩, ⟨some 19, .fa (.t 2) 2, some (18, false)⟩, ⟨some 20, .ld (.t 19) none, some (18, false)⟩, ⟨some 21, .len (.t 20), some (18, false)⟩, ⟨some 22, .fa (.t 3) 2, some (18, false)⟩, ⟨some 23, .ld (.t 22) none, some (18, false)⟩, ⟨some 24, .len (.t 23), some (18, false)⟩, ⟨some 25, .bin .neq (.t 21) (.t 24), some (18, false)⟩, ⟨some 26, .pick (.t 18) (.c (.bool true)) (.t 25), none⟩] []) (.cond (.t 26) (.seq (.reg [⟨some 4, .mv (.c (.bool false)), none⟩] []) .ret) .skip)) (.seq (.seq (.reg [⟨some 5, .mv (.c (.int .i64 0)), none⟩] []) (.block 0 (.loop (.seq (.seq (.reg [⟨some 27, .mv (.t 5), none⟩, ⟨some 28, .fa (.t 2) 2, none⟩, ⟨some 29, .ld (.t 28) none, none⟩, ⟨some 30, .len (.t 29), none⟩, ⟨some 31, .bin .lss (.t 27) (.t 30), none⟩] []) (.cond (.t 31) .skip (.exit 0))) (.seq (.block 1 (.seq (.reg [⟨some 34, .fa (.t 2) 2, none⟩, ⟨some 35, .ld (.t 34) none, none⟩, ⟨some 36, .mv (.t 5), none⟩, ⟨some 37, .iaS (.t 35) (.t 36) 4, none⟩, ⟨some 38, .ld (.t 37) (some 4), none⟩, ⟨some 39, .fa (.t 3) 2, none⟩, ⟨some 40, .ld (.t 39) none, none⟩, ⟨some 41, .mv (.t 5), none⟩, ⟨some 42, .iaS (.t 40) (.t 41) 4, none⟩, ⟨some 43, .ld (.t 42) (some 4), none⟩, ⟨some 44, .call (.c (.func (.func 62) #[] #[])) [.t 38, .t 43], none⟩, ⟨some 45, .not (.t 44), none⟩] []) (.cond (.t 45) (.seq (.reg [⟨some 4, .mv (.c (.bool false)), none⟩] []) .ret) .skip))) (.reg [⟨some 32, .mv (.t 5), none⟩, ⟨some 33, .bin .add (.t 32) (.c (.int .i64 1)), none⟩, ⟨some 5, .mv (.t 33), none⟩] [])))))) (.seq (.reg [⟨some 4, .mv (.c (.bool true)), none⟩] []) .ret)))⟩
theorem k37 : tab Try.prog 37 = some kf37 := by kernel_rfl
theorem comm_ret (H : Heap) (g h : G) (p q : Pl) {S S' : Nat → Prop} (hv : Ints S H p g.ws) (hu : Ints S' H q h.ws) (hg : GR g) (hh : GR h) : Ret (tab Try.prog) 12 [gv g p, gv h q] H (.bool (decide (commM g h))) H := by
  have l1 := hg.len
  have l2 := hh.len
  have a1 := hg.ar
  have a2 := hh.ar
  have al : g.k = 11 ∨ g.k = 10 → 2 ≤ g.ws.length := by
    intro e
    have : arityM g.k = 2 := by rcases e with e | e <;> rw [e] <;> rfl
    omega
  refine Ret_own k12 rfl ?_
  refine AX_seq (AX_E (E_boxA rfl (E_boxA rfl (E_mv (v := .bool _) rfl (E_nil (AX_seq (AX_seq (AX_E (E_ldON (k := 0) rfl rfl (E_ldON (k := 1) rfl rfl (E_callP rfl (meet_ret _ _ _ _ _ hv.app hu.app (by assumption) (by assumption)) (fun c9 => ?_) (fun c9 => ?_))))))))))))
  · refine E_notV rfl rfl (E_nil (AX_condF rfl (AX_skip (AX_seq (AX_seq (AX_E (E_ldON (k := 0) rfl rfl (E_ldON (k := 1) rfl rfl (E_callP rfl (touch_ret _ _ _ _ _ (by assumption) (by assumption)) (fun c13 => ?_) (fun c13 => ?_))))))))))
    · refine E_nil (AX_condT rfl (AX_seq (AX_E (E_mv (v := .bool _) rfl (E_nil (AX_ret ?_))))))
      refine ⟨_, rfl, by simp, ?_, forget_flat rfl (List.prefix_append _ _)⟩
      -- r1
      refine congrArg (Value.bool) ?_
      refine (decide_eq_false ?_).symm
      simp [commM, *]
    · refine E_nil (AX_condF rfl (AX_skip ?_))
      refine AX_cut (X := Unit) (fun _ => [(2, .pointer (some ⟨(H).length + 0, 0, none⟩)), (3, .pointer (some ⟨(H).length + 1, 0, none⟩))]) (fun _ h_ m_ => h_ = H ++ [CO.row [.int .i64 (g.k), .slice (p).1 (g.ws).length (p).2, .int .i64 (g.b), .int .i64 (g.f)] true none, CO.row [.int .i64 (h.k), .slice (q).1 (h.ws).length (q).2, .int .i64 (h.b), .int .i64 (h.f)] true none] ∧ m_ = [] ∧ ¬ ((g.k = 11 ∧ (h.k = 10 ∨ h.k = 11)) ∨ (h.k = 11 ∧ g.k = 10))) ?_ ?_
      · intro Kc36 hNc36 hRc36 hEc36
        refine AX_seq (AX_E (E_fa rfl (E_ldO (k := 0) (v := .int .i64 (g.k)) rfl rfl (E_eqlS rfl rfl (fun c16 => ?_) (fun c16 => ?_)))))
        · refine E_mv (v := .bool _) rfl (E_on rfl (E_fa rfl (E_on rfl (E_ldO (k := 1) (v := .int .i64 (h.k)) rfl rfl (E_on rfl (E_eqlS rfl rfl (fun c20 => ?_) (fun c20 => ?_)))))))
          · refine E_on rfl (E_mv (v := .bool _) rfl (E_notF rfl (E_notF rfl (E_notF rfl (E_on rfl (E_pickT rfl (v := .bool _) rfl (E_pickT rfl (v := .bool _) rfl (E_mv (v := .bool _) rfl (E_notF rfl (E_notF rfl (E_notF rfl (E_notF rfl (E_notU rfl (E_notU rfl (E_notU rfl (E_notF rfl (E_pickT rfl (v := .bool _) rfl (E_nil (AX_condT rfl (AX_seq (AX_E (E_ldON (k := 0) rfl rfl (E_ldON (k := 1) rfl rfl (E_callP rfl (alike_ret _ _ _ _ _ hv.app hu.app (by first | omega | (simp; done) | (simp; omega)) (by first | omega | (simp; done) | (simp; omega))) (fun c39 => ?_) (fun c39 => ?_)))))))))))))))))))))))))
            · refine E_mv (v := .bool _) rfl (E_nil (AX_ret (hRc36 _ _ _ ?_)))
              refine ⟨_, rfl, by simp, ?_, forget_flat rfl (List.prefix_append _ _)⟩
              -- r2
              clear hNc36 hRc36 hEc36
              refine congrArg (Value.bool) ?_
              refine (decide_eq_true ?_).symm
              simp [commM, *]
            · refine E_mv (v := .bool _) rfl (E_nil (AX_ret (hRc36 _ _ _ ?_)))
              refine ⟨_, rfl, by simp, ?_, forget_flat rfl (List.prefix_append _ _)⟩
              -- r3
              clear hNc36 hRc36 hEc36
              refine congrArg (Value.bool) ?_
              refine (decide_eq_false ?_).symm
              simp [commM, *]
          · refine E_on rfl (E_mv (v := .bool _) rfl (E_on rfl (E_fa rfl (E_on rfl (E_ldO (k := 1) (v := .int .i64 (h.k)) rfl rfl (E_on rfl (E_eqlS rfl rfl (fun c24 => ?_) (fun c24 => ?_))))))))
            · refine E_on rfl (E_pickF rfl (v := .bool _) rfl (E_pickT rfl (v := .bool _) rfl (E_mv (v := .bool _) rfl (E_notF rfl (E_notF rfl (E_notF rfl (E_notF rfl (E_notU rfl (E_notU rfl (E_notU rfl (E_notF rfl (E_pickT rfl (v := .bool _) rfl (E_nil (AX_condT rfl (AX_seq (AX_E (E_ldON (k := 0) rfl rfl (E_ldON (k := 1) rfl rfl (E_callP rfl (alike_ret _ _ _ _ _ hv.app hu.app (by first | omega | (simp; done) | (simp; omega)) (by first | omega | (simp; done) | (simp; omega))) (fun c39 => ?_) (fun c39 => ?_))))))))))))))))))))
              · refine E_mv (v := .bool _) rfl (E_nil (AX_ret (hRc36 _ _ _ ?_)))
                refine ⟨_, rfl, by simp, ?_, forget_flat rfl (List.prefix_append _ _)⟩
                -- r4
                clear hNc36 hRc36 hEc36
                refine congrArg (Value.bool) ?_
                refine (decide_eq_true ?_).symm
                simp [commM, *]
              · refine E_mv (v := .bool _) rfl (E_nil (AX_ret (hRc36 _ _ _ ?_)))
                refine ⟨_, rfl, by simp, ?_, forget_flat rfl (List.prefix_append _ _)⟩
                -- r5
                clear hNc36 hRc36 hEc36
                refine congrArg (Value.bool) ?_
                refine (decide_eq_false ?_).symm
                simp [commM, *]
            · refine E_on rfl (E_pickF rfl (v := .bool _) rfl (E_pickT rfl (v := .bool _) rfl (E_mv (v := .bool _) rfl (E_on rfl (E_fa rfl (E_on rfl (E_ldO (k := 1) (v := .int .i64 (h.k)) rfl rfl (E_on rfl (E_eqlS rfl rfl (fun c30 => ?_) (fun c30 => ?_))))))))))
              · refine E_on rfl (E_mv (v := .bool _) rfl (E_on rfl (E_fa rfl (E_on rfl (E_ldO (k := 0) (v := .int .i64 (g.k)) rfl rfl (E_on rfl (E_eqlS rfl rfl (fun c34 => ?_) (fun c34 => ?_))))))))
                · refine E_on rfl (E_pickT rfl (v := .bool _) rfl (E_pickF rfl (v := .bool _) rfl (E_nil (AX_condT rfl (AX_seq (AX_E (E_ldON (k := 0) rfl rfl (E_ldON (k := 1) rfl rfl (E_callP rfl (alike_ret _ _ _ _ _ hv.app hu.app (by first | omega | (simp; done) | (simp; omega)) (by first | omega | (simp; done) | (simp; omega))) (fun c39 => ?_) (fun c39 => ?_))))))))))
                  · refine E_mv (v := .bool _) rfl (E_nil (AX_ret (hRc36 _ _ _ ?_)))
                    refine ⟨_, rfl, by simp, ?_, forget_flat rfl (List.prefix_append _ _)⟩
                    -- r6
                    clear hNc36 hRc36 hEc36
                    refine congrArg (Value.bool) ?_
                    refine (decide_eq_true ?_).symm
                    simp [commM, *]
                  · refine E_mv (v := .bool _) rfl (E_nil (AX_ret (hRc36 _ _ _ ?_)))
                    refine ⟨_, rfl, by simp, ?_, forget_flat rfl (List.prefix_append _ _)⟩
                    -- r7
                    clear hNc36 hRc36 hEc36
                    refine congrArg (Value.bool) ?_
                    refine (decide_eq_false ?_).symm
                    simp [commM, *]
                · refine E_on rfl (E_pickT rfl (v := .bool _) rfl (E_pickF rfl (v := .bool _) rfl (E_nil (AX_condF rfl (AX_skip ?_)))))
                  refine hNc36 (()) _ _ _ ⟨by first | rfl | (congr 1; omega), by first | rfl | (congr 1; omega), trivial⟩ ⟨rfl, rfl, ?_⟩
                  -- u8
                  clear hNc36 hRc36 hEc36
                  omega
              · refine E_on rfl (E_mv (v := .bool _) rfl (E_notT rfl (E_notT rfl (E_notT rfl (E_on rfl (E_pickF rfl (v := .bool _) rfl (E_pickF rfl (v := .bool _) rfl (E_nil (AX_condF rfl (AX_skip ?_))))))))))
                refine hNc36 (()) _ _ _ ⟨by first | rfl | (congr 1; omega), by first | rfl | (congr 1; omega), trivial⟩ ⟨rfl, rfl, ?_⟩
                -- u9
                clear hNc36 hRc36 hEc36
                omega
        · refine E_mv (v := .bool _) rfl (E_notT rfl (E_notT rfl (E_notT rfl (E_notT rfl (E_notU rfl (E_notU rfl (E_notU rfl (E_notT rfl (E_pickF rfl (v := .bool _) rfl (E_mv (v := .bool _) rfl (E_on rfl (E_fa rfl (E_on rfl (E_ldO (k := 1) (v := .int .i64 (h.k)) rfl rfl (E_on rfl (E_eqlS rfl rfl (fun c30 => ?_) (fun c30 => ?_)))))))))))))))))
          · refine E_on rfl (E_mv (v := .bool _) rfl (E_on rfl (E_fa rfl (E_on rfl (E_ldO (k := 0) (v := .int .i64 (g.k)) rfl rfl (E_on rfl (E_eqlS rfl rfl (fun c34 => ?_) (fun c34 => ?_))))))))
            · refine E_on rfl (E_pickT rfl (v := .bool _) rfl (E_pickF rfl (v := .bool _) rfl (E_nil (AX_condT rfl (AX_seq (AX_E (E_ldON (k := 0) rfl rfl (E_ldON (k := 1) rfl rfl (E_callP rfl (alike_ret _ _ _ _ _ hv.app hu.app (by first | omega | (simp; done) | (simp; omega)) (by first | omega | (simp; done) | (simp; omega))) (fun c39 => ?_) (fun c39 => ?_))))))))))
              · refine E_mv (v := .bool _) rfl (E_nil (AX_ret (hRc36 _ _ _ ?_)))
                refine ⟨_, rfl, by simp, ?_, forget_flat rfl (List.prefix_append _ _)⟩
                -- r10
                clear hNc36 hRc36 hEc36
                refine congrArg (Value.bool) ?_
                refine (decide_eq_true ?_).symm
                simp [commM, *]
              · refine E_mv (v := .bool _) rfl (E_nil (AX_ret (hRc36 _ _ _ ?_)))
                refine ⟨_, rfl, by simp, ?_, forget_flat rfl (List.prefix_append _ _)⟩
                -- r11
                clear hNc36 hRc36 hEc36
                refine congrArg (Value.bool) ?_
                refine (decide_eq_false ?_).symm
                simp [commM, *]
            · refine E_on rfl (E_pickT rfl (v := .bool _) rfl (E_pickF rfl (v := .bool _) rfl (E_nil (AX_condF rfl (AX_skip ?_)))))
              refine hNc36 (()) _ _ _ ⟨by first | rfl | (congr 1; omega), by first | rfl | (congr 1; omega), trivial⟩ ⟨rfl, rfl, ?_⟩
              -- u12
              clear hNc36 hRc36 hEc36
              omega
          · refine E_on rfl (E_mv (v := .bool _) rfl (E_notT rfl (E_notT rfl (E_notT rfl (E_on rfl (E_pickF rfl (v := .bool _) rfl (E_pickF rfl (v := .bool _) rfl (E_nil (AX_condF rfl (AX_skip ?_))))))))))
            refine hNc36 (()) _ _ _ ⟨by first | rfl | (congr 1; omega), by first | rfl | (congr 1; omega), trivial⟩ ⟨rfl, rfl, ?_⟩
            -- u13
            clear hNc36 hRc36 hEc36
            omega
      rintro ⟨⟩ frc36 hc36 mc36 ⟨rfl, rfl, invc36⟩
      refine AX_seq (AX_seq (AX_E (E_mv (v := .int .i64 (0)) rfl (E_nil (AX_block ?_)))))
      refine AX_loopF (γ := Nat) (fun j => [(2, .pointer (some ⟨(H).length + 0, 0, none⟩)), (3, .pointer (some ⟨(H).length + 1, 0, none⟩)), (5, .int .i64 ((j : Int)))]) (fun j h_ m_ => h_ = H ++ [CO.row [.int .i64 (g.k), .slice (p).1 (g.ws).length (p).2, .int .i64 (g.b), .int .i64 (g.f)] true none, CO.row [.int .i64 (h.k), .slice (q).1 (h.ws).length (q).2, .int .i64 (h.b), .int .i64 (h.f)] true none] ∧ m_ = [] ∧ j ≤ g.ws.length ∧ ∀ x ∈ g.ws.take j, x ∈ h.ws → axisM g x ≠ 0 ∧ axisM g x = axisM h x) (fun j => g.ws.length - j) (0) ⟨rfl, rfl, rfl, trivial⟩ ⟨rfl, rfl, ?_⟩ ?_
      · simp
      rintro j fr0 h0 m0 ⟨rfl, rfl, inv0⟩ K0 hN0 hR0 hE0
      refine AX_seq (AX_seq (AX_E (E_mv (v := .int .i64 ((j : Int))) rfl (E_fa rfl (E_ldO (k := 0) (v := .slice _ _ _) rfl rfl (E_len (n := (g.ws).length) rfl (E_lssS rfl rfl (fun c44 => ?_) (fun c44 => ?_))))))))
      · refine E_nil (AX_condT rfl (AX_skip ?_))
        refine AX_cut (X := Unit) (fun _ => [(2, .pointer (some ⟨(H).length + 0, 0, none⟩)), (3, .pointer (some ⟨(H).length + 1, 0, none⟩)), (5, .int .i64 ((j : Int)))]) (fun _ h_ m_ => h_ = H ++ [CO.row [.int .i64 (g.k), .slice (p).1 (g.ws).length (p).2, .int .i64 (g.b), .int .i64 (g.f)] true none, CO.row [.int .i64 (h.k), .slice (q).1 (h.ws).length (q).2, .int .i64 (h.b), .int .i64 (h.f)] true none] ∧ m_ = [] ∧ (g.ws[j] ∈ h.ws → axisM g g.ws[j] ≠ 0 ∧ axisM g g.ws[j] = axisM h g.ws[j])) ?_ ?_
        · intro Kc70 hNc70 hRc70 hEc70
          refine AX_block (AX_seq (AX_E (E_fa rfl (E_ldO (k := 0) (v := .slice _ _ _) rfl rfl (E_mv (v := .int .i64 ((j : Int))) rfl (have ix1 : j < (g.ws).length := (by first | omega | (simp; done) | (simp; omega)); E_iaIb (j := j) rfl hv rfl rfl rfl ix1 fun b1 o1 w1 => (E_ldB (v := .int .i64 (g.ws[j]'ix1)) rfl w1 (E_mv (v := .int .i64 (g.ws[j]'ix1)) rfl (E_nil (AX_seq (AX_E (E_fa rfl (E_ldO (k := 1) (v := .slice _ _ _) rfl rfl (E_mv (v := .int .i64 (g.ws[j]'ix1)) rfl (E_callP rfl (has_ret _ _ _ _ hu.app (by first | omega | (simp; done) | (simp; omega))) (fun c55 => ?_) (fun c55 => ?_))))))))))))))))
          · refine E_mv (v := .bool _) rfl (E_on rfl (E_ldON (k := 0) rfl rfl (E_on rfl (E_mv (v := .int .i64 (g.ws[j]'ix1)) rfl (E_on rfl (E_callV rfl (axis_ret _ _ _ _ hv.app (by assumption)) (E_on rfl (E_eqlS rfl rfl (fun c60 => ?_) (fun c60 => ?_)))))))))
            · refine E_on rfl (E_mv (v := .bool _) rfl (E_notF rfl (E_notF rfl (E_notF rfl (E_notF rfl (E_notF rfl (E_notF rfl (E_notF rfl (E_on rfl (E_pickT rfl (v := .bool _) rfl (E_pickT rfl (v := .bool _) rfl (E_nil (AX_condT rfl (AX_seq (AX_E (E_mv (v := .bool _) rfl (E_nil (AX_ret (hRc70 _ _ _ (hR0 _ _ _ ?_))))))))))))))))))))
              refine ⟨_, rfl, by simp, ?_, forget_flat rfl (List.prefix_append _ _)⟩
              -- r14
              clear hN0 hR0 hE0 hNc70 hRc70 hEc70
              refine congrArg (Value.bool) ?_
              refine (decide_eq_false ?_).symm
              rw [commM, if_neg invc36]
              rintro (x | ⟨_, x⟩)
              · exact x c9
              · exact (x _ (List.getElem_mem _) c55).1 c60
            · refine E_on rfl (E_mv (v := .bool _) rfl (E_on rfl (E_ldON (k := 0) rfl rfl (E_on rfl (E_mv (v := .int .i64 (g.ws[j]'ix1)) rfl (E_on rfl (E_callV rfl (axis_ret _ _ _ _ hv.app (by assumption)) (E_on rfl (E_ldON (k := 1) rfl rfl (E_on rfl (E_mv (v := .int .i64 (g.ws[j]'ix1)) rfl (E_on rfl (E_callV rfl (axis_ret _ _ _ _ hu.app (by assumption)) (E_on rfl (E_neqS rfl rfl (fun c68 => ?_) (fun c68 => ?_))))))))))))))))
              · refine E_on rfl (E_pickF rfl (v := .bool _) rfl (E_pickT rfl (v := .bool _) rfl (E_nil (AX_condT rfl (AX_seq (AX_E (E_mv (v := .bool _) rfl (E_nil (AX_ret (hRc70 _ _ _ (hR0 _ _ _ ?_)))))))))))
                refine ⟨_, rfl, by simp, ?_, forget_flat rfl (List.prefix_append _ _)⟩
                -- r15
                clear hN0 hR0 hE0 hNc70 hRc70 hEc70
                refine congrArg (Value.bool) ?_
                refine (decide_eq_false ?_).symm
                rw [commM, if_neg invc36]
                rintro (x | ⟨_, x⟩)
                · exact x c9
                · exact c68 (x _ (List.getElem_mem _) c55).2
              · refine E_on rfl (E_pickF rfl (v := .bool _) rfl (E_pickT rfl (v := .bool _) rfl (E_nil (AX_condF rfl (AX_skip ?_)))))
                refine hNc70 (()) _ _ _ ⟨by first | rfl | (congr 1; omega), by first | rfl | (congr 1; omega), by first | rfl | (congr 1; omega), trivial⟩ ⟨rfl, rfl, ?_⟩
                -- u16
                clear hN0 hR0 hE0 hNc70 hRc70 hEc70
                first | (intro hx; exact absurd hx (by assumption)) | (intro _; exact ⟨by assumption, by assumption⟩)
          · refine E_mv (v := .bool _) rfl (E_notT rfl (E_notT rfl (E_notT rfl (E_notT rfl (E_notT rfl (E_notU rfl (E_notU rfl (E_notU rfl (E_notU rfl (E_notU rfl (E_notU rfl (E_notU rfl (E_notT rfl (E_pickF rfl (v := .bool _) rfl (E_nil (AX_condF rfl (AX_skip ?_)))))))))))))))))
            refine hNc70 (()) _ _ _ ⟨by first | rfl | (congr 1; omega), by first | rfl | (congr 1; omega), by first | rfl | (congr 1; omega), trivial⟩ ⟨rfl, rfl, ?_⟩
            -- u17
            clear hN0 hR0 hE0 hNc70 hRc70 hEc70
            first | (intro hx; exact absurd hx (by assumption)) | (intro _; exact ⟨by assumption, by assumption⟩)
        rintro ⟨⟩ frc70 hc70 mc70 ⟨rfl, rfl, invc70⟩
        refine AX_E (E_mv (v := .int .i64 ((j : Int))) rfl (E_addI rfl rfl (by first | omega | (simp; done) | (simp; omega)) (by first | omega | (simp; done) | (simp; omega)) (E_mv (v := .int .i64 (((j : Int) + 1))) rfl (E_nil ?_))))
        refine hN0 (j + 1) _ _ _ ⟨by first | rfl | (congr 1; omega), by first | rfl | (congr 1; omega), by first | rfl | (congr 1; omega), trivial⟩ ⟨rfl, rfl, ?_⟩ ?_
        -- n18
        all_goals clear hN0 hR0 hE0
        · exact ⟨by omega, all_next (by omega) inv0.2 invc70⟩
        · (first | omega | (simp; omega))
      · refine E_nil (AX_condF rfl (AX_exit (hE0 _ _ _ _ ?_)))
        have e0 := all_all c44 inv0.2
        refine AX_seq (AX_E (E_mv (v := .bool _) rfl (E_nil (AX_ret ?_))))
        refine ⟨_, rfl, by simp, ?_, forget_flat rfl (List.prefix_append _ _)⟩
        -- r19
        clear hN0 hR0 hE0
        refine congrArg (Value.bool) ?_
        refine (decide_eq_true ?_).symm
        rw [commM, if_neg invc36]
        exact .inr ⟨c13, e0⟩
  · refine E_notV rfl rfl (E_nil (AX_condT rfl (AX_seq (AX_E (E_mv (v := .bool _) rfl (E_nil (AX_ret ?_)))))))
    refine ⟨_, rfl, by simp, ?_, forget_flat rfl (List.prefix_append _ _)⟩
    -- r20
    refine congrArg (Value.bool) ?_
    refine (decide_eq_true ?_).symm
    simp [commM, *]
theorem undo_ret (H : Heap) (g h : G) (p q : Pl) {S S' : Nat → Prop} (hv : Ints S H p g.ws) (hu : Ints S' H q h.ws) (hg : GR g) (hh : GR h) : Ret (tab Try.prog) 13 [gv g p, gv h q] H (.bool (decide (undoM g h))) H := by
  have l1 := hg.len
  have l2 := hh.len
  have a1 := hg.ar
  have a2 := hh.ar
  have al : g.k = 11 ∨ g.k = 10 → 2 ≤ g.ws.length := by
    intro e
    have : arityM g.k = 2 := by rcases e with e | e <;> rw [e] <;> rfl
    omega
  have al3 : ∀ g : G, GR g → g.k = 12 → 3 ≤ g.ws.length := by
    intro g hg e
    have : arityM g.k = 3 := by rw [e]; rfl
    have := hg.ar
    omega
  have al4 := al3 g hg
  have al5 : g.k = 12 → h.k = oppM g.k → 3 ≤ h.ws.length := fun e f => al3 h hh (by rw [f, e]; rfl)
  refine Ret_own k13 rfl ?_
  refine AX_seq (AX_E (E_boxA rfl (E_boxA rfl (E_mv (v := .bool _) rfl (E_nil ?_)))))
  refine AX_cut (X := Unit) (fun _ => [(2, .pointer (some ⟨(H).length + 0, 0, none⟩)), (3, .pointer (some ⟨(H).length + 1, 0, none⟩))]) (fun _ h_ m_ => h_ = H ++ [CO.row [.int .i64 (g.k), .slice (p).1 (g.ws).length (p).2, .int .i64 (g.b), .int .i64 (g.f)] true none, CO.row [.int .i64 (h.k), .slice (q).1 (h.ws).length (q).2, .int .i64 (h.b), .int .i64 (h.f)] true none] ∧ m_ = [] ∧ g.f = h.f ∧ g.k < 13 ∧ h.k = oppM g.k) ?_ ?_
  · intro Kc22 hNc22 hRc22 hEc22
    refine AX_seq (AX_E (E_fa rfl (E_ldO (k := 0) (v := .int .i64 (g.f)) rfl rfl (E_fa rfl (E_ldO (k := 1) (v := .int .i64 (h.f)) rfl rfl (E_neqS rfl rfl (fun c9 => ?_) (fun c9 => ?_)))))))
    · refine E_mv (v := .bool _) rfl (E_notF rfl (E_notF rfl (E_notF rfl (E_pickT rfl (v := .bool _) rfl (E_mv (v := .bool _) rfl (E_notF rfl (E_notF rfl (E_notF rfl (E_notF rfl (E_notF rfl (E_notF rfl (E_pickT rfl (v := .bool _) rfl (E_nil (AX_condT rfl (AX_seq (AX_E (E_mv (v := .bool _) rfl (E_nil (AX_ret (hRc22 _ _ _ ?_))))))))))))))))))))
      refine ⟨_, rfl, by simp, ?_, forget_flat rfl (List.prefix_append _ _)⟩
      -- r1
      clear hNc22 hRc22 hEc22
      refine congrArg (Value.bool) ?_
      refine (decide_eq_false ?_).symm
      first | (rw [undoM]; omega) | simp [undoM, *]
    · refine E_mv (v := .bool _) rfl (E_on rfl (E_fa rfl (E_on rfl (E_ldO (k := 0) (v := .int .i64 (g.k)) rfl rfl (E_on rfl (E_geqS rfl rfl (fun c13 => ?_) (fun c13 => ?_)))))))
      · refine E_pickF rfl (v := .bool _) rfl (E_mv (v := .bool _) rfl (E_notF rfl (E_notF rfl (E_notF rfl (E_notF rfl (E_notF rfl (E_notF rfl (E_pickT rfl (v := .bool _) rfl (E_nil (AX_condT rfl (AX_seq (AX_E (E_mv (v := .bool _) rfl (E_nil (AX_ret (hRc22 _ _ _ ?_))))))))))))))))
        refine ⟨_, rfl, by simp, ?_, forget_flat rfl (List.prefix_append _ _)⟩
        -- r2
        clear hNc22 hRc22 hEc22
        refine congrArg (Value.bool) ?_
        refine (decide_eq_false ?_).symm
        first | (rw [undoM]; omega) | simp [undoM, *]
      · refine E_pickF rfl (v := .bool _) rfl (E_mv (v := .bool _) rfl (E_on rfl (E_fa rfl (E_on rfl (E_ldO (k := 1) (v := .int .i64 (h.k)) rfl rfl (E_on rfl (E_fa rfl (E_on rfl (E_ldO (k := 0) (v := .int .i64 (g.k)) rfl rfl (E_on rfl (E_callV rfl (opp_ret _ _) (E_on rfl (E_neqS rfl rfl (fun c21 => ?_) (fun c21 => ?_))))))))))))))
        · refine E_pickF rfl (v := .bool _) rfl (E_nil (AX_condT rfl (AX_seq (AX_E (E_mv (v := .bool _) rfl (E_nil (AX_ret (hRc22 _ _ _ ?_))))))))
          refine ⟨_, rfl, by simp, ?_, forget_flat rfl (List.prefix_append _ _)⟩
          -- r3
          clear hNc22 hRc22 hEc22
          refine congrArg (Value.bool) ?_
          refine (decide_eq_false ?_).symm
          first | (rw [undoM]; omega) | simp [undoM, *]
        · refine E_pickF rfl (v := .bool _) rfl (E_nil (AX_condF rfl (AX_skip ?_)))
          refine hNc22 (()) _ _ _ ⟨by first | rfl | (congr 1; omega), by first | rfl | (congr 1; omega), trivial⟩ ⟨rfl, rfl, ?_⟩
          -- u4
          clear hNc22 hRc22 hEc22
          omega
  rintro ⟨⟩ frc22 hc22 mc22 ⟨rfl, rfl, invc22⟩
  refine AX_seq (AX_seq (AX_E (E_fa rfl (E_ldO (k := 0) (v := .int .i64 (g.k)) rfl rfl (E_nil (AX_block (AX_seq (AX_seq (AX_E (E_eqlS rfl rfl (fun c26 => ?_) (fun c26 => ?_)))))))))))
  · refine E_mv (v := .bool _) rfl (E_nil (AX_condT rfl (AX_skip (AX_condT rfl (AX_seq (AX_E (E_ldON (k := 0) rfl rfl (E_ldON (k := 1) rfl rfl (E_callP rfl (alike_ret _ _ _ _ _ hv.app hu.app (by first | omega | (simp; done) | (simp; omega)) (by first | omega | (simp; done) | (simp; omega))) (fun c30 => ?_) (fun c30 => ?_))))))))))
    · refine E_mv (v := .bool _) rfl (E_nil (AX_ret ?_))
      refine ⟨_, rfl, by simp, ?_, forget_flat rfl (List.prefix_append _ _)⟩
      -- r5
      refine congrArg (Value.bool) ?_
      refine (decide_eq_true ?_).symm
      first | (rw [undoM]; omega) | simp [undoM, *]
    · refine E_mv (v := .bool _) rfl (E_nil (AX_ret ?_))
      refine ⟨_, rfl, by simp, ?_, forget_flat rfl (List.prefix_append _ _)⟩
      -- r6
      refine congrArg (Value.bool) ?_
      refine (decide_eq_false ?_).symm
      first | (rw [undoM]; omega) | simp [undoM, *]
  · refine E_mv (v := .bool _) rfl (E_nil (AX_condF rfl (AX_E (E_eqlS rfl rfl (fun c27 => ?_) (fun c27 => ?_)))))
    · refine E_mv (v := .bool _) rfl (E_nil (AX_condT rfl (AX_seq (AX_E (E_ldON (k := 0) rfl rfl (E_ldON (k := 1) rfl rfl (E_callP rfl (alike_ret _ _ _ _ _ hv.app hu.app (by first | omega | (simp; done) | (simp; omega)) (by first | omega | (simp; done) | (simp; omega))) (fun c30 => ?_) (fun c30 => ?_))))))))
      · refine E_mv (v := .bool _) rfl (E_nil (AX_ret ?_))
        refine ⟨_, rfl, by simp, ?_, forget_flat rfl (List.prefix_append _ _)⟩
        -- r7
        refine congrArg (Value.bool) ?_
        refine (decide_eq_true ?_).symm
        first | (rw [undoM]; omega) | simp [undoM, *]
      · refine E_mv (v := .bool _) rfl (E_nil (AX_ret ?_))
        refine ⟨_, rfl, by simp, ?_, forget_flat rfl (List.prefix_append _ _)⟩
        -- r8
        refine congrArg (Value.bool) ?_
        refine (decide_eq_false ?_).symm
        first | (rw [undoM]; omega) | simp [undoM, *]
    · refine E_mv (v := .bool _) rfl (E_nil (AX_condF rfl (AX_seq (AX_E (E_eqlS rfl rfl (fun c32 => ?_) (fun c32 => ?_))))))
      · refine E_mv (v := .bool _) rfl (E_nil (AX_condT rfl (AX_seq (AX_E (E_fa rfl (E_ldO (k := 0) (v := .slice _ _ _) rfl rfl (have ix1 : 2 < (g.ws).length := (by first | omega | (simp; done) | (simp; omega)); E_iaIb (j := 2) rfl hv rfl rfl rfl ix1 fun b1 o1 w1 => (E_ldB (v := .int .i64 (g.ws[2]'ix1)) rfl w1 (E_fa rfl (E_ldO (k := 1) (v := .slice _ _ _) rfl rfl (have ix2 : 2 < (h.ws).length := (by first | omega | (simp; done) | (simp; omega)); E_iaIb (j := 2) rfl hu rfl rfl rfl ix2 fun b2 o2 w2 => (E_ldB (v := .int .i64 (h.ws[2]'ix2)) rfl w2 (E_eqlS rfl rfl (fun c41 => ?_) (fun c41 => ?_))))))))))))))
        · refine E_mv (v := .bool _) rfl (E_on rfl (E_ldON (k := 0) rfl rfl (E_on rfl (E_ldON (k := 1) rfl rfl (E_on rfl (E_callP rfl (alike_ret _ _ _ _ _ hv.app hu.app (by first | omega | (simp; done) | (simp; omega)) (by first | omega | (simp; done) | (simp; omega))) (fun c45 => ?_) (fun c45 => ?_)))))))
          · refine E_pickT rfl (v := .bool _) rfl (E_mv (v := .bool _) rfl (E_nil (AX_ret ?_)))
            refine ⟨_, rfl, by simp, ?_, forget_flat rfl (List.prefix_append _ _)⟩
            -- r9
            refine congrArg (Value.bool) ?_
            refine (decide_eq_true ?_).symm
            simp only [undoM, ← getD_at (show 2 < g.ws.length by omega), ← getD_at (show 2 < h.ws.length by omega)]
            simp [*]
          · refine E_pickT rfl (v := .bool _) rfl (E_mv (v := .bool _) rfl (E_nil (AX_ret ?_)))
            refine ⟨_, rfl, by simp, ?_, forget_flat rfl (List.prefix_append _ _)⟩
            -- r10
            refine congrArg (Value.bool) ?_
            refine (decide_eq_false ?_).symm
            simp only [undoM, ← getD_at (show 2 < g.ws.length by omega), ← getD_at (show 2 < h.ws.length by omega)]
            simp [*]
        · refine E_mv (v := .bool _) rfl (E_notT rfl (E_notT rfl (E_notT rfl (E_pickF rfl (v := .bool _) rfl (E_mv (v := .bool _) rfl (E_nil (AX_ret ?_)))))))
          refine ⟨_, rfl, by simp, ?_, forget_flat rfl (List.prefix_append _ _)⟩
          -- r11
          refine congrArg (Value.bool) ?_
          refine (decide_eq_false ?_).symm
          simp only [undoM, ← getD_at (show 2 < g.ws.length by omega), ← getD_at (show 2 < h.ws.length by omega)]
          simp [*]
      · refine E_mv (v := .bool _) rfl (E_nil (AX_condF rfl (AX_skip (AX_seq (AX_E (E_fa rfl (E_ldO (k := 0) (v := .slice _ _ _) rfl rfl (E_mk (cs := [.int .i64 (0), .slice (p).1 (g.ws).length (p).2, .int .i64 (0), .int .i64 (0)]) rfl (E_fa rfl (E_ldO (k := 1) (v := .slice _ _ _) rfl rfl (E_mk (cs := [.int .i64 (0), .slice (q).1 (h.ws).length (q).2, .int .i64 (0), .int .i64 (0)]) rfl (E_callP rfl (samegate_ret _ ⟨0, g.ws, 0, 0⟩ ⟨0, h.ws, 0, 0⟩ _ _ hv.app hu.app (by first | omega | (simp; done) | (simp; omega))) (fun c53 => ?_) (fun c53 => ?_)))))))))))))
        · refine E_mv (v := .bool _) rfl (E_nil (AX_ret ?_))
          refine ⟨_, rfl, by simp, ?_, forget_flat rfl (List.prefix_append _ _)⟩
          -- r12
          refine congrArg (Value.bool) ?_
          refine (decide_eq_true ?_).symm
          simp only [G.mk.injEq, true_and, and_true] at c53
          simp [undoM, *]
        · refine E_mv (v := .bool _) rfl (E_nil (AX_ret ?_))
          refine ⟨_, rfl, by simp, ?_, forget_flat rfl (List.prefix_append _ _)⟩
          -- r13
          refine congrArg (Value.bool) ?_
          refine (decide_eq_false ?_).symm
          simp only [G.mk.injEq, true_and, and_true] at c53
          simp [undoM, *]
theorem before_ret (H : Heap) (g h : G) (p q : Pl) {S S' : Nat → Prop} (hv : Ints S H p g.ws) (hu : Ints S' H q h.ws) (hg : GR g) (hh : GR h) : Ret (tab Try.prog) 54 [gv g p, gv h q] H (.bool (decide (beforeM g h))) H := by
  have l1 := hg.len
  have l2 := hh.len
  have ll : g.k = h.k → g.ws.length = h.ws.length := by
    intro e
    have a1 := hg.ar
    have a2 := hh.ar
    rw [e] at a1
    omega
  refine Ret_own k54 rfl ?_
  refine AX_seq (AX_E (E_boxA rfl (E_boxA rfl (E_mv (v := .bool _) rfl (E_nil (AX_seq (AX_seq (AX_E (E_fa rfl (E_ldO (k := 0) (v := .int .i64 (g.k)) rfl rfl (E_fa rfl (E_ldO (k := 1) (v := .int .i64 (h.k)) rfl rfl (E_neqS rfl rfl (fun c10 => ?_) (fun c10 => ?_))))))))))))))
  · refine E_nil (AX_condT rfl (AX_seq (AX_E (E_fa rfl (E_ldO (k := 0) (v := .int .i64 (g.k)) rfl rfl (E_fa rfl (E_ldO (k := 1) (v := .int .i64 (h.k)) rfl rfl (E_lssV rfl rfl (E_mv (v := .bool _) rfl (E_nil (AX_ret ?_)))))))))))
    refine ⟨_, rfl, by simp, ?_, forget_flat rfl (List.prefix_append _ _)⟩
    -- r1
    refine congrArg (Value.bool) ?_
    refine decide_eq_decide.2 ?_
    simp [beforeM, *]
  · refine E_nil (AX_condF rfl (AX_skip (AX_seq (AX_seq (AX_E (E_mv (v := .int .i64 (0)) rfl (E_nil (AX_block ?_))))))))
    refine AX_loopF (γ := Nat) (fun j => [(2, .pointer (some ⟨(H).length + 0, 0, none⟩)), (3, .pointer (some ⟨(H).length + 1, 0, none⟩)), (5, .int .i64 ((j : Int)))]) (fun j h_ m_ => h_ = H ++ [CO.row [.int .i64 (g.k), .slice (p).1 (g.ws).length (p).2, .int .i64 (g.b), .int .i64 (g.f)] true none, CO.row [.int .i64 (h.k), .slice (q).1 (h.ws).length (q).2, .int .i64 (h.b), .int .i64 (h.f)] true none] ∧ m_ = [] ∧ j ≤ g.ws.length ∧ g.ws.take j = h.ws.take j) (fun j => g.ws.length - j) (0) ⟨rfl, rfl, rfl, trivial⟩ ⟨rfl, rfl, ?_⟩ ?_
    · simp
    rintro j fr0 h0 m0 ⟨rfl, rfl, inv0⟩ K0 hN0 hR0 hE0
    refine AX_seq (AX_seq (AX_E (E_mv (v := .int .i64 ((j : Int))) rfl (E_fa rfl (E_ldO (k := 0) (v := .slice _ _ _) rfl rfl (E_len (n := (g.ws).length) rfl (E_lssS rfl rfl (fun c20 => ?_) (fun c20 => ?_))))))))
    · refine E_nil (AX_condT rfl (AX_skip (AX_seq (AX_block (AX_seq (AX_E (E_fa rfl (E_ldO (k := 0) (v := .slice _ _ _) rfl rfl (E_mv (v := .int .i64 ((j : Int))) rfl (have ix1 : j < (g.ws).length := (by first | omega | (simp; done) | (simp; omega)); E_iaIb (j := j) rfl hv rfl rfl rfl ix1 fun b1 o1 w1 => (E_ldB (v := .int .i64 (g.ws[j]'ix1)) rfl w1 (E_fa rfl (E_ldO (k := 1) (v := .slice _ _ _) rfl rfl (E_mv (v := .int .i64 ((j : Int))) rfl (have ix2 : j < (h.ws).length := (by first | omega | (simp; done) | (simp; omega)); E_iaIb (j := j) rfl hu rfl rfl rfl ix2 fun b2 o2 w2 => (E_ldB (v := .int .i64 (h.ws[j]'ix2)) rfl w2 (E_neqS rfl rfl (fun c33 => ?_) (fun c33 => ?_))))))))))))))))))
      · refine E_nil (AX_condT rfl (AX_seq (AX_E (E_fa rfl (E_ldO (k := 0) (v := .slice _ _ _) rfl rfl (E_mv (v := .int .i64 ((j : Int))) rfl (have ix3 : j < (g.ws).length := (by first | omega | (simp; done) | (simp; omega)); E_iaIb (j := j) rfl hv rfl rfl rfl ix3 fun b3 o3 w3 => (E_ldB (v := .int .i64 (g.ws[j]'ix3)) rfl w3 (E_fa rfl (E_ldO (k := 1) (v := .slice _ _ _) rfl rfl (E_mv (v := .int .i64 ((j : Int))) rfl (have ix4 : j < (h.ws).length := (by first | omega | (simp; done) | (simp; omega)); E_iaIb (j := j) rfl hu rfl rfl rfl ix4 fun b4 o4 w4 => (E_ldB (v := .int .i64 (h.ws[j]'ix4)) rfl w4 (E_lssV rfl rfl (E_mv (v := .bool _) rfl (E_nil (AX_ret (hR0 _ _ _ ?_))))))))))))))))))
        refine ⟨_, rfl, by simp, ?_, forget_flat rfl (List.prefix_append _ _)⟩
        -- r2
        clear hN0 hR0 hE0
        refine congrArg (Value.bool) ?_
        refine decide_eq_decide.2 ?_
        have ne : g.ws ≠ h.ws := fun e => c33 (by simp [e])
        rw [beforeM, if_neg (by omega), if_pos ne, wsLt_at (by omega) (by omega) inv0.2 c33]
      · refine E_nil (AX_condF rfl (AX_skip (AX_E (E_mv (v := .int .i64 ((j : Int))) rfl (E_addI rfl rfl (by first | omega | (simp; done) | (simp; omega)) (by first | omega | (simp; done) | (simp; omega)) (E_mv (v := .int .i64 (((j : Int) + 1))) rfl (E_nil ?_)))))))
        refine hN0 (j + 1) _ _ _ ⟨by first | rfl | (congr 1; omega), by first | rfl | (congr 1; omega), by first | rfl | (congr 1; omega), trivial⟩ ⟨rfl, rfl, ?_⟩ ?_
        -- n3
        all_goals clear hN0 hR0 hE0
        · exact ⟨by omega, take_eq_next (by omega) (by omega) inv0.2 c33⟩
        · (first | omega | (simp; omega))
    · refine E_nil (AX_condF rfl (AX_exit (hE0 _ _ _ _ ?_)))
      have e0 := take_eq_all c20 (by omega) inv0.2
      refine AX_seq (AX_seq (AX_E (E_fa rfl (E_ldO (k := 0) (v := .int .i64 (g.b)) rfl rfl (E_fa rfl (E_ldO (k := 1) (v := .int .i64 (h.b)) rfl rfl (E_neqS rfl rfl (fun c49 => ?_) (fun c49 => ?_))))))))
      · refine E_nil (AX_condT rfl (AX_seq (AX_E (E_fa rfl (E_ldO (k := 0) (v := .int .i64 (g.b)) rfl rfl (E_fa rfl (E_ldO (k := 1) (v := .int .i64 (h.b)) rfl rfl (E_lssV rfl rfl (E_mv (v := .bool _) rfl (E_nil (AX_ret ?_)))))))))))
        refine ⟨_, rfl, by simp, ?_, forget_flat rfl (List.prefix_append _ _)⟩
        -- r4
        clear hN0 hR0 hE0
        refine congrArg (Value.bool) ?_
        refine decide_eq_decide.2 ?_
        simp [beforeM, *]
      · refine E_nil (AX_condF rfl (AX_skip (AX_seq (AX_E (E_fa rfl (E_ldO (k := 0) (v := .int .i64 (g.f)) rfl rfl (E_fa rfl (E_ldO (k := 1) (v := .int .i64 (h.f)) rfl rfl (E_lssV rfl rfl (E_mv (v := .bool _) rfl (E_nil (AX_ret ?_))))))))))))
        refine ⟨_, rfl, by simp, ?_, forget_flat rfl (List.prefix_append _ _)⟩
        -- r5
        clear hN0 hR0 hE0
        refine congrArg (Value.bool) ?_
        refine decide_eq_decide.2 ?_
        simp [beforeM, *]
end Go.Canon
namespace Go.Canon
open Go Go.Proofs
set_option linter.unusedVariables false
set_option linter.unusedSimpArgs false
theorem firstErr_take {w b : Int} {l : List G} {j : Nat} (hj : j < l.length) (H : ∀ g ∈ l.take j, cgM g w b = 0) (hn : cgM l[j] w b ≠ 0) : firstErr w b l = cgM l[j] w b := by
  induction l generalizing j with
  | nil => simp at hj
  | cons g gs ih =>
    cases j with
    | zero => simp at hn; simp [firstErr, hn]
    | succ j =>
      simp only [List.getElem_cons_succ] at hn ⊢
      have h0 := H g (by simp)
      rw [firstErr, if_neg (by simp [h0])]
      exact ih (by simpa using hj) (fun x hx => H x (by simp [hx])) hn
theorem firstErr_all {w b : Int} {l : List G} (H : ∀ g ∈ l, cgM g w b = 0) : firstErr w b l = 0 := by
  induction l with
  | nil => rfl
  | cons g gs ih => rw [firstErr, if_neg (by simp [H g (by simp)])]; exact ih fun x hx => H x (by simp [hx])
theorem all_of_firstErr {w b : Int} {l : List G} (H : firstErr w b l = 0) : ∀ g ∈ l, cgM g w b = 0 := by
  induction l with
  | nil => simp
  | cons g gs ih =>
    rw [firstErr] at H
    split at H
    · rename_i h; exact (h H).elim
    · rename_i h
      intro x hx
      rcases List.mem_cons.1 hx with rfl | hx
      · simpa using h
      · exact ih H x hx
/-- A right circuit. -/
structure CR (c : C) : Prop where
  w0 : 1 ≤ c.w ∧ c.w ≤ 12
  b0 : 0 ≤ c.b ∧ c.b ≤ 8
  n0 : c.gs.length ≤ 120
  cg : ∀ g ∈ c.gs, cgM g c.w c.b = 0
theorem CR.of {c : C} (h : checkM c = 0) : CR c := by
  unfold checkM at h
  split at h <;> try omega
  split at h <;> try omega
  exact ⟨by omega, by omega, by omega, all_of_firstErr h⟩
theorem CR.gr {c : C} (h : CR c) {g : G} (hg : g ∈ c.gs) : GR g := GR.of (h.cg g hg) h.w0.2 h.b0.2
theorem takeG_next {a b : List G} {j : Nat} (h1 : j < a.length) (h2 : j < b.length) (H : a.take j = b.take j) (e : a[j] = b[j]) : a.take (j + 1) = b.take (j + 1) := by
  rw [List.take_succ_eq_append_getElem h1, List.take_succ_eq_append_getElem h2, H, e]
theorem takeG_all {a b : List G} {j : Nat} (h1 : ¬ (j : Int) < (a.length : Int)) (h2 : a.length = b.length) (H : a.take j = b.take j) : a = b := by
  rwa [List.take_of_length_le (by omega), List.take_of_length_le (by omega)] at H
theorem check_ret (H : Heap) (c : C) (p : Pl) {S : Nat → Prop} (hv : Gates S H p c.gs) (hl : c.gs.length < 4611686018427387904) : Ret (tab Try.prog) 9 [cv c p] H (.int .i64 (checkM c)) H := by
  refine Ret_own k9 rfl ?_
  refine AX_seq (AX_E (E_boxA rfl (E_mv (v := .int .i64 (0)) rfl (E_nil ?_))))
  refine AX_cut (X := Unit) (fun _ => [(1, .pointer (some ⟨(H).length + 0, 0, none⟩))]) (fun _ h_ m_ => h_ = H ++ [CO.row [.int .i64 (c.w), .int .i64 (c.b), .slice (p).1 (c.gs).length (p).2] true none] ∧ m_ = [] ∧ ¬ ((c.w < 1 ∨ 12 < c.w) ∨ (c.b < 0 ∨ 8 < c.b))) ?_ ?_
  · intro Kc12 hNc12 hRc12 hEc12
    refine AX_seq (AX_E (E_fa rfl (E_ldO (k := 0) (v := .int .i64 (c.w)) rfl rfl (E_callP rfl (off_ret _ _ _ _) (fun c7 => ?_) (fun c7 => ?_)))))
    · refine E_mv (v := .bool _) rfl (E_notF rfl (E_notF rfl (E_notF rfl (E_pickT rfl (v := .bool _) rfl (E_nil (AX_condT rfl (AX_seq (AX_E (E_mv (v := .int .i64 (3)) rfl (E_nil (AX_ret (hRc12 _ _ _ ?_))))))))))))
      refine ⟨_, rfl, by simp, ?_, forget_flat rfl (List.prefix_append _ _)⟩
      -- r1
      clear hNc12 hRc12 hEc12
      refine congrArg (Value.int _) ?_
      rw [checkM]
      (repeat' split) <;> omega
    · refine E_mv (v := .bool _) rfl (E_on rfl (E_fa rfl (E_on rfl (E_ldO (k := 0) (v := .int .i64 (c.b)) rfl rfl (E_on rfl (E_callP rfl (off_ret _ _ _ _) (fun c11 => ?_) (fun c11 => ?_)))))))
      · refine E_pickF rfl (v := .bool _) rfl (E_nil (AX_condT rfl (AX_seq (AX_E (E_mv (v := .int .i64 (3)) rfl (E_nil (AX_ret (hRc12 _ _ _ ?_))))))))
        refine ⟨_, rfl, by simp, ?_, forget_flat rfl (List.prefix_append _ _)⟩
        -- r2
        clear hNc12 hRc12 hEc12
        refine congrArg (Value.int _) ?_
        rw [checkM]
        (repeat' split) <;> omega
      · refine E_pickF rfl (v := .bool _) rfl (E_nil (AX_condF rfl (AX_skip ?_)))
        refine hNc12 (()) _ _ _ ⟨by first | rfl | (congr 1; omega), trivial⟩ ⟨rfl, rfl, ?_⟩
        -- u3
        clear hNc12 hRc12 hEc12
        omega
  rintro ⟨⟩ frc12 hc12 mc12 ⟨rfl, rfl, invc12⟩
  refine AX_seq (AX_seq (AX_E (E_fa rfl (E_ldO (k := 0) (v := .slice _ _ _) rfl rfl (E_len (n := (c.gs).length) rfl (E_gtrS rfl rfl (fun c16 => ?_) (fun c16 => ?_)))))))
  · refine E_nil (AX_condT rfl (AX_seq (AX_E (E_mv (v := .int .i64 (2)) rfl (E_nil (AX_ret ?_))))))
    refine ⟨_, rfl, by simp, ?_, forget_flat rfl (List.prefix_append _ _)⟩
    -- r4
    refine congrArg (Value.int _) ?_
    rw [checkM]
    (repeat' split) <;> omega
  · refine E_nil (AX_condF rfl (AX_skip (AX_seq (AX_seq (AX_E (E_mv (v := .int .i64 (0)) rfl (E_nil (AX_block ?_))))))))
    refine AX_loopF (γ := Nat) (fun j => [(1, .pointer (some ⟨(H).length + 0, 0, none⟩)), (3, .int .i64 ((j : Int)))]) (fun j h_ m_ => h_ = H ++ [CO.row [.int .i64 (c.w), .int .i64 (c.b), .slice (p).1 (c.gs).length (p).2] true none] ∧ m_ = [] ∧ j ≤ c.gs.length ∧ ∀ g ∈ c.gs.take j, cgM g c.w c.b = 0) (fun j => c.gs.length - j) (0) ⟨rfl, rfl, trivial⟩ ⟨rfl, rfl, ?_⟩ ?_
    · simp
    rintro j fr0 h0 m0 ⟨rfl, rfl, inv0⟩ K0 hN0 hR0 hE0
    refine AX_seq (AX_seq (AX_E (E_mv (v := .int .i64 ((j : Int))) rfl (E_fa rfl (E_ldO (k := 0) (v := .slice _ _ _) rfl rfl (E_len (n := (c.gs).length) rfl (E_lssS rfl rfl (fun c21 => ?_) (fun c21 => ?_))))))))
    · refine E_nil (AX_condT rfl (AX_skip (AX_seq (AX_block (AX_seq (AX_E (E_fa rfl (E_ldO (k := 0) (v := .slice _ _ _) rfl rfl (E_mv (v := .int .i64 ((j : Int))) rfl (have ix1 : j < (c.gs).length := (by first | omega | (simp; done) | (simp; omega)); E_iaGb (j := j) rfl hv rfl rfl rfl ix1 fun b1 o1 q1 f1 w1 => (E_ldBN rfl w1 (E_fa rfl (E_ldO (k := 0) (v := .int .i64 (c.w)) rfl rfl (E_fa rfl (E_ldO (k := 0) (v := .int .i64 (c.b)) rfl rfl (E_callV rfl (cg_ret _ _ (c.gs[j]'ix1) _ _ f1.app (by first | omega | (simp; done) | (simp; omega)) (by first | omega | (simp; done) | (simp; omega))) (E_mv (v := .int .i64 (cgM (c.gs[j]'ix1) (c.w) (c.b))) rfl (E_nil (AX_seq (AX_E (E_mv (v := .int .i64 (cgM (c.gs[j]'ix1) (c.w) (c.b))) rfl (E_neqS rfl rfl (fun c35 => ?_) (fun c35 => ?_)))))))))))))))))))))))
      · refine E_nil (AX_condT rfl (AX_seq (AX_E (E_mv (v := .int .i64 (cgM (c.gs[j]'ix1) (c.w) (c.b))) rfl (E_mv (v := .int .i64 (cgM (c.gs[j]'ix1) (c.w) (c.b))) rfl (E_nil (AX_ret (hR0 _ _ _ ?_))))))))
        refine ⟨_, rfl, by simp, ?_, forget_flat rfl (List.prefix_append _ _)⟩
        -- r5
        clear hN0 hR0 hE0
        refine congrArg (Value.int _) ?_
        have e0 := firstErr_take (by omega) inv0.2 c35
        rw [checkM, if_neg invc12, if_neg (by omega), e0]
      · refine E_nil (AX_condF rfl (AX_skip (AX_E (E_mv (v := .int .i64 ((j : Int))) rfl (E_addI rfl rfl (by first | omega | (simp; done) | (simp; omega)) (by first | omega | (simp; done) | (simp; omega)) (E_mv (v := .int .i64 (((j : Int) + 1))) rfl (E_nil ?_)))))))
        refine hN0 (j + 1) _ _ _ ⟨by first | rfl | (congr 1; omega), by first | rfl | (congr 1; omega), trivial⟩ ⟨rfl, rfl, ?_⟩ ?_
        -- n6
        all_goals clear hN0 hR0 hE0
        · exact ⟨by omega, all_next (by omega) inv0.2 c35⟩
        · (first | omega | (simp; omega))
    · refine E_nil (AX_condF rfl (AX_exit (hE0 _ _ _ _ ?_)))
      have e0 := firstErr_all (all_all c21 inv0.2)
      refine AX_seq (AX_E (E_mv (v := .int .i64 (0)) rfl (E_nil (AX_ret ?_))))
      refine ⟨_, rfl, by simp, ?_, forget_flat rfl (List.prefix_append _ _)⟩
      -- r7
      clear hN0 hR0 hE0
      refine congrArg (Value.int _) ?_
      rw [checkM]
      (repeat' split) <;> omega
theorem same_ret (H : Heap) (c d : C) (p q : Pl) {S S' : Nat → Prop} (hv : Gates S H p c.gs) (hu : Gates S' H q d.gs) (hl : c.gs.length < 4611686018427387904) (hw : ∀ g ∈ c.gs, g.ws.length < 4611686018427387904) : Ret (tab Try.prog) 37 [cv c p, cv d q] H (.bool (decide (c = d))) H := by
  have ext : c = d ↔ c.w = d.w ∧ c.b = d.b ∧ c.gs = d.gs := by cases c; cases d; simp
  rw [show decide (c = d) = decide (c.w = d.w ∧ c.b = d.b ∧ c.gs = d.gs) from decide_eq_decide.2 ext]
  refine Ret_own k37 rfl ?_
  refine AX_seq (AX_E (E_boxA rfl (E_boxA rfl (E_mv (v := .bool _) rfl (E_nil (AX_seq (AX_seq (AX_E (E_fa rfl (E_ldO (k := 0) (v := .int .i64 (c.w)) rfl rfl (E_fa rfl (E_ldO (k := 1) (v := .int .i64 (d.w)) rfl rfl (E_neqS rfl rfl (fun c10 => ?_) (fun c10 => ?_))))))))))))))
  · refine E_mv (v := .bool _) rfl (E_notF rfl (E_notF rfl (E_notF rfl (E_notF rfl (E_notF rfl (E_pickT rfl (v := .bool _) rfl (E_mv (v := .bool _) rfl (E_notF rfl (E_notF rfl (E_notF rfl (E_notF rfl (E_notF rfl (E_notF rfl (E_notF rfl (E_pickT rfl (v := .bool _) rfl (E_nil (AX_condT rfl (AX_seq (AX_E (E_mv (v := .bool _) rfl (E_nil (AX_ret ?_))))))))))))))))))))))
    refine ⟨_, rfl, by simp, ?_, forget_flat rfl (List.prefix_append _ _)⟩
    -- r1
    refine congrArg (Value.bool) ?_
    refine (decide_eq_false ?_).symm
    simp [*]
  · refine E_mv (v := .bool _) rfl (E_on rfl (E_fa rfl (E_on rfl (E_ldO (k := 0) (v := .int .i64 (c.b)) rfl rfl (E_on rfl (E_fa rfl (E_on rfl (E_ldO (k := 1) (v := .int .i64 (d.b)) rfl rfl (E_on rfl (E_neqS rfl rfl (fun c16 => ?_) (fun c16 => ?_)))))))))))
    · refine E_pickF rfl (v := .bool _) rfl (E_mv (v := .bool _) rfl (E_notF rfl (E_notF rfl (E_notF rfl (E_notF rfl (E_notF rfl (E_notF rfl (E_notF rfl (E_pickT rfl (v := .bool _) rfl (E_nil (AX_condT rfl (AX_seq (AX_E (E_mv (v := .bool _) rfl (E_nil (AX_ret ?_))))))))))))))))
      refine ⟨_, rfl, by simp, ?_, forget_flat rfl (List.prefix_append _ _)⟩
      -- r2
      refine congrArg (Value.bool) ?_
      refine (decide_eq_false ?_).symm
      simp [*]
    · refine E_pickF rfl (v := .bool _) rfl (E_mv (v := .bool _) rfl (E_on rfl (E_fa rfl (E_on rfl (E_ldO (k := 0) (v := .slice _ _ _) rfl rfl (E_on rfl (E_len (n := (c.gs).length) rfl (E_on rfl (E_fa rfl (E_on rfl (E_ldO (k := 1) (v := .slice _ _ _) rfl rfl (E_on rfl (E_len (n := (d.gs).length) rfl (E_on rfl (E_neqS rfl rfl (fun c25 => ?_) (fun c25 => ?_))))))))))))))))
      · refine E_pickF rfl (v := .bool _) rfl (E_nil (AX_condT rfl (AX_seq (AX_E (E_mv (v := .bool _) rfl (E_nil (AX_ret ?_)))))))
        refine ⟨_, rfl, by simp, ?_, forget_flat rfl (List.prefix_append _ _)⟩
        -- r3
        refine congrArg (Value.bool) ?_
        refine (decide_eq_false ?_).symm
        exact fun e => c25 (by rw [e.2.2])
      · refine E_pickF rfl (v := .bool _) rfl (E_nil (AX_condF rfl (AX_skip (AX_seq (AX_seq (AX_E (E_mv (v := .int .i64 (0)) rfl (E_nil (AX_block ?_)))))))))
        refine AX_loopF (γ := Nat) (fun j => [(2, .pointer (some ⟨(H).length + 0, 0, none⟩)), (3, .pointer (some ⟨(H).length + 1, 0, none⟩)), (5, .int .i64 ((j : Int)))]) (fun j h_ m_ => h_ = H ++ [CO.row [.int .i64 (c.w), .int .i64 (c.b), .slice (p).1 (c.gs).length (p).2] true none, CO.row [.int .i64 (d.w), .int .i64 (d.b), .slice (q).1 (d.gs).length (q).2] true none] ∧ m_ = [] ∧ j ≤ c.gs.length ∧ c.gs.take j = d.gs.take j) (fun j => c.gs.length - j) (0) ⟨rfl, rfl, rfl, trivial⟩ ⟨rfl, rfl, ?_⟩ ?_
        · simp
        rintro j fr0 h0 m0 ⟨rfl, rfl, inv0⟩ K0 hN0 hR0 hE0
        refine AX_seq (AX_seq (AX_E (E_mv (v := .int .i64 ((j : Int))) rfl (E_fa rfl (E_ldO (k := 0) (v := .slice _ _ _) rfl rfl (E_len (n := (c.gs).length) rfl (E_lssS rfl rfl (fun c31 => ?_) (fun c31 => ?_))))))))
        · refine E_nil (AX_condT rfl (AX_skip (AX_seq (AX_block (AX_seq (AX_E (E_fa rfl (E_ldO (k := 0) (v := .slice _ _ _) rfl rfl (E_mv (v := .int .i64 ((j : Int))) rfl (have ix1 : j < (c.gs).length := (by first | omega | (simp; done) | (simp; omega)); E_iaGb (j := j) rfl hv rfl rfl rfl ix1 fun b1 o1 q1 f1 w1 => (E_ldBN rfl w1 (E_fa rfl (E_ldO (k := 1) (v := .slice _ _ _) rfl rfl (E_mv (v := .int .i64 ((j : Int))) rfl (have ix2 : j < (d.gs).length := (by first | omega | (simp; done) | (simp; omega)); E_iaGb (j := j) rfl hu rfl rfl rfl ix2 fun b2 o2 q2 f2 w2 => (E_ldBN rfl w2 (E_callP rfl (samegate_ret _ (c.gs[j]'ix1) (d.gs[j]'ix2) _ _ f1.app f2.app (by exact hw _ (List.getElem_mem _))) (fun c44 => ?_) (fun c44 => ?_))))))))))))))))))
          · refine E_notV rfl rfl (E_nil (AX_condF rfl (AX_skip (AX_E (E_mv (v := .int .i64 ((j : Int))) rfl (E_addI rfl rfl (by first | omega | (simp; done) | (simp; omega)) (by first | omega | (simp; done) | (simp; omega)) (E_mv (v := .int .i64 (((j : Int) + 1))) rfl (E_nil ?_))))))))
            refine hN0 (j + 1) _ _ _ ⟨by first | rfl | (congr 1; omega), by first | rfl | (congr 1; omega), by first | rfl | (congr 1; omega), trivial⟩ ⟨rfl, rfl, ?_⟩ ?_
            -- n4
            all_goals clear hN0 hR0 hE0
            · exact ⟨by omega, takeG_next (by omega) (by omega) inv0.2 c44⟩
            · (first | omega | (simp; omega))
          · refine E_notV rfl rfl (E_nil (AX_condT rfl (AX_seq (AX_E (E_mv (v := .bool _) rfl (E_nil (AX_ret (hR0 _ _ _ ?_))))))))
            refine ⟨_, rfl, by simp, ?_, forget_flat rfl (List.prefix_append _ _)⟩
            -- r5
            clear hN0 hR0 hE0
            refine congrArg (Value.bool) ?_
            refine (decide_eq_false ?_).symm
            exact fun e => c44 (by simp [e.2.2])
        · refine E_nil (AX_condF rfl (AX_exit (hE0 _ _ _ _ ?_)))
          have e0 := takeG_all c31 (by omega) inv0.2
          refine AX_seq (AX_E (E_mv (v := .bool _) rfl (E_nil (AX_ret ?_))))
          refine ⟨_, rfl, by simp, ?_, forget_flat rfl (List.prefix_append _ _)⟩
          -- r6
          clear hN0 hR0 hE0
          refine congrArg (Value.bool) ?_
          refine (decide_eq_true ?_).symm
          simp [*]
end Go.Canon
namespace Go.Canon
open Go Go.Proofs
set_option linter.unusedVariables false
set_option linter.unusedSimpArgs false
def kf34 : KFunc := ⟨1, 20, [.tmp 2], .seq (.reg [⟨some 2, .mv (.c (.int .i64 0)), none⟩] []) (.seq (.block 0 (.seq (.reg [⟨some 4, .mv (.t 0), none⟩, ⟨some 5, .bin .eql (.t 4) (.c (.int .i64 12)), none⟩, ⟨some 3, .mv (.t 5), none⟩] []) (.cond (.t 3) (.seq (.reg [⟨some 2, .mv (.c (.int .i64 3)), none⟩] []) .ret) (.seq (.reg [⟨some 7, .mv (.t 0), none⟩, ⟨some 8, .bin .geq (.t 7) (.c (.int .i64 9)), none⟩, ⟨some 9, .mv (.t 8), none⟩, ⟨some 10, .mv (.t 0), some (9, true)⟩, ⟨some 11, .bin .leq (.t 10) (.c (.int .i64 11)), some (9, true)⟩, ⟨some 12, .pick (.t 9) (.t 11) (.c (.bool false)), none⟩, ⟨some 6, .mv (.t 12), none⟩] []) (.cond (.t 6) (.seq (.reg [⟨some 2, .mv (.c (.int .i64 2)), none⟩] []) .ret) (.seq (.reg [⟨some 14, .mv (.t 0), none⟩, ⟨some 15, .bin .geq (.t 14) (.c (.int .i64 1)), none⟩, ⟨some 16, .mv (.t 15), none⟩, ⟨some 17, .mv (.t 0), some (16, true)⟩, ⟨some 18, .bin .leq (.t 17) (.c (.int .i64 14)), some (16, true)⟩, ⟨some 19, .pick (.t 16) (.t 18) (.c (.bool false)), none⟩, ⟨some 13, .mv (.t 19), none⟩] []) (.cond (.t 13) (.seq (.reg [⟨some 2, .mv (.c (.int .i64 1)), none⟩] []) .ret) .skip))))))) (.seq (.reg [⟨some 2, .mv (.c (.int .i64 0)), none⟩] []) .ret))⟩
theorem k34 : tab Try.prog 34 = some kf34 := by kernel_rfl
def kf93 : KFunc := ⟨2, 30, [.tmp 4], .seq (.reg [⟨some 2, .box (.t 0), none⟩, ⟨some 4, .mv (.c (.int .i64 0)), none⟩] []) (.seq (.seq (.reg [⟨some 5, .fa (.t 2) 0, none⟩, ⟨some 6, .ld (.t 5) none, none⟩] []) (.block 0 (.seq (.seq (.reg [⟨some 8, .bin .eql (.t 6) (.c (.int .i64 3)), none⟩, ⟨some 7, .mv (.t 8), none⟩] []) (.cond (.t 7) .skip (.seq (.reg [⟨some 9, .bin .eql (.t 6) (.c (.int .i64 5)), none⟩, ⟨some 7, .mv (.t 9), none⟩] []) (.cond (.t 7) .skip (.seq (.reg [⟨some 10, .bin .eql (.t 6) (.c (.int .i64 6)), none⟩, ⟨some 7, .mv (.t 10), none⟩] []) (.cond (.t 7) .skip (.seq (.reg [⟨some 11, .bin .eql (.t 6) (.c (.int .i64 7)), none⟩, ⟨some 7, .mv (.t 11), none⟩] []) (.cond (.t 7) .skip (.seq (.reg [⟨some 12, .bin .eql (.t 6) (.c (.int .i64 8)), none⟩, ⟨some 7, .mv (.t 12), none⟩] []) (.cond (.t 7) .skip (.seq (.reg [⟨some 13, .bin .eql (.t 6) (.c (.int .i64 10)), none⟩, ⟨some 7, .mv (.t 13), none⟩] []) (.cond (.t 7) .skip (.reg [⟨some 14, .bin .eql (.t 6) (.c (.int .i64 13)), none⟩, ⟨some 7, .mv (.t 14), none⟩] []))))))))))))) (.cond (.t 7) (.seq (.reg [⟨some 4, .mv (.c (.int .i64 3)), none⟩] []) .ret) (.seq (.reg [⟨some 16, .bin .eql (.t 6) (.c (.int .i64 1)), none⟩, ⟨some 15, .mv (.t 16), none⟩] []) (.cond (.t 15) (.seq (.reg [⟨some 4, .mv (.c (.int .i64 1)), none⟩] []) .ret) (.seq (.reg [⟨some 18, .bin .eql (.t 6) (.c (.int .i64 2)), none⟩, ⟨some 17, .mv (.t 18), none⟩] []) (.cond (.t 17) (.seq (.reg [⟨some 4, .mv (.c (.int .i64 2)), none⟩] []) .ret) (.seq (.reg [⟨some 20, .bin .eql (.t 6) (.c (.int .i64 4)), none⟩, ⟨some 19, .mv (.t 20), none⟩] []) (.cond (.t 19) (.seq (.reg [⟨some 4, .mv (.c (.int .i64 4)), none⟩] []) .ret) (.seq (.seq (.reg [⟨some 22, .bin .eql (.t 6) (.c (.int .i64 9)), none⟩, ⟨some 21, .mv (.t 22), none⟩] []) (.cond (.t 21) .skip (.reg [⟨some 23, .bin .eql (.t 6) (.c (.int .i64 12)), none⟩, ⟨some 21, .mv (.t 23), none⟩] []))) (.cond (.t 21) (.seq (.seq (.reg [⟨some 24, .mv (.t 1), none⟩, ⟨some 25, .fa (.t 2) 1, none⟩, ⟨some 26, .ld (.t 25) none, none⟩, ⟨some 27, .len (.t 26), none⟩, ⟨some 28, .bin .sub (.t 27) (.c (.int .i64 1)), none⟩, ⟨some 29, .bin .eql (.t 24) (.t 28), none⟩] []) (.cond (.t 29) (.seq (.reg [⟨some 4, .mv (.c (.int .i64 1)), none⟩] []) .ret) .skip)) (.seq (.reg [⟨some 4, .mv (.c (.int .i64 3)), none⟩] []) .ret)) .skip)))))))))))) (.seq (.reg [⟨some 4, .mv (.c (.int .i64 0)), none⟩] []) .ret))⟩
theorem k93 : tab Try.prog 93 = some kf93 := by kernel_rfl
def kf92 : KFunc := ⟨2, 19, [.tmp 4], .seq (.reg [⟨some 4, .mv (.c (.int .i64 0)), none⟩] []) (.seq (.seq (.reg [⟨some 6, .mv (.t 0), none⟩, ⟨some 7, .len (.t 6), none⟩, ⟨some 8, .mv (.c (.int .i64 0)), none⟩] []) (.block 0 (.loop (.seq (.reg [⟨some 9, .bin .lss (.t 8) (.t 7), none⟩] []) (.seq (.cond (.t 9) .skip (.exit 0)) (.seq (.block 1 (.seq (.reg [⟨some 10, .mv (.t 8), none⟩, ⟨some 5, .mv (.t 10), none⟩] []) (.seq (.reg [⟨some 11, .mv (.t 1), none⟩, ⟨some 12, .mv (.t 0), none⟩, ⟨some 13, .mv (.t 5), none⟩, ⟨some 14, .iaS (.t 12) (.t 13) 1, none⟩, ⟨some 15, .ld (.t 14) none, none⟩, ⟨some 16, .bin .eql (.t 11) (.t 15), none⟩] []) (.cond (.t 16) (.seq (.reg [⟨some 17, .mv (.t 5), none⟩, ⟨some 4, .mv (.t 17), none⟩] []) .ret) .skip)))) (.reg [⟨some 18, .bin .add (.t 8) (.c (.int .i64 1)), none⟩, ⟨some 8, .mv (.t 18), none⟩] []))))))) (.seq (.reg [⟨some 4, .mv (.c (.int .i64 (-1))), none⟩] []) .ret))⟩
theorem k92 : tab Try.prog 92 = some kf92 := by kernel_rfl
def kf90 : KFunc := ⟨2, 18, [.tmp 4], .seq (.reg [⟨some 2, .box (.t 0), none⟩, ⟨some 3, .box (.t 1), none⟩, ⟨some 4, .mv (.c (.bool false)), none⟩] []) (.seq (.reg [⟨some 5, .fa (.t 2) 0, none⟩, ⟨some 6, .ld (.t 5) none, none⟩, ⟨some 7, .bin .eql (.t 6) (.c (.int .i64 11)), none⟩, ⟨some 8, .mv (.t 7), none⟩, ⟨some 9, .fa (.t 3) 0, some (8, true)⟩, ⟨some 10, .ld (.t 9) none, some (8, true)⟩, ⟨some 11, .bin .eql (.t 10) (.c (.int .i64 11)), some (8, true)⟩, ⟨some 12, .mv (.t 11), some (8, true)⟩, ⟨some 13, .fa (.t 3) 0, some (12, false)⟩, ⟨some 14, .ld (.t 13) none, some (12, false)⟩, ⟨some 15, .bin .eql (.t 14) (.c (.int .i64 10)), some (12, false)⟩, ⟨some 16, .pick (.t 12) (.c (.bool true)) (.t 15), some (8, true)⟩, ⟨some 17, .pick (.t 8) (.t 16) (.c (.bool false)), none⟩, ⟨some 4, .mv (.t 17), none⟩] []) .ret)⟩
theorem k90 : tab Try.prog 90 = some kf90 := by kernel_rfl
def kf106 : KFunc := ⟨1, 6, [.tmp 2], .seq (.reg [⟨some 2, .mv (.c (.bool false)), none⟩] []) (.seq (.reg [⟨some 3, .mv (.t 0), none⟩, ⟨some 4, .mv (.t 0), none⟩, ⟨some 5, .bin .neq (.t 3) (.t 4), none⟩, ⟨some 2, .mv (.t 5), none⟩] []) .ret)⟩
theorem k106 : tab Try.prog 106 = some kf106 := by kernel_rfl
def kf98 : KFunc := ⟨2, 20, [.tmp 4], .seq (.reg [⟨some 4, .mv (.c (.int .i64 0)), none⟩] []) (.seq (.reg [⟨some 7, .mv (.t 0), none⟩, ⟨some 8, .call (.c (.func (.func 106) #[] #[])) [.t 7], none⟩, ⟨some 5, .mv (.t 8), none⟩] []) (.seq (.reg [⟨some 9, .mv (.t 1), none⟩, ⟨some 10, .call (.c (.func (.func 106) #[] #[])) [.t 9], none⟩, ⟨some 6, .mv (.t 10), none⟩] []) (.seq (.seq (.reg [⟨some 11, .mv (.t 5), none⟩] []) (.cond (.t 11) (.seq (.seq (.reg [⟨some 12, .mv (.t 6), none⟩] []) (.cond (.t 12) (.seq (.reg [⟨some 4, .mv (.c (.int .i64 0)), none⟩] []) .ret) .skip)) (.seq (.reg [⟨some 4, .mv (.c (.int .i64 (-1))), none⟩] []) .ret)) .skip)) (.seq (.seq (.reg [⟨some 13, .mv (.t 6), none⟩] []) (.cond (.t 13) (.seq (.reg [⟨some 4, .mv (.c (.int .i64 1)), none⟩] []) .ret) .skip)) (.seq (.seq (.reg [⟨some 14, .mv (.t 0), none⟩, ⟨some 15, .mv (.t 1), none⟩, ⟨some 16, .bin .lss (.t 14) (.t 15), none⟩] []) (.cond (.t 16) (.seq (.reg [⟨some 4, .mv (.c (.int .i64 (-1))), none⟩] []) .ret) .skip)) (.seq (.seq (.reg [⟨some 17, .mv (.t 0), none⟩, ⟨some 18, .mv (.t 1), none⟩, ⟨some 19, .bin .gtr (.t 17) (.t 18), none⟩] []) (.cond (.t 19) (.seq (.reg [⟨some 4, .mv (.c (.int .i64 1)), none⟩] []) .ret) .skip)) (.seq (.reg [⟨some 4, .mv (.c (.int .i64 0)), none⟩] []) .ret)))))))⟩
theorem k98 : tab Try.prog 98 = some kf98 := by kernel_rfl
def kf33 : KFunc := ⟨2, 26, [.tmp 4], .seq (.reg [⟨some 4, .mv (.c (.bool false)), none⟩] []) (.seq (.seq (.reg [⟨some 6, .mv (.t 0), none⟩, ⟨some 7, .len (.t 6), none⟩, ⟨some 8, .mv (.t 1), none⟩, ⟨some 9, .len (.t 8), none⟩, ⟨some 10, .bin .neq (.t 7) (.t 9), none⟩] []) (.cond (.t 10) (.seq (.reg [⟨some 4, .mv (.c (.bool false)), none⟩] []) .ret) .skip)) (.seq (.seq (.reg [⟨some 11, .mv (.t 0), none⟩, ⟨some 12, .len (.t 11), none⟩, ⟨some 13, .mv (.c (.int .i64 0)), none⟩] []) (.block 0 (.loop (.seq (.reg [⟨some 14, .bin .lss (.t 13) (.t 12), none⟩] []) (.seq (.cond (.t 14) .skip (.exit 0)) (.seq (.block 1 (.seq (.reg [⟨some 15, .mv (.t 13), none⟩, ⟨some 5, .mv (.t 15), none⟩] []) (.seq (.reg [⟨some 16, .mv (.t 0), none⟩, ⟨some 17, .mv (.t 5), none⟩, ⟨some 18, .iaS (.t 16) (.t 17) 1, none⟩, ⟨some 19, .ld (.t 18) none, none⟩, ⟨some 20, .mv (.t 1), none⟩, ⟨some 21, .mv (.t 5), none⟩, ⟨some 22, .iaS (.t 20) (.t 21) 1, none⟩, ⟨some 23, .ld (.t 22) none, none⟩, ⟨some 24, .bin .neq (.t 19) (.t 23), none⟩] []) (.cond (.t 24) (.seq (.reg [⟨some 4, .mv (.c (.bool false)), none⟩] []) .ret) .skip)))) (.reg [⟨some 25, .bin .add (.t 13) (.c (.int .i64 1)), none⟩, ⟨some 13, .mv (.t 25), none⟩] []))))))) (.seq (.reg [⟨some 4, .mv (.c (.bool true)), none⟩] []) .ret)))⟩
theorem k33 : tab Try.prog 33 = some kf33 := by kernel_rfl
def kf89 : KFunc := ⟨2, 28, [.tmp 4], .seq (.reg [⟨some 2, .box (.t 0), none⟩, ⟨some 3, .box (.t 1), none⟩, ⟨some 4, .mv (.c (.bool false)), none⟩] []) (.seq (.reg [⟨some 5, .fa (.t 2) 0, none⟩, ⟨some 6, .ld (.t 5) none, none⟩, ⟨some 7, .bin .eql (.t 6) (.c (.int .i64 13)), none⟩, ⟨some 8, .mv (.t 7), none⟩, ⟨some 9, .fa (.t 3) 3, some (8, true)⟩, ⟨some 10, .ld (.t 9) none, some (8, true)⟩, ⟨some 11, .fa (.t 2) 2, some (8, true)⟩, ⟨some 12, .ld (.t 11) none, some (8, true)⟩, ⟨some 13, .bin .add (.t 12) (.c (.int .i64 1)), some (8, true)⟩, ⟨some 14, .bin .eql (.t 10) (.t 13), some (8, true)⟩, ⟨some 15, .mv (.t 14), some (8, true)⟩, ⟨some 16, .fa (.t 3) 0, some (15, false)⟩, ⟨some 17, .ld (.t 16) none, some (15, false)⟩, ⟨some 18, .bin .eql (.t 17) (.c (.int .i64 13)), some (15, false)⟩, ⟨some 19, .mv (.t 18), some (15, false)⟩, ⟨some 20, .fa (.t 3) 2, some (19, true)⟩, ⟨some 21, .ld (.t 20) none, some (19, true)⟩, ⟨some 22, .fa (.t 2) 2, some (19, true)⟩, ⟨some 23, .ld (.t 22) none, some (19, true)⟩, ⟨some 24, .bin .eql (.t 21) (.t 23), some (19, true)⟩, ⟨some 25, .pick (.t 19) (.t 24) (.c (.bool false)), some (15, false)⟩, ⟨some 26, .pick (.t 15) (.c (.bool true)) (.t 25), some (8, true)⟩, ⟨some 27, .pick (.t 8) (.t 26) (.c (.bool false)), none⟩, ⟨some 4, .mv (.t 27), none⟩] []) .ret)⟩
theorem k89 : tab Try.prog 89 = some kf89 := by kernel_rfl
def kf86 : KFunc := ⟨2, 9, [.tmp 4], .seq (.reg [⟨some 4, .mv (.c (.bool false)), none⟩] []) (.seq (.reg [⟨some 5, .mv (.t 0), none⟩, ⟨some 6, .mv (.t 1), none⟩, ⟨some 7, .call (.c (.func (.func 92) #[] #[])) [.t 5, .t 6], none⟩, ⟨some 8, .bin .geq (.t 7) (.c (.int .i64 0)), none⟩, ⟨some 4, .mv (.t 8), none⟩] []) .ret)⟩
theorem k86 : tab Try.prog 86 = some kf86 := by kernel_rfl
def kf99 : KFunc := ⟨2, 36, [.tmp 4], .seq (.reg [⟨some 4, .mv (.c (.int .i64 0)), none⟩] []) (.seq (.seq (.reg [⟨some 9, .mv (.t 0), none⟩, ⟨some 10, .len (.t 9), none⟩, ⟨some 11, .mv (.c (.int .i64 0)), none⟩] []) (.block 0 (.loop (.seq (.reg [⟨some 12, .bin .lss (.t 11) (.t 10), none⟩] []) (.seq (.cond (.t 12) .skip (.exit 0)) (.seq (.block 1 (.seq (.reg [⟨some 13, .mv (.t 11), none⟩, ⟨some 14, .iaS (.t 9) (.t 11) 1, none⟩, ⟨some 15, .ld (.t 14) none, none⟩, ⟨some 5, .mv (.t 13), none⟩, ⟨some 6, .mv (.t 15), none⟩] []) (.seq (.seq (.reg [⟨some 16, .mv (.t 5), none⟩, ⟨some 17, .mv (.t 1), none⟩, ⟨some 18, .len (.t 17), none⟩, ⟨some 19, .bin .geq (.t 16) (.t 18), none⟩] []) (.cond (.t 19) (.seq (.reg [⟨some 4, .mv (.c (.int .i64 1)), none⟩] []) .ret) .skip)) (.seq (.reg [⟨some 20, .mv (.t 1), none⟩, ⟨some 21, .mv (.t 5), none⟩, ⟨some 22, .iaS (.t 20) (.t 21) 1, none⟩, ⟨some 23, .ld (.t 22) none, none⟩, ⟨some 7, .mv (.t 23), none⟩] []) (.seq (.reg [⟨some 24, .mv (.t 6), none⟩, ⟨some 25, .mv (.t 7), none⟩, ⟨some 26, .call (.c (.func (.func 98) #[] #[])) [.t 24, .t 25], none⟩, ⟨some 8, .mv (.t 26), none⟩] []) (.seq (.reg [⟨some 27, .mv (.t 8), none⟩, ⟨some 28, .bin .neq (.t 27) (.c (.int .i64 0)), none⟩] []) (.cond (.t 28) (.seq (.reg [⟨some 29, .mv (.t 8), none⟩, ⟨some 4, .mv (.t 29), none⟩] []) .ret) .skip))))))) (.reg [⟨some 30, .bin .add (.t 11) (.c (.int .i64 1)), none⟩, ⟨some 11, .mv (.t 30), none⟩] []))))))) (.seq (.seq (.reg [⟨some 31, .mv (.t 0), none⟩, ⟨some 32, .len (.t 31), none⟩, ⟨some 33, .mv (.t 1), none⟩, ⟨some 34, .len (.t 33), none⟩, ⟨some 35, .bin .lss (.t 32) (.t 34), none⟩] []) (.cond (.t 35) (.seq (.reg [⟨some 4, .mv (.c (.int .i64 (-1))), none⟩] []) .ret) .skip)) (.seq (.reg [⟨some 4, .mv (.c (.int .i64 0)), none⟩] []) .ret)))⟩
theorem k99 : tab Try.prog 99 = some kf99 := by kernel_rfl
theorem parity_ret (H : Heap) (n : Int) : Ret (tab Try.prog) 34 [.int .i64 n] H (.int .i64 (arityM n)) H := by
  refine Ret_own k34 rfl ?_
  refine AX_seq (AX_E (E_mv (v := .int .i64 (0)) rfl (E_nil (AX_seq (AX_block (AX_seq (AX_E (E_mv (v := .int .i64 (n)) rfl (E_eqlS rfl rfl (fun c5 => ?_) (fun c5 => ?_))))))))))
  · refine E_mv (v := .bool _) rfl (E_nil (AX_condT rfl (AX_seq (AX_E (E_mv (v := .int .i64 (3)) rfl (E_nil (AX_ret ?_)))))))
    refine ⟨_, rfl, by simp, ?_, forget_flat rfl (List.prefix_append _ _)⟩
    refine congrArg (Value.int _) ?_
    unfold arityM
    (repeat' split) <;> omega
  · refine E_mv (v := .bool _) rfl (E_nil (AX_condF rfl (AX_seq (AX_E (E_mv (v := .int .i64 (n)) rfl (E_geqS rfl rfl (fun c8 => ?_) (fun c8 => ?_)))))))
    · refine E_mv (v := .bool _) rfl (E_on rfl (E_mv (v := .int .i64 (n)) rfl (E_on rfl (E_leqS rfl rfl (fun c11 => ?_) (fun c11 => ?_)))))
      · refine E_pickT rfl (v := .bool _) rfl (E_mv (v := .bool _) rfl (E_nil (AX_condT rfl (AX_seq (AX_E (E_mv (v := .int .i64 (2)) rfl (E_nil (AX_ret ?_))))))))
        refine ⟨_, rfl, by simp, ?_, forget_flat rfl (List.prefix_append _ _)⟩
        refine congrArg (Value.int _) ?_
        unfold arityM
        (repeat' split) <;> omega
      · refine E_pickT rfl (v := .bool _) rfl (E_mv (v := .bool _) rfl (E_nil (AX_condF rfl (AX_seq (AX_E (E_mv (v := .int .i64 (n)) rfl (E_geqS rfl rfl (fun c15 => ?_) (fun c15 => ?_))))))))
        · refine E_mv (v := .bool _) rfl (E_on rfl (E_mv (v := .int .i64 (n)) rfl (E_on rfl (E_leqS rfl rfl (fun c18 => ?_) (fun c18 => ?_)))))
          · refine E_pickT rfl (v := .bool _) rfl (E_mv (v := .bool _) rfl (E_nil (AX_condT rfl (AX_seq (AX_E (E_mv (v := .int .i64 (1)) rfl (E_nil (AX_ret ?_))))))))
            refine ⟨_, rfl, by simp, ?_, forget_flat rfl (List.prefix_append _ _)⟩
            refine congrArg (Value.int _) ?_
            unfold arityM
            (repeat' split) <;> omega
          · refine E_pickT rfl (v := .bool _) rfl (E_mv (v := .bool _) rfl (E_nil (AX_condF rfl (AX_skip (AX_seq (AX_E (E_mv (v := .int .i64 (0)) rfl (E_nil (AX_ret ?_)))))))))
            refine ⟨_, rfl, by simp, ?_, forget_flat rfl (List.prefix_append _ _)⟩
            refine congrArg (Value.int _) ?_
            unfold arityM
            (repeat' split) <;> omega
        · refine E_mv (v := .bool _) rfl (E_notT rfl (E_notT rfl (E_pickF rfl (v := .bool _) rfl (E_mv (v := .bool _) rfl (E_nil (AX_condF rfl (AX_skip (AX_seq (AX_E (E_mv (v := .int .i64 (0)) rfl (E_nil (AX_ret ?_))))))))))))
          refine ⟨_, rfl, by simp, ?_, forget_flat rfl (List.prefix_append _ _)⟩
          refine congrArg (Value.int _) ?_
          unfold arityM
          (repeat' split) <;> omega
    · refine E_mv (v := .bool _) rfl (E_notT rfl (E_notT rfl (E_pickF rfl (v := .bool _) rfl (E_mv (v := .bool _) rfl (E_nil (AX_condF rfl (AX_seq (AX_E (E_mv (v := .int .i64 (n)) rfl (E_geqS rfl rfl (fun c15 => ?_) (fun c15 => ?_)))))))))))
      · refine E_mv (v := .bool _) rfl (E_on rfl (E_mv (v := .int .i64 (n)) rfl (E_on rfl (E_leqS rfl rfl (fun c18 => ?_) (fun c18 => ?_)))))
        · refine E_pickT rfl (v := .bool _) rfl (E_mv (v := .bool _) rfl (E_nil (AX_condT rfl (AX_seq (AX_E (E_mv (v := .int .i64 (1)) rfl (E_nil (AX_ret ?_))))))))
          refine ⟨_, rfl, by simp, ?_, forget_flat rfl (List.prefix_append _ _)⟩
          refine congrArg (Value.int _) ?_
          unfold arityM
          (repeat' split) <;> omega
        · refine E_pickT rfl (v := .bool _) rfl (E_mv (v := .bool _) rfl (E_nil (AX_condF rfl (AX_skip (AX_seq (AX_E (E_mv (v := .int .i64 (0)) rfl (E_nil (AX_ret ?_)))))))))
          refine ⟨_, rfl, by simp, ?_, forget_flat rfl (List.prefix_append _ _)⟩
          refine congrArg (Value.int _) ?_
          unfold arityM
          (repeat' split) <;> omega
      · refine E_mv (v := .bool _) rfl (E_notT rfl (E_notT rfl (E_pickF rfl (v := .bool _) rfl (E_mv (v := .bool _) rfl (E_nil (AX_condF rfl (AX_skip (AX_seq (AX_E (E_mv (v := .int .i64 (0)) rfl (E_nil (AX_ret ?_))))))))))))
        refine ⟨_, rfl, by simp, ?_, forget_flat rfl (List.prefix_append _ _)⟩
        refine congrArg (Value.int _) ?_
        unfold arityM
        (repeat' split) <;> omega
def paxisM (g : G) (n : Int) : Int := if g.k = 3 ∨ (5 ≤ g.k ∧ g.k ≤ 8) ∨ g.k = 10 ∨ g.k = 13 then 3 else if g.k = 1 then 1 else if g.k = 2 then 2 else if g.k = 4 then 4 else if g.k = 9 ∨ g.k = 12 then (if n = g.ws.length - 1 then 1 else 3) else 0
theorem paxis_ret (H : Heap) (g : G) (p : Pl) (n : Int) (hg : GR g) : Ret (tab Try.prog) 93 [gv g p, .int .i64 n] H (.int .i64 (paxisM g n)) H := by
  have hl := hg.len
  refine Ret_own k93 rfl ?_
  refine AX_seq (AX_E (E_boxA rfl (E_mv (v := .int .i64 (0)) rfl (E_nil (AX_seq (AX_seq (AX_E (E_fa rfl (E_ldO (k := 0) (v := .int .i64 (g.k)) rfl rfl (E_nil (AX_block (AX_seq (AX_seq (AX_E (E_eqlS rfl rfl (fun c8 => ?_) (fun c8 => ?_))))))))))))))))
  · refine E_mv (v := .bool _) rfl (E_nil (AX_condT rfl (AX_skip (AX_condT rfl (AX_seq (AX_E (E_mv (v := .int .i64 (3)) rfl (E_nil (AX_ret ?_)))))))))
    refine ⟨_, rfl, by simp, ?_, forget_flat rfl (List.prefix_append _ _)⟩
    -- r1
    refine congrArg (Value.int _) ?_
    unfold paxisM
    (repeat' split) <;> omega
  · refine E_mv (v := .bool _) rfl (E_nil (AX_condF rfl (AX_seq (AX_E (E_eqlS rfl rfl (fun c9 => ?_) (fun c9 => ?_))))))
    · refine E_mv (v := .bool _) rfl (E_nil (AX_condT rfl (AX_skip (AX_condT rfl (AX_seq (AX_E (E_mv (v := .int .i64 (3)) rfl (E_nil (AX_ret ?_)))))))))
      refine ⟨_, rfl, by simp, ?_, forget_flat rfl (List.prefix_append _ _)⟩
      -- r2
      refine congrArg (Value.int _) ?_
      unfold paxisM
      (repeat' split) <;> omega
    · refine E_mv (v := .bool _) rfl (E_nil (AX_condF rfl (AX_seq (AX_E (E_eqlS rfl rfl (fun c10 => ?_) (fun c10 => ?_))))))
      · refine E_mv (v := .bool _) rfl (E_nil (AX_condT rfl (AX_skip (AX_condT rfl (AX_seq (AX_E (E_mv (v := .int .i64 (3)) rfl (E_nil (AX_ret ?_)))))))))
        refine ⟨_, rfl, by simp, ?_, forget_flat rfl (List.prefix_append _ _)⟩
        -- r3
        refine congrArg (Value.int _) ?_
        unfold paxisM
        (repeat' split) <;> omega
      · refine E_mv (v := .bool _) rfl (E_nil (AX_condF rfl (AX_seq (AX_E (E_eqlS rfl rfl (fun c11 => ?_) (fun c11 => ?_))))))
        · refine E_mv (v := .bool _) rfl (E_nil (AX_condT rfl (AX_skip (AX_condT rfl (AX_seq (AX_E (E_mv (v := .int .i64 (3)) rfl (E_nil (AX_ret ?_)))))))))
          refine ⟨_, rfl, by simp, ?_, forget_flat rfl (List.prefix_append _ _)⟩
          -- r4
          refine congrArg (Value.int _) ?_
          unfold paxisM
          (repeat' split) <;> omega
        · refine E_mv (v := .bool _) rfl (E_nil (AX_condF rfl (AX_seq (AX_E (E_eqlS rfl rfl (fun c12 => ?_) (fun c12 => ?_))))))
          · refine E_mv (v := .bool _) rfl (E_nil (AX_condT rfl (AX_skip (AX_condT rfl (AX_seq (AX_E (E_mv (v := .int .i64 (3)) rfl (E_nil (AX_ret ?_)))))))))
            refine ⟨_, rfl, by simp, ?_, forget_flat rfl (List.prefix_append _ _)⟩
            -- r5
            refine congrArg (Value.int _) ?_
            unfold paxisM
            (repeat' split) <;> omega
          · refine E_mv (v := .bool _) rfl (E_nil (AX_condF rfl (AX_seq (AX_E (E_eqlS rfl rfl (fun c13 => ?_) (fun c13 => ?_))))))
            · refine E_mv (v := .bool _) rfl (E_nil (AX_condT rfl (AX_skip (AX_condT rfl (AX_seq (AX_E (E_mv (v := .int .i64 (3)) rfl (E_nil (AX_ret ?_)))))))))
              refine ⟨_, rfl, by simp, ?_, forget_flat rfl (List.prefix_append _ _)⟩
              -- r6
              refine congrArg (Value.int _) ?_
              unfold paxisM
              (repeat' split) <;> omega
            · refine E_mv (v := .bool _) rfl (E_nil (AX_condF rfl (AX_E (E_eqlS rfl rfl (fun c14 => ?_) (fun c14 => ?_)))))
              · refine E_mv (v := .bool _) rfl (E_nil (AX_condT rfl (AX_seq (AX_E (E_mv (v := .int .i64 (3)) rfl (E_nil (AX_ret ?_)))))))
                refine ⟨_, rfl, by simp, ?_, forget_flat rfl (List.prefix_append _ _)⟩
                -- r7
                refine congrArg (Value.int _) ?_
                unfold paxisM
                (repeat' split) <;> omega
              · refine E_mv (v := .bool _) rfl (E_nil (AX_condF rfl (AX_seq (AX_E (E_eqlS rfl rfl (fun c16 => ?_) (fun c16 => ?_))))))
                · refine E_mv (v := .bool _) rfl (E_nil (AX_condT rfl (AX_seq (AX_E (E_mv (v := .int .i64 (1)) rfl (E_nil (AX_ret ?_)))))))
                  refine ⟨_, rfl, by simp, ?_, forget_flat rfl (List.prefix_append _ _)⟩
                  -- r8
                  refine congrArg (Value.int _) ?_
                  unfold paxisM
                  (repeat' split) <;> omega
                · refine E_mv (v := .bool _) rfl (E_nil (AX_condF rfl (AX_seq (AX_E (E_eqlS rfl rfl (fun c18 => ?_) (fun c18 => ?_))))))
                  · refine E_mv (v := .bool _) rfl (E_nil (AX_condT rfl (AX_seq (AX_E (E_mv (v := .int .i64 (2)) rfl (E_nil (AX_ret ?_)))))))
                    refine ⟨_, rfl, by simp, ?_, forget_flat rfl (List.prefix_append _ _)⟩
                    -- r9
                    refine congrArg (Value.int _) ?_
                    unfold paxisM
                    (repeat' split) <;> omega
                  · refine E_mv (v := .bool _) rfl (E_nil (AX_condF rfl (AX_seq (AX_E (E_eqlS rfl rfl (fun c20 => ?_) (fun c20 => ?_))))))
                    · refine E_mv (v := .bool _) rfl (E_nil (AX_condT rfl (AX_seq (AX_E (E_mv (v := .int .i64 (4)) rfl (E_nil (AX_ret ?_)))))))
                      refine ⟨_, rfl, by simp, ?_, forget_flat rfl (List.prefix_append _ _)⟩
                      -- r10
                      refine congrArg (Value.int _) ?_
                      unfold paxisM
                      (repeat' split) <;> omega
                    · refine E_mv (v := .bool _) rfl (E_nil (AX_condF rfl (AX_seq (AX_seq (AX_E (E_eqlS rfl rfl (fun c22 => ?_) (fun c22 => ?_)))))))
                      · refine E_mv (v := .bool _) rfl (E_nil (AX_condT rfl (AX_skip (AX_condT rfl (AX_seq (AX_seq (AX_E (E_mv (v := .int .i64 (n)) rfl (E_fa rfl (E_ldO (k := 0) (v := .slice _ _ _) rfl rfl (E_len (n := (g.ws).length) rfl (E_subI rfl rfl (by first | omega | (simp; done) | (simp; omega)) (by first | omega | (simp; done) | (simp; omega)) (E_eqlS rfl rfl (fun c29 => ?_) (fun c29 => ?_))))))))))))))
                        · refine E_nil (AX_condT rfl (AX_seq (AX_E (E_mv (v := .int .i64 (1)) rfl (E_nil (AX_ret ?_))))))
                          refine ⟨_, rfl, by simp, ?_, forget_flat rfl (List.prefix_append _ _)⟩
                          -- r11
                          refine congrArg (Value.int _) ?_
                          unfold paxisM
                          (repeat' split) <;> omega
                        · refine E_nil (AX_condF rfl (AX_skip (AX_seq (AX_E (E_mv (v := .int .i64 (3)) rfl (E_nil (AX_ret ?_)))))))
                          refine ⟨_, rfl, by simp, ?_, forget_flat rfl (List.prefix_append _ _)⟩
                          -- r12
                          refine congrArg (Value.int _) ?_
                          unfold paxisM
                          (repeat' split) <;> omega
                      · refine E_mv (v := .bool _) rfl (E_nil (AX_condF rfl (AX_E (E_eqlS rfl rfl (fun c23 => ?_) (fun c23 => ?_)))))
                        · refine E_mv (v := .bool _) rfl (E_nil (AX_condT rfl (AX_seq (AX_seq (AX_E (E_mv (v := .int .i64 (n)) rfl (E_fa rfl (E_ldO (k := 0) (v := .slice _ _ _) rfl rfl (E_len (n := (g.ws).length) rfl (E_subI rfl rfl (by first | omega | (simp; done) | (simp; omega)) (by first | omega | (simp; done) | (simp; omega)) (E_eqlS rfl rfl (fun c29 => ?_) (fun c29 => ?_))))))))))))
                          · refine E_nil (AX_condT rfl (AX_seq (AX_E (E_mv (v := .int .i64 (1)) rfl (E_nil (AX_ret ?_))))))
                            refine ⟨_, rfl, by simp, ?_, forget_flat rfl (List.prefix_append _ _)⟩
                            -- r13
                            refine congrArg (Value.int _) ?_
                            unfold paxisM
                            (repeat' split) <;> omega
                          · refine E_nil (AX_condF rfl (AX_skip (AX_seq (AX_E (E_mv (v := .int .i64 (3)) rfl (E_nil (AX_ret ?_)))))))
                            refine ⟨_, rfl, by simp, ?_, forget_flat rfl (List.prefix_append _ _)⟩
                            -- r14
                            refine congrArg (Value.int _) ?_
                            unfold paxisM
                            (repeat' split) <;> omega
                        · refine E_mv (v := .bool _) rfl (E_nil (AX_condF rfl (AX_skip (AX_seq (AX_E (E_mv (v := .int .i64 (0)) rfl (E_nil (AX_ret ?_))))))))
                          refine ⟨_, rfl, by simp, ?_, forget_flat rfl (List.prefix_append _ _)⟩
                          -- r15
                          refine congrArg (Value.int _) ?_
                          unfold paxisM
                          (repeat' split) <;> omega
def idxM (l : List Int) (n : Int) : Int := if n ∈ l then (l.idxOf n : Int) else -1
theorem idx_at {l : List Int} {j : Nat} (hj : j < l.length) (H : ∀ x ∈ l.take j, ¬ l[j] = x) : l.idxOf l[j] = j := by
  induction l generalizing j with
  | nil => simp at hj
  | cons x xs ih =>
    cases j with
    | zero => simp
    | succ j =>
      simp only [List.getElem_cons_succ]
      have hj2 : j < xs.length := by simpa using hj
      have h1 := H x (by simp)
      rw [List.getElem_cons_succ] at h1
      rw [List.idxOf_cons, ih (by simpa using hj) fun y hy => by simpa using H y (by simp [hy])]
      have h2 : (x == xs[j]) = false := by simpa using fun e => h1 e.symm
      rw [h2]; rfl
theorem index_ret (H : Heap) (p : Pl) (l : List Int) (n : Int) {S : Nat → Prop} (hv : Ints S H p l) (hl : l.length < 4611686018427387904) : Ret (tab Try.prog) 92 [.slice p.1 l.length p.2, .int .i64 n] H (.int .i64 (idxM l n)) H := by
  refine Ret_own k92 rfl ?_
  refine AX_seq (AX_E (E_mv (v := .int .i64 (0)) rfl (E_nil (AX_seq (AX_seq (AX_E (E_mv (v := .slice _ _ _) rfl (E_len (n := (l).length) rfl (E_mv (v := .int .i64 (0)) rfl (E_nil (AX_block ?_)))))))))))
  refine AX_loopF (γ := Nat) (fun j => [(0, .slice (p).1 (l).length (p).2), (1, .int .i64 (n)), (7, .int .i64 ((l).length)), (8, .int .i64 ((j : Int)))]) (fun j h_ m_ => h_ = H ++ [] ∧ m_ = [] ∧ j ≤ l.length ∧ ∀ x ∈ l.take j, ¬ n = x) (fun j => l.length - j) (0) ⟨rfl, rfl, rfl, rfl, trivial⟩ ⟨rfl, rfl, ?_⟩ ?_
  · simp
  rintro j fr0 h0 m0 ⟨rfl, rfl, inv0⟩ K0 hN0 hR0 hE0
  refine AX_seq (AX_E (E_lssS rfl rfl (fun c9 => ?_) (fun c9 => ?_)))
  · refine E_nil (AX_seq (AX_condT rfl (AX_skip (AX_seq (AX_block (AX_seq (AX_E (E_mv (v := .int .i64 ((j : Int))) rfl (E_mv (v := .int .i64 ((j : Int))) rfl (E_nil (AX_seq (AX_E (E_mv (v := .int .i64 (n)) rfl (E_mv (v := .slice _ _ _) rfl (E_mv (v := .int .i64 ((j : Int))) rfl (have ix1 : j < (l).length := (by first | omega | (simp; done) | (simp; omega)); E_iaIb (j := j) rfl hv rfl rfl rfl ix1 fun b1 o1 w1 => (E_ldB (v := .int .i64 (l[j]'ix1)) rfl w1 (E_eqlS rfl rfl (fun c16 => ?_) (fun c16 => ?_)))))))))))))))))))
    · refine E_nil (AX_condT rfl (AX_seq (AX_E (E_mv (v := .int .i64 ((j : Int))) rfl (E_mv (v := .int .i64 ((j : Int))) rfl (E_nil (AX_ret (hR0 _ _ _ ?_))))))))
      refine ⟨_, rfl, by simp, ?_, forget_flat rfl (List.prefix_append _ _)⟩
      -- r1
      clear hN0 hR0 hE0
      refine congrArg (Value.int _) ?_
      subst c16
      rw [idxM, if_pos (List.getElem_mem _), idx_at (by omega) inv0.2]
    · refine E_nil (AX_condF rfl (AX_skip (AX_E (E_addI rfl rfl (by first | omega | (simp; done) | (simp; omega)) (by first | omega | (simp; done) | (simp; omega)) (E_mv (v := .int .i64 (((j : Int) + 1))) rfl (E_nil ?_))))))
      refine hN0 (j + 1) _ _ _ ⟨by first | rfl | (congr 1; omega), by first | rfl | (congr 1; omega), by first | rfl | (congr 1; omega), by first | rfl | (congr 1; omega), trivial⟩ ⟨rfl, rfl, ?_⟩ ?_
      -- n2
      all_goals clear hN0 hR0 hE0
      · exact ⟨by omega, all_next (by omega) inv0.2 c16⟩
      · (first | omega | (simp; omega))
  · refine E_nil (AX_seq (AX_condF rfl (AX_exit (hE0 _ _ _ _ ?_))))
    have e0 := all_all c9 inv0.2
    refine AX_seq (AX_E (E_mv (v := .int .i64 ((-1))) rfl (E_nil (AX_ret ?_))))
    refine ⟨_, rfl, by simp, ?_, forget_flat rfl (List.prefix_append _ _)⟩
    -- r3
    clear hN0 hR0 hE0
    refine congrArg (Value.int _) ?_
    rw [idxM, if_neg (fun hx => e0 n hx rfl)]
theorem contains_ret (H : Heap) (p : Pl) (l : List Int) (n : Int) {S : Nat → Prop} (hv : Ints S H p l) (hl : l.length < 4611686018427387904) : Ret (tab Try.prog) 86 [.slice p.1 l.length p.2, .int .i64 n] H (.bool (decide (n ∈ l))) H := by
  have hi : idxM l n ≥ 0 ↔ n ∈ l := by unfold idxM; split <;> simp [*]
  refine Ret_own k86 rfl ?_
  refine AX_seq (AX_E (E_mv (v := .bool _) rfl (E_nil (AX_seq (AX_E (E_mv (v := .slice _ _ _) rfl (E_mv (v := .int .i64 (n)) rfl (E_callV rfl (index_ret _ _ _ _ hv.app (by first | omega | (simp; done) | (simp; omega))) (E_geqV rfl rfl (E_mv (v := .bool _) rfl (E_nil (AX_ret ?_))))))))))))
  refine ⟨_, rfl, by simp, ?_, forget_flat rfl (List.prefix_append _ _)⟩
  refine congrArg (Value.bool) ?_
  refine decide_eq_decide.2 ?_
  exact hi
def swapsM (g h : G) : Prop := g.k = 11 ∧ (h.k = 11 ∨ h.k = 10)
instance (g h : G) : Decidable (swapsM g h) := by unfold swapsM; infer_instance
theorem swaps_ret (H : Heap) (g h : G) (p q : Pl) : Ret (tab Try.prog) 90 [gv g p, gv h q] H (.bool (decide (swapsM g h))) H := by
  refine Ret_own k90 rfl ?_
  refine AX_seq (AX_E (E_boxA rfl (E_boxA rfl (E_mv (v := .bool _) rfl (E_nil (AX_seq (AX_E (E_fa rfl (E_ldO (k := 0) (v := .int .i64 (g.k)) rfl rfl (E_eqlS rfl rfl (fun c7 => ?_) (fun c7 => ?_)))))))))))
  · refine E_mv (v := .bool _) rfl (E_on rfl (E_fa rfl (E_on rfl (E_ldO (k := 1) (v := .int .i64 (h.k)) rfl rfl (E_on rfl (E_eqlS rfl rfl (fun c11 => ?_) (fun c11 => ?_)))))))
    · refine E_on rfl (E_mv (v := .bool _) rfl (E_notF rfl (E_notF rfl (E_notF rfl (E_on rfl (E_pickT rfl (v := .bool _) rfl (E_pickT rfl (v := .bool _) rfl (E_mv (v := .bool _) rfl (E_nil (AX_ret ?_))))))))))
      refine ⟨_, rfl, by simp, ?_, forget_flat rfl (List.prefix_append _ _)⟩
      refine congrArg (Value.bool) ?_
      refine (decide_eq_true ?_).symm
      unfold swapsM
      omega
    · refine E_on rfl (E_mv (v := .bool _) rfl (E_on rfl (E_fa rfl (E_on rfl (E_ldO (k := 1) (v := .int .i64 (h.k)) rfl rfl (E_on rfl (E_eqlV rfl rfl (E_on rfl (E_pickF rfl (v := .bool _) rfl (E_pickT rfl (v := .bool _) rfl (E_mv (v := .bool _) rfl (E_nil (AX_ret ?_)))))))))))))
      refine ⟨_, rfl, by simp, ?_, forget_flat rfl (List.prefix_append _ _)⟩
      refine congrArg (Value.bool) ?_
      refine decide_eq_decide.2 ?_
      unfold swapsM
      omega
  · refine E_mv (v := .bool _) rfl (E_notT rfl (E_notT rfl (E_notT rfl (E_notT rfl (E_notU rfl (E_notU rfl (E_notU rfl (E_notT rfl (E_pickF rfl (v := .bool _) rfl (E_mv (v := .bool _) rfl (E_nil (AX_ret ?_))))))))))))
    refine ⟨_, rfl, by simp, ?_, forget_flat rfl (List.prefix_append _ _)⟩
    refine congrArg (Value.bool) ?_
    refine (decide_eq_false ?_).symm
    unfold swapsM
    omega
def ptouchM (g h : G) : Prop := g.k = 13 ∧ (h.f = g.b + 1 ∨ h.k = 13 ∧ h.b = g.b)
instance (g h : G) : Decidable (ptouchM g h) := by unfold ptouchM; infer_instance
theorem ptouch_ret (H : Heap) (g h : G) (p q : Pl) (hg : GR g) : Ret (tab Try.prog) 89 [gv g p, gv h q] H (.bool (decide (ptouchM g h))) H := by
  have b1 := hg.b0
  refine Ret_own k89 rfl ?_
  refine AX_seq (AX_E (E_boxA rfl (E_boxA rfl (E_mv (v := .bool _) rfl (E_nil (AX_seq (AX_E (E_fa rfl (E_ldO (k := 0) (v := .int .i64 (g.k)) rfl rfl (E_eqlS rfl rfl (fun c7 => ?_) (fun c7 => ?_)))))))))))
  · refine E_mv (v := .bool _) rfl (E_on rfl (E_fa rfl (E_on rfl (E_ldO (k := 1) (v := .int .i64 (h.f)) rfl rfl (E_on rfl (E_fa rfl (E_on rfl (E_ldO (k := 0) (v := .int .i64 (g.b)) rfl rfl (E_on rfl (E_addI rfl rfl (by first | omega | (simp; done) | (simp; omega)) (by first | omega | (simp; done) | (simp; omega)) (E_on rfl (E_eqlS rfl rfl (fun c14 => ?_) (fun c14 => ?_)))))))))))))
    · refine E_on rfl (E_mv (v := .bool _) rfl (E_notF rfl (E_notF rfl (E_notF rfl (E_notF rfl (E_notU rfl (E_notU rfl (E_notU rfl (E_notU rfl (E_notU rfl (E_notF rfl (E_on rfl (E_pickT rfl (v := .bool _) rfl (E_pickT rfl (v := .bool _) rfl (E_mv (v := .bool _) rfl (E_nil (AX_ret ?_)))))))))))))))))
      refine ⟨_, rfl, by simp, ?_, forget_flat rfl (List.prefix_append _ _)⟩
      refine congrArg (Value.bool) ?_
      refine (decide_eq_true ?_).symm
      unfold ptouchM
      omega
    · refine E_on rfl (E_mv (v := .bool _) rfl (E_on rfl (E_fa rfl (E_on rfl (E_ldO (k := 1) (v := .int .i64 (h.k)) rfl rfl (E_on rfl (E_eqlS rfl rfl (fun c18 => ?_) (fun c18 => ?_))))))))
      · refine E_on rfl (E_mv (v := .bool _) rfl (E_on rfl (E_fa rfl (E_on rfl (E_ldO (k := 1) (v := .int .i64 (h.b)) rfl rfl (E_on rfl (E_fa rfl (E_on rfl (E_ldO (k := 0) (v := .int .i64 (g.b)) rfl rfl (E_on rfl (E_eqlV rfl rfl (E_on rfl (E_pickT rfl (v := .bool _) rfl (E_on rfl (E_pickF rfl (v := .bool _) rfl (E_pickT rfl (v := .bool _) rfl (E_mv (v := .bool _) rfl (E_nil (AX_ret ?_)))))))))))))))))))
        refine ⟨_, rfl, by simp, ?_, forget_flat rfl (List.prefix_append _ _)⟩
        refine congrArg (Value.bool) ?_
        refine decide_eq_decide.2 ?_
        unfold ptouchM
        omega
      · refine E_on rfl (E_mv (v := .bool _) rfl (E_notT rfl (E_notT rfl (E_notT rfl (E_notT rfl (E_notT rfl (E_on rfl (E_pickF rfl (v := .bool _) rfl (E_on rfl (E_pickF rfl (v := .bool _) rfl (E_pickT rfl (v := .bool _) rfl (E_mv (v := .bool _) rfl (E_nil (AX_ret ?_))))))))))))))
        refine ⟨_, rfl, by simp, ?_, forget_flat rfl (List.prefix_append _ _)⟩
        refine congrArg (Value.bool) ?_
        refine (decide_eq_false ?_).symm
        unfold ptouchM
        omega
  · refine E_mv (v := .bool _) rfl (E_notT rfl (E_notT rfl (E_notT rfl (E_notT rfl (E_notT rfl (E_notT rfl (E_notT rfl (E_notU rfl (E_notU rfl (E_notU rfl (E_notU rfl (E_notU rfl (E_notU rfl (E_notU rfl (E_notU rfl (E_notU rfl (E_notU rfl (E_notT rfl (E_pickF rfl (v := .bool _) rfl (E_mv (v := .bool _) rfl (E_nil (AX_ret ?_))))))))))))))))))))))
    refine ⟨_, rfl, by simp, ?_, forget_flat rfl (List.prefix_append _ _)⟩
    refine congrArg (Value.bool) ?_
    refine (decide_eq_false ?_).symm
    unfold ptouchM
    omega
theorem isnan_ret (H : Heap) (n : Int) : Ret (tab Try.prog) 106 [.int .i64 n] H (.bool (decide False)) H := by
  refine Ret_own k106 rfl ?_
  refine AX_seq (AX_E (E_mv (v := .bool _) rfl (E_nil (AX_seq (AX_E (E_mv (v := .int .i64 (n)) rfl (E_mv (v := .int .i64 (n)) rfl (E_neqV rfl rfl (E_mv (v := .bool _) rfl (E_nil (AX_ret ?_)))))))))))
  refine ⟨_, rfl, by simp, ?_, forget_flat rfl (List.prefix_append _ _)⟩
  refine congrArg (Value.bool) ?_
  refine decide_eq_decide.2 ?_
  simp
def cmpM (a b : Int) : Int := if a < b then -1 else if b < a then 1 else 0
theorem cmp_ret (H : Heap) (a b : Int) : Ret (tab Try.prog) 98 [.int .i64 a, .int .i64 b] H (.int .i64 (cmpM a b)) H := by
  refine Ret_own k98 rfl ?_
  refine AX_seq (AX_E (E_mv (v := .int .i64 (0)) rfl (E_nil (AX_seq (AX_E (E_mv (v := .int .i64 (a)) rfl (E_callP rfl (isnan_ret _ _) (fun c8 => ?_) (fun c8 => ?_))))))))
  · exact c8.elim
  · refine E_mv (v := .bool _) rfl (E_nil (AX_seq (AX_E (E_mv (v := .int .i64 (b)) rfl (E_callP rfl (isnan_ret _ _) (fun c10 => ?_) (fun c10 => ?_))))))
    · exact c10.elim
    · refine E_mv (v := .bool _) rfl (E_nil (AX_seq (AX_seq (AX_E (E_mv (v := .bool _) rfl (E_nil (AX_condF rfl (AX_skip (AX_seq (AX_seq (AX_E (E_mv (v := .bool _) rfl (E_nil (AX_condF rfl (AX_skip (AX_seq (AX_seq (AX_E (E_mv (v := .int .i64 (a)) rfl (E_mv (v := .int .i64 (b)) rfl (E_lssS rfl rfl (fun c16 => ?_) (fun c16 => ?_))))))))))))))))))))))
      · refine E_nil (AX_condT rfl (AX_seq (AX_E (E_mv (v := .int .i64 ((-1))) rfl (E_nil (AX_ret ?_))))))
        refine ⟨_, rfl, by simp, ?_, forget_flat rfl (List.prefix_append _ _)⟩
        refine congrArg (Value.int _) ?_
        unfold cmpM
        (repeat' split) <;> omega
      · refine E_nil (AX_condF rfl (AX_skip (AX_seq (AX_seq (AX_E (E_mv (v := .int .i64 (a)) rfl (E_mv (v := .int .i64 (b)) rfl (E_gtrS rfl rfl (fun c19 => ?_) (fun c19 => ?_)))))))))
        · refine E_nil (AX_condT rfl (AX_seq (AX_E (E_mv (v := .int .i64 (1)) rfl (E_nil (AX_ret ?_))))))
          refine ⟨_, rfl, by simp, ?_, forget_flat rfl (List.prefix_append _ _)⟩
          refine congrArg (Value.int _) ?_
          unfold cmpM
          (repeat' split) <;> omega
        · refine E_nil (AX_condF rfl (AX_skip (AX_seq (AX_E (E_mv (v := .int .i64 (0)) rfl (E_nil (AX_ret ?_)))))))
          refine ⟨_, rfl, by simp, ?_, forget_flat rfl (List.prefix_append _ _)⟩
          refine congrArg (Value.int _) ?_
          unfold cmpM
          (repeat' split) <;> omega
theorem equal_ret (H : Heap) (p q : Pl) (l k : List Int) {S S' : Nat → Prop} (hv : Ints S H p l) (hu : Ints S' H q k) (hl : l.length < 4611686018427387904) : Ret (tab Try.prog) 33 [.slice p.1 l.length p.2, .slice q.1 k.length q.2] H (.bool (decide (l = k))) H := by
  refine Ret_own k33 rfl ?_
  refine AX_seq (AX_E (E_mv (v := .bool _) rfl (E_nil (AX_seq (AX_seq (AX_E (E_mv (v := .slice _ _ _) rfl (E_len (n := (l).length) rfl (E_mv (v := .slice _ _ _) rfl (E_len (n := (k).length) rfl (E_neqS rfl rfl (fun c10 => ?_) (fun c10 => ?_))))))))))))
  · refine E_nil (AX_condT rfl (AX_seq (AX_E (E_mv (v := .bool _) rfl (E_nil (AX_ret ?_))))))
    refine ⟨_, rfl, by simp, ?_, forget_flat rfl (List.prefix_append _ _)⟩
    -- r1
    refine congrArg (Value.bool) ?_
    refine (decide_eq_false ?_).symm
    exact fun e => c10 (by rw [e])
  · refine E_nil (AX_condF rfl (AX_skip (AX_seq (AX_seq (AX_E (E_mv (v := .slice _ _ _) rfl (E_len (n := (l).length) rfl (E_mv (v := .int .i64 (0)) rfl (E_nil (AX_block ?_))))))))))
    refine AX_loopF (γ := Nat) (fun j => [(0, .slice (p).1 (l).length (p).2), (1, .slice (q).1 (k).length (q).2), (12, .int .i64 ((l).length)), (13, .int .i64 ((j : Int)))]) (fun j h_ m_ => h_ = H ++ [] ∧ m_ = [] ∧ j ≤ l.length ∧ l.take j = k.take j) (fun j => l.length - j) (0) ⟨rfl, rfl, rfl, rfl, trivial⟩ ⟨rfl, rfl, ?_⟩ ?_
    · simp
    rintro j fr0 h0 m0 ⟨rfl, rfl, inv0⟩ K0 hN0 hR0 hE0
    refine AX_seq (AX_E (E_lssS rfl rfl (fun c14 => ?_) (fun c14 => ?_)))
    · refine E_nil (AX_seq (AX_condT rfl (AX_skip (AX_seq (AX_block (AX_seq (AX_E (E_mv (v := .int .i64 ((j : Int))) rfl (E_mv (v := .int .i64 ((j : Int))) rfl (E_nil (AX_seq (AX_E (E_mv (v := .slice _ _ _) rfl (E_mv (v := .int .i64 ((j : Int))) rfl (have ix1 : j < (l).length := (by first | omega | (simp; done) | (simp; omega)); E_iaIb (j := j) rfl hv rfl rfl rfl ix1 fun b1 o1 w1 => (E_ldB (v := .int .i64 (l[j]'ix1)) rfl w1 (E_mv (v := .slice _ _ _) rfl (E_mv (v := .int .i64 ((j : Int))) rfl (have ix2 : j < (k).length := (by first | omega | (simp; done) | (simp; omega)); E_iaIb (j := j) rfl hu rfl rfl rfl ix2 fun b2 o2 w2 => (E_ldB (v := .int .i64 (k[j]'ix2)) rfl w2 (E_neqS rfl rfl (fun c24 => ?_) (fun c24 => ?_))))))))))))))))))))))
      · refine E_nil (AX_condT rfl (AX_seq (AX_E (E_mv (v := .bool _) rfl (E_nil (AX_ret (hR0 _ _ _ ?_)))))))
        refine ⟨_, rfl, by simp, ?_, forget_flat rfl (List.prefix_append _ _)⟩
        -- r2
        clear hN0 hR0 hE0
        refine congrArg (Value.bool) ?_
        refine (decide_eq_false ?_).symm
        exact fun e => c24 (by simp [e])
      · refine E_nil (AX_condF rfl (AX_skip (AX_E (E_addI rfl rfl (by first | omega | (simp; done) | (simp; omega)) (by first | omega | (simp; done) | (simp; omega)) (E_mv (v := .int .i64 (((j : Int) + 1))) rfl (E_nil ?_))))))
        refine hN0 (j + 1) _ _ _ ⟨by first | rfl | (congr 1; omega), by first | rfl | (congr 1; omega), by first | rfl | (congr 1; omega), by first | rfl | (congr 1; omega), trivial⟩ ⟨rfl, rfl, ?_⟩ ?_
        -- n3
        all_goals clear hN0 hR0 hE0
        · exact ⟨by omega, take_eq_next (by omega) (by omega) inv0.2 c24⟩
        · (first | omega | (simp; omega))
    · refine E_nil (AX_seq (AX_condF rfl (AX_exit (hE0 _ _ _ _ ?_))))
      have e0 := take_eq_all c14 (by omega) inv0.2
      refine AX_seq (AX_E (E_mv (v := .bool _) rfl (E_nil (AX_ret ?_))))
      refine ⟨_, rfl, by simp, ?_, forget_flat rfl (List.prefix_append _ _)⟩
      -- r4
      clear hN0 hR0 hE0
      refine congrArg (Value.bool) ?_
      refine (decide_eq_true ?_).symm
      exact e0
def lexM : List Int → List Int → Int
  | [], [] => 0
  | [], _ :: _ => -1
  | _ :: _, [] => 1
  | x :: xs, y :: ys => if cmpM x y ≠ 0 then cmpM x y else lexM xs ys
theorem cmpM_eq {a b : Int} : cmpM a b = 0 ↔ a = b := by unfold cmpM; (repeat' split) <;> omega
theorem lex_at : ∀ {a b : List Int} {j : Nat} (h1 : j < a.length) (h2 : j < b.length), a.take j = b.take j → ¬ cmpM a[j] b[j] = 0 → lexM a b = cmpM a[j] b[j]
  | x :: xs, y :: ys, 0, _, _, _, h => by simp at h; simp [lexM, h]
  | x :: xs, y :: ys, j + 1, h1, h2, ht, h => by
    simp only [List.take_succ_cons, List.cons.injEq] at ht
    obtain ⟨rfl, ht⟩ := ht
    simp only [List.getElem_cons_succ] at h ⊢
    rw [← lex_at (by simpa using h1) (by simpa using h2) ht h]
    simp [lexM, cmpM]
theorem lex_long : ∀ {a b : List Int} {j : Nat}, j < a.length → b.length ≤ j → a.take j = b.take j → lexM a b = 1
  | x :: xs, [], _, _, _, _ => rfl
  | x :: xs, y :: ys, 0, _, h, _ => by simp at h
  | x :: xs, y :: ys, j + 1, h1, h2, ht => by
    simp only [List.take_succ_cons, List.cons.injEq] at ht
    obtain ⟨rfl, ht⟩ := ht
    rw [← lex_long (by simpa using h1) (by simpa using h2) ht]
    simp [lexM, cmpM]
theorem lex_end : ∀ {a b : List Int}, b.take a.length = a → lexM a b = if a.length < b.length then -1 else 0
  | [], [], _ => rfl
  | [], y :: ys, _ => by simp [lexM]
  | x :: xs, [], h => by simp at h
  | x :: xs, y :: ys, h => by
    simp only [List.length_cons, List.take_succ_cons, List.cons.injEq] at h
    obtain ⟨rfl, h⟩ := h
    have := lex_end h
    simp only [lexM, cmpM, Int.lt_irrefl, if_false, ne_eq, not_true, this, List.length_cons]
    congr 1
    simp
theorem lex_ret (H : Heap) (p q : Pl) (l k : List Int) {S S' : Nat → Prop} (hv : Ints S H p l) (hu : Ints S' H q k) (hl : l.length < 4611686018427387904) : Ret (tab Try.prog) 99 [.slice p.1 l.length p.2, .slice q.1 k.length q.2] H (.int .i64 (lexM l k)) H := by
  refine Ret_own k99 rfl ?_
  refine AX_seq (AX_E (E_mv (v := .int .i64 (0)) rfl (E_nil (AX_seq (AX_seq (AX_E (E_mv (v := .slice _ _ _) rfl (E_len (n := (l).length) rfl (E_mv (v := .int .i64 (0)) rfl (E_nil (AX_block ?_)))))))))))
  refine AX_loopF (γ := Nat) (fun j => [(0, .slice (p).1 (l).length (p).2), (1, .slice (q).1 (k).length (q).2), (9, .slice (p).1 (l).length (p).2), (10, .int .i64 ((l).length)), (11, .int .i64 ((j : Int)))]) (fun j h_ m_ => h_ = H ++ [] ∧ m_ = [] ∧ j ≤ l.length ∧ l.take j = k.take j) (fun j => l.length - j) (0) ⟨rfl, rfl, rfl, rfl, rfl, trivial⟩ ⟨rfl, rfl, ?_⟩ ?_
  · simp
  rintro j fr0 h0 m0 ⟨rfl, rfl, inv0⟩ K0 hN0 hR0 hE0
  refine AX_seq (AX_E (E_lssS rfl rfl (fun c12 => ?_) (fun c12 => ?_)))
  · refine E_nil (AX_seq (AX_condT rfl (AX_skip (AX_seq (AX_block (AX_seq (AX_E (E_mv (v := .int .i64 ((j : Int))) rfl (have ix1 : j < (l).length := (by first | omega | (simp; done) | (simp; omega)); E_iaIb (j := j) rfl hv rfl rfl rfl ix1 fun b1 o1 w1 => (E_ldB (v := .int .i64 (l[j]'ix1)) rfl w1 (E_mv (v := .int .i64 ((j : Int))) rfl (E_mv (v := .int .i64 (l[j]'ix1)) rfl (E_nil (AX_seq (AX_seq (AX_E (E_mv (v := .int .i64 ((j : Int))) rfl (E_mv (v := .slice _ _ _) rfl (E_len (n := (k).length) rfl (E_geqS rfl rfl (fun c19 => ?_) (fun c19 => ?_)))))))))))))))))))))
    · refine E_nil (AX_condT rfl (AX_seq (AX_E (E_mv (v := .int .i64 (1)) rfl (E_nil (AX_ret (hR0 _ _ _ ?_)))))))
      refine ⟨_, rfl, by simp, ?_, forget_flat rfl (List.prefix_append _ _)⟩
      -- r1
      clear hN0 hR0 hE0
      refine congrArg (Value.int _) ?_
      rw [lex_long (by omega) (by omega) inv0.2]
    · refine E_nil (AX_condF rfl (AX_skip (AX_seq (AX_E (E_mv (v := .slice _ _ _) rfl (E_mv (v := .int .i64 ((j : Int))) rfl (have ix2 : j < (k).length := (by first | omega | (simp; done) | (simp; omega)); E_iaIb (j := j) rfl hu rfl rfl rfl ix2 fun b2 o2 w2 => (E_ldB (v := .int .i64 (k[j]'ix2)) rfl w2 (E_mv (v := .int .i64 (k[j]'ix2)) rfl (E_nil (AX_seq (AX_E (E_mv (v := .int .i64 (l[j]'ix1)) rfl (E_mv (v := .int .i64 (k[j]'ix2)) rfl (E_callV rfl (cmp_ret _ _ _) (E_mv (v := .int .i64 (cmpM (l[j]'ix1) (k[j]'ix2))) rfl (E_nil (AX_seq (AX_E (E_mv (v := .int .i64 (cmpM (l[j]'ix1) (k[j]'ix2))) rfl (E_neqS rfl rfl (fun c28 => ?_) (fun c28 => ?_))))))))))))))))))))))
      · refine E_nil (AX_condT rfl (AX_seq (AX_E (E_mv (v := .int .i64 (cmpM (l[j]'ix1) (k[j]'ix2))) rfl (E_mv (v := .int .i64 (cmpM (l[j]'ix1) (k[j]'ix2))) rfl (E_nil (AX_ret (hR0 _ _ _ ?_))))))))
        refine ⟨_, rfl, by simp, ?_, forget_flat rfl (List.prefix_append _ _)⟩
        -- r2
        clear hN0 hR0 hE0
        refine congrArg (Value.int _) ?_
        rw [lex_at (by omega) (by omega) inv0.2 c28]
      · refine E_nil (AX_condF rfl (AX_skip (AX_E (E_addI rfl rfl (by first | omega | (simp; done) | (simp; omega)) (by first | omega | (simp; done) | (simp; omega)) (E_mv (v := .int .i64 (((j : Int) + 1))) rfl (E_nil ?_))))))
        refine hN0 (j + 1) _ _ _ ⟨by first | rfl | (congr 1; omega), by first | rfl | (congr 1; omega), by first | rfl | (congr 1; omega), by first | rfl | (congr 1; omega), by first | rfl | (congr 1; omega), trivial⟩ ⟨rfl, rfl, ?_⟩ ?_
        -- n3
        all_goals clear hN0 hR0 hE0
        · exact ⟨by omega, take_eq_next (by omega) (by omega) inv0.2 (cmpM_eq.1 c28)⟩
        · (first | omega | (simp; omega))
  · refine E_nil (AX_seq (AX_condF rfl (AX_exit (hE0 _ _ _ _ ?_))))
    have e0 : k.take l.length = l := by have := inv0.2; rw [show j = l.length by omega] at this; rw [← this]; simp
    refine AX_seq (AX_seq (AX_E (E_mv (v := .slice _ _ _) rfl (E_len (n := (l).length) rfl (E_mv (v := .slice _ _ _) rfl (E_len (n := (k).length) rfl (E_lssS rfl rfl (fun c35 => ?_) (fun c35 => ?_))))))))
    · refine E_nil (AX_condT rfl (AX_seq (AX_E (E_mv (v := .int .i64 ((-1))) rfl (E_nil (AX_ret ?_))))))
      refine ⟨_, rfl, by simp, ?_, forget_flat rfl (List.prefix_append _ _)⟩
      -- r4
      clear hN0 hR0 hE0
      refine congrArg (Value.int _) ?_
      rw [lex_end e0]
      split <;> omega
    · refine E_nil (AX_condF rfl (AX_skip (AX_seq (AX_E (E_mv (v := .int .i64 (0)) rfl (E_nil (AX_ret ?_)))))))
      refine ⟨_, rfl, by simp, ?_, forget_flat rfl (List.prefix_append _ _)⟩
      -- r5
      clear hN0 hR0 hE0
      refine congrArg (Value.int _) ?_
      rw [lex_end e0]
      split <;> omega
end Go.Canon
