/- CircCancelled, part 3: the canonical machine and the runs of the program's functions on it. No conditions. -/
import Derived.Test.YtpbamjaldnhamaaDoorProg
import Derived.Test.YtpbamjaldnhamaaDoorCcP2
namespace Go.Canon
open Go Go.Proofs
set_option linter.unusedVariables false
set_option linter.unusedSimpArgs false
def arityM (k : Int) : Int := if (1 ≤ k ∧ k ≤ 8) ∨ k = 13 ∨ k = 14 then 1 else if 9 ≤ k ∧ k ≤ 11 then 2 else if k = 12 then 3 else 0
theorem arity_le (k : Int) : 0 ≤ arityM k ∧ arityM k ≤ 3 := by unfold arityM; (repeat' split) <;> omega
def cgM (g : G) (w b : Int) : Int :=
  if arityM g.k = 0 then 3 else if (g.ws.length : Int) ≠ arityM g.k then 2 else if ∃ x ∈ g.ws, x < 0 ∨ w - 1 < x then 1 else if ¬ g.ws.Nodup then 5
  else if (g.f < 0 ∨ b < g.f) ∨ g.k = 13 ∧ (g.b < 0 ∨ b - 1 < g.b) then 1 else if (13 ≤ g.k ∧ g.f ≠ 0) ∨ (g.k ≠ 13 ∧ g.b ≠ 0) then 7 else 0
def firstErr (w b : Int) : List G → Int
  | [] => 0
  | g :: gs => if cgM g w b ≠ 0 then cgM g w b else firstErr w b gs
def checkM (c : C) : Int := if (c.w < 1 ∨ 12 < c.w) ∨ (c.b < 0 ∨ 8 < c.b) then 3 else if 120 < c.gs.length then 2 else firstErr c.w c.b c.gs
end Go.Canon
namespace Go.Canon
open Go Go.Proofs
set_option linter.unusedVariables false
set_option linter.unusedSimpArgs false
/-- A right gate. -/
structure GR (g : G) : Prop where
  ar : (g.ws.length : Int) = arityM g.k
  pos : arityM g.k ≠ 0
  rng : ∀ x ∈ g.ws, 0 ≤ x ∧ x < 12
  nd : g.ws.Nodup
  f0 : 0 ≤ g.f ∧ g.f ≤ 8
  b0 : 0 ≤ g.b ∧ g.b < 8
  fk : 13 ≤ g.k → g.f = 0
  bk : g.k ≠ 13 → g.b = 0
theorem GR.len {g : G} (h : GR g) : 1 ≤ g.ws.length ∧ g.ws.length ≤ 3 := by
  have h1 := h.ar
  have h2 := h.pos
  have h3 := arity_le g.k
  omega
theorem GR.kind {g : G} (h : GR g) : 1 ≤ g.k ∧ g.k ≤ 14 := by
  have h2 := h.pos
  unfold arityM at h2
  (repeat' split at h2) <;> omega
theorem GR.of {g : G} {w b : Int} (h : cgM g w b = 0) (hw : w ≤ 12) (hb : b ≤ 8) : GR g := by
  unfold cgM at h
  split at h <;> try omega
  split at h <;> try omega
  split at h <;> try omega
  split at h <;> try omega
  split at h <;> try omega
  split at h <;> try omega
  rename_i h1 h2 h3 h4 h5 h6
  refine ⟨by omega, h1, fun x hx => ?_, by simpa using h4, by omega, by omega, fun _ => by omega, fun _ => by omega⟩
  by_cases hc : x < 0 ∨ w - 1 < x
  · exact (h3 ⟨x, hx, hc⟩).elim
  · omega
def touchM (g h : G) : Prop := (g.k = 13 ∧ (h.f = g.b + 1 ∨ h.k = 13 ∧ h.b = g.b)) ∨ (h.k = 13 ∧ g.f = h.b + 1)
instance (g h : G) : Decidable (touchM g h) := by unfold touchM; infer_instance
def meetM (g h : G) : Prop := (∃ x ∈ g.ws, x ∈ h.ws) ∨ touchM g h
instance (g h : G) : Decidable (meetM g h) := by unfold meetM; infer_instance
def axisM (g : G) (n : Int) : Int := if g.k = 3 ∨ (5 ≤ g.k ∧ g.k ≤ 8) ∨ g.k = 10 ∨ g.k = 13 then 3 else if g.k = 1 then 1 else if g.k = 2 then 2 else if g.k = 4 then 4 else if g.k = 9 ∨ g.k = 12 then (if g.ws.getD (g.ws.length - 1) 0 = n then 1 else 3) else 0
def alikeM (g h : G) : Prop := g.ws.getD 0 0 ∈ h.ws ∧ g.ws.getD 1 0 ∈ h.ws
instance (g h : G) : Decidable (alikeM g h) := by unfold alikeM; infer_instance
def commM (g h : G) : Prop := ¬ meetM g h ∨ ¬ touchM g h ∧ (if (g.k = 11 ∧ (h.k = 10 ∨ h.k = 11)) ∨ (h.k = 11 ∧ g.k = 10) then alikeM g h else ∀ x ∈ g.ws, x ∈ h.ws → axisM g x ≠ 0 ∧ axisM g x = axisM h x)
instance (g h : G) : Decidable (commM g h) := by unfold commM; infer_instance
def oppM (k : Int) : Int := if k = 5 then 6 else if k = 6 then 5 else if k = 7 then 8 else if k = 8 then 7 else k
def undoM (g h : G) : Prop := g.f = h.f ∧ g.k < 13 ∧ h.k = oppM g.k ∧ (if g.k = 10 ∨ g.k = 11 then alikeM g h else if g.k = 12 then g.ws.getD 2 0 = h.ws.getD 2 0 ∧ alikeM g h else g.ws = h.ws)
instance (g h : G) : Decidable (undoM g h) := by unfold undoM; infer_instance
def wsLt : List Int → List Int → Prop
  | x :: xs, y :: ys => if x ≠ y then x < y else wsLt xs ys
  | _, _ => False
instance : ∀ a b : List Int, Decidable (wsLt a b)
  | x :: xs, y :: ys => by unfold wsLt; have := instDecidableWsLt xs ys; infer_instance
  | [], _ => by unfold wsLt; infer_instance
  | _ :: _, [] => by unfold wsLt; infer_instance
def beforeM (g h : G) : Prop := if g.k ≠ h.k then g.k < h.k else if g.ws ≠ h.ws then wsLt g.ws h.ws else if g.b ≠ h.b then g.b < h.b else g.f < h.f
instance (g h : G) : Decidable (beforeM g h) := by unfold beforeM; infer_instance
theorem getD_at {l : List Int} {j : Nat} (hj : j < l.length) : l[j] = l.getD j 0 := by simp [List.getD, hj]
theorem take_eq_next {a b : List Int} {j : Nat} (h1 : j < a.length) (h2 : j < b.length) (H : a.take j = b.take j) (e : a[j] = b[j]) : a.take (j + 1) = b.take (j + 1) := by
  rw [List.take_succ_eq_append_getElem h1, List.take_succ_eq_append_getElem h2, H, e]
theorem take_eq_all {a b : List Int} {j : Nat} (h1 : ¬ (j : Int) < (a.length : Int)) (h2 : a.length = b.length) (H : a.take j = b.take j) : a = b := by
  rwa [List.take_of_length_le (by omega), List.take_of_length_le (by omega)] at H
end Go.Canon
namespace Go.Canon
open Go Go.Proofs
set_option linter.unusedVariables false
set_option linter.unusedSimpArgs false
end Go.Canon
namespace Go.Canon
open Go Go.Proofs
set_option linter.unusedVariables false
set_option linter.unusedSimpArgs false
theorem firstErr_take {w b : Int} {l : List G} {j : Nat} (hj : j < l.length) (H : ∀ g ∈ l.take j, cgM g w b = 0) (hn : cgM l[j] w b ≠ 0) : firstErr w b l = cgM l[j] w b := by
  induction l generalizing j with
  | nil => simp at hj
  | cons g gs ih =>
    cases j with
    | zero => simp at hn; simp [firstErr, hn]
    | succ j =>
      simp only [List.getElem_cons_succ] at hn ⊢
      have h0 := H g (by simp)
      rw [firstErr, if_neg (by simp [h0])]
      exact ih (by simpa using hj) (fun x hx => H x (by simp [hx])) hn
theorem firstErr_all {w b : Int} {l : List G} (H : ∀ g ∈ l, cgM g w b = 0) : firstErr w b l = 0 := by
  induction l with
  | nil => rfl
  | cons g gs ih => rw [firstErr, if_neg (by simp [H g (by simp)])]; exact ih fun x hx => H x (by simp [hx])
theorem all_of_firstErr {w b : Int} {l : List G} (H : firstErr w b l = 0) : ∀ g ∈ l, cgM g w b = 0 := by
  induction l with
  | nil => simp
  | cons g gs ih =>
    rw [firstErr] at H
    split at H
    · rename_i h; exact (h H).elim
    · rename_i h
      intro x hx
      rcases List.mem_cons.1 hx with rfl | hx
      · simpa using h
      · exact ih H x hx
/-- A right circuit. -/
structure CR (c : C) : Prop where
  w0 : 1 ≤ c.w ∧ c.w ≤ 12
  b0 : 0 ≤ c.b ∧ c.b ≤ 8
  n0 : c.gs.length ≤ 120
  cg : ∀ g ∈ c.gs, cgM g c.w c.b = 0
theorem CR.of {c : C} (h : checkM c = 0) : CR c := by
  unfold checkM at h
  split at h <;> try omega
  split at h <;> try omega
  exact ⟨by omega, by omega, by omega, all_of_firstErr h⟩
theorem CR.gr {c : C} (h : CR c) {g : G} (hg : g ∈ c.gs) : GR g := GR.of (h.cg g hg) h.w0.2 h.b0.2
theorem takeG_next {a b : List G} {j : Nat} (h1 : j < a.length) (h2 : j < b.length) (H : a.take j = b.take j) (e : a[j] = b[j]) : a.take (j + 1) = b.take (j + 1) := by
  rw [List.take_succ_eq_append_getElem h1, List.take_succ_eq_append_getElem h2, H, e]
theorem takeG_all {a b : List G} {j : Nat} (h1 : ¬ (j : Int) < (a.length : Int)) (h2 : a.length = b.length) (H : a.take j = b.take j) : a = b := by
  rwa [List.take_of_length_le (by omega), List.take_of_length_le (by omega)] at H
end Go.Canon
namespace Go.Canon
open Go Go.Proofs
set_option linter.unusedVariables false
set_option linter.unusedSimpArgs false
def kf34 : KFunc := ⟨1, 20, [.tmp 2], .seq (.reg [⟨some 2, .mv (.c (.int .i64 0)), none⟩] []) (.seq (.block 0 (.seq (.reg [⟨some 4, .mv (.t 0), none⟩, ⟨some 5, .bin .eql (.t 4) (.c (.int .i64 12)), none⟩, ⟨some 3, .mv (.t 5), none⟩] []) (.cond (.t 3) (.seq (.reg [⟨some 2, .mv (.c (.int .i64 3)), none⟩] []) .ret) (.seq (.reg [⟨some 7, .mv (.t 0), none⟩, ⟨some 8, .bin .geq (.t 7) (.c (.int .i64 9)), none⟩, ⟨some 9, .mv (.t 8), none⟩, ⟨some 10, .mv (.t 0), some (9, true)⟩, ⟨some 11, .bin .leq (.t 10) (.c (.int .i64 11)), some (9, true)⟩, ⟨some 12, .pick (.t 9) (.t 11) (.c (.bool false)), none⟩, ⟨some 6, .mv (.t 12), none⟩] []) (.cond (.t 6) (.seq (.reg [⟨some 2, .mv (.c (.int .i64 2)), none⟩] []) .ret) (.seq (.reg [⟨some 14, .mv (.t 0), none⟩, ⟨some 15, .bin .geq (.t 14) (.c (.int .i64 1)), none⟩, ⟨some 16, .mv (.t 15), none⟩, ⟨some 17, .mv (.t 0), some (16, true)⟩, ⟨some 18, .bin .leq (.t 17) (.c (.int .i64 14)), some (16, true)⟩, ⟨some 19, .pick (.t 16) (.t 18) (.c (.bool false)), none⟩, ⟨some 13, .mv (.t 19), none⟩] []) (.cond (.t 13) (.seq (.reg [⟨some 2, .mv (.c (.int .i64 1)), none⟩] []) .ret) .skip))))))) (.seq (.reg [⟨some 2, .mv (.c (.int .i64 0)), none⟩] []) .ret))⟩
theorem k34 : tab Tryd.prog 55 = some kf34 := by kernel_rfl
def kf93 : KFunc := ⟨2, 30, [.tmp 4], .seq (.reg [⟨some 2, .box (.t 0), none⟩, ⟨some 4, .mv (.c (.int .i64 0)), none⟩] []) (.seq (.seq (.reg [⟨some 5, .fa (.t 2) 0, none⟩, ⟨some 6, .ld (.t 5) none, none⟩] []) (.block 0 (.seq (.seq (.reg [⟨some 8, .bin .eql (.t 6) (.c (.int .i64 3)), none⟩, ⟨some 7, .mv (.t 8), none⟩] []) (.cond (.t 7) .skip (.seq (.reg [⟨some 9, .bin .eql (.t 6) (.c (.int .i64 5)), none⟩, ⟨some 7, .mv (.t 9), none⟩] []) (.cond (.t 7) .skip (.seq (.reg [⟨some 10, .bin .eql (.t 6) (.c (.int .i64 6)), none⟩, ⟨some 7, .mv (.t 10), none⟩] []) (.cond (.t 7) .skip (.seq (.reg [⟨some 11, .bin .eql (.t 6) (.c (.int .i64 7)), none⟩, ⟨some 7, .mv (.t 11), none⟩] []) (.cond (.t 7) .skip (.seq (.reg [⟨some 12, .bin .eql (.t 6) (.c (.int .i64 8)), none⟩, ⟨some 7, .mv (.t 12), none⟩] []) (.cond (.t 7) .skip (.seq (.reg [⟨some 13, .bin .eql (.t 6) (.c (.int .i64 10)), none⟩, ⟨some 7, .mv (.t 13), none⟩] []) (.cond (.t 7) .skip (.reg [⟨some 14, .bin .eql (.t 6) (.c (.int .i64 13)), none⟩, ⟨some 7, .mv (.t 14), none⟩] []))))))))))))) (.cond (.t 7) (.seq (.reg [⟨some 4, .mv (.c (.int .i64 3)), none⟩] []) .ret) (.seq (.reg [⟨some 16, .bin .eql (.t 6) (.c (.int .i64 1)), none⟩, ⟨some 15, .mv (.t 16), none⟩] []) (.cond (.t 15) (.seq (.reg [⟨some 4, .mv (.c (.int .i64 1)), none⟩] []) .ret) (.seq (.reg [⟨some 18, .bin .eql (.t 6) (.c (.int .i64 2)), none⟩, ⟨some 17, .mv (.t 18), none⟩] []) (.cond (.t 17) (.seq (.reg [⟨some 4, .mv (.c (.int .i64 2)), none⟩] []) .ret) (.seq (.reg [⟨some 20, .bin .eql (.t 6) (.c (.int .i64 4)), none⟩, ⟨some 19, .mv (.t 20), none⟩] []) (.cond (.t 19) (.seq (.reg [⟨some 4, .mv (.c (.int .i64 4)), none⟩] []) .ret) (.seq (.seq (.reg [⟨some 22, .bin .eql (.t 6) (.c (.int .i64 9)), none⟩, ⟨some 21, .mv (.t 22), none⟩] []) (.cond (.t 21) .skip (.reg [⟨some 23, .bin .eql (.t 6) (.c (.int .i64 12)), none⟩, ⟨some 21, .mv (.t 23), none⟩] []))) (.cond (.t 21) (.seq (.seq (.reg [⟨some 24, .mv (.t 1), none⟩, ⟨some 25, .fa (.t 2) 1, none⟩, ⟨some 26, .ld (.t 25) none, none⟩, ⟨some 27, .len (.t 26), none⟩, ⟨some 28, .bin .sub (.t 27) (.c (.int .i64 1)), none⟩, ⟨some 29, .bin .eql (.t 24) (.t 28), none⟩] []) (.cond (.t 29) (.seq (.reg [⟨some 4, .mv (.c (.int .i64 1)), none⟩] []) .ret) .skip)) (.seq (.reg [⟨some 4, .mv (.c (.int .i64 3)), none⟩] []) .ret)) .skip)))))))))))) (.seq (.reg [⟨some 4, .mv (.c (.int .i64 0)), none⟩] []) .ret))⟩
theorem k93 : tab Tryd.prog 91 = some kf93 := by kernel_rfl
def kf92 : KFunc := ⟨2, 19, [.tmp 4], .seq (.reg [⟨some 4, .mv (.c (.int .i64 0)), none⟩] []) (.seq (.seq (.reg [⟨some 6, .mv (.t 0), none⟩, ⟨some 7, .len (.t 6), none⟩, ⟨some 8, .mv (.c (.int .i64 0)), none⟩] []) (.block 0 (.loop (.seq (.reg [⟨some 9, .bin .lss (.t 8) (.t 7), none⟩] []) (.seq (.cond (.t 9) .skip (.exit 0)) (.seq (.block 1 (.seq (.reg [⟨some 10, .mv (.t 8), none⟩, ⟨some 5, .mv (.t 10), none⟩] []) (.seq (.reg [⟨some 11, .mv (.t 1), none⟩, ⟨some 12, .mv (.t 0), none⟩, ⟨some 13, .mv (.t 5), none⟩, ⟨some 14, .iaS (.t 12) (.t 13) 1, none⟩, ⟨some 15, .ld (.t 14) none, none⟩, ⟨some 16, .bin .eql (.t 11) (.t 15), none⟩] []) (.cond (.t 16) (.seq (.reg [⟨some 17, .mv (.t 5), none⟩, ⟨some 4, .mv (.t 17), none⟩] []) .ret) .skip)))) (.reg [⟨some 18, .bin .add (.t 8) (.c (.int .i64 1)), none⟩, ⟨some 8, .mv (.t 18), none⟩] []))))))) (.seq (.reg [⟨some 4, .mv (.c (.int .i64 (-1))), none⟩] []) .ret))⟩
theorem k92 : tab Tryd.prog 52 = some kf92 := by kernel_rfl
def kf90 : KFunc := ⟨2, 18, [.tmp 4], .seq (.reg [⟨some 2, .box (.t 0), none⟩, ⟨some 3, .box (.t 1), none⟩, ⟨some 4, .mv (.c (.bool false)), none⟩] []) (.seq (.reg [⟨some 5, .fa (.t 2) 0, none⟩, ⟨some 6, .ld (.t 5) none, none⟩, ⟨some 7, .bin .eql (.t 6) (.c (.int .i64 11)), none⟩, ⟨some 8, .mv (.t 7), none⟩, ⟨some 9, .fa (.t 3) 0, some (8, true)⟩, ⟨some 10, .ld (.t 9) none, some (8, true)⟩, ⟨some 11, .bin .eql (.t 10) (.c (.int .i64 11)), some (8, true)⟩, ⟨some 12, .mv (.t 11), some (8, true)⟩, ⟨some 13, .fa (.t 3) 0, some (12, false)⟩, ⟨some 14, .ld (.t 13) none, some (12, false)⟩, ⟨some 15, .bin .eql (.t 14) (.c (.int .i64 10)), some (12, false)⟩, ⟨some 16, .pick (.t 12) (.c (.bool true)) (.t 15), some (8, true)⟩, ⟨some 17, .pick (.t 8) (.t 16) (.c (.bool false)), none⟩, ⟨some 4, .mv (.t 17), none⟩] []) .ret)⟩
theorem k90 : tab Tryd.prog 89 = some kf90 := by kernel_rfl
def kf106 : KFunc := ⟨1, 6, [.tmp 2], .seq (.reg [⟨some 2, .mv (.c (.bool false)), none⟩] []) (.seq (.reg [⟨some 3, .mv (.t 0), none⟩, ⟨some 4, .mv (.t 0), none⟩, ⟨some 5, .bin .neq (.t 3) (.t 4), none⟩, ⟨some 2, .mv (.t 5), none⟩] []) .ret)⟩
theorem k106 : tab Tryd.prog 99 = some kf106 := by kernel_rfl
def kf98 : KFunc := ⟨2, 20, [.tmp 4], .seq (.reg [⟨some 4, .mv (.c (.int .i64 0)), none⟩] []) (.seq (.reg [⟨some 7, .mv (.t 0), none⟩, ⟨some 8, .call (.c (.func (.func 99) #[] #[])) [.t 7], none⟩, ⟨some 5, .mv (.t 8), none⟩] []) (.seq (.reg [⟨some 9, .mv (.t 1), none⟩, ⟨some 10, .call (.c (.func (.func 99) #[] #[])) [.t 9], none⟩, ⟨some 6, .mv (.t 10), none⟩] []) (.seq (.seq (.reg [⟨some 11, .mv (.t 5), none⟩] []) (.cond (.t 11) (.seq (.seq (.reg [⟨some 12, .mv (.t 6), none⟩] []) (.cond (.t 12) (.seq (.reg [⟨some 4, .mv (.c (.int .i64 0)), none⟩] []) .ret) .skip)) (.seq (.reg [⟨some 4, .mv (.c (.int .i64 (-1))), none⟩] []) .ret)) .skip)) (.seq (.seq (.reg [⟨some 13, .mv (.t 6), none⟩] []) (.cond (.t 13) (.seq (.reg [⟨some 4, .mv (.c (.int .i64 1)), none⟩] []) .ret) .skip)) (.seq (.seq (.reg [⟨some 14, .mv (.t 0), none⟩, ⟨some 15, .mv (.t 1), none⟩, ⟨some 16, .bin .lss (.t 14) (.t 15), none⟩] []) (.cond (.t 16) (.seq (.reg [⟨some 4, .mv (.c (.int .i64 (-1))), none⟩] []) .ret) .skip)) (.seq (.seq (.reg [⟨some 17, .mv (.t 0), none⟩, ⟨some 18, .mv (.t 1), none⟩, ⟨some 19, .bin .gtr (.t 17) (.t 18), none⟩] []) (.cond (.t 19) (.seq (.reg [⟨some 4, .mv (.c (.int .i64 1)), none⟩] []) .ret) .skip)) (.seq (.reg [⟨some 4, .mv (.c (.int .i64 0)), none⟩] []) .ret)))))))⟩
theorem k98 : tab Tryd.prog 93 = some kf98 := by kernel_rfl
def kf33 : KFunc := ⟨2, 26, [.tmp 4], .seq (.reg [⟨some 4, .mv (.c (.bool false)), none⟩] []) (.seq (.seq (.reg [⟨some 6, .mv (.t 0), none⟩, ⟨some 7, .len (.t 6), none⟩, ⟨some 8, .mv (.t 1), none⟩, ⟨some 9, .len (.t 8), none⟩, ⟨some 10, .bin .neq (.t 7) (.t 9), none⟩] []) (.cond (.t 10) (.seq (.reg [⟨some 4, .mv (.c (.bool false)), none⟩] []) .ret) .skip)) (.seq (.seq (.reg [⟨some 11, .mv (.t 0), none⟩, ⟨some 12, .len (.t 11), none⟩, ⟨some 13, .mv (.c (.int .i64 0)), none⟩] []) (.block 0 (.loop (.seq (.reg [⟨some 14, .bin .lss (.t 13) (.t 12), none⟩] []) (.seq (.cond (.t 14) .skip (.exit 0)) (.seq (.block 1 (.seq (.reg [⟨some 15, .mv (.t 13), none⟩, ⟨some 5, .mv (.t 15), none⟩] []) (.seq (.reg [⟨some 16, .mv (.t 0), none⟩, ⟨some 17, .mv (.t 5), none⟩, ⟨some 18, .iaS (.t 16) (.t 17) 1, none⟩, ⟨some 19, .ld (.t 18) none, none⟩, ⟨some 20, .mv (.t 1), none⟩, ⟨some 21, .mv (.t 5), none⟩, ⟨some 22, .iaS (.t 20) (.t 21) 1, none⟩, ⟨some 23, .ld (.t 22) none, none⟩, ⟨some 24, .bin .neq (.t 19) (.t 23), none⟩] []) (.cond (.t 24) (.seq (.reg [⟨some 4, .mv (.c (.bool false)), none⟩] []) .ret) .skip)))) (.reg [⟨some 25, .bin .add (.t 13) (.c (.int .i64 1)), none⟩, ⟨some 13, .mv (.t 25), none⟩] []))))))) (.seq (.reg [⟨some 4, .mv (.c (.bool true)), none⟩] []) .ret)))⟩
theorem k33 : tab Tryd.prog 40 = some kf33 := by kernel_rfl
def kf89 : KFunc := ⟨2, 28, [.tmp 4], .seq (.reg [⟨some 2, .box (.t 0), none⟩, ⟨some 3, .box (.t 1), none⟩, ⟨some 4, .mv (.c (.bool false)), none⟩] []) (.seq (.reg [⟨some 5, .fa (.t 2) 0, none⟩, ⟨some 6, .ld (.t 5) none, none⟩, ⟨some 7, .bin .eql (.t 6) (.c (.int .i64 13)), none⟩, ⟨some 8, .mv (.t 7), none⟩, ⟨some 9, .fa (.t 3) 3, some (8, true)⟩, ⟨some 10, .ld (.t 9) none, some (8, true)⟩, ⟨some 11, .fa (.t 2) 2, some (8, true)⟩, ⟨some 12, .ld (.t 11) none, some (8, true)⟩, ⟨some 13, .bin .add (.t 12) (.c (.int .i64 1)), some (8, true)⟩, ⟨some 14, .bin .eql (.t 10) (.t 13), some (8, true)⟩, ⟨some 15, .mv (.t 14), some (8, true)⟩, ⟨some 16, .fa (.t 3) 0, some (15, false)⟩, ⟨some 17, .ld (.t 16) none, some (15, false)⟩, ⟨some 18, .bin .eql (.t 17) (.c (.int .i64 13)), some (15, false)⟩, ⟨some 19, .mv (.t 18), some (15, false)⟩, ⟨some 20, .fa (.t 3) 2, some (19, true)⟩, ⟨some 21, .ld (.t 20) none, some (19, true)⟩, ⟨some 22, .fa (.t 2) 2, some (19, true)⟩, ⟨some 23, .ld (.t 22) none, some (19, true)⟩, ⟨some 24, .bin .eql (.t 21) (.t 23), some (19, true)⟩, ⟨some 25, .pick (.t 19) (.t 24) (.c (.bool false)), some (15, false)⟩, ⟨some 26, .pick (.t 15) (.c (.bool true)) (.t 25), some (8, true)⟩, ⟨some 27, .pick (.t 8) (.t 26) (.c (.bool false)), none⟩, ⟨some 4, .mv (.t 27), none⟩] []) .ret)⟩
theorem k89 : tab Tryd.prog 88 = some kf89 := by kernel_rfl
def kf86 : KFunc := ⟨2, 9, [.tmp 4], .seq (.reg [⟨some 4, .mv (.c (.bool false)), none⟩] []) (.seq (.reg [⟨some 5, .mv (.t 0), none⟩, ⟨some 6, .mv (.t 1), none⟩, ⟨some 7, .call (.c (.func (.func 52) #[] #[])) [.t 5, .t 6], none⟩, ⟨some 8, .bin .geq (.t 7) (.c (.int .i64 0)), none⟩, ⟨some 4, .mv (.t 8), none⟩] []) .ret)⟩
theorem k86 : tab Tryd.prog 17 = some kf86 := by kernel_rfl
def kf99 : KFunc := ⟨2, 36, [.tmp 4], .seq (.reg [⟨some 4, .mv (.c (.int .i64 0)), none⟩] []) (.seq (.seq (.reg [⟨some 9, .mv (.t 0), none⟩, ⟨some 10, .len (.t 9), none⟩, ⟨some 11, .mv (.c (.int .i64 0)), none⟩] []) (.block 0 (.loop (.seq (.reg [⟨some 12, .bin .lss (.t 11) (.t 10), none⟩] []) (.seq (.cond (.t 12) .skip (.exit 0)) (.seq (.block 1 (.seq (.reg [⟨some 13, .mv (.t 11), none⟩, ⟨some 14, .iaS (.t 9) (.t 11) 1, none⟩, ⟨some 15, .ld (.t 14) none, none⟩, ⟨some 5, .mv (.t 13), none⟩, ⟨some 6, .mv (.t 15), none⟩] []) (.seq (.seq (.reg [⟨some 16, .mv (.t 5), none⟩, ⟨some 17, .mv (.t 1), none⟩, ⟨some 18, .len (.t 17), none⟩, ⟨some 19, .bin .geq (.t 16) (.t 18), none⟩] []) (.cond (.t 19) (.seq (.reg [⟨some 4, .mv (.c (.int .i64 1)), none⟩] []) .ret) .skip)) (.seq (.reg [⟨some 20, .mv (.t 1), none⟩, ⟨some 21, .mv (.t 5), none⟩, ⟨some 22, .iaS (.t 20) (.t 21) 1, none⟩, ⟨some 23, .ld (.t 22) none, none⟩, ⟨some 7, .mv (.t 23), none⟩] []) (.seq (.reg [⟨some 24, .mv (.t 6), none⟩, ⟨some 25, .mv (.t 7), none⟩, ⟨some 26, .call (.c (.func (.func 93) #[] #[])) [.t 24, .t 25], none⟩, ⟨some 8, .mv (.t 26), none⟩] []) (.seq (.reg [⟨some 27, .mv (.t 8), none⟩, ⟨some 28, .bin .neq (.t 27) (.c (.int .i64 0)), none⟩] []) (.cond (.t 28) (.seq (.reg [⟨some 29, .mv (.t 8), none⟩, ⟨some 4, .mv (.t 29), none⟩] []) .ret) .skip))))))) (.reg [⟨some 30, .bin .add (.t 11) (.c (.int .i64 1)), none⟩, ⟨some 11, .mv (.t 30), none⟩] []))))))) (.seq (.seq (.reg [⟨some 31, .mv (.t 0), none⟩, ⟨some 32, .len (.t 31), none⟩, ⟨some 33, .mv (.t 1), none⟩, ⟨some 34, .len (.t 33), none⟩, ⟨some 35, .bin .lss (.t 32) (.t 34), none⟩] []) (.cond (.t 35) (.seq (.reg [⟨some 4, .mv (.c (.int .i64 (-1))), none⟩] []) .ret) .skip)) (.seq (.reg [⟨some 4, .mv (.c (.int .i64 0)), none⟩] []) .ret)))⟩
theorem k99 : tab Tryd.prog 94 = some kf99 := by kernel_rfl
theorem parity_ret (H : Heap) (n : Int) : Ret (tab Tryd.prog) 55 [.int .i64 n] H (.int .i64 (arityM n)) H := by
  refine Ret_own k34 rfl ?_
  refine AX_seq (AX_E (E_mv (v := .int .i64 (0)) rfl (E_nil (AX_seq (AX_block (AX_seq (AX_E (E_mv (v := .int .i64 (n)) rfl (E_eqlS rfl rfl (fun c5 => ?_) (fun c5 => ?_))))))))))
  · refine E_mv (v := .bool _) rfl (E_nil (AX_condT rfl (AX_seq (AX_E (E_mv (v := .int .i64 (3)) rfl (E_nil (AX_ret ?_)))))))
    refine ⟨_, rfl, by simp, ?_, forget_flat rfl (List.prefix_append _ _)⟩
    refine congrArg (Value.int _) ?_
    unfold arityM
    (repeat' split) <;> omega
  · refine E_mv (v := .bool _) rfl (E_nil (AX_condF rfl (AX_seq (AX_E (E_mv (v := .int .i64 (n)) rfl (E_geqS rfl rfl (fun c8 => ?_) (fun c8 => ?_)))))))
    · refine E_mv (v := .bool _) rfl (E_on rfl (E_mv (v := .int .i64 (n)) rfl (E_on rfl (E_leqS rfl rfl (fun c11 => ?_) (fun c11 => ?_)))))
      · refine E_pickT rfl (v := .bool _) rfl (E_mv (v := .bool _) rfl (E_nil (AX_condT rfl (AX_seq (AX_E (E_mv (v := .int .i64 (2)) rfl (E_nil (AX_ret ?_))))))))
        refine ⟨_, rfl, by simp, ?_, forget_flat rfl (List.prefix_append _ _)⟩
        refine congrArg (Value.int _) ?_
        unfold arityM
        (repeat' split) <;> omega
      · refine E_pickT rfl (v := .bool _) rfl (E_mv (v := .bool _) rfl (E_nil (AX_condF rfl (AX_seq (AX_E (E_mv (v := .int .i64 (n)) rfl (E_geqS rfl rfl (fun c15 => ?_) (fun c15 => ?_))))))))
        · refine E_mv (v := .bool _) rfl (E_on rfl (E_mv (v := .int .i64 (n)) rfl (E_on rfl (E_leqS rfl rfl (fun c18 => ?_) (fun c18 => ?_)))))
          · refine E_pickT rfl (v := .bool _) rfl (E_mv (v := .bool _) rfl (E_nil (AX_condT rfl (AX_seq (AX_E (E_mv (v := .int .i64 (1)) rfl (E_nil (AX_ret ?_))))))))
            refine ⟨_, rfl, by simp, ?_, forget_flat rfl (List.prefix_append _ _)⟩
            refine congrArg (Value.int _) ?_
            unfold arityM
            (repeat' split) <;> omega
          · refine E_pickT rfl (v := .bool _) rfl (E_mv (v := .bool _) rfl (E_nil (AX_condF rfl (AX_skip (AX_seq (AX_E (E_mv (v := .int .i64 (0)) rfl (E_nil (AX_ret ?_)))))))))
            refine ⟨_, rfl, by simp, ?_, forget_flat rfl (List.prefix_append _ _)⟩
            refine congrArg (Value.int _) ?_
            unfold arityM
            (repeat' split) <;> omega
        · refine E_mv (v := .bool _) rfl (E_notT rfl (E_notT rfl (E_pickF rfl (v := .bool _) rfl (E_mv (v := .bool _) rfl (E_nil (AX_condF rfl (AX_skip (AX_seq (AX_E (E_mv (v := .int .i64 (0)) rfl (E_nil (AX_ret ?_))))))))))))
          refine ⟨_, rfl, by simp, ?_, forget_flat rfl (List.prefix_append _ _)⟩
          refine congrArg (Value.int _) ?_
          unfold arityM
          (repeat' split) <;> omega
    · refine E_mv (v := .bool _) rfl (E_notT rfl (E_notT rfl (E_pickF rfl (v := .bool _) rfl (E_mv (v := .bool _) rfl (E_nil (AX_condF rfl (AX_seq (AX_E (E_mv (v := .int .i64 (n)) rfl (E_geqS rfl rfl (fun c15 => ?_) (fun c15 => ?_)))))))))))
      · refine E_mv (v := .bool _) rfl (E_on rfl (E_mv (v := .int .i64 (n)) rfl (E_on rfl (E_leqS rfl rfl (fun c18 => ?_) (fun c18 => ?_)))))
        · refine E_pickT rfl (v := .bool _) rfl (E_mv (v := .bool _) rfl (E_nil (AX_condT rfl (AX_seq (AX_E (E_mv (v := .int .i64 (1)) rfl (E_nil (AX_ret ?_))))))))
          refine ⟨_, rfl, by simp, ?_, forget_flat rfl (List.prefix_append _ _)⟩
          refine congrArg (Value.int _) ?_
          unfold arityM
          (repeat' split) <;> omega
        · refine E_pickT rfl (v := .bool _) rfl (E_mv (v := .bool _) rfl (E_nil (AX_condF rfl (AX_skip (AX_seq (AX_E (E_mv (v := .int .i64 (0)) rfl (E_nil (AX_ret ?_)))))))))
          refine ⟨_, rfl, by simp, ?_, forget_flat rfl (List.prefix_append _ _)⟩
          refine congrArg (Value.int _) ?_
          unfold arityM
          (repeat' split) <;> omega
      · refine E_mv (v := .bool _) rfl (E_notT rfl (E_notT rfl (E_pickF rfl (v := .bool _) rfl (E_mv (v := .bool _) rfl (E_nil (AX_condF rfl (AX_skip (AX_seq (AX_E (E_mv (v := .int .i64 (0)) rfl (E_nil (AX_ret ?_))))))))))))
        refine ⟨_, rfl, by simp, ?_, forget_flat rfl (List.prefix_append _ _)⟩
        refine congrArg (Value.int _) ?_
        unfold arityM
        (repeat' split) <;> omega
def paxisM (g : G) (n : Int) : Int := if g.k = 3 ∨ (5 ≤ g.k ∧ g.k ≤ 8) ∨ g.k = 10 ∨ g.k = 13 then 3 else if g.k = 1 then 1 else if g.k = 2 then 2 else if g.k = 4 then 4 else if g.k = 9 ∨ g.k = 12 then (if n = g.ws.length - 1 then 1 else 3) else 0
theorem paxis_ret (H : Heap) (g : G) (p : Pl) (n : Int) (hg : GR g) : Ret (tab Tryd.prog) 91 [gv g p, .int .i64 n] H (.int .i64 (paxisM g n)) H := by
  have hl := hg.len
  refine Ret_own k93 rfl ?_
  refine AX_seq (AX_E (E_boxA rfl (E_mv (v := .int .i64 (0)) rfl (E_nil (AX_seq (AX_seq (AX_E (E_fa rfl (E_ldO (k := 0) (v := .int .i64 (g.k)) rfl rfl (E_nil (AX_block (AX_seq (AX_seq (AX_E (E_eqlS rfl rfl (fun c8 => ?_) (fun c8 => ?_))))))))))))))))
  · refine E_mv (v := .bool _) rfl (E_nil (AX_condT rfl (AX_skip (AX_condT rfl (AX_seq (AX_E (E_mv (v := .int .i64 (3)) rfl (E_nil (AX_ret ?_)))))))))
    refine ⟨_, rfl, by simp, ?_, forget_flat rfl (List.prefix_append _ _)⟩
    -- r1
    refine congrArg (Value.int _) ?_
    unfold paxisM
    (repeat' split) <;> omega
  · refine E_mv (v := .bool _) rfl (E_nil (AX_condF rfl (AX_seq (AX_E (E_eqlS rfl rfl (fun c9 => ?_) (fun c9 => ?_))))))
    · refine E_mv (v := .bool _) rfl (E_nil (AX_condT rfl (AX_skip (AX_condT rfl (AX_seq (AX_E (E_mv (v := .int .i64 (3)) rfl (E_nil (AX_ret ?_)))))))))
      refine ⟨_, rfl, by simp, ?_, forget_flat rfl (List.prefix_append _ _)⟩
      -- r2
      refine congrArg (Value.int _) ?_
      unfold paxisM
      (repeat' split) <;> omega
    · refine E_mv (v := .bool _) rfl (E_nil (AX_condF rfl (AX_seq (AX_E (E_eqlS rfl rfl (fun c10 => ?_) (fun c10 => ?_))))))
      · refine E_mv (v := .bool _) rfl (E_nil (AX_condT rfl (AX_skip (AX_condT rfl (AX_seq (AX_E (E_mv (v := .int .i64 (3)) rfl (E_nil (AX_ret ?_)))))))))
        refine ⟨_, rfl, by simp, ?_, forget_flat rfl (List.prefix_append _ _)⟩
        -- r3
        refine congrArg (Value.int _) ?_
        unfold paxisM
        (repeat' split) <;> omega
      · refine E_mv (v := .bool _) rfl (E_nil (AX_condF rfl (AX_seq (AX_E (E_eqlS rfl rfl (fun c11 => ?_) (fun c11 => ?_))))))
        · refine E_mv (v := .bool _) rfl (E_nil (AX_condT rfl (AX_skip (AX_condT rfl (AX_seq (AX_E (E_mv (v := .int .i64 (3)) rfl (E_nil (AX_ret ?_)))))))))
          refine ⟨_, rfl, by simp, ?_, forget_flat rfl (List.prefix_append _ _)⟩
          -- r4
          refine congrArg (Value.int _) ?_
          unfold paxisM
          (repeat' split) <;> omega
        · refine E_mv (v := .bool _) rfl (E_nil (AX_condF rfl (AX_seq (AX_E (E_eqlS rfl rfl (fun c12 => ?_) (fun c12 => ?_))))))
          · refine E_mv (v := .bool _) rfl (E_nil (AX_condT rfl (AX_skip (AX_condT rfl (AX_seq (AX_E (E_mv (v := .int .i64 (3)) rfl (E_nil (AX_ret ?_)))))))))
            refine ⟨_, rfl, by simp, ?_, forget_flat rfl (List.prefix_append _ _)⟩
            -- r5
            refine congrArg (Value.int _) ?_
            unfold paxisM
            (repeat' split) <;> omega
          · refine E_mv (v := .bool _) rfl (E_nil (AX_condF rfl (AX_seq (AX_E (E_eqlS rfl rfl (fun c13 => ?_) (fun c13 => ?_))))))
            · refine E_mv (v := .bool _) rfl (E_nil (AX_condT rfl (AX_skip (AX_condT rfl (AX_seq (AX_E (E_mv (v := .int .i64 (3)) rfl (E_nil (AX_ret ?_)))))))))
              refine ⟨_, rfl, by simp, ?_, forget_flat rfl (List.prefix_append _ _)⟩
              -- r6
              refine congrArg (Value.int _) ?_
              unfold paxisM
              (repeat' split) <;> omega
            · refine E_mv (v := .bool _) rfl (E_nil (AX_condF rfl (AX_E (E_eqlS rfl rfl (fun c14 => ?_) (fun c14 => ?_)))))
              · refine E_mv (v := .bool _) rfl (E_nil (AX_condT rfl (AX_seq (AX_E (E_mv (v := .int .i64 (3)) rfl (E_nil (AX_ret ?_)))))))
                refine ⟨_, rfl, by simp, ?_, forget_flat rfl (List.prefix_append _ _)⟩
                -- r7
                refine congrArg (Value.int _) ?_
                unfold paxisM
                (repeat' split) <;> omega
              · refine E_mv (v := .bool _) rfl (E_nil (AX_condF rfl (AX_seq (AX_E (E_eqlS rfl rfl (fun c16 => ?_) (fun c16 => ?_))))))
                · refine E_mv (v := .bool _) rfl (E_nil (AX_condT rfl (AX_seq (AX_E (E_mv (v := .int .i64 (1)) rfl (E_nil (AX_ret ?_)))))))
                  refine ⟨_, rfl, by simp, ?_, forget_flat rfl (List.prefix_append _ _)⟩
                  -- r8
                  refine congrArg (Value.int _) ?_
                  unfold paxisM
                  (repeat' split) <;> omega
                · refine E_mv (v := .bool _) rfl (E_nil (AX_condF rfl (AX_seq (AX_E (E_eqlS rfl rfl (fun c18 => ?_) (fun c18 => ?_))))))
                  · refine E_mv (v := .bool _) rfl (E_nil (AX_condT rfl (AX_seq (AX_E (E_mv (v := .int .i64 (2)) rfl (E_nil (AX_ret ?_)))))))
                    refine ⟨_, rfl, by simp, ?_, forget_flat rfl (List.prefix_append _ _)⟩
                    -- r9
                    refine congrArg (Value.int _) ?_
                    unfold paxisM
                    (repeat' split) <;> omega
                  · refine E_mv (v := .bool _) rfl (E_nil (AX_condF rfl (AX_seq (AX_E (E_eqlS rfl rfl (fun c20 => ?_) (fun c20 => ?_))))))
                    · refine E_mv (v := .bool _) rfl (E_nil (AX_condT rfl (AX_seq (AX_E (E_mv (v := .int .i64 (4)) rfl (E_nil (AX_ret ?_)))))))
                      refine ⟨_, rfl, by simp, ?_, forget_flat rfl (List.prefix_append _ _)⟩
                      -- r10
                      refine congrArg (Value.int _) ?_
                      unfold paxisM
                      (repeat' split) <;> omega
                    · refine E_mv (v := .bool _) rfl (E_nil (AX_condF rfl (AX_seq (AX_seq (AX_E (E_eqlS rfl rfl (fun c22 => ?_) (fun c22 => ?_)))))))
                      · refine E_mv (v := .bool _) rfl (E_nil (AX_condT rfl (AX_skip (AX_condT rfl (AX_seq (AX_seq (AX_E (E_mv (v := .int .i64 (n)) rfl (E_fa rfl (E_ldO (k := 0) (v := .slice _ _ _) rfl rfl (E_len (n := (g.ws).length) rfl (E_subI rfl rfl (by first | omega | (simp; done) | (simp; omega)) (by first | omega | (simp; done) | (simp; omega)) (E_eqlS rfl rfl (fun c29 => ?_) (fun c29 => ?_))))))))))))))
                        · refine E_nil (AX_condT rfl (AX_seq (AX_E (E_mv (v := .int .i64 (1)) rfl (E_nil (AX_ret ?_))))))
                          refine ⟨_, rfl, by simp, ?_, forget_flat rfl (List.prefix_append _ _)⟩
                          -- r11
                          refine congrArg (Value.int _) ?_
                          unfold paxisM
                          (repeat' split) <;> omega
                        · refine E_nil (AX_condF rfl (AX_skip (AX_seq (AX_E (E_mv (v := .int .i64 (3)) rfl (E_nil (AX_ret ?_)))))))
                          refine ⟨_, rfl, by simp, ?_, forget_flat rfl (List.prefix_append _ _)⟩
                          -- r12
                          refine congrArg (Value.int _) ?_
                          unfold paxisM
                          (repeat' split) <;> omega
                      · refine E_mv (v := .bool _) rfl (E_nil (AX_condF rfl (AX_E (E_eqlS rfl rfl (fun c23 => ?_) (fun c23 => ?_)))))
                        · refine E_mv (v := .bool _) rfl (E_nil (AX_condT rfl (AX_seq (AX_seq (AX_E (E_mv (v := .int .i64 (n)) rfl (E_fa rfl (E_ldO (k := 0) (v := .slice _ _ _) rfl rfl (E_len (n := (g.ws).length) rfl (E_subI rfl rfl (by first | omega | (simp; done) | (simp; omega)) (by first | omega | (simp; done) | (simp; omega)) (E_eqlS rfl rfl (fun c29 => ?_) (fun c29 => ?_))))))))))))
                          · refine E_nil (AX_condT rfl (AX_seq (AX_E (E_mv (v := .int .i64 (1)) rfl (E_nil (AX_ret ?_))))))
                            refine ⟨_, rfl, by simp, ?_, forget_flat rfl (List.prefix_append _ _)⟩
                            -- r13
                            refine congrArg (Value.int _) ?_
                            unfold paxisM
                            (repeat' split) <;> omega
                          · refine E_nil (AX_condF rfl (AX_skip (AX_seq (AX_E (E_mv (v := .int .i64 (3)) rfl (E_nil (AX_ret ?_)))))))
                            refine ⟨_, rfl, by simp, ?_, forget_flat rfl (List.prefix_append _ _)⟩
                            -- r14
                            refine congrArg (Value.int _) ?_
                            unfold paxisM
                            (repeat' split) <;> omega
                        · refine E_mv (v := .bool _) rfl (E_nil (AX_condF rfl (AX_skip (AX_seq (AX_E (E_mv (v := .int .i64 (0)) rfl (E_nil (AX_ret ?_))))))))
                          refine ⟨_, rfl, by simp, ?_, forget_flat rfl (List.prefix_append _ _)⟩
                          -- r15
                          refine congrArg (Value.int _) ?_
                          unfold paxisM
                          (repeat' split) <;> omega
def idxM (l : List Int) (n : Int) : Int := if n ∈ l then (l.idxOf n : Int) else -1
theorem idx_at {l : List Int} {j : Nat} (hj : j < l.length) (H : ∀ x ∈ l.take j, ¬ l[j] = x) : l.idxOf l[j] = j := by
  induction l generalizing j with
  | nil => simp at hj
  | cons x xs ih =>
    cases j with
    | zero => simp
    | succ j =>
      simp only [List.getElem_cons_succ]
      have hj2 : j < xs.length := by simpa using hj
      have h1 := H x (by simp)
      rw [List.getElem_cons_succ] at h1
      rw [List.idxOf_cons, ih (by simpa using hj) fun y hy => by simpa using H y (by simp [hy])]
      have h2 : (x == xs[j]) = false := by simpa using fun e => h1 e.symm
      rw [h2]; rfl
theorem index_ret (H : Heap) (p : Pl) (l : List Int) (n : Int) {S : Nat → Prop} (hv : Ints S H p l) (hl : l.length < 4611686018427387904) : Ret (tab Tryd.prog) 52 [.slice p.1 l.length p.2, .int .i64 n] H (.int .i64 (idxM l n)) H := by
  refine Ret_own k92 rfl ?_
  refine AX_seq (AX_E (E_mv (v := .int .i64 (0)) rfl (E_nil (AX_seq (AX_seq (AX_E (E_mv (v := .slice _ _ _) rfl (E_len (n := (l).length) rfl (E_mv (v := .int .i64 (0)) rfl (E_nil (AX_block ?_)))))))))))
  refine AX_loopF (γ := Nat) (fun j => [(0, .slice (p).1 (l).length (p).2), (1, .int .i64 (n)), (7, .int .i64 ((l).length)), (8, .int .i64 ((j : Int)))]) (fun j h_ m_ => h_ = H ++ [] ∧ m_ = [] ∧ j ≤ l.length ∧ ∀ x ∈ l.take j, ¬ n = x) (fun j => l.length - j) (0) ⟨rfl, rfl, rfl, rfl, trivial⟩ ⟨rfl, rfl, ?_⟩ ?_
  · simp
  rintro j fr0 h0 m0 ⟨rfl, rfl, inv0⟩ K0 hN0 hR0 hE0
  refine AX_seq (AX_E (E_lssS rfl rfl (fun c9 => ?_) (fun c9 => ?_)))
  · refine E_nil (AX_seq (AX_condT rfl (AX_skip (AX_seq (AX_block (AX_seq (AX_E (E_mv (v := .int .i64 ((j : Int))) rfl (E_mv (v := .int .i64 ((j : Int))) rfl (E_nil (AX_seq (AX_E (E_mv (v := .int .i64 (n)) rfl (E_mv (v := .slice _ _ _) rfl (E_mv (v := .int .i64 ((j : Int))) rfl (have ix1 : j < (l).length := (by first | omega | (simp; done) | (simp; omega)); E_iaIb (j := j) rfl hv rfl rfl rfl ix1 fun b1 o1 w1 => (E_ldB (v := .int .i64 (l[j]'ix1)) rfl w1 (E_eqlS rfl rfl (fun c16 => ?_) (fun c16 => ?_)))))))))))))))))))
    · refine E_nil (AX_condT rfl (AX_seq (AX_E (E_mv (v := .int .i64 ((j : Int))) rfl (E_mv (v := .int .i64 ((j : Int))) rfl (E_nil (AX_ret (hR0 _ _ _ ?_))))))))
      refine ⟨_, rfl, by simp, ?_, forget_flat rfl (List.prefix_append _ _)⟩
      -- r1
      clear hN0 hR0 hE0
      refine congrArg (Value.int _) ?_
      subst c16
      rw [idxM, if_pos (List.getElem_mem _), idx_at (by omega) inv0.2]
    · refine E_nil (AX_condF rfl (AX_skip (AX_E (E_addI rfl rfl (by first | omega | (simp; done) | (simp; omega)) (by first | omega | (simp; done) | (simp; omega)) (E_mv (v := .int .i64 (((j : Int) + 1))) rfl (E_nil ?_))))))
      refine hN0 (j + 1) _ _ _ ⟨by first | rfl | (congr 1; omega), by first | rfl | (congr 1; omega), by first | rfl | (congr 1; omega), by first | rfl | (congr 1; omega), trivial⟩ ⟨rfl, rfl, ?_⟩ ?_
      -- n2
      all_goals clear hN0 hR0 hE0
      · exact ⟨by omega, all_next (by omega) inv0.2 c16⟩
      · (first | omega | (simp; omega))
  · refine E_nil (AX_seq (AX_condF rfl (AX_exit (hE0 _ _ _ _ ?_))))
    have e0 := all_all c9 inv0.2
    refine AX_seq (AX_E (E_mv (v := .int .i64 ((-1))) rfl (E_nil (AX_ret ?_))))
    refine ⟨_, rfl, by simp, ?_, forget_flat rfl (List.prefix_append _ _)⟩
    -- r3
    clear hN0 hR0 hE0
    refine congrArg (Value.int _) ?_
    rw [idxM, if_neg (fun hx => e0 n hx rfl)]
theorem contains_ret (H : Heap) (p : Pl) (l : List Int) (n : Int) {S : Nat → Prop} (hv : Ints S H p l) (hl : l.length < 4611686018427387904) : Ret (tab Tryd.prog) 17 [.slice p.1 l.length p.2, .int .i64 n] H (.bool (decide (n ∈ l))) H := by
  have hi : idxM l n ≥ 0 ↔ n ∈ l := by unfold idxM; split <;> simp [*]
  refine Ret_own k86 rfl ?_
  refine AX_seq (AX_E (E_mv (v := .bool _) rfl (E_nil (AX_seq (AX_E (E_mv (v := .slice _ _ _) rfl (E_mv (v := .int .i64 (n)) rfl (E_callV rfl (index_ret _ _ _ _ hv.app (by first | omega | (simp; done) | (simp; omega))) (E_geqV rfl rfl (E_mv (v := .bool _) rfl (E_nil (AX_ret ?_))))))))))))
  refine ⟨_, rfl, by simp, ?_, forget_flat rfl (List.prefix_append _ _)⟩
  refine congrArg (Value.bool) ?_
  refine decide_eq_decide.2 ?_
  exact hi
def swapsM (g h : G) : Prop := g.k = 11 ∧ (h.k = 11 ∨ h.k = 10)
instance (g h : G) : Decidable (swapsM g h) := by unfold swapsM; infer_instance
theorem swaps_ret (H : Heap) (g h : G) (p q : Pl) : Ret (tab Tryd.prog) 89 [gv g p, gv h q] H (.bool (decide (swapsM g h))) H := by
  refine Ret_own k90 rfl ?_
  refine AX_seq (AX_E (E_boxA rfl (E_boxA rfl (E_mv (v := .bool _) rfl (E_nil (AX_seq (AX_E (E_fa rfl (E_ldO (k := 0) (v := .int .i64 (g.k)) rfl rfl (E_eqlS rfl rfl (fun c7 => ?_) (fun c7 => ?_)))))))))))
  · refine E_mv (v := .bool _) rfl (E_on rfl (E_fa rfl (E_on rfl (E_ldO (k := 1) (v := .int .i64 (h.k)) rfl rfl (E_on rfl (E_eqlS rfl rfl (fun c11 => ?_) (fun c11 => ?_)))))))
    · refine E_on rfl (E_mv (v := .bool _) rfl (E_notF rfl (E_notF rfl (E_notF rfl (E_on rfl (E_pickT rfl (v := .bool _) rfl (E_pickT rfl (v := .bool _) rfl (E_mv (v := .bool _) rfl (E_nil (AX_ret ?_))))))))))
      refine ⟨_, rfl, by simp, ?_, forget_flat rfl (List.prefix_append _ _)⟩
      refine congrArg (Value.bool) ?_
      refine (decide_eq_true ?_).symm
      unfold swapsM
      omega
    · refine E_on rfl (E_mv (v := .bool _) rfl (E_on rfl (E_fa rfl (E_on rfl (E_ldO (k := 1) (v := .int .i64 (h.k)) rfl rfl (E_on rfl (E_eqlV rfl rfl (E_on rfl (E_pickF rfl (v := .bool _) rfl (E_pickT rfl (v := .bool _) rfl (E_mv (v := .bool _) rfl (E_nil (AX_ret ?_)))))))))))))
      refine ⟨_, rfl, by simp, ?_, forget_flat rfl (List.prefix_append _ _)⟩
      refine congrArg (Value.bool) ?_
      refine decide_eq_decide.2 ?_
      unfold swapsM
      omega
  · refine E_mv (v := .bool _) rfl (E_notT rfl (E_notT rfl (E_notT rfl (E_notT rfl (E_notU rfl (E_notU rfl (E_notU rfl (E_notT rfl (E_pickF rfl (v := .bool _) rfl (E_mv (v := .bool _) rfl (E_nil (AX_ret ?_))))))))))))
    refine ⟨_, rfl, by simp, ?_, forget_flat rfl (List.prefix_append _ _)⟩
    refine congrArg (Value.bool) ?_
    refine (decide_eq_false ?_).symm
    unfold swapsM
    omega
def ptouchM (g h : G) : Prop := g.k = 13 ∧ (h.f = g.b + 1 ∨ h.k = 13 ∧ h.b = g.b)
instance (g h : G) : Decidable (ptouchM g h) := by unfold ptouchM; infer_instance
theorem ptouch_ret (H : Heap) (g h : G) (p q : Pl) (hg : GR g) : Ret (tab Tryd.prog) 88 [gv g p, gv h q] H (.bool (decide (ptouchM g h))) H := by
  have b1 := hg.b0
  refine Ret_own k89 rfl ?_
  refine AX_seq (AX_E (E_boxA rfl (E_boxA rfl (E_mv (v := .bool _) rfl (E_nil (AX_seq (AX_E (E_fa rfl (E_ldO (k := 0) (v := .int .i64 (g.k)) rfl rfl (E_eqlS rfl rfl (fun c7 => ?_) (fun c7 => ?_)))))))))))
  · refine E_mv (v := .bool _) rfl (E_on rfl (E_fa rfl (E_on rfl (E_ldO (k := 1) (v := .int .i64 (h.f)) rfl rfl (E_on rfl (E_fa rfl (E_on rfl (E_ldO (k := 0) (v := .int .i64 (g.b)) rfl rfl (E_on rfl (E_addI rfl rfl (by first | omega | (simp; done) | (simp; omega)) (by first | omega | (simp; done) | (simp; omega)) (E_on rfl (E_eqlS rfl rfl (fun c14 => ?_) (fun c14 => ?_)))))))))))))
    · refine E_on rfl (E_mv (v := .bool _) rfl (E_notF rfl (E_notF rfl (E_notF rfl (E_notF rfl (E_notU rfl (E_notU rfl (E_notU rfl (E_notU rfl (E_notU rfl (E_notF rfl (E_on rfl (E_pickT rfl (v := .bool _) rfl (E_pickT rfl (v := .bool _) rfl (E_mv (v := .bool _) rfl (E_nil (AX_ret ?_)))))))))))))))))
      refine ⟨_, rfl, by simp, ?_, forget_flat rfl (List.prefix_append _ _)⟩
      refine congrArg (Value.bool) ?_
      refine (decide_eq_true ?_).symm
      unfold ptouchM
      omega
    · refine E_on rfl (E_mv (v := .bool _) rfl (E_on rfl (E_fa rfl (E_on rfl (E_ldO (k := 1) (v := .int .i64 (h.k)) rfl rfl (E_on rfl (E_eqlS rfl rfl (fun c18 => ?_) (fun c18 => ?_))))))))
      · refine E_on rfl (E_mv (v := .bool _) rfl (E_on rfl (E_fa rfl (E_on rfl (E_ldO (k := 1) (v := .int .i64 (h.b)) rfl rfl (E_on rfl (E_fa rfl (E_on rfl (E_ldO (k := 0) (v := .int .i64 (g.b)) rfl rfl (E_on rfl (E_eqlV rfl rfl (E_on rfl (E_pickT rfl (v := .bool _) rfl (E_on rfl (E_pickF rfl (v := .bool _) rfl (E_pickT rfl (v := .bool _) rfl (E_mv (v := .bool _) rfl (E_nil (AX_ret ?_)))))))))))))))))))
        refine ⟨_, rfl, by simp, ?_, forget_flat rfl (List.prefix_append _ _)⟩
        refine congrArg (Value.bool) ?_
        refine decide_eq_decide.2 ?_
        unfold ptouchM
        omega
      · refine E_on rfl (E_mv (v := .bool _) rfl (E_notT rfl (E_notT rfl (E_notT rfl (E_notT rfl (E_notT rfl (E_on rfl (E_pickF rfl (v := .bool _) rfl (E_on rfl (E_pickF rfl (v := .bool _) rfl (E_pickT rfl (v := .bool _) rfl (E_mv (v := .bool _) rfl (E_nil (AX_ret ?_))))))))))))))
        refine ⟨_, rfl, by simp, ?_, forget_flat rfl (List.prefix_append _ _)⟩
        refine congrArg (Value.bool) ?_
        refine (decide_eq_false ?_).symm
        unfold ptouchM
        omega
  · refine E_mv (v := .bool _) rfl (E_notT rfl (E_notT rfl (E_notT rfl (E_notT rfl (E_notT rfl (E_notT rfl (E_notT rfl (E_notU rfl (E_notU rfl (E_notU rfl (E_notU rfl (E_notU rfl (E_notU rfl (E_notU rfl (E_notU rfl (E_notU rfl (E_notU rfl (E_notT rfl (E_pickF rfl (v := .bool _) rfl (E_mv (v := .bool _) rfl (E_nil (AX_ret ?_))))))))))))))))))))))
    refine ⟨_, rfl, by simp, ?_, forget_flat rfl (List.prefix_append _ _)⟩
    refine congrArg (Value.bool) ?_
    refine (decide_eq_false ?_).symm
    unfold ptouchM
    omega
theorem isnan_ret (H : Heap) (n : Int) : Ret (tab Tryd.prog) 99 [.int .i64 n] H (.bool (decide False)) H := by
  refine Ret_own k106 rfl ?_
  refine AX_seq (AX_E (E_mv (v := .bool _) rfl (E_nil (AX_seq (AX_E (E_mv (v := .int .i64 (n)) rfl (E_mv (v := .int .i64 (n)) rfl (E_neqV rfl rfl (E_mv (v := .bool _) rfl (E_nil (AX_ret ?_)))))))))))
  refine ⟨_, rfl, by simp, ?_, forget_flat rfl (List.prefix_append _ _)⟩
  refine congrArg (Value.bool) ?_
  refine decide_eq_decide.2 ?_
  simp
def cmpM (a b : Int) : Int := if a < b then -1 else if b < a then 1 else 0
theorem cmp_ret (H : Heap) (a b : Int) : Ret (tab Tryd.prog) 93 [.int .i64 a, .int .i64 b] H (.int .i64 (cmpM a b)) H := by
  refine Ret_own k98 rfl ?_
  refine AX_seq (AX_E (E_mv (v := .int .i64 (0)) rfl (E_nil (AX_seq (AX_E (E_mv (v := .int .i64 (a)) rfl (E_callP rfl (isnan_ret _ _) (fun c8 => ?_) (fun c8 => ?_))))))))
  · exact c8.elim
  · refine E_mv (v := .bool _) rfl (E_nil (AX_seq (AX_E (E_mv (v := .int .i64 (b)) rfl (E_callP rfl (isnan_ret _ _) (fun c10 => ?_) (fun c10 => ?_))))))
    · exact c10.elim
    · refine E_mv (v := .bool _) rfl (E_nil (AX_seq (AX_seq (AX_E (E_mv (v := .bool _) rfl (E_nil (AX_condF rfl (AX_skip (AX_seq (AX_seq (AX_E (E_mv (v := .bool _) rfl (E_nil (AX_condF rfl (AX_skip (AX_seq (AX_seq (AX_E (E_mv (v := .int .i64 (a)) rfl (E_mv (v := .int .i64 (b)) rfl (E_lssS rfl rfl (fun c16 => ?_) (fun c16 => ?_))))))))))))))))))))))
      · refine E_nil (AX_condT rfl (AX_seq (AX_E (E_mv (v := .int .i64 ((-1))) rfl (E_nil (AX_ret ?_))))))
        refine ⟨_, rfl, by simp, ?_, forget_flat rfl (List.prefix_append _ _)⟩
        refine congrArg (Value.int _) ?_
        unfold cmpM
        (repeat' split) <;> omega
      · refine E_nil (AX_condF rfl (AX_skip (AX_seq (AX_seq (AX_E (E_mv (v := .int .i64 (a)) rfl (E_mv (v := .int .i64 (b)) rfl (E_gtrS rfl rfl (fun c19 => ?_) (fun c19 => ?_)))))))))
        · refine E_nil (AX_condT rfl (AX_seq (AX_E (E_mv (v := .int .i64 (1)) rfl (E_nil (AX_ret ?_))))))
          refine ⟨_, rfl, by simp, ?_, forget_flat rfl (List.prefix_append _ _)⟩
          refine congrArg (Value.int _) ?_
          unfold cmpM
          (repeat' split) <;> omega
        · refine E_nil (AX_condF rfl (AX_skip (AX_seq (AX_E (E_mv (v := .int .i64 (0)) rfl (E_nil (AX_ret ?_)))))))
          refine ⟨_, rfl, by simp, ?_, forget_flat rfl (List.prefix_append _ _)⟩
          refine congrArg (Value.int _) ?_
          unfold cmpM
          (repeat' split) <;> omega
theorem equal_ret (H : Heap) (p q : Pl) (l k : List Int) {S S' : Nat → Prop} (hv : Ints S H p l) (hu : Ints S' H q k) (hl : l.length < 4611686018427387904) : Ret (tab Tryd.prog) 40 [.slice p.1 l.length p.2, .slice q.1 k.length q.2] H (.bool (decide (l = k))) H := by
  refine Ret_own k33 rfl ?_
  refine AX_seq (AX_E (E_mv (v := .bool _) rfl (E_nil (AX_seq (AX_seq (AX_E (E_mv (v := .slice _ _ _) rfl (E_len (n := (l).length) rfl (E_mv (v := .slice _ _ _) rfl (E_len (n := (k).length) rfl (E_neqS rfl rfl (fun c10 => ?_) (fun c10 => ?_))))))))))))
  · refine E_nil (AX_condT rfl (AX_seq (AX_E (E_mv (v := .bool _) rfl (E_nil (AX_ret ?_))))))
    refine ⟨_, rfl, by simp, ?_, forget_flat rfl (List.prefix_append _ _)⟩
    -- r1
    refine congrArg (Value.bool) ?_
    refine (decide_eq_false ?_).symm
    exact fun e => c10 (by rw [e])
  · refine E_nil (AX_condF rfl (AX_skip (AX_seq (AX_seq (AX_E (E_mv (v := .slice _ _ _) rfl (E_len (n := (l).length) rfl (E_mv (v := .int .i64 (0)) rfl (E_nil (AX_block ?_))))))))))
    refine AX_loopF (γ := Nat) (fun j => [(0, .slice (p).1 (l).length (p).2), (1, .slice (q).1 (k).length (q).2), (12, .int .i64 ((l).length)), (13, .int .i64 ((j : Int)))]) (fun j h_ m_ => h_ = H ++ [] ∧ m_ = [] ∧ j ≤ l.length ∧ l.take j = k.take j) (fun j => l.length - j) (0) ⟨rfl, rfl, rfl, rfl, trivial⟩ ⟨rfl, rfl, ?_⟩ ?_
    · simp
    rintro j fr0 h0 m0 ⟨rfl, rfl, inv0⟩ K0 hN0 hR0 hE0
    refine AX_seq (AX_E (E_lssS rfl rfl (fun c14 => ?_) (fun c14 => ?_)))
    · refine E_nil (AX_seq (AX_condT rfl (AX_skip (AX_seq (AX_block (AX_seq (AX_E (E_mv (v := .int .i64 ((j : Int))) rfl (E_mv (v := .int .i64 ((j : Int))) rfl (E_nil (AX_seq (AX_E (E_mv (v := .slice _ _ _) rfl (E_mv (v := .int .i64 ((j : Int))) rfl (have ix1 : j < (l).length := (by first | omega | (simp; done) | (simp; omega)); E_iaIb (j := j) rfl hv rfl rfl rfl ix1 fun b1 o1 w1 => (E_ldB (v := .int .i64 (l[j]'ix1)) rfl w1 (E_mv (v := .slice _ _ _) rfl (E_mv (v := .int .i64 ((j : Int))) rfl (have ix2 : j < (k).length := (by first | omega | (simp; done) | (simp; omega)); E_iaIb (j := j) rfl hu rfl rfl rfl ix2 fun b2 o2 w2 => (E_ldB (v := .int .i64 (k[j]'ix2)) rfl w2 (E_neqS rfl rfl (fun c24 => ?_) (fun c24 => ?_))))))))))))))))))))))
      · refine E_nil (AX_condT rfl (AX_seq (AX_E (E_mv (v := .bool _) rfl (E_nil (AX_ret (hR0 _ _ _ ?_)))))))
        refine ⟨_, rfl, by simp, ?_, forget_flat rfl (List.prefix_append _ _)⟩
        -- r2
        clear hN0 hR0 hE0
        refine congrArg (Value.bool) ?_
        refine (decide_eq_false ?_).symm
        exact fun e => c24 (by simp [e])
      · refine E_nil (AX_condF rfl (AX_skip (AX_E (E_addI rfl rfl (by first | omega | (simp; done) | (simp; omega)) (by first | omega | (simp; done) | (simp; omega)) (E_mv (v := .int .i64 (((j : Int) + 1))) rfl (E_nil ?_))))))
        refine hN0 (j + 1) _ _ _ ⟨by first | rfl | (congr 1; omega), by first | rfl | (congr 1; omega), by first | rfl | (congr 1; omega), by first | rfl | (congr 1; omega), trivial⟩ ⟨rfl, rfl, ?_⟩ ?_
        -- n3
        all_goals clear hN0 hR0 hE0
        · exact ⟨by omega, take_eq_next (by omega) (by omega) inv0.2 c24⟩
        · (first | omega | (simp; omega))
    · refine E_nil (AX_seq (AX_condF rfl (AX_exit (hE0 _ _ _ _ ?_))))
      have e0 := take_eq_all c14 (by omega) inv0.2
      refine AX_seq (AX_E (E_mv (v := .bool _) rfl (E_nil (AX_ret ?_))))
      refine ⟨_, rfl, by simp, ?_, forget_flat rfl (List.prefix_append _ _)⟩
      -- r4
      clear hN0 hR0 hE0
      refine congrArg (Value.bool) ?_
      refine (decide_eq_true ?_).symm
      exact e0
def lexM : List Int → List Int → Int
  | [], [] => 0
  | [], _ :: _ => -1
  | _ :: _, [] => 1
  | x :: xs, y :: ys => if cmpM x y ≠ 0 then cmpM x y else lexM xs ys
theorem cmpM_eq {a b : Int} : cmpM a b = 0 ↔ a = b := by unfold cmpM; (repeat' split) <;> omega
theorem lex_at : ∀ {a b : List Int} {j : Nat} (h1 : j < a.length) (h2 : j < b.length), a.take j = b.take j → ¬ cmpM a[j] b[j] = 0 → lexM a b = cmpM a[j] b[j]
  | x :: xs, y :: ys, 0, _, _, _, h => by simp at h; simp [lexM, h]
  | x :: xs, y :: ys, j + 1, h1, h2, ht, h => by
    simp only [List.take_succ_cons, List.cons.injEq] at ht
    obtain ⟨rfl, ht⟩ := ht
    simp only [List.getElem_cons_succ] at h ⊢
    rw [← lex_at (by simpa using h1) (by simpa using h2) ht h]
    simp [lexM, cmpM]
theorem lex_long : ∀ {a b : List Int} {j : Nat}, j < a.length → b.length ≤ j → a.take j = b.take j → lexM a b = 1
  | x :: xs, [], _, _, _, _ => rfl
  | x :: xs, y :: ys, 0, _, h, _ => by simp at h
  | x :: xs, y :: ys, j + 1, h1, h2, ht => by
    simp only [List.take_succ_cons, List.cons.injEq] at ht
    obtain ⟨rfl, ht⟩ := ht
    rw [← lex_long (by simpa using h1) (by simpa using h2) ht]
    simp [lexM, cmpM]
theorem lex_end : ∀ {a b : List Int}, b.take a.length = a → lexM a b = if a.length < b.length then -1 else 0
  | [], [], _ => rfl
  | [], y :: ys, _ => by simp [lexM]
  | x :: xs, [], h => by simp at h
  | x :: xs, y :: ys, h => by
    simp only [List.length_cons, List.take_succ_cons, List.cons.injEq] at h
    obtain ⟨rfl, h⟩ := h
    have := lex_end h
    simp only [lexM, cmpM, Int.lt_irrefl, if_false, ne_eq, not_true, this, List.length_cons]
    congr 1
    simp
theorem lex_ret (H : Heap) (p q : Pl) (l k : List Int) {S S' : Nat → Prop} (hv : Ints S H p l) (hu : Ints S' H q k) (hl : l.length < 4611686018427387904) : Ret (tab Tryd.prog) 94 [.slice p.1 l.length p.2, .slice q.1 k.length q.2] H (.int .i64 (lexM l k)) H := by
  refine Ret_own k99 rfl ?_
  refine AX_seq (AX_E (E_mv (v := .int .i64 (0)) rfl (E_nil (AX_seq (AX_seq (AX_E (E_mv (v := .slice _ _ _) rfl (E_len (n := (l).length) rfl (E_mv (v := .int .i64 (0)) rfl (E_nil (AX_block ?_)))))))))))
  refine AX_loopF (γ := Nat) (fun j => [(0, .slice (p).1 (l).length (p).2), (1, .slice (q).1 (k).length (q).2), (9, .slice (p).1 (l).length (p).2), (10, .int .i64 ((l).length)), (11, .int .i64 ((j : Int)))]) (fun j h_ m_ => h_ = H ++ [] ∧ m_ = [] ∧ j ≤ l.length ∧ l.take j = k.take j) (fun j => l.length - j) (0) ⟨rfl, rfl, rfl, rfl, rfl, trivial⟩ ⟨rfl, rfl, ?_⟩ ?_
  · simp
  rintro j fr0 h0 m0 ⟨rfl, rfl, inv0⟩ K0 hN0 hR0 hE0
  refine AX_seq (AX_E (E_lssS rfl rfl (fun c12 => ?_) (fun c12 => ?_)))
  · refine E_nil (AX_seq (AX_condT rfl (AX_skip (AX_seq (AX_block (AX_seq (AX_E (E_mv (v := .int .i64 ((j : Int))) rfl (have ix1 : j < (l).length := (by first | omega | (simp; done) | (simp; omega)); E_iaIb (j := j) rfl hv rfl rfl rfl ix1 fun b1 o1 w1 => (E_ldB (v := .int .i64 (l[j]'ix1)) rfl w1 (E_mv (v := .int .i64 ((j : Int))) rfl (E_mv (v := .int .i64 (l[j]'ix1)) rfl (E_nil (AX_seq (AX_seq (AX_E (E_mv (v := .int .i64 ((j : Int))) rfl (E_mv (v := .slice _ _ _) rfl (E_len (n := (k).length) rfl (E_geqS rfl rfl (fun c19 => ?_) (fun c19 => ?_)))))))))))))))))))))
    · refine E_nil (AX_condT rfl (AX_seq (AX_E (E_mv (v := .int .i64 (1)) rfl (E_nil (AX_ret (hR0 _ _ _ ?_)))))))
      refine ⟨_, rfl, by simp, ?_, forget_flat rfl (List.prefix_append _ _)⟩
      -- r1
      clear hN0 hR0 hE0
      refine congrArg (Value.int _) ?_
      rw [lex_long (by omega) (by omega) inv0.2]
    · refine E_nil (AX_condF rfl (AX_skip (AX_seq (AX_E (E_mv (v := .slice _ _ _) rfl (E_mv (v := .int .i64 ((j : Int))) rfl (have ix2 : j < (k).length := (by first | omega | (simp; done) | (simp; omega)); E_iaIb (j := j) rfl hu rfl rfl rfl ix2 fun b2 o2 w2 => (E_ldB (v := .int .i64 (k[j]'ix2)) rfl w2 (E_mv (v := .int .i64 (k[j]'ix2)) rfl (E_nil (AX_seq (AX_E (E_mv (v := .int .i64 (l[j]'ix1)) rfl (E_mv (v := .int .i64 (k[j]'ix2)) rfl (E_callV rfl (cmp_ret _ _ _) (E_mv (v := .int .i64 (cmpM (l[j]'ix1) (k[j]'ix2))) rfl (E_nil (AX_seq (AX_E (E_mv (v := .int .i64 (cmpM (l[j]'ix1) (k[j]'ix2))) rfl (E_neqS rfl rfl (fun c28 => ?_) (fun c28 => ?_))))))))))))))))))))))
      · refine E_nil (AX_condT rfl (AX_seq (AX_E (E_mv (v := .int .i64 (cmpM (l[j]'ix1) (k[j]'ix2))) rfl (E_mv (v := .int .i64 (cmpM (l[j]'ix1) (k[j]'ix2))) rfl (E_nil (AX_ret (hR0 _ _ _ ?_))))))))
        refine ⟨_, rfl, by simp, ?_, forget_flat rfl (List.prefix_append _ _)⟩
        -- r2
        clear hN0 hR0 hE0
        refine congrArg (Value.int _) ?_
        rw [lex_at (by omega) (by omega) inv0.2 c28]
      · refine E_nil (AX_condF rfl (AX_skip (AX_E (E_addI rfl rfl (by first | omega | (simp; done) | (simp; omega)) (by first | omega | (simp; done) | (simp; omega)) (E_mv (v := .int .i64 (((j : Int) + 1))) rfl (E_nil ?_))))))
        refine hN0 (j + 1) _ _ _ ⟨by first | rfl | (congr 1; omega), by first | rfl | (congr 1; omega), by first | rfl | (congr 1; omega), by first | rfl | (congr 1; omega), by first | rfl | (congr 1; omega), trivial⟩ ⟨rfl, rfl, ?_⟩ ?_
        -- n3
        all_goals clear hN0 hR0 hE0
        · exact ⟨by omega, take_eq_next (by omega) (by omega) inv0.2 (cmpM_eq.1 c28)⟩
        · (first | omega | (simp; omega))
  · refine E_nil (AX_seq (AX_condF rfl (AX_exit (hE0 _ _ _ _ ?_))))
    have e0 : k.take l.length = l := by have := inv0.2; rw [show j = l.length by omega] at this; rw [← this]; simp
    refine AX_seq (AX_seq (AX_E (E_mv (v := .slice _ _ _) rfl (E_len (n := (l).length) rfl (E_mv (v := .slice _ _ _) rfl (E_len (n := (k).length) rfl (E_lssS rfl rfl (fun c35 => ?_) (fun c35 => ?_))))))))
    · refine E_nil (AX_condT rfl (AX_seq (AX_E (E_mv (v := .int .i64 ((-1))) rfl (E_nil (AX_ret ?_))))))
      refine ⟨_, rfl, by simp, ?_, forget_flat rfl (List.prefix_append _ _)⟩
      -- r4
      clear hN0 hR0 hE0
      refine congrArg (Value.int _) ?_
      rw [lex_end e0]
      split <;> omega
    · refine E_nil (AX_condF rfl (AX_skip (AX_seq (AX_E (E_mv (v := .int .i64 (0)) rfl (E_nil (AX_ret ?_)))))))
      refine ⟨_, rfl, by simp, ?_, forget_flat rfl (List.prefix_append _ _)⟩
      -- r5
      clear hN0 hR0 hE0
      refine congrArg (Value.int _) ?_
      rw [lex_end e0]
      split <;> omega
end Go.Canon
namespace Go.Canon
open Go Go.Proofs
set_option linter.unusedVariables false
set_option linter.unusedSimpArgs false
def kf82 : KFunc := ⟨2, 31, [.tmp 4], .seq (.reg [⟨some 2, .box (.t 0), none⟩, ⟨some 3, .box (.t 1), none⟩, ⟨some 4, .mv (.c (.bool false)), none⟩] []) (.seq (.reg [⟨some 5, .fa (.t 2) 0, none⟩, ⟨some 6, .ld (.t 5) none, none⟩, ⟨some 7, .fa (.t 3) 0, none⟩, ⟨some 8, .ld (.t 7) none, none⟩, ⟨some 9, .bin .eql (.t 6) (.t 8), none⟩, ⟨some 10, .mv (.t 9), none⟩, ⟨some 11, .fa (.t 2) 1, some (10, true)⟩, ⟨some 12, .ld (.t 11) none, some (10, true)⟩, ⟨some 13, .fa (.t 3) 1, some (10, true)⟩, ⟨some 14, .ld (.t 13) none, some (10, true)⟩, ⟨some 15, .call (.c (.func (.func 40) #[] #[])) [.t 12, .t 14], some (10, true)⟩, ⟨some 16, .pick (.t 10) (.t 15) (.c (.bool false)), none⟩, ⟨some 17, .mv (.t 16), none⟩, ⟨some 18, .fa (.t 2) 2, some (17, true)⟩, ⟨some 19, .ld (.t 18) none, some (17, true)⟩, ⟨some 20, .fa (.t 3) 2, some (17, true)⟩, ⟨some 21, .ld (.t 20) none, some (17, true)⟩, ⟨some 22, .bin .eql (.t 19) (.t 21), some (17, true)⟩, ⟨some 23, .pick (.t 17) (.t 22) (.c (.bool false)), none⟩, ⟨some 24, .mv (.t 23), none⟩, ⟨some 25, .fa (.t 2) 3, some (24, true)⟩, ⟨some 26, .ld (.t 25) none, some (24, true)⟩, ⟨some 27, .fa (.t 3) 3, some (24, true)⟩, ⟨some 28, .ld (.t 27) none, some (24, true)⟩, ⟨some 29, .bin .eql (.t 26) (.t 28), some (24, true)⟩, ⟨some 30, .pick (.t 24) (.t 29) (.c (.bool false)), none⟩, ⟨some 4, .mv (.t 30), none⟩] []) .ret)⟩
theorem k82 : tab Tryd.prog 95 = some kf82 := by kernel_rfl
def kf77 : KFunc := ⟨2, 31, [.tmp 4], .seq (.reg [⟨some 2, .box (.t 0), none⟩, ⟨some 3, .box (.t 1), none⟩, ⟨some 4, .mv (.c (.bool false)), none⟩] []) (.seq (.reg [⟨some 5, .fa (.t 2) 0, none⟩, ⟨some 6, .ld (.t 5) none, none⟩, ⟨some 7, .fa (.t 3) 0, none⟩, ⟨some 8, .ld (.t 7) none, none⟩, ⟨some 9, .bin .eql (.t 6) (.t 8), none⟩, ⟨some 10, .mv (.t 9), none⟩, ⟨some 11, .fa (.t 2) 2, some (10, true)⟩, ⟨some 12, .ld (.t 11) none, some (10, true)⟩, ⟨some 13, .fa (.t 3) 2, some (10, true)⟩, ⟨some 14, .ld (.t 13) none, some (10, true)⟩, ⟨some 15, .bin .eql (.t 12) (.t 14), some (10, true)⟩, ⟨some 16, .pick (.t 10) (.t 15) (.c (.bool false)), none⟩, ⟨some 17, .mv (.t 16), none⟩, ⟨some 18, .fa (.t 2) 3, some (17, true)⟩, ⟨some 19, .ld (.t 18) none, some (17, true)⟩, ⟨some 20, .fa (.t 3) 3, some (17, true)⟩, ⟨some 21, .ld (.t 20) none, some (17, true)⟩, ⟨some 22, .bin .eql (.t 19) (.t 21), some (17, true)⟩, ⟨some 23, .pick (.t 17) (.t 22) (.c (.bool false)), none⟩, ⟨some 24, .mv (.t 23), none⟩, ⟨some 25, .fa (.t 2) 1, some (24, true)⟩, ⟨some 26, .ld (.t 25) none, some (24, true)⟩, ⟨some 27, .fa (.t 3) 1, some (24, true)⟩, ⟨some 28, .ld (.t 27) none, some (24, true)⟩, ⟨some 29, .call (.c (.func (.func 40) #[] #[])) [.t 26, .t 28], some (24, true)⟩, ⟨some 30, .pick (.t 24) (.t 29) (.c (.bool false)), none⟩, ⟨some 4, .mv (.t 30), none⟩] []) .ret)⟩
theorem k77 : tab Tryd.prog 32 = some kf77 := by kernel_rfl
def kf76 : KFunc := ⟨3, 32, [.tmp 6], .seq (.reg [⟨some 6, .mv (.c (.bool false)), none⟩] []) (.seq (.seq (.reg [⟨some 10, .mv (.t 0), none⟩, ⟨some 11, .len (.t 10), none⟩, ⟨some 12, .mv (.t 1), none⟩, ⟨some 13, .len (.t 12), none⟩, ⟨some 14, .bin .neq (.t 11) (.t 13), none⟩] []) (.cond (.t 14) (.seq (.reg [⟨some 6, .mv (.c (.bool false)), none⟩] []) .ret) .skip)) (.seq (.seq (.reg [⟨some 15, .mv (.t 0), none⟩, ⟨some 16, .len (.t 15), none⟩, ⟨some 17, .mv (.c (.int .i64 0)), none⟩] []) (.block 0 (.loop (.seq (.reg [⟨some 18, .bin .lss (.t 17) (.t 16), none⟩] []) (.seq (.cond (.t 18) .skip (.exit 0)) (.seq (.block 1 (.seq (.reg [⟨some 19, .mv (.t 17), none⟩, ⟨some 20, .iaS (.t 15) (.t 17) 4, none⟩, ⟨some 21, .ld (.t 20) (some 4), none⟩, ⟨some 8, .new [.int .i64 0, .slice none 0 0, .int .i64 0, .int .i64 0], none⟩, ⟨some 7, .mv (.t 19), none⟩, ⟨none, .st (.t 8) (.t 21) 4, none⟩] []) (.seq (.reg [⟨some 22, .mv (.t 1), none⟩, ⟨some 23, .mv (.t 7), none⟩, ⟨some 24, .iaS (.t 22) (.t 23) 4, none⟩, ⟨some 25, .ld (.t 24) (some 4), none⟩, ⟨some 9, .new [.int .i64 0, .slice none 0 0, .int .i64 0, .int .i64 0], none⟩, ⟨none, .st (.t 9) (.t 25) 4, none⟩] []) (.seq (.reg [⟨some 26, .mv (.t 2), none⟩, ⟨some 27, .ld (.t 8) (some 4), none⟩, ⟨some 28, .ld (.t 9) (some 4), none⟩, ⟨some 29, .call (.t 26) [.t 27, .t 28], none⟩, ⟨some 30, .not (.t 29), none⟩] []) (.cond (.t 30) (.seq (.reg [⟨some 6, .mv (.c (.bool false)), none⟩] []) .ret) .skip))))) (.reg [⟨some 31, .bin .add (.t 17) (.c (.int .i64 1)), none⟩, ⟨some 17, .mv (.t 31), none⟩] []))))))) (.seq (.reg [⟨some 6, .mv (.c (.bool true)), none⟩] []) .ret)))⟩
theorem k76 : tab Tryd.prog 41 = some kf76 := by kernel_rfl
def kf36 : KFunc := ⟨2, 24, [.tmp 4], .seq (.reg [⟨some 2, .box (.t 0), none⟩, ⟨some 3, .box (.t 1), none⟩, ⟨some 4, .mv (.c (.bool false)), none⟩] []) (.seq (.reg [⟨some 5, .fa (.t 2) 0, none⟩, ⟨some 6, .ld (.t 5) none, none⟩, ⟨some 7, .fa (.t 3) 0, none⟩, ⟨some 8, .ld (.t 7) none, none⟩, ⟨some 9, .bin .eql (.t 6) (.t 8), none⟩, ⟨some 10, .mv (.t 9), none⟩, ⟨some 11, .fa (.t 2) 1, some (10, true)⟩, ⟨some 12, .ld (.t 11) none, some (10, true)⟩, ⟨some 13, .fa (.t 3) 1, some (10, true)⟩, ⟨some 14, .ld (.t 13) none, some (10, true)⟩, ⟨some 15, .bin .eql (.t 12) (.t 14), some (10, true)⟩, ⟨some 16, .pick (.t 10) (.t 15) (.c (.bool false)), none⟩, ⟨some 17, .mv (.t 16), none⟩, ⟨some 18, .fa (.t 2) 2, some (17, true)⟩, ⟨some 19, .ld (.t 18) none, some (17, true)⟩, ⟨some 20, .fa (.t 3) 2, some (17, true)⟩, ⟨some 21, .ld (.t 20) none, some (17, true)⟩, ⟨some 22, .call (.c (.func (.func 41) #[] #[])) [.t 19, .t 21, .c (.func (.func 95) #[] #[])], some (17, true)⟩, ⟨some 23, .pick (.t 17) (.t 22) (.c (.bool false)), none⟩, ⟨some 4, .mv (.t 23), none⟩] []) .ret)⟩
theorem k36 : tab Tryd.prog 71 = some kf36 := by kernel_rfl
def kf21 : KFunc := ⟨2, 24, [.tmp 4], .seq (.reg [⟨some 2, .box (.t 0), none⟩, ⟨some 3, .box (.t 1), none⟩, ⟨some 4, .mv (.c (.bool false)), none⟩] []) (.seq (.reg [⟨some 5, .fa (.t 2) 0, none⟩, ⟨some 6, .ld (.t 5) none, none⟩, ⟨some 7, .fa (.t 3) 0, none⟩, ⟨some 8, .ld (.t 7) none, none⟩, ⟨some 9, .bin .eql (.t 6) (.t 8), none⟩, ⟨some 10, .mv (.t 9), none⟩, ⟨some 11, .fa (.t 2) 1, some (10, true)⟩, ⟨some 12, .ld (.t 11) none, some (10, true)⟩, ⟨some 13, .fa (.t 3) 1, some (10, true)⟩, ⟨some 14, .ld (.t 13) none, some (10, true)⟩, ⟨some 15, .bin .eql (.t 12) (.t 14), some (10, true)⟩, ⟨some 16, .pick (.t 10) (.t 15) (.c (.bool false)), none⟩, ⟨some 17, .mv (.t 16), none⟩, ⟨some 18, .fa (.t 2) 2, some (17, true)⟩, ⟨some 19, .ld (.t 18) none, some (17, true)⟩, ⟨some 20, .fa (.t 3) 2, some (17, true)⟩, ⟨some 21, .ld (.t 20) none, some (17, true)⟩, ⟨some 22, .call (.c (.func (.func 41) #[] #[])) [.t 19, .t 21, .c (.func (.func 32) #[] #[])], some (17, true)⟩, ⟨some 23, .pick (.t 17) (.t 22) (.c (.bool false)), none⟩, ⟨some 4, .mv (.t 23), none⟩] []) .ret)⟩
theorem k21 : tab Tryd.prog 24 = some kf21 := by kernel_rfl
def kf87 : KFunc := ⟨2, 19, [.tmp 4], .seq (.reg [⟨some 4, .mv (.c (.int .i64 0)), none⟩] []) (.seq (.seq (.reg [⟨some 6, .mv (.t 0), none⟩, ⟨some 7, .len (.t 6), none⟩, ⟨some 8, .mv (.c (.int .i64 0)), none⟩] []) (.block 0 (.loop (.seq (.reg [⟨some 9, .bin .lss (.t 8) (.t 7), none⟩] []) (.seq (.cond (.t 9) .skip (.exit 0)) (.seq (.block 1 (.seq (.reg [⟨some 10, .mv (.t 8), none⟩, ⟨some 5, .mv (.t 10), none⟩] []) (.seq (.reg [⟨some 11, .mv (.t 1), none⟩, ⟨some 12, .mv (.t 0), none⟩, ⟨some 13, .mv (.t 5), none⟩, ⟨some 14, .iaS (.t 12) (.t 13) 4, none⟩, ⟨some 15, .ld (.t 14) (some 4), none⟩, ⟨some 16, .call (.t 11) [.t 15], none⟩] []) (.cond (.t 16) (.seq (.reg [⟨some 17, .mv (.t 5), none⟩, ⟨some 4, .mv (.t 17), none⟩] []) .ret) .skip)))) (.reg [⟨some 18, .bin .add (.t 8) (.c (.int .i64 1)), none⟩, ⟨some 8, .mv (.t 18), none⟩] []))))))) (.seq (.reg [⟨some 4, .mv (.c (.int .i64 (-1))), none⟩] []) .ret))⟩
theorem k87 : tab Tryd.prog 30 = some kf87 := by kernel_rfl
def kf49 : KFunc := ⟨2, 9, [.tmp 4], .seq (.reg [⟨some 4, .mv (.c (.bool false)), none⟩] []) (.seq (.reg [⟨some 5, .mv (.t 0), none⟩, ⟨some 6, .mv (.t 1), none⟩, ⟨some 7, .call (.c (.func (.func 30) #[] #[])) [.t 5, .t 6], none⟩, ⟨some 8, .bin .geq (.t 7) (.c (.int .i64 0)), none⟩, ⟨some 4, .mv (.t 8), none⟩] []) .ret)⟩
theorem k49 : tab Tryd.prog 101 = some kf49 := by kernel_rfl
def kf109 : KFunc := ⟨2, 19, [.tmp 4], .seq (.reg [⟨some 4, .mv (.c (.int .i64 0)), none⟩] []) (.seq (.seq (.reg [⟨some 6, .mv (.t 0), none⟩, ⟨some 7, .len (.t 6), none⟩, ⟨some 8, .mv (.c (.int .i64 0)), none⟩] []) (.block 0 (.loop (.seq (.reg [⟨some 9, .bin .lss (.t 8) (.t 7), none⟩] []) (.seq (.cond (.t 9) .skip (.exit 0)) (.seq (.block 1 (.seq (.reg [⟨some 10, .mv (.t 8), none⟩, ⟨some 5, .mv (.t 10), none⟩] []) (.seq (.reg [⟨some 11, .mv (.t 1), none⟩, ⟨some 12, .mv (.t 0), none⟩, ⟨some 13, .mv (.t 5), none⟩, ⟨some 14, .iaS (.t 12) (.t 13) 1, none⟩, ⟨some 15, .ld (.t 14) none, none⟩, ⟨some 16, .call (.t 11) [.t 15], none⟩] []) (.cond (.t 16) (.seq (.reg [⟨some 17, .mv (.t 5), none⟩, ⟨some 4, .mv (.t 17), none⟩] []) .ret) .skip)))) (.reg [⟨some 18, .bin .add (.t 8) (.c (.int .i64 1)), none⟩, ⟨some 8, .mv (.t 18), none⟩] []))))))) (.seq (.reg [⟨some 4, .mv (.c (.int .i64 (-1))), none⟩] []) .ret))⟩
theorem k109 : tab Tryd.prog 51 = some kf109 := by kernel_rfl
def kf107 : KFunc := ⟨2, 9, [.tmp 4], .seq (.reg [⟨some 4, .mv (.c (.bool false)), none⟩] []) (.seq (.reg [⟨some 5, .mv (.t 0), none⟩, ⟨some 6, .mv (.t 1), none⟩, ⟨some 7, .call (.c (.func (.func 51) #[] #[])) [.t 5, .t 6], none⟩, ⟨some 8, .bin .geq (.t 7) (.c (.int .i64 0)), none⟩, ⟨some 4, .mv (.t 8), none⟩] []) .ret)⟩
theorem k107 : tab Tryd.prog 15 = some kf107 := by kernel_rfl
def kf108 : KFunc := ⟨2, 8, [.tmp 3], .seq (.reg [⟨some 3, .mv (.c (.bool false)), none⟩] []) (.seq (.reg [⟨some 4, .ld (.t 1) none, none⟩, ⟨some 5, .mv (.t 0), none⟩, ⟨some 6, .call (.t 4) [.t 5], none⟩, ⟨some 7, .not (.t 6), none⟩, ⟨some 3, .mv (.t 7), none⟩] []) .ret)⟩
theorem k108 : tab Tryd.prog 106 = some kf108 := by kernel_rfl
def kf103 : KFunc := ⟨2, 9, [.tmp 4], .seq (.reg [⟨some 3, .box (.t 1), none⟩, ⟨some 4, .mv (.c (.bool false)), none⟩] []) (.seq (.reg [⟨some 5, .mv (.t 0), none⟩, ⟨some 6, .fn 106 [] [.t 3], none⟩, ⟨some 7, .call (.c (.func (.func 15) #[] #[])) [.t 5, .t 6], none⟩, ⟨some 8, .not (.t 7), none⟩, ⟨some 4, .mv (.t 8), none⟩] []) .ret)⟩
theorem k103 : tab Tryd.prog 104 = some kf103 := by kernel_rfl
def kf102 : KFunc := ⟨2, 13, [.tmp 3], .seq (.reg [⟨some 3, .mv (.c (.bool false)), none⟩] []) (.seq (.reg [⟨some 4, .mv (.t 0), none⟩, ⟨some 5, .bin .geq (.t 4) (.c (.int .i64 0)), none⟩, ⟨some 6, .mv (.t 5), none⟩, ⟨some 7, .mv (.t 0), some (6, true)⟩, ⟨some 8, .fa (.t 1) 0, some (6, true)⟩, ⟨some 9, .fa (.t 8) 0, some (6, true)⟩, ⟨some 10, .ld (.t 9) none, some (6, true)⟩, ⟨some 11, .bin .lss (.t 7) (.t 10), some (6, true)⟩, ⟨some 12, .pick (.t 6) (.t 11) (.c (.bool false)), none⟩, ⟨some 3, .mv (.t 12), none⟩] []) .ret)⟩
theorem k102 : tab Tryd.prog 103 = some kf102 := by kernel_rfl
def kf81 : KFunc := ⟨2, 96, [.tmp 4], .seq (.reg [⟨some 2, .box (.t 0), none⟩, ⟨some 3, .box (.t 1), none⟩, ⟨some 4, .mv (.c (.int .i64 0)), none⟩] []) (.seq (.reg [⟨some 9, .fn 103 [] [.t 2], none⟩, ⟨some 5, .mv (.t 9), none⟩] []) (.seq (.block 0 (.seq (.reg [⟨some 11, .fa (.t 3) 0, none⟩, ⟨some 12, .ld (.t 11) none, none⟩, ⟨some 13, .call (.c (.func (.func 55) #[] #[])) [.t 12], none⟩, ⟨some 14, .bin .eql (.t 13) (.c (.int .i64 0)), none⟩, ⟨some 10, .mv (.t 14), none⟩] []) (.cond (.t 10) (.seq (.reg [⟨some 4, .mv (.c (.int .i64 3)), none⟩] []) .ret) (.seq (.reg [⟨some 16, .fa (.t 3) 1, none⟩, ⟨some 17, .ld (.t 16) none, none⟩, ⟨some 18, .len (.t 17), none⟩, ⟨some 19, .fa (.t 3) 0, none⟩, ⟨some 20, .ld (.t 19) none, none⟩, ⟨some 21, .call (.c (.func (.func 55) #[] #[])) [.t 20], none⟩, ⟨some 22, .bin .neq (.t 18) (.t 21), none⟩, ⟨some 15, .mv (.t 22), none⟩] [(1, 5)]) (.cond (.t 15) (.seq (.reg [⟨some 4, .mv (.c (.int .i64 2)), none⟩] []) .ret) (.seq (.reg [⟨some 24, .fa (.t 3) 1, none⟩, ⟨some 25, .ld (.t 24) none, none⟩, ⟨some 26, .mv (.t 5), none⟩, ⟨some 27, .call (.c (.func (.func 104) #[] #[])) [.t 25, .t 26], none⟩, ⟨some 28, .not (.t 27), none⟩, ⟨some 23, .mv (.t 28), none⟩] []) (.cond (.t 23) (.seq (.reg [⟨some 4, .mv (.c (.int .i64 1)), none⟩] []) .ret) .skip))))))) (.seq (.seq (.reg [⟨some 29, .fa (.t 3) 1, none⟩, ⟨some 30, .ld (.t 29) none, none⟩, ⟨some 31, .len (.t 30), none⟩, ⟨some 32, .mv (.c (.int .i64 0)), none⟩] []) (.block 1 (.loop (.seq (.reg [⟨some 33, .bin .lss (.t 32) (.t 31), none⟩] []) (.seq (.cond (.t 33) .skip (.exit 1)) (.seq (.block 2 (.seq (.reg [⟨some 34, .mv (.t 32), none⟩, ⟨some 35, .iaS (.t 30) (.t 32) 1, none⟩, ⟨some 36, .ld (.t 35) none, none⟩, ⟨some 6, .mv (.t 34), none⟩, ⟨some 7, .mv (.t 36), none⟩] []) (.seq (.reg [⟨some 37, .fa (.t 3) 1, none⟩, ⟨some 38, .ld (.t 37) none, none⟩, ⟨some 39, .mv (.t 6), none⟩, ⟨some 40, .slS (.t 38) none (some (.t 39)) none 1, none⟩, ⟨some 41, .mv (.t 7), none⟩, ⟨some 42, .call (.c (.func (.func 17) #[] #[])) [.t 40, .t 41], none⟩] []) (.cond (.t 42) (.seq (.reg [⟨some 4, .mv (.c (.int .i64 5)), none⟩] []) .ret) .skip)))) (.reg [⟨some 43, .bin .add (.t 32) (.c (.int .i64 1)), none⟩, ⟨some 32, .mv (.t 43), none⟩] []))))))) (.seq (.reg [⟨some 44, .fa (.t 3) 0, none⟩, ⟨some 45, .ld (.t 44) none, none⟩, ⟨some 46, .bin .eql (.t 45) (.c (.int .i64 13)), none⟩, ⟨some 8, .mv (.t 46), none⟩] []) (.seq (.block 3 (.seq (.reg [⟨some 48, .fa (.t 3) 3, none⟩, ⟨some 49, .ld (.t 48) none, none⟩, ⟨some 50, .bin .lss (.t 49) (.c (.int .i64 0)), none⟩, ⟨some 51, .mv (.t 50), none⟩, ⟨some 52, .fa (.t 3) 3, some (51, false)⟩, ⟨some 53, .ld (.t 52) none, some (51, false)⟩, ⟨some 54, .fa (.t 2) 0, some (51, false)⟩, ⟨some 55, .fa (.t 54) 1, some (51, false)⟩, ⟨some 56, .ld (.t 55) none, some (51, false)⟩, ⟨some 57, .bin .gtr (.t 53) (.t 56), some (51, false)⟩, ⟨some 58, .pick (.t 51) (.c (.bool true)) (.t 57), none⟩, ⟨some 59, .mv (.t 58), none⟩, ⟨some 60, .mv (.t 8), some (59, false)⟩, ⟨some 61, .mv (.t 60), some (59, false)⟩, ⟨some 62, .fa (.t 3) 2, some (61, true)⟩, ⟨some 63, .ld (.t 62) none, some (61, true)⟩, ⟨some 64, .bin .lss (.t 63) (.c (.int .i64 0)), some (61, true)⟩, ⟨some 65, .mv (.t 64), some (61, true)⟩, ⟨some 66, .fa (.t 3) 2, some (65, false)⟩, ⟨some 67, .ld (.t 66) none, some (65, false)⟩, ⟨some 68, .fa (.t 2) 0, some (65, false)⟩, ⟨some 69, .fa (.t 68) 1, some (65, false)⟩, ⟨some 70, .ld (.t 69) none, some (65, false)⟩, ⟨some 71, .bin .geq (.t 67) (.t 70), some (65, false)⟩, ⟨some 72, .pick (.t 65) (.c (.bool true)) (.t 71), some (61, true)⟩, ⟨some 73, .pick (.t 61) (.t 72) (.c (.bool false)), some (59, false)⟩, ⟨some 74, .pick (.t 59) (.c (.bool true)) (.t 73), none⟩, ⟨some 47, .mv (.t 74), none⟩] []) (.cond (.t 47) (.seq (.reg [⟨some 4, .mv (.c (.int .i64 1)), none⟩] []) .ret) (.seq (.reg [⟨some 76, .mv (.t 8), none⟩, ⟨some 77, .mv (.t 76), none⟩, ⟨some 78, .fa (.t 3) 0, some (77, false)⟩, ⟨some 79, .ld (.t 78) none, some (77, false)⟩, ⟨some 80, .bin .eql (.t 79) (.c (.int .i64 14)), some (77, false)⟩, ⟨some 81, .pick (.t 77) (.c (.bool true)) (.t 80), none⟩, ⟨some 82, .mv (.t 81), none⟩, ⟨some 83, .fa (.t 3) 3, some (82, true)⟩, ⟨some 84, .ld (.t 83) none, some (82, true)⟩, ⟨some 85, .bin .neq (.t 84) (.c (.int .i64 0)), some (82, true)⟩, ⟨some 86, .pick (.t 82) (.t 85) (.c (.bool false)), none⟩, ⟨some 87, .mv (.t 86), none⟩, ⟨some 88, .mv (.t 8), some (87, false)⟩, ⟨some 89, .not (.t 88), some (87, false)⟩, ⟨some 90, .mv (.t 89), some (87, false)⟩, ⟨some 91, .fa (.t 3) 2, some (90, true)⟩, ⟨some 92, .ld (.t 91) none, some (90, true)⟩, ⟨some 93, .bin .neq (.t 92) (.c (.int .i64 0)), some (90, true)⟩, ⟨some 94, .pick (.t 90) (.t 93) (.c (.bool false)), some (87, false)⟩, ⟨some 95, .pick (.t 87) (.c (.bool true)) (.t 94), none⟩, ⟨some 75, .mv (.t 95), none⟩] []) (.cond (.t 75) (.seq (.reg [⟨some 4, .mv (.c (.int .i64 7)), none⟩] []) .ret) .skip))))) (.seq (.reg [⟨some 4, .mv (.c (.int .i64 0)), none⟩] []) .ret))))))⟩
theorem k81 : tab Tryd.prog 85 = some kf81 := by kernel_rfl
def kf32 : KFunc := ⟨1, 48, [.tmp 2], .seq (.reg [⟨some 1, .box (.t 0), none⟩, ⟨some 2, .mv (.c (.int .i64 0)), none⟩] []) (.seq (.block 0 (.seq (.reg [⟨some 8, .fa (.t 1) 0, none⟩, ⟨some 9, .ld (.t 8) none, none⟩, ⟨some 10, .bin .lss (.t 9) (.c (.int .i64 1)), none⟩, ⟨some 11, .mv (.t 10), none⟩, ⟨some 12, .fa (.t 1) 0, some (11, false)⟩, ⟨some 13, .ld (.t 12) none, some (11, false)⟩, ⟨some 14, .bin .gtr (.t 13) (.c (.int .i64 12)), some (11, false)⟩, ⟨some 15, .pick (.t 11) (.c (.bool true)) (.t 14), none⟩, ⟨some 16, .mv (.t 15), none⟩, ⟨some 17, .fa (.t 1) 1, some (16, false)⟩, ⟨some 18, .ld (.t 17) none, some (16, false)⟩, ⟨some 19, .bin .lss (.t 18) (.c (.int .i64 0)), some (16, false)⟩, ⟨some 20, .pick (.t 16) (.c (.bool true)) (.t 19), none⟩, ⟨some 21, .mv (.t 20), none⟩, ⟨some 22, .fa (.t 1) 1, some (21, false)⟩, ⟨some 23, .ld (.t 22) none, some (21, false)⟩, ⟨some 24, .bin .gtr (.t 23) (.c (.int .i64 8)), some (21, false)⟩, ⟨some 25, .pick (.t 21) (.c (.bool true)) (.t 24), none⟩, ⟨some 7, .mv (.t 25), none⟩] []) (.cond (.t 7) (.seq (.reg [⟨some 2, .mv (.c (.int .i64 3)), none⟩] []) .ret) (.seq (.reg [⟨some 27, .fa (.t 1) 2, none⟩, ⟨some 28, .ld (.t 27) none, none⟩, ⟨some 29, .len (.t 28), none⟩, ⟨some 30, .bin .gtr (.t 29) (.c (.int .i64 120)), none⟩, ⟨some 26, .mv (.t 30), none⟩] []) (.cond (.t 26) (.seq (.reg [⟨some 2, .mv (.c (.int .i64 2)), none⟩] []) .ret) .skip))))) (.seq (.reg [⟨some 31, .ld (.t 1) (some 3), none⟩, ⟨some 32, .mk [.int .i64 0, .int .i64 0, .slice none 0 0, .nilFunc] [(0, 3, .t 31)], none⟩, ⟨some 33, .fn 85 [.t 32] [], none⟩, ⟨some 3, .mv (.t 33), none⟩] []) (.seq (.seq (.reg [⟨some 34, .fa (.t 1) 2, none⟩, ⟨some 35, .ld (.t 34) none, none⟩, ⟨some 36, .len (.t 35), none⟩, ⟨some 37, .mv (.c (.int .i64 0)), none⟩] []) (.block 1 (.loop (.seq (.reg [⟨some 38, .bin .lss (.t 37) (.t 36), none⟩] []) (.seq (.cond (.t 38) .skip (.exit 1)) (.seq (.block 2 (.seq (.reg [⟨some 39, .iaS (.t 35) (.t 37) 4, none⟩, ⟨some 40, .ld (.t 39) (some 4), none⟩, ⟨some 5, .new [.int .i64 0, .slice none 0 0, .int .i64 0, .int .i64 0], none⟩, ⟨none, .st (.t 5) (.t 40) 4, none⟩] []) (.seq (.reg [⟨some 41, .mv (.t 3), none⟩, ⟨some 42, .ld (.t 5) (some 4), none⟩, ⟨some 43, .call (.t 41) [.t 42], none⟩, ⟨some 6, .mv (.t 43), none⟩] []) (.seq (.reg [⟨some 44, .mv (.t 6), none⟩, ⟨some 45, .bin .neq (.t 44) (.c (.int .i64 0)), none⟩] []) (.cond (.t 45) (.seq (.reg [⟨some 46, .mv (.t 6), none⟩, ⟨some 2, .mv (.t 46), none⟩] []) .ret) .skip))))) (.reg [⟨some 47, .bin .add (.t 37) (.c (.int .i64 1)), none⟩, ⟨some 37, .mv (.t 47), none⟩] []))))))) (.seq (.reg [⟨some 2, .mv (.c (.int .i64 0)), none⟩] []) .ret))))⟩
theorem k32 : tab Tryd.prog 62 = some kf32 := by kernel_rfl
def kf73 : KFunc := ⟨2, 13, [.tmp 4], .seq (.reg [⟨some 2, .box (.t 0), none⟩, ⟨some 3, .box (.t 1), none⟩, ⟨some 4, .mv (.c (.int .i64 0)), none⟩] []) (.seq (.seq (.reg [⟨some 6, .ld (.t 2) (some 3), none⟩, ⟨some 7, .call (.c (.func (.func 62) #[] #[])) [.t 6], none⟩, ⟨some 5, .mv (.t 7), none⟩] []) (.seq (.reg [⟨some 8, .mv (.t 5), none⟩, ⟨some 9, .bin .neq (.t 8) (.c (.int .i64 0)), none⟩] []) (.cond (.t 9) (.seq (.reg [⟨some 10, .mv (.t 5), none⟩, ⟨some 4, .mv (.t 10), none⟩] []) .ret) .skip))) (.seq (.reg [⟨some 11, .ld (.t 3) (some 3), none⟩, ⟨some 12, .call (.c (.func (.func 62) #[] #[])) [.t 11], none⟩, ⟨some 4, .mv (.t 12), none⟩] []) .ret))⟩
theorem k73 : tab Tryd.prog 61 = some kf73 := by kernel_rfl
theorem G_ext {g h : G} : g = h ↔ g.k = h.k ∧ g.ws = h.ws ∧ g.b = h.b ∧ g.f = h.f := by cases g; cases h; simp
theorem C_ext {c d : C} : c = d ↔ c.w = d.w ∧ c.b = d.b ∧ c.gs = d.gs := by cases c; cases d; simp
theorem same2_ret (H : Heap) (g h : G) (p q : Pl) {S S' : Nat → Prop} (hv : Ints S H p g.ws) (hu : Ints S' H q h.ws) (hl : g.ws.length < 4611686018427387904) : Ret (tab Tryd.prog) 95 [gv g p, gv h q] H (.bool (decide (g = h))) H := by
  rw [show decide (g = h) = decide (g.k = h.k ∧ g.ws = h.ws ∧ g.b = h.b ∧ g.f = h.f) from decide_eq_decide.2 G_ext]
  refine Ret_own k82 rfl ?_
  refine AX_seq (AX_E (E_boxA rfl (E_boxA rfl (E_mv (v := .bool _) rfl (E_nil (AX_seq (AX_E (E_fa rfl (E_ldO (k := 0) (v := .int .i64 (g.k)) rfl rfl (E_fa rfl (E_ldO (k := 1) (v := .int .i64 (h.k)) rfl rfl (E_eqlS rfl rfl (fun c9 => ?_) (fun c9 => ?_)))))))))))))
  · refine E_mv (v := .bool _) rfl (E_on rfl (E_fa rfl (E_on rfl (E_ldO (k := 0) (v := .slice _ _ _) rfl rfl (E_on rfl (E_fa rfl (E_on rfl (E_ldO (k := 1) (v := .slice _ _ _) rfl rfl (E_on rfl (E_callP rfl (equal_ret _ _ _ _ _ hv.app hu.app (by first | omega | (simp; done) | (simp; omega))) (fun c15 => ?_) (fun c15 => ?_)))))))))))
    · refine E_pickT rfl (v := .bool _) rfl (E_mv (v := .bool _) rfl (E_on rfl (E_fa rfl (E_on rfl (E_ldO (k := 0) (v := .int .i64 (g.b)) rfl rfl (E_on rfl (E_fa rfl (E_on rfl (E_ldO (k := 1) (v := .int .i64 (h.b)) rfl rfl (E_on rfl (E_eqlS rfl rfl (fun c22 => ?_) (fun c22 => ?_))))))))))))
      · refine E_pickT rfl (v := .bool _) rfl (E_mv (v := .bool _) rfl (E_on rfl (E_fa rfl (E_on rfl (E_ldO (k := 0) (v := .int .i64 (g.f)) rfl rfl (E_on rfl (E_fa rfl (E_on rfl (E_ldO (k := 1) (v := .int .i64 (h.f)) rfl rfl (E_on rfl (E_eqlV rfl rfl (E_pickT rfl (v := .bool _) rfl (E_mv (v := .bool _) rfl (E_nil (AX_ret ?_)))))))))))))))
        refine ⟨_, rfl, by simp, ?_, forget_flat rfl (List.prefix_append _ _)⟩
        refine congrArg (Value.bool) ?_
        refine decide_eq_decide.2 ?_
        simp [*]
      · refine E_pickT rfl (v := .bool _) rfl (E_mv (v := .bool _) rfl (E_notT rfl (E_notT rfl (E_notT rfl (E_notT rfl (E_notT rfl (E_pickF rfl (v := .bool _) rfl (E_mv (v := .bool _) rfl (E_nil (AX_ret ?_))))))))))
        refine ⟨_, rfl, by simp, ?_, forget_flat rfl (List.prefix_append _ _)⟩
        refine congrArg (Value.bool) ?_
        refine (decide_eq_false ?_).symm
        simp [*]
    · refine E_pickT rfl (v := .bool _) rfl (E_mv (v := .bool _) rfl (E_notT rfl (E_notT rfl (E_notT rfl (E_notT rfl (E_notT rfl (E_pickF rfl (v := .bool _) rfl (E_mv (v := .bool _) rfl (E_notT rfl (E_notT rfl (E_notT rfl (E_notT rfl (E_notT rfl (E_pickF rfl (v := .bool _) rfl (E_mv (v := .bool _) rfl (E_nil (AX_ret ?_)))))))))))))))))
      refine ⟨_, rfl, by simp, ?_, forget_flat rfl (List.prefix_append _ _)⟩
      refine congrArg (Value.bool) ?_
      refine (decide_eq_false ?_).symm
      simp [*]
  · refine E_mv (v := .bool _) rfl (E_notT rfl (E_notT rfl (E_notT rfl (E_notT rfl (E_notT rfl (E_pickF rfl (v := .bool _) rfl (E_mv (v := .bool _) rfl (E_notT rfl (E_notT rfl (E_notT rfl (E_notT rfl (E_notT rfl (E_pickF rfl (v := .bool _) rfl (E_mv (v := .bool _) rfl (E_notT rfl (E_notT rfl (E_notT rfl (E_notT rfl (E_notT rfl (E_pickF rfl (v := .bool _) rfl (E_mv (v := .bool _) rfl (E_nil (AX_ret ?_)))))))))))))))))))))))
    refine ⟨_, rfl, by simp, ?_, forget_flat rfl (List.prefix_append _ _)⟩
    refine congrArg (Value.bool) ?_
    refine (decide_eq_false ?_).symm
    simp [*]
theorem ksame_ret (H : Heap) (g h : G) (p q : Pl) {S S' : Nat → Prop} (hv : Ints S H p g.ws) (hu : Ints S' H q h.ws) (hl : g.ws.length < 4611686018427387904) : Ret (tab Tryd.prog) 32 [gv g p, gv h q] H (.bool (decide (g = h))) H := by
  rw [show decide (g = h) = decide (g.k = h.k ∧ g.ws = h.ws ∧ g.b = h.b ∧ g.f = h.f) from decide_eq_decide.2 G_ext]
  refine Ret_own k77 rfl ?_
  refine AX_seq (AX_E (E_boxA rfl (E_boxA rfl (E_mv (v := .bool _) rfl (E_nil (AX_seq (AX_E (E_fa rfl (E_ldO (k := 0) (v := .int .i64 (g.k)) rfl rfl (E_fa rfl (E_ldO (k := 1) (v := .int .i64 (h.k)) rfl rfl (E_eqlS rfl rfl (fun c9 => ?_) (fun c9 => ?_)))))))))))))
  · refine E_mv (v := .bool _) rfl (E_on rfl (E_fa rfl (E_on rfl (E_ldO (k := 0) (v := .int .i64 (g.b)) rfl rfl (E_on rfl (E_fa rfl (E_on rfl (E_ldO (k := 1) (v := .int .i64 (h.b)) rfl rfl (E_on rfl (E_eqlS rfl rfl (fun c15 => ?_) (fun c15 => ?_)))))))))))
    · refine E_pickT rfl (v := .bool _) rfl (E_mv (v := .bool _) rfl (E_on rfl (E_fa rfl (E_on rfl (E_ldO (k := 0) (v := .int .i64 (g.f)) rfl rfl (E_on rfl (E_fa rfl (E_on rfl (E_ldO (k := 1) (v := .int .i64 (h.f)) rfl rfl (E_on rfl (E_eqlS rfl rfl (fun c22 => ?_) (fun c22 => ?_))))))))))))
      · refine E_pickT rfl (v := .bool _) rfl (E_mv (v := .bool _) rfl (E_on rfl (E_fa rfl (E_on rfl (E_ldO (k := 0) (v := .slice _ _ _) rfl rfl (E_on rfl (E_fa rfl (E_on rfl (E_ldO (k := 1) (v := .slice _ _ _) rfl rfl (E_on rfl (E_callP rfl (equal_ret _ _ _ _ _ hv.app hu.app (by first | omega | (simp; done) | (simp; omega))) (fun c29 => ?_) (fun c29 => ?_))))))))))))
        · refine E_pickT rfl (v := .bool _) rfl (E_mv (v := .bool _) rfl (E_nil (AX_ret ?_)))
          refine ⟨_, rfl, by simp, ?_, forget_flat rfl (List.prefix_append _ _)⟩
          refine congrArg (Value.bool) ?_
          refine (decide_eq_true ?_).symm
          simp [*]
        · refine E_pickT rfl (v := .bool _) rfl (E_mv (v := .bool _) rfl (E_nil (AX_ret ?_)))
          refine ⟨_, rfl, by simp, ?_, forget_flat rfl (List.prefix_append _ _)⟩
          refine congrArg (Value.bool) ?_
          refine (decide_eq_false ?_).symm
          simp [*]
      · refine E_pickT rfl (v := .bool _) rfl (E_mv (v := .bool _) rfl (E_notT rfl (E_notT rfl (E_notT rfl (E_notT rfl (E_notT rfl (E_pickF rfl (v := .bool _) rfl (E_mv (v := .bool _) rfl (E_nil (AX_ret ?_))))))))))
        refine ⟨_, rfl, by simp, ?_, forget_flat rfl (List.prefix_append _ _)⟩
        refine congrArg (Value.bool) ?_
        refine (decide_eq_false ?_).symm
        simp [*]
    · refine E_pickT rfl (v := .bool _) rfl (E_mv (v := .bool _) rfl (E_notT rfl (E_notT rfl (E_notT rfl (E_notT rfl (E_notT rfl (E_pickF rfl (v := .bool _) rfl (E_mv (v := .bool _) rfl (E_notT rfl (E_notT rfl (E_notT rfl (E_notT rfl (E_notT rfl (E_pickF rfl (v := .bool _) rfl (E_mv (v := .bool _) rfl (E_nil (AX_ret ?_)))))))))))))))))
      refine ⟨_, rfl, by simp, ?_, forget_flat rfl (List.prefix_append _ _)⟩
      refine congrArg (Value.bool) ?_
      refine (decide_eq_false ?_).symm
      simp [*]
  · refine E_mv (v := .bool _) rfl (E_notT rfl (E_notT rfl (E_notT rfl (E_notT rfl (E_notT rfl (E_pickF rfl (v := .bool _) rfl (E_mv (v := .bool _) rfl (E_notT rfl (E_notT rfl (E_notT rfl (E_notT rfl (E_notT rfl (E_pickF rfl (v := .bool _) rfl (E_mv (v := .bool _) rfl (E_notT rfl (E_notT rfl (E_notT rfl (E_notT rfl (E_notT rfl (E_pickF rfl (v := .bool _) rfl (E_mv (v := .bool _) rfl (E_nil (AX_ret ?_)))))))))))))))))))))))
    refine ⟨_, rfl, by simp, ?_, forget_flat rfl (List.prefix_append _ _)⟩
    refine congrArg (Value.bool) ?_
    refine (decide_eq_false ?_).symm
    simp [*]
theorem equalfunc_ret (H : Heap) (p q : Pl) (l k : List G) (f : Nat) {S S' : Nat → Prop} (hv : Gates S H p l) (hu : Gates S' H q k) (hl : l.length < 4611686018427387904)
    (hf : ∀ (g h : G) (p q : Pl) (K : Heap), H <+: K → g ∈ l → Ints allB K p g.ws → Ints allB K q h.ws → Ret (tab Tryd.prog) f [gv g p, gv h q] K (.bool (decide (g = h))) K) :
    Ret (tab Tryd.prog) 41 [.slice p.1 l.length p.2, .slice q.1 k.length q.2, .func (.func f) #[] #[]] H (.bool (decide (l = k))) H := by
  refine Ret_own k76 rfl ?_
  refine AX_seq (AX_E (E_mv (v := .bool _) rfl (E_nil (AX_seq (AX_seq (AX_E (E_mv (v := .slice _ _ _) rfl (E_len (n := (l).length) rfl (E_mv (v := .slice _ _ _) rfl (E_len (n := (k).length) rfl (E_neqS rfl rfl (fun c14 => ?_) (fun c14 => ?_))))))))))))
  · refine E_nil (AX_condT rfl (AX_seq (AX_E (E_mv (v := .bool _) rfl (E_nil (AX_ret ?_))))))
    refine ⟨_, rfl, by simp, ?_, forget_flat rfl (List.prefix_append _ _)⟩
    -- r1
    refine congrArg (Value.bool) ?_
    refine (decide_eq_false ?_).symm
    exact fun e => c14 (by rw [e])
  · refine E_nil (AX_condF rfl (AX_skip (AX_seq (AX_seq (AX_E (E_mv (v := .slice _ _ _) rfl (E_len (n := (l).length) rfl (E_mv (v := .int .i64 (0)) rfl (E_nil (AX_block ?_))))))))))
    refine AX_loopF (γ := Nat) (fun j => [(1, .slice (q).1 (k).length (q).2), (2, .func (.func f) #[] #[]), (15, .slice (p).1 (l).length (p).2), (16, .int .i64 ((l).length)), (17, .int .i64 ((j : Int)))]) (fun j h_ m_ => (∃ z_, h_ = H ++ ([] ++ z_)) ∧ m_ = [] ∧ j ≤ l.length ∧ l.take j = k.take j) (fun j => l.length - j) (0) ⟨rfl, rfl, rfl, rfl, rfl, trivial⟩ ⟨⟨[], app0 _ _⟩, rfl, ?_⟩ ?_
    · simp
    rintro j fr0 h0 m0 ⟨⟨z0, rfl⟩, rfl, inv0⟩ K0 hN0 hR0 hE0
    refine AX_nil ?_
    refine AX_seq (AX_E (E_lssS rfl rfl (fun c18 => ?_) (fun c18 => ?_)))
    · refine E_nil (AX_seq (AX_condT rfl (AX_skip (AX_seq (AX_block (AX_seq (AX_E (E_mv (v := .int .i64 ((j : Int))) rfl (have ix1 : j < (l).length := (by first | omega | (simp; done) | (simp; omega)); E_iaGb (j := j) rfl hv.app rfl rfl rfl ix1 fun b1 o1 q1 f1 w1 => (E_ldBN rfl w1 (E_new (E_mv (v := .int .i64 ((j : Int))) rfl (E_stO (k := 0) rfl rfl (v := .agg _) rfl rfl rfl rfl (E_nil (AX_seq (AX_E (E_mv (v := .slice _ _ _) rfl (E_mv (v := .int .i64 ((j : Int))) rfl (have ix2 : j < (k).length := (by first | omega | (simp; done) | (simp; omega)); E_iaGb (j := j) rfl hu.app rfl rfl rfl ix2 fun b2 o2 q2 f2 w2 => (E_ldBN rfl w2 (E_new (E_stO (k := 1) rfl rfl (v := .agg _) rfl rfl rfl rfl (E_nil (AX_seq (AX_E (E_mv (v := .func _ _ _) rfl (E_ldON (k := 0) rfl rfl (E_ldON (k := 1) rfl rfl (E_callP rfl (hf (l[j]'ix1) (k[j]'ix2) _ _ _ ((List.prefix_append _ _).trans (List.prefix_append _ _)) (List.getElem_mem _) f1.app.all f2.app.all) (fun c29 => ?_) (fun c29 => ?_))))))))))))))))))))))))))))))
      · refine E_notV rfl rfl (E_nil (AX_condF rfl (AX_skip (AX_E (E_addI rfl rfl (by first | omega | (simp; done) | (simp; omega)) (by first | omega | (simp; done) | (simp; omega)) (E_mv (v := .int .i64 (((j : Int) + 1))) rfl (E_nil ?_)))))))
        refine hN0 (j + 1) _ _ _ ⟨by first | rfl | (congr 1; omega), by first | rfl | (congr 1; omega), by first | rfl | (congr 1; omega), by first | rfl | (congr 1; omega), by first | rfl | (congr 1; omega), trivial⟩ ⟨⟨_, app3 _ _ _ _⟩, rfl, ?_⟩ ?_
        -- n2
        all_goals clear hN0 hR0 hE0
        · exact ⟨by omega, takeG_next (by omega) (by omega) inv0.2 c29⟩
        · (first | omega | (simp; omega))
      · refine E_notV rfl rfl (E_nil (AX_condT rfl (AX_seq (AX_E (E_mv (v := .bool _) rfl (E_nil (AX_ret (hR0 _ _ _ ?_))))))))
        refine ⟨_, rfl, by simp, ?_, forget_flat rfl ((List.prefix_append _ _).trans (List.prefix_append _ _))⟩
        -- r3
        clear hN0 hR0 hE0
        refine congrArg (Value.bool) ?_
        refine (decide_eq_false ?_).symm
        exact fun e => c29 (by simp [e])
    · refine E_nil (AX_seq (AX_condF rfl (AX_exit (hE0 _ _ _ _ ?_))))
      have e0 := takeG_all c18 (by omega) inv0.2
      refine AX_seq (AX_E (E_mv (v := .bool _) rfl (E_nil (AX_ret ?_))))
      refine ⟨_, rfl, by simp, ?_, forget_flat rfl ((List.prefix_append _ _).trans (List.prefix_append _ _))⟩
      -- r4
      clear hN0 hR0 hE0
      refine congrArg (Value.bool) ?_
      refine (decide_eq_true ?_).symm
      exact e0
def lens (l : List G) : Prop := l.length < 4611686018427387904 ∧ ∀ g ∈ l, g.ws.length < 4611686018427387904
theorem csame_ret (H : Heap) (c d : C) (p q : Pl) {S S' : Nat → Prop} (hv : Gates S H p c.gs) (hu : Gates S' H q d.gs) (hl : lens c.gs) : Ret (tab Tryd.prog) 71 [cv c p, cv d q] H (.bool (decide (c = d))) H := by
  rw [show decide (c = d) = decide (c.w = d.w ∧ c.b = d.b ∧ c.gs = d.gs) from decide_eq_decide.2 C_ext]
  have hl1 := hl.1
  refine Ret_own k36 rfl ?_
  refine AX_seq (AX_E (E_boxA rfl (E_boxA rfl (E_mv (v := .bool _) rfl (E_nil (AX_seq (AX_E (E_fa rfl (E_ldO (k := 0) (v := .int .i64 (c.w)) rfl rfl (E_fa rfl (E_ldO (k := 1) (v := .int .i64 (d.w)) rfl rfl (E_eqlS rfl rfl (fun c9 => ?_) (fun c9 => ?_)))))))))))))
  · refine E_mv (v := .bool _) rfl (E_on rfl (E_fa rfl (E_on rfl (E_ldO (k := 0) (v := .int .i64 (c.b)) rfl rfl (E_on rfl (E_fa rfl (E_on rfl (E_ldO (k := 1) (v := .int .i64 (d.b)) rfl rfl (E_on rfl (E_eqlS rfl rfl (fun c15 => ?_) (fun c15 => ?_)))))))))))
    · refine E_pickT rfl (v := .bool _) rfl (E_mv (v := .bool _) rfl (E_on rfl (E_fa rfl (E_on rfl (E_ldO (k := 0) (v := .slice _ _ _) rfl rfl (E_on rfl (E_fa rfl (E_on rfl (E_ldO (k := 1) (v := .slice _ _ _) rfl rfl (E_on rfl (E_callP rfl (equalfunc_ret _ _ _ _ _ _ hv.app hu.app (by omega) (fun g h p q K hK hg e1 e2 => same2_ret K g h p q e1 e2 (hl.2 g hg))) (fun c22 => ?_) (fun c22 => ?_))))))))))))
      · refine E_pickT rfl (v := .bool _) rfl (E_mv (v := .bool _) rfl (E_nil (AX_ret ?_)))
        refine ⟨_, rfl, by simp, ?_, forget_flat rfl (List.prefix_append _ _)⟩
        refine congrArg (Value.bool) ?_
        refine (decide_eq_true ?_).symm
        simp [*]
      · refine E_pickT rfl (v := .bool _) rfl (E_mv (v := .bool _) rfl (E_nil (AX_ret ?_)))
        refine ⟨_, rfl, by simp, ?_, forget_flat rfl (List.prefix_append _ _)⟩
        refine congrArg (Value.bool) ?_
        refine (decide_eq_false ?_).symm
        simp [*]
    · refine E_pickT rfl (v := .bool _) rfl (E_mv (v := .bool _) rfl (E_notT rfl (E_notT rfl (E_notT rfl (E_notT rfl (E_notT rfl (E_pickF rfl (v := .bool _) rfl (E_mv (v := .bool _) rfl (E_nil (AX_ret ?_))))))))))
      refine ⟨_, rfl, by simp, ?_, forget_flat rfl (List.prefix_append _ _)⟩
      refine congrArg (Value.bool) ?_
      refine (decide_eq_false ?_).symm
      simp [*]
  · refine E_mv (v := .bool _) rfl (E_notT rfl (E_notT rfl (E_notT rfl (E_notT rfl (E_notT rfl (E_pickF rfl (v := .bool _) rfl (E_mv (v := .bool _) rfl (E_notT rfl (E_notT rfl (E_notT rfl (E_notT rfl (E_notT rfl (E_pickF rfl (v := .bool _) rfl (E_mv (v := .bool _) rfl (E_nil (AX_ret ?_))))))))))))))))
    refine ⟨_, rfl, by simp, ?_, forget_flat rfl (List.prefix_append _ _)⟩
    refine congrArg (Value.bool) ?_
    refine (decide_eq_false ?_).symm
    simp [*]
theorem kcsame_ret (H : Heap) (c d : C) (p q : Pl) {S S' : Nat → Prop} (hv : Gates S H p c.gs) (hu : Gates S' H q d.gs) (hl : lens c.gs) : Ret (tab Tryd.prog) 24 [cv c p, cv d q] H (.bool (decide (c = d))) H := by
  rw [show decide (c = d) = decide (c.w = d.w ∧ c.b = d.b ∧ c.gs = d.gs) from decide_eq_decide.2 C_ext]
  have hl1 := hl.1
  refine Ret_own k21 rfl ?_
  refine AX_seq (AX_E (E_boxA rfl (E_boxA rfl (E_mv (v := .bool _) rfl (E_nil (AX_seq (AX_E (E_fa rfl (E_ldO (k := 0) (v := .int .i64 (c.w)) rfl rfl (E_fa rfl (E_ldO (k := 1) (v := .int .i64 (d.w)) rfl rfl (E_eqlS rfl rfl (fun c9 => ?_) (fun c9 => ?_)))))))))))))
  · refine E_mv (v := .bool _) rfl (E_on rfl (E_fa rfl (E_on rfl (E_ldO (k := 0) (v := .int .i64 (c.b)) rfl rfl (E_on rfl (E_fa rfl (E_on rfl (E_ldO (k := 1) (v := .int .i64 (d.b)) rfl rfl (E_on rfl (E_eqlS rfl rfl (fun c15 => ?_) (fun c15 => ?_)))))))))))
    · refine E_pickT rfl (v := .bool _) rfl (E_mv (v := .bool _) rfl (E_on rfl (E_fa rfl (E_on rfl (E_ldO (k := 0) (v := .slice _ _ _) rfl rfl (E_on rfl (E_fa rfl (E_on rfl (E_ldO (k := 1) (v := .slice _ _ _) rfl rfl (E_on rfl (E_callP rfl (equalfunc_ret _ _ _ _ _ _ hv.app hu.app (by omega) (fun g h p q K hK hg e1 e2 => ksame_ret K g h p q e1 e2 (hl.2 g hg))) (fun c22 => ?_) (fun c22 => ?_))))))))))))
      · refine E_pickT rfl (v := .bool _) rfl (E_mv (v := .bool _) rfl (E_nil (AX_ret ?_)))
        refine ⟨_, rfl, by simp, ?_, forget_flat rfl (List.prefix_append _ _)⟩
        refine congrArg (Value.bool) ?_
        refine (decide_eq_true ?_).symm
        simp [*]
      · refine E_pickT rfl (v := .bool _) rfl (E_mv (v := .bool _) rfl (E_nil (AX_ret ?_)))
        refine ⟨_, rfl, by simp, ?_, forget_flat rfl (List.prefix_append _ _)⟩
        refine congrArg (Value.bool) ?_
        refine (decide_eq_false ?_).symm
        simp [*]
    · refine E_pickT rfl (v := .bool _) rfl (E_mv (v := .bool _) rfl (E_notT rfl (E_notT rfl (E_notT rfl (E_notT rfl (E_notT rfl (E_pickF rfl (v := .bool _) rfl (E_mv (v := .bool _) rfl (E_nil (AX_ret ?_))))))))))
      refine ⟨_, rfl, by simp, ?_, forget_flat rfl (List.prefix_append _ _)⟩
      refine congrArg (Value.bool) ?_
      refine (decide_eq_false ?_).symm
      simp [*]
  · refine E_mv (v := .bool _) rfl (E_notT rfl (E_notT rfl (E_notT rfl (E_notT rfl (E_notT rfl (E_pickF rfl (v := .bool _) rfl (E_mv (v := .bool _) rfl (E_notT rfl (E_notT rfl (E_notT rfl (E_notT rfl (E_notT rfl (E_pickF rfl (v := .bool _) rfl (E_mv (v := .bool _) rfl (E_nil (AX_ret ?_))))))))))))))))
    refine ⟨_, rfl, by simp, ?_, forget_flat rfl (List.prefix_append _ _)⟩
    refine congrArg (Value.bool) ?_
    refine (decide_eq_false ?_).symm
    simp [*]
def fidxM {α : Type} (P : α → Prop) [DecidablePred P] (l : List α) : Int := if ∃ x ∈ l, P x then (l.findIdx (fun x => decide (P x)) : Int) else -1
theorem fidx_at {α : Type} {P : α → Prop} [DecidablePred P] {l : List α} {j : Nat} (hj : j < l.length) (H : ∀ x ∈ l.take j, ¬ P x) (h1 : P l[j]) : fidxM P l = j := by
  rw [fidxM, if_pos ⟨_, List.getElem_mem hj, h1⟩]
  congr 1
  rw [List.findIdx_eq hj]
  refine ⟨by simpa using h1, fun k hk => ?_⟩
  have := H l[k] (by rw [List.mem_take_iff_getElem]; exact ⟨k, by omega, rfl⟩)
  simpa using this
theorem fidx_none {α : Type} {P : α → Prop} [DecidablePred P] {l : List α} (H : ∀ x ∈ l, ¬ P x) : fidxM P l = -1 := by
  rw [fidxM, if_neg (fun ⟨x, hx, h⟩ => H x hx h)]
theorem fidx_pos {α : Type} {P : α → Prop} [DecidablePred P] {l : List α} : 0 ≤ fidxM P l ↔ ∃ x ∈ l, P x := by
  unfold fidxM
  split <;> simp [*]
theorem indexfuncG_ret (H : Heap) (p : Pl) (l : List G) (f : Nat) (a c : Array Value) (P : G → Prop) [DecidablePred P] {S : Nat → Prop} (hv : Gates S H p l) (hl : l.length < 4611686018427387904)
    (hf : ∀ (g : G) (p : Pl) (K : Heap), H <+: K → g ∈ l → Ints allB K p g.ws → Ret (tab Tryd.prog) f (a.toList ++ [gv g p] ++ c.toList) K (.bool (decide (P g))) K) :
    Ret (tab Tryd.prog) 30 [.slice p.1 l.length p.2, .func (.func f) a c] H (.int .i64 (fidxM P l)) H := by
  refine Ret_own k87 rfl ?_
  refine AX_seq (AX_E (E_mv (v := .int .i64 (0)) rfl (E_nil (AX_seq (AX_seq (AX_E (E_mv (v := .slice _ _ _) rfl (E_len (n := (l).length) rfl (E_mv (v := .int .i64 (0)) rfl (E_nil (AX_block ?_)))))))))))
  refine AX_loopF (γ := Nat) (fun j => [(0, .slice (p).1 (l).length (p).2), (1, .func (.func f) a c), (7, .int .i64 ((l).length)), (8, .int .i64 ((j : Int)))]) (fun j h_ m_ => h_ = H ++ [] ∧ m_ = [] ∧ j ≤ l.length ∧ ∀ x ∈ l.take j, ¬ P x) (fun j => l.length - j) (0) ⟨rfl, rfl, rfl, rfl, trivial⟩ ⟨rfl, rfl, ?_⟩ ?_
  · simp
  rintro j fr0 h0 m0 ⟨rfl, rfl, inv0⟩ K0 hN0 hR0 hE0
  refine AX_seq (AX_E (E_lssS rfl rfl (fun c9 => ?_) (fun c9 => ?_)))
  · refine E_nil (AX_seq (AX_condT rfl (AX_skip (AX_seq (AX_block (AX_seq (AX_E (E_mv (v := .int .i64 ((j : Int))) rfl (E_mv (v := .int .i64 ((j : Int))) rfl (E_nil (AX_seq (AX_E (E_mv (v := .func _ _ _) rfl (E_mv (v := .slice _ _ _) rfl (E_mv (v := .int .i64 ((j : Int))) rfl (have ix1 : j < (l).length := (by first | omega | (simp; done) | (simp; omega)); E_iaGb (j := j) rfl hv rfl rfl rfl ix1 fun b1 o1 q1 f1 w1 => (E_ldBN rfl w1 (E_callP rfl (hf (l[j]'ix1) _ _ (List.prefix_append _ _) (List.getElem_mem _) f1.app.all) (fun c16 => ?_) (fun c16 => ?_)))))))))))))))))))
    · refine E_nil (AX_condT rfl (AX_seq (AX_E (E_mv (v := .int .i64 ((j : Int))) rfl (E_mv (v := .int .i64 ((j : Int))) rfl (E_nil (AX_ret (hR0 _ _ _ ?_))))))))
      refine ⟨_, rfl, by simp, ?_, forget_flat rfl (List.prefix_append _ _)⟩
      -- r1
      clear hN0 hR0 hE0
      refine congrArg (Value.int _) ?_
      rw [fidx_at (by omega) inv0.2 c16]
    · refine E_nil (AX_condF rfl (AX_skip (AX_E (E_addI rfl rfl (by first | omega | (simp; done) | (simp; omega)) (by first | omega | (simp; done) | (simp; omega)) (E_mv (v := .int .i64 (((j : Int) + 1))) rfl (E_nil ?_))))))
      refine hN0 (j + 1) _ _ _ ⟨by first | rfl | (congr 1; omega), by first | rfl | (congr 1; omega), by first | rfl | (congr 1; omega), by first | rfl | (congr 1; omega), trivial⟩ ⟨rfl, rfl, ?_⟩ ?_
      -- n2
      all_goals clear hN0 hR0 hE0
      · exact ⟨by omega, all_next (by omega) inv0.2 c16⟩
      · (first | omega | (simp; omega))
  · refine E_nil (AX_seq (AX_condF rfl (AX_exit (hE0 _ _ _ _ ?_))))
    have e0 := fidx_none (all_all c9 inv0.2)
    refine AX_seq (AX_E (E_mv (v := .int .i64 ((-1))) rfl (E_nil (AX_ret ?_))))
    refine ⟨_, rfl, by simp, ?_, forget_flat rfl (List.prefix_append _ _)⟩
    -- r3
    clear hN0 hR0 hE0
    refine congrArg (Value.int _) ?_
    rw [e0]
theorem indexfunc_ret (H : Heap) (p : Pl) (l : List Int) (f : Nat) (a c : Array Value) (P : Int → Prop) [DecidablePred P] {S : Nat → Prop} (hv : Ints S H p l) (hl : l.length < 4611686018427387904)
    (hf : ∀ (g : Int) (K : Heap), H <+: K → g ∈ l → Ret (tab Tryd.prog) f (a.toList ++ [.int .i64 g] ++ c.toList) K (.bool (decide (P g))) K) :
    Ret (tab Tryd.prog) 51 [.slice p.1 l.length p.2, .func (.func f) a c] H (.int .i64 (fidxM P l)) H := by
  refine Ret_own k109 rfl ?_
  refine AX_seq (AX_E (E_mv (v := .int .i64 (0)) rfl (E_nil (AX_seq (AX_seq (AX_E (E_mv (v := .slice _ _ _) rfl (E_len (n := (l).length) rfl (E_mv (v := .int .i64 (0)) rfl (E_nil (AX_block ?_)))))))))))
  refine AX_loopF (γ := Nat) (fun j => [(0, .slice (p).1 (l).length (p).2), (1, .func (.func f) a c), (7, .int .i64 ((l).length)), (8, .int .i64 ((j : Int)))]) (fun j h_ m_ => h_ = H ++ [] ∧ m_ = [] ∧ j ≤ l.length ∧ ∀ x ∈ l.take j, ¬ P x) (fun j => l.length - j) (0) ⟨rfl, rfl, rfl, rfl, trivial⟩ ⟨rfl, rfl, ?_⟩ ?_
  · simp
  rintro j fr0 h0 m0 ⟨rfl, rfl, inv0⟩ K0 hN0 hR0 hE0
  refine AX_seq (AX_E (E_lssS rfl rfl (fun c9 => ?_) (fun c9 => ?_)))
  · refine E_nil (AX_seq (AX_condT rfl (AX_skip (AX_seq (AX_block (AX_seq (AX_E (E_mv (v := .int .i64 ((j : Int))) rfl (E_mv (v := .int .i64 ((j : Int))) rfl (E_nil (AX_seq (AX_E (E_mv (v := .func _ _ _) rfl (E_mv (v := .slice _ _ _) rfl (E_mv (v := .int .i64 ((j : Int))) rfl (have ix1 : j < (l).length := (by first | omega | (simp; done) | (simp; omega)); E_iaIb (j := j) rfl hv rfl rfl rfl ix1 fun b1 o1 w1 => (E_ldB (v := .int .i64 (l[j]'ix1)) rfl w1 (E_callP rfl (hf (l[j]'ix1) _ (List.prefix_append _ _) (List.getElem_mem _)) (fun c16 => ?_) (fun c16 => ?_)))))))))))))))))))
    · refine E_nil (AX_condT rfl (AX_seq (AX_E (E_mv (v := .int .i64 ((j : Int))) rfl (E_mv (v := .int .i64 ((j : Int))) rfl (E_nil (AX_ret (hR0 _ _ _ ?_))))))))
      refine ⟨_, rfl, by simp, ?_, forget_flat rfl (List.prefix_append _ _)⟩
      -- r1
      clear hN0 hR0 hE0
      refine congrArg (Value.int _) ?_
      rw [fidx_at (by omega) inv0.2 c16]
    · refine E_nil (AX_condF rfl (AX_skip (AX_E (E_addI rfl rfl (by first | omega | (simp; done) | (simp; omega)) (by first | omega | (simp; done) | (simp; omega)) (E_mv (v := .int .i64 (((j : Int) + 1))) rfl (E_nil ?_))))))
      refine hN0 (j + 1) _ _ _ ⟨by first | rfl | (congr 1; omega), by first | rfl | (congr 1; omega), by first | rfl | (congr 1; omega), by first | rfl | (congr 1; omega), trivial⟩ ⟨rfl, rfl, ?_⟩ ?_
      -- n2
      all_goals clear hN0 hR0 hE0
      · exact ⟨by omega, all_next (by omega) inv0.2 c16⟩
      · (first | omega | (simp; omega))
  · refine E_nil (AX_seq (AX_condF rfl (AX_exit (hE0 _ _ _ _ ?_))))
    have e0 := fidx_none (all_all c9 inv0.2)
    refine AX_seq (AX_E (E_mv (v := .int .i64 ((-1))) rfl (E_nil (AX_ret ?_))))
    refine ⟨_, rfl, by simp, ?_, forget_flat rfl (List.prefix_append _ _)⟩
    -- r3
    clear hN0 hR0 hE0
    refine congrArg (Value.int _) ?_
    rw [e0]
theorem containsfuncG_ret (H : Heap) (p : Pl) (l : List G) (f : Nat) (a c : Array Value) (P : G → Prop) [DecidablePred P] {S : Nat → Prop} (hv : Gates S H p l) (hl : l.length < 4611686018427387904)
    (hf : ∀ (g : G) (p : Pl) (K : Heap), H <+: K → g ∈ l → Ints allB K p g.ws → Ret (tab Tryd.prog) f (a.toList ++ [gv g p] ++ c.toList) K (.bool (decide (P g))) K) :
    Ret (tab Tryd.prog) 101 [.slice p.1 l.length p.2, .func (.func f) a c] H (.bool (decide (∃ x ∈ l, P x))) H := by
  refine Ret_own k49 rfl ?_
  refine AX_seq (AX_E (E_mv (v := .bool _) rfl (E_nil (AX_seq (AX_E (E_mv (v := .slice _ _ _) rfl (E_mv (v := .func _ _ _) rfl (E_callV rfl (indexfuncG_ret _ _ _ _ _ _ P hv.app (by omega) (fun g p K hK hg e1 => hf g p K ((List.prefix_append _ _).trans hK) hg e1)) (E_geqV rfl rfl (E_mv (v := .bool _) rfl (E_nil (AX_ret ?_))))))))))))
  refine ⟨_, rfl, by simp, ?_, forget_flat rfl (List.prefix_append _ _)⟩
  refine congrArg (Value.bool) ?_
  refine decide_eq_decide.2 ?_
  exact fidx_pos
theorem containsfunc_ret (H : Heap) (p : Pl) (l : List Int) (f : Nat) (a c : Array Value) (P : Int → Prop) [DecidablePred P] {S : Nat → Prop} (hv : Ints S H p l) (hl : l.length < 4611686018427387904)
    (hf : ∀ (g : Int) (K : Heap), H <+: K → g ∈ l → Ret (tab Tryd.prog) f (a.toList ++ [.int .i64 g] ++ c.toList) K (.bool (decide (P g))) K) :
    Ret (tab Tryd.prog) 15 [.slice p.1 l.length p.2, .func (.func f) a c] H (.bool (decide (∃ x ∈ l, P x))) H := by
  refine Ret_own k107 rfl ?_
  refine AX_seq (AX_E (E_mv (v := .bool _) rfl (E_nil (AX_seq (AX_E (E_mv (v := .slice _ _ _) rfl (E_mv (v := .func _ _ _) rfl (E_callV rfl (indexfunc_ret _ _ _ _ _ _ P hv.app (by omega) (fun g K hK hg => hf g K ((List.prefix_append _ _).trans hK) hg)) (E_geqV rfl rfl (E_mv (v := .bool _) rfl (E_nil (AX_ret ?_))))))))))))
  refine ⟨_, rfl, by simp, ?_, forget_flat rfl (List.prefix_append _ _)⟩
  refine congrArg (Value.bool) ?_
  refine decide_eq_decide.2 ?_
  exact fidx_pos
end Go.Canon
namespace Go.Canon
open Go Go.Proofs
set_option linter.unusedVariables false
set_option linter.unusedSimpArgs false
theorem every1_ret (H : Heap) (x : Int) (b o : Nat) (f : Nat) (a c : Array Value) (P : Prop) [Decidable P] (hr : rowGet H ⟨b, o, none⟩ 1 = some [.func (.func f) a c])
    (hf : Ret (tab Tryd.prog) f (a.toList ++ [.int .i64 x] ++ c.toList) H (.bool (decide P)) H) : Ret (tab Tryd.prog) 106 [.int .i64 x, .pointer (some ⟨b, o, none⟩)] H (.bool (decide ¬ P)) H := by
  rw [← List.append_nil H] at hf
  refine Ret_own k108 rfl ?_
  refine AX_seq (AX_E (E_mv (v := .bool _) rfl (E_nil (AX_seq (AX_E (E_ldB (v := .func _ _ _) rfl hr (E_mv (v := .int .i64 (x)) rfl (E_callP rfl (hf) (fun c6 => ?_) (fun c6 => ?_)))))))))
  · refine E_notV rfl rfl (E_mv (v := .bool _) rfl (E_nil (AX_ret ?_)))
    refine ⟨_, rfl, by simp, ?_, forget_flat rfl (List.prefix_append _ _)⟩
    refine congrArg (Value.bool) ?_
    refine (decide_eq_false ?_).symm
    simp [*]
  · refine E_notV rfl rfl (E_mv (v := .bool _) rfl (E_nil (AX_ret ?_)))
    refine ⟨_, rfl, by simp, ?_, forget_flat rfl (List.prefix_append _ _)⟩
    refine congrArg (Value.bool) ?_
    refine (decide_eq_true ?_).symm
    simp [*]
theorem every_ret (H : Heap) (p : Pl) (l : List Int) (f : Nat) (a c : Array Value) (P : Int → Prop) [DecidablePred P] {S : Nat → Prop} (hv : Ints S H p l) (hl : l.length < 4611686018427387904)
    (hf : ∀ (g : Int) (K : Heap), H <+: K → g ∈ l → Ret (tab Tryd.prog) f (a.toList ++ [.int .i64 g] ++ c.toList) K (.bool (decide (P g))) K) :
    Ret (tab Tryd.prog) 104 [.slice p.1 l.length p.2, .func (.func f) a c] H (.bool (decide (∀ x ∈ l, P x))) H := by
  refine Ret_own k103 rfl ?_
  refine AX_seq (AX_E (E_boxV (v := .func _ _ _) rfl rfl (E_mv (v := .bool _) rfl (E_nil (AX_seq (AX_E (E_mv (v := .slice _ _ _) rfl (E_fn (u := []) (v := [.pointer (some ⟨(H).length + 0, 0, none⟩)]) rfl rfl (E_callP rfl (containsfunc_ret _ _ _ _ _ _ (fun x => ¬ P x) hv.app (by omega) (fun g K hK hg => every1_ret K g _ _ f a c (P g) (rowGet_pre (rowGet_own (k := 0) rfl) hK) (hf g K ((List.prefix_append _ _).trans hK) hg))) (fun c7 => ?_) (fun c7 => ?_))))))))))
  · refine E_notV rfl rfl (E_mv (v := .bool _) rfl (E_nil (AX_ret ?_)))
    refine ⟨_, rfl, by simp, ?_, forget_flat rfl (List.prefix_append _ _)⟩
    refine congrArg (Value.bool) ?_
    refine (decide_eq_false ?_).symm
    first | (intro x hx; exact Decidable.byContradiction fun h => c7 ⟨x, hx, h⟩) | (obtain ⟨x, hx, h⟩ := c7; exact fun y => h (y x hx))
  · refine E_notV rfl rfl (E_mv (v := .bool _) rfl (E_nil (AX_ret ?_)))
    refine ⟨_, rfl, by simp, ?_, forget_flat rfl (List.prefix_append _ _)⟩
    refine congrArg (Value.bool) ?_
    refine (decide_eq_true ?_).symm
    first | (intro x hx; exact Decidable.byContradiction fun h => c7 ⟨x, hx, h⟩) | (obtain ⟨x, hx, h⟩ := c7; exact fun y => h (y x hx))
theorem wire_ret (H : Heap) (x : Int) (b o : Nat) (w : Int) (cs : List Value) (hr : rowGet H ⟨b, o, none⟩ 4 = some (.int .i64 w :: cs)) : Ret (tab Tryd.prog) 103 [.int .i64 x, .pointer (some ⟨b, o, none⟩)] H (.bool (decide (0 ≤ x ∧ x < w))) H := by
  refine Ret_own k102 rfl ?_
  refine AX_seq (AX_E (E_mv (v := .bool _) rfl (E_nil (AX_seq (AX_E (E_mv (v := .int .i64 (x)) rfl (E_geqS rfl rfl (fun c5 => ?_) (fun c5 => ?_))))))))
  · refine E_mv (v := .bool _) rfl (E_on rfl (E_mv (v := .int .i64 (x)) rfl (E_on rfl (E_fa rfl (E_on rfl (E_fa rfl (E_on rfl (E_ldB (v := .int .i64 (w)) rfl (rowGet_c (j := 0) hr rfl) (E_on rfl (E_lssV rfl rfl (E_pickT rfl (v := .bool _) rfl (E_mv (v := .bool _) rfl (E_nil (AX_ret ?_))))))))))))))
    refine ⟨_, rfl, by simp, ?_, forget_flat rfl (List.prefix_append _ _)⟩
    refine congrArg (Value.bool) ?_
    refine decide_eq_decide.2 ?_
    omega
  · refine E_mv (v := .bool _) rfl (E_notT rfl (E_notT rfl (E_notT rfl (E_notT rfl (E_notT rfl (E_pickF rfl (v := .bool _) rfl (E_mv (v := .bool _) rfl (E_nil (AX_ret ?_)))))))))
    refine ⟨_, rfl, by simp, ?_, forget_flat rfl (List.prefix_append _ _)⟩
    refine congrArg (Value.bool) ?_
    refine (decide_eq_false ?_).symm
    omega
theorem gate_ret (H : Heap) (c : C) (g : G) (p q : Pl) (nr : Value) {S : Nat → Prop} (hv : Ints S H q g.ws) (hw : 1 ≤ c.w ∧ c.w ≤ 12) (hb : 0 ≤ c.b ∧ c.b ≤ 8) (hc : cellsOf nr = some [nr]) :
    Ret (tab Tryd.prog) 85 [.agg #[.int .i64 c.w, .int .i64 c.b, .slice p.1 c.gs.length p.2, nr], gv g q] H (.int .i64 (cgM g c.w c.b)) H := by
  have ha := arity_le g.k
  have hnd : ∀ k, arityM k ≠ 0 → (k = 14 ∨ k = 13 ↔ 13 ≤ k) := by
    intro k hk
    unfold arityM at hk
    (repeat' split at hk) <;> omega
  have hnk := hnd g.k
  refine Ret_own k81 rfl ?_
  refine AX_seq (AX_E (E_boxA rfl (E_boxA rfl (E_mv (v := .int .i64 (0)) rfl (E_nil (AX_seq (AX_E (E_fn (u := []) (v := [.pointer (some ⟨(H).length + 0, 0, none⟩)]) rfl rfl (E_mv (v := .func _ _ _) rfl (E_nil (AX_seq (AX_block (AX_seq (AX_E (E_fa rfl (E_ldO (k := 1) (v := .int .i64 (g.k)) rfl rfl (E_callV rfl (parity_ret _ _) (E_eqlS rfl rfl (fun c14 => ?_) (fun c14 => ?_)))))))))))))))))))
  · refine E_mv (v := .bool _) rfl (E_nil (AX_condT rfl (AX_seq (AX_E (E_mv (v := .int .i64 (3)) rfl (E_nil (AX_ret ?_)))))))
    refine ⟨_, rfl, by simp, ?_, forget_flat rfl (List.prefix_append _ _)⟩
    -- r1
    refine congrArg (Value.int _) ?_
    simp [cgM, *]
  · refine E_mv (v := .bool _) rfl (E_nil (AX_condF rfl (AX_seq (AX_E (E_fa rfl (E_ldO (k := 1) (v := .slice _ _ _) rfl rfl (E_len (n := (g.ws).length) rfl (E_fa rfl (E_ldO (k := 1) (v := .int .i64 (g.k)) rfl rfl (E_callV rfl (parity_ret _ _) (E_neqS rfl rfl (fun c22 => ?_) (fun c22 => ?_))))))))))))
    · refine E_mv (v := .bool _) rfl (E_nil (AX_condT rfl (AX_seq (AX_E (E_mv (v := .int .i64 (2)) rfl (E_nil (AX_ret ?_)))))))
      refine ⟨_, rfl, by simp, ?_, forget_flat rfl (List.prefix_append _ _)⟩
      -- r2
      refine congrArg (Value.int _) ?_
      simp [cgM, *]
    · refine E_mv (v := .bool _) rfl (E_nil (AX_condF rfl (AX_seq (AX_E (E_fa rfl (E_ldO (k := 1) (v := .slice _ _ _) rfl rfl (E_mv (v := .func _ _ _) rfl (E_callP rfl (every_ret _ _ _ _ _ _ (fun x => 0 ≤ x ∧ x < c.w) hv.app (by omega) (fun x K hK hx => wire_ret K x _ _ c.w _ (rowGet_pre (rowGet_own (k := 0) rfl) hK))) (fun c27 => ?_) (fun c27 => ?_)))))))))
      · refine E_notV rfl rfl (E_mv (v := .bool _) rfl (E_nil (AX_condF rfl (AX_skip (AX_seq (AX_seq (AX_E (E_fa rfl (E_ldO (k := 1) (v := .slice _ _ _) rfl rfl (E_len (n := (g.ws).length) rfl (E_mv (v := .int .i64 (0)) rfl (E_nil (AX_block ?_)))))))))))))
        refine AX_loopF (γ := Nat) (fun j => [(2, .pointer (some ⟨(H).length + 0, 0, none⟩)), (3, .pointer (some ⟨(H).length + 1, 0, none⟩)), (30, .slice (q).1 (g.ws).length (q).2), (31, .int .i64 ((g.ws).length)), (32, .int .i64 ((j : Int)))]) (fun j h_ m_ => h_ = H ++ [CO.row [.int .i64 (c.w), .int .i64 (c.b), .slice (p).1 (c.gs).length (p).2, nr] true none, CO.row [.int .i64 (g.k), .slice (q).1 (g.ws).length (q).2, .int .i64 (g.b), .int .i64 (g.f)] true none] ∧ m_ = [] ∧ j ≤ g.ws.length ∧ (g.ws.take j).Nodup) (fun j => g.ws.length - j) (0) ⟨rfl, rfl, rfl, rfl, rfl, trivial⟩ ⟨rfl, rfl, ?_⟩ ?_
        · simp
        rintro j fr1 h1 m1 ⟨rfl, rfl, inv1⟩ K1 hN1 hR1 hE1
        refine AX_seq (AX_E (E_lssS rfl rfl (fun c33 => ?_) (fun c33 => ?_)))
        · refine E_nil (AX_seq (AX_condT rfl (AX_skip (AX_seq (AX_block (AX_seq (AX_E (E_mv (v := .int .i64 ((j : Int))) rfl (have ix1 : j < (g.ws).length := (by first | omega | (simp; done) | (simp; omega)); E_iaIb (j := j) rfl hv rfl rfl rfl ix1 fun b1 o1 w1 => (E_ldB (v := .int .i64 (g.ws[j]'ix1)) rfl w1 (E_mv (v := .int .i64 ((j : Int))) rfl (E_mv (v := .int .i64 (g.ws[j]'ix1)) rfl (E_nil (AX_seq (AX_E (E_fa rfl (E_ldO (k := 1) (v := .slice _ _ _) rfl rfl (E_mv (v := .int .i64 ((j : Int))) rfl (E_slHiIb (j := j) rfl hv rfl rfl rfl (by first | omega | (simp; done) | (simp; omega)) fun f2 => (E_mv (v := .int .i64 (g.ws[j]'ix1)) rfl (E_callP rfl (contains_ret _ _ _ _ f2.app (by have := List.length_take_le j g.ws; omega)) (fun c42 => ?_) (fun c42 => ?_))))))))))))))))))))))
          · refine E_nil (AX_condT rfl (AX_seq (AX_E (E_mv (v := .int .i64 (5)) rfl (E_nil (AX_ret (hR1 _ _ _ ?_)))))))
            refine ⟨_, rfl, by simp, ?_, forget_flat rfl (List.prefix_append _ _)⟩
            -- r3
            clear hN1 hR1 hE1
            refine congrArg (Value.int _) ?_
            have e0 : ¬ ∃ x ∈ g.ws, (x < 0 ∨ c.w - 1 < x) := fun ⟨x, hx, h⟩ => by have := c27 x hx; omega
            have e2 : ¬ g.ws.Nodup := fun x => ((nodup_take (by omega)).1 (x.sublist (List.take_sublist _ _))).2 c42
            rw [cgM, if_neg c14, if_neg (by omega), if_neg e0, if_pos e2]
          · refine E_nil (AX_condF rfl (AX_skip (AX_E (E_addI rfl rfl (by first | omega | (simp; done) | (simp; omega)) (by first | omega | (simp; done) | (simp; omega)) (E_mv (v := .int .i64 (((j : Int) + 1))) rfl (E_nil ?_))))))
            refine hN1 (j + 1) _ _ _ ⟨by first | rfl | (congr 1; omega), by first | rfl | (congr 1; omega), by first | rfl | (congr 1; omega), by first | rfl | (congr 1; omega), by first | rfl | (congr 1; omega), trivial⟩ ⟨rfl, rfl, ?_⟩ ?_
            -- n4
            all_goals clear hN1 hR1 hE1
            · exact ⟨by omega, (nodup_take (by omega)).2 ⟨inv1.2, c42⟩⟩
            · (first | omega | (simp; omega))
        · refine E_nil (AX_seq (AX_condF rfl (AX_exit (hE1 _ _ _ _ ?_))))
          have e2 : g.ws.Nodup := by have := inv1.2; rwa [List.take_of_length_le (by omega)] at this
          have e0 : ¬ ∃ x ∈ g.ws, (x < 0 ∨ c.w - 1 < x) := fun ⟨x, hx, h⟩ => by have := c27 x hx; omega
          refine AX_seq (AX_E (E_fa rfl (E_ldO (k := 1) (v := .int .i64 (g.k)) rfl rfl (E_eqlS rfl rfl (fun c46 => ?_) (fun c46 => ?_)))))
          · refine E_mv (v := .bool _) rfl (E_nil (AX_seq (AX_block (AX_seq (AX_E (E_fa rfl (E_ldO (k := 1) (v := .int .i64 (g.f)) rfl rfl (E_lssS rfl rfl (fun c50 => ?_) (fun c50 => ?_)))))))))
            · refine E_mv (v := .bool _) rfl (E_notF rfl (E_notF rfl (E_notF rfl (E_notF rfl (E_notF rfl (E_notF rfl (E_pickT rfl (v := .bool _) rfl (E_mv (v := .bool _) rfl (E_notF rfl (E_notF rfl (E_notU rfl (E_notU rfl (E_notU rfl (E_notU rfl (E_notU rfl (E_notU rfl (E_notU rfl (E_notU rfl (E_notU rfl (E_notU rfl (E_notU rfl (E_notF rfl (E_pickT rfl (v := .bool _) rfl (E_mv (v := .bool _) rfl (E_nil (AX_condT rfl (AX_seq (AX_E (E_mv (v := .int .i64 (1)) rfl (E_nil (AX_ret ?_)))))))))))))))))))))))))))))))
              refine ⟨_, rfl, by simp, ?_, forget_flat rfl (List.prefix_append _ _)⟩
              -- r5
              clear hN1 hR1 hE1
              refine congrArg (Value.int _) ?_
              rw [cgM, if_neg c14, if_neg (by omega), if_neg e0, if_neg (not_not_intro e2)]
              (repeat' split) <;> omega
            · refine E_mv (v := .bool _) rfl (E_on rfl (E_fa rfl (E_on rfl (E_ldO (k := 1) (v := .int .i64 (g.f)) rfl rfl (E_on rfl (E_fa rfl (E_on rfl (E_fa rfl (E_on rfl (E_ldO (k := 0) (v := .int .i64 (c.b)) rfl rfl (E_on rfl (E_gtrS rfl rfl (fun c57 => ?_) (fun c57 => ?_)))))))))))))
              · refine E_pickF rfl (v := .bool _) rfl (E_mv (v := .bool _) rfl (E_notF rfl (E_notF rfl (E_notU rfl (E_notU rfl (E_notU rfl (E_notU rfl (E_notU rfl (E_notU rfl (E_notU rfl (E_notU rfl (E_notU rfl (E_notU rfl (E_notU rfl (E_notF rfl (E_pickT rfl (v := .bool _) rfl (E_mv (v := .bool _) rfl (E_nil (AX_condT rfl (AX_seq (AX_E (E_mv (v := .int .i64 (1)) rfl (E_nil (AX_ret ?_))))))))))))))))))))))))
                refine ⟨_, rfl, by simp, ?_, forget_flat rfl (List.prefix_append _ _)⟩
                -- r6
                clear hN1 hR1 hE1
                refine congrArg (Value.int _) ?_
                rw [cgM, if_neg c14, if_neg (by omega), if_neg e0, if_neg (not_not_intro e2)]
                (repeat' split) <;> omega
              · refine E_pickF rfl (v := .bool _) rfl (E_mv (v := .bool _) rfl (E_on rfl (E_mv (v := .bool _) rfl (E_on rfl (E_mv (v := .bool _) rfl (E_on rfl (E_fa rfl (E_on rfl (E_ldO (k := 1) (v := .int .i64 (g.b)) rfl rfl (E_on rfl (E_lssS rfl rfl (fun c64 => ?_) (fun c64 => ?_))))))))))))
                · refine E_on rfl (E_mv (v := .bool _) rfl (E_notF rfl (E_notF rfl (E_notF rfl (E_notF rfl (E_notF rfl (E_notF rfl (E_on rfl (E_pickT rfl (v := .bool _) rfl (E_on rfl (E_pickT rfl (v := .bool _) rfl (E_pickF rfl (v := .bool _) rfl (E_mv (v := .bool _) rfl (E_nil (AX_condT rfl (AX_seq (AX_E (E_mv (v := .int .i64 (1)) rfl (E_nil (AX_ret ?_))))))))))))))))))))
                  refine ⟨_, rfl, by simp, ?_, forget_flat rfl (List.prefix_append _ _)⟩
                  -- r7
                  clear hN1 hR1 hE1
                  refine congrArg (Value.int _) ?_
                  rw [cgM, if_neg c14, if_neg (by omega), if_neg e0, if_neg (not_not_intro e2)]
                  (repeat' split) <;> omega
                · refine E_on rfl (E_mv (v := .bool _) rfl (E_on rfl (E_fa rfl (E_on rfl (E_ldO (k := 1) (v := .int .i64 (g.b)) rfl rfl (E_on rfl (E_fa rfl (E_on rfl (E_fa rfl (E_on rfl (E_ldO (k := 0) (v := .int .i64 (c.b)) rfl rfl (E_on rfl (E_geqS rfl rfl (fun c71 => ?_) (fun c71 => ?_))))))))))))))
                  · refine E_on rfl (E_pickF rfl (v := .bool _) rfl (E_on rfl (E_pickT rfl (v := .bool _) rfl (E_pickF rfl (v := .bool _) rfl (E_mv (v := .bool _) rfl (E_nil (AX_condT rfl (AX_seq (AX_E (E_mv (v := .int .i64 (1)) rfl (E_nil (AX_ret ?_))))))))))))
                    refine ⟨_, rfl, by simp, ?_, forget_flat rfl (List.prefix_append _ _)⟩
                    -- r8
                    clear hN1 hR1 hE1
                    refine congrArg (Value.int _) ?_
                    rw [cgM, if_neg c14, if_neg (by omega), if_neg e0, if_neg (not_not_intro e2)]
                    (repeat' split) <;> omega
                  · refine E_on rfl (E_pickF rfl (v := .bool _) rfl (E_on rfl (E_pickT rfl (v := .bool _) rfl (E_pickF rfl (v := .bool _) rfl (E_mv (v := .bool _) rfl (E_nil (AX_condF rfl (AX_seq (AX_E (E_mv (v := .bool _) rfl (E_mv (v := .bool _) rfl (E_notF rfl (E_notF rfl (E_notF rfl (E_pickT rfl (v := .bool _) rfl (E_mv (v := .bool _) rfl (E_on rfl (E_fa rfl (E_on rfl (E_ldO (k := 1) (v := .int .i64 (g.f)) rfl rfl (E_on rfl (E_neqS rfl rfl (fun c85 => ?_) (fun c85 => ?_)))))))))))))))))))))))
                    · refine E_pickT rfl (v := .bool _) rfl (E_mv (v := .bool _) rfl (E_notF rfl (E_notF rfl (E_notF rfl (E_notU rfl (E_notU rfl (E_notU rfl (E_notF rfl (E_pickT rfl (v := .bool _) rfl (E_mv (v := .bool _) rfl (E_nil (AX_condT rfl (AX_seq (AX_E (E_mv (v := .int .i64 (7)) rfl (E_nil (AX_ret ?_)))))))))))))))))
                      refine ⟨_, rfl, by simp, ?_, forget_flat rfl (List.prefix_append _ _)⟩
                      -- r9
                      clear hN1 hR1 hE1
                      refine congrArg (Value.int _) ?_
                      rw [cgM, if_neg c14, if_neg (by omega), if_neg e0, if_neg (not_not_intro e2)]
                      (repeat' split) <;> omega
                    · refine E_pickT rfl (v := .bool _) rfl (E_mv (v := .bool _) rfl (E_on rfl (E_mv (v := .bool _) rfl (E_on rfl (E_notV rfl rfl (E_on rfl (E_mv (v := .bool _) rfl (E_notT rfl (E_notT rfl (E_notT rfl (E_on rfl (E_pickF rfl (v := .bool _) rfl (E_pickF rfl (v := .bool _) rfl (E_mv (v := .bool _) rfl (E_nil (AX_condF rfl (AX_skip (AX_seq (AX_E (E_mv (v := .int .i64 (0)) rfl (E_nil (AX_ret ?_))))))))))))))))))))))
                      refine ⟨_, rfl, by simp, ?_, forget_flat rfl (List.prefix_append _ _)⟩
                      -- r10
                      clear hN1 hR1 hE1
                      refine congrArg (Value.int _) ?_
                      rw [cgM, if_neg c14, if_neg (by omega), if_neg e0, if_neg (not_not_intro e2)]
                      (repeat' split) <;> omega
          · refine E_mv (v := .bool _) rfl (E_nil (AX_seq (AX_block (AX_seq (AX_E (E_fa rfl (E_ldO (k := 1) (v := .int .i64 (g.f)) rfl rfl (E_lssS rfl rfl (fun c50 => ?_) (fun c50 => ?_)))))))))
            · refine E_mv (v := .bool _) rfl (E_notF rfl (E_notF rfl (E_notF rfl (E_notF rfl (E_notF rfl (E_notF rfl (E_pickT rfl (v := .bool _) rfl (E_mv (v := .bool _) rfl (E_notF rfl (E_notF rfl (E_notU rfl (E_notU rfl (E_notU rfl (E_notU rfl (E_notU rfl (E_notU rfl (E_notU rfl (E_notU rfl (E_notU rfl (E_notU rfl (E_notU rfl (E_notF rfl (E_pickT rfl (v := .bool _) rfl (E_mv (v := .bool _) rfl (E_nil (AX_condT rfl (AX_seq (AX_E (E_mv (v := .int .i64 (1)) rfl (E_nil (AX_ret ?_)))))))))))))))))))))))))))))))
              refine ⟨_, rfl, by simp, ?_, forget_flat rfl (List.prefix_append _ _)⟩
              -- r11
              clear hN1 hR1 hE1
              refine congrArg (Value.int _) ?_
              rw [cgM, if_neg c14, if_neg (by omega), if_neg e0, if_neg (not_not_intro e2)]
              (repeat' split) <;> omega
            · refine E_mv (v := .bool _) rfl (E_on rfl (E_fa rfl (E_on rfl (E_ldO (k := 1) (v := .int .i64 (g.f)) rfl rfl (E_on rfl (E_fa rfl (E_on rfl (E_fa rfl (E_on rfl (E_ldO (k := 0) (v := .int .i64 (c.b)) rfl rfl (E_on rfl (E_gtrS rfl rfl (fun c57 => ?_) (fun c57 => ?_)))))))))))))
              · refine E_pickF rfl (v := .bool _) rfl (E_mv (v := .bool _) rfl (E_notF rfl (E_notF rfl (E_notU rfl (E_notU rfl (E_notU rfl (E_notU rfl (E_notU rfl (E_notU rfl (E_notU rfl (E_notU rfl (E_notU rfl (E_notU rfl (E_notU rfl (E_notF rfl (E_pickT rfl (v := .bool _) rfl (E_mv (v := .bool _) rfl (E_nil (AX_condT rfl (AX_seq (AX_E (E_mv (v := .int .i64 (1)) rfl (E_nil (AX_ret ?_))))))))))))))))))))))))
                refine ⟨_, rfl, by simp, ?_, forget_flat rfl (List.prefix_append _ _)⟩
                -- r12
                clear hN1 hR1 hE1
                refine congrArg (Value.int _) ?_
                rw [cgM, if_neg c14, if_neg (by omega), if_neg e0, if_neg (not_not_intro e2)]
                (repeat' split) <;> omega
              · refine E_pickF rfl (v := .bool _) rfl (E_mv (v := .bool _) rfl (E_on rfl (E_mv (v := .bool _) rfl (E_on rfl (E_mv (v := .bool _) rfl (E_notT rfl (E_notT rfl (E_notT rfl (E_notT rfl (E_notU rfl (E_notU rfl (E_notU rfl (E_notU rfl (E_notU rfl (E_notU rfl (E_notT rfl (E_on rfl (E_pickF rfl (v := .bool _) rfl (E_pickF rfl (v := .bool _) rfl (E_mv (v := .bool _) rfl (E_nil (AX_condF rfl (AX_seq (AX_E (E_mv (v := .bool _) rfl (E_mv (v := .bool _) rfl (E_on rfl (E_fa rfl (E_on rfl (E_ldO (k := 1) (v := .int .i64 (g.k)) rfl rfl (E_on rfl (E_eqlS rfl rfl (fun c80 => ?_) (fun c80 => ?_)))))))))))))))))))))))))))))))))
                · refine E_pickF rfl (v := .bool _) rfl (E_mv (v := .bool _) rfl (E_on rfl (E_fa rfl (E_on rfl (E_ldO (k := 1) (v := .int .i64 (g.f)) rfl rfl (E_on rfl (E_neqS rfl rfl (fun c85 => ?_) (fun c85 => ?_))))))))
                  · refine E_pickT rfl (v := .bool _) rfl (E_mv (v := .bool _) rfl (E_notF rfl (E_notF rfl (E_notF rfl (E_notU rfl (E_notU rfl (E_notU rfl (E_notF rfl (E_pickT rfl (v := .bool _) rfl (E_mv (v := .bool _) rfl (E_nil (AX_condT rfl (AX_seq (AX_E (E_mv (v := .int .i64 (7)) rfl (E_nil (AX_ret ?_)))))))))))))))))
                    refine ⟨_, rfl, by simp, ?_, forget_flat rfl (List.prefix_append _ _)⟩
                    -- r13
                    clear hN1 hR1 hE1
                    refine congrArg (Value.int _) ?_
                    rw [cgM, if_neg c14, if_neg (by omega), if_neg e0, if_neg (not_not_intro e2)]
                    (repeat' split) <;> omega
                  · refine E_pickT rfl (v := .bool _) rfl (E_mv (v := .bool _) rfl (E_on rfl (E_mv (v := .bool _) rfl (E_on rfl (E_notV rfl rfl (E_on rfl (E_mv (v := .bool _) rfl (E_on rfl (E_fa rfl (E_on rfl (E_ldO (k := 1) (v := .int .i64 (g.b)) rfl rfl (E_on rfl (E_neqS rfl rfl (fun c93 => ?_) (fun c93 => ?_))))))))))))))
                    · refine E_on rfl (E_pickT rfl (v := .bool _) rfl (E_pickF rfl (v := .bool _) rfl (E_mv (v := .bool _) rfl (E_nil (AX_condT rfl (AX_seq (AX_E (E_mv (v := .int .i64 (7)) rfl (E_nil (AX_ret ?_))))))))))
                      refine ⟨_, rfl, by simp, ?_, forget_flat rfl (List.prefix_append _ _)⟩
                      -- r14
                      clear hN1 hR1 hE1
                      refine congrArg (Value.int _) ?_
                      rw [cgM, if_neg c14, if_neg (by omega), if_neg e0, if_neg (not_not_intro e2)]
                      (repeat' split) <;> omega
                    · refine E_on rfl (E_pickT rfl (v := .bool _) rfl (E_pickF rfl (v := .bool _) rfl (E_mv (v := .bool _) rfl (E_nil (AX_condF rfl (AX_skip (AX_seq (AX_E (E_mv (v := .int .i64 (0)) rfl (E_nil (AX_ret ?_)))))))))))
                      refine ⟨_, rfl, by simp, ?_, forget_flat rfl (List.prefix_append _ _)⟩
                      -- r15
                      clear hN1 hR1 hE1
                      refine congrArg (Value.int _) ?_
                      rw [cgM, if_neg c14, if_neg (by omega), if_neg e0, if_neg (not_not_intro e2)]
                      (repeat' split) <;> omega
                · refine E_pickF rfl (v := .bool _) rfl (E_mv (v := .bool _) rfl (E_notT rfl (E_notT rfl (E_notT rfl (E_pickF rfl (v := .bool _) rfl (E_mv (v := .bool _) rfl (E_on rfl (E_mv (v := .bool _) rfl (E_on rfl (E_notV rfl rfl (E_on rfl (E_mv (v := .bool _) rfl (E_on rfl (E_fa rfl (E_on rfl (E_ldO (k := 1) (v := .int .i64 (g.b)) rfl rfl (E_on rfl (E_neqS rfl rfl (fun c93 => ?_) (fun c93 => ?_)))))))))))))))))))
                  · refine E_on rfl (E_pickT rfl (v := .bool _) rfl (E_pickF rfl (v := .bool _) rfl (E_mv (v := .bool _) rfl (E_nil (AX_condT rfl (AX_seq (AX_E (E_mv (v := .int .i64 (7)) rfl (E_nil (AX_ret ?_))))))))))
                    refine ⟨_, rfl, by simp, ?_, forget_flat rfl (List.prefix_append _ _)⟩
                    -- r16
                    clear hN1 hR1 hE1
                    refine congrArg (Value.int _) ?_
                    rw [cgM, if_neg c14, if_neg (by omega), if_neg e0, if_neg (not_not_intro e2)]
                    (repeat' split) <;> omega
                  · refine E_on rfl (E_pickT rfl (v := .bool _) rfl (E_pickF rfl (v := .bool _) rfl (E_mv (v := .bool _) rfl (E_nil (AX_condF rfl (AX_skip (AX_seq (AX_E (E_mv (v := .int .i64 (0)) rfl (E_nil (AX_ret ?_)))))))))))
                    refine ⟨_, rfl, by simp, ?_, forget_flat rfl (List.prefix_append _ _)⟩
                    -- r17
                    clear hN1 hR1 hE1
                    refine congrArg (Value.int _) ?_
                    rw [cgM, if_neg c14, if_neg (by omega), if_neg e0, if_neg (not_not_intro e2)]
                    (repeat' split) <;> omega
      · refine E_notV rfl rfl (E_mv (v := .bool _) rfl (E_nil (AX_condT rfl (AX_seq (AX_E (E_mv (v := .int .i64 (1)) rfl (E_nil (AX_ret ?_))))))))
        refine ⟨_, rfl, by simp, ?_, forget_flat rfl (List.prefix_append _ _)⟩
        -- r18
        refine congrArg (Value.int _) ?_
        have e0 : ∃ x ∈ g.ws, (x < 0 ∨ c.w - 1 < x) := Decidable.byContradiction fun h => c27 fun x hx => Decidable.byContradiction fun h2 => h ⟨x, hx, by omega⟩
        rw [cgM, if_neg c14, if_neg (by omega), if_pos e0]
theorem pcheck_ret (H : Heap) (c : C) (p : Pl) {S : Nat → Prop} (hv : Gates S H p c.gs) (hl : c.gs.length < 4611686018427387904) : Ret (tab Tryd.prog) 62 [cv c p] H (.int .i64 (checkM c)) H := by
  refine Ret_own k32 rfl ?_
  refine AX_seq (AX_E (E_boxA rfl (E_mv (v := .int .i64 (0)) rfl (E_nil (AX_seq (AX_block (AX_seq (AX_E (E_fa rfl (E_ldO (k := 0) (v := .int .i64 (c.w)) rfl rfl (E_lssS rfl rfl (fun c10 => ?_) (fun c10 => ?_))))))))))))
  · refine E_mv (v := .bool _) rfl (E_notF rfl (E_notF rfl (E_notF rfl (E_pickT rfl (v := .bool _) rfl (E_mv (v := .bool _) rfl (E_notF rfl (E_notF rfl (E_notF rfl (E_pickT rfl (v := .bool _) rfl (E_mv (v := .bool _) rfl (E_notF rfl (E_notF rfl (E_notF rfl (E_pickT rfl (v := .bool _) rfl (E_mv (v := .bool _) rfl (E_nil (AX_condT rfl (AX_seq (AX_E (E_mv (v := .int .i64 (3)) rfl (E_nil (AX_ret ?_))))))))))))))))))))))
    refine ⟨_, rfl, by simp, ?_, forget_flat rfl (List.prefix_append _ _)⟩
    -- r1
    refine congrArg (Value.int _) ?_
    rw [checkM]
    (repeat' split) <;> omega
  · refine E_mv (v := .bool _) rfl (E_on rfl (E_fa rfl (E_on rfl (E_ldO (k := 0) (v := .int .i64 (c.w)) rfl rfl (E_on rfl (E_gtrS rfl rfl (fun c14 => ?_) (fun c14 => ?_)))))))
    · refine E_pickF rfl (v := .bool _) rfl (E_mv (v := .bool _) rfl (E_notF rfl (E_notF rfl (E_notF rfl (E_pickT rfl (v := .bool _) rfl (E_mv (v := .bool _) rfl (E_notF rfl (E_notF rfl (E_notF rfl (E_pickT rfl (v := .bool _) rfl (E_mv (v := .bool _) rfl (E_nil (AX_condT rfl (AX_seq (AX_E (E_mv (v := .int .i64 (3)) rfl (E_nil (AX_ret ?_))))))))))))))))))
      refine ⟨_, rfl, by simp, ?_, forget_flat rfl (List.prefix_append _ _)⟩
      -- r2
      refine congrArg (Value.int _) ?_
      rw [checkM]
      (repeat' split) <;> omega
    · refine E_pickF rfl (v := .bool _) rfl (E_mv (v := .bool _) rfl (E_on rfl (E_fa rfl (E_on rfl (E_ldO (k := 0) (v := .int .i64 (c.b)) rfl rfl (E_on rfl (E_lssS rfl rfl (fun c19 => ?_) (fun c19 => ?_))))))))
      · refine E_pickF rfl (v := .bool _) rfl (E_mv (v := .bool _) rfl (E_notF rfl (E_notF rfl (E_notF rfl (E_pickT rfl (v := .bool _) rfl (E_mv (v := .bool _) rfl (E_nil (AX_condT rfl (AX_seq (AX_E (E_mv (v := .int .i64 (3)) rfl (E_nil (AX_ret ?_)))))))))))))
        refine ⟨_, rfl, by simp, ?_, forget_flat rfl (List.prefix_append _ _)⟩
        -- r3
        refine congrArg (Value.int _) ?_
        rw [checkM]
        (repeat' split) <;> omega
      · refine E_pickF rfl (v := .bool _) rfl (E_mv (v := .bool _) rfl (E_on rfl (E_fa rfl (E_on rfl (E_ldO (k := 0) (v := .int .i64 (c.b)) rfl rfl (E_on rfl (E_gtrS rfl rfl (fun c24 => ?_) (fun c24 => ?_))))))))
        · refine E_pickF rfl (v := .bool _) rfl (E_mv (v := .bool _) rfl (E_nil (AX_condT rfl (AX_seq (AX_E (E_mv (v := .int .i64 (3)) rfl (E_nil (AX_ret ?_))))))))
          refine ⟨_, rfl, by simp, ?_, forget_flat rfl (List.prefix_append _ _)⟩
          -- r4
          refine congrArg (Value.int _) ?_
          rw [checkM]
          (repeat' split) <;> omega
        · refine E_pickF rfl (v := .bool _) rfl (E_mv (v := .bool _) rfl (E_nil (AX_condF rfl (AX_seq (AX_E (E_fa rfl (E_ldO (k := 0) (v := .slice _ _ _) rfl rfl (E_len (n := (c.gs).length) rfl (E_gtrS rfl rfl (fun c30 => ?_) (fun c30 => ?_))))))))))
          · refine E_mv (v := .bool _) rfl (E_nil (AX_condT rfl (AX_seq (AX_E (E_mv (v := .int .i64 (2)) rfl (E_nil (AX_ret ?_)))))))
            refine ⟨_, rfl, by simp, ?_, forget_flat rfl (List.prefix_append _ _)⟩
            -- r5
            refine congrArg (Value.int _) ?_
            rw [checkM]
            (repeat' split) <;> omega
          · refine E_mv (v := .bool _) rfl (E_nil (AX_condF rfl (AX_skip (AX_seq (AX_E (E_ldON (k := 0) rfl rfl (E_mk (cs := [.int .i64 (c.w), .int .i64 (c.b), .slice (p).1 (c.gs).length (p).2, .nilFunc]) rfl (E_fn (u := [.agg #[.int .i64 (c.w), .int .i64 (c.b), .slice (p).1 (c.gs).length (p).2, .nilFunc]]) (v := []) rfl rfl (E_mv (v := .func _ _ _) rfl (E_nil (AX_seq (AX_seq (AX_E (E_fa rfl (E_ldO (k := 0) (v := .slice _ _ _) rfl rfl (E_len (n := (c.gs).length) rfl (E_mv (v := .int .i64 (0)) rfl (E_nil (AX_block ?_)))))))))))))))))))
            refine AX_loopF (γ := Nat) (fun j => [(3, .func (.func 85) #[.agg #[.int .i64 (c.w), .int .i64 (c.b), .slice (p).1 (c.gs).length (p).2, .nilFunc]] #[]), (35, .slice (p).1 (c.gs).length (p).2), (36, .int .i64 ((c.gs).length)), (37, .int .i64 ((j : Int)))]) (fun j h_ m_ => (∃ z_, h_ = H ++ ([CO.row [.int .i64 (c.w), .int .i64 (c.b), .slice (p).1 (c.gs).length (p).2] true none] ++ z_)) ∧ m_ = [] ∧ j ≤ c.gs.length ∧ ∀ g ∈ c.gs.take j, cgM g c.w c.b = 0) (fun j => c.gs.length - j) (0) ⟨rfl, rfl, rfl, rfl, trivial⟩ ⟨⟨[], app0 _ _⟩, rfl, ?_⟩ ?_
            · simp
            rintro j fr1 h1 m1 ⟨⟨z1, rfl⟩, rfl, inv1⟩ K1 hN1 hR1 hE1
            refine AX_nil ?_
            refine AX_seq (AX_E (E_lssS rfl rfl (fun c38 => ?_) (fun c38 => ?_)))
            · refine E_nil (AX_seq (AX_condT rfl (AX_skip (AX_seq (AX_block (AX_seq (AX_E (have ix1 : j < (c.gs).length := (by first | omega | (simp; done) | (simp; omega)); E_iaGb (j := j) rfl hv.app rfl rfl rfl ix1 fun b1 o1 q1 f1 w1 => (E_ldBN rfl w1 (E_new (E_stO (k := 0) rfl rfl (v := .agg _) rfl rfl rfl rfl (E_nil (AX_seq (AX_E (E_mv (v := .func _ _ _) rfl (E_ldON (k := 0) rfl rfl (E_callV rfl (gate_ret _ c (c.gs[j]'ix1) _ _ _ f1.app (by omega) (by omega) rfl) (E_mv (v := .int .i64 (cgM (c.gs[j]'ix1) c.w c.b)) rfl (E_nil (AX_seq (AX_E (E_mv (v := .int .i64 (cgM (c.gs[j]'ix1) c.w c.b)) rfl (E_neqS rfl rfl (fun c45 => ?_) (fun c45 => ?_))))))))))))))))))))))))
              · refine E_nil (AX_condT rfl (AX_seq (AX_E (E_mv (v := .int .i64 (cgM (c.gs[j]'ix1) c.w c.b)) rfl (E_mv (v := .int .i64 (cgM (c.gs[j]'ix1) c.w c.b)) rfl (E_nil (AX_ret (hR1 _ _ _ ?_))))))))
                refine ⟨_, rfl, by simp, ?_, forget_flat rfl ((List.prefix_append _ _).trans (List.prefix_append _ _))⟩
                -- r6
                clear hN1 hR1 hE1
                refine congrArg (Value.int _) ?_
                have e0 := firstErr_take (by omega) inv1.2 c45
                rw [checkM, if_neg (by omega), if_neg (by omega), e0]
              · refine E_nil (AX_condF rfl (AX_skip (AX_E (E_addI rfl rfl (by first | omega | (simp; done) | (simp; omega)) (by first | omega | (simp; done) | (simp; omega)) (E_mv (v := .int .i64 (((j : Int) + 1))) rfl (E_nil ?_))))))
                refine hN1 (j + 1) _ _ _ ⟨by first | rfl | (congr 1; omega), by first | rfl | (congr 1; omega), by first | rfl | (congr 1; omega), by first | rfl | (congr 1; omega), trivial⟩ ⟨⟨_, app3 _ _ _ _⟩, rfl, ?_⟩ ?_
                -- n7
                all_goals clear hN1 hR1 hE1
                · exact ⟨by omega, all_next (by omega) inv1.2 c45⟩
                · (first | omega | (simp; omega))
            · refine E_nil (AX_seq (AX_condF rfl (AX_exit (hE1 _ _ _ _ ?_))))
              have e0 := firstErr_all (all_all c38 inv1.2)
              refine AX_seq (AX_E (E_mv (v := .int .i64 (0)) rfl (E_nil (AX_ret ?_))))
              refine ⟨_, rfl, by simp, ?_, forget_flat rfl ((List.prefix_append _ _).trans (List.prefix_append _ _))⟩
              -- r8
              clear hN1 hR1 hE1
              refine congrArg (Value.int _) ?_
              rw [checkM]
              (repeat' split) <;> omega
theorem checked_ret (H : Heap) (c d : C) (p q : Pl) {S S' : Nat → Prop} (hv : Gates S H p c.gs) (hu : Gates S' H q d.gs) (hl : c.gs.length < 4611686018427387904) (hl2 : d.gs.length < 4611686018427387904) : Ret (tab Tryd.prog) 61 [cv c p, cv d q] H (.int .i64 (if checkM c ≠ 0 then checkM c else checkM d)) H := by
  refine Ret_own k73 rfl ?_
  refine AX_seq (AX_E (E_boxA rfl (E_boxA rfl (E_mv (v := .int .i64 (0)) rfl (E_nil (AX_seq (AX_seq (AX_E (E_ldON (k := 0) rfl rfl (E_callV rfl (pcheck_ret _ c _ hv.app (by first | omega | (simp; done) | (simp; omega))) (E_mv (v := .int .i64 (checkM c)) rfl (E_nil (AX_seq (AX_E (E_mv (v := .int .i64 (checkM c)) rfl (E_neqS rfl rfl (fun c9 => ?_) (fun c9 => ?_)))))))))))))))))
  · refine E_nil (AX_condT rfl (AX_seq (AX_E (E_mv (v := .int .i64 (checkM c)) rfl (E_mv (v := .int .i64 (checkM c)) rfl (E_nil (AX_ret ?_)))))))
    refine ⟨_, rfl, by simp, ?_, forget_flat rfl (List.prefix_append _ _)⟩
    refine congrArg (Value.int _) ?_
    simp [*]
  · refine E_nil (AX_condF rfl (AX_skip (AX_seq (AX_E (E_ldON (k := 1) rfl rfl (E_callV rfl (pcheck_ret _ d _ hu.app (by first | omega | (simp; done) | (simp; omega))) (E_mv (v := .int .i64 (checkM d)) rfl (E_nil (AX_ret ?_)))))))))
    refine ⟨_, rfl, by simp, ?_, forget_flat rfl (List.prefix_append _ _)⟩
    refine congrArg (Value.int _) ?_
    simp [*]
end Go.Canon
namespace Go.Canon
open Go Go.Proofs
set_option linter.unusedVariables false
set_option linter.unusedSimpArgs false
def kf91 : KFunc := ⟨1, 17, [.cell 2 (some 12)], .seq (.reg [⟨some 1, .box (.t 0), none⟩, ⟨some 2, .new [.bool false, .bool false, .bool false, .bool false, .bool false, .bool false, .bool false, .bool false, .bool false, .bool false, .bool false, .bool false], none⟩] []) (.seq (.reg [⟨some 3, .new [.bool false, .bool false, .bool false, .bool false, .bool false, .bool false, .bool false, .bool false, .bool false, .bool false, .bool false, .bool false], none⟩] []) (.seq (.seq (.reg [⟨some 6, .fa (.t 1) 1, none⟩, ⟨some 7, .ld (.t 6) none, none⟩, ⟨some 8, .len (.t 7), none⟩, ⟨some 9, .mv (.c (.int .i64 0)), none⟩] []) (.block 0 (.loop (.seq (.reg [⟨some 10, .bin .lss (.t 9) (.t 8), none⟩] []) (.seq (.cond (.t 10) .skip (.exit 0)) (.seq (.block 1 (.seq (.reg [⟨some 11, .iaS (.t 7) (.t 9) 1, none⟩, ⟨some 12, .ld (.t 11) none, none⟩, ⟨some 5, .mv (.t 12), none⟩] []) (.reg [⟨some 13, .mv (.t 5), none⟩, ⟨some 14, .iaA (.t 3) (.t 13) 12 1, none⟩, ⟨none, .st (.t 14) (.c (.bool true)) 1, none⟩] []))) (.reg [⟨some 15, .bin .add (.t 9) (.c (.int .i64 1)), none⟩, ⟨some 9, .mv (.t 15), none⟩] []))))))) (.seq (.reg [⟨some 16, .ld (.t 3) (some 12), none⟩, ⟨none, .st (.t 2) (.t 16) 12, none⟩] []) .ret)))⟩
theorem k91 : tab Tryd.prog 90 = some kf91 := by kernel_rfl
def kf105 : KFunc := ⟨2, 21, [.cell 4 (some 12)], .seq (.reg [⟨some 2, .box (.t 0), none⟩, ⟨some 3, .box (.t 1), none⟩, ⟨some 4, .new [.bool false, .bool false, .bool false, .bool false, .bool false, .bool false, .bool false, .bool false, .bool false, .bool false, .bool false, .bool false], none⟩] []) (.seq (.seq (.reg [⟨some 6, .mv (.c (.int .i64 0)), none⟩] []) (.block 0 (.loop (.seq (.reg [⟨some 7, .bin .lss (.t 6) (.c (.int .i64 12)), none⟩] []) (.seq (.cond (.t 7) .skip (.exit 0)) (.seq (.block 1 (.seq (.reg [⟨some 8, .mv (.t 6), none⟩, ⟨some 5, .mv (.t 8), none⟩] []) (.reg [⟨some 9, .mv (.t 5), none⟩, ⟨some 10, .mv (.t 5), none⟩, ⟨some 11, .iaA (.t 2) (.t 10) 12 1, none⟩, ⟨some 12, .ld (.t 11) none, none⟩, ⟨some 13, .mv (.t 12), none⟩, ⟨some 14, .mv (.t 5), some (13, true)⟩, ⟨some 15, .iaA (.t 3) (.t 14) 12 1, some (13, true)⟩, ⟨some 16, .ld (.t 15) none, some (13, true)⟩, ⟨some 17, .pick (.t 13) (.t 16) (.c (.bool false)), none⟩, ⟨some 18, .iaA (.t 2) (.t 9) 12 1, none⟩, ⟨none, .st (.t 18) (.t 17) 1, none⟩] []))) (.reg [⟨some 19, .bin .add (.t 6) (.c (.int .i64 1)), none⟩, ⟨some 6, .mv (.t 19), none⟩] []))))))) (.seq (.reg [⟨some 20, .ld (.t 2) (some 12), none⟩, ⟨none, .st (.t 4) (.t 20) 12, none⟩] []) .ret))⟩
theorem k105 : tab Tryd.prog 100 = some kf105 := by kernel_rfl
def kf88 : KFunc := ⟨2, 22, [.tmp 4], .seq (.reg [⟨some 2, .box (.t 0), none⟩, ⟨some 3, .box (.t 1), none⟩, ⟨some 4, .mv (.c (.bool false)), none⟩] []) (.seq (.reg [⟨some 5, .ld (.t 2) (some 4), none⟩, ⟨some 6, .call (.c (.func (.func 90) #[] #[])) [.t 5], none⟩, ⟨some 7, .ld (.t 3) (some 4), none⟩, ⟨some 8, .call (.c (.func (.func 90) #[] #[])) [.t 7], none⟩, ⟨some 9, .call (.c (.func (.func 100) #[] #[])) [.t 6, .t 8], none⟩, ⟨some 10, .mk [.bool false, .bool false, .bool false, .bool false, .bool false, .bool false, .bool false, .bool false, .bool false, .bool false, .bool false, .bool false] [], none⟩, ⟨some 11, .eqA true [0, 0, 0, 0, 0, 0, 0, 0, 0, 0, 0, 0] (.t 9) (.t 10), none⟩, ⟨some 12, .mv (.t 11), none⟩, ⟨some 13, .ld (.t 2) (some 4), some (12, false)⟩, ⟨some 14, .ld (.t 3) (some 4), some (12, false)⟩, ⟨some 15, .call (.c (.func (.func 88) #[] #[])) [.t 13, .t 14], some (12, false)⟩, ⟨some 16, .pick (.t 12) (.c (.bool true)) (.t 15), none⟩, ⟨some 17, .mv (.t 16), none⟩, ⟨some 18, .ld (.t 3) (some 4), some (17, false)⟩, ⟨some 19, .ld (.t 2) (some 4), some (17, false)⟩, ⟨some 20, .call (.c (.func (.func 88) #[] #[])) [.t 18, .t 19], some (17, false)⟩, ⟨some 21, .pick (.t 17) (.c (.bool true)) (.t 20), none⟩, ⟨some 4, .mv (.t 21), none⟩] [(1, 2)]) .ret)⟩
theorem k88 : tab Tryd.prog 78 = some kf88 := by kernel_rfl
def kf64 : KFunc := ⟨2, 68, [.tmp 4], .seq (.reg [⟨some 2, .box (.t 0), none⟩, ⟨some 3, .box (.t 1), none⟩, ⟨some 4, .mv (.c (.bool false)), none⟩] []) (.seq (.seq (.reg [⟨some 9, .ld (.t 2) (some 4), none⟩, ⟨some 10, .ld (.t 3) (some 4), none⟩, ⟨some 11, .call (.c (.func (.func 78) #[] #[])) [.t 9, .t 10], none⟩, ⟨some 12, .not (.t 11), none⟩] []) (.cond (.t 12) (.seq (.reg [⟨some 4, .mv (.c (.bool true)), none⟩] []) .ret) .skip)) (.seq (.seq (.reg [⟨some 13, .ld (.t 2) (some 4), none⟩, ⟨some 14, .ld (.t 3) (some 4), none⟩, ⟨some 15, .call (.c (.func (.func 88) #[] #[])) [.t 13, .t 14], none⟩, ⟨some 16, .mv (.t 15), none⟩, ⟨some 17, .ld (.t 3) (some 4), some (16, false)⟩, ⟨some 18, .ld (.t 2) (some 4), some (16, false)⟩, ⟨some 19, .call (.c (.func (.func 88) #[] #[])) [.t 17, .t 18], some (16, false)⟩, ⟨some 20, .pick (.t 16) (.c (.bool true)) (.t 19), none⟩] []) (.cond (.t 20) (.seq (.reg [⟨some 4, .mv (.c (.bool false)), none⟩] []) .ret) .skip)) (.seq (.reg [⟨some 5, .mv (.c (.func (.func 89) #[] #[])), none⟩] []) (.seq (.seq (.reg [⟨some 21, .mv (.t 5), none⟩, ⟨some 22, .ld (.t 2) (some 4), none⟩, ⟨some 23, .ld (.t 3) (some 4), none⟩, ⟨some 24, .call (.t 21) [.t 22, .t 23], none⟩, ⟨some 25, .mv (.t 24), none⟩, ⟨some 26, .mv (.t 5), some (25, false)⟩, ⟨some 27, .ld (.t 3) (some 4), some (25, false)⟩, ⟨some 28, .ld (.t 2) (some 4), some (25, false)⟩, ⟨some 29, .call (.t 26) [.t 27, .t 28], some (25, false)⟩, ⟨some 30, .pick (.t 25) (.c (.bool true)) (.t 29), none⟩, ⟨some 31, .mv (.t 30), none⟩, ⟨some 32, .ld (.t 2) (some 4), some (31, true)⟩, ⟨some 33, .call (.c (.func (.func 90) #[] #[])) [.t 32], some (31, true)⟩, ⟨some 34, .ld (.t 3) (some 4), some (31, true)⟩, ⟨some 35, .call (.c (.func (.func 90) #[] #[])) [.t 34], some (31, true)⟩, ⟨some 36, .eqA false [0, 0, 0, 0, 0, 0, 0, 0, 0, 0, 0, 0] (.t 33) (.t 35), some (31, true)⟩, ⟨some 37, .pick (.t 31) (.t 36) (.c (.bool false)), none⟩] [(12, 13)]) (.cond (.t 37) (.seq (.reg [⟨some 4, .mv (.c (.bool true)), none⟩] []) .ret) .skip)) (.seq (.seq (.reg [⟨some 38, .fa (.t 2) 1, none⟩, ⟨some 39, .ld (.t 38) none, none⟩, ⟨some 40, .len (.t 39), none⟩, ⟨some 41, .mv (.c (.int .i64 0)), none⟩] []) (.block 0 (.loop (.seq (.reg [⟨some 42, .bin .lss (.t 41) (.t 40), none⟩] []) (.seq (.cond (.t 42) .skip (.exit 0)) (.seq (.block 1 (.seq (.reg [⟨some 43, .mv (.t 41), none⟩, ⟨some 44, .iaS (.t 39) (.t 41) 1, none⟩, ⟨some 45, .ld (.t 44) none, none⟩, ⟨some 6, .mv (.t 43), none⟩, ⟨some 7, .mv (.t 45), none⟩] []) (.seq (.reg [⟨some 46, .fa (.t 3) 1, none⟩, ⟨some 47, .ld (.t 46) none, none⟩, ⟨some 48, .mv (.t 7), none⟩, ⟨some 49, .call (.c (.func (.func 52) #[] #[])) [.t 47, .t 48], none⟩, ⟨some 8, .mv (.t 49), none⟩] []) (.seq (.reg [⟨some 50, .mv (.t 8), none⟩, ⟨some 51, .bin .geq (.t 50) (.c (.int .i64 0)), none⟩, ⟨some 52, .mv (.t 51), none⟩, ⟨some 53, .ld (.t 2) (some 4), some (52, true)⟩, ⟨some 54, .mv (.t 6), some (52, true)⟩, ⟨some 55, .call (.c (.func (.func 91) #[] #[])) [.t 53, .t 54], some (52, true)⟩, ⟨some 56, .bin .eql (.t 55) (.c (.int .i64 0)), some (52, true)⟩, ⟨some 57, .mv (.t 56), some (52, true)⟩, ⟨some 58, .ld (.t 2) (some 4), some (57, false)⟩, ⟨some 59, .mv (.t 6), some (57, false)⟩, ⟨some 60, .call (.c (.func (.func 91) #[] #[])) [.t 58, .t 59], some (57, false)⟩, ⟨some 61, .ld (.t 3) (some 4), some (57, false)⟩, ⟨some 62, .mv (.t 8), some (57, false)⟩, ⟨some 63, .call (.c (.func (.func 91) #[] #[])) [.t 61, .t 62], some (57, false)⟩, ⟨some 64, .bin .neq (.t 60) (.t 63), some (57, false)⟩, ⟨some 65, .pick (.t 57) (.c (.bool true)) (.t 64), some (52, true)⟩, ⟨some 66, .pick (.t 52) (.t 65) (.c (.bool false)), none⟩] [(10, 11)]) (.cond (.t 66) (.seq (.reg [⟨some 4, .mv (.c (.bool false)), none⟩] []) .ret) .skip))))) (.reg [⟨some 67, .bin .add (.t 41) (.c (.int .i64 1)), none⟩, ⟨some 41, .mv (.t 67), none⟩] []))))))) (.seq (.reg [⟨some 4, .mv (.c (.bool true)), none⟩] []) .ret))))))⟩
theorem k64 : tab Tryd.prog 65 = some kf64 := by kernel_rfl
def ofM (ws : List Int) : Nat → Bool := fun i => decide ((i : Int) ∈ ws)
theorem of_next {l : List Int} {j k : Nat} (hj : j < l.length) (e : l[j] = (k : Int)) : ∀ i, i < 12 → (fun i => if i = k then true else ofM (l.take j) i) i = ofM (l.take (j + 1)) i := by
  intro i _
  simp only [ofM]
  rw [List.take_succ_eq_append_getElem hj, e]
  by_cases h : i = k
  · subst h; simp
  · have : ¬ (i : Int) = (k : Int) := by omega
    simp [h, this]
theorem heap3 {H : Heap} {r0 r1 : CO} {f g : Nat → Bool} (e : ∀ i, i < 12 → f i = g i) : H ++ [r0, r1, .row (bl f) true none] = H ++ [r0, r1, .row (bl g) true none] := by rw [bl_ext e]
theorem of_ret (H : Heap) (g : G) (p : Pl) {S : Nat → Prop} (hv : Ints S H p g.ws) (hg : GR g) : Ret (tab Tryd.prog) 90 [gv g p] H (.agg (bl (ofM g.ws)).toArray) H := by
  have hl := hg.len
  refine Ret_own k91 rfl ?_
  refine AX_seq (AX_E (E_boxA rfl (E_new (E_nil (AX_seq (AX_E (E_new (E_nil (AX_seq (AX_seq (AX_E (E_fa rfl (E_ldO (k := 0) (v := .slice _ _ _) rfl rfl (E_len (n := (g.ws).length) rfl (E_mv (v := .int .i64 (0)) rfl (E_nil (AX_block ?_)))))))))))))))))
  refine AX_loopF (γ := Nat) (fun j => [(2, .pointer (some ⟨(H).length + 1, 0, none⟩)), (3, .pointer (some ⟨(H).length + 2, 0, none⟩)), (7, .slice (p).1 (g.ws).length (p).2), (8, .int .i64 ((g.ws).length)), (9, .int .i64 ((j : Int)))]) (fun j h_ m_ => h_ = H ++ [CO.row [.int .i64 (g.k), .slice (p).1 (g.ws).length (p).2, .int .i64 (g.b), .int .i64 (g.f)] true none, CO.row [.bool false, .bool false, .bool false, .bool false, .bool false, .bool false, .bool false, .bool false, .bool false, .bool false, .bool false, .bool false] true none, CO.row (bl (ofM (g.ws.take j))) true none] ∧ m_ = [] ∧ j ≤ g.ws.length) (fun j => g.ws.length - j) (0) ⟨rfl, rfl, rfl, rfl, rfl, trivial⟩ ⟨heap3 (f := fun _ => false) (g := ofM (g.ws.take 0)) (by simp [ofM]), rfl, ?_⟩ ?_
  · simp
  rintro j fr0 h0 m0 ⟨rfl, rfl, inv0⟩ K0 hN0 hR0 hE0
  refine AX_seq (AX_E (E_lssS rfl rfl (fun c10 => ?_) (fun c10 => ?_)))
  · refine E_nil (AX_seq (AX_condT rfl (AX_skip (AX_seq (AX_block (AX_seq (AX_E (have ix1 : j < (g.ws).length := (by first | omega | (simp; done) | (simp; omega)); E_iaIb (j := j) rfl hv rfl rfl rfl ix1 fun b1 o1 w1 => (E_ldB (v := .int .i64 (g.ws[j]'ix1)) rfl w1 (E_mv (v := .int .i64 (g.ws[j]'ix1)) rfl (E_nil (AX_E (E_mv (v := .int .i64 (g.ws[j]'ix1)) rfl (E_iaA (j := (g.ws[j]'ix1).toNat) rfl rfl (by have := hg.rng _ (List.getElem_mem (l := g.ws) (n := j) (by omega)); omega) (by have := hg.rng _ (List.getElem_mem (l := g.ws) (n := j) (by omega)); omega) (E_stO (k := 2) rfl rfl (v := .bool _) rfl rfl rfl (bl_set (f := ofM (g.ws.take j)) (j := (g.ws[j]'ix1).toNat) rfl (by have := hg.rng _ (List.getElem_mem (l := g.ws) (n := j) (by omega)); omega)) (E_nil (AX_E (E_addI rfl rfl (by first | omega | (simp; done) | (simp; omega)) (by first | omega | (simp; done) | (simp; omega)) (E_mv (v := .int .i64 (((j : Int) + 1))) rfl (E_nil ?_))))))))))))))))))))
    refine hN0 (j + 1) _ _ _ ⟨by first | rfl | (congr 1; omega), by first | rfl | (congr 1; omega), by first | rfl | (congr 1; omega), by first | rfl | (congr 1; omega), by first | rfl | (congr 1; omega), trivial⟩ ⟨heap3 (of_next (by omega) (by have := hg.rng _ (List.getElem_mem (l := g.ws) (n := j) (by omega)); omega)), rfl, ?_⟩ ?_
    -- n1
    all_goals clear hN0 hR0 hE0
    · omega
    · (first | omega | (simp; omega))
  · refine E_nil (AX_seq (AX_condF rfl (AX_exit (hE0 _ _ _ _ ?_))))
    have e0 : g.ws.take j = g.ws := List.take_of_length_le (by omega)
    refine AX_seq (AX_E (E_ldON (k := 2) (cs := bl (ofM (g.ws.take j))) rfl rfl (E_stO (k := 1) (ob := .row (bl (ofM (g.ws.take j))) true none) rfl rfl (v := .agg _) rfl rfl rfl rfl (E_nil (AX_ret ?_)))))
    refine ⟨_, (res1 (res_cellN (k := 1) (cs := bl (ofM (g.ws.take j))) rfl rfl)), by simp, ?_, forget_flat rfl (List.prefix_append _ _)⟩
    -- r2
    clear hN0 hR0 hE0
    rw [e0]
theorem heap4 {H : Heap} {r1 r2 : CO} {f g : Nat → Bool} (e : ∀ i, i < 12 → f i = g i) : H ++ [.row (bl f) true none, r1, r2] = H ++ [.row (bl g) true none, r1, r2] := by rw [bl_ext e]
theorem both_next {u v : Nat → Bool} {j : Nat} {b : Bool} (e : b = (u j && v j)) : ∀ i, i < 12 → (fun i => if i = j then b else (fun i => if i < j then u i && v i else u i) i) i = (fun i => if i < j + 1 then u i && v i else u i) i := by
  intro i _
  simp only
  by_cases h : i = j
  · subst h; simp [e]
  · by_cases h2 : i < j
    · rw [if_neg h, if_pos h2, if_pos (by omega)]
    · rw [if_neg h, if_neg h2, if_neg (by omega)]
theorem both_ret (H : Heap) (u v : Nat → Bool) : Ret (tab Tryd.prog) 100 [.agg (bl u).toArray, .agg (bl v).toArray] H (.agg (bl fun i => u i && v i).toArray) H := by
  refine Ret_own k105 rfl ?_
  refine AX_seq (AX_E (E_boxA rfl (E_boxA rfl (E_new (E_nil (AX_seq (AX_seq (AX_E (E_mv (v := .int .i64 (0)) rfl (E_nil (AX_block ?_)))))))))))
  refine AX_loopF (γ := Nat) (fun j => [(2, .pointer (some ⟨(H).length + 0, 0, none⟩)), (3, .pointer (some ⟨(H).length + 1, 0, none⟩)), (4, .pointer (some ⟨(H).length + 2, 0, none⟩)), (6, .int .i64 ((j : Int)))]) (fun j h_ m_ => h_ = H ++ [CO.row (bl (fun i => if i < j then u i && v i else u i)) true none, CO.row (bl (v)) true none, CO.row [.bool false, .bool false, .bool false, .bool false, .bool false, .bool false, .bool false, .bool false, .bool false, .bool false, .bool false, .bool false] true none] ∧ m_ = [] ∧ j ≤ 12) (fun j => 12 - j) (0) ⟨rfl, rfl, rfl, rfl, trivial⟩ ⟨heap4 (f := u) (g := fun i => if i < 0 then u i && v i else u i) (fun i _ => (if_neg (Nat.not_lt_zero i)).symm), rfl, ?_⟩ ?_
  · simp
  rintro j fr0 h0 m0 ⟨rfl, rfl, inv0⟩ K0 hN0 hR0 hE0
  refine AX_seq (AX_E (E_lssS rfl rfl (fun c7 => ?_) (fun c7 => ?_)))
  · refine E_nil (AX_seq (AX_condT rfl (AX_skip (AX_seq (AX_block (AX_seq (AX_E (E_mv (v := .int .i64 ((j : Int))) rfl (E_mv (v := .int .i64 ((j : Int))) rfl (E_nil (AX_E (E_mv (v := .int .i64 ((j : Int))) rfl (E_mv (v := .int .i64 ((j : Int))) rfl (E_iaA (j := j) rfl rfl rfl (by first | omega | (simp; done) | (simp; omega)) (E_ldO (k := 0) (v := .bool ((fun i => if i < j then u i && v i else u i) j)) rfl (bl_get (f := fun i => if i < j then u i && v i else u i) (j := j) rfl (by first | omega | (simp; done) | (simp; omega))) (E_bs (fun c12 => ?_) (fun c12 => ?_)))))))))))))))))
    · refine E_mv (v := .bool _) rfl (E_on rfl (E_mv (v := .int .i64 ((j : Int))) rfl (E_on rfl (E_iaA (j := j) rfl rfl rfl (by first | omega | (simp; done) | (simp; omega)) (E_on rfl (E_ldO (k := 1) (v := .bool ((v) j)) rfl (bl_get (f := v) (j := j) rfl (by first | omega | (simp; done) | (simp; omega))) (E_pickT rfl (v := .bool _) rfl (E_iaA (j := j) rfl rfl rfl (by first | omega | (simp; done) | (simp; omega)) (E_stO (k := 0) rfl rfl (v := .bool _) rfl rfl rfl (bl_set (f := fun i => if i < j then u i && v i else u i) (j := j) rfl (by first | omega | (simp; done) | (simp; omega))) (E_nil (AX_E (E_addI rfl rfl (by first | omega | (simp; done) | (simp; omega)) (by first | omega | (simp; done) | (simp; omega)) (E_mv (v := .int .i64 (((j : Int) + 1))) rfl (E_nil ?_))))))))))))))
      refine hN0 (j + 1) _ _ _ ⟨by first | rfl | (congr 1; omega), by first | rfl | (congr 1; omega), by first | rfl | (congr 1; omega), by first | rfl | (congr 1; omega), trivial⟩ ⟨heap4 (both_next (by simp_all)), rfl, ?_⟩ ?_
      -- n1
      all_goals clear hN0 hR0 hE0
      · omega
      · (first | omega | (simp; omega))
    · refine E_mv (v := .bool _) rfl (E_notT rfl (E_notT rfl (E_notT rfl (E_pickF rfl (v := .bool _) rfl (E_iaA (j := j) rfl rfl rfl (by first | omega | (simp; done) | (simp; omega)) (E_stO (k := 0) rfl rfl (v := .bool _) rfl rfl rfl (bl_set (f := fun i => if i < j then u i && v i else u i) (j := j) rfl (by first | omega | (simp; done) | (simp; omega))) (E_nil (AX_E (E_addI rfl rfl (by first | omega | (simp; done) | (simp; omega)) (by first | omega | (simp; done) | (simp; omega)) (E_mv (v := .int .i64 (((j : Int) + 1))) rfl (E_nil ?_)))))))))))
      refine hN0 (j + 1) _ _ _ ⟨by first | rfl | (congr 1; omega), by first | rfl | (congr 1; omega), by first | rfl | (congr 1; omega), by first | rfl | (congr 1; omega), trivial⟩ ⟨heap4 (both_next (by simp_all)), rfl, ?_⟩ ?_
      -- n2
      all_goals clear hN0 hR0 hE0
      · omega
      · (first | omega | (simp; omega))
  · refine E_nil (AX_seq (AX_condF rfl (AX_exit (hE0 _ _ _ _ (AX_seq (AX_E (E_ldON (k := 0) (cs := bl (fun i => if i < j then u i && v i else u i)) rfl rfl (E_stO (k := 2) (ob := .row (bl (fun i => if i < j then u i && v i else u i)) true none) rfl rfl (v := .agg _) rfl rfl rfl rfl (E_nil (AX_ret ?_))))))))))
    refine ⟨_, (res1 (res_cellN (k := 2) (cs := bl (fun i => if i < j then u i && v i else u i)) rfl rfl)), by simp, ?_, forget_flat rfl (List.prefix_append _ _)⟩
    -- r3
    clear hN0 hR0 hE0
    show Value.agg (bl _).toArray = Value.agg (bl _).toArray
    rw [bl_ext (g := fun i => u i && v i) (fun i hi => if_pos (by omega))]
theorem gr_nat {g : G} (hg : GR g) {x : Int} (hx : x ∈ g.ws) : ∃ i : Nat, i < 12 ∧ x = (i : Int) := ⟨x.toNat, by have := hg.rng x hx; omega, by have := hg.rng x hx; omega⟩
theorem pmeet_iff {g h : G} (hg : GR g) (hh : GR h) : ((¬ ∀ i, i < 12 → (ofM g.ws i && ofM h.ws i) = false) ∨ ptouchM g h ∨ ptouchM h g) ↔ meetM g h := by
  have h1 : (¬ ∀ i, i < 12 → (ofM g.ws i && ofM h.ws i) = false) ↔ ∃ x ∈ g.ws, x ∈ h.ws := by
    constructor
    · intro H
      refine Decidable.byContradiction fun hn => H fun i hi => ?_
      simp only [ofM, Bool.and_eq_false_iff, decide_eq_false_iff_not]
      by_cases ha : (i : Int) ∈ g.ws
      · exact .inr fun hb => hn ⟨_, ha, hb⟩
      · exact .inl ha
    · rintro ⟨x, hx, hy⟩ H
      obtain ⟨i, hi, rfl⟩ := gr_nat hg hx
      have := H i hi
      simp [ofM, hx, hy] at this
  have b1 := hg.b0
  have b2 := hh.b0
  rw [h1]
  unfold meetM touchM ptouchM
  constructor
  · rintro (h | h | h)
    · exact .inl h
    · right; omega
    · right; omega
  · rintro (h | h)
    · exact .inl h
    · right; omega
theorem pmeet_ret (H : Heap) (g h : G) (p q : Pl) {S S' : Nat → Prop} (hv : Ints S H p g.ws) (hu : Ints S' H q h.ws) (hg : GR g) (hh : GR h) : Ret (tab Tryd.prog) 78 [gv g p, gv h q] H (.bool (decide (meetM g h))) H := by
  refine Ret_own k88 rfl ?_
  refine AX_seq (AX_E (E_boxA rfl (E_boxA rfl (E_mv (v := .bool _) rfl (E_nil (AX_seq (AX_E (E_ldON (k := 0) rfl rfl (E_callV rfl (of_ret _ g _ hv.app (by assumption)) (E_ldON (k := 1) rfl rfl (E_callV rfl (of_ret _ h _ hu.app (by assumption)) (E_callV rfl (both_ret _ (ofM g.ws) (ofM h.ws)) (E_mk (cs := [.bool false, .bool false, .bool false, .bool false, .bool false, .bool false, .bool false, .bool false, .bool false, .bool false, .bool false, .bool false]) rfl (E_eqAP rfl rfl (bl_eq (f := fun i => (ofM g.ws) i && (ofM h.ws) i) (g := fun _ => false)) (fun c11 => ?_) (fun c11 => ?_)))))))))))))))
  · refine E_mv (v := .bool _) rfl (E_on rfl (E_ldON (k := 0) rfl rfl (E_on rfl (E_ldON (k := 1) rfl rfl (E_on rfl (E_callP rfl (ptouch_ret _ g h _ _ (by assumption)) (fun c15 => ?_) (fun c15 => ?_)))))))
    · refine E_pickF rfl (v := .bool _) rfl (E_mv (v := .bool _) rfl (E_notF rfl (E_notF rfl (E_notF rfl (E_pickT rfl (v := .bool _) rfl (E_mv (v := .bool _) rfl (E_nil (AX_ret ?_))))))))
      refine ⟨_, rfl, by simp, ?_, forget_flat rfl (List.prefix_append _ _)⟩
      refine congrArg (Value.bool) ?_
      refine (decide_eq_true ?_).symm
      rw [← pmeet_iff hg hh]
      first | exact .inl c11 | exact .inr (.inl c15) | exact .inr (.inr c20) | exact fun x => x.elim (fun y => y c11) fun y => y.elim c15 c20
    · refine E_pickF rfl (v := .bool _) rfl (E_mv (v := .bool _) rfl (E_on rfl (E_ldON (k := 1) rfl rfl (E_on rfl (E_ldON (k := 0) rfl rfl (E_on rfl (E_callP rfl (ptouch_ret _ h g _ _ (by assumption)) (fun c20 => ?_) (fun c20 => ?_))))))))
      · refine E_pickF rfl (v := .bool _) rfl (E_mv (v := .bool _) rfl (E_nil (AX_ret ?_)))
        refine ⟨_, rfl, by simp, ?_, forget_flat rfl (List.prefix_append _ _)⟩
        refine congrArg (Value.bool) ?_
        refine (decide_eq_true ?_).symm
        rw [← pmeet_iff hg hh]
        first | exact .inl c11 | exact .inr (.inl c15) | exact .inr (.inr c20) | exact fun x => x.elim (fun y => y c11) fun y => y.elim c15 c20
      · refine E_pickF rfl (v := .bool _) rfl (E_mv (v := .bool _) rfl (E_nil (AX_ret ?_)))
        refine ⟨_, rfl, by simp, ?_, forget_flat rfl (List.prefix_append _ _)⟩
        refine congrArg (Value.bool) ?_
        refine (decide_eq_false ?_).symm
        rw [← pmeet_iff hg hh]
        first | exact .inl c11 | exact .inr (.inl c15) | exact .inr (.inr c20) | exact fun x => x.elim (fun y => y c11) fun y => y.elim c15 c20
  · refine E_mv (v := .bool _) rfl (E_notF rfl (E_notF rfl (E_notF rfl (E_pickT rfl (v := .bool _) rfl (E_mv (v := .bool _) rfl (E_notF rfl (E_notF rfl (E_notF rfl (E_pickT rfl (v := .bool _) rfl (E_mv (v := .bool _) rfl (E_nil (AX_ret ?_))))))))))))
    refine ⟨_, rfl, by simp, ?_, forget_flat rfl (List.prefix_append _ _)⟩
    refine congrArg (Value.bool) ?_
    refine (decide_eq_true ?_).symm
    rw [← pmeet_iff hg hh]
    first | exact .inl c11 | exact .inr (.inl c15) | exact .inr (.inr c20) | exact fun x => x.elim (fun y => y c11) fun y => y.elim c15 c20
def pcommM (g h : G) : Prop := ¬ meetM g h ∨ ¬ (ptouchM g h ∨ ptouchM h g) ∧ ((swapsM g h ∨ swapsM h g) ∧ (∀ i, i < 12 → ofM g.ws i = ofM h.ws i) ∨ ∀ j (hj : j < g.ws.length), 0 ≤ idxM h.ws g.ws[j] → paxisM g j ≠ 0 ∧ paxisM g j = paxisM h (idxM h.ws g.ws[j]))
open Classical in
theorem pcomm_ret0 (H : Heap) (g h : G) (p q : Pl) {S S' : Nat → Prop} (hv : Ints S H p g.ws) (hu : Ints S' H q h.ws) (hg : GR g) (hh : GR h) : Ret (tab Tryd.prog) 65 [gv g p, gv h q] H (.bool (decide (pcommM g h))) H := by
  have l1 := hg.len
  have l2 := hh.len
  refine Ret_own k64 rfl ?_
  refine AX_seq (AX_E (E_boxA rfl (E_boxA rfl (E_mv (v := .bool _) rfl (E_nil (AX_seq (AX_seq (AX_E (E_ldON (k := 0) rfl rfl (E_ldON (k := 1) rfl rfl (E_callP rfl (pmeet_ret _ g h _ _ hv.app hu.app (by assumption) (by assumption)) (fun c11 => ?_) (fun c11 => ?_))))))))))))
  · refine E_notV rfl rfl (E_nil (AX_condF rfl (AX_skip ?_)))
    refine AX_cut (X := Unit) (fun _ => [(2, .pointer (some ⟨(H).length + 0, 0, none⟩)), (3, .pointer (some ⟨(H).length + 1, 0, none⟩))]) (fun _ h_ m_ => h_ = H ++ [CO.row [.int .i64 (g.k), .slice (p).1 (g.ws).length (p).2, .int .i64 (g.b), .int .i64 (g.f)] true none, CO.row [.int .i64 (h.k), .slice (q).1 (h.ws).length (q).2, .int .i64 (h.b), .int .i64 (h.f)] true none] ∧ m_ = [] ∧ ¬ (ptouchM g h ∨ ptouchM h g)) ?_ ?_
    · intro Kc20 hNc20 hRc20 hEc20
      refine AX_seq (AX_E (E_ldON (k := 0) rfl rfl (E_ldON (k := 1) rfl rfl (E_callP rfl (ptouch_ret _ g h _ _ (by assumption)) (fun c15 => ?_) (fun c15 => ?_)))))
      · refine E_mv (v := .bool _) rfl (E_notF rfl (E_notF rfl (E_notF rfl (E_pickT rfl (v := .bool _) rfl (E_nil (AX_condT rfl (AX_seq (AX_E (E_mv (v := .bool _) rfl (E_nil (AX_ret (hRc20 _ _ _ ?_))))))))))))
        refine ⟨_, rfl, by simp, ?_, forget_flat rfl (List.prefix_append _ _)⟩
        -- r1
        clear hNc20 hRc20 hEc20
        refine congrArg (Value.bool) ?_
        refine (decide_eq_false ?_).symm
        first | exact .inl c11 | exact fun x => x.elim (fun y => y c11) (fun y => y.1 (.inl c15)) | exact fun x => x.elim (fun y => y c11) (fun y => y.1 (.inr c19)) | exact .inr ⟨invc20, .inl ⟨.inl c24, c36⟩⟩ | exact .inr ⟨invc20, .inl ⟨.inr c29, c36⟩⟩ | exact fun x => x.elim (fun y => y c11) (fun y => y.2.elim invc37 fun z => (z j (by omega) c51).1 c56) | exact fun x => x.elim (fun y => y c11) (fun y => y.2.elim invc37 fun z => c64 (z j (by omega) c51).2) | exact .inr ⟨invc20, .inr fun i hi => inv0.2 i hi (by omega)⟩
      · refine E_mv (v := .bool _) rfl (E_on rfl (E_ldON (k := 1) rfl rfl (E_on rfl (E_ldON (k := 0) rfl rfl (E_on rfl (E_callP rfl (ptouch_ret _ h g _ _ (by assumption)) (fun c19 => ?_) (fun c19 => ?_)))))))
        · refine E_pickF rfl (v := .bool _) rfl (E_nil (AX_condT rfl (AX_seq (AX_E (E_mv (v := .bool _) rfl (E_nil (AX_ret (hRc20 _ _ _ ?_))))))))
          refine ⟨_, rfl, by simp, ?_, forget_flat rfl (List.prefix_append _ _)⟩
          -- r2
          clear hNc20 hRc20 hEc20
          refine congrArg (Value.bool) ?_
          refine (decide_eq_false ?_).symm
          first | exact .inl c11 | exact fun x => x.elim (fun y => y c11) (fun y => y.1 (.inl c15)) | exact fun x => x.elim (fun y => y c11) (fun y => y.1 (.inr c19)) | exact .inr ⟨invc20, .inl ⟨.inl c24, c36⟩⟩ | exact .inr ⟨invc20, .inl ⟨.inr c29, c36⟩⟩ | exact fun x => x.elim (fun y => y c11) (fun y => y.2.elim invc37 fun z => (z j (by omega) c51).1 c56) | exact fun x => x.elim (fun y => y c11) (fun y => y.2.elim invc37 fun z => c64 (z j (by omega) c51).2) | exact .inr ⟨invc20, .inr fun i hi => inv0.2 i hi (by omega)⟩
        · refine E_pickF rfl (v := .bool _) rfl (E_nil (AX_condF rfl (AX_skip ?_)))
          refine hNc20 (()) _ _ _ ⟨by first | rfl | (congr 1; omega), by first | rfl | (congr 1; omega), trivial⟩ ⟨rfl, rfl, ?_⟩
          -- u3
          clear hNc20 hRc20 hEc20
          exact fun x => x.elim c15 c19
    rintro ⟨⟩ frc20 hc20 mc20 ⟨rfl, rfl, invc20⟩
    refine AX_seq (AX_E (E_mv (v := .func _ _ _) rfl (E_nil ?_)))
    refine AX_cut (X := Unit) (fun _ => [(2, .pointer (some ⟨(H).length + 0, 0, none⟩)), (3, .pointer (some ⟨(H).length + 1, 0, none⟩))]) (fun _ h_ m_ => h_ = H ++ [CO.row [.int .i64 (g.k), .slice (p).1 (g.ws).length (p).2, .int .i64 (g.b), .int .i64 (g.f)] true none, CO.row [.int .i64 (h.k), .slice (q).1 (h.ws).length (q).2, .int .i64 (h.b), .int .i64 (h.f)] true none] ∧ m_ = [] ∧ ¬ ((swapsM g h ∨ swapsM h g) ∧ (∀ i, i < 12 → ofM g.ws i = ofM h.ws i))) ?_ ?_
    · intro Kc37 hNc37 hRc37 hEc37
      refine AX_seq (AX_E (E_mv (v := .func _ _ _) rfl (E_ldON (k := 0) rfl rfl (E_ldON (k := 1) rfl rfl (E_callP rfl (swaps_ret _ g h _ _) (fun c24 => ?_) (fun c24 => ?_))))))
      · refine E_mv (v := .bool _) rfl (E_notF rfl (E_notF rfl (E_notF rfl (E_notF rfl (E_pickT rfl (v := .bool _) rfl (E_mv (v := .bool _) rfl (E_on rfl (E_ldON (k := 0) rfl rfl (E_on rfl (E_callV rfl (of_ret _ g _ hv.app (by assumption)) (E_on rfl (E_ldON (k := 1) rfl rfl (E_on rfl (E_callV rfl (of_ret _ h _ hu.app (by assumption)) (E_on rfl (E_eqAP rfl rfl (bl_eq (f := ofM g.ws) (g := ofM h.ws)) (fun c36 => ?_) (fun c36 => ?_)))))))))))))))))
        · refine E_pickT rfl (v := .bool _) rfl (E_nil (AX_condT rfl (AX_seq (AX_E (E_mv (v := .bool _) rfl (E_nil (AX_ret (hRc37 _ _ _ ?_))))))))
          refine ⟨_, rfl, by simp, ?_, forget_flat rfl (List.prefix_append _ _)⟩
          -- r4
          clear hNc37 hRc37 hEc37
          refine congrArg (Value.bool) ?_
          refine (decide_eq_true ?_).symm
          first | exact .inl c11 | exact fun x => x.elim (fun y => y c11) (fun y => y.1 (.inl c15)) | exact fun x => x.elim (fun y => y c11) (fun y => y.1 (.inr c19)) | exact .inr ⟨invc20, .inl ⟨.inl c24, c36⟩⟩ | exact .inr ⟨invc20, .inl ⟨.inr c29, c36⟩⟩ | exact fun x => x.elim (fun y => y c11) (fun y => y.2.elim invc37 fun z => (z j (by omega) c51).1 c56) | exact fun x => x.elim (fun y => y c11) (fun y => y.2.elim invc37 fun z => c64 (z j (by omega) c51).2) | exact .inr ⟨invc20, .inr fun i hi => inv0.2 i hi (by omega)⟩
        · refine E_pickT rfl (v := .bool _) rfl (E_nil (AX_condF rfl (AX_skip ?_)))
          refine hNc37 (()) _ _ _ ⟨by first | rfl | (congr 1; omega), by first | rfl | (congr 1; omega), trivial⟩ ⟨rfl, rfl, ?_⟩
          -- u5
          clear hNc37 hRc37 hEc37
          first | exact fun x => c36 x.2 | exact fun x => x.1.elim c24 c29
      · refine E_mv (v := .bool _) rfl (E_on rfl (E_mv (v := .func _ _ _) rfl (E_on rfl (E_ldON (k := 1) rfl rfl (E_on rfl (E_ldON (k := 0) rfl rfl (E_on rfl (E_callP rfl (swaps_ret _ h g _ _) (fun c29 => ?_) (fun c29 => ?_)))))))))
        · refine E_pickF rfl (v := .bool _) rfl (E_mv (v := .bool _) rfl (E_on rfl (E_ldON (k := 0) rfl rfl (E_on rfl (E_callV rfl (of_ret _ g _ hv.app (by assumption)) (E_on rfl (E_ldON (k := 1) rfl rfl (E_on rfl (E_callV rfl (of_ret _ h _ hu.app (by assumption)) (E_on rfl (E_eqAP rfl rfl (bl_eq (f := ofM g.ws) (g := ofM h.ws)) (fun c36 => ?_) (fun c36 => ?_))))))))))))
          · refine E_pickT rfl (v := .bool _) rfl (E_nil (AX_condT rfl (AX_seq (AX_E (E_mv (v := .bool _) rfl (E_nil (AX_ret (hRc37 _ _ _ ?_))))))))
            refine ⟨_, rfl, by simp, ?_, forget_flat rfl (List.prefix_append _ _)⟩
            -- r6
            clear hNc37 hRc37 hEc37
            refine congrArg (Value.bool) ?_
            refine (decide_eq_true ?_).symm
            first | exact .inl c11 | exact fun x => x.elim (fun y => y c11) (fun y => y.1 (.inl c15)) | exact fun x => x.elim (fun y => y c11) (fun y => y.1 (.inr c19)) | exact .inr ⟨invc20, .inl ⟨.inl c24, c36⟩⟩ | exact .inr ⟨invc20, .inl ⟨.inr c29, c36⟩⟩ | exact fun x => x.elim (fun y => y c11) (fun y => y.2.elim invc37 fun z => (z j (by omega) c51).1 c56) | exact fun x => x.elim (fun y => y c11) (fun y => y.2.elim invc37 fun z => c64 (z j (by omega) c51).2) | exact .inr ⟨invc20, .inr fun i hi => inv0.2 i hi (by omega)⟩
          · refine E_pickT rfl (v := .bool _) rfl (E_nil (AX_condF rfl (AX_skip ?_)))
            refine hNc37 (()) _ _ _ ⟨by first | rfl | (congr 1; omega), by first | rfl | (congr 1; omega), trivial⟩ ⟨rfl, rfl, ?_⟩
            -- u7
            clear hNc37 hRc37 hEc37
            first | exact fun x => c36 x.2 | exact fun x => x.1.elim c24 c29
        · refine E_pickF rfl (v := .bool _) rfl (E_mv (v := .bool _) rfl (E_notT rfl (E_notT rfl (E_notT rfl (E_notT rfl (E_notT rfl (E_pickF rfl (v := .bool _) rfl (E_nil (AX_condF rfl (AX_skip ?_))))))))))
          refine hNc37 (()) _ _ _ ⟨by first | rfl | (congr 1; omega), by first | rfl | (congr 1; omega), trivial⟩ ⟨rfl, rfl, ?_⟩
          -- u8
          clear hNc37 hRc37 hEc37
          first | exact fun x => c36 x.2 | exact fun x => x.1.elim c24 c29
    rintro ⟨⟩ frc37 hc37 mc37 ⟨rfl, rfl, invc37⟩
    refine AX_seq (AX_seq (AX_E (E_fa rfl (E_ldO (k := 0) (v := .slice _ _ _) rfl rfl (E_len (n := (g.ws).length) rfl (E_mv (v := .int .i64 (0)) rfl (E_nil (AX_block ?_))))))))
    refine AX_loopF (γ := Nat) (fun j => [(2, .pointer (some ⟨(H).length + 0, 0, none⟩)), (3, .pointer (some ⟨(H).length + 1, 0, none⟩)), (39, .slice (p).1 (g.ws).length (p).2), (40, .int .i64 ((g.ws).length)), (41, .int .i64 ((j : Int)))]) (fun j h_ m_ => h_ = H ++ [CO.row [.int .i64 (g.k), .slice (p).1 (g.ws).length (p).2, .int .i64 (g.b), .int .i64 (g.f)] true none, CO.row [.int .i64 (h.k), .slice (q).1 (h.ws).length (q).2, .int .i64 (h.b), .int .i64 (h.f)] true none] ∧ m_ = [] ∧ j ≤ g.ws.length ∧ ∀ i (hi : i < g.ws.length), i < j → 0 ≤ idxM h.ws g.ws[i] → paxisM g i ≠ 0 ∧ paxisM g i = paxisM h (idxM h.ws g.ws[i])) (fun j => g.ws.length - j) (0) ⟨rfl, rfl, rfl, rfl, rfl, trivial⟩ ⟨rfl, rfl, ?_⟩ ?_
    · simp
    rintro j fr0 h0 m0 ⟨rfl, rfl, inv0⟩ K0 hN0 hR0 hE0
    refine AX_seq (AX_E (E_lssS rfl rfl (fun c42 => ?_) (fun c42 => ?_)))
    · refine E_nil (AX_seq (AX_condT rfl (AX_skip ?_)))
      refine AX_cut (X := Unit) (fun _ => [(2, .pointer (some ⟨(H).length + 0, 0, none⟩)), (3, .pointer (some ⟨(H).length + 1, 0, none⟩)), (39, .slice (p).1 (g.ws).length (p).2), (40, .int .i64 ((g.ws).length)), (41, .int .i64 ((j : Int)))]) (fun _ h_ m_ => h_ = H ++ [CO.row [.int .i64 (g.k), .slice (p).1 (g.ws).length (p).2, .int .i64 (g.b), .int .i64 (g.f)] true none, CO.row [.int .i64 (h.k), .slice (q).1 (h.ws).length (q).2, .int .i64 (h.b), .int .i64 (h.f)] true none] ∧ m_ = [] ∧ (0 ≤ idxM h.ws g.ws[j] → paxisM g j ≠ 0 ∧ paxisM g j = paxisM h (idxM h.ws g.ws[j]))) ?_ ?_
      · intro Kc66 hNc66 hRc66 hEc66
        refine AX_block (AX_seq (AX_E (E_mv (v := .int .i64 ((j : Int))) rfl (have ix1 : j < (g.ws).length := (by first | omega | (simp; done) | (simp; omega)); E_iaIb (j := j) rfl hv rfl rfl rfl ix1 fun b1 o1 w1 => (E_ldB (v := .int .i64 (g.ws[j]'ix1)) rfl w1 (E_mv (v := .int .i64 ((j : Int))) rfl (E_mv (v := .int .i64 (g.ws[j]'ix1)) rfl (E_nil (AX_seq (AX_E (E_fa rfl (E_ldO (k := 1) (v := .slice _ _ _) rfl rfl (E_mv (v := .int .i64 (g.ws[j]'ix1)) rfl (E_callV rfl (index_ret _ _ _ _ hu.app (by first | omega | (simp; done) | (simp; omega))) (E_mv (v := .int .i64 (idxM (h.ws) (g.ws[j]'ix1))) rfl (E_nil (AX_seq (AX_E (E_mv (v := .int .i64 (idxM (h.ws) (g.ws[j]'ix1))) rfl (E_geqS rfl rfl (fun c51 => ?_) (fun c51 => ?_)))))))))))))))))))))
        · refine E_mv (v := .bool _) rfl (E_on rfl (E_ldON (k := 0) rfl rfl (E_on rfl (E_mv (v := .int .i64 ((j : Int))) rfl (E_on rfl (E_callV rfl (paxis_ret _ g _ _ (by assumption)) (E_on rfl (E_eqlS rfl rfl (fun c56 => ?_) (fun c56 => ?_)))))))))
          · refine E_on rfl (E_mv (v := .bool _) rfl (E_notF rfl (E_notF rfl (E_notF rfl (E_notF rfl (E_notF rfl (E_notF rfl (E_notF rfl (E_on rfl (E_pickT rfl (v := .bool _) rfl (E_pickT rfl (v := .bool _) rfl (E_nil (AX_condT rfl (AX_seq (AX_E (E_mv (v := .bool _) rfl (E_nil (AX_ret (hRc66 _ _ _ (hR0 _ _ _ ?_))))))))))))))))))))
            refine ⟨_, rfl, by simp, ?_, forget_flat rfl (List.prefix_append _ _)⟩
            -- r9
            clear hN0 hR0 hE0 hNc66 hRc66 hEc66
            refine congrArg (Value.bool) ?_
            refine (decide_eq_false ?_).symm
            first | exact .inl c11 | exact fun x => x.elim (fun y => y c11) (fun y => y.1 (.inl c15)) | exact fun x => x.elim (fun y => y c11) (fun y => y.1 (.inr c19)) | exact .inr ⟨invc20, .inl ⟨.inl c24, c36⟩⟩ | exact .inr ⟨invc20, .inl ⟨.inr c29, c36⟩⟩ | exact fun x => x.elim (fun y => y c11) (fun y => y.2.elim invc37 fun z => (z j (by omega) c51).1 c56) | exact fun x => x.elim (fun y => y c11) (fun y => y.2.elim invc37 fun z => c64 (z j (by omega) c51).2) | exact .inr ⟨invc20, .inr fun i hi => inv0.2 i hi (by omega)⟩
          · refine E_on rfl (E_mv (v := .bool _) rfl (E_on rfl (E_ldON (k := 0) rfl rfl (E_on rfl (E_mv (v := .int .i64 ((j : Int))) rfl (E_on rfl (E_callV rfl (paxis_ret _ g _ _ (by assumption)) (E_on rfl (E_ldON (k := 1) rfl rfl (E_on rfl (E_mv (v := .int .i64 (idxM (h.ws) (g.ws[j]'ix1))) rfl (E_on rfl (E_callV rfl (paxis_ret _ h _ _ (by assumption)) (E_on rfl (E_neqS rfl rfl (fun c64 => ?_) (fun c64 => ?_))))))))))))))))
            · refine E_on rfl (E_pickF rfl (v := .bool _) rfl (E_pickT rfl (v := .bool _) rfl (E_nil (AX_condT rfl (AX_seq (AX_E (E_mv (v := .bool _) rfl (E_nil (AX_ret (hRc66 _ _ _ (hR0 _ _ _ ?_)))))))))))
              refine ⟨_, rfl, by simp, ?_, forget_flat rfl (List.prefix_append _ _)⟩
              -- r10
              clear hN0 hR0 hE0 hNc66 hRc66 hEc66
              refine congrArg (Value.bool) ?_
              refine (decide_eq_false ?_).symm
              first | exact .inl c11 | exact fun x => x.elim (fun y => y c11) (fun y => y.1 (.inl c15)) | exact fun x => x.elim (fun y => y c11) (fun y => y.1 (.inr c19)) | exact .inr ⟨invc20, .inl ⟨.inl c24, c36⟩⟩ | exact .inr ⟨invc20, .inl ⟨.inr c29, c36⟩⟩ | exact fun x => x.elim (fun y => y c11) (fun y => y.2.elim invc37 fun z => (z j (by omega) c51).1 c56) | exact fun x => x.elim (fun y => y c11) (fun y => y.2.elim invc37 fun z => c64 (z j (by omega) c51).2) | exact .inr ⟨invc20, .inr fun i hi => inv0.2 i hi (by omega)⟩
            · refine E_on rfl (E_pickF rfl (v := .bool _) rfl (E_pickT rfl (v := .bool _) rfl (E_nil (AX_condF rfl (AX_skip ?_)))))
              refine hNc66 (()) _ _ _ ⟨by first | rfl | (congr 1; omega), by first | rfl | (congr 1; omega), by first | rfl | (congr 1; omega), by first | rfl | (congr 1; omega), by first | rfl | (congr 1; omega), trivial⟩ ⟨rfl, rfl, ?_⟩
              -- u11
              clear hN0 hR0 hE0 hNc66 hRc66 hEc66
              first | exact fun x => absurd x c51 | exact fun _ => ⟨c56, c64⟩
        · refine E_mv (v := .bool _) rfl (E_notT rfl (E_notT rfl (E_notT rfl (E_notT rfl (E_notT rfl (E_notU rfl (E_notU rfl (E_notU rfl (E_notU rfl (E_notU rfl (E_notU rfl (E_notU rfl (E_notT rfl (E_pickF rfl (v := .bool _) rfl (E_nil (AX_condF rfl (AX_skip ?_)))))))))))))))))
          refine hNc66 (()) _ _ _ ⟨by first | rfl | (congr 1; omega), by first | rfl | (congr 1; omega), by first | rfl | (congr 1; omega), by first | rfl | (congr 1; omega), by first | rfl | (congr 1; omega), trivial⟩ ⟨rfl, rfl, ?_⟩
          -- u12
          clear hN0 hR0 hE0 hNc66 hRc66 hEc66
          first | exact fun x => absurd x c51 | exact fun _ => ⟨c56, c64⟩
      rintro ⟨⟩ frc66 hc66 mc66 ⟨rfl, rfl, invc66⟩
      refine AX_E (E_addI rfl rfl (by first | omega | (simp; done) | (simp; omega)) (by first | omega | (simp; done) | (simp; omega)) (E_mv (v := .int .i64 (((j : Int) + 1))) rfl (E_nil ?_)))
      refine hN0 (j + 1) _ _ _ ⟨by first | rfl | (congr 1; omega), by first | rfl | (congr 1; omega), by first | rfl | (congr 1; omega), by first | rfl | (congr 1; omega), by first | rfl | (congr 1; omega), trivial⟩ ⟨rfl, rfl, ?_⟩ ?_
      -- n13
      all_goals clear hN0 hR0 hE0
      · refine ⟨by omega, fun i hi hij => ?_⟩
        by_cases e : i = j
        · subst e; exact invc66
        · exact inv0.2 i hi (by omega)
      · (first | omega | (simp; omega))
    · refine E_nil (AX_seq (AX_condF rfl (AX_exit (hE0 _ _ _ _ (AX_seq (AX_E (E_mv (v := .bool _) rfl (E_nil (AX_ret ?_)))))))))
      refine ⟨_, rfl, by simp, ?_, forget_flat rfl (List.prefix_append _ _)⟩
      -- r14
      clear hN0 hR0 hE0
      refine congrArg (Value.bool) ?_
      refine (decide_eq_true ?_).symm
      first | exact .inl c11 | exact fun x => x.elim (fun y => y c11) (fun y => y.1 (.inl c15)) | exact fun x => x.elim (fun y => y c11) (fun y => y.1 (.inr c19)) | exact .inr ⟨invc20, .inl ⟨.inl c24, c36⟩⟩ | exact .inr ⟨invc20, .inl ⟨.inr c29, c36⟩⟩ | exact fun x => x.elim (fun y => y c11) (fun y => y.2.elim invc37 fun z => (z j (by omega) c51).1 c56) | exact fun x => x.elim (fun y => y c11) (fun y => y.2.elim invc37 fun z => c64 (z j (by omega) c51).2) | exact .inr ⟨invc20, .inr fun i hi => inv0.2 i hi (by omega)⟩
  · refine E_notV rfl rfl (E_nil (AX_condT rfl (AX_seq (AX_E (E_mv (v := .bool _) rfl (E_nil (AX_ret ?_)))))))
    refine ⟨_, rfl, by simp, ?_, forget_flat rfl (List.prefix_append _ _)⟩
    -- r15
    refine congrArg (Value.bool) ?_
    refine (decide_eq_true ?_).symm
    first | exact .inl c11 | exact fun x => x.elim (fun y => y c11) (fun y => y.1 (.inl c15)) | exact fun x => x.elim (fun y => y c11) (fun y => y.1 (.inr c19)) | exact .inr ⟨invc20, .inl ⟨.inl c24, c36⟩⟩ | exact .inr ⟨invc20, .inl ⟨.inr c29, c36⟩⟩ | exact fun x => x.elim (fun y => y c11) (fun y => y.2.elim invc37 fun z => (z j (by omega) c51).1 c56) | exact fun x => x.elim (fun y => y c11) (fun y => y.2.elim invc37 fun z => c64 (z j (by omega) c51).2) | exact .inr ⟨invc20, .inr fun i hi => inv0.2 i hi (by omega)⟩
end Go.Canon
namespace Go.Canon
open Go Go.Proofs
set_option linter.unusedVariables false
set_option linter.unusedSimpArgs false
theorem idx_mem {l : List Int} {n : Int} : 0 ≤ idxM l n ↔ n ∈ l := by unfold idxM; split <;> simp [*]
theorem nodup_inj {l : List Int} (hn : l.Nodup) {i j : Nat} (hi : i < l.length) (hj : j < l.length) : l[i] = l[j] ↔ i = j := by
  constructor
  · intro e
    exact (List.getElem_inj hn).1 e
  · intro e; subst e; rfl
theorem paxis_eq {g : G} (hg : GR g) {j : Nat} (hj : j < g.ws.length) : paxisM g j = axisM g g.ws[j] := by
  have hl := hg.len
  have h1 : (g.ws.getD (g.ws.length - 1) 0 = g.ws[j]) ↔ ((j : Int) = g.ws.length - 1) := by
    rw [← getD_at (show g.ws.length - 1 < g.ws.length by omega), nodup_inj hg.nd]
    omega
  unfold paxisM axisM
  simp only [h1]
theorem paxis_idx {h : G} (hh : GR h) {x : Int} (hx : x ∈ h.ws) : paxisM h (idxM h.ws x) = axisM h x := by
  have hi := List.idxOf_lt_length_of_mem hx
  rw [idxM, if_pos hx, paxis_eq hh hi, List.getElem_idxOf hi]
theorem comm_wires {g h : G} (hg : GR g) (hh : GR h) : (∀ j (hj : j < g.ws.length), 0 ≤ idxM h.ws g.ws[j] → paxisM g j ≠ 0 ∧ paxisM g j = paxisM h (idxM h.ws g.ws[j])) ↔ ∀ x ∈ g.ws, x ∈ h.ws → axisM g x ≠ 0 ∧ axisM g x = axisM h x := by
  constructor
  · intro H x hx hy
    obtain ⟨j, hj, rfl⟩ := List.getElem_of_mem hx
    have := H j hj (idx_mem.2 hy)
    rwa [paxis_eq hg hj, paxis_idx hh hy] at this
  · intro H j hj hi
    have hy := idx_mem.1 hi
    have := H _ (List.getElem_mem hj) hy
    rwa [paxis_eq hg hj, paxis_idx hh hy]
theorem two_wires {g : G} (hg : GR g) (hk : g.k = 10 ∨ g.k = 11) : ∃ a b, g.ws = [a, b] ∧ a ≠ b := by
  have h1 := hg.ar
  have h2 : arityM g.k = 2 := by rcases hk with e | e <;> rw [e] <;> rfl
  have h3 := hg.nd
  match hw : g.ws with
  | [a, b] => rw [hw] at h3; exact ⟨a, b, rfl, by simpa using h3⟩
  | [] => rw [hw, h2] at h1; simp at h1
  | [a] => rw [hw, h2] at h1; simp at h1
  | a :: b :: c :: t => rw [hw, h2] at h1; simp only [List.length_cons] at h1; omega
theorem of_eq {g h : G} (hg : GR g) (hh : GR h) : (∀ i, i < 12 → ofM g.ws i = ofM h.ws i) ↔ ∀ x, x ∈ g.ws ↔ x ∈ h.ws := by
  constructor
  · intro H x
    constructor
    · intro hx
      obtain ⟨i, hi, rfl⟩ := gr_nat hg hx
      have := H i hi
      simpa [ofM, hx] using this
    · intro hx
      obtain ⟨i, hi, rfl⟩ := gr_nat hh hx
      have := H i hi
      simpa [ofM, hx] using this
  · intro H i _
    simp only [ofM, H]
theorem alike_iff {g h : G} (hg : GR g) (hh : GR h) (kg : g.k = 10 ∨ g.k = 11) (kh : h.k = 10 ∨ h.k = 11) : (∀ x, x ∈ g.ws ↔ x ∈ h.ws) ↔ alikeM g h := by
  obtain ⟨a, b, e1, n1⟩ := two_wires hg kg
  obtain ⟨c, d, e2, n2⟩ := two_wires hh kh
  simp only [alikeM, e1, e2, List.mem_cons, List.not_mem_nil, or_false, List.getD_cons_zero, List.getD_cons_succ]
  constructor
  · intro H; exact ⟨(H a).1 (.inl rfl), (H b).1 (.inr rfl)⟩
  · intro H x; omega
theorem pcomm_iff {g h : G} (hg : GR g) (hh : GR h) : pcommM g h ↔ commM g h := by
  have b1 := hg.b0
  have b2 := hh.b0
  have ht : (ptouchM g h ∨ ptouchM h g) ↔ touchM g h := by unfold touchM ptouchM; omega
  unfold pcommM commM
  rw [ht, comm_wires hg hh, of_eq hg hh]
  by_cases hm : meetM g h
  · by_cases htt : touchM g h
    · simp [hm, htt]
    · obtain ⟨y, hy1, hy2⟩ : ∃ x ∈ g.ws, x ∈ h.ws := by
        rcases hm with h | h
        · exact h
        · exact (htt h).elim
      simp only [hm, htt, not_true, not_false_iff, true_and, false_or]
      split
      · rename_i hc
        have hs : swapsM g h ∨ swapsM h g := by unfold swapsM; omega
        rw [← alike_iff hg hh (by omega) (by omega)]
        constructor
        · rintro (⟨_, x⟩ | x)
          · exact x
          · have := x y hy1 hy2
            exfalso
            rcases hc with ⟨a, b⟩ | ⟨a, b⟩
            · exact this.1 (by simp [axisM, a])
            · have h0 := this.2
              rw [show axisM h y = 0 by simp [axisM, a]] at h0
              exact this.1 h0
        · intro x; exact .inl ⟨hs, x⟩
      · rename_i hc
        have hs : ¬ (swapsM g h ∨ swapsM h g) := by unfold swapsM; omega
        simp [hs]
  · simp [hm]
theorem pcomm_ret (H : Heap) (g h : G) (p q : Pl) {S S' : Nat → Prop} (hv : Ints S H p g.ws) (hu : Ints S' H q h.ws) (hg : GR g) (hh : GR h) : Ret (tab Tryd.prog) 65 [gv g p, gv h q] H (.bool (decide (commM g h))) H := by
  have := pcomm_ret0 H g h p q hv hu hg hh
  rwa [decide_eq_decide.2 (pcomm_iff hg hh)] at this
end Go.Canon
namespace Go.Canon
open Go Go.Proofs
set_option linter.unusedVariables false
set_option linter.unusedSimpArgs false
def kf104 : KFunc := ⟨0, 3, [.tmp 0], .seq (.reg [⟨some 0, .mv (.c (.map none)), none⟩] []) (.seq (.reg [⟨some 1, .mkM, none⟩, ⟨none, .ins 1 (.t 1) (.c (.int .i64 5)) (.c (.int .i64 6)), none⟩, ⟨none, .ins 1 (.t 1) (.c (.int .i64 6)) (.c (.int .i64 5)), none⟩, ⟨none, .ins 1 (.t 1) (.c (.int .i64 7)) (.c (.int .i64 8)), none⟩, ⟨none, .ins 1 (.t 1) (.c (.int .i64 8)) (.c (.int .i64 7)), none⟩, ⟨some 2, .mv (.t 1), none⟩, ⟨some 0, .mv (.t 2), none⟩] []) .ret)⟩
theorem k104 : tab Tryd.prog 84 = some kf104 := by kernel_rfl
def kf85 : KFunc := ⟨1, 14, [.tmp 2], .seq (.reg [⟨some 2, .mv (.c (.int .i64 0)), none⟩] []) (.seq (.seq (.reg [⟨some 6, .call (.c (.func (.func 84) #[] #[])) [], none⟩, ⟨some 7, .mv (.t 0), none⟩, ⟨some 8, .lk 1 (.t 6) (.t 7) (.int .i64 0) true, none⟩, ⟨some 5, .mv (.t 8), none⟩, ⟨some 9, .ext (.t 5) 0, none⟩, ⟨some 10, .ext (.t 5) 1, none⟩, ⟨some 3, .mv (.t 9), none⟩, ⟨some 4, .mv (.t 10), none⟩] []) (.seq (.reg [⟨some 11, .mv (.t 4), none⟩] []) (.cond (.t 11) (.seq (.reg [⟨some 12, .mv (.t 3), none⟩, ⟨some 2, .mv (.t 12), none⟩] []) .ret) .skip))) (.seq (.reg [⟨some 13, .mv (.t 0), none⟩, ⟨some 2, .mv (.t 13), none⟩] []) .ret))⟩
theorem k85 : tab Tryd.prog 60 = some kf85 := by kernel_rfl
def kf94 : KFunc := ⟨1, 29, [.cell 2 (some 15)], .seq (.reg [⟨some 1, .box (.t 0), none⟩, ⟨some 2, .new [.int .i64 0, .int .i64 0, .bool false, .bool false, .bool false, .bool false, .bool false, .bool false, .bool false, .bool false, .bool false, .bool false, .bool false, .bool false, .int .i64 0], none⟩] []) (.seq (.reg [⟨some 4, .fa (.t 1) 0, none⟩, ⟨some 5, .ld (.t 4) none, none⟩, ⟨some 6, .fa (.t 1) 3, none⟩, ⟨some 7, .ld (.t 6) none, none⟩, ⟨some 8, .ld (.t 1) (some 4), none⟩, ⟨some 9, .call (.c (.func (.func 90) #[] #[])) [.t 8], none⟩, ⟨some 10, .mk [.int .i64 0, .int .i64 0, .bool false, .bool false, .bool false, .bool false, .bool false, .bool false, .bool false, .bool false, .bool false, .bool false, .bool false, .bool false, .int .i64 0] [(0, 1, .t 5), (1, 1, .t 7), (2, 12, .t 9)], none⟩, ⟨some 3, .new [.int .i64 0, .int .i64 0, .bool false, .bool false, .bool false, .bool false, .bool false, .bool false, .bool false, .bool false, .bool false, .bool false, .bool false, .bool false, .int .i64 0], none⟩, ⟨none, .st (.t 3) (.t 10) 15, none⟩] [(1, 5), (3, 5)]) (.seq (.seq (.reg [⟨some 11, .fa (.t 1) 0, none⟩, ⟨some 12, .ld (.t 11) none, none⟩, ⟨some 13, .bin .eql (.t 12) (.c (.int .i64 9)), none⟩, ⟨some 14, .mv (.t 13), none⟩, ⟨some 15, .fa (.t 1) 0, some (14, false)⟩, ⟨some 16, .ld (.t 15) none, some (14, false)⟩, ⟨some 17, .bin .eql (.t 16) (.c (.int .i64 12)), some (14, false)⟩, ⟨some 18, .pick (.t 14) (.c (.bool true)) (.t 17), none⟩] []) (.cond (.t 18) (.reg [⟨some 19, .fa (.t 1) 1, none⟩, ⟨some 20, .ld (.t 19) none, none⟩, ⟨some 21, .fa (.t 1) 1, none⟩, ⟨some 22, .ld (.t 21) none, none⟩, ⟨some 23, .len (.t 22), none⟩, ⟨some 24, .bin .sub (.t 23) (.c (.int .i64 1)), none⟩, ⟨some 25, .iaS (.t 20) (.t 24) 1, none⟩, ⟨some 26, .ld (.t 25) none, none⟩, ⟨some 27, .fa (.t 3) 14, none⟩, ⟨none, .st (.t 27) (.t 26) 1, none⟩] []) .skip)) (.seq (.reg [⟨some 28, .ld (.t 3) (some 15), none⟩, ⟨none, .st (.t 2) (.t 28) 15, none⟩] []) .ret)))⟩
theorem k94 : tab Tryd.prog 87 = some kf94 := by kernel_rfl
def kf65 : KFunc := ⟨2, 21, [.tmp 4], .seq (.reg [⟨some 2, .box (.t 0), none⟩, ⟨some 3, .box (.t 1), none⟩, ⟨some 4, .mv (.c (.bool false)), none⟩] []) (.seq (.reg [⟨some 6, .ld (.t 3) (some 4), none⟩, ⟨some 7, .call (.c (.func (.func 87) #[] #[])) [.t 6], none⟩, ⟨some 5, .new [.int .i64 0, .int .i64 0, .bool false, .bool false, .bool false, .bool false, .bool false, .bool false, .bool false, .bool false, .bool false, .bool false, .bool false, .bool false, .int .i64 0], none⟩, ⟨none, .st (.t 5) (.t 7) 15, none⟩] []) (.seq (.reg [⟨some 8, .fa (.t 5) 0, none⟩, ⟨some 9, .ld (.t 8) none, none⟩, ⟨some 10, .call (.c (.func (.func 60) #[] #[])) [.t 9], none⟩, ⟨some 11, .fa (.t 5) 0, none⟩, ⟨none, .st (.t 11) (.t 10) 1, none⟩] []) (.seq (.reg [⟨some 12, .fa (.t 2) 0, none⟩, ⟨some 13, .ld (.t 12) none, none⟩, ⟨some 14, .bin .leq (.t 13) (.c (.int .i64 12)), none⟩, ⟨some 15, .mv (.t 14), none⟩, ⟨some 16, .ld (.t 2) (some 4), some (15, true)⟩, ⟨some 17, .call (.c (.func (.func 87) #[] #[])) [.t 16], some (15, true)⟩, ⟨some 18, .ld (.t 5) (some 15), some (15, true)⟩, ⟨some 19, .eqA false [1, 1, 0, 0, 0, 0, 0, 0, 0, 0, 0, 0, 0, 0, 1] (.t 17) (.t 18), some (15, true)⟩, ⟨some 20, .pick (.t 15) (.t 19) (.c (.bool false)), none⟩, ⟨some 4, .mv (.t 20), none⟩] [(5, 6)]) .ret)))⟩
theorem k65 : tab Tryd.prog 64 = some kf65 := by kernel_rfl
def opMap : CO := .map [{ key := .int .i64 5, val := .int .i64 6, born := 0 }, { key := .int .i64 6, val := .int .i64 5, born := 1 }, { key := .int .i64 7, val := .int .i64 8, born := 2 }, { key := .int .i64 8, val := .int .i64 7, born := 3 }] 4
theorem opposite_ret (H : Heap) : Ret (tab Tryd.prog) 84 [] H (.map (some (H.length + 0))) (H ++ [opMap]) := by
  refine Ret_own k104 rfl ?_
  refine AX_seq (AX_E (E_mv (v := .map none) rfl (E_nil (AX_seq (AX_E (E_mkM ?_))))))
  refine E_ins (k := 0) rfl rfl rfl rfl rfl rfl rfl (E_ins (k := 0) rfl rfl rfl rfl rfl rfl rfl (E_ins (k := 0) rfl rfl rfl rfl rfl rfl rfl (E_ins (k := 0) rfl rfl rfl rfl rfl rfl rfl ?_)))
  refine E_mv (v := .map _) rfl (E_mv (v := .map _) rfl (E_nil (AX_ret ?_)))
  refine ⟨_, rfl, by simp, ?_⟩
  exact ⟨rfl, forget_more rfl⟩
theorem undone_ret (H : Heap) (n : Int) : Ret (tab Tryd.prog) 60 [.int .i64 n] H (.int .i64 (oppM n)) H := by
  refine Ret_own k85 rfl ?_
  refine AX_seq (AX_E (E_mv (v := .int _ _) rfl (E_nil (AX_seq (AX_seq (AX_E (E_callX rfl (opposite_ret _) (E_mv (v := .int _ _) rfl ?_))))))))
  have hb : ((H ++ ([] ++ [opMap])) ++ [])[(H ++ []).length + 0]? = some opMap := by simp
  by_cases hn : n = 5 ∨ n = 6 ∨ n = 7 ∨ n = 8
  · have hf : ∃ j, findK 1 (.int .i64 n) [{ key := .int .i64 5, val := .int .i64 6, born := 0 }, { key := .int .i64 6, val := .int .i64 5, born := 1 }, { key := .int .i64 7, val := .int .i64 8, born := 2 }, { key := .int .i64 8, val := .int .i64 7, born := 3 }] 0 = some (some (j, .int .i64 (oppM n))) := by
      rcases hn with rfl | rfl | rfl | rfl
      · exact ⟨0, rfl⟩
      · exact ⟨1, rfl⟩
      · exact ⟨2, rfl⟩
      · exact ⟨3, rfl⟩
    obtain ⟨j, hf⟩ := hf
    refine E_lk rfl hb rfl rfl hf (E_mv (v := .tuple _) rfl (E_ext (v := .int _ _) rfl rfl (E_ext (v := .bool _) rfl rfl (E_mv (v := .int _ _) rfl (E_mv (v := .bool _) rfl (E_nil (AX_seq (AX_E (E_mv (v := .bool _) rfl (E_nil (AX_condT rfl (AX_seq (AX_E (E_mv (v := .int _ _) rfl (E_mv (v := .int _ _) rfl (E_nil (AX_ret ?_)))))))))))))))))
    exact ⟨_, rfl, by simp, rfl, forget_flat rfl ((List.prefix_append _ _).trans (List.prefix_append _ _))⟩
  · have hf : findK 1 (.int .i64 n) [{ key := .int .i64 5, val := .int .i64 6, born := 0 }, { key := .int .i64 6, val := .int .i64 5, born := 1 }, { key := .int .i64 7, val := .int .i64 8, born := 2 }, { key := .int .i64 8, val := .int .i64 7, born := 3 }] 0 = some none := by
      have h5 : (n == 5) = false := by simpa using fun e => hn (.inl e)
      have h6 : (n == 6) = false := by simpa using fun e => hn (.inr (.inl e))
      have h7 : (n == 7) = false := by simpa using fun e => hn (.inr (.inr (.inl e)))
      have h8 : (n == 8) = false := by simpa using fun e => hn (.inr (.inr (.inr e)))
      simp [findK, cellEq, h5, h6, h7, h8]
    have ho : oppM n = n := by unfold oppM; (repeat' split) <;> omega
    refine E_lk rfl hb rfl rfl hf (E_mv (v := .tuple _) rfl (E_ext (v := .int _ _) rfl rfl (E_ext (v := .bool _) rfl rfl (E_mv (v := .int _ _) rfl (E_mv (v := .bool _) rfl (E_nil (AX_seq (AX_E (E_mv (v := .bool _) rfl (E_nil (AX_condF rfl (AX_skip (AX_seq (AX_E (E_mv (v := .int _ _) rfl (E_mv (v := .int _ _) rfl (E_nil (AX_ret ?_))))))))))))))))))
    exact ⟨_, rfl, by simp, by rw [ho]; rfl, forget_flat rfl ((List.prefix_append _ _).trans (List.prefix_append _ _))⟩
def lastM (g : G) : Int := if g.k = 9 ∨ g.k = 12 then g.ws.getD (g.ws.length - 1) 0 else 0
abbrev dv (k f : Int) (u : Nat → Bool) (l : Int) : Value := .agg #[.int .i64 k, .int .i64 f, .bool (u 0), .bool (u 1), .bool (u 2), .bool (u 3), .bool (u 4), .bool (u 5), .bool (u 6), .bool (u 7), .bool (u 8), .bool (u 9), .bool (u 10), .bool (u 11), .int .i64 l]
theorem doing_ret (H : Heap) (g : G) (p : Pl) {S : Nat → Prop} (hv : Ints S H p g.ws) (hg : GR g) : Ret (tab Tryd.prog) 87 [gv g p] H (dv g.k g.f (ofM g.ws) (lastM g)) H := by
  have hl := hg.len
  have el := getD_at (l := g.ws) (j := g.ws.length - 1) (by omega)
  refine Ret_own k94 rfl ?_
  refine AX_seq (AX_E (E_boxA rfl (E_new (E_nil (AX_seq (AX_E (E_fa rfl (E_ldO (k := 0) (v := .int .i64 (g.k)) rfl rfl (E_fa rfl (E_ldO (k := 0) (v := .int .i64 (g.f)) rfl rfl (E_ldON (k := 0) rfl rfl (E_callV rfl (of_ret _ g _ hv.app (by assumption)) (E_mk (cs := [.int .i64 (g.k), .int .i64 (g.f), .bool ((ofM g.ws) 0), .bool ((ofM g.ws) 1), .bool ((ofM g.ws) 2), .bool ((ofM g.ws) 3), .bool ((ofM g.ws) 4), .bool ((ofM g.ws) 5), .bool ((ofM g.ws) 6), .bool ((ofM g.ws) 7), .bool ((ofM g.ws) 8), .bool ((ofM g.ws) 9), .bool ((ofM g.ws) 10), .bool ((ofM g.ws) 11), .int .i64 (0)]) rfl (E_new (E_stO (k := 2) rfl rfl (v := .agg _) rfl rfl rfl rfl (E_nil (AX_seq (AX_seq (AX_E (E_fa rfl (E_ldO (k := 0) (v := .int .i64 (g.k)) rfl rfl (E_eqlS rfl rfl (fun c13 => ?_) (fun c13 => ?_)))))))))))))))))))))))
  · refine E_mv (v := .bool _) rfl (E_notF rfl (E_notF rfl (E_notF rfl (E_pickT rfl (v := .bool _) rfl (E_nil (AX_condT rfl (AX_E (E_fa rfl (E_ldO (k := 0) (v := .slice _ _ _) rfl rfl (E_fa rfl (E_ldO (k := 0) (v := .slice _ _ _) rfl rfl (E_len (n := (g.ws).length) rfl (E_subI rfl rfl (by first | omega | (simp; done) | (simp; omega)) (by first | omega | (simp; done) | (simp; omega)) (have ix1 : g.ws.length - 1 < (g.ws).length := (by first | omega | (simp; done) | (simp; omega)); E_iaIb (j := g.ws.length - 1) rfl hv rfl rfl (by first | rfl | omega) ix1 fun b1 o1 w1 => (E_ldB (v := .int .i64 (g.ws[g.ws.length - 1]'ix1)) rfl w1 (E_fa rfl (E_stO (k := 2) rfl rfl (v := .int .i64 (g.ws[g.ws.length - 1]'ix1)) rfl rfl rfl rfl (E_nil (AX_seq (AX_E (E_ldON (k := 2) rfl rfl (E_stO (k := 1) rfl rfl (v := .agg _) rfl rfl rfl rfl (E_nil (AX_ret ?_))))))))))))))))))))))))
    refine ⟨_, (res1 (res_cellN (k := 1) rfl rfl)), by simp, ?_, forget_flat rfl (List.prefix_append _ _)⟩
    -- r1
    first | (rw [lastM, if_pos (by omega), ← el]; rfl) | (rw [lastM, if_neg (by omega)]; rfl)
  · refine E_mv (v := .bool _) rfl (E_on rfl (E_fa rfl (E_on rfl (E_ldO (k := 0) (v := .int .i64 (g.k)) rfl rfl (E_on rfl (E_eqlS rfl rfl (fun c17 => ?_) (fun c17 => ?_)))))))
    · refine E_pickF rfl (v := .bool _) rfl (E_nil (AX_condT rfl (AX_E (E_fa rfl (E_ldO (k := 0) (v := .slice _ _ _) rfl rfl (E_fa rfl (E_ldO (k := 0) (v := .slice _ _ _) rfl rfl (E_len (n := (g.ws).length) rfl (E_subI rfl rfl (by first | omega | (simp; done) | (simp; omega)) (by first | omega | (simp; done) | (simp; omega)) (have ix2 : g.ws.length - 1 < (g.ws).length := (by first | omega | (simp; done) | (simp; omega)); E_iaIb (j := g.ws.length - 1) rfl hv rfl rfl (by first | rfl | omega) ix2 fun b2 o2 w2 => (E_ldB (v := .int .i64 (g.ws[g.ws.length - 1]'ix2)) rfl w2 (E_fa rfl (E_stO (k := 2) rfl rfl (v := .int .i64 (g.ws[g.ws.length - 1]'ix2)) rfl rfl rfl rfl (E_nil (AX_seq (AX_E (E_ldON (k := 2) rfl rfl (E_stO (k := 1) rfl rfl (v := .agg _) rfl rfl rfl rfl (E_nil (AX_ret ?_))))))))))))))))))))
      refine ⟨_, (res1 (res_cellN (k := 1) rfl rfl)), by simp, ?_, forget_flat rfl (List.prefix_append _ _)⟩
      -- r2
      first | (rw [lastM, if_pos (by omega), ← el]; rfl) | (rw [lastM, if_neg (by omega)]; rfl)
    · refine E_pickF rfl (v := .bool _) rfl (E_nil (AX_condF rfl (AX_skip (AX_seq (AX_E (E_ldON (k := 2) rfl rfl (E_stO (k := 1) rfl rfl (v := .agg _) rfl rfl rfl rfl (E_nil (AX_ret ?_)))))))))
      refine ⟨_, (res1 (res_cellN (k := 1) rfl rfl)), by simp, ?_, forget_flat rfl (List.prefix_append _ _)⟩
      -- r3
      first | (rw [lastM, if_pos (by omega), ← el]; rfl) | (rw [lastM, if_neg (by omega)]; rfl)
theorem dv_eq {k f l k' f' l' : Int} {u u' : Nat → Bool} [Decidable (k = k' ∧ f = f' ∧ (∀ i, i < 12 → u i = u' i) ∧ l = l')] : cellsEq [1, 1, 0, 0, 0, 0, 0, 0, 0, 0, 0, 0, 0, 0, 1] [.int .i64 k, .int .i64 f, .bool (u 0), .bool (u 1), .bool (u 2), .bool (u 3), .bool (u 4), .bool (u 5), .bool (u 6), .bool (u 7), .bool (u 8), .bool (u 9), .bool (u 10), .bool (u 11), .int .i64 l] [.int .i64 k', .int .i64 f', .bool (u' 0), .bool (u' 1), .bool (u' 2), .bool (u' 3), .bool (u' 4), .bool (u' 5), .bool (u' 6), .bool (u' 7), .bool (u' 8), .bool (u' 9), .bool (u' 10), .bool (u' 11), .int .i64 l'] = some (decide (k = k' ∧ f = f' ∧ (∀ i, i < 12 → u i = u' i) ∧ l = l')) := by
  have : (∀ i, i < 12 → u i = u' i) ↔ u 0 = u' 0 ∧ u 1 = u' 1 ∧ u 2 = u' 2 ∧ u 3 = u' 3 ∧ u 4 = u' 4 ∧ u 5 = u' 5 ∧ u 6 = u' 6 ∧ u 7 = u' 7 ∧ u 8 = u' 8 ∧ u 9 = u' 9 ∧ u 10 = u' 10 ∧ u 11 = u' 11 := by
    constructor
    · intro H; exact ⟨H 0 (by decide), H 1 (by decide), H 2 (by decide), H 3 (by decide), H 4 (by decide), H 5 (by decide), H 6 (by decide), H 7 (by decide), H 8 (by decide), H 9 (by decide), H 10 (by decide), H 11 (by decide)⟩
    · rintro ⟨h0, h1, h2, h3, h4, h5, h6, h7, h8, h9, h10, h11⟩ j hj
      have : j = 0 ∨ j = 1 ∨ j = 2 ∨ j = 3 ∨ j = 4 ∨ j = 5 ∨ j = 6 ∨ j = 7 ∨ j = 8 ∨ j = 9 ∨ j = 10 ∨ j = 11 := by omega
      rcases this with h | h | h | h | h | h | h | h | h | h | h | h <;> subst h <;> assumption
  simp only [cellsEq, cellEq, Option.some.injEq, if_true]
  rw [Bool.eq_iff_iff, decide_eq_true_iff, this]
  simp [and_assoc]
def pundoM (g h : G) : Prop := g.k ≤ 12 ∧ g.k = oppM h.k ∧ g.f = h.f ∧ (∀ i, i < 12 → ofM g.ws i = ofM h.ws i) ∧ lastM g = lastM h
open Classical in
theorem pundo_ret0 (H : Heap) (g h : G) (p q : Pl) {S S' : Nat → Prop} (hv : Ints S H p g.ws) (hu : Ints S' H q h.ws) (hg : GR g) (hh : GR h) : Ret (tab Tryd.prog) 64 [gv g p, gv h q] H (.bool (decide (pundoM g h))) H := by
  refine Ret_own k65 rfl ?_
  refine AX_seq (AX_E (E_boxA rfl (E_boxA rfl (E_mv (v := .bool _) rfl (E_nil (AX_seq (AX_E (E_ldON (k := 1) rfl rfl (E_callV rfl (doing_ret _ h _ hu.app (by assumption)) (E_new (E_stO (k := 2) rfl rfl (v := .agg _) rfl rfl rfl rfl (E_nil (AX_seq (AX_E (E_fa rfl (E_ldO (k := 2) (v := .int .i64 (h.k)) rfl rfl (E_callV rfl (undone_ret _ _) (E_fa rfl (E_stO (k := 2) rfl rfl (v := .int .i64 (oppM (h.k))) rfl rfl rfl rfl (E_nil (AX_seq (AX_E (E_fa rfl (E_ldO (k := 0) (v := .int .i64 (g.k)) rfl rfl (E_leqS rfl rfl (fun c14 => ?_) (fun c14 => ?_))))))))))))))))))))))))))
  · refine E_mv (v := .bool _) rfl (E_on rfl (E_ldON (k := 0) rfl rfl (E_on rfl (E_callV rfl (doing_ret _ g _ hv.app (by assumption)) (E_on rfl (E_ldON (k := 2) rfl rfl (E_on rfl (E_eqAP rfl rfl (dv_eq (u := ofM g.ws) (u' := ofM h.ws)) (fun c19 => ?_) (fun c19 => ?_)))))))))
    · refine E_pickT rfl (v := .bool _) rfl (E_mv (v := .bool _) rfl (E_nil (AX_ret ?_)))
      refine ⟨_, rfl, by simp, ?_, forget_flat rfl (List.prefix_append _ _)⟩
      -- r1
      refine congrArg (Value.bool) ?_
      refine (decide_eq_true ?_).symm
      first | exact ⟨c14, c19⟩ | exact fun x => c19 x.2 | exact fun x => c14 x.1
    · refine E_pickT rfl (v := .bool _) rfl (E_mv (v := .bool _) rfl (E_nil (AX_ret ?_)))
      refine ⟨_, rfl, by simp, ?_, forget_flat rfl (List.prefix_append _ _)⟩
      -- r2
      refine congrArg (Value.bool) ?_
      refine (decide_eq_false ?_).symm
      first | exact ⟨c14, c19⟩ | exact fun x => c19 x.2 | exact fun x => c14 x.1
  · refine E_mv (v := .bool _) rfl (E_notT rfl (E_notT rfl (E_notT rfl (E_notT rfl (E_pickF rfl (v := .bool _) rfl (E_mv (v := .bool _) rfl (E_nil (AX_ret ?_))))))))
    refine ⟨_, rfl, by simp, ?_, forget_flat rfl (List.prefix_append _ _)⟩
    -- r3
    refine congrArg (Value.bool) ?_
    refine (decide_eq_false ?_).symm
    first | exact ⟨c14, c19⟩ | exact fun x => c19 x.2 | exact fun x => c14 x.1
end Go.Canon
namespace Go.Canon
open Go Go.Proofs
set_option linter.unusedVariables false
set_option linter.unusedSimpArgs false
theorem shape1 {g : G} (hg : GR g) (hk : arityM g.k = 1) : ∃ a, g.ws = [a] := by
  have h1 := hg.ar
  match hw : g.ws with
  | [a] => exact ⟨a, rfl⟩
  | [] => rw [hw, hk] at h1; simp at h1
  | a :: b :: t => rw [hw, hk] at h1; simp only [List.length_cons] at h1; omega
theorem shape2 {g : G} (hg : GR g) (hk : arityM g.k = 2) : ∃ a b, g.ws = [a, b] ∧ a ≠ b := by
  have h1 := hg.ar
  have h3 := hg.nd
  match hw : g.ws with
  | [a, b] => rw [hw] at h3; exact ⟨a, b, rfl, by simpa using h3⟩
  | [] => rw [hw, hk] at h1; simp at h1
  | [a] => rw [hw, hk] at h1; simp at h1
  | a :: b :: c :: t => rw [hw, hk] at h1; simp only [List.length_cons] at h1; omega
theorem shape3 {g : G} (hg : GR g) (hk : arityM g.k = 3) : ∃ a b c, g.ws = [a, b, c] ∧ a ≠ b ∧ a ≠ c ∧ b ≠ c := by
  have h1 := hg.ar
  have h3 := hg.nd
  match hw : g.ws with
  | [a, b, c] => rw [hw] at h3; exact ⟨a, b, c, rfl, by simp at h3; omega⟩
  | [] => rw [hw, hk] at h1; simp at h1
  | [a] => rw [hw, hk] at h1; simp at h1
  | [a, b] => rw [hw, hk] at h1; simp at h1
  | a :: b :: c :: d :: t => rw [hw, hk] at h1; simp only [List.length_cons] at h1; omega
theorem opp_opp {a b : Int} : a = oppM b ↔ b = oppM a := by unfold oppM; (repeat' split) <;> omega
theorem opp_ar (a : Int) : arityM (oppM a) = arityM a := by unfold oppM arityM; (repeat' split) <;> omega
theorem pundo_iff {g h : G} (hg : GR g) (hh : GR h) : pundoM g h ↔ undoM g h := by
  unfold pundoM undoM
  rw [of_eq hg hh, opp_opp]
  by_cases hk : h.k = oppM g.k
  · by_cases h12 : g.k ≤ 12
    · have hkk := hg.kind
      have ha : arityM h.k = arityM g.k := by rw [hk, opp_ar]
      by_cases c1 : g.k = 10 ∨ g.k = 11
      · have hh' : h.k = g.k := by rw [hk]; unfold oppM; (repeat' split) <;> omega
        rw [if_pos c1, alike_iff hg hh c1 (by omega)]
        have l1 : lastM g = 0 := by rw [lastM, if_neg (by omega)]
        have l2 : lastM h = 0 := by rw [lastM, if_neg (by omega)]
        rw [l1, l2]
        constructor
        · rintro ⟨a, b, c, d, _⟩; exact ⟨c, by omega, b, d⟩
        · rintro ⟨a, b, c, d⟩; exact ⟨by omega, c, a, d, rfl⟩
      · rw [if_neg c1]
        by_cases c2 : g.k = 12
        · have hh' : h.k = g.k := by rw [hk]; unfold oppM; (repeat' split) <;> omega
          obtain ⟨a, b, c, e1, n1⟩ := shape3 hg (by rw [c2]; rfl)
          obtain ⟨a', b', c', e2, n2⟩ := shape3 hh (by rw [hh', c2]; rfl)
          rw [if_pos c2]
          have l1 : lastM g = c := by rw [lastM, if_pos (by omega), e1]; rfl
          have l2 : lastM h = c' := by rw [lastM, if_pos (by omega), e2]; rfl
          rw [l1, l2]
          simp only [alikeM, e1, e2, List.mem_cons, List.not_mem_nil, or_false, List.getD_cons_zero, List.getD_cons_succ]
          constructor
          · rintro ⟨_, x, y, z, w⟩
            exact ⟨y, by omega, x, w, (z a).1 (.inl rfl), (z b).1 (.inr (.inl rfl))⟩
          · rintro ⟨x, y, z, w, u, v⟩
            exact ⟨h12, z, x, fun t => by omega, w⟩
        · rw [if_neg c2]
          have cases : arityM g.k = 1 ∧ g.k ≠ 9 ∨ g.k = 9 := by unfold arityM; (repeat' split) <;> omega
          rcases cases with ⟨h1, h9⟩ | h9
          · have h9' : h.k ≠ 9 ∧ h.k ≠ 12 := by rw [hk]; unfold oppM; (repeat' split) <;> omega
            obtain ⟨a, e1⟩ := shape1 hg h1
            obtain ⟨b, e2⟩ := shape1 hh (by rw [ha, h1])
            have l1 : lastM g = 0 := by rw [lastM, if_neg (by omega)]
            have l2 : lastM h = 0 := by rw [lastM, if_neg (by omega)]
            rw [l1, l2, e1, e2]
            simp only [List.mem_cons, List.not_mem_nil, or_false, List.cons.injEq, and_true]
            constructor
            · rintro ⟨_, x, y, z⟩
              exact ⟨y, by omega, x, (z a).1 rfl⟩
            · rintro ⟨x, y, z, w⟩
              exact ⟨h12, z, x, fun t => by rw [w]⟩
          · have hh' : h.k = g.k := by rw [hk]; unfold oppM; (repeat' split) <;> omega
            obtain ⟨a, b, e1, n1⟩ := shape2 hg (by rw [h9]; rfl)
            obtain ⟨a', b', e2, n2⟩ := shape2 hh (by rw [hh', h9]; rfl)
            have l1 : lastM g = b := by rw [lastM, if_pos (by omega), e1]; rfl
            have l2 : lastM h = b' := by rw [lastM, if_pos (by omega), e2]; rfl
            rw [l1, l2, e1, e2]
            simp only [List.mem_cons, List.not_mem_nil, or_false, List.cons.injEq, and_true]
            constructor
            · rintro ⟨_, x, y, z, w⟩
              have := (z a).1 (.inl rfl)
              exact ⟨y, by omega, x, by omega, w⟩
            · rintro ⟨x, y, z, w, v⟩
              exact ⟨h12, z, x, fun t => by rw [w, v], v⟩
    · constructor
      · rintro ⟨x, _⟩; exact (h12 x).elim
      · rintro ⟨_, x, _⟩; exact (h12 (by omega)).elim
  · constructor
    · rintro ⟨_, x, _⟩; exact (hk x).elim
    · rintro ⟨_, _, x, _⟩; exact (hk x).elim
theorem pundo_symm {g h : G} (hg : GR g) (hh : GR h) : pundoM g h → pundoM h g := by
  rintro ⟨a, b, c, d, e⟩
  have := hh.kind
  refine ⟨?_, opp_opp.1 b, c.symm, fun i hi => (d i hi).symm, e.symm⟩
  unfold oppM at b
  (repeat' split at b) <;> omega
theorem undo_symm {g h : G} (hg : GR g) (hh : GR h) : undoM g h ↔ undoM h g := by
  rw [← pundo_iff hg hh, ← pundo_iff hh hg]
  exact ⟨pundo_symm hg hh, pundo_symm hh hg⟩
theorem touch_symm {g h : G} : touchM g h ↔ touchM h g := by unfold touchM; omega
theorem meet_symm {g h : G} : meetM g h ↔ meetM h g := by
  unfold meetM
  rw [touch_symm]
  constructor
  · rintro (⟨x, a, b⟩ | x)
    · exact .inl ⟨x, b, a⟩
    · exact .inr x
  · rintro (⟨x, a, b⟩ | x)
    · exact .inl ⟨x, b, a⟩
    · exact .inr x
theorem comm_symm {g h : G} (hg : GR g) (hh : GR h) : commM g h ↔ commM h g := by
  unfold commM
  rw [meet_symm (g := g), touch_symm (g := g)]
  by_cases c : (g.k = 11 ∧ (h.k = 10 ∨ h.k = 11)) ∨ (h.k = 11 ∧ g.k = 10)
  · rw [if_pos c, if_pos (by omega), ← alike_iff hg hh (by omega) (by omega), ← alike_iff hh hg (by omega) (by omega)]
    constructor
    · rintro (x | ⟨x, y⟩)
      · exact .inl x
      · exact .inr ⟨x, fun z => (y z).symm⟩
    · rintro (x | ⟨x, y⟩)
      · exact .inl x
      · exact .inr ⟨x, fun z => (y z).symm⟩
  · rw [if_neg c, if_neg (by omega)]
    constructor
    · rintro (x | ⟨x, y⟩)
      · exact .inl x
      · exact .inr ⟨x, fun z a b => ⟨(y z b a).2 ▸ (y z b a).1, (y z b a).2.symm⟩⟩
    · rintro (x | ⟨x, y⟩)
      · exact .inl x
      · exact .inr ⟨x, fun z a b => ⟨(y z b a).2 ▸ (y z b a).1, (y z b a).2.symm⟩⟩
theorem pundo_ret (H : Heap) (g h : G) (p q : Pl) {S S' : Nat → Prop} (hv : Ints S H p g.ws) (hu : Ints S' H q h.ws) (hg : GR g) (hh : GR h) : Ret (tab Tryd.prog) 64 [gv g p, gv h q] H (.bool (decide (undoM g h))) H := by
  have := pundo_ret0 H g h p q hv hu hg hh
  rwa [decide_eq_decide.2 (pundo_iff hg hh)] at this
end Go.Canon
namespace Go.Canon
open Go Go.Proofs
set_option linter.unusedVariables false
set_option linter.unusedSimpArgs false
def kf63 : KFunc := ⟨3, 49, [.cell 6 (some 4), .cell 7 (some 4), .tmp 8], .seq (.reg [⟨some 3, .box (.t 0), none⟩, ⟨some 6, .new [.int .i64 0, .slice none 0 0, .int .i64 0, .int .i64 0], none⟩, ⟨some 7, .new [.int .i64 0, .slice none 0 0, .int .i64 0, .int .i64 0], none⟩, ⟨some 8, .mv (.c (.int .i64 0)), none⟩] []) (.seq (.seq (.reg [⟨some 10, .ld (.t 3) (some 3), none⟩, ⟨some 11, .call (.c (.func (.func 62) #[] #[])) [.t 10], none⟩, ⟨some 9, .mv (.t 11), none⟩] []) (.seq (.reg [⟨some 12, .mv (.t 9), none⟩, ⟨some 13, .bin .neq (.t 12) (.c (.int .i64 0)), none⟩] []) (.cond (.t 13) (.seq (.reg [⟨some 14, .ld (.t 6) (some 4), none⟩, ⟨some 15, .ld (.t 7) (some 4), none⟩, ⟨some 16, .mv (.t 9), none⟩, ⟨none, .st (.t 6) (.t 14) 4, none⟩, ⟨none, .st (.t 7) (.t 15) 4, none⟩, ⟨some 8, .mv (.t 16), none⟩] [(1, 3)]) .ret) .skip))) (.seq (.seq (.reg [⟨some 17, .mv (.t 1), none⟩, ⟨some 18, .bin .lss (.t 17) (.c (.int .i64 0)), none⟩, ⟨some 19, .mv (.t 18), none⟩, ⟨some 20, .mv (.t 2), some (19, false)⟩, ⟨some 21, .bin .lss (.t 20) (.c (.int .i64 0)), some (19, false)⟩, ⟨some 22, .pick (.t 19) (.c (.bool true)) (.t 21), none⟩, ⟨some 23, .mv (.t 22), none⟩, ⟨some 24, .mv (.t 1), some (23, false)⟩, ⟨some 25, .fa (.t 3) 2, some (23, false)⟩, ⟨some 26, .ld (.t 25) none, some (23, false)⟩, ⟨some 27, .len (.t 26), some (23, false)⟩, ⟨some 28, .bin .geq (.t 24) (.t 27), some (23, false)⟩, ⟨some 29, .pick (.t 23) (.c (.bool true)) (.t 28), none⟩, ⟨some 30, .mv (.t 29), none⟩, ⟨some 31, .mv (.t 2), some (30, false)⟩, ⟨some 32, .fa (.t 3) 2, some (30, false)⟩, ⟨some 33, .ld (.t 32) none, some (30, false)⟩, ⟨some 34, .len (.t 33), some (30, false)⟩, ⟨some 35, .bin .geq (.t 31) (.t 34), some (30, false)⟩, ⟨some 36, .pick (.t 30) (.c (.bool true)) (.t 35), none⟩] []) (.cond (.t 36) (.seq (.reg [⟨some 37, .ld (.t 6) (some 4), none⟩, ⟨some 38, .ld (.t 7) (some 4), none⟩, ⟨none, .st (.t 6) (.t 37) 4, none⟩, ⟨none, .st (.t 7) (.t 38) 4, none⟩, ⟨some 8, .mv (.c (.int .i64 1)), none⟩] [(1, 2)]) .ret) .skip)) (.seq (.reg [⟨some 39, .fa (.t 3) 2, none⟩, ⟨some 40, .ld (.t 39) none, none⟩, ⟨some 41, .mv (.t 1), none⟩, ⟨some 42, .iaS (.t 40) (.t 41) 4, none⟩, ⟨some 43, .ld (.t 42) (some 4), none⟩, ⟨some 44, .fa (.t 3) 2, none⟩, ⟨some 45, .ld (.t 44) none, none⟩, ⟨some 46, .mv (.t 2), none⟩, ⟨some 47, .iaS (.t 45) (.t 46) 4, none⟩, ⟨some 48, .ld (.t 47) (some 4), none⟩, ⟨none, .st (.t 6) (.t 43) 4, none⟩, ⟨none, .st (.t 7) (.t 48) 4, none⟩, ⟨some 8, .mv (.c (.int .i64 0)), none⟩] [(6, 10), (9, 10)]) .ret)))⟩
theorem k63 : tab Tryd.prog 70 = some kf63 := by kernel_rfl
def kf15 : KFunc := ⟨3, 25, [.tmp 6, .tmp 7], .seq (.reg [⟨some 3, .box (.t 0), none⟩, ⟨some 6, .mv (.c (.bool false)), none⟩, ⟨some 7, .mv (.c (.int .i64 0)), none⟩] []) (.seq (.reg [⟨some 12, .ld (.t 3) (some 3), none⟩, ⟨some 13, .mv (.t 1), none⟩, ⟨some 14, .mv (.t 2), none⟩, ⟨some 15, .call (.c (.func (.func 70) #[] #[])) [.t 12, .t 13, .t 14], none⟩, ⟨some 11, .mv (.t 15), none⟩, ⟨some 16, .ext (.t 11) 0, none⟩, ⟨some 17, .ext (.t 11) 1, none⟩, ⟨some 18, .ext (.t 11) 2, none⟩, ⟨some 8, .new [.int .i64 0, .slice none 0 0, .int .i64 0, .int .i64 0], none⟩, ⟨some 9, .new [.int .i64 0, .slice none 0 0, .int .i64 0, .int .i64 0], none⟩, ⟨none, .st (.t 8) (.t 16) 4, none⟩, ⟨none, .st (.t 9) (.t 17) 4, none⟩, ⟨some 10, .mv (.t 18), none⟩] []) (.seq (.seq (.reg [⟨some 19, .mv (.t 10), none⟩, ⟨some 20, .bin .neq (.t 19) (.c (.int .i64 0)), none⟩] []) (.cond (.t 20) (.seq (.reg [⟨some 21, .mv (.t 10), none⟩, ⟨some 6, .mv (.c (.bool false)), none⟩, ⟨some 7, .mv (.t 21), none⟩] []) .ret) .skip)) (.seq (.reg [⟨some 22, .ld (.t 8) (some 4), none⟩, ⟨some 23, .ld (.t 9) (some 4), none⟩, ⟨some 24, .call (.c (.func (.func 65) #[] #[])) [.t 22, .t 23], none⟩, ⟨some 6, .mv (.t 24), none⟩, ⟨some 7, .mv (.c (.int .i64 0)), none⟩] []) .ret)))⟩
theorem k15 : tab Tryd.prog 28 = some kf15 := by kernel_rfl
def twoE (c : C) (i j : Int) : Int := if checkM c ≠ 0 then checkM c else if i < 0 ∨ j < 0 ∨ (c.gs.length : Int) ≤ i ∨ (c.gs.length : Int) ≤ j then 1 else 0
def twoG (c : C) (i j n : Int) : G := if twoE c i j = 0 then c.gs.getD n.toNat default else ⟨0, [], 0, 0⟩
theorem getG_at {l : List G} {j : Nat} (hj : j < l.length) : l.getD j default = l[j] := by simp [List.getD, hj]
theorem two_ret (H : Heap) (c : C) (p : Pl) (i j : Int) {S : Nat → Prop} (hv : Gates S H p c.gs) (hl : c.gs.length < 4611686018427387904) :
    ∃ X q1 q2, Ret (tab Tryd.prog) 70 [cv c p, .int .i64 i, .int .i64 j] H (.tuple #[gv (twoG c i j i) q1, gv (twoG c i j j) q2, .int .i64 (twoE c i j)]) (H ++ X) ∧ Ints S H q1 (twoG c i j i).ws ∧ Ints S H q2 (twoG c i j j).ws := by
  have key := Ret_grow (T := tab Tryd.prog) (f := 70) (args := [cv c p, .int .i64 i, .int .i64 j]) (h := H) (fun u _ => ∃ q1 q2, u = .tuple #[gv (twoG c i j i) q1, gv (twoG c i j j) q2, .int .i64 (twoE c i j)] ∧ Ints S H q1 (twoG c i j i).ws ∧ Ints S H q2 (twoG c i j j).ws) k63 rfl ?_
  · obtain ⟨u, X, hr, q1, q2, rfl, f1, f2⟩ := key
    exact ⟨X, q1, q2, hr, f1, f2⟩
  refine AX_seq (AX_E (E_boxA rfl (E_new (E_new (E_mv (v := .int .i64 (0)) rfl (E_nil (AX_seq (AX_seq (AX_E (E_ldON (k := 0) rfl rfl (E_callV rfl (pcheck_ret _ c _ hv.app (by first | omega | (simp; done) | (simp; omega))) (E_mv (v := .int .i64 (checkM c)) rfl (E_nil (AX_seq (AX_E (E_mv (v := .int .i64 (checkM c)) rfl (E_neqS rfl rfl (fun c13 => ?_) (fun c13 => ?_))))))))))))))))))
  · refine E_nil (AX_condT rfl (AX_seq (AX_EB (fun b => b = (H).length + 1) (E_ldON (k := 1) rfl rfl (E_ldON (k := 2) rfl rfl (E_mv (v := .int .i64 (checkM c)) rfl (E_stP (k := 1) (by first | rfl | exact .inl rfl | exact .inr rfl | exact .inr (.inr rfl)) (by decide) rfl (v := .agg _) rfl rfl rfl rfl (E_stO (k := 2) rfl rfl (v := .agg _) rfl rfl rfl rfl (E_mv (v := .int .i64 (checkM c)) rfl (E_nil (AX_ret ?_)))))))))))
    refine ⟨_, (res3 (res_cellN (k := 1) rfl rfl) (res_cellN (k := 2) rfl rfl) (res_tmp rfl)), by simp, (forget_any (List.prefix_append _ _)).imp fun X e => ⟨e, ?_⟩⟩
    -- r1
    have e0 : twoE c i j = checkM c := by unfold twoE; (repeat' split) <;> omega
    have e1 : twoE c i j ≠ 0 := by omega
    simp only [twoG, if_neg e1]
    exact ⟨(none, 0), (none, 0), by rw [e0]; rfl, Ints.nil, Ints.nil⟩
  · refine E_nil (AX_condF rfl (AX_skip ?_))
    refine AX_cut (X := Unit) (fun _ => [(1, .int .i64 (i)), (2, .int .i64 (j)), (3, .pointer (some ⟨(H).length + 0, 0, none⟩)), (6, .pointer (some ⟨(H).length + 1, 0, none⟩)), (7, .pointer (some ⟨(H).length + 2, 0, none⟩))]) (fun _ h_ m_ => h_ = H ++ [CO.row [.int .i64 (c.w), .int .i64 (c.b), .slice (p).1 (c.gs).length (p).2] true none, CO.row [.int .i64 (0), .slice none 0 0, .int .i64 (0), .int .i64 (0)] true none, CO.row [.int .i64 (0), .slice none 0 0, .int .i64 (0), .int .i64 (0)] true none] ∧ m_ = [] ∧ ¬ (i < 0 ∨ j < 0 ∨ (c.gs.length : Int) ≤ i ∨ (c.gs.length : Int) ≤ j)) ?_ ?_
    · intro Kc36 hNc36 hRc36 hEc36
      refine AX_seq (AX_E (E_mv (v := .int .i64 (i)) rfl (E_lssS rfl rfl (fun c18 => ?_) (fun c18 => ?_))))
      · refine E_mv (v := .bool _) rfl (E_notF rfl (E_notF rfl (E_pickT rfl (v := .bool _) rfl (E_mv (v := .bool _) rfl (E_notF rfl (E_notF rfl (E_notF rfl (E_notF rfl (E_notF rfl (E_pickT rfl (v := .bool _) rfl (E_mv (v := .bool _) rfl (E_notF rfl (E_notF rfl (E_notF rfl (E_notF rfl (E_notF rfl (E_pickT rfl (v := .bool _) rfl (E_nil (AX_condT rfl (AX_seq (AX_EB (fun b => b = (H).length + 1) (E_ldON (k := 1) rfl rfl (E_ldON (k := 2) rfl rfl (E_stP (k := 1) (by first | rfl | exact .inl rfl | exact .inr rfl | exact .inr (.inr rfl)) (by decide) rfl (v := .agg _) rfl rfl rfl rfl (E_stO (k := 2) rfl rfl (v := .agg _) rfl rfl rfl rfl (E_mv (v := .int .i64 (1)) rfl (E_nil (AX_ret (hRc36 _ _ _ ?_)))))))))))))))))))))))))))))
        refine ⟨_, (res3 (res_cellN (k := 1) rfl rfl) (res_cellN (k := 2) rfl rfl) (res_tmp rfl)), by simp, (forget_any (List.prefix_append _ _)).imp fun X e => ⟨e, ?_⟩⟩
        -- r2
        have e0 : twoE c i j = 1 := by unfold twoE; (repeat' split) <;> omega
        have e1 : twoE c i j ≠ 0 := by omega
        simp only [twoG, if_neg e1]
        exact ⟨(none, 0), (none, 0), by rw [e0]; rfl, Ints.nil, Ints.nil⟩
      · refine E_mv (v := .bool _) rfl (E_on rfl (E_mv (v := .int .i64 (j)) rfl (E_on rfl (E_lssS rfl rfl (fun c21 => ?_) (fun c21 => ?_)))))
        · refine E_pickF rfl (v := .bool _) rfl (E_mv (v := .bool _) rfl (E_notF rfl (E_notF rfl (E_notF rfl (E_notF rfl (E_notF rfl (E_pickT rfl (v := .bool _) rfl (E_mv (v := .bool _) rfl (E_notF rfl (E_notF rfl (E_notF rfl (E_notF rfl (E_notF rfl (E_pickT rfl (v := .bool _) rfl (E_nil (AX_condT rfl (AX_seq (AX_EB (fun b => b = (H).length + 1) (E_ldON (k := 1) rfl rfl (E_ldON (k := 2) rfl rfl (E_stP (k := 1) (by first | rfl | exact .inl rfl | exact .inr rfl | exact .inr (.inr rfl)) (by decide) rfl (v := .agg _) rfl rfl rfl rfl (E_stO (k := 2) rfl rfl (v := .agg _) rfl rfl rfl rfl (E_mv (v := .int .i64 (1)) rfl (E_nil (AX_ret (hRc36 _ _ _ ?_))))))))))))))))))))))))))
          refine ⟨_, (res3 (res_cellN (k := 1) rfl rfl) (res_cellN (k := 2) rfl rfl) (res_tmp rfl)), by simp, (forget_any (List.prefix_append _ _)).imp fun X e => ⟨e, ?_⟩⟩
          -- r3
          have e0 : twoE c i j = 1 := by unfold twoE; (repeat' split) <;> omega
          have e1 : twoE c i j ≠ 0 := by omega
          simp only [twoG, if_neg e1]
          exact ⟨(none, 0), (none, 0), by rw [e0]; rfl, Ints.nil, Ints.nil⟩
        · refine E_pickF rfl (v := .bool _) rfl (E_mv (v := .bool _) rfl (E_on rfl (E_mv (v := .int .i64 (i)) rfl (E_on rfl (E_fa rfl (E_on rfl (E_ldO (k := 0) (v := .slice _ _ _) rfl rfl (E_on rfl (E_len (n := (c.gs).length) rfl (E_on rfl (E_geqS rfl rfl (fun c28 => ?_) (fun c28 => ?_))))))))))))
          · refine E_pickF rfl (v := .bool _) rfl (E_mv (v := .bool _) rfl (E_notF rfl (E_notF rfl (E_notF rfl (E_notF rfl (E_notF rfl (E_pickT rfl (v := .bool _) rfl (E_nil (AX_condT rfl (AX_seq (AX_EB (fun b => b = (H).length + 1) (E_ldON (k := 1) rfl rfl (E_ldON (k := 2) rfl rfl (E_stP (k := 1) (by first | rfl | exact .inl rfl | exact .inr rfl | exact .inr (.inr rfl)) (by decide) rfl (v := .agg _) rfl rfl rfl rfl (E_stO (k := 2) rfl rfl (v := .agg _) rfl rfl rfl rfl (E_mv (v := .int .i64 (1)) rfl (E_nil (AX_ret (hRc36 _ _ _ ?_)))))))))))))))))))
            refine ⟨_, (res3 (res_cellN (k := 1) rfl rfl) (res_cellN (k := 2) rfl rfl) (res_tmp rfl)), by simp, (forget_any (List.prefix_append _ _)).imp fun X e => ⟨e, ?_⟩⟩
            -- r4
            have e0 : twoE c i j = 1 := by unfold twoE; (repeat' split) <;> omega
            have e1 : twoE c i j ≠ 0 := by omega
            simp only [twoG, if_neg e1]
            exact ⟨(none, 0), (none, 0), by rw [e0]; rfl, Ints.nil, Ints.nil⟩
          · refine E_pickF rfl (v := .bool _) rfl (E_mv (v := .bool _) rfl (E_on rfl (E_mv (v := .int .i64 (j)) rfl (E_on rfl (E_fa rfl (E_on rfl (E_ldO (k := 0) (v := .slice _ _ _) rfl rfl (E_on rfl (E_len (n := (c.gs).length) rfl (E_on rfl (E_geqS rfl rfl (fun c35 => ?_) (fun c35 => ?_))))))))))))
            · refine E_pickF rfl (v := .bool _) rfl (E_nil (AX_condT rfl (AX_seq (AX_EB (fun b => b = (H).length + 1) (E_ldON (k := 1) rfl rfl (E_ldON (k := 2) rfl rfl (E_stP (k := 1) (by first | rfl | exact .inl rfl | exact .inr rfl | exact .inr (.inr rfl)) (by decide) rfl (v := .agg _) rfl rfl rfl rfl (E_stO (k := 2) rfl rfl (v := .agg _) rfl rfl rfl rfl (E_mv (v := .int .i64 (1)) rfl (E_nil (AX_ret (hRc36 _ _ _ ?_))))))))))))
              refine ⟨_, (res3 (res_cellN (k := 1) rfl rfl) (res_cellN (k := 2) rfl rfl) (res_tmp rfl)), by simp, (forget_any (List.prefix_append _ _)).imp fun X e => ⟨e, ?_⟩⟩
              -- r5
              have e0 : twoE c i j = 1 := by unfold twoE; (repeat' split) <;> omega
              have e1 : twoE c i j ≠ 0 := by omega
              simp only [twoG, if_neg e1]
              exact ⟨(none, 0), (none, 0), by rw [e0]; rfl, Ints.nil, Ints.nil⟩
            · refine E_pickF rfl (v := .bool _) rfl (E_nil (AX_condF rfl (AX_skip ?_)))
              refine hNc36 (()) _ _ _ ⟨by first | rfl | (congr 1; omega), by first | rfl | (congr 1; omega), by first | rfl | (congr 1; omega), by first | rfl | (congr 1; omega), by first | rfl | (congr 1; omega), trivial⟩ ⟨rfl, rfl, ?_⟩
              -- u6
              clear hNc36 hRc36 hEc36
              omega
    rintro ⟨⟩ frc36 hc36 mc36 ⟨rfl, rfl, invc36⟩
    refine AX_seq (AX_EB (fun b => b = (H).length + 1) (E_fa rfl (E_ldO (k := 0) (v := .slice _ _ _) rfl rfl (E_mv (v := .int .i64 (i)) rfl (have ix1 : (i).toNat < (c.gs).length := (by first | omega | (simp; done) | (simp; omega)); E_iaGb (j := (i).toNat) rfl hv rfl rfl (by omega) ix1 fun b1 o1 q1 f1 w1 => (E_ldBN rfl w1 (E_fa rfl (E_ldO (k := 0) (v := .slice _ _ _) rfl rfl (E_mv (v := .int .i64 (j)) rfl (have ix2 : (j).toNat < (c.gs).length := (by first | omega | (simp; done) | (simp; omega)); E_iaGb (j := (j).toNat) rfl hv rfl rfl (by omega) ix2 fun b2 o2 q2 f2 w2 => (E_ldBN rfl w2 (E_stP (k := 1) (by first | rfl | exact .inl rfl | exact .inr rfl | exact .inr (.inr rfl)) (by decide) rfl (v := .agg _) rfl rfl rfl rfl (E_stO (k := 2) rfl rfl (v := .agg _) rfl rfl rfl rfl (E_mv (v := .int .i64 (0)) rfl (E_nil (AX_ret ?_))))))))))))))))
    refine ⟨_, (res3 (res_cellN (k := 1) rfl rfl) (res_cellN (k := 2) rfl rfl) (res_tmp rfl)), by simp, (forget_any (List.prefix_append _ _)).imp fun X e => ⟨e, ?_⟩⟩
    -- r7
    have e1 : twoE c i j = 0 := by unfold twoE; (repeat' split) <;> omega
    simp only [twoG, if_pos e1, e1, getG_at (show i.toNat < c.gs.length by omega), getG_at (show j.toNat < c.gs.length by omega)]
    exact ⟨q1, q2, rfl, f1, f2⟩
theorem two_gr {c : C} {i j n : Int} (e : twoE c i j = 0) (hn : n = i ∨ n = j) : GR (twoG c i j n) := by
  have h := e
  unfold twoE at h
  split at h
  · omega
  · split at h
    · omega
    · rename_i h1 h2
      have hc : CR c := CR.of (by simpa using h1)
      rw [twoG, if_pos e, getG_at (show n.toNat < c.gs.length by omega)]
      exact hc.gr (List.getElem_mem _)
theorem pCommute_ret (H : Heap) (c : C) (p : Pl) (i j : Int) {S : Nat → Prop} (hv : Gates S H p c.gs) (hl : c.gs.length < 4611686018427387904) :
    Ret (tab Tryd.prog) 28 [cv c p, .int .i64 i, .int .i64 j] H (.tuple #[.bool (if twoE c i j = 0 then decide (commM (twoG c i j i) (twoG c i j j)) else false), .int .i64 (twoE c i j)]) H := by
  refine Ret_own k15 rfl ?_
  refine AX_seq (AX_E (E_boxA rfl (E_mv (v := .bool _) rfl (E_mv (v := .int .i64 (0)) rfl (E_nil (AX_seq (AX_E (E_ldON (k := 0) rfl rfl (E_mv (v := .int .i64 (i)) rfl (E_mv (v := .int .i64 (j)) rfl ?_))))))))))
  obtain ⟨X1, p1, q1, hr1, f1, g1⟩ := two_ret _ c _ (i) (j) hv.app (by first | omega | (simp; done) | (simp; omega))
  refine E_callX (X := X1) rfl (hr1) (E_mv (v := .tuple _) rfl (E_ext (v := .agg _) rfl rfl (E_ext (v := .agg _) rfl rfl (E_ext (v := .int .i64 (twoE c (i) (j))) rfl rfl (E_new (E_new (E_stO (k := 0) rfl rfl (v := .agg _) rfl rfl rfl rfl (E_stO (k := 1) rfl rfl (v := .agg _) rfl rfl rfl rfl (E_mv (v := .int .i64 (twoE c (i) (j))) rfl (E_nil (AX_seq (AX_seq (AX_E (E_mv (v := .int .i64 (twoE c (i) (j))) rfl (E_neqS rfl rfl (fun c20 => ?_) (fun c20 => ?_))))))))))))))))
  · refine E_nil (AX_condT rfl (AX_seq (AX_E (E_mv (v := .int .i64 (twoE c (i) (j))) rfl (E_mv (v := .bool _) rfl (E_mv (v := .int .i64 (twoE c (i) (j))) rfl (E_nil (AX_ret ?_))))))))
    refine ⟨_, rfl, by simp, ?_, forget_flat rfl ((List.prefix_append _ _).trans (List.prefix_append _ _))⟩
    -- r1
    show Value.tuple #[.bool false, .int .i64 (twoE c (i) (j))] = _
    simp [*]
  · refine E_nil (AX_condF rfl (AX_skip (AX_seq (AX_E (E_ldON (k := 0) rfl rfl (E_ldON (k := 1) rfl rfl (E_callP rfl (pcomm_ret _ (twoG c (i) (j) (i)) (twoG c (i) (j) (j)) _ _ f1.grow.app g1.grow.app (two_gr c20 (.inl rfl)) (two_gr c20 (.inr rfl))) (fun c24 => ?_) (fun c24 => ?_))))))))
    · refine E_mv (v := .bool _) rfl (E_mv (v := .int .i64 (0)) rfl (E_nil (AX_ret ?_)))
      refine ⟨_, rfl, by simp, ?_, forget_flat rfl ((List.prefix_append _ _).trans (List.prefix_append _ _))⟩
      -- r2
      show Value.tuple #[.bool true, .int .i64 (0)] = _
      simp [*]
    · refine E_mv (v := .bool _) rfl (E_mv (v := .int .i64 (0)) rfl (E_nil (AX_ret ?_)))
      refine ⟨_, rfl, by simp, ?_, forget_flat rfl ((List.prefix_append _ _).trans (List.prefix_append _ _))⟩
      -- r3
      show Value.tuple #[.bool false, .int .i64 (0)] = _
      simp [*]
end Go.Canon
namespace Go.Canon
open Go Go.Proofs
set_option linter.unusedVariables false
set_option linter.unusedSimpArgs false
def kf95 : KFunc := ⟨1, 15, [.cell 2 (some 4)], .seq (.reg [⟨some 1, .box (.t 0), none⟩, ⟨some 2, .new [.int .i64 0, .slice none 0 0, .int .i64 0, .int .i64 0], none⟩] []) (.seq (.reg [⟨some 4, .fa (.t 1) 1, none⟩, ⟨some 5, .ld (.t 4) none, none⟩, ⟨some 6, .len (.t 5), none⟩, ⟨some 7, .mkSl (.t 6) (.t 6) [.int .i64 0] 8, none⟩, ⟨some 3, .mv (.t 7), none⟩] []) (.seq (.reg [⟨some 8, .mv (.t 3), none⟩, ⟨some 9, .fa (.t 1) 1, none⟩, ⟨some 10, .ld (.t 9) none, none⟩, ⟨some 11, .cpy (.t 8) (.t 10) 1, none⟩] []) (.seq (.reg [⟨some 12, .mv (.t 3), none⟩, ⟨some 13, .fa (.t 1) 1, none⟩, ⟨none, .st (.t 13) (.t 12) 1, none⟩] []) (.seq (.reg [⟨some 14, .ld (.t 1) (some 4), none⟩, ⟨none, .st (.t 2) (.t 14) 4, none⟩] []) .ret))))⟩
theorem k95 : tab Tryd.prog 83 = some kf95 := by kernel_rfl
def kf38 : KFunc := ⟨1, 8, [.tmp 2], .seq (.reg [⟨some 2, .mv (.c (.slice none 0 0)), none⟩] []) (.seq (.seq (.reg [⟨some 3, .mv (.t 0), none⟩, ⟨some 4, .eqN false 0 (.t 3), none⟩] []) (.cond (.t 4) (.seq (.reg [⟨some 2, .mv (.c (.slice none 0 0)), none⟩] []) .ret) .skip)) (.seq (.reg [⟨some 5, .mkS [] 0 [], none⟩, ⟨some 6, .mv (.t 0), none⟩, ⟨some 7, .app (.t 5) (.t 6) 1 8, none⟩, ⟨some 2, .mv (.t 7), none⟩] []) .ret))⟩
theorem k38 : tab Tryd.prog 69 = some kf38 := by kernel_rfl
def kf72 : KFunc := ⟨1, 8, [.tmp 2], .seq (.reg [⟨some 2, .mv (.c (.slice none 0 0)), none⟩] []) (.seq (.seq (.reg [⟨some 3, .mv (.t 0), none⟩, ⟨some 4, .eqN false 0 (.t 3), none⟩] []) (.cond (.t 4) (.seq (.reg [⟨some 2, .mv (.c (.slice none 0 0)), none⟩] []) .ret) .skip)) (.seq (.reg [⟨some 5, .mkS [] 0 [], none⟩, ⟨some 6, .mv (.t 0), none⟩, ⟨some 7, .app (.t 5) (.t 6) 4 48, none⟩, ⟨some 2, .mv (.t 7), none⟩] []) .ret))⟩
theorem k72 : tab Tryd.prog 68 = some kf72 := by kernel_rfl
def kf8 : KFunc := ⟨1, 35, [.cell 2 (some 3)], .seq (.reg [⟨some 1, .box (.t 0), none⟩, ⟨some 2, .new [.int .i64 0, .int .i64 0, .slice none 0 0], none⟩] []) (.seq (.reg [⟨some 6, .fa (.t 1) 0, none⟩, ⟨some 7, .ld (.t 6) none, none⟩, ⟨some 8, .fa (.t 1) 1, none⟩, ⟨some 9, .ld (.t 8) none, none⟩, ⟨some 10, .mk [.int .i64 0, .int .i64 0, .slice none 0 0] [(0, 1, .t 7), (1, 1, .t 9)], none⟩, ⟨some 3, .new [.int .i64 0, .int .i64 0, .slice none 0 0], none⟩, ⟨none, .st (.t 3) (.t 10) 3, none⟩] []) (.seq (.seq (.reg [⟨some 11, .fa (.t 1) 2, none⟩, ⟨some 12, .ld (.t 11) none, none⟩, ⟨some 13, .len (.t 12), none⟩, ⟨some 14, .mv (.c (.int .i64 0)), none⟩] []) (.block 0 (.loop (.seq (.reg [⟨some 15, .bin .lss (.t 14) (.t 13), none⟩] []) (.seq (.cond (.t 15) .skip (.exit 0)) (.seq (.block 1 (.seq (.reg [⟨some 16, .iaS (.t 12) (.t 14) 4, none⟩, ⟨some 17, .ld (.t 16) (some 4), none⟩, ⟨some 5, .new [.int .i64 0, .slice none 0 0, .int .i64 0, .int .i64 0], none⟩, ⟨none, .st (.t 5) (.t 17) 4, none⟩] []) (.reg [⟨some 18, .fa (.t 3) 2, none⟩, ⟨some 19, .ld (.t 18) none, none⟩, ⟨some 20, .fa (.t 5) 0, none⟩, ⟨some 21, .ld (.t 20) none, none⟩, ⟨some 22, .fa (.t 5) 1, none⟩, ⟨some 23, .ld (.t 22) none, none⟩, ⟨some 24, .call (.c (.func (.func 69) #[] #[])) [.t 23], none⟩, ⟨some 25, .fa (.t 5) 2, none⟩, ⟨some 26, .ld (.t 25) none, none⟩, ⟨some 27, .fa (.t 5) 3, none⟩, ⟨some 28, .ld (.t 27) none, none⟩, ⟨some 29, .mk [.int .i64 0, .slice none 0 0, .int .i64 0, .int .i64 0] [(0, 1, .t 21), (1, 1, .t 24), (2, 1, .t 26), (3, 1, .t 28)], none⟩, ⟨some 30, .mkS [.int .i64 0, .slice none 0 0, .int .i64 0, .int .i64 0] 1 [(0, 4, .t 29)], none⟩, ⟨some 31, .app (.t 19) (.t 30) 4 48, none⟩, ⟨some 32, .fa (.t 3) 2, none⟩, ⟨none, .st (.t 32) (.t 31) 1, none⟩] [(1, 6), (3, 6), (6, 8), (6, 10)]))) (.reg [⟨some 33, .bin .add (.t 14) (.c (.int .i64 1)), none⟩, ⟨some 14, .mv (.t 33), none⟩] []))))))) (.seq (.reg [⟨some 34, .ld (.t 3) (some 3), none⟩, ⟨none, .st (.t 2) (.t 34) 3, none⟩] []) .ret)))⟩
theorem k8 : tab Tryd.prog 27 = some kf8 := by kernel_rfl
def kf68 : KFunc := ⟨1, 28, [.tmp 2], .seq (.reg [⟨some 2, .mv (.c (.slice none 0 0)), none⟩] []) (.seq (.reg [⟨some 3, .mv (.c (.slice none 0 0)), none⟩] []) (.seq (.seq (.reg [⟨some 8, .mv (.t 0), none⟩, ⟨some 9, .len (.t 8), none⟩, ⟨some 10, .mv (.c (.int .i64 0)), none⟩] []) (.block 0 (.loop (.seq (.reg [⟨some 11, .bin .lss (.t 10) (.t 9), none⟩] []) (.seq (.cond (.t 11) .skip (.exit 0)) (.seq (.block 1 (.seq (.reg [⟨some 12, .iaS (.t 8) (.t 10) 1, none⟩, ⟨some 13, .ld (.t 12) none, none⟩, ⟨some 5, .mv (.t 13), none⟩] []) (.seq (.reg [⟨some 14, .mv (.t 5), none⟩, ⟨some 15, .len (.t 14), none⟩, ⟨some 16, .mv (.c (.int .i64 0)), none⟩] []) (.block 2 (.loop (.seq (.reg [⟨some 17, .bin .lss (.t 16) (.t 15), none⟩] []) (.seq (.cond (.t 17) .skip (.exit 2)) (.seq (.block 3 (.seq (.reg [⟨some 18, .iaS (.t 14) (.t 16) 4, none⟩, ⟨some 19, .ld (.t 18) (some 4), none⟩, ⟨some 7, .new [.int .i64 0, .slice none 0 0, .int .i64 0, .int .i64 0], none⟩, ⟨none, .st (.t 7) (.t 19) 4, none⟩] []) (.reg [⟨some 20, .mv (.t 3), none⟩, ⟨some 21, .ld (.t 7) (some 4), none⟩, ⟨some 22, .call (.c (.func (.func 83) #[] #[])) [.t 21], none⟩, ⟨some 23, .mkS [.int .i64 0, .slice none 0 0, .int .i64 0, .int .i64 0] 1 [(0, 4, .t 22)], none⟩, ⟨some 24, .app (.t 20) (.t 23) 4 48, none⟩, ⟨some 3, .mv (.t 24), none⟩] []))) (.reg [⟨some 25, .bin .add (.t 16) (.c (.int .i64 1)), none⟩, ⟨some 16, .mv (.t 25), none⟩] []))))))))) (.reg [⟨some 26, .bin .add (.t 10) (.c (.int .i64 1)), none⟩, ⟨some 10, .mv (.t 26), none⟩] []))))))) (.seq (.reg [⟨some 27, .mv (.t 3), none⟩, ⟨some 2, .mv (.t 27), none⟩] []) .ret)))⟩
theorem k68 : tab Tryd.prog 58 = some kf68 := by kernel_rfl
theorem pown_ret (H : Heap) (g : G) (p : Pl) {S : Nat → Prop} (hv : Ints S H p g.ws) (hl : g.ws.length < 4294967296) : ∃ X q, Ret (tab Tryd.prog) 83 [gv g p] H (gv g q) (H ++ X) ∧ IntsZ H.length X q g.ws ∧ q.1 ≠ none := by
  have key := Ret_grow (T := tab Tryd.prog) (f := 83) (args := [gv g p]) (h := H) (fun u X => ∃ q, u = gv g q ∧ IntsZ H.length X q g.ws ∧ q.1 ≠ none) k95 rfl ?_
  · obtain ⟨u, X, hr, q, rfl, f1⟩ := key
    exact ⟨X, q, hr, f1⟩
  refine AX_seq (AX_E (E_boxA rfl (E_new (E_nil (AX_seq (AX_E (E_fa rfl (E_ldO (k := 0) (v := .slice _ _ _) rfl rfl (E_len (n := (g.ws).length) rfl (E_mkSlI (n := g.ws.length) rfl rfl (by first | omega | (simp; done) | (simp; omega)) (E_mv (v := .slice _ _ _) rfl (E_nil (AX_seq (AX_E (E_mv (v := .slice _ _ _) rfl (E_fa rfl (E_ldO (k := 0) (v := .slice _ _ _) rfl rfl (E_cpyI (k := 2) rfl rfl rfl (by simp) rfl (hv).app rfl (E_nil (AX_seq (AX_E (E_mv (v := .slice _ _ _) rfl (E_fa rfl (E_stO (k := 0) rfl rfl (v := .slice _ _ _) rfl rfl rfl rfl (E_nil (AX_seq (AX_E (E_ldON (k := 0) rfl rfl (E_stO (k := 1) rfl rfl (v := .agg _) rfl rfl rfl rfl (E_nil (AX_ret ?_)))))))))))))))))))))))))))))))
  refine ⟨_, res1 (res_cellN (k := 1) rfl rfl), by simp, ?_⟩
  exact ⟨_, forget_more (v := gv g (some ⟨H.length + 2, 0, none⟩, g.ws.length)) (gv_more (by simp)), _, rfl, IntsZ.row (j := 2) rfl (.inl rfl), by simp⟩
theorem clone_ret (H : Heap) (p : Pl) (l : List Int) {S : Nat → Prop} (hv : Ints S H p l) (hl : l.length < 4294967296) : ∃ X q, Ret (tab Tryd.prog) 69 [.slice p.1 l.length p.2] H (.slice q.1 l.length q.2) (H ++ X) ∧ IntsZ H.length X q l := by
  have key := Ret_grow (T := tab Tryd.prog) (f := 69) (args := [.slice p.1 l.length p.2]) (h := H) (fun u X => ∃ q : Pl, u = .slice q.1 l.length q.2 ∧ IntsZ H.length X q l) k38 rfl ?_
  · obtain ⟨u, X, hr, q, rfl, f1⟩ := key
    exact ⟨X, q, hr, f1⟩
  refine AX_seq (AX_E (E_mv (v := .slice _ _ _) rfl (E_nil (AX_seq (AX_seq (AX_E (E_mv (v := .slice _ _ _) rfl (E_eqN (b := (p).1.isNone) rfl (E_bs (fun c4 => ?_) (fun c4 => ?_))))))))))
  · refine E_nil (AX_condT rfl (AX_seq (AX_E (E_mv (v := .slice _ _ _) rfl (E_nil (AX_ret ?_))))))
    have hp : p.1 = none := by simpa using c4
    have hl0 : l = [] := by
      obtain ⟨h1, h2, ⟨h3, h4⟩ | ⟨b, o, cs, wr, gr, e1, _⟩⟩ := hv
      · exact List.length_eq_zero_iff.1 (by omega)
      · rw [hp] at e1; cases e1
    subst hl0
    refine ⟨_, rfl, by simp, [], forget_nil rfl (List.prefix_append _ _), (none, 0), rfl, ?_⟩
    exact fun A hA => Ints.nil
  · refine E_nil (AX_condF rfl (AX_skip (AX_seq (AX_E (E_mkS (cs := []) rfl (E_mv (v := .slice _ _ _) rfl (E_app0 (k := 0) rfl rfl rfl (Cells.first (Ints.app hv)) (by simp only [roomB]; omega) (by simp) fun W q hW => (E_mv (v := .slice _ _ _) rfl (E_nil (AX_ret ?_))))))))))
    have hq : q.1 ≠ none := by rcases hW with ⟨_, rfl, _⟩ | ⟨_, rfl, _⟩ <;> simp
    refine ⟨_, rfl, by simp, _, forget_more (v := .slice q.1 l.length q.2) (by rcases h : flat2 (.slice q.1 l.length q.2); rfl; exact (hq (sl_flat h)).elim), q, rfl, ?_⟩
    rcases hW with ⟨h0, rfl, rfl⟩ | ⟨_, rfl, rfl⟩
    · have : l = [] := List.length_eq_zero_iff.1 h0
      rw [this]
      exact IntsZ.empty (j := 0) rfl
    · exact IntsZ.row (j := 1) rfl (.inr rfl)
end Go.Canon
