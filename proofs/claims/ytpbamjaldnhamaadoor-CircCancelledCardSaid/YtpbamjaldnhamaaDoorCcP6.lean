/- CircCancelled, part 6: the canonical machine and the runs of the program's functions on it. No conditions. -/
import Derived.Test.YtpbamjaldnhamaaDoorCcP5
namespace Go.Canon
open Go Go.Proofs
set_option linter.unusedVariables false
set_option linter.unusedSimpArgs false
def kf246 : KFunc := ⟨5, 68, [.cell 10 (some 3)], .seq (.reg [⟨some 10, .new [.int .i64 0, .int .i64 0, .slice none 0 0], none⟩] []) (.seq (.reg [⟨some 13, .mv (.t 1), none⟩, ⟨some 14, .mv (.t 2), none⟩, ⟨some 15, .mk [.int .i64 0, .int .i64 0, .slice none 0 0] [(0, 1, .t 13), (1, 1, .t 14)], none⟩, ⟨some 11, .new [.int .i64 0, .int .i64 0, .slice none 0 0], none⟩, ⟨none, .st (.t 11) (.t 15) 3, none⟩] []) (.seq (.seq (.reg [⟨some 16, .mv (.t 0), none⟩, ⟨some 17, .mv (.t 3), none⟩, ⟨some 18, .bin .add (.t 17) (.c (.int .i64 1)), none⟩, ⟨some 19, .call (.c (.func (.func 56) #[] #[])) [.t 16, .t 18], none⟩, ⟨some 20, .mv (.c (.int .i64 0)), none⟩] []) (.block 0 (.loop (.seq (.reg [⟨some 21, .bin .lss (.t 20) (.t 19), none⟩] []) (.seq (.cond (.t 21) .skip (.exit 0)) (.seq (.block 1 (.seq (.reg [⟨some 22, .mv (.t 0), none⟩, ⟨some 23, .mv (.t 1), none⟩, ⟨some 24, .mv (.t 4), none⟩, ⟨some 25, .call (.c (.func (.func 34) #[] #[])) [.t 22, .t 23, .t 24], none⟩, ⟨some 12, .new [.int .i64 0, .slice none 0 0, .int .i64 0, .int .i64 0], none⟩, ⟨none, .st (.t 12) (.t 25) 4, none⟩] []) (.seq (.block 2 (.seq (.reg [⟨some 27, .mv (.t 2), none⟩, ⟨some 28, .bin .gtr (.t 27) (.c (.int .i64 0)), none⟩, ⟨some 29, .mv (.t 28), none⟩, ⟨some 30, .mv (.t 0), some (29, true)⟩, ⟨some 31, .call (.c (.func (.func 77) #[] #[])) [.t 30, .c (.int .i64 5)], some (29, true)⟩, ⟨some 32, .pick (.t 29) (.t 31) (.c (.bool false)), none⟩, ⟨some 26, .mv (.t 32), none⟩] []) (.cond (.t 26) (.reg [⟨some 33, .mv (.t 0), none⟩, ⟨some 34, .mv (.t 1), none⟩, ⟨some 35, .call (.c (.func (.func 56) #[] #[])) [.t 33, .t 34], none⟩, ⟨some 36, .mkS [.int .i64 0] 1 [(0, 1, .t 35)], none⟩, ⟨some 37, .mv (.t 0), none⟩, ⟨some 38, .mv (.t 2), none⟩, ⟨some 39, .call (.c (.func (.func 56) #[] #[])) [.t 37, .t 38], none⟩, ⟨some 40, .mk [.int .i64 0, .slice none 0 0, .int .i64 0, .int .i64 0] [(0, 1, .c (.int .i64 13)), (1, 1, .t 36), (2, 1, .t 39)], none⟩, ⟨none, .st (.t 12) (.t 40) 4, none⟩] []) (.seq (.reg [⟨some 42, .mv (.t 0), none⟩, ⟨some 43, .call (.c (.func (.func 77) #[] #[])) [.t 42, .c (.int .i64 12)], none⟩, ⟨some 41, .mv (.t 43), none⟩] []) (.cond (.t 41) (.reg [⟨some 44, .mv (.t 0), none⟩, ⟨some 45, .mv (.t 1), none⟩, ⟨some 46, .call (.c (.func (.func 56) #[] #[])) [.t 44, .t 45], none⟩, ⟨some 47, .mkS [.int .i64 0] 1 [(0, 1, .t 46)], none⟩, ⟨some 48, .mk [.int .i64 0, .slice none 0 0, .int .i64 0, .int .i64 0] [(0, 1, .c (.int .i64 14)), (1, 1, .t 47)], none⟩, ⟨none, .st (.t 12) (.t 48) 4, none⟩] []) (.seq (.reg [⟨some 50, .mv (.t 2), none⟩, ⟨some 51, .bin .gtr (.t 50) (.c (.int .i64 0)), none⟩, ⟨some 52, .mv (.t 51), none⟩, ⟨some 53, .mv (.t 0), some (52, true)⟩, ⟨some 54, .call (.c (.func (.func 77) #[] #[])) [.t 53, .c (.int .i64 4)], some (52, true)⟩, ⟨some 55, .pick (.t 52) (.t 54) (.c (.bool false)), none⟩, ⟨some 49, .mv (.t 55), none⟩] []) (.cond (.t 49) (.reg [⟨some 56, .mv (.t 0), none⟩, ⟨some 57, .mv (.t 2), none⟩, ⟨some 58, .call (.c (.func (.func 20) #[] #[])) [.t 56, .c (.int .i64 1), .t 57], none⟩, ⟨some 59, .fa (.t 12) 3, none⟩, ⟨none, .st (.t 59) (.t 58) 1, none⟩] []) .skip))))))) (.reg [⟨some 60, .fa (.t 11) 2, none⟩, ⟨some 61, .ld (.t 60) none, none⟩, ⟨some 62, .ld (.t 12) (some 4), none⟩, ⟨some 63, .mkS [.int .i64 0, .slice none 0 0, .int .i64 0, .int .i64 0] 1 [(0, 4, .t 62)], none⟩, ⟨some 64, .app (.t 61) (.t 63) 4 48, none⟩, ⟨some 65, .fa (.t 11) 2, none⟩, ⟨none, .st (.t 65) (.t 64) 1, none⟩] [])))) (.reg [⟨some 66, .bin .add (.t 20) (.c (.int .i64 1)), none⟩, ⟨some 20, .mv (.t 66), none⟩] []))))))) (.seq (.reg [⟨some 67, .ld (.t 11) (some 3), none⟩, ⟨none, .st (.t 10) (.t 67) 3, none⟩] []) .ret)))⟩
theorem k246 : tab Tryd.prog 46 = some kf246 := by kernel_rfl
theorem ints_row {h : Heap} {b : Nat} {l : List Int} {cs : List Value} (hr : h[b]? = some (.row cs true none)) (hc : cs = l.map (.int .i64 ·)) : Ints (fun c => c = b) h (some ⟨b, 0, none⟩, l.length) l := by
  subst hc
  exact ⟨by simp, Nat.le_refl _, .inr ⟨b, 0, _, true, _, rfl, rfl, hr, by simp; right; rw [List.take_of_length_le (by simp)]⟩⟩
theorem ints_lt {S : Nat → Prop} {h : Heap} {p : Pl} {l : List Int} (H : Ints S h p l) : Ints (fun b => S b ∧ b < h.length) h p l := Cells.lt H
/-- A gate that Steered makes. -/
def SG (w b : Int) (kl : List Int) (g : G) : Prop := cgM g w b = 0 ∧ (g.k ∈ kl ∨ g.k = 13 ∨ g.k = 14)
theorem sg_up {w b : Int} {kl : List Int} {g : G} (hb : 0 ≤ b) (h : cgM g w 0 = 0 ∧ g.k ∈ kl ∧ g.b = 0 ∧ g.f = 0) (hk : ∀ x ∈ kl, 1 ≤ x ∧ x ≤ 12) {f : Int} (hf : 0 ≤ f ∧ f ≤ b) : SG w b kl ⟨g.k, g.ws, g.b, f⟩ := by
  refine ⟨?_, .inl h.2.1⟩
  have hkk := hk _ h.2.1
  have h0 := h.1
  unfold cgM at h0 ⊢
  dsimp only
  split at h0 <;> try omega
  split at h0 <;> try omega
  split at h0 <;> try omega
  split at h0 <;> try omega
  rename_i e1 e2 e3 e4
  rw [if_neg e1, if_neg e2, if_neg e3, if_neg e4, if_neg (by omega), if_neg (by omega)]
theorem sg_m {w b : Int} {kl : List Int} {r q : Nat} (hr : (r : Int) < w) (hq : (q : Int) < b) : SG w b kl ⟨13, [(r : Int)], (q : Int), 0⟩ := by
  refine ⟨?_, .inr (.inl rfl)⟩
  unfold cgM
  rw [if_neg (by show ¬ arityM 13 = 0; decide), if_neg (by show ¬ ((1 : Nat) : Int) ≠ arityM 13; decide), if_neg (by rintro ⟨x, hx, h⟩; simp at hx; omega), if_neg (by simp), if_neg (by simp; omega), if_neg (by simp)]
theorem sg_r {w b : Int} {kl : List Int} {r : Nat} (hr : (r : Int) < w) (hb : 0 ≤ b) : SG w b kl ⟨14, [(r : Int)], 0, 0⟩ := by
  refine ⟨?_, .inr (.inr rfl)⟩
  unfold cgM
  rw [if_neg (by show ¬ arityM 14 = 0; decide), if_neg (by show ¬ ((1 : Nat) : Int) ≠ arityM 14; decide), if_neg (by rintro ⟨x, hx, h⟩; simp at hx; omega), if_neg (by simp), if_neg (by simp; omega), if_neg (by simp)]
theorem sste_ret (N : Nat) (H : Heap) (s k : Nat) (w bits mo : Int) (pk : Pl) (kl : List Int) (hs : Sto N H s k) (hk : k < 4611686018427370000) (hw : 1 ≤ w ∧ w ≤ 12) (hbt : 1 ≤ bits ∧ bits ≤ 8) (hmo : 0 ≤ mo ∧ mo ≤ 120) (hkl : Ints (fun b => b < N ∧ b ≠ s) H pk kl) (hne : 0 < kl.length ∧ kl.length < 100) (hkk : ∀ x ∈ kl, 1 ≤ x ∧ x ≤ 12) (h1 : arityM (kl[0]'hne.1) = 1) :
    ∃ (gs : List G) (q : Pl) (u : Heap), Ret (tab Tryd.prog) 46 [.pointer (some ⟨s, 0, none⟩), .int .i64 w, .int .i64 bits, .int .i64 mo, .slice pk.1 kl.length pk.2] H (cv ⟨w, bits, gs⟩ q) u ∧ ((gs.length : Int) ≤ mo ∧ ∀ g ∈ gs, SG w bits kl g) ∧ Gates (fun b => H.length ≤ b) u q gs ∧ Sto N u s (k + 3000) ∧ Kp (fun b => b = s) H u := by
  have key : ACall (tab Tryd.prog) 46 [.pointer (some ⟨s, 0, none⟩), .int .i64 w, .int .i64 bits, .int .i64 mo, .slice pk.1 kl.length pk.2] H fun v u => ∃ (gs : List G) (q : Pl), v = cv ⟨w, bits, gs⟩ q ∧ ((gs.length : Int) ≤ mo ∧ ∀ g ∈ gs, SG w bits kl g) ∧ Gates (fun b => H.length ≤ b) u q gs ∧ Sto N u s (k + 3000) ∧ Kp (fun b => b = s) H u := by
    have kqH : Kp (fun b => b = s) H H := ⟨Nat.le_refl _, fun _ _ _ => rfl⟩
    have soH := hs
    have hsN := hs.1
    have hNH := hs.2.1
    refine ACall_ownR k246 rfl ?_
    refine AX_seq (AX_E (E_new (E_nil (AX_seq (AX_E (E_mv (v := .int .i64 (w)) rfl (E_mv (v := .int .i64 (bits)) rfl (E_mk (cs := [.int .i64 (w), .int .i64 (bits), .slice none 0 0]) rfl (E_new (E_stO (k := 1) rfl rfl (v := .agg _) rfl rfl rfl rfl (E_nil (AX_seq (AX_seq (AX_E (E_mv (v := .pointer (some ⟨s, 0, none⟩)) rfl (E_mv (v := .int .i64 (mo)) rfl (E_addI rfl rfl (by first | omega | (simp; done) | (simp; omega)) (by first | omega | (simp; done) | (simp; omega)) ?_)))))))))))))))))
    obtain ⟨K1, hK1⟩ : ∃ K : Heap, K = H ++ ([CO.row [.int .i64 (0), .int .i64 (0), .slice none 0 0] true none, CO.row [.int .i64 (w), .int .i64 (bits), .slice none 0 0] true none] ++ []) := ⟨_, rfl⟩
    have lK1 : H.length + 2 ≤ K1.length := by rw [hK1]; simp only [List.length_append, List.length_cons, List.length_nil]; omega
    have pK1 : H <+: K1 := by rw [hK1]; exact List.prefix_append _ _
    have soK1 : Sto N K1 s (k) := soH.kp (S := fun _ => False) (by rw [hK1]; exact Kp.app) (fun b _ h => h)
    have kqK1 : Kp (fun b => b = s) H K1 := kqH.trans (S' := fun _ => False) (by rw [hK1]; exact Kp.app) (fun _ _ x => x) (fun _ _ x => x.elim)
    obtain ⟨r19, U19, hr19, hb19, soU19, kpU19, luU19⟩ := less_ret N K1 s k (mo + 1) soK1 (by omega) (by omega)
    have kqU19 : Kp (fun b => b = s) H U19 := kqK1.trans kpU19 (fun _ _ x => x) (fun _ _ x => x)
    have leU19 : K1.length ≤ U19.length := kpU19.len
    have lhU19 : H.length ≤ U19.length := kqU19.len
    have fk2 : Ints (fun b => (b < N ∧ b ≠ s)) U19 (pk) (kl) := kpU19.ii (hkl.lift hK1) (fun b hb => ⟨trivial, fun e => by have h : (b < N ∧ b ≠ s) := hb; have e1 : (b = s) := e; omega⟩)
    have rw3 : U19[(H).length + 0]? = some (CO.row [.int .i64 (0), .int .i64 (0), .slice none 0 0] true none) := kpU19.row (get_own hK1 (k := 0) rfl) (by show ¬ ((H).length + 0 = s); omega)
    have rw4 : U19[(H).length + 1]? = some (CO.row [.int .i64 (w), .int .i64 (bits), .slice none 0 0] true none) := kpU19.row (get_own hK1 (k := 1) rfl) (by show ¬ ((H).length + 1 = s); omega)
    refine E_hp (h' := K1 ++ []) (((List.append_nil _).symm.trans (congrArg (fun x : Heap => (H ++ x) ++ []) (List.append_nil _).symm)).trans (congrArg (fun x : Heap => x ++ []) hK1.symm)) (E_callU rfl hr19 rfl (E_mv (v := .int .i64 (0)) rfl (E_nil (AX_block ?_))))
    refine AX_loopF (γ := Nat × List G × Pl) (fun x => [(0, .pointer (some ⟨s, 0, none⟩)), (1, .int .i64 (w)), (2, .int .i64 (bits)), (4, .slice (pk).1 (kl).length (pk).2), (10, .pointer (some ⟨H.length + 0, 0, none⟩)), (11, .pointer (some ⟨H.length + 1, 0, none⟩)), (19, .int .i64 ((r19 : Int))), (20, .int .i64 ((x.1 : Int)))]) (fun x h_ m_ => (m_ = [] ∧ Kp (fun b => b = s) H h_ ∧ Sto N h_ s (k + 1 + 20 * x.1) ∧ OwnG h_ (H.length + 2) x.2.2 x.2.1 ∧ h_[H.length + 0]? = some (CO.row [.int .i64 (0), .int .i64 (0), .slice none 0 0] true none) ∧ h_[H.length + 1]? = some (CO.row [.int .i64 (w), .int .i64 (bits), .slice (x.2.2).1 (x.2.1).length (x.2.2).2] true none)) ∧ (x.2.1).length = x.1 ∧ x.1 ≤ r19 ∧ ∀ g ∈ (x.2.1), SG w bits kl g) (fun x => r19 - x.1) (0, [], (none, 0)) ⟨rfl, rfl, rfl, rfl, rfl, rfl, rfl, rfl, trivial⟩ ⟨?_, ?_⟩ ?_
    · rw [List.append_nil]
      exact ⟨rfl, kqU19, soU19, OwnG.nil, rw3, rw4⟩
    · exact ⟨rfl, by omega, fun g h => by simp at h⟩
    rintro ⟨i, gs, p⟩ fr0 KH0 mk0 ⟨hI0, inv0⟩ Kk0 hN0 hR0 hE0
    try dsimp only at hI0 inv0
    obtain ⟨rfl, kq0, so0, og0, rz0, rw0⟩ := hI0
    obtain ⟨hl0, hi0, hg0⟩ := inv0
    have kqKH0 := kq0
    have soKH0 := so0
    have krKH0 : Kp (fun b => b = s) KH0 KH0 := ⟨Nat.le_refl _, fun _ _ _ => rfl⟩
    have lH0 := kq0.len
    have fkl0 : Ints (fun b => b < N ∧ b ≠ s) KH0 pk kl := kq0.ii hkl (fun b hb => ⟨trivial, hb.2⟩)
    have lz0 := (List.getElem?_eq_some_iff.1 rw0).1
    refine AX_nil ?_
    refine AX_seq (AX_E (E_lssS rfl rfl (fun c21 => ?_) (fun c21 => ?_)))
    · refine E_nil (AX_seq (AX_condT rfl (AX_skip (AX_seq (AX_block (AX_seq (AX_E (E_mv (v := .pointer (some ⟨s, 0, none⟩)) rfl (E_mv (v := .int .i64 (w)) rfl (E_mv (v := .slice _ _ _) rfl ?_))))))))))
      obtain ⟨g25, q25, U25, hr25, hb25, ii25, soU25, kpU25⟩ := sgate_ret N KH0 s _ w pk kl soKH0 (by omega) hw fkl0 hne hkk h1
      have kqU25 : Kp (fun b => b = s) H U25 := kqKH0.trans kpU25 (fun _ _ x => x) (fun _ _ x => x)
      have krU25 : Kp (fun b => b = s) KH0 U25 := krKH0.trans kpU25 (fun _ _ x => x) (fun _ _ x => x)
      have leU25 : KH0.length ≤ U25.length := kpU25.len
      have lhU25 : H.length ≤ U25.length := kqU25.len
      have fk5 : Ints (fun b => (b < N ∧ b ≠ s)) U25 (pk) (kl) := kpU25.ii fkl0 (fun b hb => ⟨trivial, fun e => by have h : (b < N ∧ b ≠ s) := hb; have e1 : (b = s) := e; omega⟩)
      have rw6 : U25[H.length + 0]? = some (CO.row [.int .i64 (0), .int .i64 (0), .slice none 0 0] true none) := kpU25.row rz0 (by show ¬ (H.length + 0 = s); omega)
      have rw7 : U25[H.length + 1]? = some (CO.row [.int .i64 (w), .int .i64 (bits), .slice (p).1 (gs).length (p).2] true none) := kpU25.row rw0 (by show ¬ (H.length + 1 = s); omega)
      refine E_callU rfl hr25 rfl (E_new (E_stO (k := 0) rfl rfl (v := .agg _) rfl rfl rfl rfl (E_nil (AX_seq (AX_block (AX_seq (AX_E (E_mv (v := .int .i64 (bits)) rfl (E_gtrS rfl rfl (fun c28 => ?_) (fun c28 => ?_))))))))))
      · refine E_mv (v := .bool _) rfl (E_on rfl (E_mv (v := .pointer (some ⟨s, 0, none⟩)) rfl (E_on rfl ?_)))
        obtain ⟨K8, hK8⟩ : ∃ K : Heap, K = U25 ++ ([CO.row [.int .i64 (g25.k), .slice (q25).1 (g25.ws).length (q25).2, .int .i64 (g25.b), .int .i64 (g25.f)] true none] ++ []) := ⟨_, rfl⟩
        have lK8 : U25.length + 1 ≤ K8.length := by rw [hK8]; simp only [List.length_append, List.length_cons, List.length_nil]; omega
        have pK8 : U25 <+: K8 := by rw [hK8]; exact List.prefix_append _ _
        have soK8 : Sto N K8 s (((k + 1 + 20 * i) + 1 + w.toNat)) := soU25.kp (S := fun _ => False) (by rw [hK8]; exact Kp.app) (fun b _ h => h)
        have kqK8 : Kp (fun b => b = s) H K8 := kqU25.trans (S' := fun _ => False) (by rw [hK8]; exact Kp.app) (fun _ _ x => x) (fun _ _ x => x.elim)
        have krK8 : Kp (fun b => b = s) KH0 K8 := krU25.trans (S' := fun _ => False) (by rw [hK8]; exact Kp.app) (fun _ _ x => x) (fun _ _ x => x.elim)
        obtain ⟨r31, U31, hr31, hb31, soU31, kpU31, luU31⟩ := seldom_ret N K8 s _ 5 soK8 (by omega) (by decide)
        have kqU31 : Kp (fun b => b = s) H U31 := kqK8.trans kpU31 (fun _ _ x => x) (fun _ _ x => x)
        have krU31 : Kp (fun b => b = s) KH0 U31 := krK8.trans kpU31 (fun _ _ x => x) (fun _ _ x => x)
        have leU31 : K8.length ≤ U31.length := kpU31.len
        have lhU31 : H.length ≤ U31.length := kqU31.len
        have fk9 : Ints (fun b => (b < N ∧ b ≠ s)) U31 (pk) (kl) := kpU31.ii (fk5.lift hK8) (fun b hb => ⟨trivial, fun e => by have h : (b < N ∧ b ≠ s) := hb; have e1 : (b = s) := e; omega⟩)
        have rw10 : U31[H.length + 0]? = some (CO.row [.int .i64 (0), .int .i64 (0), .slice none 0 0] true none) := kpU31.row (getq hK8 rw6) (by show ¬ (H.length + 0 = s); omega)
        have rw11 : U31[H.length + 1]? = some (CO.row [.int .i64 (w), .int .i64 (bits), .slice (p).1 (gs).length (p).2] true none) := kpU31.row (getq hK8 rw7) (by show ¬ (H.length + 1 = s); omega)
        have fk12 : Ints (fun b => (KH0.length ≤ b ∧ b < U25.length)) U31 (q25) (g25.ws) := kpU31.ii ((ints_lt ii25).lift hK8) (fun b hb => ⟨trivial, fun e => by have h : (KH0.length ≤ b ∧ b < U25.length) := hb; have e1 : (b = s) := e; omega⟩)
        have rw13 : U31[(U25).length + 0]? = some (CO.row [.int .i64 (g25.k), .slice (q25).1 (g25.ws).length (q25).2, .int .i64 (g25.b), .int .i64 (g25.f)] true none) := kpU31.row (get_own hK8 (k := 0) rfl) (by show ¬ ((U25).length + 0 = s); omega)
        refine E_hp (h' := K8 ++ []) (((List.append_nil _).symm.trans (congrArg (fun x : Heap => (U25 ++ x) ++ []) (List.append_nil _).symm)).trans (congrArg (fun x : Heap => x ++ []) hK8.symm)) (E_callU rfl hr31 rfl (E_bs (fun c31 => ?_) (fun c31 => ?_)))
        · refine E_pickT rfl (v := .bool _) rfl (E_mv (v := .bool _) rfl (E_nil (AX_condT rfl (AX_E (E_mv (v := .pointer (some ⟨s, 0, none⟩)) rfl (E_mv (v := .int .i64 (w)) rfl ?_))))))
          obtain ⟨r35, U35, hr35, hb35, soU35, kpU35, luU35⟩ := less_ret N U31 s _ w soU31 (by omega) (by omega)
          have kqU35 : Kp (fun b => b = s) H U35 := kqU31.trans kpU35 (fun _ _ x => x) (fun _ _ x => x)
          have krU35 : Kp (fun b => b = s) KH0 U35 := krU31.trans kpU35 (fun _ _ x => x) (fun _ _ x => x)
          have leU35 : U31.length ≤ U35.length := kpU35.len
          have lhU35 : H.length ≤ U35.length := kqU35.len
          have fk14 : Ints (fun b => (b < N ∧ b ≠ s)) U35 (pk) (kl) := kpU35.ii fk9 (fun b hb => ⟨trivial, fun e => by have h : (b < N ∧ b ≠ s) := hb; have e1 : (b = s) := e; omega⟩)
          have rw15 : U35[H.length + 0]? = some (CO.row [.int .i64 (0), .int .i64 (0), .slice none 0 0] true none) := kpU35.row rw10 (by show ¬ (H.length + 0 = s); omega)
          have rw16 : U35[H.length + 1]? = some (CO.row [.int .i64 (w), .int .i64 (bits), .slice (p).1 (gs).length (p).2] true none) := kpU35.row rw11 (by show ¬ (H.length + 1 = s); omega)
          have fk17 : Ints (fun b => (KH0.length ≤ b ∧ b < U25.length)) U35 (q25) (g25.ws) := kpU35.ii fk12 (fun b hb => ⟨trivial, fun e => by have h : (KH0.length ≤ b ∧ b < U25.length) := hb; have e1 : (b = s) := e; omega⟩)
          have rw18 : U35[(U25).length + 0]? = some (CO.row [.int .i64 (g25.k), .slice (q25).1 (g25.ws).length (q25).2, .int .i64 (g25.b), .int .i64 (g25.f)] true none) := kpU35.row rw13 (by show ¬ ((U25).length + 0 = s); omega)
          refine E_callU rfl hr35 rfl ?_
          obtain ⟨K19, hK19⟩ : ∃ K : Heap, K = U35 ++ ([CO.row [.int .i64 ((r35 : Int))] true none] ++ []) := ⟨_, rfl⟩
          have lK19 : U35.length + 1 ≤ K19.length := by rw [hK19]; simp only [List.length_append, List.length_cons, List.length_nil]; omega
          have pK19 : U35 <+: K19 := by rw [hK19]; exact List.prefix_append _ _
          have soK19 : Sto N K19 s (((((k + 1 + 20 * i) + 1 + w.toNat) + 1) + 1)) := soU35.kp (S := fun _ => False) (by rw [hK19]; exact Kp.app) (fun b _ h => h)
          have kqK19 : Kp (fun b => b = s) H K19 := kqU35.trans (S' := fun _ => False) (by rw [hK19]; exact Kp.app) (fun _ _ x => x) (fun _ _ x => x.elim)
          have krK19 : Kp (fun b => b = s) KH0 K19 := krU35.trans (S' := fun _ => False) (by rw [hK19]; exact Kp.app) (fun _ _ x => x) (fun _ _ x => x.elim)
          have fm36 : Ints (fun b => b = U35.length + 0) K19 (some ⟨U35.length + 0, 0, none⟩, [(r35 : Int)].length) [(r35 : Int)] := ints_row (get_own hK19 (k := 0) rfl) rfl
          have lm36 : U35.length ≤ K19.length := by rw [hK19]; simp
          refine E_mkS (cs := [.int .i64 (r35 : Int)]) rfl (E_hp (h' := K19 ++ []) (((List.append_nil _).symm.trans (congrArg (fun x : Heap => (U35 ++ x) ++ []) (List.append_nil _).symm)).trans (congrArg (fun x : Heap => x ++ []) hK19.symm)) (E_mv (v := .pointer (some ⟨s, 0, none⟩)) rfl (E_mv (v := .int .i64 (bits)) rfl ?_)))
          obtain ⟨r39, U39, hr39, hb39, soU39, kpU39, luU39⟩ := less_ret N K19 s _ bits soK19 (by omega) (by omega)
          have kqU39 : Kp (fun b => b = s) H U39 := kqK19.trans kpU39 (fun _ _ x => x) (fun _ _ x => x)
          have krU39 : Kp (fun b => b = s) KH0 U39 := krK19.trans kpU39 (fun _ _ x => x) (fun _ _ x => x)
          have leU39 : K19.length ≤ U39.length := kpU39.len
          have lhU39 : H.length ≤ U39.length := kqU39.len
          have fk20 : Ints (fun b => (b < N ∧ b ≠ s)) U39 (pk) (kl) := kpU39.ii (fk14.lift hK19) (fun b hb => ⟨trivial, fun e => by have h : (b < N ∧ b ≠ s) := hb; have e1 : (b = s) := e; omega⟩)
          have rw21 : U39[H.length + 0]? = some (CO.row [.int .i64 (0), .int .i64 (0), .slice none 0 0] true none) := kpU39.row (getq hK19 rw15) (by show ¬ (H.length + 0 = s); omega)
          have rw22 : U39[H.length + 1]? = some (CO.row [.int .i64 (w), .int .i64 (bits), .slice (p).1 (gs).length (p).2] true none) := kpU39.row (getq hK19 rw16) (by show ¬ (H.length + 1 = s); omega)
          have fk23 : Ints (fun b => (KH0.length ≤ b ∧ b < U25.length)) U39 (q25) (g25.ws) := kpU39.ii (fk17.lift hK19) (fun b hb => ⟨trivial, fun e => by have h : (KH0.length ≤ b ∧ b < U25.length) := hb; have e1 : (b = s) := e; omega⟩)
          have rw24 : U39[(U25).length + 0]? = some (CO.row [.int .i64 (g25.k), .slice (q25).1 (g25.ws).length (q25).2, .int .i64 (g25.b), .int .i64 (g25.f)] true none) := kpU39.row (getq hK19 rw18) (by show ¬ ((U25).length + 0 = s); omega)
          have fk25 : Ints (fun b => (b = U35.length + 0)) U39 (((some ⟨U35.length + 0, 0, none⟩, [(r35 : Int)].length) : Pl)) ([(r35 : Int)]) := kpU39.ii fm36 (fun b hb => ⟨trivial, fun e => by have h : (b = U35.length + 0) := hb; have e1 : (b = s) := e; omega⟩)
          refine E_callU rfl hr39 rfl (E_mk (cs := [.int .i64 (13), .slice (((some ⟨U35.length + 0, 0, none⟩, [(r35 : Int)].length) : Pl)).1 ([(r35 : Int)]).length (((some ⟨U35.length + 0, 0, none⟩, [(r35 : Int)].length) : Pl)).2, .int .i64 ((r39 : Int)), .int .i64 (0)]) rfl (E_stX (l := [.int .i64 (13), .slice (((some ⟨U35.length + 0, 0, none⟩, [(r35 : Int)].length) : Pl)).1 ([(r35 : Int)]).length (((some ⟨U35.length + 0, 0, none⟩, [(r35 : Int)].length) : Pl)).2, .int .i64 ((r39 : Int)), .int .i64 (0)]) (v := .agg _) rfl rfl rfl rfl ((congrArg (fun h : Heap => h[(U25).length + 0]?) (List.append_nil _)).trans (rw24)) (by simp) rfl rfl fun V26 hV26 => ?_))
          have eV26 : V26 = U39.set ((U25).length + 0) (CO.row [.int .i64 (13), .slice (((some ⟨U35.length + 0, 0, none⟩, [(r35 : Int)].length) : Pl)).1 ([(r35 : Int)]).length (((some ⟨U35.length + 0, 0, none⟩, [(r35 : Int)].length) : Pl)).2, .int .i64 ((r39 : Int)), .int .i64 (0)] true none) := by rw [hV26, List.append_nil]; rfl
          have kpV26 : Kp (fun b => b = (U25).length + 0) U39 V26 := by rw [eV26]; exact Kp.set
          have kqV26 : Kp (fun b => b = s) H V26 := kqU39.trans kpV26 (fun _ _ x => x) (fun b hb x => by omega)
          have soV26 : Sto N V26 s ((((((k + 1 + 20 * i) + 1 + w.toNat) + 1) + 1) + 1)) := soU39.kp kpV26 (fun b hb x => by omega)
          have leV26 : V26.length = U39.length := by rw [eV26]; exact List.length_set
          have ltV26 : (U25).length + 0 < U39.length := (List.getElem?_eq_some_iff.1 (rw24)).1
          have krV26 : Kp (fun b => b = s) KH0 V26 := krU39.trans kpV26 (fun _ _ x => x) (fun b hb x => by omega)
          have fk27 : Ints (fun b => (b < N ∧ b ≠ s)) V26 (pk) (kl) := kpV26.ii fk20 (fun b hb => ⟨trivial, fun e => by have h : (b < N ∧ b ≠ s) := hb; have e1 : (b = (U25).length + 0) := e; omega⟩)
          have rw28 : V26[H.length + 0]? = some (CO.row [.int .i64 (0), .int .i64 (0), .slice none 0 0] true none) := kpV26.row rw21 (by show ¬ (H.length + 0 = (U25).length + 0); omega)
          have rw29 : V26[H.length + 1]? = some (CO.row [.int .i64 (w), .int .i64 (bits), .slice (p).1 (gs).length (p).2] true none) := kpV26.row rw22 (by show ¬ (H.length + 1 = (U25).length + 0); omega)
          have fk30 : Ints (fun b => (KH0.length ≤ b ∧ b < U25.length)) V26 (q25) (g25.ws) := kpV26.ii fk23 (fun b hb => ⟨trivial, fun e => by have h : (KH0.length ≤ b ∧ b < U25.length) := hb; have e1 : (b = (U25).length + 0) := e; omega⟩)
          have fk32 : Ints (fun b => (b = U35.length + 0)) V26 (((some ⟨U35.length + 0, 0, none⟩, [(r35 : Int)].length) : Pl)) ([(r35 : Int)]) := kpV26.ii fk25 (fun b hb => ⟨trivial, fun e => by have h : (b = U35.length + 0) := hb; have e1 : (b = (U25).length + 0) := e; omega⟩)
          have rw31 : V26[(U25).length + 0]? = some (CO.row [.int .i64 (13), .slice (((some ⟨U35.length + 0, 0, none⟩, [(r35 : Int)].length) : Pl)).1 ([(r35 : Int)]).length (((some ⟨U35.length + 0, 0, none⟩, [(r35 : Int)].length) : Pl)).2, .int .i64 ((r39 : Int)), .int .i64 (0)] true none) := by rw [eV26, List.getElem?_set_self ltV26]
          refine E_nil (AX_E (E_fa rfl (E_ldB (v := .slice _ _ _) rfl (rowGet_c (j := 2) (rowGet_all rw29 rfl) rfl) (E_ldBN rfl (rowGet_all rw31 rfl) (E_mkS (cs := [.int .i64 (13), .slice (((some ⟨U35.length + 0, 0, none⟩, [(r35 : Int)].length) : Pl)).1 ([(r35 : Int)]).length (((some ⟨U35.length + 0, 0, none⟩, [(r35 : Int)].length) : Pl)).2, .int .i64 ((r39 : Int)), .int .i64 (0)]) rfl ?_)))))
          obtain ⟨U3, hK3⟩ : ∃ K : Heap, K = V26 ++ [CO.row [.int .i64 (13), .slice (((some ⟨U35.length + 0, 0, none⟩, [(r35 : Int)].length) : Pl)).1 ([(r35 : Int)]).length (((some ⟨U35.length + 0, 0, none⟩, [(r35 : Int)].length) : Pl)).2, .int .i64 ((r39 : Int)), .int .i64 (0)] true none] := ⟨_, rfl⟩
          have l3 : U3.length = V26.length + 1 := by rw [hK3]; simp
          have lr3 := krV26.len
          have k3 : Kp (fun _ => False) V26 U3 := by rw [hK3]; exact Kp.app
          have og3 : OwnG U3 (H.length + 2) p gs := (og0.kp krV26 (fun b hb e => by omega)).kp k3 (fun _ _ x => x)
          obtain ⟨ps, ep, gg3, pp3, ii3⟩ := og3
          have iq3 : Ints (fun c => KH0.length ≤ c) U3 (((some ⟨U35.length + 0, 0, none⟩, [(r35 : Int)].length) : Pl)) ((⟨13, [(r35 : Int)], (r39 : Int), 0⟩ : G)).ws := Cells.congr (k3.ii fk32 (fun _ _ => ⟨trivial, fun x => x⟩)) (fun b hb => by have h : (b = U35.length + 0) := hb; omega) (fun _ _ _ => rfl)
          refine E_hp (h' := U3) hK3.symm (E_appK (k := gs.length) (kx := 1) (p := p) (new := gcells (⟨13, [(r35 : Int)], (r39 : Int), 0⟩ : G) (((some ⟨U35.length + 0, 0, none⟩, [(r35 : Int)].length) : Pl))) gg3 rfl rfl (by rw [hK3]; show (if 1 * 4 = 0 then some [] else rowGet _ ⟨_, _, none⟩ (1 * 4)) = _; exact rowGet_own (k := 0) rfl) (by decide) (by simp only [roomB]; omega) rfl rfl rfl fun U4 hl4 hg4 hk4 => ?_)
          have og4 : OwnG U4 (H.length + 2) (some ⟨U3.length, 0, none⟩, (gs ++ [(⟨13, [(r35 : Int)], (r39 : Int), 0⟩ : G)]).length) (gs ++ [(⟨13, [(r35 : Int)], (r39 : Int), 0⟩ : G)]) := OwnG.add (M := KH0.length) (by omega) ⟨ps, ep, gg3, pp3, ii3⟩ iq3 (ownG_lt og0) (by omega) ps ep ii3 hg4 hk4
          have k4 : ∀ b, b < U3.length → b < H.length + 2 → U4[b]? = U3[b]? := fun b hb hb2 => hk4 b hb fun a ha e => by have := pp3 a ha; omega
          have rz4 := (k4 (H.length + 0) (by omega) (by omega)).trans (k3.row rw28 (fun x => x))
          have rw4 := (k4 (H.length + 1) (by omega) (by omega)).trans (k3.row rw29 (fun x => x))
          have kp4 : Kp (fun b => H.length + 2 ≤ b) V26 U4 := ⟨by omega, fun b hb hn => (k4 b (by omega) (by omega)).trans (k3.keep b hb (fun x => x))⟩
          refine E_fa rfl (E_stX (b := H.length + 1) (o := 0 + 2) (l := [.slice (some ⟨U3.length, 0, none⟩) (gs.length + 1) (gs.length + 1)]) (v := .slice _ _ _) rfl rfl rfl rfl ((congrArg (fun h : Heap => h[H.length + 1]?) (List.append_nil _)).trans rw4) (by simp) rfl rfl fun V eV => ?_)
          have eV2 : V = U4.set (H.length + 1) (CO.row [.int .i64 (w), .int .i64 (bits), .slice (((some ⟨U3.length, 0, none⟩, (gs ++ [(⟨13, [(r35 : Int)], (r39 : Int), 0⟩ : G)]).length) : Pl)).1 (gs ++ [(⟨13, [(r35 : Int)], (r39 : Int), 0⟩ : G)]).length (((some ⟨U3.length, 0, none⟩, (gs ++ [(⟨13, [(r35 : Int)], (r39 : Int), 0⟩ : G)]).length) : Pl)).2] true none) := by rw [eV, List.append_nil]; simp
          have kpV : Kp (fun b => b = H.length + 1) U4 V := by rw [eV2]; exact Kp.set
          have kqV : Kp (fun b => b = s) H V := (kqV26.trans (kp4.trans (S'' := fun b => H.length ≤ b) kpV (fun b _ (x : _ ≤ _) => by omega) (fun b _ (x : _ = _) => by omega)) (fun _ _ x => x) (fun b hb (x : _ ≤ _) => by omega))
          have soV : Sto N V s (k + 1 + 20 * (i + 1)) := ((soV26.kp kp4 (fun b hb (x : _ ≤ _) => by omega)).kp kpV (fun b hb (x : _ = _) => by omega)).mono (by omega)
          have ogV := og4.kp kpV (fun b hb (x : _ = _) => by omega)
          have rzV := kpV.row rz4 (by show ¬ H.length + 0 = H.length + 1; omega)
          have rwV : V[H.length + 1]? = some (CO.row [.int .i64 (w), .int .i64 (bits), .slice (((some ⟨U3.length, 0, none⟩, (gs ++ [(⟨13, [(r35 : Int)], (r39 : Int), 0⟩ : G)]).length) : Pl)).1 (gs ++ [(⟨13, [(r35 : Int)], (r39 : Int), 0⟩ : G)]).length (((some ⟨U3.length, 0, none⟩, (gs ++ [(⟨13, [(r35 : Int)], (r39 : Int), 0⟩ : G)]).length) : Pl)).2] true none) := by rw [eV2, List.getElem?_set_self (List.getElem?_eq_some_iff.1 rw4).1]
          refine E_nil (AX_E (E_addI rfl rfl (by first | omega | (simp; done) | (simp; omega)) (by first | omega | (simp; done) | (simp; omega)) (E_mv (v := .int .i64 (((i : Int) + 1))) rfl (E_nil ?_))))
          refine hN0 (i + 1, gs ++ [(⟨13, [(r35 : Int)], (r39 : Int), 0⟩ : G)], (some ⟨U3.length, 0, none⟩, (gs ++ [(⟨13, [(r35 : Int)], (r39 : Int), 0⟩ : G)]).length)) _ _ _ ⟨by first | rfl | (congr 1; omega), by first | rfl | (congr 1; omega), by first | rfl | (congr 1; omega), by first | rfl | (congr 1; omega), by rfl, by rfl, by first | rfl | (congr 1; omega), by rfl, trivial⟩ ⟨?_, ?_⟩ ?_
          -- n1
          all_goals clear hN0 hR0 hE0
          · rw [List.append_nil]
            exact ⟨rfl, kqV, soV, ogV, rzV, rwV⟩
          · refine ⟨by simp; omega, by omega, fun x hx => ?_⟩
            rcases List.mem_append.1 hx with hx | hx
            · exact hg0 x hx
            · simp only [List.mem_singleton] at hx; subst hx; first | exact sg_m hb35 hb39 | exact sg_r hb46 (by omega) | exact sg_up (by omega) hb25 hkk (by omega)
          · (first | omega | (simp; omega))
        · refine E_pickT rfl (v := .bool _) rfl (E_mv (v := .bool _) rfl (E_nil (AX_condF rfl (AX_seq (AX_E (E_mv (v := .pointer (some ⟨s, 0, none⟩)) rfl ?_))))))
          obtain ⟨r43, U43, hr43, hb43, soU43, kpU43, luU43⟩ := seldom_ret N U31 s _ 12 soU31 (by omega) (by decide)
          have kqU43 : Kp (fun b => b = s) H U43 := kqU31.trans kpU43 (fun _ _ x => x) (fun _ _ x => x)
          have krU43 : Kp (fun b => b = s) KH0 U43 := krU31.trans kpU43 (fun _ _ x => x) (fun _ _ x => x)
          have leU43 : U31.length ≤ U43.length := kpU43.len
          have lhU43 : H.length ≤ U43.length := kqU43.len
          have fk33 : Ints (fun b => (b < N ∧ b ≠ s)) U43 (pk) (kl) := kpU43.ii fk9 (fun b hb => ⟨trivial, fun e => by have h : (b < N ∧ b ≠ s) := hb; have e1 : (b = s) := e; omega⟩)
          have rw34 : U43[H.length + 0]? = some (CO.row [.int .i64 (0), .int .i64 (0), .slice none 0 0] true none) := kpU43.row rw10 (by show ¬ (H.length + 0 = s); omega)
          have rw35 : U43[H.length + 1]? = some (CO.row [.int .i64 (w), .int .i64 (bits), .slice (p).1 (gs).length (p).2] true none) := kpU43.row rw11 (by show ¬ (H.length + 1 = s); omega)
          have fk36 : Ints (fun b => (KH0.length ≤ b ∧ b < U25.length)) U43 (q25) (g25.ws) := kpU43.ii fk12 (fun b hb => ⟨trivial, fun e => by have h : (KH0.length ≤ b ∧ b < U25.length) := hb; have e1 : (b = s) := e; omega⟩)
          have rw37 : U43[(U25).length + 0]? = some (CO.row [.int .i64 (g25.k), .slice (q25).1 (g25.ws).length (q25).2, .int .i64 (g25.b), .int .i64 (g25.f)] true none) := kpU43.row rw13 (by show ¬ ((U25).length + 0 = s); omega)
          refine E_callU rfl hr43 rfl (E_bs (fun c43 => ?_) (fun c43 => ?_))
          · refine E_mv (v := .bool _) rfl (E_nil (AX_condT rfl (AX_E (E_mv (v := .pointer (some ⟨s, 0, none⟩)) rfl (E_mv (v := .int .i64 (w)) rfl ?_)))))
            obtain ⟨r46, U46, hr46, hb46, soU46, kpU46, luU46⟩ := less_ret N U43 s _ w soU43 (by omega) (by omega)
            have kqU46 : Kp (fun b => b = s) H U46 := kqU43.trans kpU46 (fun _ _ x => x) (fun _ _ x => x)
            have krU46 : Kp (fun b => b = s) KH0 U46 := krU43.trans kpU46 (fun _ _ x => x) (fun _ _ x => x)
            have leU46 : U43.length ≤ U46.length := kpU46.len
            have lhU46 : H.length ≤ U46.length := kqU46.len
            have fk38 : Ints (fun b => (b < N ∧ b ≠ s)) U46 (pk) (kl) := kpU46.ii fk33 (fun b hb => ⟨trivial, fun e => by have h : (b < N ∧ b ≠ s) := hb; have e1 : (b = s) := e; omega⟩)
            have rw39 : U46[H.length + 0]? = some (CO.row [.int .i64 (0), .int .i64 (0), .slice none 0 0] true none) := kpU46.row rw34 (by show ¬ (H.length + 0 = s); omega)
            have rw40 : U46[H.length + 1]? = some (CO.row [.int .i64 (w), .int .i64 (bits), .slice (p).1 (gs).length (p).2] true none) := kpU46.row rw35 (by show ¬ (H.length + 1 = s); omega)
            have fk41 : Ints (fun b => (KH0.length ≤ b ∧ b < U25.length)) U46 (q25) (g25.ws) := kpU46.ii fk36 (fun b hb => ⟨trivial, fun e => by have h : (KH0.length ≤ b ∧ b < U25.length) := hb; have e1 : (b = s) := e; omega⟩)
            have rw42 : U46[(U25).length + 0]? = some (CO.row [.int .i64 (g25.k), .slice (q25).1 (g25.ws).length (q25).2, .int .i64 (g25.b), .int .i64 (g25.f)] true none) := kpU46.row rw37 (by show ¬ ((U25).length + 0 = s); omega)
            refine E_callU rfl hr46 rfl ?_
            obtain ⟨K43, hK43⟩ : ∃ K : Heap, K = U46 ++ ([CO.row [.int .i64 ((r46 : Int))] true none] ++ []) := ⟨_, rfl⟩
            have lK43 : U46.length + 1 ≤ K43.length := by rw [hK43]; simp only [List.length_append, List.length_cons, List.length_nil]; omega
            have pK43 : U46 <+: K43 := by rw [hK43]; exact List.prefix_append _ _
            have soK43 : Sto N K43 s ((((((k + 1 + 20 * i) + 1 + w.toNat) + 1) + 1) + 1)) := soU46.kp (S := fun _ => False) (by rw [hK43]; exact Kp.app) (fun b _ h => h)
            have kqK43 : Kp (fun b => b = s) H K43 := kqU46.trans (S' := fun _ => False) (by rw [hK43]; exact Kp.app) (fun _ _ x => x) (fun _ _ x => x.elim)
            have krK43 : Kp (fun b => b = s) KH0 K43 := krU46.trans (S' := fun _ => False) (by rw [hK43]; exact Kp.app) (fun _ _ x => x) (fun _ _ x => x.elim)
            have fm47 : Ints (fun b => b = U46.length + 0) K43 (some ⟨U46.length + 0, 0, none⟩, [(r46 : Int)].length) [(r46 : Int)] := ints_row (get_own hK43 (k := 0) rfl) rfl
            have lm47 : U46.length ≤ K43.length := by rw [hK43]; simp
            refine E_mkS (cs := [.int .i64 (r46 : Int)]) rfl (E_hp (h' := K43 ++ []) (((List.append_nil _).symm.trans (congrArg (fun x : Heap => (U46 ++ x) ++ []) (List.append_nil _).symm)).trans (congrArg (fun x : Heap => x ++ []) hK43.symm)) (E_mk (cs := [.int .i64 (14), .slice (((some ⟨U46.length + 0, 0, none⟩, [(r46 : Int)].length) : Pl)).1 ([(r46 : Int)]).length (((some ⟨U46.length + 0, 0, none⟩, [(r46 : Int)].length) : Pl)).2, .int .i64 (0), .int .i64 (0)]) rfl (E_stX (l := [.int .i64 (14), .slice (((some ⟨U46.length + 0, 0, none⟩, [(r46 : Int)].length) : Pl)).1 ([(r46 : Int)]).length (((some ⟨U46.length + 0, 0, none⟩, [(r46 : Int)].length) : Pl)).2, .int .i64 (0), .int .i64 (0)]) (v := .agg _) rfl rfl rfl rfl ((congrArg (fun h : Heap => h[(U25).length + 0]?) (List.append_nil _)).trans ((getq hK43 rw42))) (by simp) rfl rfl fun V44 hV44 => ?_)))
            have eV44 : V44 = K43.set ((U25).length + 0) (CO.row [.int .i64 (14), .slice (((some ⟨U46.length + 0, 0, none⟩, [(r46 : Int)].length) : Pl)).1 ([(r46 : Int)]).length (((some ⟨U46.length + 0, 0, none⟩, [(r46 : Int)].length) : Pl)).2, .int .i64 (0), .int .i64 (0)] true none) := by rw [hV44, List.append_nil]; rfl
            have kpV44 : Kp (fun b => b = (U25).length + 0) K43 V44 := by rw [eV44]; exact Kp.set
            have kqV44 : Kp (fun b => b = s) H V44 := kqK43.trans kpV44 (fun _ _ x => x) (fun b hb x => by omega)
            have soV44 : Sto N V44 s ((((((k + 1 + 20 * i) + 1 + w.toNat) + 1) + 1) + 1)) := soK43.kp kpV44 (fun b hb x => by omega)
            have leV44 : V44.length = K43.length := by rw [eV44]; exact List.length_set
            have ltV44 : (U25).length + 0 < K43.length := (List.getElem?_eq_some_iff.1 ((getq hK43 rw42))).1
            have krV44 : Kp (fun b => b = s) KH0 V44 := krK43.trans kpV44 (fun _ _ x => x) (fun b hb x => by omega)
            have fk45 : Ints (fun b => (b < N ∧ b ≠ s)) V44 (pk) (kl) := kpV44.ii (fk38.lift hK43) (fun b hb => ⟨trivial, fun e => by have h : (b < N ∧ b ≠ s) := hb; have e1 : (b = (U25).length + 0) := e; omega⟩)
            have rw46 : V44[H.length + 0]? = some (CO.row [.int .i64 (0), .int .i64 (0), .slice none 0 0] true none) := kpV44.row (getq hK43 rw39) (by show ¬ (H.length + 0 = (U25).length + 0); omega)
            have rw47 : V44[H.length + 1]? = some (CO.row [.int .i64 (w), .int .i64 (bits), .slice (p).1 (gs).length (p).2] true none) := kpV44.row (getq hK43 rw40) (by show ¬ (H.length + 1 = (U25).length + 0); omega)
            have fk48 : Ints (fun b => (KH0.length ≤ b ∧ b < U25.length)) V44 (q25) (g25.ws) := kpV44.ii (fk41.lift hK43) (fun b hb => ⟨trivial, fun e => by have h : (KH0.length ≤ b ∧ b < U25.length) := hb; have e1 : (b = (U25).length + 0) := e; omega⟩)
            have fk50 : Ints (fun b => (b = U46.length + 0)) V44 (((some ⟨U46.length + 0, 0, none⟩, [(r46 : Int)].length) : Pl)) ([(r46 : Int)]) := kpV44.ii fm47 (fun b hb => ⟨trivial, fun e => by have h : (b = U46.length + 0) := hb; have e1 : (b = (U25).length + 0) := e; omega⟩)
            have rw49 : V44[(U25).length + 0]? = some (CO.row [.int .i64 (14), .slice (((some ⟨U46.length + 0, 0, none⟩, [(r46 : Int)].length) : Pl)).1 ([(r46 : Int)]).length (((some ⟨U46.length + 0, 0, none⟩, [(r46 : Int)].length) : Pl)).2, .int .i64 (0), .int .i64 (0)] true none) := by rw [eV44, List.getElem?_set_self ltV44]
            refine E_nil (AX_E (E_fa rfl (E_ldB (v := .slice _ _ _) rfl (rowGet_c (j := 2) (rowGet_all rw47 rfl) rfl) (E_ldBN rfl (rowGet_all rw49 rfl) (E_mkS (cs := [.int .i64 (14), .slice (((some ⟨U46.length + 0, 0, none⟩, [(r46 : Int)].length) : Pl)).1 ([(r46 : Int)]).length (((some ⟨U46.length + 0, 0, none⟩, [(r46 : Int)].length) : Pl)).2, .int .i64 (0), .int .i64 (0)]) rfl ?_)))))
            obtain ⟨U3, hK3⟩ : ∃ K : Heap, K = V44 ++ [CO.row [.int .i64 (14), .slice (((some ⟨U46.length + 0, 0, none⟩, [(r46 : Int)].length) : Pl)).1 ([(r46 : Int)]).length (((some ⟨U46.length + 0, 0, none⟩, [(r46 : Int)].length) : Pl)).2, .int .i64 (0), .int .i64 (0)] true none] := ⟨_, rfl⟩
            have l3 : U3.length = V44.length + 1 := by rw [hK3]; simp
            have lr3 := krV44.len
            have k3 : Kp (fun _ => False) V44 U3 := by rw [hK3]; exact Kp.app
            have og3 : OwnG U3 (H.length + 2) p gs := (og0.kp krV44 (fun b hb e => by omega)).kp k3 (fun _ _ x => x)
            obtain ⟨ps, ep, gg3, pp3, ii3⟩ := og3
            have iq3 : Ints (fun c => KH0.length ≤ c) U3 (((some ⟨U46.length + 0, 0, none⟩, [(r46 : Int)].length) : Pl)) ((⟨14, [(r46 : Int)], 0, 0⟩ : G)).ws := Cells.congr (k3.ii fk50 (fun _ _ => ⟨trivial, fun x => x⟩)) (fun b hb => by have h : (b = U46.length + 0) := hb; omega) (fun _ _ _ => rfl)
            refine E_hp (h' := U3) hK3.symm (E_appK (k := gs.length) (kx := 1) (p := p) (new := gcells (⟨14, [(r46 : Int)], 0, 0⟩ : G) (((some ⟨U46.length + 0, 0, none⟩, [(r46 : Int)].length) : Pl))) gg3 rfl rfl (by rw [hK3]; show (if 1 * 4 = 0 then some [] else rowGet _ ⟨_, _, none⟩ (1 * 4)) = _; exact rowGet_own (k := 0) rfl) (by decide) (by simp only [roomB]; omega) rfl rfl rfl fun U4 hl4 hg4 hk4 => ?_)
            have og4 : OwnG U4 (H.length + 2) (some ⟨U3.length, 0, none⟩, (gs ++ [(⟨14, [(r46 : Int)], 0, 0⟩ : G)]).length) (gs ++ [(⟨14, [(r46 : Int)], 0, 0⟩ : G)]) := OwnG.add (M := KH0.length) (by omega) ⟨ps, ep, gg3, pp3, ii3⟩ iq3 (ownG_lt og0) (by omega) ps ep ii3 hg4 hk4
            have k4 : ∀ b, b < U3.length → b < H.length + 2 → U4[b]? = U3[b]? := fun b hb hb2 => hk4 b hb fun a ha e => by have := pp3 a ha; omega
            have rz4 := (k4 (H.length + 0) (by omega) (by omega)).trans (k3.row rw46 (fun x => x))
            have rw4 := (k4 (H.length + 1) (by omega) (by omega)).trans (k3.row rw47 (fun x => x))
            have kp4 : Kp (fun b => H.length + 2 ≤ b) V44 U4 := ⟨by omega, fun b hb hn => (k4 b (by omega) (by omega)).trans (k3.keep b hb (fun x => x))⟩
            refine E_fa rfl (E_stX (b := H.length + 1) (o := 0 + 2) (l := [.slice (some ⟨U3.length, 0, none⟩) (gs.length + 1) (gs.length + 1)]) (v := .slice _ _ _) rfl rfl rfl rfl ((congrArg (fun h : Heap => h[H.length + 1]?) (List.append_nil _)).trans rw4) (by simp) rfl rfl fun V eV => ?_)
            have eV2 : V = U4.set (H.length + 1) (CO.row [.int .i64 (w), .int .i64 (bits), .slice (((some ⟨U3.length, 0, none⟩, (gs ++ [(⟨14, [(r46 : Int)], 0, 0⟩ : G)]).length) : Pl)).1 (gs ++ [(⟨14, [(r46 : Int)], 0, 0⟩ : G)]).length (((some ⟨U3.length, 0, none⟩, (gs ++ [(⟨14, [(r46 : Int)], 0, 0⟩ : G)]).length) : Pl)).2] true none) := by rw [eV, List.append_nil]; simp
            have kpV : Kp (fun b => b = H.length + 1) U4 V := by rw [eV2]; exact Kp.set
            have kqV : Kp (fun b => b = s) H V := (kqV44.trans (kp4.trans (S'' := fun b => H.length ≤ b) kpV (fun b _ (x : _ ≤ _) => by omega) (fun b _ (x : _ = _) => by omega)) (fun _ _ x => x) (fun b hb (x : _ ≤ _) => by omega))
            have soV : Sto N V s (k + 1 + 20 * (i + 1)) := ((soV44.kp kp4 (fun b hb (x : _ ≤ _) => by omega)).kp kpV (fun b hb (x : _ = _) => by omega)).mono (by omega)
            have ogV := og4.kp kpV (fun b hb (x : _ = _) => by omega)
            have rzV := kpV.row rz4 (by show ¬ H.length + 0 = H.length + 1; omega)
            have rwV : V[H.length + 1]? = some (CO.row [.int .i64 (w), .int .i64 (bits), .slice (((some ⟨U3.length, 0, none⟩, (gs ++ [(⟨14, [(r46 : Int)], 0, 0⟩ : G)]).length) : Pl)).1 (gs ++ [(⟨14, [(r46 : Int)], 0, 0⟩ : G)]).length (((some ⟨U3.length, 0, none⟩, (gs ++ [(⟨14, [(r46 : Int)], 0, 0⟩ : G)]).length) : Pl)).2] true none) := by rw [eV2, List.getElem?_set_self (List.getElem?_eq_some_iff.1 rw4).1]
            refine E_nil (AX_E (E_addI rfl rfl (by first | omega | (simp; done) | (simp; omega)) (by first | omega | (simp; done) | (simp; omega)) (E_mv (v := .int .i64 (((i : Int) + 1))) rfl (E_nil ?_))))
            refine hN0 (i + 1, gs ++ [(⟨14, [(r46 : Int)], 0, 0⟩ : G)], (some ⟨U3.length, 0, none⟩, (gs ++ [(⟨14, [(r46 : Int)], 0, 0⟩ : G)]).length)) _ _ _ ⟨by first | rfl | (congr 1; omega), by first | rfl | (congr 1; omega), by first | rfl | (congr 1; omega), by first | rfl | (congr 1; omega), by rfl, by rfl, by first | rfl | (congr 1; omega), by rfl, trivial⟩ ⟨?_, ?_⟩ ?_
            -- n2
            all_goals clear hN0 hR0 hE0
            · rw [List.append_nil]
              exact ⟨rfl, kqV, soV, ogV, rzV, rwV⟩
            · refine ⟨by simp; omega, by omega, fun x hx => ?_⟩
              rcases List.mem_append.1 hx with hx | hx
              · exact hg0 x hx
              · simp only [List.mem_singleton] at hx; subst hx; first | exact sg_m hb35 hb39 | exact sg_r hb46 (by omega) | exact sg_up (by omega) hb25 hkk (by omega)
            · (first | omega | (simp; omega))
          · refine E_mv (v := .bool _) rfl (E_nil (AX_condF rfl (AX_seq (AX_E (E_mv (v := .int .i64 (bits)) rfl (E_gtrS rfl rfl (fun c51 => ?_) (fun c51 => ?_)))))))
            · refine E_mv (v := .bool _) rfl (E_on rfl (E_mv (v := .pointer (some ⟨s, 0, none⟩)) rfl (E_on rfl ?_)))
              obtain ⟨r54, U54, hr54, hb54, soU54, kpU54, luU54⟩ := seldom_ret N U43 s _ 4 soU43 (by omega) (by decide)
              have kqU54 : Kp (fun b => b = s) H U54 := kqU43.trans kpU54 (fun _ _ x => x) (fun _ _ x => x)
              have krU54 : Kp (fun b => b = s) KH0 U54 := krU43.trans kpU54 (fun _ _ x => x) (fun _ _ x => x)
              have leU54 : U43.length ≤ U54.length := kpU54.len
              have lhU54 : H.length ≤ U54.length := kqU54.len
              have fk51 : Ints (fun b => (b < N ∧ b ≠ s)) U54 (pk) (kl) := kpU54.ii fk33 (fun b hb => ⟨trivial, fun e => by have h : (b < N ∧ b ≠ s) := hb; have e1 : (b = s) := e; omega⟩)
              have rw52 : U54[H.length + 0]? = some (CO.row [.int .i64 (0), .int .i64 (0), .slice none 0 0] true none) := kpU54.row rw34 (by show ¬ (H.length + 0 = s); omega)
              have rw53 : U54[H.length + 1]? = some (CO.row [.int .i64 (w), .int .i64 (bits), .slice (p).1 (gs).length (p).2] true none) := kpU54.row rw35 (by show ¬ (H.length + 1 = s); omega)
              have fk54 : Ints (fun b => (KH0.length ≤ b ∧ b < U25.length)) U54 (q25) (g25.ws) := kpU54.ii fk36 (fun b hb => ⟨trivial, fun e => by have h : (KH0.length ≤ b ∧ b < U25.length) := hb; have e1 : (b = s) := e; omega⟩)
              have rw55 : U54[(U25).length + 0]? = some (CO.row [.int .i64 (g25.k), .slice (q25).1 (g25.ws).length (q25).2, .int .i64 (g25.b), .int .i64 (g25.f)] true none) := kpU54.row rw37 (by show ¬ ((U25).length + 0 = s); omega)
              refine E_callU rfl hr54 rfl (E_bs (fun c54 => ?_) (fun c54 => ?_))
              · refine E_pickT rfl (v := .bool _) rfl (E_mv (v := .bool _) rfl (E_nil (AX_condT rfl (AX_E (E_mv (v := .pointer (some ⟨s, 0, none⟩)) rfl (E_mv (v := .int .i64 (bits)) rfl ?_))))))
                obtain ⟨r58, U58, hr58, hb58, soU58, kpU58, luU58⟩ := from_ret N U54 s _ 1 bits soU54 (by omega) (by decide) (by omega) (by omega)
                have kqU58 : Kp (fun b => b = s) H U58 := kqU54.trans kpU58 (fun _ _ x => x) (fun _ _ x => x)
                have krU58 : Kp (fun b => b = s) KH0 U58 := krU54.trans kpU58 (fun _ _ x => x) (fun _ _ x => x)
                have leU58 : U54.length ≤ U58.length := kpU58.len
                have lhU58 : H.length ≤ U58.length := kqU58.len
                have fk56 : Ints (fun b => (b < N ∧ b ≠ s)) U58 (pk) (kl) := kpU58.ii fk51 (fun b hb => ⟨trivial, fun e => by have h : (b < N ∧ b ≠ s) := hb; have e1 : (b = s) := e; omega⟩)
                have rw57 : U58[H.length + 0]? = some (CO.row [.int .i64 (0), .int .i64 (0), .slice none 0 0] true none) := kpU58.row rw52 (by show ¬ (H.length + 0 = s); omega)
                have rw58 : U58[H.length + 1]? = some (CO.row [.int .i64 (w), .int .i64 (bits), .slice (p).1 (gs).length (p).2] true none) := kpU58.row rw53 (by show ¬ (H.length + 1 = s); omega)
                have fk59 : Ints (fun b => (KH0.length ≤ b ∧ b < U25.length)) U58 (q25) (g25.ws) := kpU58.ii fk54 (fun b hb => ⟨trivial, fun e => by have h : (KH0.length ≤ b ∧ b < U25.length) := hb; have e1 : (b = s) := e; omega⟩)
                have rw60 : U58[(U25).length + 0]? = some (CO.row [.int .i64 (g25.k), .slice (q25).1 (g25.ws).length (q25).2, .int .i64 (g25.b), .int .i64 (g25.f)] true none) := kpU58.row rw55 (by show ¬ ((U25).length + 0 = s); omega)
                refine E_callU rfl hr58 rfl (E_fa rfl (E_stX (l := [.int .i64 ((r58 : Int))]) (v := .int .i64 ((r58 : Int))) rfl rfl rfl rfl ((congrArg (fun h : Heap => h[(U25).length + 0]?) (List.append_nil _)).trans (rw60)) (by simp) rfl rfl fun V61 hV61 => ?_))
                have eV61 : V61 = U58.set ((U25).length + 0) (CO.row [.int .i64 (g25.k), .slice (q25).1 (g25.ws).length (q25).2, .int .i64 (g25.b), .int .i64 ((r58 : Int))] true none) := by rw [hV61, List.append_nil]; rfl
                have kpV61 : Kp (fun b => b = (U25).length + 0) U58 V61 := by rw [eV61]; exact Kp.set
                have kqV61 : Kp (fun b => b = s) H V61 := kqU58.trans kpV61 (fun _ _ x => x) (fun b hb x => by omega)
                have soV61 : Sto N V61 s (((((((k + 1 + 20 * i) + 1 + w.toNat) + 1) + 1) + 1) + 1)) := soU58.kp kpV61 (fun b hb x => by omega)
                have leV61 : V61.length = U58.length := by rw [eV61]; exact List.length_set
                have ltV61 : (U25).length + 0 < U58.length := (List.getElem?_eq_some_iff.1 (rw60)).1
                have krV61 : Kp (fun b => b = s) KH0 V61 := krU58.trans kpV61 (fun _ _ x => x) (fun b hb x => by omega)
                have fk62 : Ints (fun b => (b < N ∧ b ≠ s)) V61 (pk) (kl) := kpV61.ii fk56 (fun b hb => ⟨trivial, fun e => by have h : (b < N ∧ b ≠ s) := hb; have e1 : (b = (U25).length + 0) := e; omega⟩)
                have rw63 : V61[H.length + 0]? = some (CO.row [.int .i64 (0), .int .i64 (0), .slice none 0 0] true none) := kpV61.row rw57 (by show ¬ (H.length + 0 = (U25).length + 0); omega)
                have rw64 : V61[H.length + 1]? = some (CO.row [.int .i64 (w), .int .i64 (bits), .slice (p).1 (gs).length (p).2] true none) := kpV61.row rw58 (by show ¬ (H.length + 1 = (U25).length + 0); omega)
                have fk65 : Ints (fun b => (KH0.length ≤ b ∧ b < U25.length)) V61 (q25) (g25.ws) := kpV61.ii fk59 (fun b hb => ⟨trivial, fun e => by have h : (KH0.length ≤ b ∧ b < U25.length) := hb; have e1 : (b = (U25).length + 0) := e; omega⟩)
                have rw66 : V61[(U25).length + 0]? = some (CO.row [.int .i64 (g25.k), .slice (q25).1 (g25.ws).length (q25).2, .int .i64 (g25.b), .int .i64 ((r58 : Int))] true none) := by rw [eV61, List.getElem?_set_self ltV61]
                have rw67 : V61[(U25).length + 0]? = some (CO.row [.int .i64 (g25.k), .slice (q25).1 (g25.ws).length (q25).2, .int .i64 (g25.b), .int .i64 ((r58 : Int))] true none) := by rw [eV61, List.getElem?_set_self ltV61]
                refine E_nil (AX_E (E_fa rfl (E_ldB (v := .slice _ _ _) rfl (rowGet_c (j := 2) (rowGet_all rw64 rfl) rfl) (E_ldBN rfl (rowGet_all rw66 rfl) (E_mkS (cs := [.int .i64 (g25.k), .slice (q25).1 (g25.ws).length (q25).2, .int .i64 (g25.b), .int .i64 ((r58 : Int))]) rfl ?_)))))
                obtain ⟨U3, hK3⟩ : ∃ K : Heap, K = V61 ++ [CO.row [.int .i64 (g25.k), .slice (q25).1 (g25.ws).length (q25).2, .int .i64 (g25.b), .int .i64 ((r58 : Int))] true none] := ⟨_, rfl⟩
                have l3 : U3.length = V61.length + 1 := by rw [hK3]; simp
                have lr3 := krV61.len
                have k3 : Kp (fun _ => False) V61 U3 := by rw [hK3]; exact Kp.app
                have og3 : OwnG U3 (H.length + 2) p gs := (og0.kp krV61 (fun b hb e => by omega)).kp k3 (fun _ _ x => x)
                obtain ⟨ps, ep, gg3, pp3, ii3⟩ := og3
                have iq3 : Ints (fun c => KH0.length ≤ c) U3 (q25) ((⟨g25.k, g25.ws, g25.b, (r58 : Int)⟩ : G)).ws := Cells.congr (k3.ii fk65 (fun _ _ => ⟨trivial, fun x => x⟩)) (fun b hb => by have h : (KH0.length ≤ b ∧ b < U25.length) := hb; omega) (fun _ _ _ => rfl)
                refine E_hp (h' := U3) hK3.symm (E_appK (k := gs.length) (kx := 1) (p := p) (new := gcells (⟨g25.k, g25.ws, g25.b, (r58 : Int)⟩ : G) (q25)) gg3 rfl rfl (by rw [hK3]; show (if 1 * 4 = 0 then some [] else rowGet _ ⟨_, _, none⟩ (1 * 4)) = _; exact rowGet_own (k := 0) rfl) (by decide) (by simp only [roomB]; omega) rfl rfl rfl fun U4 hl4 hg4 hk4 => ?_)
                have og4 : OwnG U4 (H.length + 2) (some ⟨U3.length, 0, none⟩, (gs ++ [(⟨g25.k, g25.ws, g25.b, (r58 : Int)⟩ : G)]).length) (gs ++ [(⟨g25.k, g25.ws, g25.b, (r58 : Int)⟩ : G)]) := OwnG.add (M := KH0.length) (by omega) ⟨ps, ep, gg3, pp3, ii3⟩ iq3 (ownG_lt og0) (by omega) ps ep ii3 hg4 hk4
                have k4 : ∀ b, b < U3.length → b < H.length + 2 → U4[b]? = U3[b]? := fun b hb hb2 => hk4 b hb fun a ha e => by have := pp3 a ha; omega
                have rz4 := (k4 (H.length + 0) (by omega) (by omega)).trans (k3.row rw63 (fun x => x))
                have rw4 := (k4 (H.length + 1) (by omega) (by omega)).trans (k3.row rw64 (fun x => x))
                have kp4 : Kp (fun b => H.length + 2 ≤ b) V61 U4 := ⟨by omega, fun b hb hn => (k4 b (by omega) (by omega)).trans (k3.keep b hb (fun x => x))⟩
                refine E_fa rfl (E_stX (b := H.length + 1) (o := 0 + 2) (l := [.slice (some ⟨U3.length, 0, none⟩) (gs.length + 1) (gs.length + 1)]) (v := .slice _ _ _) rfl rfl rfl rfl ((congrArg (fun h : Heap => h[H.length + 1]?) (List.append_nil _)).trans rw4) (by simp) rfl rfl fun V eV => ?_)
                have eV2 : V = U4.set (H.length + 1) (CO.row [.int .i64 (w), .int .i64 (bits), .slice (((some ⟨U3.length, 0, none⟩, (gs ++ [(⟨g25.k, g25.ws, g25.b, (r58 : Int)⟩ : G)]).length) : Pl)).1 (gs ++ [(⟨g25.k, g25.ws, g25.b, (r58 : Int)⟩ : G)]).length (((some ⟨U3.length, 0, none⟩, (gs ++ [(⟨g25.k, g25.ws, g25.b, (r58 : Int)⟩ : G)]).length) : Pl)).2] true none) := by rw [eV, List.append_nil]; simp
                have kpV : Kp (fun b => b = H.length + 1) U4 V := by rw [eV2]; exact Kp.set
                have kqV : Kp (fun b => b = s) H V := (kqV61.trans (kp4.trans (S'' := fun b => H.length ≤ b) kpV (fun b _ (x : _ ≤ _) => by omega) (fun b _ (x : _ = _) => by omega)) (fun _ _ x => x) (fun b hb (x : _ ≤ _) => by omega))
                have soV : Sto N V s (k + 1 + 20 * (i + 1)) := ((soV61.kp kp4 (fun b hb (x : _ ≤ _) => by omega)).kp kpV (fun b hb (x : _ = _) => by omega)).mono (by omega)
                have ogV := og4.kp kpV (fun b hb (x : _ = _) => by omega)
                have rzV := kpV.row rz4 (by show ¬ H.length + 0 = H.length + 1; omega)
                have rwV : V[H.length + 1]? = some (CO.row [.int .i64 (w), .int .i64 (bits), .slice (((some ⟨U3.length, 0, none⟩, (gs ++ [(⟨g25.k, g25.ws, g25.b, (r58 : Int)⟩ : G)]).length) : Pl)).1 (gs ++ [(⟨g25.k, g25.ws, g25.b, (r58 : Int)⟩ : G)]).length (((some ⟨U3.length, 0, none⟩, (gs ++ [(⟨g25.k, g25.ws, g25.b, (r58 : Int)⟩ : G)]).length) : Pl)).2] true none) := by rw [eV2, List.getElem?_set_self (List.getElem?_eq_some_iff.1 rw4).1]
                refine E_nil (AX_E (E_addI rfl rfl (by first | omega | (simp; done) | (simp; omega)) (by first | omega | (simp; done) | (simp; omega)) (E_mv (v := .int .i64 (((i : Int) + 1))) rfl (E_nil ?_))))
                refine hN0 (i + 1, gs ++ [(⟨g25.k, g25.ws, g25.b, (r58 : Int)⟩ : G)], (some ⟨U3.length, 0, none⟩, (gs ++ [(⟨g25.k, g25.ws, g25.b, (r58 : Int)⟩ : G)]).length)) _ _ _ ⟨by first | rfl | (congr 1; omega), by first | rfl | (congr 1; omega), by first | rfl | (congr 1; omega), by first | rfl | (congr 1; omega), by rfl, by rfl, by first | rfl | (congr 1; omega), by rfl, trivial⟩ ⟨?_, ?_⟩ ?_
                -- n3
                all_goals clear hN0 hR0 hE0
                · rw [List.append_nil]
                  exact ⟨rfl, kqV, soV, ogV, rzV, rwV⟩
                · refine ⟨by simp; omega, by omega, fun x hx => ?_⟩
                  rcases List.mem_append.1 hx with hx | hx
                  · exact hg0 x hx
                  · simp only [List.mem_singleton] at hx; subst hx; first | exact sg_m hb35 hb39 | exact sg_r hb46 (by omega) | exact sg_up (by omega) hb25 hkk (by omega)
                · (first | omega | (simp; omega))
              · refine E_pickT rfl (v := .bool _) rfl (E_mv (v := .bool _) rfl (E_nil (AX_condF rfl (AX_skip (AX_E (E_fa rfl (E_ldB (v := .slice _ _ _) rfl (rowGet_c (j := 2) (rowGet_all rw53 rfl) rfl) (E_ldBN rfl (rowGet_all rw55 rfl) (E_mkS (cs := [.int .i64 (g25.k), .slice (q25).1 (g25.ws).length (q25).2, .int .i64 (g25.b), .int .i64 (g25.f)]) rfl ?_)))))))))
                obtain ⟨U3, hK3⟩ : ∃ K : Heap, K = U54 ++ [CO.row [.int .i64 (g25.k), .slice (q25).1 (g25.ws).length (q25).2, .int .i64 (g25.b), .int .i64 (g25.f)] true none] := ⟨_, rfl⟩
                have l3 : U3.length = U54.length + 1 := by rw [hK3]; simp
                have lr3 := krU54.len
                have k3 : Kp (fun _ => False) U54 U3 := by rw [hK3]; exact Kp.app
                have og3 : OwnG U3 (H.length + 2) p gs := (og0.kp krU54 (fun b hb e => by omega)).kp k3 (fun _ _ x => x)
                obtain ⟨ps, ep, gg3, pp3, ii3⟩ := og3
                have iq3 : Ints (fun c => KH0.length ≤ c) U3 (q25) ((⟨g25.k, g25.ws, g25.b, g25.f⟩ : G)).ws := Cells.congr (k3.ii fk54 (fun _ _ => ⟨trivial, fun x => x⟩)) (fun b hb => by have h : (KH0.length ≤ b ∧ b < U25.length) := hb; omega) (fun _ _ _ => rfl)
                refine E_hp (h' := U3) hK3.symm (E_appK (k := gs.length) (kx := 1) (p := p) (new := gcells (⟨g25.k, g25.ws, g25.b, g25.f⟩ : G) (q25)) gg3 rfl rfl (by rw [hK3]; show (if 1 * 4 = 0 then some [] else rowGet _ ⟨_, _, none⟩ (1 * 4)) = _; exact rowGet_own (k := 0) rfl) (by decide) (by simp only [roomB]; omega) rfl rfl rfl fun U4 hl4 hg4 hk4 => ?_)
                have og4 : OwnG U4 (H.length + 2) (some ⟨U3.length, 0, none⟩, (gs ++ [(⟨g25.k, g25.ws, g25.b, g25.f⟩ : G)]).length) (gs ++ [(⟨g25.k, g25.ws, g25.b, g25.f⟩ : G)]) := OwnG.add (M := KH0.length) (by omega) ⟨ps, ep, gg3, pp3, ii3⟩ iq3 (ownG_lt og0) (by omega) ps ep ii3 hg4 hk4
                have k4 : ∀ b, b < U3.length → b < H.length + 2 → U4[b]? = U3[b]? := fun b hb hb2 => hk4 b hb fun a ha e => by have := pp3 a ha; omega
                have rz4 := (k4 (H.length + 0) (by omega) (by omega)).trans (k3.row rw52 (fun x => x))
                have rw4 := (k4 (H.length + 1) (by omega) (by omega)).trans (k3.row rw53 (fun x => x))
                have kp4 : Kp (fun b => H.length + 2 ≤ b) U54 U4 := ⟨by omega, fun b hb hn => (k4 b (by omega) (by omega)).trans (k3.keep b hb (fun x => x))⟩
                refine E_fa rfl (E_stX (b := H.length + 1) (o := 0 + 2) (l := [.slice (some ⟨U3.length, 0, none⟩) (gs.length + 1) (gs.length + 1)]) (v := .slice _ _ _) rfl rfl rfl rfl ((congrArg (fun h : Heap => h[H.length + 1]?) (List.append_nil _)).trans rw4) (by simp) rfl rfl fun V eV => ?_)
                have eV2 : V = U4.set (H.length + 1) (CO.row [.int .i64 (w), .int .i64 (bits), .slice (((some ⟨U3.length, 0, none⟩, (gs ++ [(⟨g25.k, g25.ws, g25.b, g25.f⟩ : G)]).length) : Pl)).1 (gs ++ [(⟨g25.k, g25.ws, g25.b, g25.f⟩ : G)]).length (((some ⟨U3.length, 0, none⟩, (gs ++ [(⟨g25.k, g25.ws, g25.b, g25.f⟩ : G)]).length) : Pl)).2] true none) := by rw [eV, List.append_nil]; simp
                have kpV : Kp (fun b => b = H.length + 1) U4 V := by rw [eV2]; exact Kp.set
                have kqV : Kp (fun b => b = s) H V := (kqU54.trans (kp4.trans (S'' := fun b => H.length ≤ b) kpV (fun b _ (x : _ ≤ _) => by omega) (fun b _ (x : _ = _) => by omega)) (fun _ _ x => x) (fun b hb (x : _ ≤ _) => by omega))
                have soV : Sto N V s (k + 1 + 20 * (i + 1)) := ((soU54.kp kp4 (fun b hb (x : _ ≤ _) => by omega)).kp kpV (fun b hb (x : _ = _) => by omega)).mono (by omega)
                have ogV := og4.kp kpV (fun b hb (x : _ = _) => by omega)
                have rzV := kpV.row rz4 (by show ¬ H.length + 0 = H.length + 1; omega)
                have rwV : V[H.length + 1]? = some (CO.row [.int .i64 (w), .int .i64 (bits), .slice (((some ⟨U3.length, 0, none⟩, (gs ++ [(⟨g25.k, g25.ws, g25.b, g25.f⟩ : G)]).length) : Pl)).1 (gs ++ [(⟨g25.k, g25.ws, g25.b, g25.f⟩ : G)]).length (((some ⟨U3.length, 0, none⟩, (gs ++ [(⟨g25.k, g25.ws, g25.b, g25.f⟩ : G)]).length) : Pl)).2] true none) := by rw [eV2, List.getElem?_set_self (List.getElem?_eq_some_iff.1 rw4).1]
                refine E_nil (AX_E (E_addI rfl rfl (by first | omega | (simp; done) | (simp; omega)) (by first | omega | (simp; done) | (simp; omega)) (E_mv (v := .int .i64 (((i : Int) + 1))) rfl (E_nil ?_))))
                refine hN0 (i + 1, gs ++ [(⟨g25.k, g25.ws, g25.b, g25.f⟩ : G)], (some ⟨U3.length, 0, none⟩, (gs ++ [(⟨g25.k, g25.ws, g25.b, g25.f⟩ : G)]).length)) _ _ _ ⟨by first | rfl | (congr 1; omega), by first | rfl | (congr 1; omega), by first | rfl | (congr 1; omega), by first | rfl | (congr 1; omega), by rfl, by rfl, by first | rfl | (congr 1; omega), by rfl, trivial⟩ ⟨?_, ?_⟩ ?_
                -- n4
                all_goals clear hN0 hR0 hE0
                · rw [List.append_nil]
                  exact ⟨rfl, kqV, soV, ogV, rzV, rwV⟩
                · refine ⟨by simp; omega, by omega, fun x hx => ?_⟩
                  rcases List.mem_append.1 hx with hx | hx
                  · exact hg0 x hx
                  · simp only [List.mem_singleton] at hx; subst hx; first | exact sg_m hb35 hb39 | exact sg_r hb46 (by omega) | exact sg_up (by omega) hb25 hkk (by omega)
                · (first | omega | (simp; omega))
            · omega
      · omega
    · refine E_nil (AX_seq (AX_condF rfl (AX_exit (hE0 _ _ _ _ (AX_seq (AX_E (E_ldBN rfl (rowGet_all rw0 rfl) (E_stX (l := [.int .i64 (w), .int .i64 (bits), .slice (p).1 (gs).length (p).2]) (v := .agg _) rfl rfl rfl rfl ((congrArg (fun h : Heap => h[H.length + 0]?) (List.append_nil _)).trans (rz0)) (by simp) rfl rfl fun V68 hV68 => ?_))))))))
      have eV68 : V68 = KH0.set (H.length + 0) (CO.row [.int .i64 (w), .int .i64 (bits), .slice (p).1 (gs).length (p).2] true none) := by rw [hV68, List.append_nil]; rfl
      have kpV68 : Kp (fun b => b = H.length + 0) KH0 V68 := by rw [eV68]; exact Kp.set
      have kqV68 : Kp (fun b => b = s) H V68 := kqKH0.trans kpV68 (fun _ _ x => x) (fun b hb x => by omega)
      have soV68 : Sto N V68 s ((k + 1 + 20 * i)) := soKH0.kp kpV68 (fun b hb x => by omega)
      have leV68 : V68.length = KH0.length := by rw [eV68]; exact List.length_set
      have ltV68 : H.length + 0 < KH0.length := (List.getElem?_eq_some_iff.1 (rz0)).1
      have fk69 : Ints (fun b => (b < N ∧ b ≠ s)) V68 (pk) (kl) := kpV68.ii fkl0 (fun b hb => ⟨trivial, fun e => by have h : (b < N ∧ b ≠ s) := hb; have e1 : (b = H.length + 0) := e; omega⟩)
      have rw70 : V68[H.length + 0]? = some (CO.row [.int .i64 (w), .int .i64 (bits), .slice (p).1 (gs).length (p).2] true none) := by rw [eV68, List.getElem?_set_self ltV68]
      have rw71 : V68[H.length + 1]? = some (CO.row [.int .i64 (w), .int .i64 (bits), .slice (p).1 (gs).length (p).2] true none) := kpV68.row rw0 (by show ¬ (H.length + 1 = H.length + 0); omega)
      refine E_nil (AX_ret ?_)
      simp only [List.append_nil, List.foldl_nil]
      refine ⟨_, res_x rfl rw70 rfl, by simp, ?_⟩
      have ogE := og0.kp kpV68 (fun b hb (x : _ = _) => by omega)
      refine ⟨gs, p, rfl, ⟨by omega, hg0⟩, ?_⟩
      unfold forget
      split
      · rename_i hf
        have hn : gs = [] ∧ p = (none, 0) := ownG_flat og0 hf.1
        rw [hn.1, hn.2]
        exact ⟨Gates.nil, (soV68.pre hf.2 hNH).mono (by omega), kqH⟩
      · refine ⟨?_, soV68.mono (by omega), kqV68⟩
        obtain ⟨ps, e, a, b⟩ := ogE.gates
        exact ⟨ps, e, Cells.congr a (fun b hb => by have : H.length + 2 ≤ b := hb; omega) (fun _ _ _ => rfl), fun i h1 h2 => Cells.congr (b i h1 h2) (fun b hb => by have : H.length + 2 ≤ b := hb; omega) (fun _ _ _ => rfl)⟩
  obtain ⟨n, v, u, hr, g, q, rfl, h⟩ := key
  exact ⟨g, q, u, ⟨n, hr⟩, h⟩
end Go.Canon
namespace Go.Canon
open Go Go.Proofs
set_option linter.unusedVariables false
set_option linter.unusedSimpArgs false
def kf247 : KFunc := ⟨1, 8, [.tmp 2], .seq (.reg [⟨some 2, .mv (.c (.slice none 0 0)), none⟩] []) (.seq (.seq (.reg [⟨some 3, .mv (.t 0), none⟩, ⟨some 4, .eqN false 0 (.t 3), none⟩] []) (.cond (.t 4) (.seq (.reg [⟨some 2, .mv (.c (.slice none 0 0)), none⟩] []) .ret) .skip)) (.seq (.reg [⟨some 5, .mkS [] 0 [], none⟩, ⟨some 6, .mv (.t 0), none⟩, ⟨some 7, .app (.t 5) (.t 6) 1 1, none⟩, ⟨some 2, .mv (.t 7), none⟩] []) .ret))⟩
theorem k247 : tab Tryd.prog 47 = some kf247 := by kernel_rfl
def kf210 : KFunc := ⟨1, 11, [.tmp 2], .seq (.reg [⟨some 2, .mv (.c (.pointer none)), none⟩] []) (.seq (.reg [⟨some 3, .mv (.t 0), none⟩, ⟨some 4, .mv (.t 0), none⟩, ⟨some 5, .len (.t 4), none⟩, ⟨some 6, .mn [.t 5, .c (.int .i64 300)], none⟩, ⟨some 7, .slS (.t 3) none (some (.t 6)) none 1, none⟩, ⟨some 8, .call (.c (.func (.func 47) #[] #[])) [.t 7], none⟩, ⟨some 9, .mk [.slice none 0 0, .int .i64 0, .int .u32 0] [(0, 1, .t 8), (2, 1, .c (.int .u32 2463534242))], none⟩, ⟨some 10, .box (.t 9), none⟩, ⟨some 2, .mv (.t 10), none⟩] []) .ret)⟩
theorem k210 : tab Tryd.prog 10 = some kf210 := by kernel_rfl
def kf209 : KFunc := ⟨2, 17, [.cell 4 (some 3)], .seq (.reg [⟨some 4, .new [.int .i64 0, .int .i64 0, .slice none 0 0], none⟩] []) (.seq (.reg [⟨some 6, .mv (.t 0), none⟩, ⟨some 7, .call (.c (.func (.func 20) #[] #[])) [.t 6, .c (.int .i64 1), .c (.int .i64 4)], none⟩, ⟨some 5, .mv (.t 7), none⟩] []) (.seq (.seq (.reg [⟨some 8, .mv (.t 1), none⟩] []) (.cond (.t 8) (.seq (.reg [⟨some 9, .mv (.t 0), none⟩, ⟨some 10, .mv (.t 5), none⟩, ⟨some 11, .ld (.c (.pointer (some ⟨0, 0, none⟩))) none, none⟩, ⟨some 12, .call (.c (.func (.func 21) #[] #[])) [.t 9, .t 10, .c (.int .i64 14), .t 11], none⟩, ⟨none, .st (.t 4) (.t 12) 3, none⟩] []) .ret) .skip)) (.seq (.reg [⟨some 13, .mv (.t 0), none⟩, ⟨some 14, .mv (.t 5), none⟩, ⟨some 15, .ld (.c (.pointer (some ⟨0, 0, none⟩))) none, none⟩, ⟨some 16, .call (.c (.func (.func 46) #[] #[])) [.t 13, .t 14, .c (.int .i64 2), .c (.int .i64 14), .t 15], none⟩, ⟨none, .st (.t 4) (.t 16) 3, none⟩] []) .ret)))⟩
theorem k209 : tab Tryd.prog 9 = some kf209 := by kernel_rfl
/-- A list of bytes. -/
def Byts (S : Nat → Prop) (h : Heap) (p : Pl) (l : List Int) : Prop := Cells S h 1 p l.length (l.map (.int .u8 ·))
theorem clone8_ret (H : Heap) (p : Pl) (l : List Int) {S : Nat → Prop} (hv : Byts S H p l) (hl : l.length < 4294967296) : ∃ X q, Ret (tab Tryd.prog) 47 [.slice p.1 l.length p.2] H (.slice q.1 l.length q.2) (H ++ X) ∧ Byts (fun b => H.length ≤ b) (H ++ X) q l := by
  have key := Ret_grow (T := tab Tryd.prog) (f := 47) (args := [.slice p.1 l.length p.2]) (h := H) (fun u X => ∃ q : Pl, u = .slice q.1 l.length q.2 ∧ Byts (fun b => H.length ≤ b) (H ++ X) q l) k247 rfl ?_
  · obtain ⟨u, X, hr, q, rfl, f1⟩ := key
    exact ⟨X, q, hr, f1⟩
  refine AX_seq (AX_E (E_mv (v := .slice _ _ _) rfl (E_nil (AX_seq (AX_seq (AX_E (E_mv (v := .slice _ _ _) rfl (E_eqN (b := (p).1.isNone) rfl (E_bs (fun c4 => ?_) (fun c4 => ?_))))))))))
  · refine E_nil (AX_condT rfl (AX_seq (AX_E (E_mv (v := .slice _ _ _) rfl (E_nil (AX_ret ?_))))))
    have hp : p.1 = none := by simpa using c4
    have hl0 : l = [] := by
      obtain ⟨h1, h2, ⟨h3, h4⟩ | ⟨b, o, cs, wr, gr, e1, _⟩⟩ := hv
      · exact List.length_eq_zero_iff.1 (by omega)
      · rw [hp] at e1; cases e1
    subst hl0
    refine ⟨_, rfl, by simp, [], forget_nil rfl (List.prefix_append _ _), (none, 0), rfl, ?_⟩
    exact ⟨rfl, Nat.le_refl _, .inl ⟨rfl, rfl⟩⟩
  · refine E_nil (AX_condF rfl (AX_skip (AX_seq (AX_E (E_mkS (cs := []) rfl (E_mv (v := .slice _ _ _) rfl (E_app0 (k := 0) rfl rfl rfl (Cells.first (Cells.app hv)) (by simp only [roomB]; omega) (by simp) fun W q hW => (E_mv (v := .slice _ _ _) rfl (E_nil (AX_ret ?_))))))))))
    have hq : q.1 ≠ none := by rcases hW with ⟨_, rfl, _⟩ | ⟨_, rfl, _⟩ <;> simp
    refine ⟨_, rfl, by simp, _, forget_more (v := .slice q.1 l.length q.2) (by rcases h : flat2 (.slice q.1 l.length q.2); rfl; exact (hq (sl_flat h)).elim), q, rfl, ?_⟩
    rcases hW with ⟨h0, rfl, rfl⟩ | ⟨_, rfl, rfl⟩
    · have : l = [] := List.length_eq_zero_iff.1 h0
      rw [this]
      exact ⟨rfl, by simp, .inr ⟨H.length + 0, 0, [], true, none, rfl, by simp, by simp, .inl rfl, .inl rfl⟩⟩
    · exact ⟨by simp, by simp, .inr ⟨H.length + 1, 0, l.map (.int .u8 ·), true, some 1, rfl, by simp, by simp, .inr rfl, .inr ⟨by simp, by rw [List.drop_zero, List.take_of_length_le (by simp)]⟩⟩⟩
section
variable {B : Nat → Prop} {T : Nat → Option KFunc} {fi : FI} {prs : List (Nat × Nat)} {i : Nat} {d : Option Nat} {r : List KOper} {fr : Nat → Value} {h u : Heap} {m : List Nat} {K : (Nat → Value) → Heap → List Nat → Prop}
theorem E_mn2 {x y : KO} {a b : Int} (hx : x.ev fr = .int .i64 a) (hy : y.ev fr = .int .i64 b) (H : AE B T fi prs (i + 1) r (put fr d (.int .i64 (if b < a then b else a))) h m K) : AE B T fi prs i (⟨d, .mn [x, y], none⟩ :: r) fr h m K := by
  refine E_no ?_ H
  simp [kop, hx, hy, ints, asI64, least]
end
theorem byts_take {S : Nat → Prop} {h : Heap} {p : Pl} {l : List Int} (H : Byts S h p l) (k : Nat) : Byts S h p (l.take k) := by
  have := Cells.take H (j := (l.take k).length) (by simp; omega)
  rwa [show (l.map (Value.int .u8 ·)).take ((l.take k).length * 1) = (l.take k).map (.int .u8 ·) by rw [Nat.mul_one, List.map_take, List.length_take, ← List.take_take, List.take_of_length_le (l := l.map _) (by simp)]] at this
theorem rowGet_lt' {h : Heap} {a : Addr} {n : Nat} {l : List Value} (H : rowGet h a n = some l) : a.block < h.length := by
  unfold rowGet at H
  split at H
  · rename_i hr; exact (List.getElem?_eq_some_iff.1 hr).1
  · cases H
theorem byts_sb {S : Nat → Prop} {h X : Heap} {q : Pl} {l : List Int} (H : Byts S h q l) : SB (h ++ X).length (h ++ X) h.length q l := by
  intro j hj
  obtain ⟨b, o, e, hr⟩ := Cells.row H (j := j) (k := 1) (by decide) (by omega)
  have hb := rowGet_lt' hr
  have hb : b < h.length := hb
  refine ⟨b, o, l[j], e, by omega, by simp; omega, ?_⟩
  rw [rowGet_base hr]
  congr 1
  rw [List.drop_eq_getElem_cons (by simpa using hj)]
  simp
theorem sof_ret (H : Heap) (p : Pl) (l : List Int) {S : Nat → Prop} (hv : Byts S H p l) (hl : l.length < 9223372036854775808) : ∃ (s : Nat) (X : Heap), Ret (tab Tryd.prog) 10 [.slice p.1 l.length p.2] H (.pointer (some ⟨s, 0, none⟩)) (H ++ X) ∧ H.length ≤ s ∧ Sto (H ++ X).length (H ++ X) s 0 := by
  have key := Ret_grow (T := tab Tryd.prog) (f := 10) (args := [.slice p.1 l.length p.2]) (h := H) (fun u X => ∃ s : Nat, u = .pointer (some ⟨s, 0, none⟩) ∧ H.length ≤ s ∧ Sto (H ++ X).length (H ++ X) s 0) k210 rfl ?_
  · obtain ⟨u, X, hr, s, rfl, f1⟩ := key
    exact ⟨s, X, hr, f1⟩
  refine AX_seq (AX_E (E_mv (v := .pointer none) rfl (E_nil (AX_seq (AX_E (E_mv (v := .slice _ _ _) rfl (E_mv (v := .slice _ _ _) rfl (E_len (n := (l).length) rfl (E_mn2 rfl rfl (E_slHi (j := (l.take 300).length) rfl (Cells.app hv) rfl (by rw [List.length_take]; split <;> omega) (by simp; omega) ?_))))))))))
  obtain ⟨X8, q8, hr8, f8⟩ := clone8_ret (H ++ []) p (l.take 300) (byts_take (Cells.app hv) 300) (by simp; omega)
  refine E_callX (X := X8) rfl (hr8) (E_mk (cs := [.slice q8.1 (l.take 300).length q8.2, .int .i64 (0), .int .u32 (2463534242)]) rfl (E_boxA rfl (E_mv (v := .pointer _) rfl (E_nil (AX_ret ?_)))))
  have f8 := f8
  rw [List.append_nil] at f8
  refine ⟨_, rfl, by simp, X8 ++ [CO.row [.slice q8.1 (l.take 300).length q8.2, .int .i64 (0), .int .u32 (2463534242)] true none], ?_, (H ++ X8).length, ?_, by simp, ?_⟩
  · rw [forget_more rfl]; simp
  · show Value.pointer (some ⟨(H ++ ([] ++ X8)).length + 0, 0, none⟩) = _; simp
  · rw [← List.append_assoc]
    exact ⟨by simp, Nat.le_refl _, q8, l.take 300, 0, 2463534242, by rw [List.getElem?_append_right (Nat.le_refl _)]; simp, byts_sb f8, by decide, by decide, ⟨by decide, by decide⟩, by simp; omega⟩
theorem forget_or {h u : Heap} {v : Value} : forget h v u = u ∨ (flat2 v = true ∧ h <+: u ∧ forget h v u = h) := by
  unfold forget
  split
  · rename_i hh; exact .inr ⟨hh.1, hh.2, rfl⟩
  · exact .inl rfl
theorem gates_flat {S : Nat → Prop} {h : Heap} {p : Pl} {gs : List G} {w b : Int} (H : Gates S h p gs) (hf : flat2 (.agg #[.int .i64 w, .int .i64 b, .slice p.1 gs.length p.2]) = true) : gs = [] ∧ p = (none, 0) := by
  obtain ⟨ps, e, ⟨_, h2, ⟨h3, h4⟩ | ⟨b', o, cs, wr, gr, e1, _⟩⟩, _⟩ := H
  · exact ⟨List.length_eq_zero_iff.1 (by omega), by rw [← h3, ← h4]⟩
  · rw [e1] at hf; exact absurd hf (by simp [flat2, flat1, flat0])
theorem steered_ret (N : Nat) (H : Heap) (s k : Nat) (pl : Bool) (pk : Pl) (kl : List Int) (hs : Sto N H s k) (hk : k < 4611686018427360000) (hg : rowGet H ⟨0, 0, none⟩ 1 = some [.slice pk.1 kl.length pk.2]) (h0 : 0 < N ∧ 0 ≠ s) (hkl : Ints (fun b => b < N ∧ b ≠ s) H pk kl) (hne : 0 < kl.length ∧ kl.length < 100) (hkk : ∀ x ∈ kl, 1 ≤ x ∧ x ≤ 12) (h1 : arityM (kl[0]'hne.1) = 1) :
    ∃ (c : C) (q : Pl) (u : Heap), Ret (tab Tryd.prog) 9 [.pointer (some ⟨s, 0, none⟩), .bool pl] H (cv c q) u ∧ (checkM c = 0 ∧ c.w ≤ 4 ∧ c.b ≤ 2 ∧ c.gs.length ≤ 14) ∧ Gates (fun b => H.length ≤ b) u q c.gs ∧ Sto N u s (k + 4000) ∧ Kp (fun b => b = s) H u := by
  have key : ACall (tab Tryd.prog) 9 [.pointer (some ⟨s, 0, none⟩), .bool pl] H fun v u => ∃ (c : C) (q : Pl), v = cv c q ∧ (checkM c = 0 ∧ c.w ≤ 4 ∧ c.b ≤ 2 ∧ c.gs.length ≤ 14) ∧ Gates (fun b => H.length ≤ b) u q c.gs ∧ Sto N u s (k + 4000) ∧ Kp (fun b => b = s) H u := by
    have kqH : Kp (fun b => b = s) H H := ⟨Nat.le_refl _, fun _ _ _ => rfl⟩
    have soH := hs
    have hsN := hs.1
    have hNH := hs.2.1
    refine ACall_ownR k209 rfl ?_
    refine AX_seq (AX_E (E_new (E_nil (AX_seq (AX_E (E_mv (v := .pointer (some ⟨s, 0, none⟩)) rfl ?_))))))
    obtain ⟨K1, hK1⟩ : ∃ K : Heap, K = H ++ ([CO.row [.int .i64 (0), .int .i64 (0), .slice none 0 0] true none] ++ []) := ⟨_, rfl⟩
    have lK1 : H.length + 1 ≤ K1.length := by rw [hK1]; simp only [List.length_append, List.length_cons, List.length_nil]; omega
    have pK1 : H <+: K1 := by rw [hK1]; exact List.prefix_append _ _
    have soK1 : Sto N K1 s (k) := soH.kp (S := fun _ => False) (by rw [hK1]; exact Kp.app) (fun b _ h => h)
    have kqK1 : Kp (fun b => b = s) H K1 := kqH.trans (S' := fun _ => False) (by rw [hK1]; exact Kp.app) (fun _ _ x => x) (fun _ _ x => x.elim)
    obtain ⟨r7, U7, hr7, hb7, soU7, kpU7, luU7⟩ := from_ret N K1 s k 1 4 soK1 (by omega) (by decide) (by decide) (by decide)
    have kqU7 : Kp (fun b => b = s) H U7 := kqK1.trans kpU7 (fun _ _ x => x) (fun _ _ x => x)
    have leU7 : K1.length ≤ U7.length := kpU7.len
    have lhU7 : H.length ≤ U7.length := kqU7.len
    have rw2 : U7[(H).length + 0]? = some (CO.row [.int .i64 (0), .int .i64 (0), .slice none 0 0] true none) := kpU7.row (get_own hK1 (k := 0) rfl) (by show ¬ ((H).length + 0 = s); omega)
    refine E_hp (h' := K1 ++ []) (((List.append_nil _).symm.trans (congrArg (fun x : Heap => (H ++ x) ++ []) (List.append_nil _).symm)).trans (congrArg (fun x : Heap => x ++ []) hK1.symm)) (E_callU rfl hr7 rfl (E_mv (v := .int .i64 ((r7 : Int))) rfl (E_nil (AX_seq (AX_seq (AX_E (E_mv (v := .bool _) rfl (E_bs (fun c8 => ?_) (fun c8 => ?_)))))))))
    · refine E_nil (AX_condT rfl (AX_seq (AX_E (E_mv (v := .pointer (some ⟨s, 0, none⟩)) rfl (E_mv (v := .int .i64 ((r7 : Int))) rfl (E_ldB (v := .slice _ _ _) rfl ((rowGet_ne (kqU7.keep 0 (by omega) h0.2)).trans hg) ?_))))))
      obtain ⟨gs12, q12, U12, hr12, hb12, ga12, soU12, kpU12⟩ := scirc_ret N U7 s _ r7 14 pk kl soU7 (by omega) (by omega) (by decide) (kqU7.ii hkl (fun b hb => ⟨trivial, hb.2⟩)) hne hkk h1
      have kqU12 : Kp (fun b => b = s) H U12 := kqU7.trans kpU12 (fun _ _ x => x) (fun _ _ x => x)
      have leU12 : U7.length ≤ U12.length := kpU12.len
      have lhU12 : H.length ≤ U12.length := kqU12.len
      have rw3 : U12[(H).length + 0]? = some (CO.row [.int .i64 (0), .int .i64 (0), .slice none 0 0] true none) := kpU12.row rw2 (by show ¬ ((H).length + 0 = s); omega)
      have fk4 : Ints (fun b => (b < N ∧ b ≠ s)) U12 (pk) (kl) := kpU12.ii (kqU7.ii hkl (fun b hb => ⟨trivial, hb.2⟩)) (fun b hb => ⟨trivial, fun e => by have h : (b < N ∧ b ≠ s) := hb; have e1 : (b = s) := e; omega⟩)
      refine E_callU rfl hr12 rfl (E_stX (l := [.int .i64 ((r7 : Int)), .int .i64 (0), .slice (q12).1 (gs12).length (q12).2]) (v := .agg _) rfl rfl rfl rfl ((congrArg (fun h : Heap => h[(H).length + 0]?) (List.append_nil _)).trans (rw3)) (by simp) rfl rfl fun V5 hV5 => ?_)
      have eV5 : V5 = U12.set ((H).length + 0) (CO.row [.int .i64 ((r7 : Int)), .int .i64 (0), .slice (q12).1 (gs12).length (q12).2] true none) := by rw [hV5, List.append_nil]; rfl
      have kpV5 : Kp (fun b => b = (H).length + 0) U12 V5 := by rw [eV5]; exact Kp.set
      have kqV5 : Kp (fun b => b = s) H V5 := kqU12.trans kpV5 (fun _ _ x => x) (fun b hb x => by omega)
      have soV5 : Sto N V5 s (((k + 1) + 3000)) := soU12.kp kpV5 (fun b hb x => by omega)
      have leV5 : V5.length = U12.length := by rw [eV5]; exact List.length_set
      have ltV5 : (H).length + 0 < U12.length := (List.getElem?_eq_some_iff.1 (rw3)).1
      have fk7 : Gates (fun b => (U7.length ≤ b)) V5 (q12) (gs12) := kpV5.ga ga12 (fun b hb => ⟨trivial, fun e => by have h : (U7.length ≤ b) := hb; have e1 : (b = (H).length + 0) := e; omega⟩)
      have rw6 : V5[(H).length + 0]? = some (CO.row [.int .i64 ((r7 : Int)), .int .i64 (0), .slice (q12).1 (gs12).length (q12).2] true none) := by rw [eV5, List.getElem?_set_self ltV5]
      have fk8 : Ints (fun b => (b < N ∧ b ≠ s)) V5 (pk) (kl) := kpV5.ii fk4 (fun b hb => ⟨trivial, fun e => by have h : (b < N ∧ b ≠ s) := hb; have e1 : (b = (H).length + 0) := e; omega⟩)
      refine E_nil (AX_ret ?_)
      simp only [List.append_nil, List.foldl_nil]
      refine ⟨_, res_x rfl rw6 rfl, by simp, ?_⟩
      refine ⟨⟨r7, 0, gs12⟩, q12, rfl, ⟨checkM_of (by omega) (by decide) (by have := hb12.1; omega) (fun g hg => (hb12.2 g hg).1), by show (r7 : Int) ≤ 4; omega, by show (0 : Int) ≤ 2; decide, by have := hb12.1; show gs12.length ≤ 14; omega⟩, ?_⟩
      rcases forget_or (h := H) (u := V5) (v := .agg #[.int .i64 ((r7 : Int)), .int .i64 (0), .slice (q12).1 (gs12).length (q12).2]) with e | ⟨e1, e2, e3⟩
      · refine (show forget H _ V5 = V5 from e).symm ▸ ⟨?_, soV5.mono (by omega), kqV5⟩
        have ga := kpV5.ga ga12 (fun b hb => ⟨trivial, fun e => by have h : U7.length ≤ b := hb; have e1 : b = H.length + 0 := e; omega⟩)
        obtain ⟨ps, e, a, b⟩ := ga
        exact ⟨ps, e, Cells.congr a (fun b hb => by have : U7.length ≤ b := hb; omega) (fun _ _ _ => rfl), fun i h1 h2 => Cells.congr (b i h1 h2) (fun b hb => by have : U7.length ≤ b := hb; omega) (fun _ _ _ => rfl)⟩
      · have hn : gs12 = [] ∧ q12 = (none, 0) := gates_flat ga12 e1
        refine (show forget H _ V5 = H from e3).symm ▸ ⟨?_, (soV5.pre e2 hNH).mono (by omega), kqH⟩
        rw [hn.1, hn.2]; exact Gates.nil
    · refine E_nil (AX_condF rfl (AX_skip (AX_seq (AX_E (E_mv (v := .pointer (some ⟨s, 0, none⟩)) rfl (E_mv (v := .int .i64 ((r7 : Int))) rfl (E_ldB (v := .slice _ _ _) rfl ((rowGet_ne (kqU7.keep 0 (by omega) h0.2)).trans hg) ?_)))))))
      obtain ⟨gs16, q16, U16, hr16, hb16, ga16, soU16, kpU16⟩ := sste_ret N U7 s _ r7 2 14 pk kl soU7 (by omega) (by omega) (by decide) (by decide) (kqU7.ii hkl (fun b hb => ⟨trivial, hb.2⟩)) hne hkk h1
      have kqU16 : Kp (fun b => b = s) H U16 := kqU7.trans kpU16 (fun _ _ x => x) (fun _ _ x => x)
      have leU16 : U7.length ≤ U16.length := kpU16.len
      have lhU16 : H.length ≤ U16.length := kqU16.len
      have rw9 : U16[(H).length + 0]? = some (CO.row [.int .i64 (0), .int .i64 (0), .slice none 0 0] true none) := kpU16.row rw2 (by show ¬ ((H).length + 0 = s); omega)
      have fk10 : Ints (fun b => (b < N ∧ b ≠ s)) U16 (pk) (kl) := kpU16.ii (kqU7.ii hkl (fun b hb => ⟨trivial, hb.2⟩)) (fun b hb => ⟨trivial, fun e => by have h : (b < N ∧ b ≠ s) := hb; have e1 : (b = s) := e; omega⟩)
      refine E_callU rfl hr16 rfl (E_stX (l := [.int .i64 ((r7 : Int)), .int .i64 (2), .slice (q16).1 (gs16).length (q16).2]) (v := .agg _) rfl rfl rfl rfl ((congrArg (fun h : Heap => h[(H).length + 0]?) (List.append_nil _)).trans (rw9)) (by simp) rfl rfl fun V11 hV11 => ?_)
      have eV11 : V11 = U16.set ((H).length + 0) (CO.row [.int .i64 ((r7 : Int)), .int .i64 (2), .slice (q16).1 (gs16).length (q16).2] true none) := by rw [hV11, List.append_nil]; rfl
      have kpV11 : Kp (fun b => b = (H).length + 0) U16 V11 := by rw [eV11]; exact Kp.set
      have kqV11 : Kp (fun b => b = s) H V11 := kqU16.trans kpV11 (fun _ _ x => x) (fun b hb x => by omega)
      have soV11 : Sto N V11 s (((k + 1) + 3000)) := soU16.kp kpV11 (fun b hb x => by omega)
      have leV11 : V11.length = U16.length := by rw [eV11]; exact List.length_set
      have ltV11 : (H).length + 0 < U16.length := (List.getElem?_eq_some_iff.1 (rw9)).1
      have fk13 : Gates (fun b => (U7.length ≤ b)) V11 (q16) (gs16) := kpV11.ga ga16 (fun b hb => ⟨trivial, fun e => by have h : (U7.length ≤ b) := hb; have e1 : (b = (H).length + 0) := e; omega⟩)
      have rw12 : V11[(H).length + 0]? = some (CO.row [.int .i64 ((r7 : Int)), .int .i64 (2), .slice (q16).1 (gs16).length (q16).2] true none) := by rw [eV11, List.getElem?_set_self ltV11]
      have fk14 : Ints (fun b => (b < N ∧ b ≠ s)) V11 (pk) (kl) := kpV11.ii fk10 (fun b hb => ⟨trivial, fun e => by have h : (b < N ∧ b ≠ s) := hb; have e1 : (b = (H).length + 0) := e; omega⟩)
      refine E_nil (AX_ret ?_)
      simp only [List.append_nil, List.foldl_nil]
      refine ⟨_, res_x rfl rw12 rfl, by simp, ?_⟩
      refine ⟨⟨r7, 2, gs16⟩, q16, rfl, ⟨checkM_of (by omega) (by decide) (by have := hb16.1; omega) (fun g hg => (hb16.2 g hg).1), by show (r7 : Int) ≤ 4; omega, by show (2 : Int) ≤ 2; decide, by have := hb16.1; show gs16.length ≤ 14; omega⟩, ?_⟩
      rcases forget_or (h := H) (u := V11) (v := .agg #[.int .i64 ((r7 : Int)), .int .i64 (2), .slice (q16).1 (gs16).length (q16).2]) with e | ⟨e1, e2, e3⟩
      · refine (show forget H _ V11 = V11 from e).symm ▸ ⟨?_, soV11.mono (by omega), kqV11⟩
        have ga := kpV11.ga ga16 (fun b hb => ⟨trivial, fun e => by have h : U7.length ≤ b := hb; have e1 : b = H.length + 0 := e; omega⟩)
        obtain ⟨ps, e, a, b⟩ := ga
        exact ⟨ps, e, Cells.congr a (fun b hb => by have : U7.length ≤ b := hb; omega) (fun _ _ _ => rfl), fun i h1 h2 => Cells.congr (b i h1 h2) (fun b hb => by have : U7.length ≤ b := hb; omega) (fun _ _ _ => rfl)⟩
      · have hn : gs16 = [] ∧ q16 = (none, 0) := gates_flat ga16 e1
        refine (show forget H _ V11 = H from e3).symm ▸ ⟨?_, (soV11.pre e2 hNH).mono (by omega), kqH⟩
        rw [hn.1, hn.2]; exact Gates.nil
  obtain ⟨n, v, u, hr, c, q, rfl, h⟩ := key
  exact ⟨c, q, u, ⟨n, hr⟩, h⟩
end Go.Canon
namespace Go.Canon
open Go Go.Proofs
set_option linter.unusedVariables false
set_option linter.unusedSimpArgs false
end Go.Canon
namespace Go.Canon
open Go Go.Proofs
set_option linter.unusedVariables false
set_option linter.unusedSimpArgs false
end Go.Canon
namespace Go.Canon
open Go Go.Proofs
set_option linter.unusedVariables false
set_option linter.unusedSimpArgs false
end Go.Canon
namespace Go.Canon
open Go Go.Proofs
set_option linter.unusedVariables false
set_option linter.unusedSimpArgs false
theorem gates_lt2 {S : Nat → Prop} {h : Heap} {p : Pl} {gs : List G} (H : Gates S h p gs) : Gates (fun b => S b ∧ b < h.length) h p gs := by
  obtain ⟨ps, e, a, b⟩ := H
  exact ⟨ps, e, Cells.lt a, fun i h1 h2 => Cells.lt (b i h1 h2)⟩
end Go.Canon
namespace Go.Canon
open Go Go.Proofs
set_option linter.unusedVariables false
set_option linter.unusedSimpArgs false
end Go.Canon
namespace Go.Canon
open Go Go.Proofs
set_option linter.unusedVariables false
set_option linter.unusedSimpArgs false
theorem E_cv8 {B : Nat → Prop} {T : Nat → Option KFunc} {fi : FI} {prs : List (Nat × Nat)} {i : Nat} {d : Option Nat} {r : List KOper} {fr : Nat → Value} {h : Heap} {m : List Nat} {K : (Nat → Value) → Heap → List Nat → Prop} {x : KO} {a : Int} (hx : x.ev fr = .int .u8 a) (ha : 0 ≤ a ∧ a ≤ 255) (H : AE B T fi prs (i + 1) r (put fr d (.int .i64 a)) h m K) : AE B T fi prs i (⟨d, .cv .i64 x, none⟩ :: r) fr h m K :=
  E_no (by simp only [kop, hx]; rw [wrap_in (by omega) (by omega)]) H
end Go.Canon
namespace Go.Canon
open Go Go.Proofs
set_option linter.unusedVariables false
set_option linter.unusedSimpArgs false
end Go.Canon
namespace Go.Canon
open Go Go.Proofs
set_option linter.unusedVariables false
set_option linter.unusedSimpArgs false
end Go.Canon
namespace Go.Canon
open Go Go.Proofs
set_option linter.unusedVariables false
set_option linter.unusedSimpArgs false
end Go.Canon
namespace Go.Canon
open Go Go.Proofs
set_option linter.unusedVariables false
set_option linter.unusedSimpArgs false
end Go.Canon
namespace Go.Canon
open Go Go.Proofs
set_option linter.unusedVariables false
set_option linter.unusedSimpArgs false
end Go.Canon
namespace Go.Canon
open Go Go.Proofs
set_option linter.unusedVariables false
set_option linter.unusedSimpArgs false
theorem opp_ar2 (k : Int) : arityM (oppM k) = arityM k := by
  unfold oppM
  split
  · rename_i h; subst h; rfl
  · split
    · rename_i h; subst h; rfl
    · split
      · rename_i h; subst h; rfl
      · split
        · rename_i h; subst h; rfl
        · rfl
theorem opp_lt2 {k : Int} (h : k < 13) : oppM k < 13 := by
  unfold oppM
  (repeat' split) <;> omega
theorem inv_cg {g : G} {w b : Int} (h : cgM g w b = 0) (hk : g.k < 13) : cgM (invG g) w b = 0 := by
  have ho := opp_lt2 hk
  unfold cgM at h ⊢
  split at h <;> try omega
  split at h <;> try omega
  split at h <;> try omega
  split at h <;> try omega
  split at h <;> try omega
  split at h <;> try omega
  rename_i e1 e2 e3 e4 e5 e6
  have ka : arityM (invG g).k = arityM g.k := opp_ar2 g.k
  rw [ka, if_neg e1, if_neg (by exact e2), if_neg (by exact e3), if_neg (by exact e4), if_neg (by show ¬ ((g.f < 0 ∨ b < g.f) ∨ oppM g.k = 13 ∧ (g.b < 0 ∨ b - 1 < g.b)); omega), if_neg (by show ¬ ((13 ≤ oppM g.k ∧ g.f ≠ 0) ∨ (oppM g.k ≠ 13 ∧ g.b ≠ 0)); omega)]
end Go.Canon
namespace Go.Canon
open Go Go.Proofs
set_option linter.unusedVariables false
set_option linter.unusedSimpArgs false
/-- Which letters commute, which undo one another, which are alike. -/
structure LW {α : Type} (P : α → Prop) (cm un eq : α → α → Prop) : Prop where
  rf : ∀ a, eq a a
  sy : ∀ {a b}, eq a b → eq b a
  tr : ∀ {a b c}, eq a b → eq b c → eq a c
  cs : ∀ {a b}, P a → P b → cm a b → cm b a
  us : ∀ {a b}, P a → P b → un a b → un b a
  ce : ∀ {a b c}, P a → P b → P c → eq a b → cm a c → cm b c
  ue : ∀ {a b c}, P a → P b → P c → eq a b → un a c → un b c
  uc : ∀ {a b c}, P a → P b → P c → un a b → cm a c → cm b c
  uu : ∀ {a b c}, P a → P b → P c → un a c → un b c → un a b ∨ eq a b
section
variable {α : Type} {P : α → Prop} {cm un eq : α → α → Prop}
/-- All of a list are right. -/
def Al (P : α → Prop) (l : List α) : Prop := ∀ x ∈ l, P x
theorem Al.cons {a : α} {l : List α} : Al P (a :: l) ↔ P a ∧ Al P l := by simp [Al]
theorem Al.nil : Al P [] := fun _ h => by simp at h
/-- One list comes of the other by changing the places of neighbours that commute, and letters that are alike. -/
inductive Tr (P : α → Prop) (cm eq : α → α → Prop) : List α → List α → Prop
  | nil : Tr P cm eq [] []
  | cons {a b l m} : P a → P b → eq a b → Tr P cm eq l m → Tr P cm eq (a :: l) (b :: m)
  | swap {a b l} : P a → P b → Al P l → cm a b → Tr P cm eq (a :: b :: l) (b :: a :: l)
  | trans {l m n} : Tr P cm eq l m → Tr P cm eq m n → Tr P cm eq l n
theorem Tr.all {l m : List α} (h : Tr P cm eq l m) : Al P l ∧ Al P m := by
  induction h with
  | nil => exact ⟨Al.nil, Al.nil⟩
  | cons a b _ _ ih => exact ⟨Al.cons.2 ⟨a, ih.1⟩, Al.cons.2 ⟨b, ih.2⟩⟩
  | swap a b h _ => exact ⟨Al.cons.2 ⟨a, Al.cons.2 ⟨b, h⟩⟩, Al.cons.2 ⟨b, Al.cons.2 ⟨a, h⟩⟩⟩
  | trans _ _ h1 h2 => exact ⟨h1.1, h2.2⟩
theorem Tr.len {l m : List α} (h : Tr P cm eq l m) : l.length = m.length := by
  induction h with
  | nil => rfl
  | cons _ _ _ _ ih => simp [ih]
  | swap _ _ _ _ => rfl
  | trans _ _ h1 h2 => omega
theorem Tr.rfl' (W : LW P cm un eq) : ∀ {l : List α}, Al P l → Tr P cm eq l l
  | [], _ => .nil
  | a :: l, h => .cons (Al.cons.1 h).1 (Al.cons.1 h).1 (W.rf a) (Tr.rfl' W (Al.cons.1 h).2)
theorem Tr.app (W : LW P cm un eq) {p l m : List α} (hp : Al P p) (h : Tr P cm eq l m) : Tr P cm eq (p ++ l) (p ++ m) := by
  induction p with
  | nil => exact h
  | cons a p ih => exact .cons (Al.cons.1 hp).1 (Al.cons.1 hp).1 (W.rf a) (ih (Al.cons.1 hp).2)
theorem Tr.app2 (W : LW P cm un eq) {p l m : List α} (hp : Al P p) (h : Tr P cm eq l m) : Tr P cm eq (l ++ p) (m ++ p) := by
  induction h with
  | nil => exact Tr.rfl' W hp
  | cons a b e _ ih => exact .cons a b e ih
  | swap a b h c => exact .swap a b (fun x hx => (List.mem_append.1 hx).elim (h x) (hp x)) c
  | trans _ _ h1 h2 => exact .trans h1 h2
theorem Tr.rev (W : LW P cm un eq) {l m : List α} (h : Tr P cm eq l m) : Tr P cm eq l.reverse m.reverse := by
  induction h with
  | nil => exact .nil
  | @cons a b l m ha hb e h ih =>
    rw [List.reverse_cons, List.reverse_cons]
    refine .trans (Tr.app2 W (p := [a]) (by simpa [Al] using ha) ih) (Tr.app W (fun x hx => h.all.2 x (List.mem_reverse.1 hx)) ?_)
    exact .cons ha hb e .nil
  | @swap a b l ha hb h c =>
    have e1 : (a :: b :: l).reverse = l.reverse ++ [b, a] := by simp
    have e2 : (b :: a :: l).reverse = l.reverse ++ [a, b] := by simp
    rw [e1, e2]
    exact Tr.app W (fun x hx => h x (List.mem_reverse.1 hx)) (.swap hb ha Al.nil (W.cs ha hb c))
  | trans _ _ h1 h2 => exact .trans h1 h2
theorem un_eq (W : LW P cm un eq) {x a b : α} (hx : P x) (ha : P a) (hb : P b) (e : eq a b) : un x a ↔ un x b :=
  ⟨fun h => W.us hb hx (W.ue ha hb hx e (W.us hx ha h)), fun h => W.us ha hx (W.ue hb ha hx (W.sy e) (W.us hx hb h))⟩
theorem cm_eq (W : LW P cm un eq) {x a b : α} (hx : P x) (ha : P a) (hb : P b) (e : eq a b) : cm x a ↔ cm x b :=
  ⟨fun h => W.cs hb hx (W.ce ha hb hx e (W.cs hx ha h)), fun h => W.cs ha hx (W.ce hb ha hx (W.sy e) (W.cs hx hb h))⟩
theorem cm_un (W : LW P cm un eq) {x a b : α} (hx : P x) (ha : P a) (hb : P b) (u : un a b) : cm x a ↔ cm x b :=
  ⟨fun h => W.cs hb hx (W.uc ha hb hx u (W.cs hx ha h)), fun h => W.cs ha hx (W.uc hb ha hx (W.us ha hb u) (W.cs hx hb h))⟩
/-- Both are none, or both some that are alike. -/
def RO (R : List α → List α → Prop) : Option (List α) → Option (List α) → Prop
  | none, none => True
  | some l, some m => R l m
  | _, _ => False
theorem RO.map {a b : α} {x y : Option (List α)} (ha : P a) (hb : P b) (e : eq a b) (h : RO (Tr P cm eq) x y) : RO (Tr P cm eq) (x.map (a :: ·)) (y.map (b :: ·)) := by
  cases x <;> cases y <;> first | trivial | exact h.elim | exact .cons ha hb e h
variable [DecidableRel cm] [DecidableRel un]
/-- The first of a list that g undoes, if all before it commute with g, goes. -/
def rem (un cm : α → α → Prop) [DecidableRel cm] [DecidableRel un] : List α → α → Option (List α)
  | [], _ => none
  | a :: l, g => if un a g then some l else if cm a g then (rem un cm l g).map (a :: ·) else none
def cst (un cm : α → α → Prop) [DecidableRel cm] [DecidableRel un] (l : List α) (g : α) : List α := match rem un cm l g with | some m => m | none => g :: l
/-- Nothing of it could go. -/
def Red (un cm : α → α → Prop) [DecidableRel cm] [DecidableRel un] : List α → Prop
  | [] => True
  | a :: l => Red un cm l ∧ rem un cm l a = none
theorem rem_eq (W : LW P cm un eq) {a b : α} (ha : P a) (hb : P b) (e : eq a b) : ∀ {l : List α}, Al P l → rem un cm l a = rem un cm l b
  | [], _ => rfl
  | x :: l, h => by
    obtain ⟨hx, hl⟩ := Al.cons.1 h
    rw [rem, rem, rem_eq W ha hb e hl]
    simp only [un_eq W hx ha hb e, cm_eq W hx ha hb e]
theorem rem_al {g : α} : ∀ {l m : List α}, Al P l → rem un cm l g = some m → Al P m
  | [], _, _, h => by simp [rem] at h
  | a :: l, m, hl, h => by
    obtain ⟨ha, hl⟩ := Al.cons.1 hl
    rw [rem] at h
    split at h
    · cases h; exact hl
    · split at h
      · obtain ⟨n, hn, rfl⟩ := Option.map_eq_some_iff.1 h
        exact Al.cons.2 ⟨ha, rem_al hl hn⟩
      · cases h
theorem cst_al {g : α} {l : List α} (hl : Al P l) (hg : P g) : Al P (cst un cm l g) := by
  unfold cst
  split
  · rename_i m h; exact rem_al hl h
  · exact Al.cons.2 ⟨hg, hl⟩
theorem rem_tr (W : LW P cm un eq) {l m : List α} (h : Tr P cm eq l m) : (Red un cm l ↔ Red un cm m) ∧ (Red un cm l → ∀ g, P g → RO (Tr P cm eq) (rem un cm l g) (rem un cm m g)) := by
  induction h with
  | nil => exact ⟨Iff.rfl, fun _ _ _ => trivial⟩
  | @cons a b l m ha hb e h ih =>
    have hlm := h.all
    have hn : Red un cm l → (rem un cm l a = none ↔ rem un cm m b = none) := fun r => by
      have := ih.2 r a ha
      rw [rem_eq W ha hb e hlm.2] at this
      revert this
      cases rem un cm l a <;> cases rem un cm m b <;> simp [RO]
    refine ⟨?_, ?_⟩
    · constructor
      · rintro ⟨r, n⟩; exact ⟨ih.1.1 r, (hn r).1 n⟩
      · rintro ⟨r, n⟩; exact ⟨ih.1.2 r, (hn (ih.1.2 r)).2 n⟩
    · rintro ⟨r, n⟩ g hg
      have i1 := ih.2 r g hg
      have u1 : un a g ↔ un b g := ⟨W.ue ha hb hg e, W.ue hb ha hg (W.sy e)⟩
      have u2 : cm a g ↔ cm b g := ⟨W.ce ha hb hg e, W.ce hb ha hg (W.sy e)⟩
      rw [rem, rem]
      by_cases h1 : un a g
      · rw [if_pos h1, if_pos (u1.1 h1)]; exact h
      · rw [if_neg h1, if_neg (fun x => h1 (u1.2 x))]
        by_cases h2 : cm a g
        · rw [if_pos h2, if_pos (u2.1 h2)]; exact i1.map ha hb e
        · rw [if_neg h2, if_neg (fun x => h2 (u2.2 x))]; trivial
  | @swap a b l ha hb hl c =>
    have c' := W.cs ha hb c
    have key : ∀ {a b : α}, P a → P b → cm a b → Red un cm (a :: b :: l) → Red un cm (b :: a :: l) := fun {a b} ha hb c r => by
      have c' := W.cs ha hb c
      obtain ⟨⟨r1, r2⟩, r3⟩ := r
      rw [rem] at r3
      by_cases u : un b a
      · rw [if_pos u] at r3; cases r3
      · rw [if_neg u, if_pos c', Option.map_eq_none_iff] at r3
        refine ⟨⟨r1, r3⟩, ?_⟩
        rw [rem, if_neg (fun x => u (W.us ha hb x)), if_pos c, Option.map_eq_none_iff]
        exact r2
    refine ⟨⟨key ha hb c, key hb ha c'⟩, fun r g hg => ?_⟩
    have nu : ¬ un a b := fun u => by
      have := r.2
      rw [rem, if_pos (W.us ha hb u)] at this
      cases this
    by_cases h1 : un a g
    · by_cases h2 : un b g
      · have e := (W.uu ha hb hg h1 h2).resolve_left nu
        simp only [rem, h1, h2, if_true]
        exact .cons hb ha (W.sy e) (Tr.rfl' W hl)
      · have hc : cm b g := (cm_un W hb ha hg h1).1 c'
        simp only [rem, h1, h2, hc, if_true, if_false, Option.map_some]
        exact Tr.rfl' W (Al.cons.2 ⟨hb, hl⟩)
    · by_cases h2 : un b g
      · have hc : cm a g := (cm_un W ha hb hg h2).1 c
        simp only [rem, h1, h2, hc, if_true, if_false, Option.map_some]
        exact Tr.rfl' W (Al.cons.2 ⟨ha, hl⟩)
      · by_cases h3 : cm a g
        · by_cases h4 : cm b g
          · simp only [rem, h1, h2, h3, h4, if_true, if_false]
            cases hr : rem un cm l g with
            | none => trivial
            | some t => exact .swap ha hb (rem_al hl hr) c
          · simp only [rem, h1, h2, h3, h4, if_true, if_false, Option.map_none]; trivial
        · by_cases h4 : cm b g
          · simp only [rem, h1, h2, h3, h4, if_true, if_false, Option.map_none]; trivial
          · simp only [rem, h1, h2, h3, h4, if_true, if_false]; trivial
  | @trans l m n h1 h2 i1 i2 =>
    refine ⟨i1.1.trans i2.1, fun r g hg => ?_⟩
    have a := i1.2 r g hg
    have b := i2.2 (i1.1.1 r) g hg
    revert a b
    cases rem un cm l g <;> cases rem un cm m g <;> cases rem un cm n g <;> first | exact fun _ _ => trivial | exact fun x => x.elim | exact fun _ x => x.elim | exact fun x y => Tr.trans x y
theorem cst_tr (W : LW P cm un eq) {l m : List α} {g : α} (h : Tr P cm eq l m) (r : Red un cm l) (hg : P g) : Tr P cm eq (cst un cm l g) (cst un cm m g) := by
  have := (rem_tr W h).2 r g hg
  unfold cst
  revert this
  cases rem un cm l g <;> cases rem un cm m g <;> first | exact fun x => x.elim | exact fun x => x | exact fun _ => .cons hg hg (W.rf g) h
theorem rem_keep (W : LW P cm un eq) {g a : α} (hg : P g) (ha : P a) (c : cm a g) : ∀ {l m : List α}, Al P l → rem un cm l g = some m → rem un cm l a = none → rem un cm m a = none
  | [], _, _, h, _ => by simp [rem] at h
  | b :: t, m, hl, h, n => by
    obtain ⟨hb, ht⟩ := Al.cons.1 hl
    rw [rem] at h n
    have nu : ¬ un b a := fun u => by rw [if_pos u] at n; cases n
    rw [if_neg nu] at n
    by_cases u : un b g
    · rw [if_pos u] at h
      cases h
      have : cm b a := W.cs ha hb ((cm_un W ha hb hg u).2 c)
      rw [if_pos this, Option.map_eq_none_iff] at n
      exact n
    · rw [if_neg u] at h
      by_cases c2 : cm b g
      · rw [if_pos c2] at h
        obtain ⟨q, hq, rfl⟩ := Option.map_eq_some_iff.1 h
        rw [rem, if_neg nu]
        by_cases c3 : cm b a
        · rw [if_pos c3, Option.map_eq_none_iff] at n ⊢
          exact rem_keep W hg ha c ht hq n
        · rw [if_neg c3]
      · rw [if_neg c2] at h; cases h
theorem rem_red (W : LW P cm un eq) {g : α} (hg : P g) : ∀ {l m : List α}, Al P l → Red un cm l → rem un cm l g = some m → Red un cm m
  | [], _, _, _, h => by simp [rem] at h
  | b :: t, m, hl, r, h => by
    obtain ⟨hb, ht⟩ := Al.cons.1 hl
    rw [rem] at h
    by_cases u : un b g
    · rw [if_pos u] at h; cases h; exact r.1
    · rw [if_neg u] at h
      by_cases c2 : cm b g
      · rw [if_pos c2] at h
        obtain ⟨q, hq, rfl⟩ := Option.map_eq_some_iff.1 h
        exact ⟨rem_red W hg ht r.1 hq, rem_keep W hg hb c2 ht hq r.2⟩
      · rw [if_neg c2] at h; cases h
theorem cst_red (W : LW P cm un eq) {g : α} {l : List α} (hg : P g) (hl : Al P l) (r : Red un cm l) : Red un cm (cst un cm l g) := by
  unfold cst
  split
  · rename_i m h; exact rem_red W hg hl r h
  · rename_i h; exact ⟨r, h⟩
/-- What g undoes is alike to g' that g undoes, and stands where g finds it: then a letter that g' undoes finds it too. -/
theorem rem_more (W : LW P cm un eq) {g g' b : α} (hg : P g) (hg' : P g') (hb : P b) (u : un g g') (ub : un b g') (H : ∀ x, P x → un x g → eq x g') : ∀ {l m : List α}, Al P l → rem un cm l g = some m → rem un cm l b ≠ none
  | [], _, _, h => by simp [rem] at h
  | x :: t, m, hl, h => by
    obtain ⟨hx, ht⟩ := Al.cons.1 hl
    rw [rem] at h ⊢
    by_cases ux : un x g
    · have e := H x hx ux
      have : un x b := W.ue hg' hx hb (W.sy e) (W.us hb hg' ub)
      rw [if_pos this]
      simp
    · rw [if_neg ux] at h
      by_cases c : cm x g
      · rw [if_pos c] at h
        obtain ⟨q, hq, rfl⟩ := Option.map_eq_some_iff.1 h
        have c1 : cm x g' := (cm_un W hx hg hg' u).1 c
        have c2 : cm x b := (cm_un W hx hb hg' ub).2 c1
        by_cases ux2 : un x b
        · rw [if_pos ux2]; simp
        · rw [if_neg ux2, if_pos c2]
          have := rem_more W hg hg' hb u ub H ht hq
          simpa using this
      · rw [if_neg c] at h; cases h
theorem cst_undo0 (W : LW P cm un eq) {g g' : α} (hg : P g) (hg' : P g') (u : un g g') (H : ∀ x, P x → un x g → eq x g') : ∀ {l m : List α}, Al P l → Red un cm l → rem un cm l g = some m → rem un cm m g' = none ∧ Tr P cm eq (g' :: m) l
  | [], _, _, _, h => by simp [rem] at h
  | b :: t, m, hl, r, h => by
    obtain ⟨hb, ht⟩ := Al.cons.1 hl
    rw [rem] at h
    by_cases ub : un b g
    · rw [if_pos ub] at h
      cases h
      have e := H b hb ub
      exact ⟨by rw [← rem_eq W hb hg' e ht]; exact r.2, .cons hg' hb (W.sy e) (Tr.rfl' W ht)⟩
    · rw [if_neg ub] at h
      by_cases c : cm b g
      · rw [if_pos c] at h
        obtain ⟨q, hq, rfl⟩ := Option.map_eq_some_iff.1 h
        obtain ⟨i1, i2⟩ := cst_undo0 W hg hg' u H ht r.1 hq
        have c1 : cm b g' := (cm_un W hb hg hg' u).1 c
        have nu : ¬ un b g' := fun x => rem_more W hg hg' hb u x H ht hq r.2
        refine ⟨?_, ?_⟩
        · rw [rem, if_neg nu, if_pos c1, i1]; rfl
        · exact .trans (.swap hg' hb (rem_al ht hq) (W.cs hb hg' c1)) (.cons hb hb (W.rf b) i2)
      · rw [if_neg c] at h; cases h
/-- A letter, and the one that undoes it, behind a list of which nothing could go: the list is as it was. -/
theorem cst_undo (W : LW P cm un eq) {g g' : α} {l : List α} (hg : P g) (hg' : P g') (u : un g g') (H : ∀ x, P x → un x g → eq x g') (hl : Al P l) (r : Red un cm l) : Tr P cm eq (cst un cm (cst un cm l g) g') l := by
  cases h : rem un cm l g with
  | none =>
    have e : cst un cm l g = g :: l := by unfold cst; rw [h]
    rw [e]
    unfold cst
    rw [rem, if_pos u]
    exact Tr.rfl' W hl
  | some m =>
    have e : cst un cm l g = m := by unfold cst; rw [h]
    obtain ⟨i1, i2⟩ := cst_undo0 W hg hg' u H hl r h
    rw [e]
    unfold cst
    rw [i1]
    exact i2
theorem fold_tr (W : LW P cm un eq) : ∀ {w l m : List α}, Al P w → Tr P cm eq l m → Red un cm l → Tr P cm eq (w.foldl (cst un cm) l) (w.foldl (cst un cm) m)
  | [], _, _, _, h, _ => h
  | g :: w, l, m, hw, h, r => by
    obtain ⟨hg, hw⟩ := Al.cons.1 hw
    exact fold_tr W (w := w) hw (cst_tr W h r hg) (cst_red W hg h.all.1 r)
theorem fold_red (W : LW P cm un eq) : ∀ {w l : List α}, Al P w → Al P l → Red un cm l → Al P (w.foldl (cst un cm) l) ∧ Red un cm (w.foldl (cst un cm) l)
  | [], _, _, hl, r => ⟨hl, r⟩
  | g :: w, l, hw, hl, r => by
    obtain ⟨hg, hw⟩ := Al.cons.1 hw
    exact fold_red W (w := w) hw (cst_al hl hg) (cst_red W hg hl r)
/-- What nothing could go from stays as it is. -/
theorem fold_stay : ∀ {l : List α}, Red un cm l → l.reverse.foldl (cst un cm) [] = l
  | [], _ => rfl
  | a :: l, ⟨r, n⟩ => by
    rw [List.reverse_cons, List.foldl_append, fold_stay r]
    show cst un cm l a = a :: l
    unfold cst
    rw [n]
theorem rem_sub {g : α} : ∀ {l m : List α}, rem un cm l g = some m → m.Sublist l ∧ l.length = m.length + 1
  | [], _, h => by simp [rem] at h
  | a :: l, m, h => by
    rw [rem] at h
    split at h
    · cases h; exact ⟨List.sublist_cons_self _ _, rfl⟩
    · split at h
      · obtain ⟨n, hn, rfl⟩ := Option.map_eq_some_iff.1 h
        have := rem_sub hn
        exact ⟨this.1.cons_cons a, by simp [this.2]⟩
      · cases h
theorem fold_sub : ∀ {w l : List α}, (w.foldl (cst un cm) l).Sublist (w.reverse ++ l) ∧ (w.foldl (cst un cm) l).length ≤ w.length + l.length ∧ (w.length + l.length - (w.foldl (cst un cm) l).length) % 2 = 0
  | [], l => ⟨by simp, by simp, by simp⟩
  | g :: w, l => by
    obtain ⟨i1, i2, i3⟩ := fold_sub (w := w) (l := cst un cm l g)
    have hc : (cst un cm l g).Sublist (g :: l) ∧ ((cst un cm l g).length = l.length + 1 ∨ (cst un cm l g).length + 1 = l.length) := by
      unfold cst
      split
      · rename_i m h
        have := rem_sub h
        exact ⟨this.1.trans (List.sublist_cons_self _ _), .inr this.2.symm⟩
      · exact ⟨List.Sublist.refl _, .inl rfl⟩
    rw [List.foldl_cons]
    refine ⟨i1.trans ?_, ?_, ?_⟩
    · rw [List.reverse_cons, List.append_assoc]
      exact (List.Sublist.refl _).append hc.1
    · simp only [List.length_cons]; omega
    · simp only [List.length_cons]; omega
end
end Go.Canon
namespace Go.Canon
open Go Go.Proofs
set_option linter.unusedVariables false
set_option linter.unusedSimpArgs false
/-- Gates that are the same to all others. -/
def Cl (a b : G) : Prop := a.f = b.f ∧ (∀ x, x ∈ a.ws ↔ x ∈ b.ws) ∧ lastM a = lastM b ∧ (a.k = b.k ∧ a.b = b.b ∨ a.k ≤ 12 ∧ b.k ≤ 12 ∧ b.k = oppM a.k)
/-- Gates that do the same. -/
def dq (a b : G) : Prop := a.k = b.k ∧ a.f = b.f ∧ a.b = b.b ∧ (∀ x, x ∈ a.ws ↔ x ∈ b.ws) ∧ lastM a = lastM b
theorem undo_iff {a b : G} (ha : GR a) (hb : GR b) : undoM a b ↔ a.k ≤ 12 ∧ b.k = oppM a.k ∧ a.f = b.f ∧ (∀ x, x ∈ a.ws ↔ x ∈ b.ws) ∧ lastM a = lastM b := by
  rw [← pundo_iff ha hb]
  unfold pundoM
  rw [of_eq ha hb, opp_opp]
theorem opp_le {k : Int} (h : k ≤ 12) : oppM k ≤ 12 := by unfold oppM; (repeat' split) <;> omega
theorem undo_cl {a b : G} (ha : GR a) (hb : GR b) (h : undoM a b) : Cl a b := by
  obtain ⟨h1, h2, h3, h4, h5⟩ := (undo_iff ha hb).1 h
  exact ⟨h3, h4, h5, .inr ⟨h1, by rw [h2]; exact opp_le h1, h2⟩⟩
theorem dq_cl {a b : G} (h : dq a b) : Cl a b := ⟨h.2.1, h.2.2.2.1, h.2.2.2.2, .inl ⟨h.1, h.2.2.1⟩⟩
theorem cl_axis {a b : G} (ha : GR a) (hb : GR b) (h : Cl a b) (x : Int) : axisM a x = axisM b x := by
  obtain ⟨_, _, h3, h4⟩ := h
  unfold lastM at h3
  rcases h4 with ⟨h4, _⟩ | ⟨k1, k2, h4⟩
  · unfold axisM
    by_cases c : a.k = 9 ∨ a.k = 12
    · rw [if_pos c, if_pos (by omega)] at h3
      rw [h3, h4]
    · simp only [← h4, if_neg c]
  · by_cases c : 5 ≤ a.k ∧ a.k ≤ 8
    · have : 5 ≤ b.k ∧ b.k ≤ 8 := by rw [h4]; unfold oppM; (repeat' split) <;> omega
      unfold axisM
      rw [if_pos (by omega), if_pos (by omega)]
    · have e : b.k = a.k := by rw [h4]; unfold oppM; (repeat' split) <;> omega
      unfold axisM
      by_cases c : a.k = 9 ∨ a.k = 12
      · rw [if_pos c, if_pos (by omega)] at h3
        rw [h3, e]
      · simp only [e, if_neg c]
theorem comm_cl {a b c : G} (ha : GR a) (hb : GR b) (hc : GR c) (h : Cl a b) (H : commM a c) : commM b c := by
  have hax := cl_axis ha hb h
  obtain ⟨h1, h2, h3, h4⟩ := h
  have ht : touchM a c ↔ touchM b c := by unfold touchM; omega
  have hm : meetM a c ↔ meetM b c := by unfold meetM; rw [ht]; simp only [h2]
  have k1 : a.k = 11 ↔ b.k = 11 := by
    rcases h4 with h4 | ⟨_, _, h4⟩
    · omega
    · rw [h4]; unfold oppM; (repeat' split) <;> omega
  have k0 : a.k = 10 ↔ b.k = 10 := by
    rcases h4 with h4 | ⟨_, _, h4⟩
    · omega
    · rw [h4]; unfold oppM; (repeat' split) <;> omega
  unfold commM at H ⊢
  rw [← hm, ← ht]
  refine H.imp (fun x => x) fun ⟨x, y⟩ => ⟨x, ?_⟩
  by_cases cc : (a.k = 11 ∧ (c.k = 10 ∨ c.k = 11)) ∨ (c.k = 11 ∧ a.k = 10)
  · rw [if_pos cc] at y
    rw [if_pos (by omega)]
    have y2 := (alike_iff ha hc (by omega) (by omega)).2 y
    refine (alike_iff hb hc (by omega) (by omega)).1 ?_
    intro z
    rw [← h2 z]
    exact y2 z
  · rw [if_neg cc] at y
    rw [if_neg (by omega)]
    intro z hz hz2
    rw [← hax]
    exact y z ((h2 z).2 hz) hz2
theorem dq_symm {a b : G} (h : dq a b) : dq b a := ⟨h.1.symm, h.2.1.symm, h.2.2.1.symm, fun x => (h.2.2.2.1 x).symm, h.2.2.2.2.symm⟩
theorem dq_trans {a b c : G} (h : dq a b) (k : dq b c) : dq a c := ⟨h.1.trans k.1, h.2.1.trans k.2.1, h.2.2.1.trans k.2.2.1, fun x => (h.2.2.2.1 x).trans (k.2.2.2.1 x), h.2.2.2.2.trans k.2.2.2.2⟩
theorem dq_undo {a b c : G} (ha : GR a) (hb : GR b) (hc : GR c) (e : dq a b) (h : undoM a c) : undoM b c := by
  obtain ⟨h1, h2, h3, h4, h5⟩ := (undo_iff ha hc).1 h
  obtain ⟨e1, e2, e3, e4, e5⟩ := e
  exact (undo_iff hb hc).2 ⟨by omega, by rw [← e1]; exact h2, by omega, fun x => (e4 x).symm.trans (h4 x), by omega⟩
theorem undo_dq {a b c : G} (ha : GR a) (hb : GR b) (hc : GR c) (h : undoM a c) (k : undoM b c) : dq a b := by
  obtain ⟨h1, h2, h3, h4, h5⟩ := (undo_iff ha hc).1 h
  obtain ⟨k1, k2, k3, k4, k5⟩ := (undo_iff hb hc).1 k
  have e : a.k = b.k := by rw [opp_opp.2 h2, ← opp_opp.2 k2]
  exact ⟨e, by omega, by rw [ha.bk (by omega), hb.bk (by omega)], fun x => (h4 x).trans (k4 x).symm, by omega⟩
theorem undo_ex {a b c : G} (ha : GR a) (hb : GR b) (hc : GR c) (h : undoM a c) (k : undoM b c) : undoM a b ∨ a = b := by
  have e := undo_dq ha hb hc h k
  have hh := h
  unfold undoM at h k
  by_cases s : a.k = 10 ∨ a.k = 11 ∨ a.k = 12
  · left
    refine (undo_iff ha hb).2 ⟨by omega, ?_, e.2.1, e.2.2.2.1, e.2.2.2.2⟩
    rw [← e.1]
    unfold oppM
    (repeat' split) <;> omega
  · right
    have s2 := e.1
    rw [if_neg (by omega), if_neg (by omega)] at h k
    have e1 : a.ws = b.ws := h.2.2.2.trans k.2.2.2.symm
    obtain ⟨ak, aw, ab, af⟩ := a
    obtain ⟨bk, bw, bb, bf⟩ := b
    obtain ⟨e2, e3, e4, _⟩ := e
    simp only at e1 e2 e3 e4
    subst e1 e2 e3 e4
    rfl
/-- Exactly. -/
theorem lwX : LW GR commM undoM (fun a b : G => a = b) :=
  ⟨fun _ => rfl, fun h => h.symm, fun h k => h.trans k, fun ha hb h => (comm_symm ha hb).1 h, fun ha hb h => (undo_symm ha hb).1 h, fun _ _ _ e h => e ▸ h, fun _ _ _ e h => e ▸ h,
    fun ha hb hc u h => comm_cl ha hb hc (undo_cl ha hb u) h, fun ha hb hc h k => undo_ex ha hb hc h k⟩
/-- But for the order of wires that may change places. -/
theorem lwD : LW GR commM undoM dq :=
  ⟨fun _ => ⟨rfl, rfl, rfl, fun _ => Iff.rfl, rfl⟩, dq_symm, dq_trans, fun ha hb h => (comm_symm ha hb).1 h, fun ha hb h => (undo_symm ha hb).1 h, fun ha hb hc e h => comm_cl ha hb hc (dq_cl e) h, dq_undo,
    fun ha hb hc u h => comm_cl ha hb hc (undo_cl ha hb u) h, fun ha hb hc h k => .inr (undo_dq ha hb hc h k)⟩
theorem inv_gr {g : G} (hg : GR g) (hk : g.k ≤ 12) : GR (invG g) :=
  ⟨by show (g.ws.length : Int) = arityM (oppM g.k); rw [opp_ar]; exact hg.ar, by show arityM (oppM g.k) ≠ 0; rw [opp_ar]; exact hg.pos, hg.rng, hg.nd, hg.f0, hg.b0, fun h => by have h : 13 ≤ oppM g.k := h; have := opp_le hk; omega, fun _ => hg.bk (by omega)⟩
theorem inv_last (g : G) : lastM (invG g) = lastM g := by
  have h1 : (oppM g.k = 9 ∨ oppM g.k = 12) ↔ (g.k = 9 ∨ g.k = 12) := by unfold oppM; (repeat' split) <;> omega
  unfold lastM
  show (if oppM g.k = 9 ∨ oppM g.k = 12 then g.ws.getD (g.ws.length - 1) 0 else 0) = _
  simp only [h1]
theorem undo_inv {g : G} (hg : GR g) (hk : g.k ≤ 12) : undoM g (invG g) :=
  (undo_iff hg (inv_gr hg hk)).2 ⟨hk, rfl, rfl, fun _ => Iff.rfl, (inv_last g).symm⟩
theorem undo_dinv {x g : G} (hx : GR x) (hg : GR g) (h : undoM x g) : dq x (invG g) := by
  obtain ⟨h1, h2, h3, h4, h5⟩ := (undo_iff hx hg).1 h
  have := opp_le h1
  exact ⟨opp_opp.2 h2, h3, by show x.b = g.b; rw [hx.bk (by omega), hg.bk (by omega)], h4, by rw [inv_last]; exact h5⟩
theorem undo_xinv {x g : G} (hx : GR x) (hg : GR g) (hk : ¬ (g.k = 10 ∨ g.k = 11 ∨ g.k = 12)) (h : undoM x g) : x = invG g := by
  have e := undo_dinv hx hg h
  have e1 : x.k = oppM g.k := e.1
  have s : ¬ (x.k = 10 ∨ x.k = 11 ∨ x.k = 12) := by rw [e1]; unfold oppM; (repeat' split) <;> omega
  unfold undoM at h
  rw [if_neg (by omega), if_neg (by omega)] at h
  obtain ⟨xk, xw, xb, xf⟩ := x
  obtain ⟨e1, e2, e3, _⟩ := e
  have h4 : xw = g.ws := h.2.2.2
  simp only at e1 e2 e3
  subst h4
  have e1' : xk = oppM g.k := e1
  have e2' : xf = g.f := e2
  have e3' : xb = g.b := e3
  subst e1' e2' e3'
  rfl
/-- The scan from the end, and the list turned round. -/
theorem getD_app {l t : List G} {k : Nat} (h : k < l.length) : (l ++ t).getD k default = l.getD k default := by
  rw [List.getD_eq_getElem?_getD, List.getD_eq_getElem?_getD, List.getElem?_append_left h]
theorem scan_app {l t : List G} {g : G} : ∀ {k : Nat}, k ≤ l.length → scanM (l ++ t) g k = scanM l g k
  | 0, _ => rfl
  | k + 1, h => by
    rw [scanM, scanM, scan_app (by omega), getD_app (by omega)]
def remL (l : List G) (g : G) : Option (List G) := if 0 ≤ scanM l g l.length ∧ undoM (l.getD (scanM l g l.length).toNat default) g then some (l.eraseIdx (scanM l g l.length).toNat) else none
theorem remL_at {l : List G} {g : G} {k : Int} (e : scanM l g l.length = k) : remL l g = if 0 ≤ k ∧ undoM (l.getD k.toNat default) g then some (l.eraseIdx k.toNat) else none := by unfold remL; rw [e]
theorem remL_snoc (l : List G) (a g : G) : remL (l ++ [a]) g = if undoM a g then some l else if commM a g then (remL l g).map (· ++ [a]) else none := by
  have e0 : (l ++ [a]).getD l.length default = a := by simp [List.getD_eq_getElem?_getD]
  have e1 : scanM (l ++ [a]) g (l ++ [a]).length = if undoM a g ∨ ¬ commM a g then (l.length : Int) else scanM l g l.length := by
    rw [show (l ++ [a]).length = l.length + 1 by simp, scanM, scan_app (Nat.le_refl _), e0]
  by_cases u : undoM a g
  · rw [if_pos (.inl u)] at e1
    rw [remL_at e1, Int.toNat_natCast, e0, if_pos ⟨by omega, u⟩, if_pos u, List.eraseIdx_append_of_length_le (Nat.le_refl _)]
    simp
  · rw [if_neg u]
    by_cases c : commM a g
    · have hs := scanM_lt l g l.length
      have hh : ¬ (undoM a g ∨ ¬ commM a g) := fun x => x.elim u (fun y => y c)
      rw [if_neg hh] at e1
      rw [remL_at e1, if_pos c]
      unfold remL
      by_cases h0 : 0 ≤ scanM l g l.length
      · rw [getD_app (by omega)]
        by_cases h1 : undoM (l.getD (scanM l g l.length).toNat default) g
        · rw [if_pos ⟨h0, h1⟩, if_pos ⟨h0, h1⟩, List.eraseIdx_append_of_lt_length (by omega)]
          rfl
        · rw [if_neg (fun x => h1 x.2), if_neg (fun x => h1 x.2)]; rfl
      · rw [if_neg (fun x => h0 x.1), if_neg (fun x => h0 x.1)]; rfl
    · rw [if_pos (.inr c)] at e1
      rw [remL_at e1, if_neg c, Int.toNat_natCast, e0, if_neg (fun x => u x.2)]
theorem remL_rem (g : G) : ∀ l : List G, remL l.reverse g = (rem undoM commM l g).map List.reverse
  | [] => rfl
  | a :: l => by
    rw [List.reverse_cons, remL_snoc, rem, remL_rem g l]
    split
    · rfl
    · split
      · cases rem undoM commM l g <;> simp
      · rfl
theorem cstep_cst (l : List G) (g : G) : cstep l.reverse g = (cst undoM commM l g).reverse := by
  have h := remL_rem g l
  have e : cstep l.reverse g = (remL l.reverse g).getD (l.reverse ++ [g]) := by
    unfold cstep remL
    split <;> rfl
  rw [e, h]
  unfold cst
  cases rem undoM commM l g <;> simp
theorem fold_cst (w : List G) : ∀ l : List G, w.foldl cstep l.reverse = (w.foldl (cst undoM commM) l).reverse := by
  induction w with
  | nil => intro l; rfl
  | cons g w ih => intro l; rw [List.foldl_cons, List.foldl_cons, cstep_cst, ih]
theorem cancel_stack (w : List G) : cancelL w = (w.foldl (cst undoM commM) []).reverse := fold_cst w []
end Go.Canon
namespace Go.Canon
open Go Go.Proofs
set_option linter.unusedVariables false
set_option linter.unusedSimpArgs false
theorem wsLt_irr : ∀ a : List Int, ¬ wsLt a a
  | [] => by simp [wsLt]
  | x :: xs => by simp [wsLt, wsLt_irr xs]
theorem wsLt_tr : ∀ {a b c : List Int}, wsLt a b → wsLt b c → wsLt a c
  | [], _, _, h, _ => by simp [wsLt] at h
  | _ :: _, [], _, h, _ => by simp [wsLt] at h
  | _ :: _, _ :: _, [], _, h => by simp [wsLt] at h
  | x :: xs, y :: ys, z :: zs, h, k => by
    unfold wsLt at h k ⊢
    by_cases e : x = y
    · subst e
      rw [if_neg (by simp)] at h
      by_cases e2 : x = z
      · subst e2
        rw [if_neg (by simp)] at k ⊢
        exact wsLt_tr h k
      · rw [if_pos e2] at k ⊢; exact k
    · rw [if_pos e] at h
      by_cases e2 : y = z
      · subst e2
        rw [if_pos e]; exact h
      · rw [if_pos e2] at k
        rw [if_pos (by omega)]; omega
theorem wsLt_tot : ∀ {a b : List Int}, a.length = b.length → a ≠ b → wsLt a b ∨ wsLt b a
  | [], [], _, h => (h rfl).elim
  | [], _ :: _, h, _ => by simp at h
  | _ :: _, [], h, _ => by simp at h
  | x :: xs, y :: ys, hl, h => by
    unfold wsLt
    by_cases e : x = y
    · subst e
      rw [if_neg (by simp), if_neg (by simp)]
      exact wsLt_tot (by simpa using hl) (fun e => h (by rw [e]))
    · rw [if_pos e, if_pos (fun e' => e e'.symm)]; omega
theorem before_irr (g : G) : ¬ beforeM g g := by
  unfold beforeM
  simp
theorem before_tr {a b c : G} (h : beforeM a b) (k : beforeM b c) : beforeM a c := by
  unfold beforeM at h k ⊢
  by_cases e : a.k = b.k
  · rw [if_neg (by simp [e])] at h
    by_cases e2 : b.k = c.k
    · rw [if_neg (by simp [e2])] at k
      rw [if_neg (by simp [e, e2])]
      by_cases w : a.ws = b.ws
      · rw [if_neg (by simp [w])] at h
        by_cases w2 : b.ws = c.ws
        · rw [if_neg (by simp [w2])] at k
          rw [if_neg (by simp [w, w2])]
          split at h <;> split at k <;> split <;> omega
        · rw [if_pos w2] at k
          rw [if_pos (by rw [w]; exact w2), w]; exact k
      · rw [if_pos w] at h
        by_cases w2 : b.ws = c.ws
        · rw [if_pos (by rw [← w2]; exact w), ← w2]; exact h
        · rw [if_pos w2] at k
          have t := wsLt_tr h k
          rw [if_pos (fun e => by rw [e] at t; exact wsLt_irr _ t)]; exact t
    · rw [if_pos e2] at k
      rw [if_pos (by omega)]; omega
  · rw [if_pos e] at h
    by_cases e2 : b.k = c.k
    · rw [if_pos (by omega)]; omega
    · rw [if_pos e2] at k
      rw [if_pos (by omega)]; omega
theorem before_tot {a b : G} (ha : GR a) (hb : GR b) (h : ¬ beforeM a b) (k : ¬ beforeM b a) : a = b := by
  have ea := ha.ar; have eb := hb.ar
  unfold beforeM at h k
  by_cases e : a.k = b.k
  · rw [if_neg (by simp [e])] at h
    rw [if_neg (by simp [e])] at k
    by_cases w : a.ws = b.ws
    · rw [if_neg (by simp [w])] at h
      rw [if_neg (by simp [w])] at k
      obtain ⟨ak, aw, ab, af⟩ := a
      obtain ⟨bk, bw, bb, bf⟩ := b
      simp only at e w h k
      subst e w
      by_cases c : ab = bb
      · subst c
        rw [if_neg (by simp)] at h k
        obtain rfl : af = bf := by omega
        rfl
      · rw [if_pos c] at h
        rw [if_pos (fun x => c x.symm)] at k
        omega
    · rw [if_pos w] at h
      rw [if_pos (fun x => w x.symm)] at k
      exact ((wsLt_tot (by rw [e] at ea; omega) w).elim h k).elim
  · rw [if_pos e] at h
    rw [if_pos (fun x => e x.symm)] at k
    omega
/-- The first that is g, if all before it commute with it, goes. -/
def tk : List G → G → Option (List G)
  | [], _ => none
  | a :: l, g => if a = g then some l else if commM a g then (tk l g).map (a :: ·) else none
abbrev TrX : List G → List G → Prop := Tr GR commM (fun a b : G => a = b)
/-- A list in the first order. -/
inductive Td : List G → List G → Prop
  | nil : Td [] []
  | cons {l m o g} : tk l g = some m → (∀ h, tk l h ≠ none → ¬ beforeM h g) → Td m o → Td l (g :: o)
theorem tk_mem {g : G} : ∀ {l m : List G}, tk l g = some m → g ∈ l ∧ ∀ x ∈ m, x ∈ l
  | [], _, h => by simp [tk] at h
  | a :: l, m, h => by
    rw [tk] at h
    split at h
    · rename_i e; cases h; exact ⟨by rw [e]; exact List.mem_cons_self, fun x hx => List.mem_cons_of_mem _ hx⟩
    · split at h
      · obtain ⟨n, hn, rfl⟩ := Option.map_eq_some_iff.1 h
        have := tk_mem hn
        exact ⟨List.mem_cons_of_mem _ this.1, fun x hx => (List.mem_cons.1 hx).elim (fun e => e ▸ List.mem_cons_self) fun hx => List.mem_cons_of_mem _ (this.2 x hx)⟩
      · cases h
theorem tk_tr {l m : List G} (h : TrX l m) : ∀ g, GR g → RO TrX (tk l g) (tk m g) := by
  induction h with
  | nil => exact fun _ _ => trivial
  | @cons a b l m ha hb e h ih =>
    subst e
    intro g hg
    have i1 := ih g hg
    rw [tk, tk]
    by_cases h1 : a = g
    · rw [if_pos h1, if_pos h1]; exact h
    · rw [if_neg h1, if_neg h1]
      by_cases h2 : commM a g
      · rw [if_pos h2, if_pos h2]; exact i1.map ha ha rfl
      · rw [if_neg h2, if_neg h2]; trivial
  | @swap a b l ha hb hl c =>
    intro g hg
    have c' := (comm_symm ha hb).1 c
    by_cases h1 : a = g
    · by_cases h2 : b = g
      · simp only [tk, h1, h2, if_true]
        exact Tr.rfl' lwX (Al.cons.2 ⟨hg, hl⟩)
      · have hc : commM b g := h1 ▸ c'
        simp only [tk, h1, h2, hc, if_true, if_false, Option.map_some]
        exact Tr.rfl' lwX (Al.cons.2 ⟨hb, hl⟩)
    · by_cases h2 : b = g
      · have hc : commM a g := h2 ▸ c
        simp only [tk, h1, h2, hc, if_true, if_false, Option.map_some]
        exact Tr.rfl' lwX (Al.cons.2 ⟨ha, hl⟩)
      · by_cases h3 : commM a g
        · by_cases h4 : commM b g
          · simp only [tk, h1, h2, h3, h4, if_true, if_false]
            cases hr : tk l g with
            | none => trivial
            | some t => exact .swap ha hb (fun x hx => hl x ((tk_mem hr).2 x hx)) c
          · simp only [tk, h1, h2, h3, h4, if_true, if_false, Option.map_none]; trivial
        · by_cases h4 : commM b g
          · simp only [tk, h1, h2, h3, h4, if_true, if_false, Option.map_none]; trivial
          · simp only [tk, h1, h2, h3, h4, if_true, if_false]; trivial
  | @trans l m n h1 h2 i1 i2 =>
    intro g hg
    have a := i1 g hg
    have b := i2 g hg
    revert a b
    cases tk l g <;> cases tk m g <;> cases tk n g <;> first | exact fun _ _ => trivial | exact fun x => x.elim | exact fun _ x => x.elim | exact fun x y => Tr.trans x y
theorem td_det {l o : List G} (h : Td l o) : ∀ {m o' : List G}, TrX l m → Td m o' → o = o' := by
  induction h with
  | nil =>
    intro m o' ht h'
    have := ht.len
    cases h' with
    | nil => rfl
    | cons h1 _ _ => rename_i g; have := (tk_mem h1).1; rw [List.length_eq_zero_iff.1 ht.len.symm] at this; simp at this
  | @cons l m o g h1 h2 h3 ih =>
    intro m' o' ht h'
    have hg := ht.all.1 g (tk_mem h1).1
    cases h' with
    | nil => have := (tk_mem h1).1; rw [List.length_eq_zero_iff.1 ht.len] at this; simp at this
    | @cons _ n o'' g' k1 k2 k3 =>
      have hg' := ht.all.2 g' (tk_mem k1).1
      have a := tk_tr ht g hg
      have b := tk_tr ht g' hg'
      have e : g = g' := by
        refine before_tot hg hg' (k2 g ?_) (h2 g' ?_)
        · intro e; rw [h1, e] at a; exact a
        · intro e; rw [k1, e] at b; exact b
      subst e
      rw [h1, k1] at a
      rw [ih a k3]
theorem tk_free {l : List G} : ∀ {b : Nat} (hb : b < l.length), (∀ j (hj : j < b), commM (l[j]'(by omega)) l[b] ∧ l[j]'(by omega) ≠ l[b]) → tk l l[b] = some (l.eraseIdx b) := by
  induction l with
  | nil => intro b hb; simp at hb
  | cons a l ih =>
    intro b hb h
    match b, hb, h with
    | 0, _, _ => rw [tk, if_pos (by rfl)]; rfl
    | b + 1, hb, h =>
      have h0 := h 0 (by omega)
      rw [tk, if_neg (by simpa using h0.2), if_pos (by simpa using h0.1)]
      have := ih (b := b) (by simpa using hb) fun j hj => by have := h (j + 1) (by omega); simpa using this
      simp only [List.getElem_cons_succ] at this ⊢
      rw [this]
      rfl
theorem tk_ne {g : G} : ∀ {l : List G}, tk l g ≠ none → ∃ i, ∃ hi : i < l.length, l[i] = g ∧ ∀ j (hj : j < i), commM (l[j]'(by omega)) g
  | [], h => by simp [tk] at h
  | a :: l, h => by
    rw [tk] at h
    by_cases e : a = g
    · exact ⟨0, by simp, by simpa using e, fun j hj => by omega⟩
    · rw [if_neg e] at h
      by_cases c : commM a g
      · rw [if_pos c] at h
        obtain ⟨i, hi, e2, h2⟩ := tk_ne (g := g) (l := l) (by intro e; rw [e] at h; simp at h)
        refine ⟨i + 1, by simpa using hi, by simpa using e2, fun j hj => ?_⟩
        match j with
        | 0 => simpa using c
        | j + 1 => simpa using h2 j (by omega)
      · rw [if_neg c] at h; exact (h rfl).elim
theorem next_law {l : List G} (hl : Al GR l) : ∀ i, i ≤ l.length → (0 < i → 0 ≤ nextM l i) ∧ (0 ≤ nextM l i → freeTo l (nextM l i).toNat (nextM l i).toNat ∧ (∀ j, j < i → freeTo l j j → ¬ beforeM (l.getD j default) (l.getD (nextM l i).toNat default)) ∧ ∀ j, j < (nextM l i).toNat → freeTo l j j → beforeM (l.getD (nextM l i).toNat default) (l.getD j default))
  | 0, _ => ⟨fun h => by omega, fun h => by simp [nextM] at h⟩
  | i + 1, hi => by
    obtain ⟨h0, h1⟩ := next_law hl i (by omega)
    have hlt := nextM_lt l i
    refine ⟨fun _ => nextM_pos l (i + 1) (by omega), ?_⟩
    have hgr : ∀ j, j < l.length → GR (l.getD j default) := fun j hj => by rw [getG_at hj]; exact hl _ (List.getElem_mem _)
    unfold nextM
    split
    · rename_i c
      intro _
      rw [Int.toNat_natCast]
      refine ⟨c.1, fun j hj hf => ?_, fun j hj hf => ?_⟩
      · by_cases e : j = i
        · subst e; exact before_irr _
        · intro hb
          rcases c.2 with c2 | c2
          · have := h0 (by omega); omega
          · by_cases c3 : 0 ≤ nextM l i
            · exact (h1 c3).2.1 j (by omega) hf (before_tr hb c2)
            · have := h0 (by omega); omega
      · have c3 := h0 (by omega)
        have c2 := c.2.resolve_left (by omega)
        obtain ⟨f1, f2, f3⟩ := h1 c3
        by_cases hb : beforeM (l.getD i default) (l.getD j default)
        · exact hb
        · exfalso
          by_cases hb2 : beforeM (l.getD j default) (l.getD i default)
          · exact f2 j hj hf (before_tr hb2 c2)
          · have := before_tot (hgr i (by omega)) (hgr j (by omega)) hb hb2
            rw [this] at c2
            exact f2 j hj hf c2
    · rename_i c
      intro hh
      obtain ⟨f1, f2, f3⟩ := h1 hh
      refine ⟨f1, fun j hj hf => ?_, f3⟩
      by_cases e : j = i
      · subst e
        intro hb
        exact c ⟨hf, .inr hb⟩
      · exact f2 j (by omega) hf
theorem free_comm {l : List G} {b j : Nat} (hb : b < l.length) (h : freeTo l b b) (hj : j < b) : commM (l[j]'(by omega)) l[b] := by
  have := h j hj
  rwa [getG_at (show j < l.length by omega), getG_at hb] at this
theorem tidy_td : ∀ (n : Nat) {l : List G}, l.length = n → Al GR l → Td l (tidyL n l)
  | 0, l, hn, _ => by rw [List.length_eq_zero_iff.1 hn]; exact .nil
  | n + 1, l, hn, hl => by
    obtain ⟨h0, h1⟩ := next_law hl l.length (Nat.le_refl _)
    have hlt := nextM_lt l l.length
    have hp := h0 (by omega)
    obtain ⟨f1, f2, f3⟩ := h1 hp
    obtain ⟨b, hb⟩ : ∃ b : Nat, nextM l l.length = (b : Int) := ⟨(nextM l l.length).toNat, by omega⟩
    rw [hb, Int.toNat_natCast] at f1 f2 f3
    have hbl : b < l.length := by omega
    rw [tidyL, hb, Int.toNat_natCast, getG_at hbl]
    refine .cons (m := l.eraseIdx b) (tk_free hbl fun j hj => ⟨free_comm hbl f1 hj, fun e => ?_⟩) (fun h hh => ?_) ?_
    · have hf : freeTo l j j := fun i hi => by
        have := f1 i (by omega)
        rw [getG_at (show i < l.length by omega), getG_at hbl] at this
        rw [getG_at (show i < l.length by omega), getG_at (show j < l.length by omega), e]
        exact this
      have := f3 j hj hf
      rw [getG_at hbl, getG_at (show j < l.length by omega), e] at this
      exact before_irr _ this
    · obtain ⟨i, hi, rfl, h2⟩ := tk_ne hh
      have hf : freeTo l i i := fun j hj => by
        rw [getG_at (show j < l.length by omega), getG_at hi]
        exact h2 j hj
      have := f2 i hi hf
      rwa [getG_at hi, getG_at hbl] at this
    · exact tidy_td n (by rw [List.length_eraseIdx_of_lt hbl]; omega) fun x hx => hl x (List.mem_of_mem_eraseIdx hx)
/-- Tidy of circuits that come of one another is the same. -/
theorem tidy_tr {l m : List G} (h : TrX l m) : tidyL l.length l = tidyL m.length m := td_det (tidy_td _ rfl h.all.1) h (tidy_td _ rfl h.all.2)
end Go.Canon
namespace Go.Canon
open Go Go.Proofs
set_option linter.unusedVariables false
set_option linter.unusedSimpArgs false
theorem cancel_red {w : List G} (hw : Al GR w) : Al GR (w.foldl (cst undoM commM) []) ∧ Red undoM commM (w.foldl (cst undoM commM) []) := fold_red lwX hw Al.nil trivial
theorem cancel_again {w : List G} (hw : Al GR w) : cancelL (cancelL w) = cancelL w := by
  rw [cancel_stack w, cancel_stack, fold_stay (cancel_red hw).2]
theorem cancel_sub {w : List G} : (cancelL w).Sublist w ∧ (cancelL w).length ≤ w.length ∧ (w.length - (cancelL w).length) % 2 = 0 := by
  obtain ⟨h1, h2, h3⟩ := fold_sub (un := undoM) (cm := commM) (w := w) (l := ([] : List G))
  rw [cancel_stack]
  refine ⟨?_, by simpa using h2, by simpa using h3⟩
  have := h1.reverse
  simpa using this
/-- A gate and the one that undoes it, put in anywhere side by side, go. -/
theorem cancel_pair {eq : G → G → Prop} (W : LW GR commM undoM eq) {w : List G} {g : G} {i : Nat} (hw : Al GR w) (hg : GR g) (hk : g.k ≤ 12) (H : ∀ x, GR x → undoM x g → eq x (invG g)) :
    Tr GR commM eq (cancelL (w.take i ++ [g, invG g] ++ w.drop i)) (cancelL w) := by
  rw [cancel_stack, cancel_stack w]
  refine Tr.rev W ?_
  conv => rhs; rw [← List.take_append_drop i w]
  rw [List.foldl_append, List.foldl_append, List.foldl_append]
  have h1 : Al GR (w.take i) := fun x hx => hw x (List.mem_of_mem_take hx)
  have h2 : Al GR (w.drop i) := fun x hx => hw x (List.mem_of_mem_drop hx)
  obtain ⟨a1, r1⟩ := cancel_red h1
  have t := cst_undo W hg (inv_gr hg hk) (undo_inv hg hk) H a1 r1
  exact fold_tr W h2 t ((rem_tr W t).1.2 r1)
theorem cancel_pair_len {w : List G} {g : G} {i : Nat} (hw : Al GR w) (hg : GR g) (hk : g.k ≤ 12) : (cancelL (w.take i ++ [g, invG g] ++ w.drop i)).length = (cancelL w).length :=
  (cancel_pair lwD hw hg hk fun x hx u => undo_dinv hx hg u).len
theorem cancel_pair_tidy {w : List G} {g : G} {i : Nat} (hw : Al GR w) (hg : GR g) (hk : g.k ≤ 12) (hn : ¬ (g.k = 10 ∨ g.k = 11 ∨ g.k = 12)) :
    tidyL (cancelL (w.take i ++ [g, invG g] ++ w.drop i)).length (cancelL (w.take i ++ [g, invG g] ++ w.drop i)) = tidyL (cancelL w).length (cancelL w) :=
  tidy_tr (cancel_pair lwX hw hg hk fun x hx u => undo_xinv hx hg hn u)
/-- A walk over w that looks for the list l. -/
theorem sub_take {l w : List G} {k j : Nat} (hj : j < w.length) (hk : k < l.length) (h : (l.drop k).Sublist (w.drop j)) (e : w[j] = l[k]) : (l.drop (k + 1)).Sublist (w.drop (j + 1)) := by
  rw [List.drop_eq_getElem_cons hj, List.drop_eq_getElem_cons hk, e] at h
  exact List.cons_sublist_cons.1 h
theorem sub_skip {l w : List G} {k j : Nat} (hj : j < w.length) (h : (l.drop k).Sublist (w.drop j)) (hn : ∀ hk : k < l.length, w[j] ≠ l[k]) : (l.drop k).Sublist (w.drop (j + 1)) := by
  by_cases hk : k < l.length
  · rw [List.drop_eq_getElem_cons hj, List.drop_eq_getElem_cons hk] at h
    rw [List.drop_eq_getElem_cons hk]
    rcases List.sublist_cons_iff.1 h with h | ⟨r, e, _⟩
    · exact h
    · injection e with e1
      exact (hn hk e1.symm).elim
  · rw [List.drop_of_length_le (by omega)]; exact List.nil_sublist _
theorem sub_end {l w : List G} {k j : Nat} (hj : w.length ≤ j) (hk : k ≤ l.length) (h : (l.drop k).Sublist (w.drop j)) : k = l.length := by
  rw [List.drop_of_length_le hj] at h
  have := h.length_le
  simp at this
  omega
end Go.Canon
namespace Go.Canon
open Go Go.Proofs
set_option linter.unusedVariables false
set_option linter.unusedSimpArgs false
end Go.Canon
namespace Go.Canon
open Go Go.Proofs
set_option linter.unusedVariables false
set_option linter.unusedSimpArgs false
end Go.Canon
namespace Go.Canon
open Go Go.Proofs
set_option linter.unusedVariables false
set_option linter.unusedSimpArgs false
/-- A list of gates at the start of a row of its own, which may be longer. -/
structure OL (K : Heap) (lo hi x n : Nat) (gs : List G) (ps : List Pl) : Prop where
  e : ps.length = gs.length
  le : gs.length ≤ n
  lh : lo ≤ x ∧ x < hi
  row : ∃ cs gr, K[x]? = some (.row cs true gr) ∧ (gr = none ∨ gr = some 4) ∧ n * 4 ≤ cs.length ∧ (∀ v ∈ cs, isCell v = true) ∧ cs.take (gs.length * 4) = flat gs ps
  w : Wires (fun b => (lo ≤ b ∧ b < hi) ∧ b ≠ x) K gs ps
theorem OL.kp {S : Nat → Prop} {K K' : Heap} {lo hi x n : Nat} {gs : List G} {ps : List Pl} (H : OL K lo hi x n gs ps) (k : Kp S K K') (hS : ∀ b, lo ≤ b → b < hi → ¬ S b) : OL K' lo hi x n gs ps := by
  obtain ⟨e, hn, lh, ⟨cs, gr, r1, r2, r3, r4, r5⟩, w⟩ := H
  exact ⟨e, hn, lh, ⟨cs, gr, k.row r1 (hS x lh.1 lh.2), r2, r3, r4, r5⟩, fun i h1 h2 => (w i h1 h2).congr (fun _ y => y) fun b hb hl => k.keep b hl (hS b hb.1.1 hb.1.2)⟩
theorem leafB {h h' A Z : Heap} {u : Value} {n : Nat} {p : Pl} {gs : List G} (he : h' = h ++ (A ++ Z)) (hz : Bld n Z p gs) (hn : n = h.length + A.length) (hf : flat2 u = true → p.1 = none) :
    ∃ X, forget h u h' = h ++ X ∧ (gs ≠ [] → ∃ x, p = (some ⟨x, 0, none⟩, gs.length) ∧ ∃ ps, OL (h ++ X) h.length (h ++ X).length x gs.length gs ps) := by
  subst he
  obtain ⟨ps, a, ⟨b1, b2⟩, c, d⟩ := hz
  by_cases hu : flat2 u = true
  · refine ⟨[], forget_nil hu (List.prefix_append _ _), fun hg => ?_⟩
    rcases b2 with ⟨_, b3⟩ | ⟨j, gr, e, _⟩
    · exact absurd (List.length_eq_zero_iff.1 b3) hg
    · have := hf hu
      rw [e] at this
      cases this
  · refine ⟨A ++ Z, forget_more (by simpa using hu), fun hg => ?_⟩
    rcases b2 with ⟨_, b3⟩ | ⟨j, gr, e, r1, r2⟩
    · exact absurd (List.length_eq_zero_iff.1 b3) hg
    · have hj := (List.getElem?_eq_some_iff.1 r1).1
      have hl : (h ++ (A ++ Z)).length = n + Z.length := by simp; omega
      refine ⟨n + j, e, ps, a, Nat.le_refl _, ⟨by omega, by omega⟩, ⟨_, gr, ?_, r2, by rw [flat_len _ _ a]; omega, flat_cells, by rw [← flat_len _ _ a, List.take_length]⟩, fun i h1 h2 => ?_⟩
      · rw [← List.append_assoc, List.getElem?_append_right (by simp; omega), show n + j - (h ++ A).length = j by simp; omega]
        exact r1
      · have := c i h1 h2 (h ++ A) (by simp; omega)
        rw [List.append_assoc] at this
        exact this.congr (fun b hb => ⟨⟨by have := hb.1.1; omega, by have := hb.1.2; omega⟩, fun e2 => hb.2 _ (by rw [e]) e2.symm⟩) fun _ _ _ => rfl
end Go.Canon
namespace Go.Canon
open Go Go.Proofs
set_option linter.unusedVariables false
set_option linter.unusedSimpArgs false
theorem k235 : tab Tryd.prog 35 = some insKG := by kernel_rfl
theorem insg_ret {T : Nat → Option KFunc} {f : Nat} {args : List Value} {v : Value} {e : Eff} {h : Heap} (hT : T f = some insKG) (hk : kinsG args h = some (v, e)) : Ret T f args h v (e.on h) :=
  ⟨1, by unfold kcall; simp only [hT, show isIns insKG.body = true from rfl, if_true, show kinsB insKG.body args h = kinsG args h from rfl, hk]⟩
/-- A list of gates in a row of its own, or none. -/
def OLq (K : Heap) (hi x : Nat) (q : Pl) (gs : List G) : Prop := (gs = [] ∧ q = (none, 0)) ∨ (q = (some ⟨x, 0, none⟩, gs.length) ∧ ∃ lo ps, OL K lo hi x gs.length gs ps)
theorem flat_ins {gs : List G} {ps : List Pl} (e : ps.length = gs.length) (i : Nat) (a b : G) (pa pb : Pl) : (flat gs ps).take (i * 4) ++ flat [a, b] [pa, pb] ++ (flat gs ps).drop (i * 4) = flat (gs.take i ++ [a, b] ++ gs.drop i) (ps.take i ++ [pa, pb] ++ ps.drop i) := by
  rw [flat_take, flat_drop, flat_append _ _ _ _ (by simp [e]), flat_append _ _ _ _ (by simp [e])]
theorem all_cell {l : List Value} (h : ∀ v ∈ l, isCell v = true) : l.all isCell = true := List.all_eq_true.2 h
theorem wires_ins {S : Nat → Prop} {K : Heap} {gs : List G} {ps : List Pl} {a b : G} {pa pb : Pl} {i : Nat} (e : ps.length = gs.length) (W : Wires S K gs ps) (ha : Ints S K pa a.ws) (hb : Ints S K pb b.ws) (hi : i ≤ gs.length) : Wires S K (gs.take i ++ [a, b] ++ gs.drop i) (ps.take i ++ [pa, pb] ++ ps.drop i) := by
  intro k h1 h2
  have t1 : (gs.take i).length = i := by simp; omega
  have t2 : (ps.take i).length = i := by simp; omega
  by_cases k1 : k < i
  · have e1 : (gs.take i ++ [a, b] ++ gs.drop i)[k] = gs[k]'(by omega) := by
      rw [List.getElem_append_left (by simp; omega), List.getElem_append_left (by omega), List.getElem_take]
    have e2 : (ps.take i ++ [pa, pb] ++ ps.drop i)[k] = ps[k]'(by omega) := by
      rw [List.getElem_append_left (by simp; omega), List.getElem_append_left (by omega), List.getElem_take]
    rw [e1, e2]
    exact W k (by omega) (by omega)
  · by_cases k2 : k = i
    · subst k2
      have e1 : (gs.take k ++ [a, b] ++ gs.drop k)[k] = a := by
        rw [List.getElem_append_left (by simp; omega), List.getElem_append_right (by omega)]; simp [t1]
      have e2 : (ps.take k ++ [pa, pb] ++ ps.drop k)[k] = pa := by
        rw [List.getElem_append_left (by simp; omega), List.getElem_append_right (by omega)]; simp [t2]
      rw [e1, e2]; exact ha
    · by_cases k3 : k = i + 1
      · subst k3
        have e1 : (gs.take i ++ [a, b] ++ gs.drop i)[i + 1] = b := by
          rw [List.getElem_append_left (by simp; omega), List.getElem_append_right (by omega)]; simp [t1]
        have e2 : (ps.take i ++ [pa, pb] ++ ps.drop i)[i + 1] = pb := by
          rw [List.getElem_append_left (by simp; omega), List.getElem_append_right (by omega)]; simp [t2]
        rw [e1, e2]; exact hb
      · have h3 : k < gs.length + 2 := by simp at h1; omega
        have e1 : (gs.take i ++ [a, b] ++ gs.drop i)[k] = gs[k - 2]'(by omega) := by
          rw [List.getElem_append_right (by simp; omega), List.getElem_drop]; congr 1; simp; omega
        have e2 : (ps.take i ++ [pa, pb] ++ ps.drop i)[k] = ps[k - 2]'(by omega) := by
          rw [List.getElem_append_right (by simp; omega), List.getElem_drop]; congr 1; simp; omega
        rw [e1, e2]
        exact W (k - 2) (by omega) (by omega)
theorem insg2_ret {K : Heap} {hi0 x y z : Nat} {gs : List G} {q : Pl} {a b : G} {pa pb : Pl} {i : Nat} (hq : OLq K hi0 x q gs) (hz : hi0 ≤ z) (hzk : z ≠ K.length) (hi : i ≤ gs.length) (hl : gs.length < 1000) (hr : K[y]? = some (.row (flat [a, b] [pa, pb]) true none)) (hxy : y ≠ x)
    (ha : Ints (fun c => c ≠ x ∧ c ≠ z) K pa a.ws) (hb : Ints (fun c => c ≠ x ∧ c ≠ z) K pb b.ws) :
    ∃ u, Ret (tab Tryd.prog) 35 [.slice q.1 gs.length q.2, .int .i64 (i : Int), .slice (some ⟨y, 0, none⟩) 2 2] K (.slice (some ⟨K.length, 0, none⟩) (gs.length + 2) (gs.length + 2)) u ∧ Kp (fun c => c = x) K u ∧ Gates (fun c => c ≠ z) u (some ⟨K.length, 0, none⟩, gs.length + 2) (gs.take i ++ [a, b] ++ gs.drop i) := by
  have hnew : firstC K 4 2 (.slice (some ⟨y, 0, none⟩) 2 2) = some (flat [a, b] [pa, pb]) := by
    simp only [firstC, if_neg (show ¬ (2 * 4 = 0) by decide)]
    exact rowGet_all hr rfl
  have hfc : ((flat [a, b] [pa, pb]).all isCell) = true := all_cell flat_cells
  have hlenL : (gs.take i ++ [a, b] ++ gs.drop i).length = gs.length + 2 := by simp; omega
  rcases hq with ⟨rfl, rfl⟩ | ⟨rfl, lo, ps, e, hn, lh, ⟨cs, gr, r1, r2, r3, r4, r5⟩, w⟩
  · obtain rfl : i = 0 := by simpa using hi
    refine ⟨K ++ [.row (flat [a, b] [pa, pb]) true (some 4)], insg_ret (e := .new (.row (flat [a, b] [pa, pb]) true (some 4))) k235 ?_, Kp.app, ?_⟩
    · show kinsG [.slice none 0 0, .int .i64 ((0 : Nat) : Int), .slice (some ⟨y, 0, none⟩) 2 2] K = _
      unfold kinsG
      try dsimp only
      rw [if_pos ⟨rfl, by omega, by omega, by omega, by simp [roomB]⟩, hnew, show firstC K 4 0 (.slice none 0 0) = some [] from rfl]
      try dsimp only
      rw [if_pos ⟨rfl, hfc⟩]
      simp
    · show Gates (fun c => c ≠ z) (K ++ [.row (flat [a, b] [pa, pb]) true (some 4)]) (some ⟨K.length, 0, none⟩, 2) [a, b]
      have hf8 : (flat [a, b] [pa, pb]).length = 8 := flat_len [a, b] [pa, pb] rfl
      exact ⟨[pa, pb], rfl, ⟨hf8, Nat.le_refl _, .inr ⟨K.length, 0, flat [a, b] [pa, pb], true, some 4, rfl, fun e => hzk e.symm, by simp, .inr rfl, .inr ⟨by rw [hf8]; exact Nat.le_refl 8, by rw [List.drop_zero]; exact List.take_of_length_le (by rw [hf8]; exact Nat.le_refl 8)⟩⟩⟩,
        wires_ins (gs := []) (ps := []) (i := 0) rfl (fun i h1 => by simp at h1) (ha.congr (fun _ x => x.2) (fun _ _ _ => rfl)).app (hb.congr (fun _ x => x.2) (fun _ _ _ => rfl)).app (Nat.le_refl _)⟩
  · have hxl := (List.getElem?_eq_some_iff.1 r1).1
    have hyl := (List.getElem?_eq_some_iff.1 hr).1
    have hold : firstC K 4 gs.length (.slice (some ⟨x, 0, none⟩) gs.length gs.length) = some (flat gs ps) := by
      simp only [firstC]
      split
      · rename_i h0
        have : gs = [] := List.length_eq_zero_iff.1 (by omega)
        subst this
        rfl
      · unfold rowGet
        rw [show K[(⟨x, 0, none⟩ : Addr).block]? = some (CO.row cs true gr) from r1]
        dsimp only
        rw [if_pos ⟨rfl, by omega⟩, List.drop_zero, r5]
    have hoc : ((flat gs ps).all isCell) = true := all_cell flat_cells
    have hres := flat_ins e i a b pa pb
    refine ⟨K.set x .gone ++ [.row (flat (gs.take i ++ [a, b] ++ gs.drop i) (ps.take i ++ [pa, pb] ++ ps.drop i)) true (some 4)], insg_ret (e := .kill x (.row (flat (gs.take i ++ [a, b] ++ gs.drop i) (ps.take i ++ [pa, pb] ++ ps.drop i)) true (some 4))) k235 ?_, ⟨by simp, fun c hc hs => ?_⟩, ?_⟩
    · unfold kinsG
      try dsimp only
      rw [if_pos ⟨rfl, by omega, by omega, by omega, by simp only [roomB]; omega⟩, hold, hnew]
      try dsimp only
      rw [if_pos ⟨hoc, hfc⟩, r1, hr]
      try dsimp only
      rw [if_pos ⟨r2, fun e => hxy e.symm⟩, show (i : Int).toNat = i from rfl, hres]
    · rw [pre_get (by simp; omega), List.getElem?_set_ne (fun e => hs e.symm)]
    · have el : (ps.take i ++ [pa, pb] ++ ps.drop i).length = (gs.take i ++ [a, b] ++ gs.drop i).length := by simp [e]
      have hfl := flat_len _ _ el
      have hrow : (K.set x .gone ++ [CO.row (flat (gs.take i ++ [a, b] ++ gs.drop i) (ps.take i ++ [pa, pb] ++ ps.drop i)) true (some 4)])[K.length]? = some (.row (flat (gs.take i ++ [a, b] ++ gs.drop i) (ps.take i ++ [pa, pb] ++ ps.drop i)) true (some 4)) := by
        rw [List.getElem?_append_right (by simp)]
        simp only [List.length_set, Nat.sub_self, List.getElem?_cons_zero]
      refine ⟨ps.take i ++ [pa, pb] ++ ps.drop i, el, ⟨hfl, by omega, .inr ⟨K.length, 0, _, true, some 4, rfl, fun e => hzk e.symm, hrow, .inr rfl, .inr ⟨by omega, by rw [List.drop_zero]; exact List.take_of_length_le (by omega)⟩⟩⟩, ?_⟩
      have mv : ∀ {p : Pl} {l : List Int}, Ints (fun c => c ≠ x ∧ c ≠ z) K p l → Ints (fun c => c ≠ z) (K.set x .gone ++ [.row (flat (gs.take i ++ [a, b] ++ gs.drop i) (ps.take i ++ [pa, pb] ++ ps.drop i)) true (some 4)]) p l := fun H => H.congr (fun _ x => x.2) fun c hc hl => by
        rw [pre_get (by simp; omega), List.getElem?_set_ne (fun e => hc.1 e.symm)]
      exact wires_ins e (fun k h1 h2 => mv ((w k h1 h2).congr (fun c y => ⟨y.2, by have := y.1.2; omega⟩) fun _ _ _ => rfl)) (mv ha) (mv hb) hi
/-- Own's list lies in a row of its own, or there is none. -/
theorem leafQ {h h' A Z : Heap} {u : Value} {n : Nat} {p : Pl} {gs : List G} (he : h' = h ++ (A ++ Z)) (hz : Bld n Z p gs) (hn : n = h.length + A.length) (hf : flat2 u = true → p.1 = none) :
    ∃ X x, forget h u h' = h ++ X ∧ OLq (h ++ X) (h ++ X).length x p gs ∧ h.length ≤ x ∧ (x < (h ++ X).length ∨ (h ++ X).length + 1000 ≤ x) := by
  by_cases hg : gs = []
  · obtain ⟨X, h1, _⟩ := leafB he hz hn hf
    obtain ⟨ps, a, ⟨b1, b2⟩, c, d⟩ := hz
    subst hg
    rcases b2 with ⟨b2, _⟩ | ⟨j, gr, e, r1, r2⟩
    · exact ⟨X, (h ++ X).length + 1000, h1, .inl ⟨rfl, b2⟩, by simp; omega, .inr (Nat.le_refl _)⟩
    · have hu : ¬ flat2 u = true := fun hu => by have := hf hu; rw [e] at this; cases this
      subst he
      have hps : ps = [] := List.length_eq_zero_iff.1 a
      subst hps
      have hj := (List.getElem?_eq_some_iff.1 r1).1
      refine ⟨A ++ Z, n + j, forget_more (by simpa using hu), .inr ⟨e, 0, [], rfl, Nat.le_refl _, ⟨by omega, by simp; omega⟩, ⟨flat [] [], gr, ?_, r2, by simp, flat_cells (gs := []) (ps := []), by simp [flat]⟩, fun i h1 => by simp at h1⟩, by omega, .inl (by simp; omega)⟩
      rw [← List.append_assoc, List.getElem?_append_right (by simp; omega), show n + j - (h ++ A).length = j by simp; omega]
      exact r1
  · obtain ⟨X, h1, h2⟩ := leafB he hz hn hf
    obtain ⟨x, e, ps, H⟩ := h2 hg
    exact ⟨X, x, h1, .inr ⟨e, _, ps, H⟩, H.lh.1, .inl H.lh.2⟩
theorem kown_retQ (H : Heap) (c : C) (p : Pl) {S : Nat → Prop} (hv : Gates S H p c.gs) (hl : c.gs.length < 4294967296) (hw : ∀ g ∈ c.gs, g.ws.length < 4294967296) : ∃ X p' x, Ret (tab Tryd.prog) 27 [cv c p] H (cv c p') (H ++ X) ∧ OLq (H ++ X) (H ++ X).length x p' c.gs ∧ H.length ≤ x ∧ (x < (H ++ X).length ∨ (H ++ X).length + 1000 ≤ x) := by
  have key := Ret_grow (T := tab Tryd.prog) (f := 27) (args := [cv c p]) (h := H) (fun u X => ∃ p' x, u = cv c p' ∧ OLq (H ++ X) (H ++ X).length x p' c.gs ∧ H.length ≤ x ∧ (x < (H ++ X).length ∨ (H ++ X).length + 1000 ≤ x)) k8 rfl ?_
  · obtain ⟨u, X, hr, p', x, rfl, f1⟩ := key
    exact ⟨X, p', x, hr, f1⟩
  refine AX_seq (AX_E (E_boxA rfl (E_new (E_nil (AX_seq (AX_E (E_fa rfl (E_ldO (k := 0) (v := .int .i64 (c.w)) rfl rfl (E_fa rfl (E_ldO (k := 0) (v := .int .i64 (c.b)) rfl rfl (E_mk (cs := [.int .i64 (c.w), .int .i64 (c.b), .slice none 0 0]) rfl (E_new (E_stO (k := 2) rfl rfl (v := .agg _) rfl rfl rfl rfl (E_nil (AX_seq (AX_seq (AX_E (E_fa rfl (E_ldO (k := 0) (v := .slice _ _ _) rfl rfl (E_len (n := (c.gs).length) rfl (E_mv (v := .int .i64 (0)) rfl (E_nil (AX_block ?_)))))))))))))))))))))))
  refine AX_loopF (γ := Nat × Pl) (fun x => [(2, .pointer (some ⟨(H).length + 1, 0, none⟩)), (3, .pointer (some ⟨(H).length + 2, 0, none⟩)), (12, .slice (p).1 (c.gs).length (p).2), (13, .int .i64 ((c.gs).length)), (14, .int .i64 ((x.1 : Int)))]) (fun x h_ m_ => (∃ z_, h_ = H ++ ([CO.row [.int .i64 (c.w), .int .i64 (c.b), .slice (p).1 (c.gs).length (p).2] true none, CO.row [.int .i64 (0), .int .i64 (0), .slice none 0 0] true none, CO.row [.int .i64 (c.w), .int .i64 (c.b), .slice (x.2).1 (c.gs.take x.1).length (x.2).2] true none] ++ z_) ∧ Bld (H.length + 3) z_ x.2 (c.gs.take x.1)) ∧ m_ = [] ∧ x.1 ≤ c.gs.length) (fun x => c.gs.length - x.1) (0, (none, 0)) ⟨rfl, rfl, rfl, rfl, rfl, trivial⟩ ⟨⟨[], app0 _ _, Bld.nil⟩, rfl, ?_⟩ ?_
  · simp
  rintro ⟨j, p0⟩ fr0 h0 m0 ⟨⟨z0, rfl, zf0⟩, rfl, inv0⟩ K0 hN0 hR0 hE0
  try dsimp only at zf0 inv0
  refine AX_nil ?_
  refine AX_seq (AX_E (E_lssS rfl rfl (fun c15 => ?_) (fun c15 => ?_)))
  · refine E_nil (AX_seq (AX_condT rfl (AX_skip (AX_seq (AX_block (AX_seq (AX_E (have ix1 : j < (c.gs).length := (by first | omega | (simp; done) | (simp; omega)); E_iaGb (j := j) rfl hv.app rfl rfl rfl ix1 fun b1 o1 q1 f1 w1 => (E_ldBN rfl w1 (E_new (E_stO (k := 0) rfl rfl (v := .agg _) rfl rfl rfl rfl (E_nil (AX_E (E_fa rfl (E_ldB (v := .slice _ _ _) rfl (rowGet_own (k := 2) rfl) (E_fa rfl (E_ldO (k := 0) (v := .int .i64 ((c.gs[j]'ix1).k)) rfl rfl (E_fa rfl (E_ldO (k := 0) (v := .slice _ _ _) rfl rfl ?_)))))))))))))))))))
    obtain ⟨X2, q2, hr2, f2⟩ := clone_ret _ _ _ f1.app (by exact hw _ (List.getElem_mem _))
    refine E_callX (X := X2) rfl (hr2) (E_fa rfl (E_ldB (v := .int .i64 ((c.gs[j]'ix1).b)) rfl (rowGet_own (k := 0) rfl) (E_fa rfl (E_ldB (v := .int .i64 ((c.gs[j]'ix1).f)) rfl (rowGet_own (k := 0) rfl) (E_mk (cs := [.int .i64 ((c.gs[j]'ix1).k), .slice (q2).1 ((c.gs[j]'ix1).ws).length (q2).2, .int .i64 ((c.gs[j]'ix1).b), .int .i64 ((c.gs[j]'ix1).f)]) rfl (E_mkS (cs := [.int .i64 ((c.gs[j]'ix1).k), .slice (q2).1 ((c.gs[j]'ix1).ws).length (q2).2, .int .i64 ((c.gs[j]'ix1).b), .int .i64 ((c.gs[j]'ix1).f)]) rfl (E_appG (A := [CO.row [.int .i64 (c.w), .int .i64 (c.b), .slice (p).1 (c.gs).length (p).2] true none, CO.row [.int .i64 (0), .int .i64 (0), .slice none 0 0] true none, CO.row [.int .i64 (c.w), .int .i64 (c.b), .slice (p0).1 (c.gs.take j).length (p0).2] true none]) (Z := z0) (W := ([CO.row [.int .i64 ((c.gs[j]'ix1).k), .slice (q1).1 ((c.gs[j]'ix1).ws).length (q1).2, .int .i64 ((c.gs[j]'ix1).b), .int .i64 ((c.gs[j]'ix1).f)] true none] ++ (X2 ++ [CO.row [.int .i64 ((c.gs[j]'ix1).k), .slice (q2).1 ((c.gs[j]'ix1).ws).length (q2).2, .int .i64 ((c.gs[j]'ix1).b), .int .i64 ((c.gs[j]'ix1).f)] true none]))) (gs' := c.gs.take (j + 1)) (by first | (simp only [List.append_assoc, List.append_nil, List.nil_append, List.cons_append, List.set_cons_zero, List.set_cons_succ]; done) | (simp only [List.append_assoc, List.append_nil, List.nil_append, List.cons_append, List.set_cons_zero, List.set_cons_succ]; rfl)) (List.take_succ_eq_append_getElem (by omega)) (n := (H.length + 3)) (by simp) (zf0) rfl rfl (rowGet_own (k := 0) rfl) (IntsZ.inside f2 (by simp; omega)) (by rw [List.length_take]; omega) rfl fun z3n p3n hb3n => (E_fa rfl (E_stO (k := 2) rfl rfl (v := .slice _ _ _) rfl rfl rfl rfl (E_nil (AX_E (E_addI rfl rfl (by first | omega | (simp; done) | (simp; omega)) (by first | omega | (simp; done) | (simp; omega)) (E_mv (v := .int .i64 (((j : Int) + 1))) rfl (E_nil ?_))))))))))))))
    refine hN0 (j + 1, p3n) _ _ _ ⟨by first | rfl | (congr 1; omega), by first | rfl | (congr 1; omega), by first | rfl | (congr 1; omega), by first | rfl | (congr 1; omega), by first | rfl | (congr 1; omega), trivial⟩ ⟨⟨z3n, rfl, hb3n⟩, rfl, ?_⟩ ?_
    all_goals clear hN0 hR0 hE0
    · omega
    · (first | omega | (simp; omega))
  · refine E_nil (AX_seq (AX_condF rfl (AX_exit (hE0 _ _ _ _ ?_))))
    have e0 : c.gs.take j = c.gs := List.take_of_length_le (by omega)
    refine AX_hp (h' := H ++ ([CO.row [.int .i64 (c.w), .int .i64 (c.b), .slice (p).1 (c.gs).length (p).2] true none, CO.row [.int .i64 (0), .int .i64 (0), .slice none 0 0] true none, CO.row [.int .i64 (c.w), .int .i64 (c.b), .slice (p0).1 (c.gs.take j).length (p0).2] true none] ++ z0)) (by first | (simp only [List.append_assoc, List.append_nil, List.nil_append, List.cons_append, List.set_cons_zero, List.set_cons_succ]; done) | (simp only [List.append_assoc, List.append_nil, List.nil_append, List.cons_append, List.set_cons_zero, List.set_cons_succ]; rfl)) ?_
    refine AX_seq (AX_E (E_ldON (k := 2) rfl rfl (E_stO (k := 1) rfl rfl (v := .agg _) rfl rfl rfl rfl (E_nil (AX_ret ?_)))))
    refine ⟨_, res1 (res_cellN (k := 1) rfl rfl), by simp, ?_⟩
    obtain ⟨X, x, h1, h2⟩ := leafQ (h := H) (h' := H ++ ([CO.row [.int .i64 (c.w), .int .i64 (c.b), .slice (p).1 (c.gs).length (p).2] true none, CO.row [.int .i64 (c.w), .int .i64 (c.b), .slice (p0).1 (c.gs.take j).length (p0).2] true none, CO.row [.int .i64 (c.w), .int .i64 (c.b), .slice (p0).1 (c.gs.take j).length (p0).2] true none] ++ z0)) (A := [CO.row [.int .i64 (c.w), .int .i64 (c.b), .slice (p).1 (c.gs).length (p).2] true none, CO.row [.int .i64 (c.w), .int .i64 (c.b), .slice (p0).1 (c.gs.take j).length (p0).2] true none, CO.row [.int .i64 (c.w), .int .i64 (c.b), .slice (p0).1 (c.gs.take j).length (p0).2] true none]) (Z := z0) (u := cv ⟨c.w, c.b, c.gs.take j⟩ p0) rfl zf0 (by simp) cv_flat
    exact ⟨X, h1, p0, x, (show _ = cv ⟨c.w, c.b, c.gs.take j⟩ p0 from rfl).trans (by rw [e0] <;> rfl), by rw [e0] at h2; exact h2⟩
end Go.Canon
namespace Go.Canon
open Go Go.Proofs
set_option linter.unusedVariables false
set_option linter.unusedSimpArgs false
theorem cg_more {g : G} {w b : Int} (hb : 0 ≤ b) (h : cgM g w 0 = 0) (h1 : g.k ≤ 12) (h2 : g.f = 0) : cgM g w b = 0 := by
  unfold cgM at h ⊢
  split at h <;> try omega
  split at h <;> try omega
  split at h <;> try omega
  split at h <;> try omega
  split at h <;> try omega
  split at h <;> try omega
  rw [if_neg (by assumption), if_neg (by assumption), if_neg (by assumption), if_neg (by assumption), if_neg (by omega), if_neg (by omega)]
theorem canc_mem {c : C} {x : G} (h : x ∈ (cancelM c).gs) : x ∈ c.gs := (cancel_sub (w := c.gs)).1.mem h
theorem canc_facts {c : C} (hc : checkM c = 0) : cancelR c = cancelM c ∧ checkM (cancelM c) = 0 ∧ cancelR (cancelM c) = cancelM c ∧ (cancelM c).gs.Sublist c.gs ∧ (cancelM c).gs.length ≤ c.gs.length ∧ (c.gs.length - (cancelM c).gs.length) % 2 = 0 := by
  have hr := CR.of hc
  obtain ⟨s1, s2, s3⟩ := cancel_sub (w := c.gs)
  have h2 : checkM (cancelM c) = 0 := checkM_of ⟨by have := hr.w0; show 1 ≤ c.w; omega, hr.w0.2⟩ hr.b0 (by show (cancelL c.gs).length ≤ 120; have := hr.n0; omega) fun g hg => hr.cg g (canc_mem hg)
  refine ⟨if_pos hc, h2, ?_, s1, s2, s3⟩
  rw [cancelR, if_pos h2]
  show (⟨c.w, c.b, cancelL (cancelL c.gs)⟩ : C) = ⟨c.w, c.b, cancelL c.gs⟩
  rw [cancel_again fun g hg => hr.gr hg]
/-- The circuit with a gate and the one that undoes it put in. -/
def putC (c : C) (i : Nat) (g : G) : C := ⟨c.w, c.b, c.gs.take i ++ [g, invG g] ++ c.gs.drop i⟩
theorem put_facts {c : C} {g : G} {i : Nat} (hc : checkM c = 0) (hn : c.gs.length ≤ 14) (hg : cgM g c.w 0 = 0) (hk : 1 ≤ g.k ∧ g.k ≤ 12) (hf : g.f = 0) (hi : i ≤ c.gs.length) :
    (inverseE ⟨c.w, 0, [g]⟩ = 0 ∧ inverseM ⟨c.w, 0, [g]⟩ = ⟨c.w, 0, [invG g]⟩) ∧ (checkM (putC c i g) = 0 ∧ (putC c i g).gs.length = c.gs.length + 2) ∧ (cancelR (putC c i g) = cancelM (putC c i g) ∧ (cancelM (putC c i g)).gs.length = (cancelM c).gs.length) ∧
    equalE (cancelM (putC c i g)) (cancelM c) = 0 ∧ (¬ (g.k = 10 ∨ g.k = 11 ∨ g.k = 12) → tidyM (cancelM (putC c i g)) = tidyM (cancelM c)) := by
  have hr := CR.of hc
  have w0 := hr.w0; have b0 := hr.b0
  obtain ⟨_, x2, _⟩ := canc_facts hc
  have hgr : GR g := GR.of hg w0.2 (by omega)
  have hp : checkM ⟨c.w, 0, [g]⟩ = 0 := checkM_of w0 (by omega) (by simp) fun x hx => by simp at hx; subst hx; exact hg
  have hpl : plainM ⟨c.w, 0, [g]⟩ := fun x hx => by simp at hx; subst hx; exact ⟨by omega, hf⟩
  have e1 : inverseE ⟨c.w, 0, [g]⟩ = 0 := by unfold inverseE; rw [if_neg (by rw [hp]; decide), if_pos hpl]
  have hb := cg_more b0.1 hg hk.2 hf
  have hlen : (putC c i g).gs.length = c.gs.length + 2 := by simp [putC]; omega
  have hD : checkM (putC c i g) = 0 := checkM_of w0 b0 (by have : (putC c i g).gs.length ≤ 120 := (by omega); exact this) fun x hx => by
    simp only [List.mem_append, List.mem_cons, List.not_mem_nil, or_false] at hx
    rcases hx with (hx | rfl | rfl) | hx
    · exact hr.cg x (List.mem_of_mem_take hx)
    · exact hb
    · exact inv_cg hb (by omega)
    · exact hr.cg x (List.mem_of_mem_drop hx)
  obtain ⟨d1, d2, _⟩ := canc_facts hD
  have hw : Al GR c.gs := fun x hx => hr.gr hx
  refine ⟨⟨e1, by rw [inverseM, if_pos e1]; rfl⟩, ⟨hD, hlen⟩, ⟨d1, cancel_pair_len hw hgr hk.2⟩, ?_, fun h => ?_⟩
  · unfold equalE
    rw [if_neg (by rw [d2]; decide)]
    exact x2
  · show (⟨c.w, c.b, tidyL _ _⟩ : C) = ⟨c.w, c.b, tidyL _ _⟩
    rw [show (cancelM (putC c i g)).gs = cancelL (c.gs.take i ++ [g, invG g] ++ c.gs.drop i) from rfl, cancel_pair_tidy hw hgr hk.2 h]
    rfl
theorem kp_pre {h h' : Heap} (hp : h <+: h') : Kp (fun _ => False) h h' := by
  obtain ⟨t, rfl⟩ := hp
  exact Kp.app
theorem pre_of {K K' L : Heap} (e : K' = K ++ L) : K <+: K' := by rw [e]; exact List.prefix_append _ _
theorem OLq.pre {h h' : Heap} {hi x : Nat} {q : Pl} {gs : List G} (H : OLq h hi x q gs) (hp : h <+: h') : OLq h' hi x q gs := by
  rcases H with H | ⟨e, lo, ps, H⟩
  · exact .inl H
  · exact .inr ⟨e, lo, ps, H.kp (kp_pre hp) fun _ _ _ x => x⟩
theorem E_rem2 {B : Nat → Prop} {T : Nat → Option KFunc} {fi : FI} {prs : List (Nat × Nat)} {i : Nat} {d : Option Nat} {r : List KOper} {fr : Nat → Value} {h : Heap} {m : List Nat} {K : (Nat → Value) → Heap → List Nat → Prop} {x y : KO} {a b : Nat} (hx : x.ev fr = .int .i64 ((a : Int) - (b : Int))) (hy : y.ev fr = .int .i64 2) (hn : b ≤ a) (h2 : (a - b) % 2 = 0) (H : AE B T fi prs (i + 1) r (put fr d (.int .i64 0)) h m K) : AE B T fi prs i (⟨d, .bin .rem x y, none⟩ :: r) fr h m K := by
  have e : ((a : Int) - (b : Int)).tmod 2 = 0 := by
    rw [show (a : Int) - (b : Int) = ((a - b : Nat) : Int) by omega, show (2 : Int) = ((2 : Nat) : Int) from rfl, ← Int.ofNat_tmod, h2]
    rfl
  refine E_no ?_ H
  simp only [kop, hx, hy, kbin, kint, if_true, Option.map_some]
  rw [if_neg (by decide), e]
  rfl
end Go.Canon
namespace Go.Canon
open Go Go.Proofs
set_option linter.unusedVariables false
set_option linter.unusedSimpArgs false
def kf206 : KFunc := ⟨3, 201, [.tmp 6], .seq (.reg [⟨some 6, .mv (.c (.bool false)), none⟩] []) (.seq (.reg [⟨some 23, .mv (.t 0), none⟩, ⟨some 24, .call (.c (.func (.func 10) #[] #[])) [.t 23], none⟩, ⟨some 7, .mv (.t 24), none⟩] []) (.seq (.reg [⟨some 25, .mv (.t 7), none⟩, ⟨some 26, .mv (.t 2), none⟩, ⟨some 27, .call (.c (.func (.func 9) #[] #[])) [.t 25, .t 26], none⟩, ⟨some 8, .new [.int .i64 0, .int .i64 0, .slice none 0 0], none⟩, ⟨none, .st (.t 8) (.t 27) 3, none⟩] []) (.seq (.reg [⟨some 29, .ld (.t 8) (some 3), none⟩, ⟨some 30, .call (.c (.func (.func 25) #[] #[])) [.t 29], none⟩, ⟨some 28, .mv (.t 30), none⟩, ⟨some 31, .ext (.t 28) 0, none⟩, ⟨some 32, .ext (.t 28) 1, none⟩, ⟨some 9, .new [.int .i64 0, .int .i64 0, .slice none 0 0], none⟩, ⟨none, .st (.t 9) (.t 31) 3, none⟩, ⟨some 10, .mv (.t 32), none⟩] []) (.seq (.reg [⟨some 34, .ld (.t 9) (some 3), none⟩, ⟨some 35, .call (.c (.func (.func 25) #[] #[])) [.t 34], none⟩, ⟨some 33, .mv (.t 35), none⟩, ⟨some 36, .ext (.t 33) 0, none⟩, ⟨some 37, .ext (.t 33) 1, none⟩, ⟨some 11, .new [.int .i64 0, .int .i64 0, .slice none 0 0], none⟩, ⟨none, .st (.t 11) (.t 36) 3, none⟩, ⟨some 12, .mv (.t 37), none⟩] []) (.seq (.seq (.reg [⟨some 38, .mv (.t 10), none⟩, ⟨some 39, .bin .neq (.t 38) (.c (.int .i64 0)), none⟩, ⟨some 40, .mv (.t 39), none⟩, ⟨some 41, .mv (.t 12), some (40, false)⟩, ⟨some 42, .bin .neq (.t 41) (.c (.int .i64 0)), some (40, false)⟩, ⟨some 43, .pick (.t 40) (.c (.bool true)) (.t 42), none⟩, ⟨some 44, .mv (.t 43), none⟩, ⟨some 45, .ld (.t 11) (some 3), some (44, false)⟩, ⟨some 46, .ld (.t 9) (some 3), some (44, false)⟩, ⟨some 47, .call (.c (.func (.func 24) #[] #[])) [.t 45, .t 46], some (44, false)⟩, ⟨some 48, .not (.t 47), some (44, false)⟩, ⟨some 49, .pick (.t 44) (.c (.bool true)) (.t 48), none⟩, ⟨some 50, .mv (.t 49), none⟩, ⟨some 51, .fa (.t 9) 2, some (50, false)⟩, ⟨some 52, .ld (.t 51) none, some (50, false)⟩, ⟨some 53, .len (.t 52), some (50, false)⟩, ⟨some 54, .fa (.t 8) 2, some (50, false)⟩, ⟨some 55, .ld (.t 54) none, some (50, false)⟩, ⟨some 56, .len (.t 55), some (50, false)⟩, ⟨some 57, .bin .gtr (.t 53) (.t 56), some (50, false)⟩, ⟨some 58, .pick (.t 50) (.c (.bool true)) (.t 57), none⟩, ⟨some 59, .mv (.t 58), none⟩, ⟨some 60, .fa (.t 8) 2, some (59, false)⟩, ⟨some 61, .ld (.t 60) none, some (59, false)⟩, ⟨some 62, .len (.t 61), some (59, false)⟩, ⟨some 63, .fa (.t 9) 2, some (59, false)⟩, ⟨some 64, .ld (.t 63) none, some (59, false)⟩, ⟨some 65, .len (.t 64), some (59, false)⟩, ⟨some 66, .bin .sub (.t 62) (.t 65), some (59, false)⟩, ⟨some 67, .bin .rem (.t 66) (.c (.int .i64 2)), some (59, false)⟩, ⟨some 68, .bin .neq (.t 67) (.c (.int .i64 0)), some (59, false)⟩, ⟨some 69, .pick (.t 59) (.c (.bool true)) (.t 68), none⟩] []) (.cond (.t 69) (.seq (.reg [⟨some 6, .mv (.c (.bool false)), none⟩] []) .ret) .skip)) (.seq (.reg [⟨some 13, .mv (.c (.int .i64 0)), none⟩] []) (.seq (.seq (.reg [⟨some 70, .fa (.t 8) 2, none⟩, ⟨some 71, .ld (.t 70) none, none⟩, ⟨some 72, .len (.t 71), none⟩, ⟨some 73, .mv (.c (.int .i64 0)), none⟩] []) (.block 0 (.loop (.seq (.reg [⟨some 74, .bin .lss (.t 73) (.t 72), none⟩] []) (.seq (.cond (.t 74) .skip (.exit 0)) (.seq (.block 1 (.seq (.reg [⟨some 75, .iaS (.t 71) (.t 73) 4, none⟩, ⟨some 76, .ld (.t 75) (some 4), none⟩, ⟨some 15, .new [.int .i64 0, .slice none 0 0, .int .i64 0, .int .i64 0], none⟩, ⟨none, .st (.t 15) (.t 76) 4, none⟩] []) (.seq (.reg [⟨some 77, .mv (.t 13), none⟩, ⟨some 78, .fa (.t 9) 2, none⟩, ⟨some 79, .ld (.t 78) none, none⟩, ⟨some 80, .len (.t 79), none⟩, ⟨some 81, .bin .lss (.t 77) (.t 80), none⟩, ⟨some 82, .mv (.t 81), none⟩, ⟨some 83, .ld (.t 15) (some 4), some (82, true)⟩, ⟨some 84, .fa (.t 9) 2, some (82, true)⟩, ⟨some 85, .ld (.t 84) none, some (82, true)⟩, ⟨some 86, .mv (.t 13), some (82, true)⟩, ⟨some 87, .iaS (.t 85) (.t 86) 4, some (82, true)⟩, ⟨some 88, .ld (.t 87) (some 4), some (82, true)⟩, ⟨some 89, .call (.c (.func (.func 32) #[] #[])) [.t 83, .t 88], some (82, true)⟩, ⟨some 90, .pick (.t 82) (.t 89) (.c (.bool false)), none⟩] []) (.cond (.t 90) (.reg [⟨some 91, .mv (.t 13), none⟩, ⟨some 92, .bin .add (.t 91) (.c (.int .i64 1)), none⟩, ⟨some 13, .mv (.t 92), none⟩] []) .skip)))) (.reg [⟨some 93, .bin .add (.t 73) (.c (.int .i64 1)), none⟩, ⟨some 73, .mv (.t 93), none⟩] []))))))) (.seq (.seq (.reg [⟨some 94, .mv (.t 13), none⟩, ⟨some 95, .fa (.t 9) 2, none⟩, ⟨some 96, .ld (.t 95) none, none⟩, ⟨some 97, .len (.t 96), none⟩, ⟨some 98, .bin .neq (.t 94) (.t 97), none⟩] []) (.cond (.t 98) (.seq (.reg [⟨some 6, .mv (.c (.bool false)), none⟩] []) .ret) .skip)) (.seq (.reg [⟨some 99, .fa (.t 8) 0, none⟩, ⟨some 100, .ld (.t 99) none, none⟩, ⟨some 101, .mv (.t 7), none⟩, ⟨some 102, .fa (.t 8) 0, none⟩, ⟨some 103, .ld (.t 102) none, none⟩, ⟨some 104, .ld (.c (.pointer (some ⟨0, 0, none⟩))) none, none⟩, ⟨some 105, .call (.c (.func (.func 34) #[] #[])) [.t 101, .t 103, .t 104], none⟩, ⟨some 106, .mkS [.int .i64 0, .slice none 0 0, .int .i64 0, .int .i64 0] 1 [(0, 4, .t 105)], none⟩, ⟨some 107, .mk [.int .i64 0, .int .i64 0, .slice none 0 0] [(0, 1, .t 100), (2, 1, .t 106)], none⟩, ⟨some 16, .new [.int .i64 0, .int .i64 0, .slice none 0 0], none⟩, ⟨none, .st (.t 16) (.t 107) 3, none⟩] [(1, 6)]) (.seq (.reg [⟨some 109, .ld (.t 16) (some 3), none⟩, ⟨some 110, .call (.c (.func (.func 22) #[] #[])) [.t 109], none⟩, ⟨some 108, .mv (.t 110), none⟩, ⟨some 111, .ext (.t 108) 0, none⟩, ⟨some 112, .ext (.t 108) 1, none⟩, ⟨some 17, .new [.int .i64 0, .int .i64 0, .slice none 0 0], none⟩, ⟨none, .st (.t 17) (.t 111) 3, none⟩, ⟨some 10, .mv (.t 112), none⟩] []) (.seq (.seq (.reg [⟨some 113, .mv (.t 10), none⟩, ⟨some 114, .bin .neq (.t 113) (.c (.int .i64 0)), none⟩, ⟨some 115, .mv (.t 114), none⟩, ⟨some 116, .fa (.t 17) 2, some (115, false)⟩, ⟨some 117, .ld (.t 116) none, some (115, false)⟩, ⟨some 118, .len (.t 117), some (115, false)⟩, ⟨some 119, .bin .neq (.t 118) (.c (.int .i64 1)), some (115, false)⟩, ⟨some 120, .pick (.t 115) (.c (.bool true)) (.t 119), none⟩] []) (.cond (.t 120) (.seq (.reg [⟨some 6, .mv (.c (.bool false)), none⟩] []) .ret) .skip)) (.seq (.reg [⟨some 121, .ld (.t 8) (some 3), none⟩, ⟨some 122, .call (.c (.func (.func 27) #[] #[])) [.t 121], none⟩, ⟨some 18, .new [.int .i64 0, .int .i64 0, .slice none 0 0], none⟩, ⟨none, .st (.t 18) (.t 122) 3, none⟩] []) (.seq (.reg [⟨some 123, .mv (.t 1), none⟩, ⟨some 124, .cv .i64 (.t 123), none⟩, ⟨some 125, .fa (.t 18) 2, none⟩, ⟨some 126, .ld (.t 125) none, none⟩, ⟨some 127, .len (.t 126), none⟩, ⟨some 128, .bin .add (.t 127) (.c (.int .i64 1)), none⟩, ⟨some 129, .bin .rem (.t 124) (.t 128), none⟩, ⟨some 19, .mv (.t 129), none⟩] []) (.seq (.reg [⟨some 130, .fa (.t 18) 2, none⟩, ⟨some 131, .ld (.t 130) none, none⟩, ⟨some 132, .mv (.t 19), none⟩, ⟨some 133, .fa (.t 16) 2, none⟩, ⟨some 134, .ld (.t 133) none, none⟩, ⟨some 135, .iaS (.t 134) (.c (.int .i64 0)) 4, none⟩, ⟨some 136, .ld (.t 135) (some 4), none⟩, ⟨some 137, .fa (.t 17) 2, none⟩, ⟨some 138, .ld (.t 137) none, none⟩, ⟨some 139, .iaS (.t 138) (.c (.int .i64 0)) 4, none⟩, ⟨some 140, .ld (.t 139) (some 4), none⟩, ⟨some 141, .mkS [.int .i64 0, .slice none 0 0, .int .i64 0, .int .i64 0, .int .i64 0, .slice none 0 0, .int .i64 0, .int .i64 0] 2 [(0, 4, .t 136), (4, 4, .t 140)], none⟩, ⟨some 142, .call (.c (.func (.func 35) #[] #[])) [.t 131, .t 132, .t 141], none⟩, ⟨some 143, .fa (.t 18) 2, none⟩, ⟨none, .st (.t 143) (.t 142) 1, none⟩] []) (.seq (.reg [⟨some 145, .ld (.t 18) (some 3), none⟩, ⟨some 146, .call (.c (.func (.func 25) #[] #[])) [.t 145], none⟩, ⟨some 144, .mv (.t 146), none⟩, ⟨some 147, .ext (.t 144) 0, none⟩, ⟨some 148, .ext (.t 144) 1, none⟩, ⟨some 20, .new [.int .i64 0, .int .i64 0, .slice none 0 0], none⟩, ⟨none, .st (.t 20) (.t 147) 3, none⟩, ⟨some 10, .mv (.t 148), none⟩] []) (.seq (.reg [⟨some 150, .ld (.t 20) (some 3), none⟩, ⟨some 151, .ld (.t 9) (some 3), none⟩, ⟨some 152, .call (.c (.func (.func 29) #[] #[])) [.t 150, .t 151], none⟩, ⟨some 149, .mv (.t 152), none⟩, ⟨some 153, .ext (.t 149) 0, none⟩, ⟨some 154, .ext (.t 149) 1, none⟩, ⟨some 21, .mv (.t 153), none⟩, ⟨some 12, .mv (.t 154), none⟩] []) (.seq (.reg [⟨some 155, .fa (.t 16) 2, none⟩, ⟨some 156, .ld (.t 155) none, none⟩, ⟨some 157, .iaS (.t 156) (.c (.int .i64 0)) 4, none⟩, ⟨some 158, .fa (.t 157) 0, none⟩, ⟨some 159, .ld (.t 158) none, none⟩, ⟨some 160, .bin .eql (.t 159) (.c (.int .i64 10)), none⟩, ⟨some 161, .mv (.t 160), none⟩, ⟨some 162, .fa (.t 16) 2, some (161, false)⟩, ⟨some 163, .ld (.t 162) none, some (161, false)⟩, ⟨some 164, .iaS (.t 163) (.c (.int .i64 0)) 4, some (161, false)⟩, ⟨some 165, .fa (.t 164) 0, some (161, false)⟩, ⟨some 166, .ld (.t 165) none, some (161, false)⟩, ⟨some 167, .bin .eql (.t 166) (.c (.int .i64 11)), some (161, false)⟩, ⟨some 168, .pick (.t 161) (.c (.bool true)) (.t 167), none⟩, ⟨some 169, .mv (.t 168), none⟩, ⟨some 170, .fa (.t 16) 2, some (169, false)⟩, ⟨some 171, .ld (.t 170) none, some (169, false)⟩, ⟨some 172, .iaS (.t 171) (.c (.int .i64 0)) 4, some (169, false)⟩, ⟨some 173, .fa (.t 172) 0, some (169, false)⟩, ⟨some 174, .ld (.t 173) none, some (169, false)⟩, ⟨some 175, .bin .eql (.t 174) (.c (.int .i64 12)), some (169, false)⟩, ⟨some 176, .pick (.t 169) (.c (.bool true)) (.t 175), none⟩, ⟨some 22, .mv (.t 176), none⟩] []) (.seq (.reg [⟨some 177, .mv (.t 10), none⟩, ⟨some 178, .bin .eql (.t 177) (.c (.int .i64 0)), none⟩, ⟨some 179, .mv (.t 178), none⟩, ⟨some 180, .mv (.t 12), some (179, true)⟩, ⟨some 181, .bin .eql (.t 180) (.c (.int .i64 0)), some (179, true)⟩, ⟨some 182, .pick (.t 179) (.t 181) (.c (.bool false)), none⟩, ⟨some 183, .mv (.t 182), none⟩, ⟨some 184, .mv (.t 21), some (183, true)⟩, ⟨some 185, .mv (.t 184), some (183, true)⟩, ⟨some 186, .mv (.t 22), some (185, false)⟩, ⟨some 187, .pick (.t 185) (.c (.bool true)) (.t 186), some (183, true)⟩, ⟨some 188, .pick (.t 183) (.t 187) (.c (.bool false)), none⟩, ⟨some 189, .mv (.t 188), none⟩, ⟨some 190, .fa (.t 20) 2, some (189, true)⟩, ⟨some 191, .ld (.t 190) none, some (189, true)⟩, ⟨some 192, .len (.t 191), some (189, true)⟩, ⟨some 193, .fa (.t 9) 2, some (189, true)⟩, ⟨some 194, .ld (.t 193) none, some (189, true)⟩, ⟨some 195, .len (.t 194), some (189, true)⟩, ⟨some 196, .bin .eql (.t 192) (.t 195), some (189, true)⟩, ⟨some 197, .pick (.t 189) (.t 196) (.c (.bool false)), none⟩, ⟨some 198, .mv (.t 197), none⟩, ⟨some 199, .call (.c (.func (.func 19) #[] #[])) [], some (198, true)⟩, ⟨some 200, .pick (.t 198) (.t 199) (.c (.bool false)), none⟩, ⟨some 6, .mv (.t 200), none⟩] []) .ret))))))))))))))))))⟩
theorem k206 : tab Tryd.prog 6 = some kf206 := by kernel_rfl
set_option maxRecDepth 100000 in
theorem cancelled_run (H : Heap) (pb pk : Pl) (bs kl : List Int) (pl : Bool) (at_ : Int) (hat : 0 ≤ at_ ∧ at_ ≤ 255) (hB : Byts allB H pb bs) (hl : bs.length < 9223372036854775808) (hg : rowGet H ⟨0, 0, none⟩ 1 = some [.slice pk.1 kl.length pk.2]) (h0 : 0 < H.length) (hkl : Ints allB H pk kl) (hk : kl = [1, 2, 3, 4, 5, 6, 7, 8, 9, 10, 11, 12]) : ∃ v h', Ret (tab Tryd.prog) 6 [.slice pb.1 bs.length pb.2, .int .u8 at_, .bool pl] H v h' ∧ v = .bool true := by
  have hne : 0 < kl.length ∧ kl.length < 100 := by rw [hk]; decide
  have hkk : ∀ x ∈ kl, 1 ≤ x ∧ x ≤ 12 := by rw [hk]; decide
  have h1 : arityM (kl[0]'hne.1) = 1 := by subst hk; rfl
  have key : ACall (tab Tryd.prog) 6 [.slice pb.1 bs.length pb.2, .int .u8 at_, .bool pl] H fun u _ => u = .bool true := by
    refine ACall_ownR k206 rfl ?_
    refine AX_seq (AX_E (E_mv (v := .bool _) rfl (E_nil (AX_seq (AX_E (E_mv (v := .slice _ _ _) rfl ?_))))))
    obtain ⟨s, X20, hr20, hsH, so20⟩ := sof_ret H pb bs hB hl
    obtain ⟨KA, hKA⟩ : ∃ K : Heap, K = H ++ X20 := ⟨_, rfl⟩
    rw [← hKA] at hr20 so20
    obtain ⟨N, hN⟩ : ∃ n : Nat, n = KA.length := ⟨_, rfl⟩
    rw [← hN] at so20
    have soKA := so20
    have kqKA : Kp (fun b => b = s) H KA := by rw [hKA]; exact Kp.app
    have lKA : H.length ≤ KA.length := kqKA.len
    have hsN := so20.1
    have klA : Ints (fun b => b < N ∧ b ≠ s) KA pk kl := Cells.congr (ints_lt hkl) (fun b hb => by have := hb.2; omega) (fun b hb hl => kqKA.keep b hl (by have := hb.2; omega))
    have gA : rowGet KA ⟨0, 0, none⟩ 1 = some [.slice pk.1 kl.length pk.2] := (rowGet_ne (kqKA.keep 0 h0 (by omega))).trans hg
    refine E_callU rfl hr20 rfl (E_mv (v := .pointer (some ⟨s, 0, none⟩)) rfl (E_nil (AX_seq (AX_E (E_mv (v := .pointer (some ⟨s, 0, none⟩)) rfl (E_mv (v := .bool _) rfl ?_))))))
    obtain ⟨c, q27, U27, hr27, hb27, ga27, soU27, kpU27⟩ := steered_ret N KA s 0 pl pk kl soKA (by omega) gA ⟨by omega, by omega⟩ klA hne hkk h1
    have kqU27 : Kp (fun b => b = s) H U27 := kqKA.trans kpU27 (fun _ _ x => x) (fun _ _ x => x)
    have leU27 : KA.length ≤ U27.length := kpU27.len
    have lhU27 : H.length ≤ U27.length := kqU27.len
    obtain ⟨hc, hw4, hb2, hl14⟩ := hb27
    obtain ⟨x1, x2, x3, x4, x5, x6⟩ := canc_facts hc
    have hr := CR.of hc
    have w0 := hr.w0
    have lc : lens c.gs := ⟨by omega, fun g hg => by have := (hr.gr hg).len; omega⟩
    have lx : lens (cancelM c).gs := ⟨by omega, fun g hg => by have := ((CR.of x2).gr hg).len; omega⟩
    have lwc : ∀ g ∈ c.gs, g.ws.length < 4294967296 := fun g hg => by have := (hr.gr hg).len; omega
    have klU : Ints (fun b => b < N ∧ b ≠ s) U27 pk kl := kpU27.ii klA (fun b hb => ⟨trivial, hb.2⟩)
    have gU : rowGet U27 ⟨0, 0, none⟩ 1 = some [.slice pk.1 kl.length pk.2] := (rowGet_ne (kpU27.keep 0 (by omega) (by omega))).trans gA
    refine E_callU rfl hr27 rfl (E_new (E_stO (k := 0) rfl rfl (v := .agg _) rfl rfl rfl rfl (E_nil (AX_seq (AX_E (E_ldON (k := 0) rfl rfl ?_))))))
    obtain ⟨X1, q1, hr1, f1⟩ := pcancel_ret (U27 ++ [CO.row [.int .i64 (c.w), .int .i64 (c.b), .slice (q27).1 (c.gs).length (q27).2] true none]) c _ (gates_lt2 ga27).app (by omega)
    rw [x1, hc] at hr1
    rw [x1] at f1
    obtain ⟨K2, hK2⟩ : ∃ K : Heap, K = U27 ++ ([CO.row [.int .i64 (c.w), .int .i64 (c.b), .slice (q27).1 (c.gs).length (q27).2] true none] ++ X1) := ⟨_, rfl⟩
    have lK2 : U27.length + 1 ≤ K2.length := by rw [hK2]; simp only [List.length_append, List.length_cons, List.length_nil]; omega
    have pK2 : U27 <+: K2 := by rw [hK2]; exact List.prefix_append _ _
    have fk3 : GatesP (fun b => (U27.length + 1 ≤ b ∧ b < K2.length)) K2 (q1) ((cancelM c).gs) := f1.atS (by simp) hK2
    refine E_callX (X := X1) rfl (hr1) (E_hp (h' := K2 ++ []) (congrArg (fun x : Heap => x ++ []) hK2.symm) (E_mv (v := .tuple _) rfl (E_ext (v := .agg _) rfl rfl (E_ext (v := .int .i64 (0)) rfl rfl (E_new (E_stO (k := 0) rfl rfl (v := .agg _) rfl rfl rfl rfl (E_mv (v := .int .i64 (0)) rfl (E_nil (AX_seq (AX_E (E_ldON (k := 0) rfl rfl ?_)))))))))))
    obtain ⟨X4, q4, hr4, f4⟩ := pcancel_ret (K2 ++ [CO.row [.int .i64 ((cancelM c).w), .int .i64 ((cancelM c).b), .slice (q1).1 ((cancelM c).gs).length (q1).2] true none]) (cancelM c) _ fk3.gates.app (by omega)
    rw [x3, x2] at hr4
    rw [x3] at f4
    obtain ⟨K5, hK5⟩ : ∃ K : Heap, K = K2 ++ ([CO.row [.int .i64 ((cancelM c).w), .int .i64 ((cancelM c).b), .slice (q1).1 ((cancelM c).gs).length (q1).2] true none] ++ X4) := ⟨_, rfl⟩
    have lK5 : K2.length + 1 ≤ K5.length := by rw [hK5]; simp only [List.length_append, List.length_cons, List.length_nil]; omega
    have pK5 : U27 <+: K5 := by rw [hK5]; exact (pK2).trans (List.prefix_append _ _)
    have fk6 : GatesP (fun b => (K2.length + 1 ≤ b ∧ b < K5.length)) K5 (q4) ((cancelM c).gs) := f4.atS (by simp) hK5
    refine E_callX (X := X4) rfl (hr4) (E_hp (h' := K5 ++ []) (congrArg (fun x : Heap => x ++ []) hK5.symm) (E_mv (v := .tuple _) rfl (E_ext (v := .agg _) rfl rfl (E_ext (v := .int .i64 (0)) rfl rfl (E_new (E_stO (k := 0) rfl rfl (v := .agg _) rfl rfl rfl rfl (E_mv (v := .int .i64 (0)) rfl (E_nil (AX_seq (AX_seq (AX_E (E_mv (v := .int .i64 (0)) rfl (E_neqS rfl rfl (fun c39 => ?_) (fun c39 => ?_))))))))))))))
    · exact (c39 rfl).elim
    · refine E_mv (v := .bool _) rfl (E_on rfl (E_mv (v := .int .i64 (0)) rfl (E_on rfl (E_neqS rfl rfl (fun c42 => ?_) (fun c42 => ?_)))))
      · exact (c42 rfl).elim
      · refine E_pickF rfl (v := .bool _) rfl (E_mv (v := .bool _) rfl (E_on rfl (E_ldON (k := 0) rfl rfl (E_on rfl (E_ldBN (cs := [.int .i64 ((cancelM c).w), .int .i64 ((cancelM c).b), .slice (q1).1 ((cancelM c).gs).length (q1).2]) rfl (rowGet_eq hK5 (rowGet_own (k := 0) rfl)) (E_on rfl (E_callP rfl (kcsame_ret _ (cancelM c) (cancelM c) _ _ fk6.gates.app (fk3.lift hK5).gates.app (by assumption)) (fun c47 => ?_) (fun c47 => ?_))))))))
        · refine E_on rfl (E_notV rfl rfl (E_pickF rfl (v := .bool _) rfl (E_mv (v := .bool _) rfl (E_on rfl (E_fa rfl (E_on rfl (E_ldB (v := .slice _ _ _) rfl (rowGet_eq hK5 (rowGet_own (k := 0) rfl)) (E_on rfl (E_len (n := ((cancelM c).gs).length) rfl (E_on rfl (E_fa rfl (E_on rfl (E_ldB (v := .slice _ _ _) rfl (rowGet_lift hK5 (rowGet_eq hK2 (rowGet_own (k := 0) rfl))) (E_on rfl (E_len (n := (c.gs).length) rfl (E_on rfl (E_gtrS rfl rfl (fun c57 => ?_) (fun c57 => ?_))))))))))))))))))
          · omega
          · refine E_pickF rfl (v := .bool _) rfl (E_mv (v := .bool _) rfl (E_on rfl (E_fa rfl (E_on rfl (E_ldB (v := .slice _ _ _) rfl (rowGet_lift hK5 (rowGet_eq hK2 (rowGet_own (k := 0) rfl))) (E_on rfl (E_len (n := (c.gs).length) rfl (E_on rfl (E_fa rfl (E_on rfl (E_ldB (v := .slice _ _ _) rfl (rowGet_eq hK5 (rowGet_own (k := 0) rfl)) (E_on rfl (E_len (n := ((cancelM c).gs).length) rfl (E_on rfl (E_subI rfl rfl (by first | omega | (simp; done) | (simp; omega)) (by first | omega | (simp; done) | (simp; omega)) (E_on rfl (E_rem2 rfl rfl x5 x6 (E_on rfl (E_neqS rfl rfl (fun c68 => ?_) (fun c68 => ?_))))))))))))))))))))
            · omega
            · refine E_pickF rfl (v := .bool _) rfl (E_nil (AX_condF rfl (AX_skip (AX_seq (AX_E (E_mv (v := .int .i64 (0)) rfl (E_nil (AX_seq (AX_seq (AX_E (E_fa rfl (E_ldB (v := .slice _ _ _) rfl (rowGet_lift hK5 (rowGet_eq hK2 (rowGet_own (k := 0) rfl))) (E_len (n := (c.gs).length) rfl ?_)))))))))))))
              obtain ⟨K7, hK7⟩ : ∃ K : Heap, K = K5 ++ ([CO.row [.int .i64 ((cancelM c).w), .int .i64 ((cancelM c).b), .slice (q4).1 ((cancelM c).gs).length (q4).2] true none] ++ []) := ⟨_, rfl⟩
              have lK7 : K5.length + 1 ≤ K7.length := by rw [hK7]; simp only [List.length_append, List.length_cons, List.length_nil]; omega
              have pK7 : U27 <+: K7 := by rw [hK7]; exact (pK5).trans (List.prefix_append _ _)
              obtain ⟨KB, hKB⟩ : ∃ K' : Heap, K' = K7 := ⟨_, rfl⟩
              have kpB : Kp (fun b => b < 0) K7 KB := by rw [hKB]; exact ⟨Nat.le_refl _, fun _ _ _ => rfl⟩
              have kqB0 : Kp (fun _ => False) U27 KB := by rw [hKB]; exact kp_pre pK7
              have soKB : Sto N KB s (4000) := soU27.kp kqB0 (fun _ _ h => h)
              have kqKB : Kp (fun b => b = s) H KB := kqU27.trans kqB0 (fun _ _ x => x) (fun _ _ x => x.elim)
              have lKB := congrArg List.length hKB
              have lUB := kqB0.len
              have fk8 : Gates (fun b => (KA.length ≤ b ∧ b < U27.length)) KB (q27) (c.gs) := kpB.ga ((((gates_lt2 ga27).lift hK2).lift hK5).lift hK7) (fun b hb => ⟨trivial, fun e => by have h : (KA.length ≤ b ∧ b < U27.length) := hb; have e1 : (b < 0) := e; omega⟩)
              have rw9 : KB[(U27).length + 0]? = some (CO.row [.int .i64 (c.w), .int .i64 (c.b), .slice (q27).1 (c.gs).length (q27).2] true none) := kpB.row (getq hK7 (getq hK5 (get_own hK2 (k := 0) rfl))) (by show ¬ ((U27).length + 0 < 0); omega)
              have fk10 : GatesP (fun b => (U27.length + 1 ≤ b ∧ b < K2.length)) KB (q1) ((cancelM c).gs) := kpB.gp ((fk3.lift hK5).lift hK7) (fun b hb => ⟨trivial, fun e => by have h : (U27.length + 1 ≤ b ∧ b < K2.length) := hb; have e1 : (b < 0) := e; omega⟩)
              have rw11 : KB[(K2).length + 0]? = some (CO.row [.int .i64 ((cancelM c).w), .int .i64 ((cancelM c).b), .slice (q1).1 ((cancelM c).gs).length (q1).2] true none) := kpB.row (getq hK7 (get_own hK5 (k := 0) rfl)) (by show ¬ ((K2).length + 0 < 0); omega)
              have fk12 : GatesP (fun b => (K2.length + 1 ≤ b ∧ b < K5.length)) KB (q4) ((cancelM c).gs) := kpB.gp (fk6.lift hK7) (fun b hb => ⟨trivial, fun e => by have h : (K2.length + 1 ≤ b ∧ b < K5.length) := hb; have e1 : (b < 0) := e; omega⟩)
              have rw13 : KB[(K5).length + 0]? = some (CO.row [.int .i64 ((cancelM c).w), .int .i64 ((cancelM c).b), .slice (q4).1 ((cancelM c).gs).length (q4).2] true none) := kpB.row (get_own hK7 (k := 0) rfl) (by show ¬ ((K5).length + 0 < 0); omega)
              have rw14 : KB[(K2).length + 0]? = some (CO.row [.int .i64 ((cancelM c).w), .int .i64 ((cancelM c).b), .slice (q1).1 ((cancelM c).gs).length (q1).2] true none) := kpB.row (getq hK7 (get_own hK5 (k := 0) rfl)) (by show ¬ ((K2).length + 0 < 0); omega)
              have rw15 : KB[(U27).length + 0]? = some (CO.row [.int .i64 (c.w), .int .i64 (c.b), .slice (q27).1 (c.gs).length (q27).2] true none) := kpB.row (getq hK7 (getq hK5 (get_own hK2 (k := 0) rfl))) (by show ¬ ((U27).length + 0 < 0); omega)
              have rC := rw9
              have gC := fk8
              have rX := rw11
              have gX := fk10.gates
              refine E_hp (h' := K7 ++ []) (((List.append_nil _).symm.trans (congrArg (fun x : Heap => (K5 ++ x) ++ []) (List.append_nil _).symm)).trans (congrArg (fun x : Heap => x ++ []) hK7.symm)) (E_hp (h' := KB ++ []) (congrArg (· ++ []) hKB.symm) (E_mv (v := .int .i64 (0)) rfl (E_nil (AX_block ?_))))
              refine AX_loopF (γ := Nat × Nat) (fun x => [(1, .int .u8 at_), (7, .pointer (some ⟨s, 0, none⟩)), (8, .pointer (some ⟨(U27).length + 0, 0, none⟩)), (9, .pointer (some ⟨(K2).length + 0, 0, none⟩)), (13, .int .i64 ((x.2 : Int))), (71, .slice (q27).1 (c.gs).length (q27).2), (72, .int .i64 ((c.gs).length)), (73, .int .i64 ((x.1 : Int)))]) (fun x h_ m_ => (m_ = [] ∧ Kp (fun _ => False) KB h_) ∧ x.1 ≤ c.gs.length ∧ x.2 ≤ (cancelM c).gs.length ∧ ((cancelM c).gs.drop (x.2)).Sublist (c.gs.drop (x.1))) (fun x => c.gs.length - x.1) (0, 0) ⟨rfl, rfl, rfl, rfl, rfl, rfl, rfl, rfl, trivial⟩ ⟨?_, ?_⟩ ?_
              · exact ⟨rfl, by rw [List.append_nil]; exact ⟨Nat.le_refl _, fun _ _ _ => rfl⟩⟩
              · exact ⟨by omega, by omega, by rw [List.drop_zero, List.drop_zero]; exact x4⟩
              rintro ⟨j, k⟩ fr0 KH0 mk0 ⟨hI0, inv0⟩ Kk0 hN0 hR0 hE0
              try dsimp only at hI0 inv0
              obtain ⟨rfl, kp0⟩ := hI0
              obtain ⟨hj0, hk0, sub0⟩ := inv0
              have l0 := kp0.len
              have rC0 := kp0.row rC (fun h => h)
              have rX0 := kp0.row rX (fun h => h)
              have gC0 := kp0.ga gC (fun b hb => ⟨trivial, fun h => h⟩)
              have gX0 := kp0.ga gX (fun b hb => ⟨trivial, fun h => h⟩)
              have so0 : Sto N KH0 s (4000) := soKB.kp kp0 (fun _ _ h => h)
              have kq0 : Kp (fun b => b = s) H KH0 := kqKB.trans kp0 (fun _ _ x => x) (fun _ _ x => x.elim)
              have kq9 : Kp (fun _ => False) U27 KH0 := kqB0.trans kp0 (fun _ _ x => x) (fun _ _ x => x)
              refine AX_nil ?_
              refine AX_seq (AX_E (E_lssS rfl rfl (fun c74 => ?_) (fun c74 => ?_)))
              · refine E_nil (AX_seq (AX_condT rfl (AX_skip (AX_seq (AX_block (AX_seq (AX_E (have ix16 : j < (c.gs).length := (by first | omega | (simp; done) | (simp; omega)); E_iaGb (j := j) rfl gC0 rfl rfl rfl ix16 fun b16 o16 q16 f16 w16 => (E_ldBN rfl w16 (E_new (E_stO (k := 0) rfl rfl (v := .agg _) rfl rfl rfl rfl (E_nil (AX_seq (AX_E (E_mv (v := .int .i64 ((k : Int))) rfl (E_fa rfl (E_ldB (v := .slice _ _ _) rfl (rowGet_c (j := 2) (rowGet_all rX0 rfl) rfl) (E_len (n := ((cancelM c).gs).length) rfl (E_lssS rfl rfl (fun c81 => ?_) (fun c81 => ?_))))))))))))))))))))
                · refine E_mv (v := .bool _) rfl (E_on rfl (E_ldON (k := 0) rfl rfl (E_on rfl (E_fa rfl (E_on rfl (E_ldB (v := .slice _ _ _) rfl (rowGet_c (j := 2) (rowGet_all rX0 rfl) rfl) (E_on rfl (E_mv (v := .int .i64 ((k : Int))) rfl (E_on rfl (have ix17 : k < ((cancelM c).gs).length := (by first | omega | (simp; done) | (simp; omega)); E_iaGb (j := k) rfl gX0 rfl rfl rfl ix17 fun b17 o17 q17 f17 w17 => (E_on rfl (E_ldBN rfl w17 (E_on rfl (E_callV rfl (ksame_ret _ (c.gs[j]'(by omega)) ((cancelM c).gs[k]'(by omega)) _ _ f16.app f17.app (by have := lwc _ (List.getElem_mem (l := c.gs) (n := j) (by omega)); omega)) (E_bs (fun c89 => ?_) (fun c89 => ?_))))))))))))))))
                  · refine E_pickT rfl (v := .bool _) rfl (E_nil (AX_condT rfl (AX_E (E_mv (v := .int .i64 ((k : Int))) rfl (E_addI rfl rfl (by first | omega | (simp; done) | (simp; omega)) (by first | omega | (simp; done) | (simp; omega)) (E_mv (v := .int .i64 (((k : Int) + 1))) rfl (E_nil (AX_E (E_addI rfl rfl (by first | omega | (simp; done) | (simp; omega)) (by first | omega | (simp; done) | (simp; omega)) (E_mv (v := .int .i64 (((j : Int) + 1))) rfl (E_nil ?_)))))))))))
                    refine hN0 (j + 1, k + 1) _ _ _ ⟨by first | rfl | (congr 1; omega), by first | rfl | (congr 1; omega), by first | rfl | (congr 1; omega), by first | rfl | (congr 1; omega), by rfl, by first | rfl | (congr 1; omega), by first | rfl | (congr 1; omega), by rfl, trivial⟩ ⟨?_, ?_⟩ ?_
                    -- n1
                    all_goals clear hN0 hR0 hE0
                    · exact ⟨rfl, kp0.trans (Kp.app (S := fun _ => False)) (fun _ _ x => x) (fun _ _ x => x)⟩
                    · dsimp only
                      exact ⟨by omega, by omega, sub_take (by omega) (by omega) sub0 (of_decide_eq_true c89)⟩
                    · dsimp only
                      omega
                  · refine E_pickT rfl (v := .bool _) rfl (E_nil (AX_condF rfl (AX_skip (AX_E (E_addI rfl rfl (by first | omega | (simp; done) | (simp; omega)) (by first | omega | (simp; done) | (simp; omega)) (E_mv (v := .int .i64 (((j : Int) + 1))) rfl (E_nil ?_)))))))
                    refine hN0 (j + 1, k) _ _ _ ⟨by first | rfl | (congr 1; omega), by first | rfl | (congr 1; omega), by first | rfl | (congr 1; omega), by first | rfl | (congr 1; omega), by rfl, by first | rfl | (congr 1; omega), by first | rfl | (congr 1; omega), by rfl, trivial⟩ ⟨?_, ?_⟩ ?_
                    -- n2
                    all_goals clear hN0 hR0 hE0
                    · exact ⟨rfl, kp0.trans (Kp.app (S := fun _ => False)) (fun _ _ x => x) (fun _ _ x => x)⟩
                    · dsimp only
                      exact ⟨by omega, by omega, sub_skip (by omega) sub0 (by first | (intro hk; exact of_decide_eq_false c89) | (intro hk; omega))⟩
                    · dsimp only
                      omega
                · refine E_mv (v := .bool _) rfl (E_notT rfl (E_notT rfl (E_notT rfl (E_notT rfl (E_notT rfl (E_notT rfl (E_notT rfl (E_pickF rfl (v := .bool _) rfl (E_nil (AX_condF rfl (AX_skip (AX_E (E_addI rfl rfl (by first | omega | (simp; done) | (simp; omega)) (by first | omega | (simp; done) | (simp; omega)) (E_mv (v := .int .i64 (((j : Int) + 1))) rfl (E_nil ?_)))))))))))))))
                  refine hN0 (j + 1, k) _ _ _ ⟨by first | rfl | (congr 1; omega), by first | rfl | (congr 1; omega), by first | rfl | (congr 1; omega), by first | rfl | (congr 1; omega), by rfl, by first | rfl | (congr 1; omega), by first | rfl | (congr 1; omega), by rfl, trivial⟩ ⟨?_, ?_⟩ ?_
                  -- n3
                  all_goals clear hN0 hR0 hE0
                  · exact ⟨rfl, kp0.trans (Kp.app (S := fun _ => False)) (fun _ _ x => x) (fun _ _ x => x)⟩
                  · dsimp only
                    exact ⟨by omega, by omega, sub_skip (by omega) sub0 (by first | (intro hk; exact of_decide_eq_false c89) | (intro hk; omega))⟩
                  · dsimp only
                    omega
              · refine E_nil (AX_seq (AX_condF rfl (AX_exit (hE0 _ _ _ _ (AX_seq (AX_seq (AX_E (E_mv (v := .int .i64 ((k : Int))) rfl (E_fa rfl (E_ldB (v := .slice _ _ _) rfl (rowGet_c (j := 2) (rowGet_all rX0 rfl) rfl) (E_len (n := ((cancelM c).gs).length) rfl (E_neqS rfl rfl (fun c98 => ?_) (fun c98 => ?_)))))))))))))
                · have := sub_end (by omega) hk0 sub0; omega
                · refine E_nil (AX_condF rfl (AX_skip (AX_seq (AX_EB (fun b => b = s) (E_fa rfl (E_ldX (v := .int .i64 c.w) rfl (rowGet_c (j := 0) (rowGet_all rC0 rfl) rfl) (by show ¬ (U27).length + 0 = s; omega) (E_mv (v := .pointer (some ⟨s, 0, none⟩)) rfl (E_fa rfl (E_ldB (v := .int .i64 (c.w)) rfl (rowGet_c (j := 0) (rowGet_all rC0 rfl) rfl) (E_ldB (v := .slice _ _ _) rfl ((rowGet_ne (kq9.keep 0 (by omega) (fun x => x))).trans gU) ?_))))))))))
                  obtain ⟨g105, q105, U105, hr105, hb105, ii105, so105, kp105⟩ := sgate_ret N KH0 s 4000 c.w pk kl so0 (by omega) (by omega) (kq9.ii klU (fun b hb => ⟨trivial, fun x => x⟩)) hne hkk h1
                  obtain ⟨hg1, hg2, hg3, hg4⟩ := hb105
                  have hgk := hkk _ hg2
                  have l105 := kp105.len
                  have fk19 : Gates (fun b => (KA.length ≤ b ∧ b < U27.length)) U105 (q27) (c.gs) := kp105.ga gC0 (fun b hb => ⟨trivial, fun e => by have h : (KA.length ≤ b ∧ b < U27.length) := hb; have e1 : (b = s) := e; omega⟩)
                  have rw18 : U105[(U27).length + 0]? = some (CO.row [.int .i64 (c.w), .int .i64 (c.b), .slice (q27).1 (c.gs).length (q27).2] true none) := kp105.row rC0 (by show ¬ ((U27).length + 0 = s); omega)
                  have fk21 : Gates (fun b => (U27.length + 1 ≤ b ∧ b < K2.length)) U105 (q1) ((cancelM c).gs) := kp105.ga gX0 (fun b hb => ⟨trivial, fun e => by have h : (U27.length + 1 ≤ b ∧ b < K2.length) := hb; have e1 : (b = s) := e; omega⟩)
                  have rw20 : U105[(K2).length + 0]? = some (CO.row [.int .i64 ((cancelM c).w), .int .i64 ((cancelM c).b), .slice (q1).1 ((cancelM c).gs).length (q1).2] true none) := kp105.row rX0 (by show ¬ ((K2).length + 0 = s); omega)
                  refine E_callUP (by decide) rfl hr105 kp105 ?_
                  obtain ⟨K23, hK23⟩ : ∃ K : Heap, K = U105 ++ ([CO.row [.int .i64 (g105.k), .slice (q105).1 (g105.ws).length (q105).2, .int .i64 (g105.b), .int .i64 (g105.f)] true none] ++ []) := ⟨_, rfl⟩
                  have lK23 : U105.length + 0 ≤ K23.length := by rw [hK23]; simp only [List.length_append, List.length_cons, List.length_nil]; omega
                  have pK23 : U105 <+: K23 := by rw [hK23]; exact List.prefix_append _ _
                  have hG22 : Gates allB K23 ((some ⟨(U105).length + 0, 0, none⟩, 1) : Pl) [⟨g105.k, g105.ws, g105.b, g105.f⟩] := gates_row (ps := [q105]) (by rw [hK23, List.append_nil]; exact own_get _ _ _) rfl rfl (wires_cons (ii105.all.lift hK23) wires_nil)
                  obtain ⟨put1, put2⟩ := (put_facts (i := 0) hc hl14 hg1 hgk hg4 (by omega)).1
                  refine E_mkS (cs := [.int .i64 (g105.k), .slice (q105).1 (g105.ws).length (q105).2, .int .i64 (g105.b), .int .i64 (g105.f)]) rfl (E_hp (h' := K23 ++ []) (((List.append_nil _).symm.trans (congrArg (fun x : Heap => (U105 ++ x) ++ []) (List.append_nil _).symm)).trans (congrArg (fun x : Heap => x ++ []) hK23.symm)) (E_mk (cs := [.int .i64 (c.w), .int .i64 (0), .slice (((some ⟨(U105).length + 0, 0, none⟩, 1) : Pl)).1 (([g105] : List G)).length (((some ⟨(U105).length + 0, 0, none⟩, 1) : Pl)).2]) rfl (E_new (E_stO (k := 0) rfl rfl (v := .agg _) rfl rfl rfl rfl (E_nil (AX_seq (AX_E (E_ldON (k := 0) rfl rfl ?_))))))))
                  obtain ⟨X24, q24, hr24, f24⟩ := pinverse_ret (K23 ++ [CO.row [.int .i64 (c.w), .int .i64 (0), .slice (((some ⟨(U105).length + 0, 0, none⟩, 1) : Pl)).1 (([g105] : List G)).length (((some ⟨(U105).length + 0, 0, none⟩, 1) : Pl)).2] true none]) ⟨c.w, 0, [g105]⟩ _ (gates_lt2 hG22).app (by show 1 < _; omega)
                  rw [put1, put2] at hr24
                  rw [put2] at f24
                  obtain ⟨K25, hK25⟩ : ∃ K : Heap, K = K23 ++ ([CO.row [.int .i64 (c.w), .int .i64 (0), .slice (((some ⟨(U105).length + 0, 0, none⟩, 1) : Pl)).1 (([g105] : List G)).length (((some ⟨(U105).length + 0, 0, none⟩, 1) : Pl)).2] true none] ++ X24) := ⟨_, rfl⟩
                  have lK25 : K23.length + 1 ≤ K25.length := by rw [hK25]; simp only [List.length_append, List.length_cons, List.length_nil]; omega
                  have pK25 : U105 <+: K25 := by rw [hK25]; exact (pK23).trans (List.prefix_append _ _)
                  have fk26 : GatesP (fun b => (K23.length + 1 ≤ b ∧ b < K25.length)) K25 (q24) ((⟨c.w, 0, [invG g105]⟩ : C).gs) := f24.atS (by simp) hK25
                  refine E_callX (X := X24) rfl (hr24) (E_hp (h' := K25 ++ []) (congrArg (fun x : Heap => x ++ []) hK25.symm) (E_mv (v := .tuple _) rfl (E_ext (v := .agg _) rfl rfl (E_ext (v := .int .i64 (0)) rfl rfl (E_new (E_stO (k := 0) rfl rfl (v := .agg _) rfl rfl rfl rfl (E_mv (v := .int .i64 (0)) rfl (E_nil (AX_seq (AX_seq (AX_E (E_mv (v := .int .i64 (0)) rfl (E_neqS rfl rfl (fun c114 => ?_) (fun c114 => ?_))))))))))))))
                  · exact (c114 rfl).elim
                  · refine E_mv (v := .bool _) rfl (E_on rfl (E_fa rfl (E_on rfl (E_ldO (k := 0) (v := .slice _ _ _) rfl rfl (E_on rfl (E_len (n := ((⟨c.w, 0, [invG g105]⟩ : C).gs).length) rfl (E_on rfl (E_neqS rfl rfl (fun c119 => ?_) (fun c119 => ?_)))))))))
                    · exact (c119 rfl).elim
                    · refine E_pickF rfl (v := .bool _) rfl (E_nil (AX_condF rfl (AX_skip (AX_seq (AX_E (E_ldBN rfl (rowGet_lift hK25 (rowGet_lift hK23 (rowGet_all rw18 rfl))) ?_))))))
                      obtain ⟨X122, q122, x122, hr122, ol122, hx1, hx2⟩ := kown_retQ (K25 ++ [CO.row [.int .i64 ((⟨c.w, 0, [invG g105]⟩ : C).w), .int .i64 ((⟨c.w, 0, [invG g105]⟩ : C).b), .slice (q24).1 ((⟨c.w, 0, [invG g105]⟩ : C).gs).length (q24).2] true none]) c _ ((fk19.lift hK23).lift hK25).app (by omega) lwc
                      obtain ⟨K27, hK27⟩ : ∃ K : Heap, K = K25 ++ ([CO.row [.int .i64 ((⟨c.w, 0, [invG g105]⟩ : C).w), .int .i64 ((⟨c.w, 0, [invG g105]⟩ : C).b), .slice (q24).1 ((⟨c.w, 0, [invG g105]⟩ : C).gs).length (q24).2] true none] ++ X122) := ⟨_, rfl⟩
                      have lK27 : K25.length + 1 ≤ K27.length := by rw [hK27]; simp only [List.length_append, List.length_cons, List.length_nil]; omega
                      have pK27 : U105 <+: K27 := by rw [hK27]; exact (pK25).trans (List.prefix_append _ _)
                      refine E_callX (X := X122) rfl (hr122) (E_hp (h' := K27 ++ []) (congrArg (fun x : Heap => x ++ []) hK27.symm) (E_new (E_stO (k := 0) rfl rfl (v := .agg _) rfl rfl rfl rfl (E_nil (AX_seq (AX_E (E_mv (v := .int .u8 at_) rfl (E_cv8 rfl hat (E_fa rfl (E_ldO (k := 0) (v := .slice _ _ _) rfl rfl (E_len (n := (c.gs).length) rfl (E_addI rfl rfl (by first | omega | (simp; done) | (simp; omega)) (by first | omega | (simp; done) | (simp; omega)) (E_rem rfl rfl (by omega) (by omega) fun i hi9 => (E_mv (v := .int .i64 ((i : Int))) rfl (E_nil (AX_seq (AX_E (E_fa rfl (E_ldO (k := 0) (v := .slice _ _ _) rfl rfl (E_mv (v := .int .i64 ((i : Int))) rfl (E_fa rfl (E_ldB (v := .slice _ _ _) rfl (rowGet_lift hK27 (rowGet_eq hK25 (rowGet_own (k := 0) rfl))) (have ix28 : 0 < (([g105] : List G)).length := (by first | omega | (simp; done) | (simp; omega)); E_iaGb (j := 0) rfl (((gates_lt2 hG22).lift hK25).lift hK27) rfl rfl rfl ix28 fun b28 o28 q28 f28 w28 => (E_ldBN rfl w28 (E_fa rfl (E_ldB (v := .slice _ _ _) rfl (rowGet_eq hK27 (rowGet_own (k := 0) rfl)) (have ix29 : 0 < ((⟨c.w, 0, [invG g105]⟩ : C).gs).length := (by first | omega | (simp; done) | (simp; omega)); E_iaGb (j := 0) rfl (fk26.lift hK27).gates rfl rfl rfl ix29 fun b29 o29 q29 f29 w29 => (E_ldBN rfl w29 (E_mkS (cs := [.int .i64 ((([g105] : List G)[0]'ix28).k), .slice (q28).1 ((([g105] : List G)[0]'ix28).ws).length (q28).2, .int .i64 ((([g105] : List G)[0]'ix28).b), .int .i64 ((([g105] : List G)[0]'ix28).f), .int .i64 (((⟨c.w, 0, [invG g105]⟩ : C).gs[0]'ix29).k), .slice (q29).1 (((⟨c.w, 0, [invG g105]⟩ : C).gs[0]'ix29).ws).length (q29).2, .int .i64 (((⟨c.w, 0, [invG g105]⟩ : C).gs[0]'ix29).b), .int .i64 (((⟨c.w, 0, [invG g105]⟩ : C).gs[0]'ix29).f)]) rfl ?_)))))))))))))))))))))))))))))
                      obtain ⟨K30, hK30⟩ : ∃ K : Heap, K = K27 ++ ([CO.row [.int .i64 (c.w), .int .i64 (c.b), .slice (q122).1 (c.gs).length (q122).2] true none, CO.row [.int .i64 ((([g105] : List G)[0]'ix28).k), .slice (q28).1 ((([g105] : List G)[0]'ix28).ws).length (q28).2, .int .i64 ((([g105] : List G)[0]'ix28).b), .int .i64 ((([g105] : List G)[0]'ix28).f), .int .i64 (((⟨c.w, 0, [invG g105]⟩ : C).gs[0]'ix29).k), .slice (q29).1 (((⟨c.w, 0, [invG g105]⟩ : C).gs[0]'ix29).ws).length (q29).2, .int .i64 (((⟨c.w, 0, [invG g105]⟩ : C).gs[0]'ix29).b), .int .i64 (((⟨c.w, 0, [invG g105]⟩ : C).gs[0]'ix29).f)] true none] ++ []) := ⟨_, rfl⟩
                      have lK30 : K27.length + 2 ≤ K30.length := by rw [hK30]; simp only [List.length_append, List.length_cons, List.length_nil]; omega
                      have pK30 : U105 <+: K30 := by rw [hK30]; exact (pK27).trans (List.prefix_append _ _)
                      have e122 : (K25 ++ [CO.row [.int .i64 ((⟨c.w, 0, [invG g105]⟩ : C).w), .int .i64 ((⟨c.w, 0, [invG g105]⟩ : C).b), .slice (q24).1 ((⟨c.w, 0, [invG g105]⟩ : C).gs).length (q24).2] true none]) ++ X122 = K27 := by rw [hK27, List.append_assoc]
                      rw [e122] at ol122 hx2
                      have lkO := congrArg List.length hK27
                      have lkK := congrArg List.length hK30
                      simp only [List.length_append, List.length_cons, List.length_nil] at hx1 lkO lkK
                      have ia : Ints (fun b => b ≠ x122 ∧ b ≠ K27.length) K30 q28 g105.ws := Cells.congr (f28.lift hK30) (fun b hb => by have := hb.2; omega) (fun _ _ _ => rfl)
                      have ib : Ints (fun b => b ≠ x122 ∧ b ≠ K27.length) K30 q29 (invG g105).ws := Cells.congr (f29.lift hK30) (fun b hb => by have := hb.2; omega) (fun _ _ _ => rfl)
                      obtain ⟨_, ⟨pD, pL⟩, ⟨pR, pN⟩, pE, pT⟩ := put_facts (i := i) hc hl14 hg1 hgk hg4 (by omega)
                      obtain ⟨_, pZ, _⟩ := canc_facts pD
                      obtain ⟨U142, hr142, kp142, g142⟩ := insg2_ret (i := i) (a := g105) (b := invG g105) (pa := q28) (pb := q29) (ol122.pre (pre_of hK30)) (Nat.le_refl _) (by omega) (by omega) (by omega) (get_own hK30 (k := 1) rfl) (by omega) ia ib
                      have gD : Gates (fun b => b ≠ K27.length) U142 ((some ⟨K30.length, 0, none⟩, c.gs.length + 2) : Pl) (putC c i g105).gs := g142
                      have l142 := kp142.len
                      have fk32 : Gates (fun b => (U27.length + 1 ≤ b ∧ b < K2.length)) U142 (q1) ((cancelM c).gs) := kp142.ga ((((fk21.lift hK23).lift hK25).lift hK27).lift hK30) (fun b hb => ⟨trivial, fun e => by have h : (U27.length + 1 ≤ b ∧ b < K2.length) := hb; have e1 : (b = x122) := e; omega⟩)
                      have rw31 : U142[(K2).length + 0]? = some (CO.row [.int .i64 ((cancelM c).w), .int .i64 ((cancelM c).b), .slice (q1).1 ((cancelM c).gs).length (q1).2] true none) := kp142.row (getq hK30 (getq hK27 (getq hK25 (getq hK23 rw20)))) (by show ¬ ((K2).length + 0 = x122); omega)
                      have fk34 : Gates (fun b => (True ∧ b < K23.length)) U142 (((some ⟨(U105).length + 0, 0, none⟩, 1) : Pl)) (([g105] : List G)) := kp142.ga ((((gates_lt2 hG22).lift hK25).lift hK27).lift hK30) (fun b hb => ⟨trivial, fun e => by have h : (True ∧ b < K23.length) := hb; have e1 : (b = x122) := e; omega⟩)
                      have rw33 : U142[(K23).length + 0]? = some (CO.row [.int .i64 (c.w), .int .i64 (0), .slice (((some ⟨(U105).length + 0, 0, none⟩, 1) : Pl)).1 (([g105] : List G)).length (((some ⟨(U105).length + 0, 0, none⟩, 1) : Pl)).2] true none) := kp142.row (getq hK30 (getq hK27 (get_own hK25 (k := 0) rfl))) (by show ¬ ((K23).length + 0 = x122); omega)
                      have rw35 : U142[(K27).length + 0]? = some (CO.row [.int .i64 (c.w), .int .i64 (c.b), .slice (q122).1 (c.gs).length (q122).2] true none) := kp142.row (get_own hK30 (k := 0) rfl) (by show ¬ ((K27).length + 0 = x122); omega)
                      refine E_hp (h' := K30 ++ []) (((List.append_nil _).symm.trans (congrArg (fun x : Heap => (K27 ++ x) ++ []) (List.append_nil _).symm)).trans (congrArg (fun x : Heap => x ++ []) hK30.symm)) (E_callU rfl hr142 rfl (E_fa rfl (E_stX (b := (K27).length + 0) (o := 0 + 2) (l := [.slice (some ⟨K30.length, 0, none⟩) (c.gs.length + 2) (c.gs.length + 2)]) (v := .slice _ _ _) rfl rfl rfl rfl ((congrArg (fun h : Heap => h[(K27).length + 0]?) (List.append_nil _)).trans rw35) (by simp) rfl rfl fun V eV => ?_)))
                      have eV2 : V = U142.set ((K27).length + 0) (CO.row [.int .i64 (c.w), .int .i64 (c.b), .slice (((some ⟨K30.length, 0, none⟩, c.gs.length + 2) : Pl)).1 ((putC c i g105).gs).length (((some ⟨K30.length, 0, none⟩, c.gs.length + 2) : Pl)).2] true none) := by rw [eV, List.append_nil, pL]; rfl
                      have kpV : Kp (fun b => b = (K27).length + 0) U142 V := by rw [eV2]; exact Kp.set
                      have rV : V[(K27).length + 0]? = some (CO.row [.int .i64 (c.w), .int .i64 (c.b), .slice (((some ⟨K30.length, 0, none⟩, c.gs.length + 2) : Pl)).1 ((putC c i g105).gs).length (((some ⟨K30.length, 0, none⟩, c.gs.length + 2) : Pl)).2] true none) := by rw [eV2, List.getElem?_set_self (List.getElem?_eq_some_iff.1 rw35).1]
                      have gV : Gates allB V ((some ⟨K30.length, 0, none⟩, c.gs.length + 2) : Pl) (putC c i g105).gs := (kpV.ga gD (fun b hb => ⟨trivial, fun e => hb (by have e : b = (K27).length + 0 := e; omega)⟩)).all
                      have fk37 : Gates (fun b => (U27.length + 1 ≤ b ∧ b < K2.length)) V (q1) ((cancelM c).gs) := kpV.ga fk32 (fun b hb => ⟨trivial, fun e => by have h : (U27.length + 1 ≤ b ∧ b < K2.length) := hb; have e1 : (b = (K27).length + 0) := e; omega⟩)
                      have rw36 : V[(K2).length + 0]? = some (CO.row [.int .i64 ((cancelM c).w), .int .i64 ((cancelM c).b), .slice (q1).1 ((cancelM c).gs).length (q1).2] true none) := kpV.row rw31 (by show ¬ ((K2).length + 0 = (K27).length + 0); omega)
                      have fk39 : Gates (fun b => (True ∧ b < K23.length)) V (((some ⟨(U105).length + 0, 0, none⟩, 1) : Pl)) (([g105] : List G)) := kpV.ga fk34 (fun b hb => ⟨trivial, fun e => by have h : (True ∧ b < K23.length) := hb; have e1 : (b = (K27).length + 0) := e; omega⟩)
                      have rw38 : V[(K23).length + 0]? = some (CO.row [.int .i64 (c.w), .int .i64 (0), .slice (((some ⟨(U105).length + 0, 0, none⟩, 1) : Pl)).1 (([g105] : List G)).length (((some ⟨(U105).length + 0, 0, none⟩, 1) : Pl)).2] true none) := kpV.row rw33 (by show ¬ ((K23).length + 0 = (K27).length + 0); omega)
                      have rw40 : V[(K27).length + 0]? = some (CO.row [.int .i64 (c.w), .int .i64 (c.b), .slice (((some ⟨K30.length, 0, none⟩, c.gs.length + 2) : Pl)).1 ((putC c i g105).gs).length (((some ⟨K30.length, 0, none⟩, c.gs.length + 2) : Pl)).2] true none) := rV
                      refine E_nil (AX_seq (AX_E (E_ldBN rfl (rowGet_all rw40 rfl) ?_)))
                      obtain ⟨X41, q41, hr41, f41⟩ := pcancel_ret (V ++ []) (putC c i g105) _ gV.app (by omega)
                      rw [pR, pD] at hr41
                      rw [pR] at f41
                      obtain ⟨K42, hK42⟩ : ∃ K : Heap, K = V ++ ([] ++ X41) := ⟨_, rfl⟩
                      have lK42 : V.length + 0 ≤ K42.length := by rw [hK42]; simp only [List.length_append, List.length_cons, List.length_nil]; omega
                      have pK42 : V <+: K42 := by rw [hK42]; exact List.prefix_append _ _
                      have fk43 : GatesP (fun b => (V.length + 0 ≤ b ∧ b < K42.length)) K42 (q41) ((cancelM (putC c i g105)).gs) := f41.atS (by simp) hK42
                      refine E_callX (X := X41) rfl (hr41) (E_hp (h' := K42 ++ []) (congrArg (fun x : Heap => x ++ []) hK42.symm) (E_mv (v := .tuple _) rfl (E_ext (v := .agg _) rfl rfl (E_ext (v := .int .i64 (0)) rfl rfl (E_new (E_stO (k := 0) rfl rfl (v := .agg _) rfl rfl rfl rfl (E_mv (v := .int .i64 (0)) rfl (E_nil (AX_seq (AX_E (E_ldON (k := 0) rfl rfl (E_ldBN rfl (rowGet_lift hK42 (rowGet_all rw36 rfl)) (E_callV rfl ((by have h9 := pequal_ret (K42 ++ [CO.row [.int .i64 ((cancelM (putC c i g105)).w), .int .i64 ((cancelM (putC c i g105)).b), .slice (q41).1 ((cancelM (putC c i g105)).gs).length (q41).2] true none]) (cancelM (putC c i g105)) (cancelM c) _ _ fk43.gates.app.all (fk37.lift hK42).app.all (by omega) (by omega); rwa [if_pos pE, pE] at h9)) (E_mv (v := .tuple _) rfl (E_ext (v := .bool _) rfl rfl (E_bs (fun c153 => ?_) (fun c153 => ?_)))))))))))))))))
                      · refine E_ext (v := .int .i64 (0)) rfl rfl (E_mv (v := .bool _) rfl (E_mv (v := .int .i64 (0)) rfl (E_nil (AX_seq (AX_E (E_fa rfl (E_ldB (v := .slice _ _ _) rfl (rowGet_c (j := 2) (rowGet_lift hK42 (rowGet_all rw38 rfl)) rfl) (have ix44 : 0 < (([g105] : List G)).length := (by first | omega | (simp; done) | (simp; omega)); E_iaGb (j := 0) rfl (fk39.lift hK42) rfl rfl rfl ix44 fun b44 o44 q44 f44 w44 => (E_fa rfl (E_ldB (v := .int .i64 ((([g105] : List G)[0]'ix44).k)) rfl (rowGet_c (j := 0) w44 rfl) (E_eqlS rfl rfl (fun c160 => ?_) (fun c160 => ?_))))))))))))
                        · refine E_mv (v := .bool _) rfl (E_notF rfl (E_notF rfl (E_notF rfl (E_notF rfl (E_notF rfl (E_notF rfl (E_pickT rfl (v := .bool _) rfl (E_mv (v := .bool _) rfl (E_notF rfl (E_notF rfl (E_notF rfl (E_notF rfl (E_notF rfl (E_notF rfl (E_pickT rfl (v := .bool _) rfl (E_mv (v := .bool _) rfl (E_nil (AX_seq (AX_E (E_mv (v := .int .i64 (0)) rfl (E_eqlS rfl rfl (fun c178 => ?_) (fun c178 => ?_))))))))))))))))))))))
                          · refine E_mv (v := .bool _) rfl (E_on rfl (E_mv (v := .int .i64 (0)) rfl (E_on rfl (E_eqlS rfl rfl (fun c181 => ?_) (fun c181 => ?_)))))
                            · refine E_pickT rfl (v := .bool _) rfl (E_mv (v := .bool _) rfl (E_on rfl (E_mv (v := .bool _) rfl (E_on rfl (E_mv (v := .bool _) rfl (E_notF rfl (E_on rfl (E_pickT rfl (v := .bool _) rfl (E_pickT rfl (v := .bool _) rfl (E_mv (v := .bool _) rfl (E_on rfl (E_fa rfl (E_on rfl (E_ldO (k := 0) (v := .slice _ _ _) rfl rfl (E_on rfl (E_len (n := ((cancelM (putC c i g105)).gs).length) rfl (E_on rfl (E_fa rfl (E_on rfl (E_ldB (v := .slice _ _ _) rfl (rowGet_c (j := 2) (rowGet_lift hK42 (rowGet_all rw36 rfl)) rfl) (E_on rfl (E_len (n := ((cancelM c).gs).length) rfl (E_on rfl (E_eqlS rfl rfl (fun c196 => ?_) (fun c196 => ?_)))))))))))))))))))))))))
                              · refine E_pickT rfl (v := .bool _) rfl (E_mv (v := .bool _) rfl (E_on rfl (E_callV rfl (awake_ret _) (E_pickT rfl (v := .bool _) rfl (E_mv (v := .bool _) rfl (E_nil (AX_ret ?_)))))))
                                first | exact ⟨_, rfl, by simp, rfl⟩ | exact absurd (pT (by intro h; rcases h with h | h | h <;> first | exact c160 h | exact c167 h | exact c175 h)) (of_decide_eq_false c153)
                              · omega
                            · exact (c181 rfl).elim
                          · exact (c178 rfl).elim
                        · refine E_mv (v := .bool _) rfl (E_on rfl (E_fa rfl (E_on rfl (E_ldB (v := .slice _ _ _) rfl (rowGet_c (j := 2) (rowGet_lift hK42 (rowGet_all rw38 rfl)) rfl) (E_on rfl (have ix45 : 0 < (([g105] : List G)).length := (by first | omega | (simp; done) | (simp; omega)); E_iaGb (j := 0) rfl (fk39.lift hK42) rfl rfl rfl ix45 fun b45 o45 q45 f45 w45 => (E_on rfl (E_fa rfl (E_on rfl (E_ldB (v := .int .i64 ((([g105] : List G)[0]'ix45).k)) rfl (rowGet_c (j := 0) w45 rfl) (E_on rfl (E_eqlS rfl rfl (fun c167 => ?_) (fun c167 => ?_)))))))))))))
                          · refine E_pickF rfl (v := .bool _) rfl (E_mv (v := .bool _) rfl (E_notF rfl (E_notF rfl (E_notF rfl (E_notF rfl (E_notF rfl (E_notF rfl (E_pickT rfl (v := .bool _) rfl (E_mv (v := .bool _) rfl (E_nil (AX_seq (AX_E (E_mv (v := .int .i64 (0)) rfl (E_eqlS rfl rfl (fun c178 => ?_) (fun c178 => ?_)))))))))))))))
                            · refine E_mv (v := .bool _) rfl (E_on rfl (E_mv (v := .int .i64 (0)) rfl (E_on rfl (E_eqlS rfl rfl (fun c181 => ?_) (fun c181 => ?_)))))
                              · refine E_pickT rfl (v := .bool _) rfl (E_mv (v := .bool _) rfl (E_on rfl (E_mv (v := .bool _) rfl (E_on rfl (E_mv (v := .bool _) rfl (E_notF rfl (E_on rfl (E_pickT rfl (v := .bool _) rfl (E_pickT rfl (v := .bool _) rfl (E_mv (v := .bool _) rfl (E_on rfl (E_fa rfl (E_on rfl (E_ldO (k := 0) (v := .slice _ _ _) rfl rfl (E_on rfl (E_len (n := ((cancelM (putC c i g105)).gs).length) rfl (E_on rfl (E_fa rfl (E_on rfl (E_ldB (v := .slice _ _ _) rfl (rowGet_c (j := 2) (rowGet_lift hK42 (rowGet_all rw36 rfl)) rfl) (E_on rfl (E_len (n := ((cancelM c).gs).length) rfl (E_on rfl (E_eqlS rfl rfl (fun c196 => ?_) (fun c196 => ?_)))))))))))))))))))))))))
                                · refine E_pickT rfl (v := .bool _) rfl (E_mv (v := .bool _) rfl (E_on rfl (E_callV rfl (awake_ret _) (E_pickT rfl (v := .bool _) rfl (E_mv (v := .bool _) rfl (E_nil (AX_ret ?_)))))))
                                  first | exact ⟨_, rfl, by simp, rfl⟩ | exact absurd (pT (by intro h; rcases h with h | h | h <;> first | exact c160 h | exact c167 h | exact c175 h)) (of_decide_eq_false c153)
                                · omega
                              · exact (c181 rfl).elim
                            · exact (c178 rfl).elim
                          · refine E_pickF rfl (v := .bool _) rfl (E_mv (v := .bool _) rfl (E_on rfl (E_fa rfl (E_on rfl (E_ldB (v := .slice _ _ _) rfl (rowGet_c (j := 2) (rowGet_lift hK42 (rowGet_all rw38 rfl)) rfl) (E_on rfl (have ix46 : 0 < (([g105] : List G)).length := (by first | omega | (simp; done) | (simp; omega)); E_iaGb (j := 0) rfl (fk39.lift hK42) rfl rfl rfl ix46 fun b46 o46 q46 f46 w46 => (E_on rfl (E_fa rfl (E_on rfl (E_ldB (v := .int .i64 ((([g105] : List G)[0]'ix46).k)) rfl (rowGet_c (j := 0) w46 rfl) (E_on rfl (E_eqlS rfl rfl (fun c175 => ?_) (fun c175 => ?_))))))))))))))
                            · refine E_pickF rfl (v := .bool _) rfl (E_mv (v := .bool _) rfl (E_nil (AX_seq (AX_E (E_mv (v := .int .i64 (0)) rfl (E_eqlS rfl rfl (fun c178 => ?_) (fun c178 => ?_)))))))
                              · refine E_mv (v := .bool _) rfl (E_on rfl (E_mv (v := .int .i64 (0)) rfl (E_on rfl (E_eqlS rfl rfl (fun c181 => ?_) (fun c181 => ?_)))))
                                · refine E_pickT rfl (v := .bool _) rfl (E_mv (v := .bool _) rfl (E_on rfl (E_mv (v := .bool _) rfl (E_on rfl (E_mv (v := .bool _) rfl (E_notF rfl (E_on rfl (E_pickT rfl (v := .bool _) rfl (E_pickT rfl (v := .bool _) rfl (E_mv (v := .bool _) rfl (E_on rfl (E_fa rfl (E_on rfl (E_ldO (k := 0) (v := .slice _ _ _) rfl rfl (E_on rfl (E_len (n := ((cancelM (putC c i g105)).gs).length) rfl (E_on rfl (E_fa rfl (E_on rfl (E_ldB (v := .slice _ _ _) rfl (rowGet_c (j := 2) (rowGet_lift hK42 (rowGet_all rw36 rfl)) rfl) (E_on rfl (E_len (n := ((cancelM c).gs).length) rfl (E_on rfl (E_eqlS rfl rfl (fun c196 => ?_) (fun c196 => ?_)))))))))))))))))))))))))
                                  · refine E_pickT rfl (v := .bool _) rfl (E_mv (v := .bool _) rfl (E_on rfl (E_callV rfl (awake_ret _) (E_pickT rfl (v := .bool _) rfl (E_mv (v := .bool _) rfl (E_nil (AX_ret ?_)))))))
                                    first | exact ⟨_, rfl, by simp, rfl⟩ | exact absurd (pT (by intro h; rcases h with h | h | h <;> first | exact c160 h | exact c167 h | exact c175 h)) (of_decide_eq_false c153)
                                  · omega
                                · exact (c181 rfl).elim
                              · exact (c178 rfl).elim
                            · refine E_pickF rfl (v := .bool _) rfl (E_mv (v := .bool _) rfl (E_nil (AX_seq (AX_E (E_mv (v := .int .i64 (0)) rfl (E_eqlS rfl rfl (fun c178 => ?_) (fun c178 => ?_)))))))
                              · refine E_mv (v := .bool _) rfl (E_on rfl (E_mv (v := .int .i64 (0)) rfl (E_on rfl (E_eqlS rfl rfl (fun c181 => ?_) (fun c181 => ?_)))))
                                · refine E_pickT rfl (v := .bool _) rfl (E_mv (v := .bool _) rfl (E_on rfl (E_mv (v := .bool _) rfl (E_on rfl (E_mv (v := .bool _) rfl (E_notF rfl (E_on rfl (E_pickT rfl (v := .bool _) rfl (E_pickT rfl (v := .bool _) rfl (E_mv (v := .bool _) rfl (E_on rfl (E_fa rfl (E_on rfl (E_ldO (k := 0) (v := .slice _ _ _) rfl rfl (E_on rfl (E_len (n := ((cancelM (putC c i g105)).gs).length) rfl (E_on rfl (E_fa rfl (E_on rfl (E_ldB (v := .slice _ _ _) rfl (rowGet_c (j := 2) (rowGet_lift hK42 (rowGet_all rw36 rfl)) rfl) (E_on rfl (E_len (n := ((cancelM c).gs).length) rfl (E_on rfl (E_eqlS rfl rfl (fun c196 => ?_) (fun c196 => ?_)))))))))))))))))))))))))
                                  · refine E_pickT rfl (v := .bool _) rfl (E_mv (v := .bool _) rfl (E_on rfl (E_callV rfl (awake_ret _) (E_pickT rfl (v := .bool _) rfl (E_mv (v := .bool _) rfl (E_nil (AX_ret ?_)))))))
                                    first | exact ⟨_, rfl, by simp, rfl⟩ | exact absurd (pT (by intro h; rcases h with h | h | h <;> first | exact c160 h | exact c167 h | exact c175 h)) (of_decide_eq_false c153)
                                  · omega
                                · exact (c181 rfl).elim
                              · exact (c178 rfl).elim
                      · refine E_ext (v := .int .i64 (0)) rfl rfl (E_mv (v := .bool _) rfl (E_mv (v := .int .i64 (0)) rfl (E_nil (AX_seq (AX_E (E_fa rfl (E_ldB (v := .slice _ _ _) rfl (rowGet_c (j := 2) (rowGet_lift hK42 (rowGet_all rw38 rfl)) rfl) (have ix47 : 0 < (([g105] : List G)).length := (by first | omega | (simp; done) | (simp; omega)); E_iaGb (j := 0) rfl (fk39.lift hK42) rfl rfl rfl ix47 fun b47 o47 q47 f47 w47 => (E_fa rfl (E_ldB (v := .int .i64 ((([g105] : List G)[0]'ix47).k)) rfl (rowGet_c (j := 0) w47 rfl) (E_eqlS rfl rfl (fun c160 => ?_) (fun c160 => ?_))))))))))))
                        · refine E_mv (v := .bool _) rfl (E_notF rfl (E_notF rfl (E_notF rfl (E_notF rfl (E_notF rfl (E_notF rfl (E_pickT rfl (v := .bool _) rfl (E_mv (v := .bool _) rfl (E_notF rfl (E_notF rfl (E_notF rfl (E_notF rfl (E_notF rfl (E_notF rfl (E_pickT rfl (v := .bool _) rfl (E_mv (v := .bool _) rfl (E_nil (AX_seq (AX_E (E_mv (v := .int .i64 (0)) rfl (E_eqlS rfl rfl (fun c178 => ?_) (fun c178 => ?_))))))))))))))))))))))
                          · refine E_mv (v := .bool _) rfl (E_on rfl (E_mv (v := .int .i64 (0)) rfl (E_on rfl (E_eqlS rfl rfl (fun c181 => ?_) (fun c181 => ?_)))))
                            · refine E_pickT rfl (v := .bool _) rfl (E_mv (v := .bool _) rfl (E_on rfl (E_mv (v := .bool _) rfl (E_on rfl (E_mv (v := .bool _) rfl (E_on rfl (E_mv (v := .bool _) rfl (E_on rfl (E_pickF rfl (v := .bool _) rfl (E_pickT rfl (v := .bool _) rfl (E_mv (v := .bool _) rfl (E_on rfl (E_fa rfl (E_on rfl (E_ldO (k := 0) (v := .slice _ _ _) rfl rfl (E_on rfl (E_len (n := ((cancelM (putC c i g105)).gs).length) rfl (E_on rfl (E_fa rfl (E_on rfl (E_ldB (v := .slice _ _ _) rfl (rowGet_c (j := 2) (rowGet_lift hK42 (rowGet_all rw36 rfl)) rfl) (E_on rfl (E_len (n := ((cancelM c).gs).length) rfl (E_on rfl (E_eqlS rfl rfl (fun c196 => ?_) (fun c196 => ?_))))))))))))))))))))))))))
                              · refine E_pickT rfl (v := .bool _) rfl (E_mv (v := .bool _) rfl (E_on rfl (E_callV rfl (awake_ret _) (E_pickT rfl (v := .bool _) rfl (E_mv (v := .bool _) rfl (E_nil (AX_ret ?_)))))))
                                first | exact ⟨_, rfl, by simp, rfl⟩ | exact absurd (pT (by intro h; rcases h with h | h | h <;> first | exact c160 h | exact c167 h | exact c175 h)) (of_decide_eq_false c153)
                              · omega
                            · exact (c181 rfl).elim
                          · exact (c178 rfl).elim
                        · refine E_mv (v := .bool _) rfl (E_on rfl (E_fa rfl (E_on rfl (E_ldB (v := .slice _ _ _) rfl (rowGet_c (j := 2) (rowGet_lift hK42 (rowGet_all rw38 rfl)) rfl) (E_on rfl (have ix48 : 0 < (([g105] : List G)).length := (by first | omega | (simp; done) | (simp; omega)); E_iaGb (j := 0) rfl (fk39.lift hK42) rfl rfl rfl ix48 fun b48 o48 q48 f48 w48 => (E_on rfl (E_fa rfl (E_on rfl (E_ldB (v := .int .i64 ((([g105] : List G)[0]'ix48).k)) rfl (rowGet_c (j := 0) w48 rfl) (E_on rfl (E_eqlS rfl rfl (fun c167 => ?_) (fun c167 => ?_)))))))))))))
                          · refine E_pickF rfl (v := .bool _) rfl (E_mv (v := .bool _) rfl (E_notF rfl (E_notF rfl (E_notF rfl (E_notF rfl (E_notF rfl (E_notF rfl (E_pickT rfl (v := .bool _) rfl (E_mv (v := .bool _) rfl (E_nil (AX_seq (AX_E (E_mv (v := .int .i64 (0)) rfl (E_eqlS rfl rfl (fun c178 => ?_) (fun c178 => ?_)))))))))))))))
                            · refine E_mv (v := .bool _) rfl (E_on rfl (E_mv (v := .int .i64 (0)) rfl (E_on rfl (E_eqlS rfl rfl (fun c181 => ?_) (fun c181 => ?_)))))
                              · refine E_pickT rfl (v := .bool _) rfl (E_mv (v := .bool _) rfl (E_on rfl (E_mv (v := .bool _) rfl (E_on rfl (E_mv (v := .bool _) rfl (E_on rfl (E_mv (v := .bool _) rfl (E_on rfl (E_pickF rfl (v := .bool _) rfl (E_pickT rfl (v := .bool _) rfl (E_mv (v := .bool _) rfl (E_on rfl (E_fa rfl (E_on rfl (E_ldO (k := 0) (v := .slice _ _ _) rfl rfl (E_on rfl (E_len (n := ((cancelM (putC c i g105)).gs).length) rfl (E_on rfl (E_fa rfl (E_on rfl (E_ldB (v := .slice _ _ _) rfl (rowGet_c (j := 2) (rowGet_lift hK42 (rowGet_all rw36 rfl)) rfl) (E_on rfl (E_len (n := ((cancelM c).gs).length) rfl (E_on rfl (E_eqlS rfl rfl (fun c196 => ?_) (fun c196 => ?_))))))))))))))))))))))))))
                                · refine E_pickT rfl (v := .bool _) rfl (E_mv (v := .bool _) rfl (E_on rfl (E_callV rfl (awake_ret _) (E_pickT rfl (v := .bool _) rfl (E_mv (v := .bool _) rfl (E_nil (AX_ret ?_)))))))
                                  first | exact ⟨_, rfl, by simp, rfl⟩ | exact absurd (pT (by intro h; rcases h with h | h | h <;> first | exact c160 h | exact c167 h | exact c175 h)) (of_decide_eq_false c153)
                                · omega
                              · exact (c181 rfl).elim
                            · exact (c178 rfl).elim
                          · refine E_pickF rfl (v := .bool _) rfl (E_mv (v := .bool _) rfl (E_on rfl (E_fa rfl (E_on rfl (E_ldB (v := .slice _ _ _) rfl (rowGet_c (j := 2) (rowGet_lift hK42 (rowGet_all rw38 rfl)) rfl) (E_on rfl (have ix49 : 0 < (([g105] : List G)).length := (by first | omega | (simp; done) | (simp; omega)); E_iaGb (j := 0) rfl (fk39.lift hK42) rfl rfl rfl ix49 fun b49 o49 q49 f49 w49 => (E_on rfl (E_fa rfl (E_on rfl (E_ldB (v := .int .i64 ((([g105] : List G)[0]'ix49).k)) rfl (rowGet_c (j := 0) w49 rfl) (E_on rfl (E_eqlS rfl rfl (fun c175 => ?_) (fun c175 => ?_))))))))))))))
                            · refine E_pickF rfl (v := .bool _) rfl (E_mv (v := .bool _) rfl (E_nil (AX_seq (AX_E (E_mv (v := .int .i64 (0)) rfl (E_eqlS rfl rfl (fun c178 => ?_) (fun c178 => ?_)))))))
                              · refine E_mv (v := .bool _) rfl (E_on rfl (E_mv (v := .int .i64 (0)) rfl (E_on rfl (E_eqlS rfl rfl (fun c181 => ?_) (fun c181 => ?_)))))
                                · refine E_pickT rfl (v := .bool _) rfl (E_mv (v := .bool _) rfl (E_on rfl (E_mv (v := .bool _) rfl (E_on rfl (E_mv (v := .bool _) rfl (E_on rfl (E_mv (v := .bool _) rfl (E_on rfl (E_pickF rfl (v := .bool _) rfl (E_pickT rfl (v := .bool _) rfl (E_mv (v := .bool _) rfl (E_on rfl (E_fa rfl (E_on rfl (E_ldO (k := 0) (v := .slice _ _ _) rfl rfl (E_on rfl (E_len (n := ((cancelM (putC c i g105)).gs).length) rfl (E_on rfl (E_fa rfl (E_on rfl (E_ldB (v := .slice _ _ _) rfl (rowGet_c (j := 2) (rowGet_lift hK42 (rowGet_all rw36 rfl)) rfl) (E_on rfl (E_len (n := ((cancelM c).gs).length) rfl (E_on rfl (E_eqlS rfl rfl (fun c196 => ?_) (fun c196 => ?_))))))))))))))))))))))))))
                                  · refine E_pickT rfl (v := .bool _) rfl (E_mv (v := .bool _) rfl (E_on rfl (E_callV rfl (awake_ret _) (E_pickT rfl (v := .bool _) rfl (E_mv (v := .bool _) rfl (E_nil (AX_ret ?_)))))))
                                    first | exact ⟨_, rfl, by simp, rfl⟩ | exact absurd (pT (by intro h; rcases h with h | h | h <;> first | exact c160 h | exact c167 h | exact c175 h)) (of_decide_eq_false c153)
                                  · omega
                                · exact (c181 rfl).elim
                              · exact (c178 rfl).elim
                            · refine E_pickF rfl (v := .bool _) rfl (E_mv (v := .bool _) rfl (E_nil (AX_seq (AX_E (E_mv (v := .int .i64 (0)) rfl (E_eqlS rfl rfl (fun c178 => ?_) (fun c178 => ?_)))))))
                              · refine E_mv (v := .bool _) rfl (E_on rfl (E_mv (v := .int .i64 (0)) rfl (E_on rfl (E_eqlS rfl rfl (fun c181 => ?_) (fun c181 => ?_)))))
                                · refine E_pickT rfl (v := .bool _) rfl (E_mv (v := .bool _) rfl (E_on rfl (E_mv (v := .bool _) rfl (E_on rfl (E_mv (v := .bool _) rfl (E_on rfl (E_mv (v := .bool _) rfl (E_on rfl (E_pickF rfl (v := .bool _) rfl (E_pickT rfl (v := .bool _) rfl (E_mv (v := .bool _) rfl (E_notT rfl (E_notT rfl (E_notT rfl (E_notT rfl (E_notT rfl (E_notT rfl (E_notT rfl (E_pickF rfl (v := .bool _) rfl (E_mv (v := .bool _) rfl (E_notT rfl (E_pickF rfl (v := .bool _) rfl (E_mv (v := .bool _) rfl (E_nil (AX_ret ?_)))))))))))))))))))))))))
                                  first | exact ⟨_, rfl, by simp, rfl⟩ | exact absurd (pT (by intro h; rcases h with h | h | h <;> first | exact c160 h | exact c167 h | exact c175 h)) (of_decide_eq_false c153)
                                · exact (c181 rfl).elim
                              · exact (c178 rfl).elim
        · exact (c47 rfl).elim
  obtain ⟨q, v, u, hr, rfl⟩ := key
  exact ⟨_, u, ⟨q, hr⟩, rfl⟩
end Go.Canon
