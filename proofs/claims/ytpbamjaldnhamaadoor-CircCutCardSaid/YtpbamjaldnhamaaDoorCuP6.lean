/- CircCut, part 6: the canonical machine and the runs of the program's functions on it. No conditions. -/
import Derived.Test.YtpbamjaldnhamaaDoorCuP5
namespace Go.Canon
open Go Go.Proofs
set_option linter.unusedVariables false
set_option linter.unusedSimpArgs false
def kf246 : KFunc := ⟨5, 68, [.cell 10 (some 3)], .seq (.reg [⟨some 10, .new [.int .i64 0, .int .i64 0, .slice none 0 0], none⟩] []) (.seq (.reg [⟨some 13, .mv (.t 1), none⟩, ⟨some 14, .mv (.t 2), none⟩, ⟨some 15, .mk [.int .i64 0, .int .i64 0, .slice none 0 0] [(0, 1, .t 13), (1, 1, .t 14)], none⟩, ⟨some 11, .new [.int .i64 0, .int .i64 0, .slice none 0 0], none⟩, ⟨none, .st (.t 11) (.t 15) 3, none⟩] []) (.seq (.seq (.reg [⟨some 16, .mv (.t 0), none⟩, ⟨some 17, .mv (.t 3), none⟩, ⟨some 18, .bin .add (.t 17) (.c (.int .i64 1)), none⟩, ⟨some 19, .call (.c (.func (.func 56) #[] #[])) [.t 16, .t 18], none⟩, ⟨some 20, .mv (.c (.int .i64 0)), none⟩] []) (.block 0 (.loop (.seq (.reg [⟨some 21, .bin .lss (.t 20) (.t 19), none⟩] []) (.seq (.cond (.t 21) .skip (.exit 0)) (.seq (.block 1 (.seq (.reg [⟨some 22, .mv (.t 0), none⟩, ⟨some 23, .mv (.t 1), none⟩, ⟨some 24, .mv (.t 4), none⟩, ⟨some 25, .call (.c (.func (.func 34) #[] #[])) [.t 22, .t 23, .t 24], none⟩, ⟨some 12, .new [.int .i64 0, .slice none 0 0, .int .i64 0, .int .i64 0], none⟩, ⟨none, .st (.t 12) (.t 25) 4, none⟩] []) (.seq (.block 2 (.seq (.reg [⟨some 27, .mv (.t 2), none⟩, ⟨some 28, .bin .gtr (.t 27) (.c (.int .i64 0)), none⟩, ⟨some 29, .mv (.t 28), none⟩, ⟨some 30, .mv (.t 0), some (29, true)⟩, ⟨some 31, .call (.c (.func (.func 77) #[] #[])) [.t 30, .c (.int .i64 5)], some (29, true)⟩, ⟨some 32, .pick (.t 29) (.t 31) (.c (.bool false)), none⟩, ⟨some 26, .mv (.t 32), none⟩] []) (.cond (.t 26) (.reg [⟨some 33, .mv (.t 0), none⟩, ⟨some 34, .mv (.t 1), none⟩, ⟨some 35, .call (.c (.func (.func 56) #[] #[])) [.t 33, .t 34], none⟩, ⟨some 36, .mkS [.int .i64 0] 1 [(0, 1, .t 35)], none⟩, ⟨some 37, .mv (.t 0), none⟩, ⟨some 38, .mv (.t 2), none⟩, ⟨some 39, .call (.c (.func (.func 56) #[] #[])) [.t 37, .t 38], none⟩, ⟨some 40, .mk [.int .i64 0, .slice none 0 0, .int .i64 0, .int .i64 0] [(0, 1, .c (.int .i64 13)), (1, 1, .t 36), (2, 1, .t 39)], none⟩, ⟨none, .st (.t 12) (.t 40) 4, none⟩] []) (.seq (.reg [⟨some 42, .mv (.t 0), none⟩, ⟨some 43, .call (.c (.func (.func 77) #[] #[])) [.t 42, .c (.int .i64 12)], none⟩, ⟨some 41, .mv (.t 43), none⟩] []) (.cond (.t 41) (.reg [⟨some 44, .mv (.t 0), none⟩, ⟨some 45, .mv (.t 1), none⟩, ⟨some 46, .call (.c (.func (.func 56) #[] #[])) [.t 44, .t 45], none⟩, ⟨some 47, .mkS [.int .i64 0] 1 [(0, 1, .t 46)], none⟩, ⟨some 48, .mk [.int .i64 0, .slice none 0 0, .int .i64 0, .int .i64 0] [(0, 1, .c (.int .i64 14)), (1, 1, .t 47)], none⟩, ⟨none, .st (.t 12) (.t 48) 4, none⟩] []) (.seq (.reg [⟨some 50, .mv (.t 2), none⟩, ⟨some 51, .bin .gtr (.t 50) (.c (.int .i64 0)), none⟩, ⟨some 52, .mv (.t 51), none⟩, ⟨some 53, .mv (.t 0), some (52, true)⟩, ⟨some 54, .call (.c (.func (.func 77) #[] #[])) [.t 53, .c (.int .i64 4)], some (52, true)⟩, ⟨some 55, .pick (.t 52) (.t 54) (.c (.bool false)), none⟩, ⟨some 49, .mv (.t 55), none⟩] []) (.cond (.t 49) (.reg [⟨some 56, .mv (.t 0), none⟩, ⟨some 57, .mv (.t 2), none⟩, ⟨some 58, .call (.c (.func (.func 20) #[] #[])) [.t 56, .c (.int .i64 1), .t 57], none⟩, ⟨some 59, .fa (.t 12) 3, none⟩, ⟨none, .st (.t 59) (.t 58) 1, none⟩] []) .skip))))))) (.reg [⟨some 60, .fa (.t 11) 2, none⟩, ⟨some 61, .ld (.t 60) none, none⟩, ⟨some 62, .ld (.t 12) (some 4), none⟩, ⟨some 63, .mkS [.int .i64 0, .slice none 0 0, .int .i64 0, .int .i64 0] 1 [(0, 4, .t 62)], none⟩, ⟨some 64, .app (.t 61) (.t 63) 4 48, none⟩, ⟨some 65, .fa (.t 11) 2, none⟩, ⟨none, .st (.t 65) (.t 64) 1, none⟩] [])))) (.reg [⟨some 66, .bin .add (.t 20) (.c (.int .i64 1)), none⟩, ⟨some 20, .mv (.t 66), none⟩] []))))))) (.seq (.reg [⟨some 67, .ld (.t 11) (some 3), none⟩, ⟨none, .st (.t 10) (.t 67) 3, none⟩] []) .ret)))⟩
theorem k246 : tab Tryd.prog 46 = some kf246 := by kernel_rfl
theorem ints_row {h : Heap} {b : Nat} {l : List Int} {cs : List Value} (hr : h[b]? = some (.row cs true none)) (hc : cs = l.map (.int .i64 ·)) : Ints (fun c => c = b) h (some ⟨b, 0, none⟩, l.length) l := by
  subst hc
  exact ⟨by simp, Nat.le_refl _, .inr ⟨b, 0, _, true, _, rfl, rfl, hr, by simp; right; rw [List.take_of_length_le (by simp)]⟩⟩
theorem ints_lt {S : Nat → Prop} {h : Heap} {p : Pl} {l : List Int} (H : Ints S h p l) : Ints (fun b => S b ∧ b < h.length) h p l := Cells.lt H
/-- A gate that Steered makes. -/
def SG (w b : Int) (kl : List Int) (g : G) : Prop := cgM g w b = 0 ∧ (g.k ∈ kl ∨ g.k = 13 ∨ g.k = 14)
theorem sg_up {w b : Int} {kl : List Int} {g : G} (hb : 0 ≤ b) (h : cgM g w 0 = 0 ∧ g.k ∈ kl ∧ g.b = 0 ∧ g.f = 0) (hk : ∀ x ∈ kl, 1 ≤ x ∧ x ≤ 12) {f : Int} (hf : 0 ≤ f ∧ f ≤ b) : SG w b kl ⟨g.k, g.ws, g.b, f⟩ := by
  refine ⟨?_, .inl h.2.1⟩
  have hkk := hk _ h.2.1
  have h0 := h.1
  unfold cgM at h0 ⊢
  dsimp only
  split at h0 <;> try omega
  split at h0 <;> try omega
  split at h0 <;> try omega
  split at h0 <;> try omega
  rename_i e1 e2 e3 e4
  rw [if_neg e1, if_neg e2, if_neg e3, if_neg e4, if_neg (by omega), if_neg (by omega)]
theorem sg_m {w b : Int} {kl : List Int} {r q : Nat} (hr : (r : Int) < w) (hq : (q : Int) < b) : SG w b kl ⟨13, [(r : Int)], (q : Int), 0⟩ := by
  refine ⟨?_, .inr (.inl rfl)⟩
  unfold cgM
  rw [if_neg (by show ¬ arityM 13 = 0; decide), if_neg (by show ¬ ((1 : Nat) : Int) ≠ arityM 13; decide), if_neg (by rintro ⟨x, hx, h⟩; simp at hx; omega), if_neg (by simp), if_neg (by simp; omega), if_neg (by simp)]
theorem sg_r {w b : Int} {kl : List Int} {r : Nat} (hr : (r : Int) < w) (hb : 0 ≤ b) : SG w b kl ⟨14, [(r : Int)], 0, 0⟩ := by
  refine ⟨?_, .inr (.inr rfl)⟩
  unfold cgM
  rw [if_neg (by show ¬ arityM 14 = 0; decide), if_neg (by show ¬ ((1 : Nat) : Int) ≠ arityM 14; decide), if_neg (by rintro ⟨x, hx, h⟩; simp at hx; omega), if_neg (by simp), if_neg (by simp; omega), if_neg (by simp)]
theorem sste_ret (N : Nat) (H : Heap) (s k : Nat) (w bits mo : Int) (pk : Pl) (kl : List Int) (hs : Sto N H s k) (hk : k < 4611686018427370000) (hw : 1 ≤ w ∧ w ≤ 12) (hbt : 1 ≤ bits ∧ bits ≤ 8) (hmo : 0 ≤ mo ∧ mo ≤ 120) (hkl : Ints (fun b => b < N ∧ b ≠ s) H pk kl) (hne : 0 < kl.length ∧ kl.length < 100) (hkk : ∀ x ∈ kl, 1 ≤ x ∧ x ≤ 12) (h1 : arityM (kl[0]'hne.1) = 1) :
    ∃ (gs : List G) (q : Pl) (u : Heap), Ret (tab Tryd.prog) 46 [.pointer (some ⟨s, 0, none⟩), .int .i64 w, .int .i64 bits, .int .i64 mo, .slice pk.1 kl.length pk.2] H (cv ⟨w, bits, gs⟩ q) u ∧ ((gs.length : Int) ≤ mo ∧ ∀ g ∈ gs, SG w bits kl g) ∧ Gates (fun b => H.length ≤ b) u q gs ∧ Sto N u s (k + 3000) ∧ Kp (fun b => b = s) H u := by
  have key : ACall (tab Tryd.prog) 46 [.pointer (some ⟨s, 0, none⟩), .int .i64 w, .int .i64 bits, .int .i64 mo, .slice pk.1 kl.length pk.2] H fun v u => ∃ (gs : List G) (q : Pl), v = cv ⟨w, bits, gs⟩ q ∧ ((gs.length : Int) ≤ mo ∧ ∀ g ∈ gs, SG w bits kl g) ∧ Gates (fun b => H.length ≤ b) u q gs ∧ Sto N u s (k + 3000) ∧ Kp (fun b => b = s) H u := by
    have kqH : Kp (fun b => b = s) H H := ⟨Nat.le_refl _, fun _ _ _ => rfl⟩
    have soH := hs
    have hsN := hs.1
    have hNH := hs.2.1
    refine ACall_ownR k246 rfl ?_
    refine AX_seq (AX_E (E_new (E_nil (AX_seq (AX_E (E_mv (v := .int .i64 (w)) rfl (E_mv (v := .int .i64 (bits)) rfl (E_mk (cs := [.int .i64 (w), .int .i64 (bits), .slice none 0 0]) rfl (E_new (E_stO (k := 1) rfl rfl (v := .agg _) rfl rfl rfl rfl (E_nil (AX_seq (AX_seq (AX_E (E_mv (v := .pointer (some ⟨s, 0, none⟩)) rfl (E_mv (v := .int .i64 (mo)) rfl (E_addI rfl rfl (by first | omega | (simp; done) | (simp; omega)) (by first | omega | (simp; done) | (simp; omega)) ?_)))))))))))))))))
    obtain ⟨K1, hK1⟩ : ∃ K : Heap, K = H ++ ([CO.row [.int .i64 (0), .int .i64 (0), .slice none 0 0] true none, CO.row [.int .i64 (w), .int .i64 (bits), .slice none 0 0] true none] ++ []) := ⟨_, rfl⟩
    have lK1 : H.length + 2 ≤ K1.length := by rw [hK1]; simp only [List.length_append, List.length_cons, List.length_nil]; omega
    have pK1 : H <+: K1 := by rw [hK1]; exact List.prefix_append _ _
    have soK1 : Sto N K1 s (k) := soH.kp (S := fun _ => False) (by rw [hK1]; exact Kp.app) (fun b _ h => h)
    have kqK1 : Kp (fun b => b = s) H K1 := kqH.trans (S' := fun _ => False) (by rw [hK1]; exact Kp.app) (fun _ _ x => x) (fun _ _ x => x.elim)
    obtain ⟨r19, U19, hr19, hb19, soU19, kpU19, luU19⟩ := less_ret N K1 s k (mo + 1) soK1 (by omega) (by omega)
    have kqU19 : Kp (fun b => b = s) H U19 := kqK1.trans kpU19 (fun _ _ x => x) (fun _ _ x => x)
    have leU19 : K1.length ≤ U19.length := kpU19.len
    have lhU19 : H.length ≤ U19.length := kqU19.len
    have fk2 : Ints (fun b => (b < N ∧ b ≠ s)) U19 (pk) (kl) := kpU19.ii (hkl.lift hK1) (fun b hb => ⟨trivial, fun e => by have h : (b < N ∧ b ≠ s) := hb; have e1 : (b = s) := e; omega⟩)
    have rw3 : U19[(H).length + 0]? = some (CO.row [.int .i64 (0), .int .i64 (0), .slice none 0 0] true none) := kpU19.row (get_own hK1 (k := 0) rfl) (by show ¬ ((H).length + 0 = s); omega)
    have rw4 : U19[(H).length + 1]? = some (CO.row [.int .i64 (w), .int .i64 (bits), .slice none 0 0] true none) := kpU19.row (get_own hK1 (k := 1) rfl) (by show ¬ ((H).length + 1 = s); omega)
    refine E_hp (h' := K1 ++ []) (((List.append_nil _).symm.trans (congrArg (fun x : Heap => (H ++ x) ++ []) (List.append_nil _).symm)).trans (congrArg (fun x : Heap => x ++ []) hK1.symm)) (E_callU rfl hr19 rfl (E_mv (v := .int .i64 (0)) rfl (E_nil (AX_block ?_))))
    refine AX_loopF (γ := Nat × List G × Pl) (fun x => [(0, .pointer (some ⟨s, 0, none⟩)), (1, .int .i64 (w)), (2, .int .i64 (bits)), (4, .slice (pk).1 (kl).length (pk).2), (10, .pointer (some ⟨H.length + 0, 0, none⟩)), (11, .pointer (some ⟨H.length + 1, 0, none⟩)), (19, .int .i64 ((r19 : Int))), (20, .int .i64 ((x.1 : Int)))]) (fun x h_ m_ => (m_ = [] ∧ Kp (fun b => b = s) H h_ ∧ Sto N h_ s (k + 1 + 20 * x.1) ∧ OwnG h_ (H.length + 2) x.2.2 x.2.1 ∧ h_[H.length + 0]? = some (CO.row [.int .i64 (0), .int .i64 (0), .slice none 0 0] true none) ∧ h_[H.length + 1]? = some (CO.row [.int .i64 (w), .int .i64 (bits), .slice (x.2.2).1 (x.2.1).length (x.2.2).2] true none)) ∧ (x.2.1).length = x.1 ∧ x.1 ≤ r19 ∧ ∀ g ∈ (x.2.1), SG w bits kl g) (fun x => r19 - x.1) (0, [], (none, 0)) ⟨rfl, rfl, rfl, rfl, rfl, rfl, rfl, rfl, trivial⟩ ⟨?_, ?_⟩ ?_
    · rw [List.append_nil]
      exact ⟨rfl, kqU19, soU19, OwnG.nil, rw3, rw4⟩
    · exact ⟨rfl, by omega, fun g h => by simp at h⟩
    rintro ⟨i, gs, p⟩ fr0 KH0 mk0 ⟨hI0, inv0⟩ K0 hN0 hR0 hE0
    try dsimp only at hI0 inv0
    obtain ⟨rfl, kq0, so0, og0, rz0, rw0⟩ := hI0
    obtain ⟨hl0, hi0, hg0⟩ := inv0
    have kqKH0 := kq0
    have soKH0 := so0
    have krKH0 : Kp (fun b => b = s) KH0 KH0 := ⟨Nat.le_refl _, fun _ _ _ => rfl⟩
    have lH0 := kq0.len
    have fkl0 : Ints (fun b => b < N ∧ b ≠ s) KH0 pk kl := kq0.ii hkl (fun b hb => ⟨trivial, hb.2⟩)
    have lz0 := (List.getElem?_eq_some_iff.1 rw0).1
    refine AX_nil ?_
    refine AX_seq (AX_E (E_lssS rfl rfl (fun c21 => ?_) (fun c21 => ?_)))
    · refine E_nil (AX_seq (AX_condT rfl (AX_skip (AX_seq (AX_block (AX_seq (AX_E (E_mv (v := .pointer (some ⟨s, 0, none⟩)) rfl (E_mv (v := .int .i64 (w)) rfl (E_mv (v := .slice _ _ _) rfl ?_))))))))))
      obtain ⟨g25, q25, U25, hr25, hb25, ii25, soU25, kpU25⟩ := sgate_ret N KH0 s _ w pk kl soKH0 (by omega) hw fkl0 hne hkk h1
      have kqU25 : Kp (fun b => b = s) H U25 := kqKH0.trans kpU25 (fun _ _ x => x) (fun _ _ x => x)
      have krU25 : Kp (fun b => b = s) KH0 U25 := krKH0.trans kpU25 (fun _ _ x => x) (fun _ _ x => x)
      have leU25 : KH0.length ≤ U25.length := kpU25.len
      have lhU25 : H.length ≤ U25.length := kqU25.len
      have fk5 : Ints (fun b => (b < N ∧ b ≠ s)) U25 (pk) (kl) := kpU25.ii fkl0 (fun b hb => ⟨trivial, fun e => by have h : (b < N ∧ b ≠ s) := hb; have e1 : (b = s) := e; omega⟩)
      have rw6 : U25[H.length + 0]? = some (CO.row [.int .i64 (0), .int .i64 (0), .slice none 0 0] true none) := kpU25.row rz0 (by show ¬ (H.length + 0 = s); omega)
      have rw7 : U25[H.length + 1]? = some (CO.row [.int .i64 (w), .int .i64 (bits), .slice (p).1 (gs).length (p).2] true none) := kpU25.row rw0 (by show ¬ (H.length + 1 = s); omega)
      refine E_callU rfl hr25 rfl (E_new (E_stO (k := 0) rfl rfl (v := .agg _) rfl rfl rfl rfl (E_nil (AX_seq (AX_block (AX_seq (AX_E (E_mv (v := .int .i64 (bits)) rfl (E_gtrS rfl rfl (fun c28 => ?_) (fun c28 => ?_))))))))))
      · refine E_mv (v := .bool _) rfl (E_on rfl (E_mv (v := .pointer (some ⟨s, 0, none⟩)) rfl (E_on rfl ?_)))
        obtain ⟨K8, hK8⟩ : ∃ K : Heap, K = U25 ++ ([CO.row [.int .i64 (g25.k), .slice (q25).1 (g25.ws).length (q25).2, .int .i64 (g25.b), .int .i64 (g25.f)] true none] ++ []) := ⟨_, rfl⟩
        have lK8 : U25.length + 1 ≤ K8.length := by rw [hK8]; simp only [List.length_append, List.length_cons, List.length_nil]; omega
        have pK8 : U25 <+: K8 := by rw [hK8]; exact List.prefix_append _ _
        have soK8 : Sto N K8 s (((k + 1 + 20 * i) + 1 + w.toNat)) := soU25.kp (S := fun _ => False) (by rw [hK8]; exact Kp.app) (fun b _ h => h)
        have kqK8 : Kp (fun b => b = s) H K8 := kqU25.trans (S' := fun _ => False) (by rw [hK8]; exact Kp.app) (fun _ _ x => x) (fun _ _ x => x.elim)
        have krK8 : Kp (fun b => b = s) KH0 K8 := krU25.trans (S' := fun _ => False) (by rw [hK8]; exact Kp.app) (fun _ _ x => x) (fun _ _ x => x.elim)
        obtain ⟨r31, U31, hr31, hb31, soU31, kpU31, luU31⟩ := seldom_ret N K8 s _ 5 soK8 (by omega) (by decide)
        have kqU31 : Kp (fun b => b = s) H U31 := kqK8.trans kpU31 (fun _ _ x => x) (fun _ _ x => x)
        have krU31 : Kp (fun b => b = s) KH0 U31 := krK8.trans kpU31 (fun _ _ x => x) (fun _ _ x => x)
        have leU31 : K8.length ≤ U31.length := kpU31.len
        have lhU31 : H.length ≤ U31.length := kqU31.len
        have fk9 : Ints (fun b => (b < N ∧ b ≠ s)) U31 (pk) (kl) := kpU31.ii (fk5.lift hK8) (fun b hb => ⟨trivial, fun e => by have h : (b < N ∧ b ≠ s) := hb; have e1 : (b = s) := e; omega⟩)
        have rw10 : U31[H.length + 0]? = some (CO.row [.int .i64 (0), .int .i64 (0), .slice none 0 0] true none) := kpU31.row (getq hK8 rw6) (by show ¬ (H.length + 0 = s); omega)
        have rw11 : U31[H.length + 1]? = some (CO.row [.int .i64 (w), .int .i64 (bits), .slice (p).1 (gs).length (p).2] true none) := kpU31.row (getq hK8 rw7) (by show ¬ (H.length + 1 = s); omega)
        have fk12 : Ints (fun b => (KH0.length ≤ b ∧ b < U25.length)) U31 (q25) (g25.ws) := kpU31.ii ((ints_lt ii25).lift hK8) (fun b hb => ⟨trivial, fun e => by have h : (KH0.length ≤ b ∧ b < U25.length) := hb; have e1 : (b = s) := e; omega⟩)
        have rw13 : U31[(U25).length + 0]? = some (CO.row [.int .i64 (g25.k), .slice (q25).1 (g25.ws).length (q25).2, .int .i64 (g25.b), .int .i64 (g25.f)] true none) := kpU31.row (get_own hK8 (k := 0) rfl) (by show ¬ ((U25).length + 0 = s); omega)
        refine E_hp (h' := K8 ++ []) (((List.append_nil _).symm.trans (congrArg (fun x : Heap => (U25 ++ x) ++ []) (List.append_nil _).symm)).trans (congrArg (fun x : Heap => x ++ []) hK8.symm)) (E_callU rfl hr31 rfl (E_bs (fun c31 => ?_) (fun c31 => ?_)))
        · refine E_pickT rfl (v := .bool _) rfl (E_mv (v := .bool _) rfl (E_nil (AX_condT rfl (AX_E (E_mv (v := .pointer (some ⟨s, 0, none⟩)) rfl (E_mv (v := .int .i64 (w)) rfl ?_))))))
          obtain ⟨r35, U35, hr35, hb35, soU35, kpU35, luU35⟩ := less_ret N U31 s _ w soU31 (by omega) (by omega)
          have kqU35 : Kp (fun b => b = s) H U35 := kqU31.trans kpU35 (fun _ _ x => x) (fun _ _ x => x)
          have krU35 : Kp (fun b => b = s) KH0 U35 := krU31.trans kpU35 (fun _ _ x => x) (fun _ _ x => x)
          have leU35 : U31.length ≤ U35.length := kpU35.len
          have lhU35 : H.length ≤ U35.length := kqU35.len
          have fk14 : Ints (fun b => (b < N ∧ b ≠ s)) U35 (pk) (kl) := kpU35.ii fk9 (fun b hb => ⟨trivial, fun e => by have h : (b < N ∧ b ≠ s) := hb; have e1 : (b = s) := e; omega⟩)
          have rw15 : U35[H.length + 0]? = some (CO.row [.int .i64 (0), .int .i64 (0), .slice none 0 0] true none) := kpU35.row rw10 (by show ¬ (H.length + 0 = s); omega)
          have rw16 : U35[H.length + 1]? = some (CO.row [.int .i64 (w), .int .i64 (bits), .slice (p).1 (gs).length (p).2] true none) := kpU35.row rw11 (by show ¬ (H.length + 1 = s); omega)
          have fk17 : Ints (fun b => (KH0.length ≤ b ∧ b < U25.length)) U35 (q25) (g25.ws) := kpU35.ii fk12 (fun b hb => ⟨trivial, fun e => by have h : (KH0.length ≤ b ∧ b < U25.length) := hb; have e1 : (b = s) := e; omega⟩)
          have rw18 : U35[(U25).length + 0]? = some (CO.row [.int .i64 (g25.k), .slice (q25).1 (g25.ws).length (q25).2, .int .i64 (g25.b), .int .i64 (g25.f)] true none) := kpU35.row rw13 (by show ¬ ((U25).length + 0 = s); omega)
          refine E_callU rfl hr35 rfl ?_
          obtain ⟨K19, hK19⟩ : ∃ K : Heap, K = U35 ++ ([CO.row [.int .i64 ((r35 : Int))] true none] ++ []) := ⟨_, rfl⟩
          have lK19 : U35.length + 1 ≤ K19.length := by rw [hK19]; simp only [List.length_append, List.length_cons, List.length_nil]; omega
          have pK19 : U35 <+: K19 := by rw [hK19]; exact List.prefix_append _ _
          have soK19 : Sto N K19 s (((((k + 1 + 20 * i) + 1 + w.toNat) + 1) + 1)) := soU35.kp (S := fun _ => False) (by rw [hK19]; exact Kp.app) (fun b _ h => h)
          have kqK19 : Kp (fun b => b = s) H K19 := kqU35.trans (S' := fun _ => False) (by rw [hK19]; exact Kp.app) (fun _ _ x => x) (fun _ _ x => x.elim)
          have krK19 : Kp (fun b => b = s) KH0 K19 := krU35.trans (S' := fun _ => False) (by rw [hK19]; exact Kp.app) (fun _ _ x => x) (fun _ _ x => x.elim)
          have fm36 : Ints (fun b => b = U35.length + 0) K19 (some ⟨U35.length + 0, 0, none⟩, [(r35 : Int)].length) [(r35 : Int)] := ints_row (get_own hK19 (k := 0) rfl) rfl
          have lm36 : U35.length ≤ K19.length := by rw [hK19]; simp
          refine E_mkS (cs := [.int .i64 (r35 : Int)]) rfl (E_hp (h' := K19 ++ []) (((List.append_nil _).symm.trans (congrArg (fun x : Heap => (U35 ++ x) ++ []) (List.append_nil _).symm)).trans (congrArg (fun x : Heap => x ++ []) hK19.symm)) (E_mv (v := .pointer (some ⟨s, 0, none⟩)) rfl (E_mv (v := .int .i64 (bits)) rfl ?_)))
          obtain ⟨r39, U39, hr39, hb39, soU39, kpU39, luU39⟩ := less_ret N K19 s _ bits soK19 (by omega) (by omega)
          have kqU39 : Kp (fun b => b = s) H U39 := kqK19.trans kpU39 (fun _ _ x => x) (fun _ _ x => x)
          have krU39 : Kp (fun b => b = s) KH0 U39 := krK19.trans kpU39 (fun _ _ x => x) (fun _ _ x => x)
          have leU39 : K19.length ≤ U39.length := kpU39.len
          have lhU39 : H.length ≤ U39.length := kqU39.len
          have fk20 : Ints (fun b => (b < N ∧ b ≠ s)) U39 (pk) (kl) := kpU39.ii (fk14.lift hK19) (fun b hb => ⟨trivial, fun e => by have h : (b < N ∧ b ≠ s) := hb; have e1 : (b = s) := e; omega⟩)
          have rw21 : U39[H.length + 0]? = some (CO.row [.int .i64 (0), .int .i64 (0), .slice none 0 0] true none) := kpU39.row (getq hK19 rw15) (by show ¬ (H.length + 0 = s); omega)
          have rw22 : U39[H.length + 1]? = some (CO.row [.int .i64 (w), .int .i64 (bits), .slice (p).1 (gs).length (p).2] true none) := kpU39.row (getq hK19 rw16) (by show ¬ (H.length + 1 = s); omega)
          have fk23 : Ints (fun b => (KH0.length ≤ b ∧ b < U25.length)) U39 (q25) (g25.ws) := kpU39.ii (fk17.lift hK19) (fun b hb => ⟨trivial, fun e => by have h : (KH0.length ≤ b ∧ b < U25.length) := hb; have e1 : (b = s) := e; omega⟩)
          have rw24 : U39[(U25).length + 0]? = some (CO.row [.int .i64 (g25.k), .slice (q25).1 (g25.ws).length (q25).2, .int .i64 (g25.b), .int .i64 (g25.f)] true none) := kpU39.row (getq hK19 rw18) (by show ¬ ((U25).length + 0 = s); omega)
          have fk25 : Ints (fun b => (b = U35.length + 0)) U39 (((some ⟨U35.length + 0, 0, none⟩, [(r35 : Int)].length) : Pl)) ([(r35 : Int)]) := kpU39.ii fm36 (fun b hb => ⟨trivial, fun e => by have h : (b = U35.length + 0) := hb; have e1 : (b = s) := e; omega⟩)
          refine E_callU rfl hr39 rfl (E_mk (cs := [.int .i64 (13), .slice (((some ⟨U35.length + 0, 0, none⟩, [(r35 : Int)].length) : Pl)).1 ([(r35 : Int)]).length (((some ⟨U35.length + 0, 0, none⟩, [(r35 : Int)].length) : Pl)).2, .int .i64 ((r39 : Int)), .int .i64 (0)]) rfl (E_stX (l := [.int .i64 (13), .slice (((some ⟨U35.length + 0, 0, none⟩, [(r35 : Int)].length) : Pl)).1 ([(r35 : Int)]).length (((some ⟨U35.length + 0, 0, none⟩, [(r35 : Int)].length) : Pl)).2, .int .i64 ((r39 : Int)), .int .i64 (0)]) (v := .agg _) rfl rfl rfl rfl ((congrArg (fun h : Heap => h[(U25).length + 0]?) (List.append_nil _)).trans (rw24)) (by simp) rfl rfl fun V26 hV26 => ?_))
          have eV26 : V26 = U39.set ((U25).length + 0) (CO.row [.int .i64 (13), .slice (((some ⟨U35.length + 0, 0, none⟩, [(r35 : Int)].length) : Pl)).1 ([(r35 : Int)]).length (((some ⟨U35.length + 0, 0, none⟩, [(r35 : Int)].length) : Pl)).2, .int .i64 ((r39 : Int)), .int .i64 (0)] true none) := by rw [hV26, List.append_nil]; rfl
          have kpV26 : Kp (fun b => b = (U25).length + 0) U39 V26 := by rw [eV26]; exact Kp.set
          have kqV26 : Kp (fun b => b = s) H V26 := kqU39.trans kpV26 (fun _ _ x => x) (fun b hb x => by omega)
          have soV26 : Sto N V26 s ((((((k + 1 + 20 * i) + 1 + w.toNat) + 1) + 1) + 1)) := soU39.kp kpV26 (fun b hb x => by omega)
          have leV26 : V26.length = U39.length := by rw [eV26]; exact List.length_set
          have ltV26 : (U25).length + 0 < U39.length := (List.getElem?_eq_some_iff.1 (rw24)).1
          have krV26 : Kp (fun b => b = s) KH0 V26 := krU39.trans kpV26 (fun _ _ x => x) (fun b hb x => by omega)
          have fk27 : Ints (fun b => (b < N ∧ b ≠ s)) V26 (pk) (kl) := kpV26.ii fk20 (fun b hb => ⟨trivial, fun e => by have h : (b < N ∧ b ≠ s) := hb; have e1 : (b = (U25).length + 0) := e; omega⟩)
          have rw28 : V26[H.length + 0]? = some (CO.row [.int .i64 (0), .int .i64 (0), .slice none 0 0] true none) := kpV26.row rw21 (by show ¬ (H.length + 0 = (U25).length + 0); omega)
          have rw29 : V26[H.length + 1]? = some (CO.row [.int .i64 (w), .int .i64 (bits), .slice (p).1 (gs).length (p).2] true none) := kpV26.row rw22 (by show ¬ (H.length + 1 = (U25).length + 0); omega)
          have fk30 : Ints (fun b => (KH0.length ≤ b ∧ b < U25.length)) V26 (q25) (g25.ws) := kpV26.ii fk23 (fun b hb => ⟨trivial, fun e => by have h : (KH0.length ≤ b ∧ b < U25.length) := hb; have e1 : (b = (U25).length + 0) := e; omega⟩)
          have fk32 : Ints (fun b => (b = U35.length + 0)) V26 (((some ⟨U35.length + 0, 0, none⟩, [(r35 : Int)].length) : Pl)) ([(r35 : Int)]) := kpV26.ii fk25 (fun b hb => ⟨trivial, fun e => by have h : (b = U35.length + 0) := hb; have e1 : (b = (U25).length + 0) := e; omega⟩)
          have rw31 : V26[(U25).length + 0]? = some (CO.row [.int .i64 (13), .slice (((some ⟨U35.length + 0, 0, none⟩, [(r35 : Int)].length) : Pl)).1 ([(r35 : Int)]).length (((some ⟨U35.length + 0, 0, none⟩, [(r35 : Int)].length) : Pl)).2, .int .i64 ((r39 : Int)), .int .i64 (0)] true none) := by rw [eV26, List.getElem?_set_self ltV26]
          refine E_nil (AX_E (E_fa rfl (E_ldB (v := .slice _ _ _) rfl (rowGet_c (j := 2) (rowGet_all rw29 rfl) rfl) (E_ldBN rfl (rowGet_all rw31 rfl) (E_mkS (cs := [.int .i64 (13), .slice (((some ⟨U35.length + 0, 0, none⟩, [(r35 : Int)].length) : Pl)).1 ([(r35 : Int)]).length (((some ⟨U35.length + 0, 0, none⟩, [(r35 : Int)].length) : Pl)).2, .int .i64 ((r39 : Int)), .int .i64 (0)]) rfl ?_)))))
          obtain ⟨U3, hK3⟩ : ∃ K : Heap, K = V26 ++ [CO.row [.int .i64 (13), .slice (((some ⟨U35.length + 0, 0, none⟩, [(r35 : Int)].length) : Pl)).1 ([(r35 : Int)]).length (((some ⟨U35.length + 0, 0, none⟩, [(r35 : Int)].length) : Pl)).2, .int .i64 ((r39 : Int)), .int .i64 (0)] true none] := ⟨_, rfl⟩
          have l3 : U3.length = V26.length + 1 := by rw [hK3]; simp
          have lr3 := krV26.len
          have k3 : Kp (fun _ => False) V26 U3 := by rw [hK3]; exact Kp.app
          have og3 : OwnG U3 (H.length + 2) p gs := (og0.kp krV26 (fun b hb e => by omega)).kp k3 (fun _ _ x => x)
          obtain ⟨ps, ep, gg3, pp3, ii3⟩ := og3
          have iq3 : Ints (fun c => KH0.length ≤ c) U3 (((some ⟨U35.length + 0, 0, none⟩, [(r35 : Int)].length) : Pl)) ((⟨13, [(r35 : Int)], (r39 : Int), 0⟩ : G)).ws := Cells.congr (k3.ii fk32 (fun _ _ => ⟨trivial, fun x => x⟩)) (fun b hb => by have h : (b = U35.length + 0) := hb; omega) (fun _ _ _ => rfl)
          refine E_hp (h' := U3) hK3.symm (E_appK (k := gs.length) (kx := 1) (p := p) (new := gcells (⟨13, [(r35 : Int)], (r39 : Int), 0⟩ : G) (((some ⟨U35.length + 0, 0, none⟩, [(r35 : Int)].length) : Pl))) gg3 rfl rfl (by rw [hK3]; show (if 1 * 4 = 0 then some [] else rowGet _ ⟨_, _, none⟩ (1 * 4)) = _; exact rowGet_own (k := 0) rfl) (by decide) (by simp only [roomB]; omega) rfl rfl rfl fun U4 hl4 hg4 hk4 => ?_)
          have og4 : OwnG U4 (H.length + 2) (some ⟨U3.length, 0, none⟩, (gs ++ [(⟨13, [(r35 : Int)], (r39 : Int), 0⟩ : G)]).length) (gs ++ [(⟨13, [(r35 : Int)], (r39 : Int), 0⟩ : G)]) := OwnG.add (M := KH0.length) (by omega) ⟨ps, ep, gg3, pp3, ii3⟩ iq3 (ownG_lt og0) (by omega) ps ep ii3 hg4 hk4
          have k4 : ∀ b, b < U3.length → b < H.length + 2 → U4[b]? = U3[b]? := fun b hb hb2 => hk4 b hb fun a ha e => by have := pp3 a ha; omega
          have rz4 := (k4 (H.length + 0) (by omega) (by omega)).trans (k3.row rw28 (fun x => x))
          have rw4 := (k4 (H.length + 1) (by omega) (by omega)).trans (k3.row rw29 (fun x => x))
          have kp4 : Kp (fun b => H.length + 2 ≤ b) V26 U4 := ⟨by omega, fun b hb hn => (k4 b (by omega) (by omega)).trans (k3.keep b hb (fun x => x))⟩
          refine E_fa rfl (E_stX (b := H.length + 1) (o := 0 + 2) (l := [.slice (some ⟨U3.length, 0, none⟩) (gs.length + 1) (gs.length + 1)]) (v := .slice _ _ _) rfl rfl rfl rfl ((congrArg (fun h : Heap => h[H.length + 1]?) (List.append_nil _)).trans rw4) (by simp) rfl rfl fun V eV => ?_)
          have eV2 : V = U4.set (H.length + 1) (CO.row [.int .i64 (w), .int .i64 (bits), .slice (((some ⟨U3.length, 0, none⟩, (gs ++ [(⟨13, [(r35 : Int)], (r39 : Int), 0⟩ : G)]).length) : Pl)).1 (gs ++ [(⟨13, [(r35 : Int)], (r39 : Int), 0⟩ : G)]).length (((some ⟨U3.length, 0, none⟩, (gs ++ [(⟨13, [(r35 : Int)], (r39 : Int), 0⟩ : G)]).length) : Pl)).2] true none) := by rw [eV, List.append_nil]; simp
          have kpV : Kp (fun b => b = H.length + 1) U4 V := by rw [eV2]; exact Kp.set
          have kqV : Kp (fun b => b = s) H V := (kqV26.trans (kp4.trans (S'' := fun b => H.length ≤ b) kpV (fun b _ (x : _ ≤ _) => by omega) (fun b _ (x : _ = _) => by omega)) (fun _ _ x => x) (fun b hb (x : _ ≤ _) => by omega))
          have soV : Sto N V s (k + 1 + 20 * (i + 1)) := ((soV26.kp kp4 (fun b hb (x : _ ≤ _) => by omega)).kp kpV (fun b hb (x : _ = _) => by omega)).mono (by omega)
          have ogV := og4.kp kpV (fun b hb (x : _ = _) => by omega)
          have rzV := kpV.row rz4 (by show ¬ H.length + 0 = H.length + 1; omega)
          have rwV : V[H.length + 1]? = some (CO.row [.int .i64 (w), .int .i64 (bits), .slice (((some ⟨U3.length, 0, none⟩, (gs ++ [(⟨13, [(r35 : Int)], (r39 : Int), 0⟩ : G)]).length) : Pl)).1 (gs ++ [(⟨13, [(r35 : Int)], (r39 : Int), 0⟩ : G)]).length (((some ⟨U3.length, 0, none⟩, (gs ++ [(⟨13, [(r35 : Int)], (r39 : Int), 0⟩ : G)]).length) : Pl)).2] true none) := by rw [eV2, List.getElem?_set_self (List.getElem?_eq_some_iff.1 rw4).1]
          refine E_nil (AX_E (E_addI rfl rfl (by first | omega | (simp; done) | (simp; omega)) (by first | omega | (simp; done) | (simp; omega)) (E_mv (v := .int .i64 (((i : Int) + 1))) rfl (E_nil ?_))))
          refine hN0 (i + 1, gs ++ [(⟨13, [(r35 : Int)], (r39 : Int), 0⟩ : G)], (some ⟨U3.length, 0, none⟩, (gs ++ [(⟨13, [(r35 : Int)], (r39 : Int), 0⟩ : G)]).length)) _ _ _ ⟨by first | rfl | (congr 1; omega), by first | rfl | (congr 1; omega), by first | rfl | (congr 1; omega), by first | rfl | (congr 1; omega), by rfl, by rfl, by first | rfl | (congr 1; omega), by rfl, trivial⟩ ⟨?_, ?_⟩ ?_
          -- n1
          all_goals clear hN0 hR0 hE0
          · rw [List.append_nil]
            exact ⟨rfl, kqV, soV, ogV, rzV, rwV⟩
          · refine ⟨by simp; omega, by omega, fun x hx => ?_⟩
            rcases List.mem_append.1 hx with hx | hx
            · exact hg0 x hx
            · simp only [List.mem_singleton] at hx; subst hx; first | exact sg_m hb35 hb39 | exact sg_r hb46 (by omega) | exact sg_up (by omega) hb25 hkk (by omega)
          · (first | omega | (simp; omega))
        · refine E_pickT rfl (v := .bool _) rfl (E_mv (v := .bool _) rfl (E_nil (AX_condF rfl (AX_seq (AX_E (E_mv (v := .pointer (some ⟨s, 0, none⟩)) rfl ?_))))))
          obtain ⟨r43, U43, hr43, hb43, soU43, kpU43, luU43⟩ := seldom_ret N U31 s _ 12 soU31 (by omega) (by decide)
          have kqU43 : Kp (fun b => b = s) H U43 := kqU31.trans kpU43 (fun _ _ x => x) (fun _ _ x => x)
          have krU43 : Kp (fun b => b = s) KH0 U43 := krU31.trans kpU43 (fun _ _ x => x) (fun _ _ x => x)
          have leU43 : U31.length ≤ U43.length := kpU43.len
          have lhU43 : H.length ≤ U43.length := kqU43.len
          have fk33 : Ints (fun b => (b < N ∧ b ≠ s)) U43 (pk) (kl) := kpU43.ii fk9 (fun b hb => ⟨trivial, fun e => by have h : (b < N ∧ b ≠ s) := hb; have e1 : (b = s) := e; omega⟩)
          have rw34 : U43[H.length + 0]? = some (CO.row [.int .i64 (0), .int .i64 (0), .slice none 0 0] true none) := kpU43.row rw10 (by show ¬ (H.length + 0 = s); omega)
          have rw35 : U43[H.length + 1]? = some (CO.row [.int .i64 (w), .int .i64 (bits), .slice (p).1 (gs).length (p).2] true none) := kpU43.row rw11 (by show ¬ (H.length + 1 = s); omega)
          have fk36 : Ints (fun b => (KH0.length ≤ b ∧ b < U25.length)) U43 (q25) (g25.ws) := kpU43.ii fk12 (fun b hb => ⟨trivial, fun e => by have h : (KH0.length ≤ b ∧ b < U25.length) := hb; have e1 : (b = s) := e; omega⟩)
          have rw37 : U43[(U25).length + 0]? = some (CO.row [.int .i64 (g25.k), .slice (q25).1 (g25.ws).length (q25).2, .int .i64 (g25.b), .int .i64 (g25.f)] true none) := kpU43.row rw13 (by show ¬ ((U25).length + 0 = s); omega)
          refine E_callU rfl hr43 rfl (E_bs (fun c43 => ?_) (fun c43 => ?_))
          · refine E_mv (v := .bool _) rfl (E_nil (AX_condT rfl (AX_E (E_mv (v := .pointer (some ⟨s, 0, none⟩)) rfl (E_mv (v := .int .i64 (w)) rfl ?_)))))
            obtain ⟨r46, U46, hr46, hb46, soU46, kpU46, luU46⟩ := less_ret N U43 s _ w soU43 (by omega) (by omega)
            have kqU46 : Kp (fun b => b = s) H U46 := kqU43.trans kpU46 (fun _ _ x => x) (fun _ _ x => x)
            have krU46 : Kp (fun b => b = s) KH0 U46 := krU43.trans kpU46 (fun _ _ x => x) (fun _ _ x => x)
            have leU46 : U43.length ≤ U46.length := kpU46.len
            have lhU46 : H.length ≤ U46.length := kqU46.len
            have fk38 : Ints (fun b => (b < N ∧ b ≠ s)) U46 (pk) (kl) := kpU46.ii fk33 (fun b hb => ⟨trivial, fun e => by have h : (b < N ∧ b ≠ s) := hb; have e1 : (b = s) := e; omega⟩)
            have rw39 : U46[H.length + 0]? = some (CO.row [.int .i64 (0), .int .i64 (0), .slice none 0 0] true none) := kpU46.row rw34 (by show ¬ (H.length + 0 = s); omega)
            have rw40 : U46[H.length + 1]? = some (CO.row [.int .i64 (w), .int .i64 (bits), .slice (p).1 (gs).length (p).2] true none) := kpU46.row rw35 (by show ¬ (H.length + 1 = s); omega)
            have fk41 : Ints (fun b => (KH0.length ≤ b ∧ b < U25.length)) U46 (q25) (g25.ws) := kpU46.ii fk36 (fun b hb => ⟨trivial, fun e => by have h : (KH0.length ≤ b ∧ b < U25.length) := hb; have e1 : (b = s) := e; omega⟩)
            have rw42 : U46[(U25).length + 0]? = some (CO.row [.int .i64 (g25.k), .slice (q25).1 (g25.ws).length (q25).2, .int .i64 (g25.b), .int .i64 (g25.f)] true none) := kpU46.row rw37 (by show ¬ ((U25).length + 0 = s); omega)
            refine E_callU rfl hr46 rfl ?_
            obtain ⟨K43, hK43⟩ : ∃ K : Heap, K = U46 ++ ([CO.row [.int .i64 ((r46 : Int))] true none] ++ []) := ⟨_, rfl⟩
            have lK43 : U46.length + 1 ≤ K43.length := by rw [hK43]; simp only [List.length_append, List.length_cons, List.length_nil]; omega
            have pK43 : U46 <+: K43 := by rw [hK43]; exact List.prefix_append _ _
            have soK43 : Sto N K43 s ((((((k + 1 + 20 * i) + 1 + w.toNat) + 1) + 1) + 1)) := soU46.kp (S := fun _ => False) (by rw [hK43]; exact Kp.app) (fun b _ h => h)
            have kqK43 : Kp (fun b => b = s) H K43 := kqU46.trans (S' := fun _ => False) (by rw [hK43]; exact Kp.app) (fun _ _ x => x) (fun _ _ x => x.elim)
            have krK43 : Kp (fun b => b = s) KH0 K43 := krU46.trans (S' := fun _ => False) (by rw [hK43]; exact Kp.app) (fun _ _ x => x) (fun _ _ x => x.elim)
            have fm47 : Ints (fun b => b = U46.length + 0) K43 (some ⟨U46.length + 0, 0, none⟩, [(r46 : Int)].length) [(r46 : Int)] := ints_row (get_own hK43 (k := 0) rfl) rfl
            have lm47 : U46.length ≤ K43.length := by rw [hK43]; simp
            refine E_mkS (cs := [.int .i64 (r46 : Int)]) rfl (E_hp (h' := K43 ++ []) (((List.append_nil _).symm.trans (congrArg (fun x : Heap => (U46 ++ x) ++ []) (List.append_nil _).symm)).trans (congrArg (fun x : Heap => x ++ []) hK43.symm)) (E_mk (cs := [.int .i64 (14), .slice (((some ⟨U46.length + 0, 0, none⟩, [(r46 : Int)].length) : Pl)).1 ([(r46 : Int)]).length (((some ⟨U46.length + 0, 0, none⟩, [(r46 : Int)].length) : Pl)).2, .int .i64 (0), .int .i64 (0)]) rfl (E_stX (l := [.int .i64 (14), .slice (((some ⟨U46.length + 0, 0, none⟩, [(r46 : Int)].length) : Pl)).1 ([(r46 : Int)]).length (((some ⟨U46.length + 0, 0, none⟩, [(r46 : Int)].length) : Pl)).2, .int .i64 (0), .int .i64 (0)]) (v := .agg _) rfl rfl rfl rfl ((congrArg (fun h : Heap => h[(U25).length + 0]?) (List.append_nil _)).trans ((getq hK43 rw42))) (by simp) rfl rfl fun V44 hV44 => ?_)))
            have eV44 : V44 = K43.set ((U25).length + 0) (CO.row [.int .i64 (14), .slice (((some ⟨U46.length + 0, 0, none⟩, [(r46 : Int)].length) : Pl)).1 ([(r46 : Int)]).length (((some ⟨U46.length + 0, 0, none⟩, [(r46 : Int)].length) : Pl)).2, .int .i64 (0), .int .i64 (0)] true none) := by rw [hV44, List.append_nil]; rfl
            have kpV44 : Kp (fun b => b = (U25).length + 0) K43 V44 := by rw [eV44]; exact Kp.set
            have kqV44 : Kp (fun b => b = s) H V44 := kqK43.trans kpV44 (fun _ _ x => x) (fun b hb x => by omega)
            have soV44 : Sto N V44 s ((((((k + 1 + 20 * i) + 1 + w.toNat) + 1) + 1) + 1)) := soK43.kp kpV44 (fun b hb x => by omega)
            have leV44 : V44.length = K43.length := by rw [eV44]; exact List.length_set
            have ltV44 : (U25).length + 0 < K43.length := (List.getElem?_eq_some_iff.1 ((getq hK43 rw42))).1
            have krV44 : Kp (fun b => b = s) KH0 V44 := krK43.trans kpV44 (fun _ _ x => x) (fun b hb x => by omega)
            have fk45 : Ints (fun b => (b < N ∧ b ≠ s)) V44 (pk) (kl) := kpV44.ii (fk38.lift hK43) (fun b hb => ⟨trivial, fun e => by have h : (b < N ∧ b ≠ s) := hb; have e1 : (b = (U25).length + 0) := e; omega⟩)
            have rw46 : V44[H.length + 0]? = some (CO.row [.int .i64 (0), .int .i64 (0), .slice none 0 0] true none) := kpV44.row (getq hK43 rw39) (by show ¬ (H.length + 0 = (U25).length + 0); omega)
            have rw47 : V44[H.length + 1]? = some (CO.row [.int .i64 (w), .int .i64 (bits), .slice (p).1 (gs).length (p).2] true none) := kpV44.row (getq hK43 rw40) (by show ¬ (H.length + 1 = (U25).length + 0); omega)
            have fk48 : Ints (fun b => (KH0.length ≤ b ∧ b < U25.length)) V44 (q25) (g25.ws) := kpV44.ii (fk41.lift hK43) (fun b hb => ⟨trivial, fun e => by have h : (KH0.length ≤ b ∧ b < U25.length) := hb; have e1 : (b = (U25).length + 0) := e; omega⟩)
            have fk50 : Ints (fun b => (b = U46.length + 0)) V44 (((some ⟨U46.length + 0, 0, none⟩, [(r46 : Int)].length) : Pl)) ([(r46 : Int)]) := kpV44.ii fm47 (fun b hb => ⟨trivial, fun e => by have h : (b = U46.length + 0) := hb; have e1 : (b = (U25).length + 0) := e; omega⟩)
            have rw49 : V44[(U25).length + 0]? = some (CO.row [.int .i64 (14), .slice (((some ⟨U46.length + 0, 0, none⟩, [(r46 : Int)].length) : Pl)).1 ([(r46 : Int)]).length (((some ⟨U46.length + 0, 0, none⟩, [(r46 : Int)].length) : Pl)).2, .int .i64 (0), .int .i64 (0)] true none) := by rw [eV44, List.getElem?_set_self ltV44]
            refine E_nil (AX_E (E_fa rfl (E_ldB (v := .slice _ _ _) rfl (rowGet_c (j := 2) (rowGet_all rw47 rfl) rfl) (E_ldBN rfl (rowGet_all rw49 rfl) (E_mkS (cs := [.int .i64 (14), .slice (((some ⟨U46.length + 0, 0, none⟩, [(r46 : Int)].length) : Pl)).1 ([(r46 : Int)]).length (((some ⟨U46.length + 0, 0, none⟩, [(r46 : Int)].length) : Pl)).2, .int .i64 (0), .int .i64 (0)]) rfl ?_)))))
            obtain ⟨U3, hK3⟩ : ∃ K : Heap, K = V44 ++ [CO.row [.int .i64 (14), .slice (((some ⟨U46.length + 0, 0, none⟩, [(r46 : Int)].length) : Pl)).1 ([(r46 : Int)]).length (((some ⟨U46.length + 0, 0, none⟩, [(r46 : Int)].length) : Pl)).2, .int .i64 (0), .int .i64 (0)] true none] := ⟨_, rfl⟩
            have l3 : U3.length = V44.length + 1 := by rw [hK3]; simp
            have lr3 := krV44.len
            have k3 : Kp (fun _ => False) V44 U3 := by rw [hK3]; exact Kp.app
            have og3 : OwnG U3 (H.length + 2) p gs := (og0.kp krV44 (fun b hb e => by omega)).kp k3 (fun _ _ x => x)
            obtain ⟨ps, ep, gg3, pp3, ii3⟩ := og3
            have iq3 : Ints (fun c => KH0.length ≤ c) U3 (((some ⟨U46.length + 0, 0, none⟩, [(r46 : Int)].length) : Pl)) ((⟨14, [(r46 : Int)], 0, 0⟩ : G)).ws := Cells.congr (k3.ii fk50 (fun _ _ => ⟨trivial, fun x => x⟩)) (fun b hb => by have h : (b = U46.length + 0) := hb; omega) (fun _ _ _ => rfl)
            refine E_hp (h' := U3) hK3.symm (E_appK (k := gs.length) (kx := 1) (p := p) (new := gcells (⟨14, [(r46 : Int)], 0, 0⟩ : G) (((some ⟨U46.length + 0, 0, none⟩, [(r46 : Int)].length) : Pl))) gg3 rfl rfl (by rw [hK3]; show (if 1 * 4 = 0 then some [] else rowGet _ ⟨_, _, none⟩ (1 * 4)) = _; exact rowGet_own (k := 0) rfl) (by decide) (by simp only [roomB]; omega) rfl rfl rfl fun U4 hl4 hg4 hk4 => ?_)
            have og4 : OwnG U4 (H.length + 2) (some ⟨U3.length, 0, none⟩, (gs ++ [(⟨14, [(r46 : Int)], 0, 0⟩ : G)]).length) (gs ++ [(⟨14, [(r46 : Int)], 0, 0⟩ : G)]) := OwnG.add (M := KH0.length) (by omega) ⟨ps, ep, gg3, pp3, ii3⟩ iq3 (ownG_lt og0) (by omega) ps ep ii3 hg4 hk4
            have k4 : ∀ b, b < U3.length → b < H.length + 2 → U4[b]? = U3[b]? := fun b hb hb2 => hk4 b hb fun a ha e => by have := pp3 a ha; omega
            have rz4 := (k4 (H.length + 0) (by omega) (by omega)).trans (k3.row rw46 (fun x => x))
            have rw4 := (k4 (H.length + 1) (by omega) (by omega)).trans (k3.row rw47 (fun x => x))
            have kp4 : Kp (fun b => H.length + 2 ≤ b) V44 U4 := ⟨by omega, fun b hb hn => (k4 b (by omega) (by omega)).trans (k3.keep b hb (fun x => x))⟩
            refine E_fa rfl (E_stX (b := H.length + 1) (o := 0 + 2) (l := [.slice (some ⟨U3.length, 0, none⟩) (gs.length + 1) (gs.length + 1)]) (v := .slice _ _ _) rfl rfl rfl rfl ((congrArg (fun h : Heap => h[H.length + 1]?) (List.append_nil _)).trans rw4) (by simp) rfl rfl fun V eV => ?_)
            have eV2 : V = U4.set (H.length + 1) (CO.row [.int .i64 (w), .int .i64 (bits), .slice (((some ⟨U3.length, 0, none⟩, (gs ++ [(⟨14, [(r46 : Int)], 0, 0⟩ : G)]).length) : Pl)).1 (gs ++ [(⟨14, [(r46 : Int)], 0, 0⟩ : G)]).length (((some ⟨U3.length, 0, none⟩, (gs ++ [(⟨14, [(r46 : Int)], 0, 0⟩ : G)]).length) : Pl)).2] true none) := by rw [eV, List.append_nil]; simp
            have kpV : Kp (fun b => b = H.length + 1) U4 V := by rw [eV2]; exact Kp.set
            have kqV : Kp (fun b => b = s) H V := (kqV44.trans (kp4.trans (S'' := fun b => H.length ≤ b) kpV (fun b _ (x : _ ≤ _) => by omega) (fun b _ (x : _ = _) => by omega)) (fun _ _ x => x) (fun b hb (x : _ ≤ _) => by omega))
            have soV : Sto N V s (k + 1 + 20 * (i + 1)) := ((soV44.kp kp4 (fun b hb (x : _ ≤ _) => by omega)).kp kpV (fun b hb (x : _ = _) => by omega)).mono (by omega)
            have ogV := og4.kp kpV (fun b hb (x : _ = _) => by omega)
            have rzV := kpV.row rz4 (by show ¬ H.length + 0 = H.length + 1; omega)
            have rwV : V[H.length + 1]? = some (CO.row [.int .i64 (w), .int .i64 (bits), .slice (((some ⟨U3.length, 0, none⟩, (gs ++ [(⟨14, [(r46 : Int)], 0, 0⟩ : G)]).length) : Pl)).1 (gs ++ [(⟨14, [(r46 : Int)], 0, 0⟩ : G)]).length (((some ⟨U3.length, 0, none⟩, (gs ++ [(⟨14, [(r46 : Int)], 0, 0⟩ : G)]).length) : Pl)).2] true none) := by rw [eV2, List.getElem?_set_self (List.getElem?_eq_some_iff.1 rw4).1]
            refine E_nil (AX_E (E_addI rfl rfl (by first | omega | (simp; done) | (simp; omega)) (by first | omega | (simp; done) | (simp; omega)) (E_mv (v := .int .i64 (((i : Int) + 1))) rfl (E_nil ?_))))
            refine hN0 (i + 1, gs ++ [(⟨14, [(r46 : Int)], 0, 0⟩ : G)], (some ⟨U3.length, 0, none⟩, (gs ++ [(⟨14, [(r46 : Int)], 0, 0⟩ : G)]).length)) _ _ _ ⟨by first | rfl | (congr 1; omega), by first | rfl | (congr 1; omega), by first | rfl | (congr 1; omega), by first | rfl | (congr 1; omega), by rfl, by rfl, by first | rfl | (congr 1; omega), by rfl, trivial⟩ ⟨?_, ?_⟩ ?_
            -- n2
            all_goals clear hN0 hR0 hE0
            · rw [List.append_nil]
              exact ⟨rfl, kqV, soV, ogV, rzV, rwV⟩
            · refine ⟨by simp; omega, by omega, fun x hx => ?_⟩
              rcases List.mem_append.1 hx with hx | hx
              · exact hg0 x hx
              · simp only [List.mem_singleton] at hx; subst hx; first | exact sg_m hb35 hb39 | exact sg_r hb46 (by omega) | exact sg_up (by omega) hb25 hkk (by omega)
            · (first | omega | (simp; omega))
          · refine E_mv (v := .bool _) rfl (E_nil (AX_condF rfl (AX_seq (AX_E (E_mv (v := .int .i64 (bits)) rfl (E_gtrS rfl rfl (fun c51 => ?_) (fun c51 => ?_)))))))
            · refine E_mv (v := .bool _) rfl (E_on rfl (E_mv (v := .pointer (some ⟨s, 0, none⟩)) rfl (E_on rfl ?_)))
              obtain ⟨r54, U54, hr54, hb54, soU54, kpU54, luU54⟩ := seldom_ret N U43 s _ 4 soU43 (by omega) (by decide)
              have kqU54 : Kp (fun b => b = s) H U54 := kqU43.trans kpU54 (fun _ _ x => x) (fun _ _ x => x)
              have krU54 : Kp (fun b => b = s) KH0 U54 := krU43.trans kpU54 (fun _ _ x => x) (fun _ _ x => x)
              have leU54 : U43.length ≤ U54.length := kpU54.len
              have lhU54 : H.length ≤ U54.length := kqU54.len
              have fk51 : Ints (fun b => (b < N ∧ b ≠ s)) U54 (pk) (kl) := kpU54.ii fk33 (fun b hb => ⟨trivial, fun e => by have h : (b < N ∧ b ≠ s) := hb; have e1 : (b = s) := e; omega⟩)
              have rw52 : U54[H.length + 0]? = some (CO.row [.int .i64 (0), .int .i64 (0), .slice none 0 0] true none) := kpU54.row rw34 (by show ¬ (H.length + 0 = s); omega)
              have rw53 : U54[H.length + 1]? = some (CO.row [.int .i64 (w), .int .i64 (bits), .slice (p).1 (gs).length (p).2] true none) := kpU54.row rw35 (by show ¬ (H.length + 1 = s); omega)
              have fk54 : Ints (fun b => (KH0.length ≤ b ∧ b < U25.length)) U54 (q25) (g25.ws) := kpU54.ii fk36 (fun b hb => ⟨trivial, fun e => by have h : (KH0.length ≤ b ∧ b < U25.length) := hb; have e1 : (b = s) := e; omega⟩)
              have rw55 : U54[(U25).length + 0]? = some (CO.row [.int .i64 (g25.k), .slice (q25).1 (g25.ws).length (q25).2, .int .i64 (g25.b), .int .i64 (g25.f)] true none) := kpU54.row rw37 (by show ¬ ((U25).length + 0 = s); omega)
              refine E_callU rfl hr54 rfl (E_bs (fun c54 => ?_) (fun c54 => ?_))
              · refine E_pickT rfl (v := .bool _) rfl (E_mv (v := .bool _) rfl (E_nil (AX_condT rfl (AX_E (E_mv (v := .pointer (some ⟨s, 0, none⟩)) rfl (E_mv (v := .int .i64 (bits)) rfl ?_))))))
                obtain ⟨r58, U58, hr58, hb58, soU58, kpU58, luU58⟩ := from_ret N U54 s _ 1 bits soU54 (by omega) (by decide) (by omega) (by omega)
                have kqU58 : Kp (fun b => b = s) H U58 := kqU54.trans kpU58 (fun _ _ x => x) (fun _ _ x => x)
                have krU58 : Kp (fun b => b = s) KH0 U58 := krU54.trans kpU58 (fun _ _ x => x) (fun _ _ x => x)
                have leU58 : U54.length ≤ U58.length := kpU58.len
                have lhU58 : H.length ≤ U58.length := kqU58.len
                have fk56 : Ints (fun b => (b < N ∧ b ≠ s)) U58 (pk) (kl) := kpU58.ii fk51 (fun b hb => ⟨trivial, fun e => by have h : (b < N ∧ b ≠ s) := hb; have e1 : (b = s) := e; omega⟩)
                have rw57 : U58[H.length + 0]? = some (CO.row [.int .i64 (0), .int .i64 (0), .slice none 0 0] true none) := kpU58.row rw52 (by show ¬ (H.length + 0 = s); omega)
                have rw58 : U58[H.length + 1]? = some (CO.row [.int .i64 (w), .int .i64 (bits), .slice (p).1 (gs).length (p).2] true none) := kpU58.row rw53 (by show ¬ (H.length + 1 = s); omega)
                have fk59 : Ints (fun b => (KH0.length ≤ b ∧ b < U25.length)) U58 (q25) (g25.ws) := kpU58.ii fk54 (fun b hb => ⟨trivial, fun e => by have h : (KH0.length ≤ b ∧ b < U25.length) := hb; have e1 : (b = s) := e; omega⟩)
                have rw60 : U58[(U25).length + 0]? = some (CO.row [.int .i64 (g25.k), .slice (q25).1 (g25.ws).length (q25).2, .int .i64 (g25.b), .int .i64 (g25.f)] true none) := kpU58.row rw55 (by show ¬ ((U25).length + 0 = s); omega)
                refine E_callU rfl hr58 rfl (E_fa rfl (E_stX (l := [.int .i64 ((r58 : Int))]) (v := .int .i64 ((r58 : Int))) rfl rfl rfl rfl ((congrArg (fun h : Heap => h[(U25).length + 0]?) (List.append_nil _)).trans (rw60)) (by simp) rfl rfl fun V61 hV61 => ?_))
                have eV61 : V61 = U58.set ((U25).length + 0) (CO.row [.int .i64 (g25.k), .slice (q25).1 (g25.ws).length (q25).2, .int .i64 (g25.b), .int .i64 ((r58 : Int))] true none) := by rw [hV61, List.append_nil]; rfl
                have kpV61 : Kp (fun b => b = (U25).length + 0) U58 V61 := by rw [eV61]; exact Kp.set
                have kqV61 : Kp (fun b => b = s) H V61 := kqU58.trans kpV61 (fun _ _ x => x) (fun b hb x => by omega)
                have soV61 : Sto N V61 s (((((((k + 1 + 20 * i) + 1 + w.toNat) + 1) + 1) + 1) + 1)) := soU58.kp kpV61 (fun b hb x => by omega)
                have leV61 : V61.length = U58.length := by rw [eV61]; exact List.length_set
                have ltV61 : (U25).length + 0 < U58.length := (List.getElem?_eq_some_iff.1 (rw60)).1
                have krV61 : Kp (fun b => b = s) KH0 V61 := krU58.trans kpV61 (fun _ _ x => x) (fun b hb x => by omega)
                have fk62 : Ints (fun b => (b < N ∧ b ≠ s)) V61 (pk) (kl) := kpV61.ii fk56 (fun b hb => ⟨trivial, fun e => by have h : (b < N ∧ b ≠ s) := hb; have e1 : (b = (U25).length + 0) := e; omega⟩)
                have rw63 : V61[H.length + 0]? = some (CO.row [.int .i64 (0), .int .i64 (0), .slice none 0 0] true none) := kpV61.row rw57 (by show ¬ (H.length + 0 = (U25).length + 0); omega)
                have rw64 : V61[H.length + 1]? = some (CO.row [.int .i64 (w), .int .i64 (bits), .slice (p).1 (gs).length (p).2] true none) := kpV61.row rw58 (by show ¬ (H.length + 1 = (U25).length + 0); omega)
                have fk65 : Ints (fun b => (KH0.length ≤ b ∧ b < U25.length)) V61 (q25) (g25.ws) := kpV61.ii fk59 (fun b hb => ⟨trivial, fun e => by have h : (KH0.length ≤ b ∧ b < U25.length) := hb; have e1 : (b = (U25).length + 0) := e; omega⟩)
                have rw66 : V61[(U25).length + 0]? = some (CO.row [.int .i64 (g25.k), .slice (q25).1 (g25.ws).length (q25).2, .int .i64 (g25.b), .int .i64 ((r58 : Int))] true none) := by rw [eV61, List.getElem?_set_self ltV61]
                have rw67 : V61[(U25).length + 0]? = some (CO.row [.int .i64 (g25.k), .slice (q25).1 (g25.ws).length (q25).2, .int .i64 (g25.b), .int .i64 ((r58 : Int))] true none) := by rw [eV61, List.getElem?_set_self ltV61]
                refine E_nil (AX_E (E_fa rfl (E_ldB (v := .slice _ _ _) rfl (rowGet_c (j := 2) (rowGet_all rw64 rfl) rfl) (E_ldBN rfl (rowGet_all rw66 rfl) (E_mkS (cs := [.int .i64 (g25.k), .slice (q25).1 (g25.ws).length (q25).2, .int .i64 (g25.b), .int .i64 ((r58 : Int))]) rfl ?_)))))
                obtain ⟨U3, hK3⟩ : ∃ K : Heap, K = V61 ++ [CO.row [.int .i64 (g25.k), .slice (q25).1 (g25.ws).length (q25).2, .int .i64 (g25.b), .int .i64 ((r58 : Int))] true none] := ⟨_, rfl⟩
                have l3 : U3.length = V61.length + 1 := by rw [hK3]; simp
                have lr3 := krV61.len
                have k3 : Kp (fun _ => False) V61 U3 := by rw [hK3]; exact Kp.app
                have og3 : OwnG U3 (H.length + 2) p gs := (og0.kp krV61 (fun b hb e => by omega)).kp k3 (fun _ _ x => x)
                obtain ⟨ps, ep, gg3, pp3, ii3⟩ := og3
                have iq3 : Ints (fun c => KH0.length ≤ c) U3 (q25) ((⟨g25.k, g25.ws, g25.b, (r58 : Int)⟩ : G)).ws := Cells.congr (k3.ii fk65 (fun _ _ => ⟨trivial, fun x => x⟩)) (fun b hb => by have h : (KH0.length ≤ b ∧ b < U25.length) := hb; omega) (fun _ _ _ => rfl)
                refine E_hp (h' := U3) hK3.symm (E_appK (k := gs.length) (kx := 1) (p := p) (new := gcells (⟨g25.k, g25.ws, g25.b, (r58 : Int)⟩ : G) (q25)) gg3 rfl rfl (by rw [hK3]; show (if 1 * 4 = 0 then some [] else rowGet _ ⟨_, _, none⟩ (1 * 4)) = _; exact rowGet_own (k := 0) rfl) (by decide) (by simp only [roomB]; omega) rfl rfl rfl fun U4 hl4 hg4 hk4 => ?_)
                have og4 : OwnG U4 (H.length + 2) (some ⟨U3.length, 0, none⟩, (gs ++ [(⟨g25.k, g25.ws, g25.b, (r58 : Int)⟩ : G)]).length) (gs ++ [(⟨g25.k, g25.ws, g25.b, (r58 : Int)⟩ : G)]) := OwnG.add (M := KH0.length) (by omega) ⟨ps, ep, gg3, pp3, ii3⟩ iq3 (ownG_lt og0) (by omega) ps ep ii3 hg4 hk4
                have k4 : ∀ b, b < U3.length → b < H.length + 2 → U4[b]? = U3[b]? := fun b hb hb2 => hk4 b hb fun a ha e => by have := pp3 a ha; omega
                have rz4 := (k4 (H.length + 0) (by omega) (by omega)).trans (k3.row rw63 (fun x => x))
                have rw4 := (k4 (H.length + 1) (by omega) (by omega)).trans (k3.row rw64 (fun x => x))
                have kp4 : Kp (fun b => H.length + 2 ≤ b) V61 U4 := ⟨by omega, fun b hb hn => (k4 b (by omega) (by omega)).trans (k3.keep b hb (fun x => x))⟩
                refine E_fa rfl (E_stX (b := H.length + 1) (o := 0 + 2) (l := [.slice (some ⟨U3.length, 0, none⟩) (gs.length + 1) (gs.length + 1)]) (v := .slice _ _ _) rfl rfl rfl rfl ((congrArg (fun h : Heap => h[H.length + 1]?) (List.append_nil _)).trans rw4) (by simp) rfl rfl fun V eV => ?_)
                have eV2 : V = U4.set (H.length + 1) (CO.row [.int .i64 (w), .int .i64 (bits), .slice (((some ⟨U3.length, 0, none⟩, (gs ++ [(⟨g25.k, g25.ws, g25.b, (r58 : Int)⟩ : G)]).length) : Pl)).1 (gs ++ [(⟨g25.k, g25.ws, g25.b, (r58 : Int)⟩ : G)]).length (((some ⟨U3.length, 0, none⟩, (gs ++ [(⟨g25.k, g25.ws, g25.b, (r58 : Int)⟩ : G)]).length) : Pl)).2] true none) := by rw [eV, List.append_nil]; simp
                have kpV : Kp (fun b => b = H.length + 1) U4 V := by rw [eV2]; exact Kp.set
                have kqV : Kp (fun b => b = s) H V := (kqV61.trans (kp4.trans (S'' := fun b => H.length ≤ b) kpV (fun b _ (x : _ ≤ _) => by omega) (fun b _ (x : _ = _) => by omega)) (fun _ _ x => x) (fun b hb (x : _ ≤ _) => by omega))
                have soV : Sto N V s (k + 1 + 20 * (i + 1)) := ((soV61.kp kp4 (fun b hb (x : _ ≤ _) => by omega)).kp kpV (fun b hb (x : _ = _) => by omega)).mono (by omega)
                have ogV := og4.kp kpV (fun b hb (x : _ = _) => by omega)
                have rzV := kpV.row rz4 (by show ¬ H.length + 0 = H.length + 1; omega)
                have rwV : V[H.length + 1]? = some (CO.row [.int .i64 (w), .int .i64 (bits), .slice (((some ⟨U3.length, 0, none⟩, (gs ++ [(⟨g25.k, g25.ws, g25.b, (r58 : Int)⟩ : G)]).length) : Pl)).1 (gs ++ [(⟨g25.k, g25.ws, g25.b, (r58 : Int)⟩ : G)]).length (((some ⟨U3.length, 0, none⟩, (gs ++ [(⟨g25.k, g25.ws, g25.b, (r58 : Int)⟩ : G)]).length) : Pl)).2] true none) := by rw [eV2, List.getElem?_set_self (List.getElem?_eq_some_iff.1 rw4).1]
                refine E_nil (AX_E (E_addI rfl rfl (by first | omega | (simp; done) | (simp; omega)) (by first | omega | (simp; done) | (simp; omega)) (E_mv (v := .int .i64 (((i : Int) + 1))) rfl (E_nil ?_))))
                refine hN0 (i + 1, gs ++ [(⟨g25.k, g25.ws, g25.b, (r58 : Int)⟩ : G)], (some ⟨U3.length, 0, none⟩, (gs ++ [(⟨g25.k, g25.ws, g25.b, (r58 : Int)⟩ : G)]).length)) _ _ _ ⟨by first | rfl | (congr 1; omega), by first | rfl | (congr 1; omega), by first | rfl | (congr 1; omega), by first | rfl | (congr 1; omega), by rfl, by rfl, by first | rfl | (congr 1; omega), by rfl, trivial⟩ ⟨?_, ?_⟩ ?_
                -- n3
                all_goals clear hN0 hR0 hE0
                · rw [List.append_nil]
                  exact ⟨rfl, kqV, soV, ogV, rzV, rwV⟩
                · refine ⟨by simp; omega, by omega, fun x hx => ?_⟩
                  rcases List.mem_append.1 hx with hx | hx
                  · exact hg0 x hx
                  · simp only [List.mem_singleton] at hx; subst hx; first | exact sg_m hb35 hb39 | exact sg_r hb46 (by omega) | exact sg_up (by omega) hb25 hkk (by omega)
                · (first | omega | (simp; omega))
              · refine E_pickT rfl (v := .bool _) rfl (E_mv (v := .bool _) rfl (E_nil (AX_condF rfl (AX_skip (AX_E (E_fa rfl (E_ldB (v := .slice _ _ _) rfl (rowGet_c (j := 2) (rowGet_all rw53 rfl) rfl) (E_ldBN rfl (rowGet_all rw55 rfl) (E_mkS (cs := [.int .i64 (g25.k), .slice (q25).1 (g25.ws).length (q25).2, .int .i64 (g25.b), .int .i64 (g25.f)]) rfl ?_)))))))))
                obtain ⟨U3, hK3⟩ : ∃ K : Heap, K = U54 ++ [CO.row [.int .i64 (g25.k), .slice (q25).1 (g25.ws).length (q25).2, .int .i64 (g25.b), .int .i64 (g25.f)] true none] := ⟨_, rfl⟩
                have l3 : U3.length = U54.length + 1 := by rw [hK3]; simp
                have lr3 := krU54.len
                have k3 : Kp (fun _ => False) U54 U3 := by rw [hK3]; exact Kp.app
                have og3 : OwnG U3 (H.length + 2) p gs := (og0.kp krU54 (fun b hb e => by omega)).kp k3 (fun _ _ x => x)
                obtain ⟨ps, ep, gg3, pp3, ii3⟩ := og3
                have iq3 : Ints (fun c => KH0.length ≤ c) U3 (q25) ((⟨g25.k, g25.ws, g25.b, g25.f⟩ : G)).ws := Cells.congr (k3.ii fk54 (fun _ _ => ⟨trivial, fun x => x⟩)) (fun b hb => by have h : (KH0.length ≤ b ∧ b < U25.length) := hb; omega) (fun _ _ _ => rfl)
                refine E_hp (h' := U3) hK3.symm (E_appK (k := gs.length) (kx := 1) (p := p) (new := gcells (⟨g25.k, g25.ws, g25.b, g25.f⟩ : G) (q25)) gg3 rfl rfl (by rw [hK3]; show (if 1 * 4 = 0 then some [] else rowGet _ ⟨_, _, none⟩ (1 * 4)) = _; exact rowGet_own (k := 0) rfl) (by decide) (by simp only [roomB]; omega) rfl rfl rfl fun U4 hl4 hg4 hk4 => ?_)
                have og4 : OwnG U4 (H.length + 2) (some ⟨U3.length, 0, none⟩, (gs ++ [(⟨g25.k, g25.ws, g25.b, g25.f⟩ : G)]).length) (gs ++ [(⟨g25.k, g25.ws, g25.b, g25.f⟩ : G)]) := OwnG.add (M := KH0.length) (by omega) ⟨ps, ep, gg3, pp3, ii3⟩ iq3 (ownG_lt og0) (by omega) ps ep ii3 hg4 hk4
                have k4 : ∀ b, b < U3.length → b < H.length + 2 → U4[b]? = U3[b]? := fun b hb hb2 => hk4 b hb fun a ha e => by have := pp3 a ha; omega
                have rz4 := (k4 (H.length + 0) (by omega) (by omega)).trans (k3.row rw52 (fun x => x))
                have rw4 := (k4 (H.length + 1) (by omega) (by omega)).trans (k3.row rw53 (fun x => x))
                have kp4 : Kp (fun b => H.length + 2 ≤ b) U54 U4 := ⟨by omega, fun b hb hn => (k4 b (by omega) (by omega)).trans (k3.keep b hb (fun x => x))⟩
                refine E_fa rfl (E_stX (b := H.length + 1) (o := 0 + 2) (l := [.slice (some ⟨U3.length, 0, none⟩) (gs.length + 1) (gs.length + 1)]) (v := .slice _ _ _) rfl rfl rfl rfl ((congrArg (fun h : Heap => h[H.length + 1]?) (List.append_nil _)).trans rw4) (by simp) rfl rfl fun V eV => ?_)
                have eV2 : V = U4.set (H.length + 1) (CO.row [.int .i64 (w), .int .i64 (bits), .slice (((some ⟨U3.length, 0, none⟩, (gs ++ [(⟨g25.k, g25.ws, g25.b, g25.f⟩ : G)]).length) : Pl)).1 (gs ++ [(⟨g25.k, g25.ws, g25.b, g25.f⟩ : G)]).length (((some ⟨U3.length, 0, none⟩, (gs ++ [(⟨g25.k, g25.ws, g25.b, g25.f⟩ : G)]).length) : Pl)).2] true none) := by rw [eV, List.append_nil]; simp
                have kpV : Kp (fun b => b = H.length + 1) U4 V := by rw [eV2]; exact Kp.set
                have kqV : Kp (fun b => b = s) H V := (kqU54.trans (kp4.trans (S'' := fun b => H.length ≤ b) kpV (fun b _ (x : _ ≤ _) => by omega) (fun b _ (x : _ = _) => by omega)) (fun _ _ x => x) (fun b hb (x : _ ≤ _) => by omega))
                have soV : Sto N V s (k + 1 + 20 * (i + 1)) := ((soU54.kp kp4 (fun b hb (x : _ ≤ _) => by omega)).kp kpV (fun b hb (x : _ = _) => by omega)).mono (by omega)
                have ogV := og4.kp kpV (fun b hb (x : _ = _) => by omega)
                have rzV := kpV.row rz4 (by show ¬ H.length + 0 = H.length + 1; omega)
                have rwV : V[H.length + 1]? = some (CO.row [.int .i64 (w), .int .i64 (bits), .slice (((some ⟨U3.length, 0, none⟩, (gs ++ [(⟨g25.k, g25.ws, g25.b, g25.f⟩ : G)]).length) : Pl)).1 (gs ++ [(⟨g25.k, g25.ws, g25.b, g25.f⟩ : G)]).length (((some ⟨U3.length, 0, none⟩, (gs ++ [(⟨g25.k, g25.ws, g25.b, g25.f⟩ : G)]).length) : Pl)).2] true none) := by rw [eV2, List.getElem?_set_self (List.getElem?_eq_some_iff.1 rw4).1]
                refine E_nil (AX_E (E_addI rfl rfl (by first | omega | (simp; done) | (simp; omega)) (by first | omega | (simp; done) | (simp; omega)) (E_mv (v := .int .i64 (((i : Int) + 1))) rfl (E_nil ?_))))
                refine hN0 (i + 1, gs ++ [(⟨g25.k, g25.ws, g25.b, g25.f⟩ : G)], (some ⟨U3.length, 0, none⟩, (gs ++ [(⟨g25.k, g25.ws, g25.b, g25.f⟩ : G)]).length)) _ _ _ ⟨by first | rfl | (congr 1; omega), by first | rfl | (congr 1; omega), by first | rfl | (congr 1; omega), by first | rfl | (congr 1; omega), by rfl, by rfl, by first | rfl | (congr 1; omega), by rfl, trivial⟩ ⟨?_, ?_⟩ ?_
                -- n4
                all_goals clear hN0 hR0 hE0
                · rw [List.append_nil]
                  exact ⟨rfl, kqV, soV, ogV, rzV, rwV⟩
                · refine ⟨by simp; omega, by omega, fun x hx => ?_⟩
                  rcases List.mem_append.1 hx with hx | hx
                  · exact hg0 x hx
                  · simp only [List.mem_singleton] at hx; subst hx; first | exact sg_m hb35 hb39 | exact sg_r hb46 (by omega) | exact sg_up (by omega) hb25 hkk (by omega)
                · (first | omega | (simp; omega))
            · omega
      · omega
    · refine E_nil (AX_seq (AX_condF rfl (AX_exit (hE0 _ _ _ _ (AX_seq (AX_E (E_ldBN rfl (rowGet_all rw0 rfl) (E_stX (l := [.int .i64 (w), .int .i64 (bits), .slice (p).1 (gs).length (p).2]) (v := .agg _) rfl rfl rfl rfl ((congrArg (fun h : Heap => h[H.length + 0]?) (List.append_nil _)).trans (rz0)) (by simp) rfl rfl fun V68 hV68 => ?_))))))))
      have eV68 : V68 = KH0.set (H.length + 0) (CO.row [.int .i64 (w), .int .i64 (bits), .slice (p).1 (gs).length (p).2] true none) := by rw [hV68, List.append_nil]; rfl
      have kpV68 : Kp (fun b => b = H.length + 0) KH0 V68 := by rw [eV68]; exact Kp.set
      have kqV68 : Kp (fun b => b = s) H V68 := kqKH0.trans kpV68 (fun _ _ x => x) (fun b hb x => by omega)
      have soV68 : Sto N V68 s ((k + 1 + 20 * i)) := soKH0.kp kpV68 (fun b hb x => by omega)
      have leV68 : V68.length = KH0.length := by rw [eV68]; exact List.length_set
      have ltV68 : H.length + 0 < KH0.length := (List.getElem?_eq_some_iff.1 (rz0)).1
      have fk69 : Ints (fun b => (b < N ∧ b ≠ s)) V68 (pk) (kl) := kpV68.ii fkl0 (fun b hb => ⟨trivial, fun e => by have h : (b < N ∧ b ≠ s) := hb; have e1 : (b = H.length + 0) := e; omega⟩)
      have rw70 : V68[H.length + 0]? = some (CO.row [.int .i64 (w), .int .i64 (bits), .slice (p).1 (gs).length (p).2] true none) := by rw [eV68, List.getElem?_set_self ltV68]
      have rw71 : V68[H.length + 1]? = some (CO.row [.int .i64 (w), .int .i64 (bits), .slice (p).1 (gs).length (p).2] true none) := kpV68.row rw0 (by show ¬ (H.length + 1 = H.length + 0); omega)
      refine E_nil (AX_ret ?_)
      simp only [List.append_nil, List.foldl_nil]
      refine ⟨_, res_x rfl rw70 rfl, by simp, ?_⟩
      have ogE := og0.kp kpV68 (fun b hb (x : _ = _) => by omega)
      refine ⟨gs, p, rfl, ⟨by omega, hg0⟩, ?_⟩
      unfold forget
      split
      · rename_i hf
        have hn : gs = [] ∧ p = (none, 0) := ownG_flat og0 hf.1
        rw [hn.1, hn.2]
        exact ⟨Gates.nil, (soV68.pre hf.2 hNH).mono (by omega), kqH⟩
      · refine ⟨?_, soV68.mono (by omega), kqV68⟩
        obtain ⟨ps, e, a, b⟩ := ogE.gates
        exact ⟨ps, e, Cells.congr a (fun b hb => by have : H.length + 2 ≤ b := hb; omega) (fun _ _ _ => rfl), fun i h1 h2 => Cells.congr (b i h1 h2) (fun b hb => by have : H.length + 2 ≤ b := hb; omega) (fun _ _ _ => rfl)⟩
  obtain ⟨n, v, u, hr, g, q, rfl, h⟩ := key
  exact ⟨g, q, u, ⟨n, hr⟩, h⟩
end Go.Canon
namespace Go.Canon
open Go Go.Proofs
set_option linter.unusedVariables false
set_option linter.unusedSimpArgs false
def kf247 : KFunc := ⟨1, 8, [.tmp 2], .seq (.reg [⟨some 2, .mv (.c (.slice none 0 0)), none⟩] []) (.seq (.seq (.reg [⟨some 3, .mv (.t 0), none⟩, ⟨some 4, .eqN false 0 (.t 3), none⟩] []) (.cond (.t 4) (.seq (.reg [⟨some 2, .mv (.c (.slice none 0 0)), none⟩] []) .ret) .skip)) (.seq (.reg [⟨some 5, .mkS [] 0 [], none⟩, ⟨some 6, .mv (.t 0), none⟩, ⟨some 7, .app (.t 5) (.t 6) 1 1, none⟩, ⟨some 2, .mv (.t 7), none⟩] []) .ret))⟩
theorem k247 : tab Tryd.prog 47 = some kf247 := by kernel_rfl
def kf210 : KFunc := ⟨1, 11, [.tmp 2], .seq (.reg [⟨some 2, .mv (.c (.pointer none)), none⟩] []) (.seq (.reg [⟨some 3, .mv (.t 0), none⟩, ⟨some 4, .mv (.t 0), none⟩, ⟨some 5, .len (.t 4), none⟩, ⟨some 6, .mn [.t 5, .c (.int .i64 300)], none⟩, ⟨some 7, .slS (.t 3) none (some (.t 6)) none 1, none⟩, ⟨some 8, .call (.c (.func (.func 47) #[] #[])) [.t 7], none⟩, ⟨some 9, .mk [.slice none 0 0, .int .i64 0, .int .u32 0] [(0, 1, .t 8), (2, 1, .c (.int .u32 2463534242))], none⟩, ⟨some 10, .box (.t 9), none⟩, ⟨some 2, .mv (.t 10), none⟩] []) .ret)⟩
theorem k210 : tab Tryd.prog 10 = some kf210 := by kernel_rfl
def kf209 : KFunc := ⟨2, 17, [.cell 4 (some 3)], .seq (.reg [⟨some 4, .new [.int .i64 0, .int .i64 0, .slice none 0 0], none⟩] []) (.seq (.reg [⟨some 6, .mv (.t 0), none⟩, ⟨some 7, .call (.c (.func (.func 20) #[] #[])) [.t 6, .c (.int .i64 1), .c (.int .i64 4)], none⟩, ⟨some 5, .mv (.t 7), none⟩] []) (.seq (.seq (.reg [⟨some 8, .mv (.t 1), none⟩] []) (.cond (.t 8) (.seq (.reg [⟨some 9, .mv (.t 0), none⟩, ⟨some 10, .mv (.t 5), none⟩, ⟨some 11, .ld (.c (.pointer (some ⟨0, 0, none⟩))) none, none⟩, ⟨some 12, .call (.c (.func (.func 21) #[] #[])) [.t 9, .t 10, .c (.int .i64 14), .t 11], none⟩, ⟨none, .st (.t 4) (.t 12) 3, none⟩] []) .ret) .skip)) (.seq (.reg [⟨some 13, .mv (.t 0), none⟩, ⟨some 14, .mv (.t 5), none⟩, ⟨some 15, .ld (.c (.pointer (some ⟨0, 0, none⟩))) none, none⟩, ⟨some 16, .call (.c (.func (.func 46) #[] #[])) [.t 13, .t 14, .c (.int .i64 2), .c (.int .i64 14), .t 15], none⟩, ⟨none, .st (.t 4) (.t 16) 3, none⟩] []) .ret)))⟩
theorem k209 : tab Tryd.prog 9 = some kf209 := by kernel_rfl
/-- A list of bytes. -/
def Byts (S : Nat → Prop) (h : Heap) (p : Pl) (l : List Int) : Prop := Cells S h 1 p l.length (l.map (.int .u8 ·))
theorem clone8_ret (H : Heap) (p : Pl) (l : List Int) {S : Nat → Prop} (hv : Byts S H p l) (hl : l.length < 4294967296) : ∃ X q, Ret (tab Tryd.prog) 47 [.slice p.1 l.length p.2] H (.slice q.1 l.length q.2) (H ++ X) ∧ Byts (fun b => H.length ≤ b) (H ++ X) q l := by
  have key := Ret_grow (T := tab Tryd.prog) (f := 47) (args := [.slice p.1 l.length p.2]) (h := H) (fun u X => ∃ q : Pl, u = .slice q.1 l.length q.2 ∧ Byts (fun b => H.length ≤ b) (H ++ X) q l) k247 rfl ?_
  · obtain ⟨u, X, hr, q, rfl, f1⟩ := key
    exact ⟨X, q, hr, f1⟩
  refine AX_seq (AX_E (E_mv (v := .slice _ _ _) rfl (E_nil (AX_seq (AX_seq (AX_E (E_mv (v := .slice _ _ _) rfl (E_eqN (b := (p).1.isNone) rfl (E_bs (fun c4 => ?_) (fun c4 => ?_))))))))))
  · refine E_nil (AX_condT rfl (AX_seq (AX_E (E_mv (v := .slice _ _ _) rfl (E_nil (AX_ret ?_))))))
    have hp : p.1 = none := by simpa using c4
    have hl0 : l = [] := by
      obtain ⟨h1, h2, ⟨h3, h4⟩ | ⟨b, o, cs, wr, gr, e1, _⟩⟩ := hv
      · exact List.length_eq_zero_iff.1 (by omega)
      · rw [hp] at e1; cases e1
    subst hl0
    refine ⟨_, rfl, by simp, [], forget_nil rfl (List.prefix_append _ _), (none, 0), rfl, ?_⟩
    exact ⟨rfl, Nat.le_refl _, .inl ⟨rfl, rfl⟩⟩
  · refine E_nil (AX_condF rfl (AX_skip (AX_seq (AX_E (E_mkS (cs := []) rfl (E_mv (v := .slice _ _ _) rfl (E_app0 (k := 0) rfl rfl rfl (Cells.first (Cells.app hv)) (by simp only [roomB]; omega) (by simp) fun W q hW => (E_mv (v := .slice _ _ _) rfl (E_nil (AX_ret ?_))))))))))
    have hq : q.1 ≠ none := by rcases hW with ⟨_, rfl, _⟩ | ⟨_, rfl, _⟩ <;> simp
    refine ⟨_, rfl, by simp, _, forget_more (v := .slice q.1 l.length q.2) (by rcases h : flat2 (.slice q.1 l.length q.2); rfl; exact (hq (sl_flat h)).elim), q, rfl, ?_⟩
    rcases hW with ⟨h0, rfl, rfl⟩ | ⟨_, rfl, rfl⟩
    · have : l = [] := List.length_eq_zero_iff.1 h0
      rw [this]
      exact ⟨rfl, by simp, .inr ⟨H.length + 0, 0, [], true, none, rfl, by simp, by simp, .inl rfl, .inl rfl⟩⟩
    · exact ⟨by simp, by simp, .inr ⟨H.length + 1, 0, l.map (.int .u8 ·), true, some 1, rfl, by simp, by simp, .inr rfl, .inr ⟨by simp, by rw [List.drop_zero, List.take_of_length_le (by simp)]⟩⟩⟩
section
variable {B : Nat → Prop} {T : Nat → Option KFunc} {fi : FI} {prs : List (Nat × Nat)} {i : Nat} {d : Option Nat} {r : List KOper} {fr : Nat → Value} {h u : Heap} {m : List Nat} {K : (Nat → Value) → Heap → List Nat → Prop}
theorem E_mn2 {x y : KO} {a b : Int} (hx : x.ev fr = .int .i64 a) (hy : y.ev fr = .int .i64 b) (H : AE B T fi prs (i + 1) r (put fr d (.int .i64 (if b < a then b else a))) h m K) : AE B T fi prs i (⟨d, .mn [x, y], none⟩ :: r) fr h m K := by
  refine E_no ?_ H
  simp [kop, hx, hy, ints, asI64, least]
end
theorem byts_take {S : Nat → Prop} {h : Heap} {p : Pl} {l : List Int} (H : Byts S h p l) (k : Nat) : Byts S h p (l.take k) := by
  have := Cells.take H (j := (l.take k).length) (by simp; omega)
  rwa [show (l.map (Value.int .u8 ·)).take ((l.take k).length * 1) = (l.take k).map (.int .u8 ·) by rw [Nat.mul_one, List.map_take, List.length_take, ← List.take_take, List.take_of_length_le (l := l.map _) (by simp)]] at this
theorem rowGet_lt' {h : Heap} {a : Addr} {n : Nat} {l : List Value} (H : rowGet h a n = some l) : a.block < h.length := by
  unfold rowGet at H
  split at H
  · rename_i hr; exact (List.getElem?_eq_some_iff.1 hr).1
  · cases H
theorem byts_sb {S : Nat → Prop} {h X : Heap} {q : Pl} {l : List Int} (H : Byts S h q l) : SB (h ++ X).length (h ++ X) h.length q l := by
  intro j hj
  obtain ⟨b, o, e, hr⟩ := Cells.row H (j := j) (k := 1) (by decide) (by omega)
  have hb := rowGet_lt' hr
  have hb : b < h.length := hb
  refine ⟨b, o, l[j], e, by omega, by simp; omega, ?_⟩
  rw [rowGet_base hr]
  congr 1
  rw [List.drop_eq_getElem_cons (by simpa using hj)]
  simp
theorem sof_ret (H : Heap) (p : Pl) (l : List Int) {S : Nat → Prop} (hv : Byts S H p l) (hl : l.length < 9223372036854775808) : ∃ (s : Nat) (X : Heap), Ret (tab Tryd.prog) 10 [.slice p.1 l.length p.2] H (.pointer (some ⟨s, 0, none⟩)) (H ++ X) ∧ H.length ≤ s ∧ Sto (H ++ X).length (H ++ X) s 0 := by
  have key := Ret_grow (T := tab Tryd.prog) (f := 10) (args := [.slice p.1 l.length p.2]) (h := H) (fun u X => ∃ s : Nat, u = .pointer (some ⟨s, 0, none⟩) ∧ H.length ≤ s ∧ Sto (H ++ X).length (H ++ X) s 0) k210 rfl ?_
  · obtain ⟨u, X, hr, s, rfl, f1⟩ := key
    exact ⟨s, X, hr, f1⟩
  refine AX_seq (AX_E (E_mv (v := .pointer none) rfl (E_nil (AX_seq (AX_E (E_mv (v := .slice _ _ _) rfl (E_mv (v := .slice _ _ _) rfl (E_len (n := (l).length) rfl (E_mn2 rfl rfl (E_slHi (j := (l.take 300).length) rfl (Cells.app hv) rfl (by rw [List.length_take]; split <;> omega) (by simp; omega) ?_))))))))))
  obtain ⟨X8, q8, hr8, f8⟩ := clone8_ret (H ++ []) p (l.take 300) (byts_take (Cells.app hv) 300) (by simp; omega)
  refine E_callX (X := X8) rfl (hr8) (E_mk (cs := [.slice q8.1 (l.take 300).length q8.2, .int .i64 (0), .int .u32 (2463534242)]) rfl (E_boxA rfl (E_mv (v := .pointer _) rfl (E_nil (AX_ret ?_)))))
  have f8 := f8
  rw [List.append_nil] at f8
  refine ⟨_, rfl, by simp, X8 ++ [CO.row [.slice q8.1 (l.take 300).length q8.2, .int .i64 (0), .int .u32 (2463534242)] true none], ?_, (H ++ X8).length, ?_, by simp, ?_⟩
  · rw [forget_more rfl]; simp
  · show Value.pointer (some ⟨(H ++ ([] ++ X8)).length + 0, 0, none⟩) = _; simp
  · rw [← List.append_assoc]
    exact ⟨by simp, Nat.le_refl _, q8, l.take 300, 0, 2463534242, by rw [List.getElem?_append_right (Nat.le_refl _)]; simp, byts_sb f8, by decide, by decide, ⟨by decide, by decide⟩, by simp; omega⟩
theorem forget_or {h u : Heap} {v : Value} : forget h v u = u ∨ (flat2 v = true ∧ h <+: u ∧ forget h v u = h) := by
  unfold forget
  split
  · rename_i hh; exact .inr ⟨hh.1, hh.2, rfl⟩
  · exact .inl rfl
theorem gates_flat {S : Nat → Prop} {h : Heap} {p : Pl} {gs : List G} {w b : Int} (H : Gates S h p gs) (hf : flat2 (.agg #[.int .i64 w, .int .i64 b, .slice p.1 gs.length p.2]) = true) : gs = [] ∧ p = (none, 0) := by
  obtain ⟨ps, e, ⟨_, h2, ⟨h3, h4⟩ | ⟨b', o, cs, wr, gr, e1, _⟩⟩, _⟩ := H
  · exact ⟨List.length_eq_zero_iff.1 (by omega), by rw [← h3, ← h4]⟩
  · rw [e1] at hf; exact absurd hf (by simp [flat2, flat1, flat0])
theorem steered_ret (N : Nat) (H : Heap) (s k : Nat) (pl : Bool) (pk : Pl) (kl : List Int) (hs : Sto N H s k) (hk : k < 4611686018427360000) (hg : rowGet H ⟨0, 0, none⟩ 1 = some [.slice pk.1 kl.length pk.2]) (h0 : 0 < N ∧ 0 ≠ s) (hkl : Ints (fun b => b < N ∧ b ≠ s) H pk kl) (hne : 0 < kl.length ∧ kl.length < 100) (hkk : ∀ x ∈ kl, 1 ≤ x ∧ x ≤ 12) (h1 : arityM (kl[0]'hne.1) = 1) :
    ∃ (c : C) (q : Pl) (u : Heap), Ret (tab Tryd.prog) 9 [.pointer (some ⟨s, 0, none⟩), .bool pl] H (cv c q) u ∧ (checkM c = 0 ∧ c.w ≤ 4 ∧ c.b ≤ 2 ∧ c.gs.length ≤ 14) ∧ Gates (fun b => H.length ≤ b) u q c.gs ∧ Sto N u s (k + 4000) ∧ Kp (fun b => b = s) H u := by
  have key : ACall (tab Tryd.prog) 9 [.pointer (some ⟨s, 0, none⟩), .bool pl] H fun v u => ∃ (c : C) (q : Pl), v = cv c q ∧ (checkM c = 0 ∧ c.w ≤ 4 ∧ c.b ≤ 2 ∧ c.gs.length ≤ 14) ∧ Gates (fun b => H.length ≤ b) u q c.gs ∧ Sto N u s (k + 4000) ∧ Kp (fun b => b = s) H u := by
    have kqH : Kp (fun b => b = s) H H := ⟨Nat.le_refl _, fun _ _ _ => rfl⟩
    have soH := hs
    have hsN := hs.1
    have hNH := hs.2.1
    refine ACall_ownR k209 rfl ?_
    refine AX_seq (AX_E (E_new (E_nil (AX_seq (AX_E (E_mv (v := .pointer (some ⟨s, 0, none⟩)) rfl ?_))))))
    obtain ⟨K1, hK1⟩ : ∃ K : Heap, K = H ++ ([CO.row [.int .i64 (0), .int .i64 (0), .slice none 0 0] true none] ++ []) := ⟨_, rfl⟩
    have lK1 : H.length + 1 ≤ K1.length := by rw [hK1]; simp only [List.length_append, List.length_cons, List.length_nil]; omega
    have pK1 : H <+: K1 := by rw [hK1]; exact List.prefix_append _ _
    have soK1 : Sto N K1 s (k) := soH.kp (S := fun _ => False) (by rw [hK1]; exact Kp.app) (fun b _ h => h)
    have kqK1 : Kp (fun b => b = s) H K1 := kqH.trans (S' := fun _ => False) (by rw [hK1]; exact Kp.app) (fun _ _ x => x) (fun _ _ x => x.elim)
    obtain ⟨r7, U7, hr7, hb7, soU7, kpU7, luU7⟩ := from_ret N K1 s k 1 4 soK1 (by omega) (by decide) (by decide) (by decide)
    have kqU7 : Kp (fun b => b = s) H U7 := kqK1.trans kpU7 (fun _ _ x => x) (fun _ _ x => x)
    have leU7 : K1.length ≤ U7.length := kpU7.len
    have lhU7 : H.length ≤ U7.length := kqU7.len
    have rw2 : U7[(H).length + 0]? = some (CO.row [.int .i64 (0), .int .i64 (0), .slice none 0 0] true none) := kpU7.row (get_own hK1 (k := 0) rfl) (by show ¬ ((H).length + 0 = s); omega)
    refine E_hp (h' := K1 ++ []) (((List.append_nil _).symm.trans (congrArg (fun x : Heap => (H ++ x) ++ []) (List.append_nil _).symm)).trans (congrArg (fun x : Heap => x ++ []) hK1.symm)) (E_callU rfl hr7 rfl (E_mv (v := .int .i64 ((r7 : Int))) rfl (E_nil (AX_seq (AX_seq (AX_E (E_mv (v := .bool _) rfl (E_bs (fun c8 => ?_) (fun c8 => ?_)))))))))
    · refine E_nil (AX_condT rfl (AX_seq (AX_E (E_mv (v := .pointer (some ⟨s, 0, none⟩)) rfl (E_mv (v := .int .i64 ((r7 : Int))) rfl (E_ldB (v := .slice _ _ _) rfl ((rowGet_ne (kqU7.keep 0 (by omega) h0.2)).trans hg) ?_))))))
      obtain ⟨gs12, q12, U12, hr12, hb12, ga12, soU12, kpU12⟩ := scirc_ret N U7 s _ r7 14 pk kl soU7 (by omega) (by omega) (by decide) (kqU7.ii hkl (fun b hb => ⟨trivial, hb.2⟩)) hne hkk h1
      have kqU12 : Kp (fun b => b = s) H U12 := kqU7.trans kpU12 (fun _ _ x => x) (fun _ _ x => x)
      have leU12 : U7.length ≤ U12.length := kpU12.len
      have lhU12 : H.length ≤ U12.length := kqU12.len
      have rw3 : U12[(H).length + 0]? = some (CO.row [.int .i64 (0), .int .i64 (0), .slice none 0 0] true none) := kpU12.row rw2 (by show ¬ ((H).length + 0 = s); omega)
      have fk4 : Ints (fun b => (b < N ∧ b ≠ s)) U12 (pk) (kl) := kpU12.ii (kqU7.ii hkl (fun b hb => ⟨trivial, hb.2⟩)) (fun b hb => ⟨trivial, fun e => by have h : (b < N ∧ b ≠ s) := hb; have e1 : (b = s) := e; omega⟩)
      refine E_callU rfl hr12 rfl (E_stX (l := [.int .i64 ((r7 : Int)), .int .i64 (0), .slice (q12).1 (gs12).length (q12).2]) (v := .agg _) rfl rfl rfl rfl ((congrArg (fun h : Heap => h[(H).length + 0]?) (List.append_nil _)).trans (rw3)) (by simp) rfl rfl fun V5 hV5 => ?_)
      have eV5 : V5 = U12.set ((H).length + 0) (CO.row [.int .i64 ((r7 : Int)), .int .i64 (0), .slice (q12).1 (gs12).length (q12).2] true none) := by rw [hV5, List.append_nil]; rfl
      have kpV5 : Kp (fun b => b = (H).length + 0) U12 V5 := by rw [eV5]; exact Kp.set
      have kqV5 : Kp (fun b => b = s) H V5 := kqU12.trans kpV5 (fun _ _ x => x) (fun b hb x => by omega)
      have soV5 : Sto N V5 s (((k + 1) + 3000)) := soU12.kp kpV5 (fun b hb x => by omega)
      have leV5 : V5.length = U12.length := by rw [eV5]; exact List.length_set
      have ltV5 : (H).length + 0 < U12.length := (List.getElem?_eq_some_iff.1 (rw3)).1
      have fk7 : Gates (fun b => (U7.length ≤ b)) V5 (q12) (gs12) := kpV5.ga ga12 (fun b hb => ⟨trivial, fun e => by have h : (U7.length ≤ b) := hb; have e1 : (b = (H).length + 0) := e; omega⟩)
      have rw6 : V5[(H).length + 0]? = some (CO.row [.int .i64 ((r7 : Int)), .int .i64 (0), .slice (q12).1 (gs12).length (q12).2] true none) := by rw [eV5, List.getElem?_set_self ltV5]
      have fk8 : Ints (fun b => (b < N ∧ b ≠ s)) V5 (pk) (kl) := kpV5.ii fk4 (fun b hb => ⟨trivial, fun e => by have h : (b < N ∧ b ≠ s) := hb; have e1 : (b = (H).length + 0) := e; omega⟩)
      refine E_nil (AX_ret ?_)
      simp only [List.append_nil, List.foldl_nil]
      refine ⟨_, res_x rfl rw6 rfl, by simp, ?_⟩
      refine ⟨⟨r7, 0, gs12⟩, q12, rfl, ⟨checkM_of (by omega) (by decide) (by have := hb12.1; omega) (fun g hg => (hb12.2 g hg).1), by show (r7 : Int) ≤ 4; omega, by show (0 : Int) ≤ 2; decide, by have := hb12.1; show gs12.length ≤ 14; omega⟩, ?_⟩
      rcases forget_or (h := H) (u := V5) (v := .agg #[.int .i64 ((r7 : Int)), .int .i64 (0), .slice (q12).1 (gs12).length (q12).2]) with e | ⟨e1, e2, e3⟩
      · refine (show forget H _ V5 = V5 from e).symm ▸ ⟨?_, soV5.mono (by omega), kqV5⟩
        have ga := kpV5.ga ga12 (fun b hb => ⟨trivial, fun e => by have h : U7.length ≤ b := hb; have e1 : b = H.length + 0 := e; omega⟩)
        obtain ⟨ps, e, a, b⟩ := ga
        exact ⟨ps, e, Cells.congr a (fun b hb => by have : U7.length ≤ b := hb; omega) (fun _ _ _ => rfl), fun i h1 h2 => Cells.congr (b i h1 h2) (fun b hb => by have : U7.length ≤ b := hb; omega) (fun _ _ _ => rfl)⟩
      · have hn : gs12 = [] ∧ q12 = (none, 0) := gates_flat ga12 e1
        refine (show forget H _ V5 = H from e3).symm ▸ ⟨?_, (soV5.pre e2 hNH).mono (by omega), kqH⟩
        rw [hn.1, hn.2]; exact Gates.nil
    · refine E_nil (AX_condF rfl (AX_skip (AX_seq (AX_E (E_mv (v := .pointer (some ⟨s, 0, none⟩)) rfl (E_mv (v := .int .i64 ((r7 : Int))) rfl (E_ldB (v := .slice _ _ _) rfl ((rowGet_ne (kqU7.keep 0 (by omega) h0.2)).trans hg) ?_)))))))
      obtain ⟨gs16, q16, U16, hr16, hb16, ga16, soU16, kpU16⟩ := sste_ret N U7 s _ r7 2 14 pk kl soU7 (by omega) (by omega) (by decide) (by decide) (kqU7.ii hkl (fun b hb => ⟨trivial, hb.2⟩)) hne hkk h1
      have kqU16 : Kp (fun b => b = s) H U16 := kqU7.trans kpU16 (fun _ _ x => x) (fun _ _ x => x)
      have leU16 : U7.length ≤ U16.length := kpU16.len
      have lhU16 : H.length ≤ U16.length := kqU16.len
      have rw9 : U16[(H).length + 0]? = some (CO.row [.int .i64 (0), .int .i64 (0), .slice none 0 0] true none) := kpU16.row rw2 (by show ¬ ((H).length + 0 = s); omega)
      have fk10 : Ints (fun b => (b < N ∧ b ≠ s)) U16 (pk) (kl) := kpU16.ii (kqU7.ii hkl (fun b hb => ⟨trivial, hb.2⟩)) (fun b hb => ⟨trivial, fun e => by have h : (b < N ∧ b ≠ s) := hb; have e1 : (b = s) := e; omega⟩)
      refine E_callU rfl hr16 rfl (E_stX (l := [.int .i64 ((r7 : Int)), .int .i64 (2), .slice (q16).1 (gs16).length (q16).2]) (v := .agg _) rfl rfl rfl rfl ((congrArg (fun h : Heap => h[(H).length + 0]?) (List.append_nil _)).trans (rw9)) (by simp) rfl rfl fun V11 hV11 => ?_)
      have eV11 : V11 = U16.set ((H).length + 0) (CO.row [.int .i64 ((r7 : Int)), .int .i64 (2), .slice (q16).1 (gs16).length (q16).2] true none) := by rw [hV11, List.append_nil]; rfl
      have kpV11 : Kp (fun b => b = (H).length + 0) U16 V11 := by rw [eV11]; exact Kp.set
      have kqV11 : Kp (fun b => b = s) H V11 := kqU16.trans kpV11 (fun _ _ x => x) (fun b hb x => by omega)
      have soV11 : Sto N V11 s (((k + 1) + 3000)) := soU16.kp kpV11 (fun b hb x => by omega)
      have leV11 : V11.length = U16.length := by rw [eV11]; exact List.length_set
      have ltV11 : (H).length + 0 < U16.length := (List.getElem?_eq_some_iff.1 (rw9)).1
      have fk13 : Gates (fun b => (U7.length ≤ b)) V11 (q16) (gs16) := kpV11.ga ga16 (fun b hb => ⟨trivial, fun e => by have h : (U7.length ≤ b) := hb; have e1 : (b = (H).length + 0) := e; omega⟩)
      have rw12 : V11[(H).length + 0]? = some (CO.row [.int .i64 ((r7 : Int)), .int .i64 (2), .slice (q16).1 (gs16).length (q16).2] true none) := by rw [eV11, List.getElem?_set_self ltV11]
      have fk14 : Ints (fun b => (b < N ∧ b ≠ s)) V11 (pk) (kl) := kpV11.ii fk10 (fun b hb => ⟨trivial, fun e => by have h : (b < N ∧ b ≠ s) := hb; have e1 : (b = (H).length + 0) := e; omega⟩)
      refine E_nil (AX_ret ?_)
      simp only [List.append_nil, List.foldl_nil]
      refine ⟨_, res_x rfl rw12 rfl, by simp, ?_⟩
      refine ⟨⟨r7, 2, gs16⟩, q16, rfl, ⟨checkM_of (by omega) (by decide) (by have := hb16.1; omega) (fun g hg => (hb16.2 g hg).1), by show (r7 : Int) ≤ 4; omega, by show (2 : Int) ≤ 2; decide, by have := hb16.1; show gs16.length ≤ 14; omega⟩, ?_⟩
      rcases forget_or (h := H) (u := V11) (v := .agg #[.int .i64 ((r7 : Int)), .int .i64 (2), .slice (q16).1 (gs16).length (q16).2]) with e | ⟨e1, e2, e3⟩
      · refine (show forget H _ V11 = V11 from e).symm ▸ ⟨?_, soV11.mono (by omega), kqV11⟩
        have ga := kpV11.ga ga16 (fun b hb => ⟨trivial, fun e => by have h : U7.length ≤ b := hb; have e1 : b = H.length + 0 := e; omega⟩)
        obtain ⟨ps, e, a, b⟩ := ga
        exact ⟨ps, e, Cells.congr a (fun b hb => by have : U7.length ≤ b := hb; omega) (fun _ _ _ => rfl), fun i h1 h2 => Cells.congr (b i h1 h2) (fun b hb => by have : U7.length ≤ b := hb; omega) (fun _ _ _ => rfl)⟩
      · have hn : gs16 = [] ∧ q16 = (none, 0) := gates_flat ga16 e1
        refine (show forget H _ V11 = H from e3).symm ▸ ⟨?_, (soV11.pre e2 hNH).mono (by omega), kqH⟩
        rw [hn.1, hn.2]; exact Gates.nil
  obtain ⟨n, v, u, hr, c, q, rfl, h⟩ := key
  exact ⟨c, q, u, ⟨n, hr⟩, h⟩
end Go.Canon
namespace Go.Canon
open Go Go.Proofs
set_option linter.unusedVariables false
set_option linter.unusedSimpArgs false
end Go.Canon
namespace Go.Canon
open Go Go.Proofs
set_option linter.unusedVariables false
set_option linter.unusedSimpArgs false
theorem layersL_take (gs : List G) : ∀ i n, i ≤ n → (layersL gs n).take i = layersL gs i
  | i, 0, h => by obtain rfl : i = 0 := by omega
                  simp [layersL]
  | i, n + 1, h => by
    by_cases e : i = n + 1
    · subst e; rw [List.take_of_length_le (by rw [layersL_len]; omega)]
    · rw [layersL, List.take_append_of_le_length (by rw [layersL_len]; omega)]
      exact layersL_take gs i n (by omega)
theorem layersL_at (gs : List G) {i n : Nat} (h : i < n) (h2 : i < (layersL gs n).length) : (layersL gs n)[i] = layerTo gs (layersL gs i) i i := by
  have h1 := layersL_take gs (i + 1) n h
  have h3 : ((layersL gs n).take (i + 1))[i]? = some (layersL gs n)[i] := by rw [List.getElem?_take_of_lt (by omega), List.getElem?_eq_getElem h2]
  rw [h1, layersL, List.getElem?_append_right (by rw [layersL_len]; omega), layersL_len] at h3
  simpa using h3.symm
theorem layersL_getD (gs : List G) {i k n : Nat} (hk : k < i) (hi : i ≤ n) : (layersL gs i).getD k 0 = (layersL gs n).getD k 0 := by
  rw [← layersL_take gs i n hi]
  simp only [List.getD_eq_getElem?_getD, List.getElem?_take_of_lt hk]
theorem layerTo_mono {gs : List G} {out : List Int} {i : Nat} : ∀ {k k' : Nat}, k ≤ k' → layerTo gs out i k ≤ layerTo gs out i k'
  | k, 0, h => by obtain rfl : k = 0 := by omega
                  exact Int.le_refl _
  | k, k' + 1, h => by
    by_cases e : k = k' + 1
    · subst e; exact Int.le_refl _
    · have ih := layerTo_mono (gs := gs) (out := out) (i := i) (show k ≤ k' by omega)
      have : layerTo gs out i k' ≤ layerTo gs out i (k' + 1) := by
        rw [layerTo.eq_2]; split <;> omega
      omega
theorem layerTo_gt {gs : List G} {out : List Int} {i k m : Nat} (hk : k < m) (hm : meetM (gs.getD i default) (gs.getD k default)) : out.getD k 0 < layerTo gs out i m := by
  have h1 : out.getD k 0 < layerTo gs out i (k + 1) := by
    rw [layerTo.eq_2]
    split
    · omega
    · rename_i h
      have : ¬ (layerTo gs out i k ≤ out.getD k 0) := fun h2 => h ⟨hm, h2⟩
      omega
  have := layerTo_mono (gs := gs) (out := out) (i := i) (show k + 1 ≤ m from hk)
  omega
theorem layerTo_from {gs : List G} {out : List Int} {i : Nat} : ∀ {m : Nat}, 0 < layerTo gs out i m → ∃ k, k < m ∧ meetM (gs.getD i default) (gs.getD k default) ∧ out.getD k 0 = layerTo gs out i m - 1
  | 0, h => by simp [layerTo] at h
  | m + 1, h => by
    rw [layerTo.eq_2] at h ⊢
    split at h
    · rename_i hc
      rw [if_pos hc]
      exact ⟨m, by omega, hc.1, by omega⟩
    · rename_i hc
      rw [if_neg hc]
      obtain ⟨k, h1, h2, h3⟩ := layerTo_from h
      exact ⟨k, by omega, h2, h3⟩
/-- The layers of a circuit. -/
structure LY (gs : List G) (out : List Int) : Prop where
  len : out.length = gs.length
  rng : ∀ x ∈ out, 0 ≤ x ∧ x < depthL out
  dep : 0 ≤ depthL out ∧ depthL out ≤ gs.length
  lt : ∀ i k, k < i → i < gs.length → meetM (gs.getD i default) (gs.getD k default) → out.getD k 0 < out.getD i 0
  one : ∀ i, i < gs.length → 0 < out.getD i 0 → ∃ k, k < i ∧ meetM (gs.getD i default) (gs.getD k default) ∧ out.getD k 0 = out.getD i 0 - 1
  all : ∀ x, 0 ≤ x → x < depthL out → x ∈ out
theorem depthL_all : ∀ (l : List Int) (n : Int), n ≤ l.foldl (fun n x => if n ≤ x then x + 1 else n) n ∧ (∀ x ∈ l, x < l.foldl (fun n x => if n ≤ x then x + 1 else n) n) ∧ (l.foldl (fun n x => if n ≤ x then x + 1 else n) n = n ∨ l.foldl (fun n x => if n ≤ x then x + 1 else n) n - 1 ∈ l)
  | [], n => ⟨Int.le_refl _, fun x h => by simp at h, .inl rfl⟩
  | y :: l, n => by
    obtain ⟨h1, h2, h3⟩ := depthL_all l (if n ≤ y then y + 1 else n)
    simp only [List.foldl_cons]
    refine ⟨?_, fun x hx => ?_, ?_⟩
    · split at h1 <;> split <;> omega
    · rcases List.mem_cons.1 hx with rfl | hx
      · split at h1 <;> split <;> omega
      · exact h2 x hx
    · rcases h3 with h3 | h3
      · by_cases hc : n ≤ y
        · right
          rw [h3, if_pos hc]
          simp
        · left; rw [h3, if_neg hc]
      · exact .inr (List.mem_cons_of_mem _ h3)
theorem layers_law (gs : List G) : LY gs (layersL gs gs.length) := by
  have hlen := layersL_len gs gs.length
  have hle := layersL_le gs gs.length
  obtain ⟨d1, d2, d3⟩ := depthL_all (layersL gs gs.length) 0
  have hget : ∀ i, i < gs.length → (layersL gs gs.length).getD i 0 = layerTo gs (layersL gs i) i i := fun i hi => by
    rw [List.getD_eq_getElem?_getD, List.getElem?_eq_getElem (by omega)]
    simp [layersL_at gs hi (by omega)]
  have hone : ∀ i, i < gs.length → 0 < (layersL gs gs.length).getD i 0 → ∃ k, k < i ∧ meetM (gs.getD i default) (gs.getD k default) ∧ (layersL gs gs.length).getD k 0 = (layersL gs gs.length).getD i 0 - 1 := fun i hi h0 => by
    rw [hget i hi] at h0 ⊢
    obtain ⟨k, h1, h2, h3⟩ := layerTo_from h0
    exact ⟨k, h1, h2, by rw [← h3]; exact (layersL_getD gs h1 (by omega)).symm⟩
  refine ⟨hlen, fun x hx => ⟨(hle x hx).1, d2 x hx⟩, ⟨d1, ?_⟩, fun i k hk hi hm => ?_, hone, fun x h0 hx => ?_⟩
  · rcases d3 with d3 | d3
    · show List.foldl _ 0 _ ≤ _; rw [d3]; omega
    · have := hle _ d3; show List.foldl _ 0 _ ≤ _; omega
  · rw [hget i hi, ← layersL_getD gs hk (by omega)]
    exact layerTo_gt hk hm
  · -- downwards from the greatest one
    have key : ∀ (n : Nat) (y : Int), y ∈ layersL gs gs.length → y = x + n → x ∈ layersL gs gs.length := by
      intro n
      induction n with
      | zero => intro y hy e; rw [show x = y by omega]; exact hy
      | succ n ih =>
        intro y hy e
        obtain ⟨i, hi, rfl⟩ := List.mem_iff_getElem.1 hy
        have hg : (layersL gs gs.length).getD i 0 = (layersL gs gs.length)[i] := by rw [List.getD_eq_getElem?_getD, List.getElem?_eq_getElem hi]; rfl
        obtain ⟨k, h1, _, h3⟩ := hone i (by omega) (by rw [hg]; omega)
        have hk : k < (layersL gs gs.length).length := by omega
        have hgk : (layersL gs gs.length).getD k 0 = (layersL gs gs.length)[k] := by rw [List.getD_eq_getElem?_getD, List.getElem?_eq_getElem hk]; rfl
        exact ih _ (List.getElem_mem hk) (by rw [← hgk, h3, hg]; omega)
    rcases d3 with d3 | d3
    · have : depthL (layersL gs gs.length) = 0 := d3
      omega
    · have e : depthL (layersL gs gs.length) - 1 ∈ layersL gs gs.length := d3
      exact key (depthL (layersL gs gs.length) - 1 - x).toNat _ e (by omega)
end Go.Canon
namespace Go.Canon
open Go Go.Proofs
set_option linter.unusedVariables false
set_option linter.unusedSimpArgs false
end Go.Canon
namespace Go.Canon
open Go Go.Proofs
set_option linter.unusedVariables false
set_option linter.unusedSimpArgs false
theorem gates_lt2 {S : Nat → Prop} {h : Heap} {p : Pl} {gs : List G} (H : Gates S h p gs) : Gates (fun b => S b ∧ b < h.length) h p gs := by
  obtain ⟨ps, e, a, b⟩ := H
  exact ⟨ps, e, Cells.lt a, fun i h1 h2 => Cells.lt (b i h1 h2)⟩
theorem ly_dep {c : C} (hc : checkM c = 0) : LY c.gs (layersR c) ∧ depthL (layersR c) = depthR c ∧ (layersR c).length = c.gs.length ∧ 0 ≤ depthR c ∧ depthR c ≤ c.gs.length := by
  have e : layersR c = layersL c.gs c.gs.length := if_pos hc
  have ly := layers_law c.gs
  rw [← e] at ly
  exact ⟨ly, depthR_eq c, ly.len, by rw [← depthR_eq]; exact ly.dep.1, by rw [← depthR_eq]; exact ly.dep.2⟩
end Go.Canon
namespace Go.Canon
open Go Go.Proofs
set_option linter.unusedVariables false
set_option linter.unusedSimpArgs false
theorem ly_max {gs : List G} {out : List Int} (L : LY gs out) {D : Int} (hD : 0 ≤ D) (h : ∀ i, i < gs.length → out.getD i 0 < D) : depthL out ≤ D := by
  false_or_by_contra
  rename_i hn
  have hm := L.all (depthL out - 1) (by omega) (by omega)
  obtain ⟨i, hi, e⟩ := List.mem_iff_getElem.1 hm
  have hl := L.len
  have h1 := h i (by omega)
  rw [List.getD_eq_getElem?_getD, List.getElem?_eq_getElem hi, Option.getD_some, e] at h1
  omega
theorem ly_lt {gs : List G} {out : List Int} (L : LY gs out) {i : Nat} (hi : i < gs.length) : 0 ≤ out.getD i 0 ∧ out.getD i 0 < depthL out := by
  have hl := L.len
  rw [List.getD_eq_getElem?_getD, List.getElem?_eq_getElem (by omega), Option.getD_some]
  exact L.rng _ (List.getElem_mem _)
theorem getD_take {gs : List G} {k i : Nat} (h : i < k) : (gs.take k).getD i default = gs.getD i default := by
  simp only [List.getD_eq_getElem?_getD, List.getElem?_take_of_lt h]
theorem getD_drop {gs : List G} {k i : Nat} : (gs.drop k).getD i default = gs.getD (k + i) default := by
  simp only [List.getD_eq_getElem?_getD, List.getElem?_drop]
/-- Layers of a first piece are no deeper. -/
theorem cut_fst {gs : List G} {k : Nat} {oa oc : List Int} (hk : k ≤ gs.length) (A : LY (gs.take k) oa) (C : LY gs oc) : ∀ i, i < k → oa.getD i 0 ≤ oc.getD i 0 := by
  intro i
  induction i using Nat.strongRecOn with
  | _ i ih =>
    intro hi
    have hl : (gs.take k).length = k := by simp; omega
    have c0 := ly_lt C (i := i) (by omega)
    by_cases h0 : 0 < oa.getD i 0
    · obtain ⟨q, hq, hm, ho⟩ := A.one i (by omega) h0
      rw [getD_take hi, getD_take (by omega)] at hm
      have := C.lt i q hq (by omega) hm
      have := ih q hq (by omega)
      omega
    · omega
theorem cut_snd {gs : List G} {k : Nat} {ob oc : List Int} (hk : k ≤ gs.length) (B : LY (gs.drop k) ob) (C : LY gs oc) : ∀ i, k + i < gs.length → ob.getD i 0 ≤ oc.getD (k + i) 0 := by
  intro i
  induction i using Nat.strongRecOn with
  | _ i ih =>
    intro hi
    have hl : (gs.drop k).length = gs.length - k := by simp
    have c0 := ly_lt C (i := k + i) hi
    by_cases h0 : 0 < ob.getD i 0
    · obtain ⟨q, hq, hm, ho⟩ := B.one i (by omega) h0
      rw [getD_drop, getD_drop] at hm
      have := C.lt (k + i) (k + q) (by omega) hi hm
      have := ih q hq (by omega)
      omega
    · omega
theorem cut_sum {gs : List G} {k : Nat} {oa ob oc : List Int} (hk : k ≤ gs.length) (A : LY (gs.take k) oa) (B : LY (gs.drop k) ob) (C : LY gs oc) :
    (∀ i, i < k → oc.getD i 0 ≤ oa.getD i 0) ∧ ∀ i, k + i < gs.length → oc.getD (k + i) 0 ≤ depthL oa + ob.getD i 0 := by
  have hl : (gs.take k).length = k := by simp; omega
  have hl2 : (gs.drop k).length = gs.length - k := by simp
  have h1 : ∀ i, i < k → oc.getD i 0 ≤ oa.getD i 0 := by
    intro i
    induction i using Nat.strongRecOn with
    | _ i ih =>
      intro hi
      have a0 := ly_lt A (i := i) (by omega)
      by_cases h0 : 0 < oc.getD i 0
      · obtain ⟨q, hq, hm, ho⟩ := C.one i (by omega) h0
        have := A.lt i q hq (by omega) (by rw [getD_take hi, getD_take (by omega)]; exact hm)
        have := ih q hq (by omega)
        omega
      · omega
  refine ⟨h1, fun i => ?_⟩
  induction i using Nat.strongRecOn with
  | _ i ih =>
    intro hi
    have b0 := ly_lt B (i := i) (by omega)
    have a1 := A.dep.1
    by_cases h0 : 0 < oc.getD (k + i) 0
    · obtain ⟨q, hq, hm, ho⟩ := C.one (k + i) hi h0
      by_cases hqk : q < k
      · have := h1 q hqk
        have := ly_lt A (i := q) (by omega)
        omega
      · obtain ⟨j, rfl⟩ : ∃ j, q = k + j := ⟨q - k, by omega⟩
        have := B.lt i j (by omega) (by omega) (by rw [getD_drop, getD_drop]; exact hm)
        have := ih j (by omega) (by omega)
        omega
    · omega
theorem cut_depth {gs : List G} {k : Nat} {oa ob oc : List Int} (hk : k ≤ gs.length) (A : LY (gs.take k) oa) (B : LY (gs.drop k) ob) (C : LY gs oc) :
    depthL oc ≤ depthL oa + depthL ob ∧ depthL oa ≤ depthL oc ∧ depthL ob ≤ depthL oc := by
  have hl : (gs.take k).length = k := by simp; omega
  have hl2 : (gs.drop k).length = gs.length - k := by simp
  have d1 := A.dep.1; have d2 := B.dep.1; have d3 := C.dep.1
  obtain ⟨s1, s2⟩ := cut_sum hk A B C
  refine ⟨ly_max C (by omega) fun i hi => ?_, ly_max A d3 fun i hi => ?_, ly_max B d3 fun i hi => ?_⟩
  · by_cases h : i < k
    · have := s1 i h; have := ly_lt A (i := i) (by omega); omega
    · obtain ⟨j, rfl⟩ : ∃ j, i = k + j := ⟨i - k, by omega⟩
      have := s2 j hi; have := ly_lt B (i := j) (by omega); omega
  · have := cut_fst hk A C i (by omega); have := ly_lt C (i := i) (by omega); omega
  · have := cut_snd hk B C i (by omega); have := ly_lt C (i := k + i) (by omega); omega
end Go.Canon
namespace Go.Canon
open Go Go.Proofs
set_option linter.unusedVariables false
set_option linter.unusedSimpArgs false
def kf207 : KFunc := ⟨4, 245, [.tmp 8], .seq (.reg [⟨some 8, .mv (.c (.bool false)), none⟩] []) (.seq (.reg [⟨some 34, .mv (.t 0), none⟩, ⟨some 35, .call (.c (.func (.func 10) #[] #[])) [.t 34], none⟩, ⟨some 36, .mv (.t 3), none⟩, ⟨some 37, .call (.c (.func (.func 9) #[] #[])) [.t 35, .t 36], none⟩, ⟨some 9, .new [.int .i64 0, .int .i64 0, .slice none 0 0], none⟩, ⟨none, .st (.t 9) (.t 37) 3, none⟩] []) (.seq (.reg [⟨some 38, .mv (.t 1), none⟩, ⟨some 39, .cv .i64 (.t 38), none⟩, ⟨some 40, .fa (.t 9) 2, none⟩, ⟨some 41, .ld (.t 40) none, none⟩, ⟨some 42, .len (.t 41), none⟩, ⟨some 43, .bin .add (.t 42) (.c (.int .i64 1)), none⟩, ⟨some 44, .bin .rem (.t 39) (.t 43), none⟩, ⟨some 10, .mv (.t 44), none⟩] []) (.seq (.reg [⟨some 46, .ld (.t 9) (some 3), none⟩, ⟨some 47, .mv (.t 10), none⟩, ⟨some 48, .call (.c (.func (.func 36) #[] #[])) [.t 46, .c (.int .i64 0), .t 47], none⟩, ⟨some 45, .mv (.t 48), none⟩, ⟨some 49, .ext (.t 45) 0, none⟩, ⟨some 50, .ext (.t 45) 1, none⟩, ⟨some 11, .new [.int .i64 0, .int .i64 0, .slice none 0 0], none⟩, ⟨none, .st (.t 11) (.t 49) 3, none⟩, ⟨some 12, .mv (.t 50), none⟩] []) (.seq (.reg [⟨some 52, .ld (.t 9) (some 3), none⟩, ⟨some 53, .mv (.t 10), none⟩, ⟨some 54, .fa (.t 9) 2, none⟩, ⟨some 55, .ld (.t 54) none, none⟩, ⟨some 56, .len (.t 55), none⟩, ⟨some 57, .call (.c (.func (.func 36) #[] #[])) [.t 52, .t 53, .t 56], none⟩, ⟨some 51, .mv (.t 57), none⟩, ⟨some 58, .ext (.t 51) 0, none⟩, ⟨some 59, .ext (.t 51) 1, none⟩, ⟨some 13, .new [.int .i64 0, .int .i64 0, .slice none 0 0], none⟩, ⟨none, .st (.t 13) (.t 58) 3, none⟩, ⟨some 14, .mv (.t 59), none⟩] []) (.seq (.reg [⟨some 61, .ld (.t 11) (some 3), none⟩, ⟨some 62, .ld (.t 13) (some 3), none⟩, ⟨some 63, .call (.c (.func (.func 23) #[] #[])) [.t 61, .t 62], none⟩, ⟨some 60, .mv (.t 63), none⟩, ⟨some 64, .ext (.t 60) 0, none⟩, ⟨some 65, .ext (.t 60) 1, none⟩, ⟨some 15, .new [.int .i64 0, .int .i64 0, .slice none 0 0], none⟩, ⟨none, .st (.t 15) (.t 64) 3, none⟩, ⟨some 16, .mv (.t 65), none⟩] []) (.seq (.reg [⟨some 67, .ld (.t 11) (some 3), none⟩, ⟨some 68, .call (.c (.func (.func 37) #[] #[])) [.t 67], none⟩, ⟨some 66, .mv (.t 68), none⟩, ⟨some 69, .ext (.t 66) 0, none⟩, ⟨some 70, .ext (.t 66) 1, none⟩, ⟨some 17, .new [.int .i64 0, .int .i64 0, .int .i64 0, .int .i64 0, .int .i64 0, .int .i64 0, .int .i64 0, .int .i64 0, .int .i64 0, .int .i64 0, .int .i64 0, .int .i64 0, .int .i64 0, .int .i64 0], none⟩, ⟨none, .st (.t 17) (.t 69) 14, none⟩, ⟨some 18, .mv (.t 70), none⟩] []) (.seq (.reg [⟨some 72, .ld (.t 13) (some 3), none⟩, ⟨some 73, .call (.c (.func (.func 37) #[] #[])) [.t 72], none⟩, ⟨some 71, .mv (.t 73), none⟩, ⟨some 74, .ext (.t 71) 0, none⟩, ⟨some 75, .ext (.t 71) 1, none⟩, ⟨some 19, .new [.int .i64 0, .int .i64 0, .int .i64 0, .int .i64 0, .int .i64 0, .int .i64 0, .int .i64 0, .int .i64 0, .int .i64 0, .int .i64 0, .int .i64 0, .int .i64 0, .int .i64 0, .int .i64 0], none⟩, ⟨none, .st (.t 19) (.t 74) 14, none⟩, ⟨some 20, .mv (.t 75), none⟩] []) (.seq (.reg [⟨some 77, .ld (.t 9) (some 3), none⟩, ⟨some 78, .call (.c (.func (.func 37) #[] #[])) [.t 77], none⟩, ⟨some 76, .mv (.t 78), none⟩, ⟨some 79, .ext (.t 76) 0, none⟩, ⟨some 80, .ext (.t 76) 1, none⟩, ⟨some 21, .new [.int .i64 0, .int .i64 0, .int .i64 0, .int .i64 0, .int .i64 0, .int .i64 0, .int .i64 0, .int .i64 0, .int .i64 0, .int .i64 0, .int .i64 0, .int .i64 0, .int .i64 0, .int .i64 0], none⟩, ⟨none, .st (.t 21) (.t 79) 14, none⟩, ⟨some 22, .mv (.t 80), none⟩] []) (.seq (.reg [⟨some 82, .ld (.t 11) (some 3), none⟩, ⟨some 83, .call (.c (.func (.func 12) #[] #[])) [.t 82], none⟩, ⟨some 81, .mv (.t 83), none⟩, ⟨some 84, .ext (.t 81) 0, none⟩, ⟨some 85, .ext (.t 81) 1, none⟩, ⟨some 23, .mv (.t 84), none⟩, ⟨some 24, .mv (.t 85), none⟩] []) (.seq (.reg [⟨some 87, .ld (.t 13) (some 3), none⟩, ⟨some 88, .call (.c (.func (.func 12) #[] #[])) [.t 87], none⟩, ⟨some 86, .mv (.t 88), none⟩, ⟨some 89, .ext (.t 86) 0, none⟩, ⟨some 90, .ext (.t 86) 1, none⟩, ⟨some 25, .mv (.t 89), none⟩, ⟨some 26, .mv (.t 90), none⟩] []) (.seq (.reg [⟨some 92, .ld (.t 9) (some 3), none⟩, ⟨some 93, .call (.c (.func (.func 12) #[] #[])) [.t 92], none⟩, ⟨some 91, .mv (.t 93), none⟩, ⟨some 94, .ext (.t 91) 0, none⟩, ⟨some 95, .ext (.t 91) 1, none⟩, ⟨some 27, .mv (.t 94), none⟩, ⟨some 28, .mv (.t 95), none⟩] []) (.seq (.seq (.reg [⟨some 96, .mv (.t 12), none⟩, ⟨some 97, .bin .neq (.t 96) (.c (.int .i64 0)), none⟩, ⟨some 98, .mv (.t 97), none⟩, ⟨some 99, .mv (.t 14), some (98, false)⟩, ⟨some 100, .bin .neq (.t 99) (.c (.int .i64 0)), some (98, false)⟩, ⟨some 101, .pick (.t 98) (.c (.bool true)) (.t 100), none⟩, ⟨some 102, .mv (.t 101), none⟩, ⟨some 103, .mv (.t 16), some (102, false)⟩, ⟨some 104, .bin .neq (.t 103) (.c (.int .i64 0)), some (102, false)⟩, ⟨some 105, .pick (.t 102) (.c (.bool true)) (.t 104), none⟩, ⟨some 106, .mv (.t 105), none⟩, ⟨some 107, .mv (.t 18), some (106, false)⟩, ⟨some 108, .bin .neq (.t 107) (.c (.int .i64 0)), some (106, false)⟩, ⟨some 109, .pick (.t 106) (.c (.bool true)) (.t 108), none⟩, ⟨some 110, .mv (.t 109), none⟩, ⟨some 111, .mv (.t 20), some (110, false)⟩, ⟨some 112, .bin .neq (.t 111) (.c (.int .i64 0)), some (110, false)⟩, ⟨some 113, .pick (.t 110) (.c (.bool true)) (.t 112), none⟩, ⟨some 114, .mv (.t 113), none⟩, ⟨some 115, .mv (.t 22), some (114, false)⟩, ⟨some 116, .bin .neq (.t 115) (.c (.int .i64 0)), some (114, false)⟩, ⟨some 117, .pick (.t 114) (.c (.bool true)) (.t 116), none⟩, ⟨some 118, .mv (.t 117), none⟩, ⟨some 119, .mv (.t 24), some (118, false)⟩, ⟨some 120, .bin .neq (.t 119) (.c (.int .i64 0)), some (118, false)⟩, ⟨some 121, .pick (.t 118) (.c (.bool true)) (.t 120), none⟩, ⟨some 122, .mv (.t 121), none⟩, ⟨some 123, .mv (.t 26), some (122, false)⟩, ⟨some 124, .bin .neq (.t 123) (.c (.int .i64 0)), some (122, false)⟩, ⟨some 125, .pick (.t 122) (.c (.bool true)) (.t 124), none⟩, ⟨some 126, .mv (.t 125), none⟩, ⟨some 127, .mv (.t 28), some (126, false)⟩, ⟨some 128, .bin .neq (.t 127) (.c (.int .i64 0)), some (126, false)⟩, ⟨some 129, .pick (.t 126) (.c (.bool true)) (.t 128), none⟩, ⟨some 130, .mv (.t 129), none⟩, ⟨some 131, .ld (.t 15) (some 3), some (130, false)⟩, ⟨some 132, .ld (.t 9) (some 3), some (130, false)⟩, ⟨some 133, .call (.c (.func (.func 24) #[] #[])) [.t 131, .t 132], some (130, false)⟩, ⟨some 134, .not (.t 133), some (130, false)⟩, ⟨some 135, .pick (.t 130) (.c (.bool true)) (.t 134), none⟩, ⟨some 136, .mv (.t 135), none⟩, ⟨some 137, .fa (.t 11) 2, some (136, false)⟩, ⟨some 138, .ld (.t 137) none, some (136, false)⟩, ⟨some 139, .len (.t 138), some (136, false)⟩, ⟨some 140, .mv (.t 10), some (136, false)⟩, ⟨some 141, .bin .neq (.t 139) (.t 140), some (136, false)⟩, ⟨some 142, .pick (.t 136) (.c (.bool true)) (.t 141), none⟩, ⟨some 143, .mv (.t 142), none⟩, ⟨some 144, .mv (.t 23), some (143, false)⟩, ⟨some 145, .mv (.t 25), some (143, false)⟩, ⟨some 146, .bin .add (.t 144) (.t 145), some (143, false)⟩, ⟨some 147, .mv (.t 27), some (143, false)⟩, ⟨some 148, .bin .lss (.t 146) (.t 147), some (143, false)⟩, ⟨some 149, .pick (.t 143) (.c (.bool true)) (.t 148), none⟩, ⟨some 150, .mv (.t 149), none⟩, ⟨some 151, .mv (.t 27), some (150, false)⟩, ⟨some 152, .mv (.t 23), some (150, false)⟩, ⟨some 153, .mv (.t 25), some (150, false)⟩, ⟨some 154, .mx [.t 152, .t 153], some (150, false)⟩, ⟨some 155, .bin .lss (.t 151) (.t 154), some (150, false)⟩, ⟨some 156, .pick (.t 150) (.c (.bool true)) (.t 155), none⟩, ⟨some 157, .mv (.t 156), none⟩, ⟨some 158, .mv (.t 27), some (157, false)⟩, ⟨some 159, .fa (.t 9) 2, some (157, false)⟩, ⟨some 160, .ld (.t 159) none, some (157, false)⟩, ⟨some 161, .len (.t 160), some (157, false)⟩, ⟨some 162, .bin .gtr (.t 158) (.t 161), some (157, false)⟩, ⟨some 163, .pick (.t 157) (.c (.bool true)) (.t 162), none⟩] []) (.cond (.t 163) (.seq (.reg [⟨some 8, .mv (.c (.bool false)), none⟩] []) .ret) .skip)) (.seq (.seq (.reg [⟨some 164, .mv (.c (.int .i64 0)), none⟩] []) (.block 0 (.loop (.seq (.reg [⟨some 165, .bin .lss (.t 164) (.c (.int .i64 14)), none⟩] []) (.seq (.cond (.t 165) .skip (.exit 0)) (.seq (.block 1 (.seq (.reg [⟨some 166, .mv (.t 164), none⟩, ⟨some 29, .mv (.t 166), none⟩] []) (.seq (.reg [⟨some 167, .mv (.t 29), none⟩, ⟨some 168, .iaA (.t 17) (.t 167) 14 1, none⟩, ⟨some 169, .ld (.t 168) none, none⟩, ⟨some 170, .mv (.t 29), none⟩, ⟨some 171, .iaA (.t 19) (.t 170) 14 1, none⟩, ⟨some 172, .ld (.t 171) none, none⟩, ⟨some 173, .bin .add (.t 169) (.t 172), none⟩, ⟨some 174, .mv (.t 29), none⟩, ⟨some 175, .iaA (.t 21) (.t 174) 14 1, none⟩, ⟨some 176, .ld (.t 175) none, none⟩, ⟨some 177, .bin .neq (.t 173) (.t 176), none⟩] []) (.cond (.t 177) (.seq (.reg [⟨some 8, .mv (.c (.bool false)), none⟩] []) .ret) .skip)))) (.reg [⟨some 178, .bin .add (.t 164) (.c (.int .i64 1)), none⟩, ⟨some 164, .mv (.t 178), none⟩] []))))))) (.seq (.reg [⟨some 180, .ld (.t 9) (some 3), none⟩, ⟨some 181, .fa (.t 9) 0, none⟩, ⟨some 182, .ld (.t 181) none, none⟩, ⟨some 183, .mv (.t 2), none⟩, ⟨some 184, .cv .i64 (.t 183), none⟩, ⟨some 185, .bin .rem (.t 184) (.c (.int .i64 4)), none⟩, ⟨some 186, .bin .add (.t 182) (.t 185), none⟩, ⟨some 187, .fa (.t 9) 1, none⟩, ⟨some 188, .ld (.t 187) none, none⟩, ⟨some 189, .mv (.t 2), none⟩, ⟨some 190, .cv .i64 (.t 189), none⟩, ⟨some 191, .bin .rem (.t 190) (.c (.int .i64 3)), none⟩, ⟨some 192, .bin .add (.t 188) (.t 191), none⟩, ⟨some 193, .call (.c (.func (.func 38) #[] #[])) [.t 180, .t 186, .t 192], none⟩, ⟨some 179, .mv (.t 193), none⟩, ⟨some 194, .ext (.t 179) 0, none⟩, ⟨some 195, .ext (.t 179) 1, none⟩, ⟨some 30, .new [.int .i64 0, .int .i64 0, .slice none 0 0], none⟩, ⟨none, .st (.t 30) (.t 194) 3, none⟩, ⟨some 12, .mv (.t 195), none⟩] []) (.seq (.reg [⟨some 197, .ld (.t 30) (some 3), none⟩, ⟨some 198, .call (.c (.func (.func 12) #[] #[])) [.t 197], none⟩, ⟨some 196, .mv (.t 198), none⟩, ⟨some 199, .ext (.t 196) 0, none⟩, ⟨some 200, .ext (.t 196) 1, none⟩, ⟨some 31, .mv (.t 199), none⟩, ⟨some 14, .mv (.t 200), none⟩] []) (.seq (.reg [⟨some 202, .ld (.t 30) (some 3), none⟩, ⟨some 203, .call (.c (.func (.func 39) #[] #[])) [.t 202], none⟩, ⟨some 201, .mv (.t 203), none⟩, ⟨some 204, .ext (.t 201) 0, none⟩, ⟨some 205, .ext (.t 201) 1, none⟩, ⟨some 32, .mv (.t 204), none⟩, ⟨some 16, .mv (.t 205), none⟩] []) (.seq (.reg [⟨some 207, .ld (.t 9) (some 3), none⟩, ⟨some 208, .call (.c (.func (.func 39) #[] #[])) [.t 207], none⟩, ⟨some 206, .mv (.t 208), none⟩, ⟨some 209, .ext (.t 206) 0, none⟩, ⟨some 210, .ext (.t 206) 1, none⟩, ⟨some 33, .mv (.t 209), none⟩, ⟨some 18, .mv (.t 210), none⟩] []) (.seq (.reg [⟨some 211, .mv (.t 12), none⟩, ⟨some 212, .bin .eql (.t 211) (.c (.int .i64 0)), none⟩, ⟨some 213, .mv (.t 212), none⟩, ⟨some 214, .mv (.t 14), some (213, true)⟩, ⟨some 215, .bin .eql (.t 214) (.c (.int .i64 0)), some (213, true)⟩, ⟨some 216, .pick (.t 213) (.t 215) (.c (.bool false)), none⟩, ⟨some 217, .mv (.t 216), none⟩, ⟨some 218, .mv (.t 16), some (217, true)⟩, ⟨some 219, .bin .eql (.t 218) (.c (.int .i64 0)), some (217, true)⟩, ⟨some 220, .pick (.t 217) (.t 219) (.c (.bool false)), none⟩, ⟨some 221, .mv (.t 220), none⟩, ⟨some 222, .mv (.t 18), some (221, true)⟩, ⟨some 223, .bin .eql (.t 222) (.c (.int .i64 0)), some (221, true)⟩, ⟨some 224, .pick (.t 221) (.t 223) (.c (.bool false)), none⟩, ⟨some 225, .mv (.t 224), none⟩, ⟨some 226, .mv (.t 31), some (225, true)⟩, ⟨some 227, .mv (.t 27), some (225, true)⟩, ⟨some 228, .bin .eql (.t 226) (.t 227), some (225, true)⟩, ⟨some 229, .pick (.t 225) (.t 228) (.c (.bool false)), none⟩, ⟨some 230, .mv (.t 229), none⟩, ⟨some 231, .mv (.t 32), some (230, true)⟩, ⟨some 232, .mv (.t 33), some (230, true)⟩, ⟨some 233, .call (.c (.func (.func 40) #[] #[])) [.t 231, .t 232], some (230, true)⟩, ⟨some 234, .pick (.t 230) (.t 233) (.c (.bool false)), none⟩, ⟨some 235, .mv (.t 234), none⟩, ⟨some 236, .fa (.t 30) 2, some (235, true)⟩, ⟨some 237, .ld (.t 236) none, some (235, true)⟩, ⟨some 238, .fa (.t 9) 2, some (235, true)⟩, ⟨some 239, .ld (.t 238) none, some (235, true)⟩, ⟨some 240, .call (.c (.func (.func 41) #[] #[])) [.t 237, .t 239, .c (.func (.func 32) #[] #[])], some (235, true)⟩, ⟨some 241, .pick (.t 235) (.t 240) (.c (.bool false)), none⟩, ⟨some 242, .mv (.t 241), none⟩, ⟨some 243, .call (.c (.func (.func 19) #[] #[])) [], some (242, true)⟩, ⟨some 244, .pick (.t 242) (.t 243) (.c (.bool false)), none⟩, ⟨some 8, .mv (.t 244), none⟩] []) .ret))))))))))))))))))⟩
theorem k207 : tab Tryd.prog 7 = some kf207 := by kernel_rfl
theorem count_cut (gs : List G) (k j : Nat) : countL (gs.take k) j + countL (gs.drop k) j = countL gs j := by
  have h : (gs.filter fun g => decide (g.k = (j : Int) + 1)).length = ((gs.take k).filter fun g => decide (g.k = (j : Int) + 1)).length + ((gs.drop k).filter fun g => decide (g.k = (j : Int) + 1)).length := by
    conv => lhs; rw [← List.take_append_drop k gs, List.filter_append, List.length_append]
  simp only [countL]
  omega
theorem count_le (gs : List G) (j : Nat) : 0 ≤ countL gs j ∧ countL gs j ≤ gs.length := by
  have := List.length_filter_le (fun g => decide (g.k = (j : Int) + 1)) gs
  simp only [countL]
  omega
theorem used_wide {gs : List G} {w : Nat} (h : ∀ g ∈ gs, ∀ x ∈ g.ws, x < (w : Int)) : ∀ n, usedL gs (w + n) = usedL gs w
  | 0 => rfl
  | n + 1 => by
    have : ¬ ∃ g ∈ gs, ((w + n : Nat) : Int) ∈ g.ws := fun ⟨g, hg, hx⟩ => by have := h g hg _ hx; omega
    show usedL gs (w + n) ++ (if ∃ g ∈ gs, ((w + n : Nat) : Int) ∈ g.ws then [((w + n : Nat) : Int)] else []) = _
    rw [if_neg this, List.append_nil]
    exact used_wide h n
theorem cg_wide {g : G} {w b w' b' : Int} (h : cgM g w b = 0) (hw : w ≤ w') (hb : b ≤ b') : cgM g w' b' = 0 := by
  unfold cgM at h ⊢
  split at h <;> try omega
  split at h <;> try omega
  split at h <;> try omega
  split at h <;> try omega
  split at h <;> try omega
  split at h <;> try omega
  rename_i e1 e2 e3 e4 e5 e6
  rw [if_neg e1, if_neg e2, if_neg (by rintro ⟨x, hx, h⟩; exact e3 ⟨x, hx, by omega⟩), if_neg e4, if_neg (by omega), if_neg e6]
theorem cg_rng2 {g : G} {w b : Int} (h : cgM g w b = 0) : ∀ x ∈ g.ws, x < w := by
  unfold cgM at h
  split at h <;> try omega
  split at h <;> try omega
  split at h <;> try omega
  rename_i e1 e2 e3
  intro x hx
  false_or_by_contra
  exact e3 ⟨x, hx, by omega⟩
/-- What the statement needs to know. -/
theorem cut_facts {c : C} {k : Nat} {m n : Int} (hc : checkM c = 0) (hw : c.w ≤ 4) (hb : c.b ≤ 2) (hk : k ≤ c.gs.length) (hm : 0 ≤ m ∧ m < 4) (hn : 0 ≤ n ∧ n < 3) :
    let a : C := ⟨c.w, c.b, c.gs.take k⟩; let b : C := ⟨c.w, c.b, c.gs.drop k⟩; let d : C := ⟨c.w + m, c.b + n, c.gs⟩
    (checkM a = 0 ∧ checkM b = 0 ∧ checkM d = 0) ∧ (sliceE c 0 k = 0 ∧ sliceM c 0 k = a ∧ sliceE c k c.gs.length = 0 ∧ sliceM c k c.gs.length = b) ∧ (composeE a b = 0 ∧ composeM a b = c) ∧ (widenE c (c.w + m) (c.b + n) = 0 ∧ widenM c (c.w + m) (c.b + n) = d) ∧
    (depthR c ≤ depthR a + depthR b ∧ depthR a ≤ depthR c ∧ depthR b ≤ depthR c ∧ 0 ≤ depthR a ∧ 0 ≤ depthR b ∧ depthR c ≤ c.gs.length) ∧ depthR d = depthR c ∧ usedR d = usedR c := by
  intro a b d
  have hr := CR.of hc
  have w0 := hr.w0; have b0 := hr.b0; have n0 := hr.n0
  have ha : checkM a = 0 := checkM_of ⟨by omega, by omega⟩ ⟨by omega, by omega⟩ (by simp; omega) fun g hg => hr.cg g (List.mem_of_mem_take hg)
  have hbb : checkM b = 0 := checkM_of ⟨by omega, by omega⟩ ⟨by omega, by omega⟩ (by simp; omega) fun g hg => hr.cg g (List.mem_of_mem_drop hg)
  have hd : checkM d = 0 := checkM_of ⟨by omega, by omega⟩ ⟨by omega, by omega⟩ (by omega) fun g hg => cg_wide (hr.cg g hg) (by omega) (by omega)
  have s1 : sliceE c 0 k = 0 := by unfold sliceE; rw [if_neg (by simp [hc]), if_neg (by omega)]
  have s2 : sliceE c k c.gs.length = 0 := by unfold sliceE; rw [if_neg (by simp [hc]), if_neg (by omega)]
  have e1 : composeE a b = 0 := by
    unfold composeE
    rw [if_neg (by simp [ha]), if_neg (by simp [hbb]), if_neg (by simp [a, b]), if_neg (by simp [a, b]; omega)]
  have w1 : widenE c (c.w + m) (c.b + n) = 0 := by unfold widenE; rw [if_neg (by simp [hc]), if_neg (by omega)]
  obtain ⟨lc, dc, _, dc0, dc1⟩ := ly_dep hc
  obtain ⟨la, da, _, da0, _⟩ := ly_dep ha
  obtain ⟨lb, db, _, db0, _⟩ := ly_dep hbb
  obtain ⟨c1, c2, c3⟩ := cut_depth hk la lb lc
  refine ⟨⟨ha, hbb, hd⟩, ⟨s1, ?_, s2, ?_⟩, ⟨e1, ?_⟩, ⟨w1, ?_⟩, ⟨by omega, by omega, by omega, by omega, by omega, dc1⟩, ?_, ?_⟩
  · unfold sliceM; rw [if_pos s1]; simp [a]
  · unfold sliceM; rw [if_pos s2]; simp [b]
  · unfold composeM; rw [if_pos e1]; simp [a, b]
  · unfold widenM; rw [if_pos w1]
  · unfold depthR; rw [if_pos hc, if_pos hd]; rfl
  · unfold usedR
    rw [if_pos hc, if_pos hd]
    show usedL c.gs (c.w + m).toNat = usedL c.gs c.w.toNat
    rw [show (c.w + m).toNat = c.w.toNat + m.toNat by omega]
    exact used_wide (fun g hg x hx => by have := cg_rng2 (hr.cg g hg) x hx; omega) _
theorem E_cv8 {B : Nat → Prop} {T : Nat → Option KFunc} {fi : FI} {prs : List (Nat × Nat)} {i : Nat} {d : Option Nat} {r : List KOper} {fr : Nat → Value} {h : Heap} {m : List Nat} {K : (Nat → Value) → Heap → List Nat → Prop} {x : KO} {a : Int} (hx : x.ev fr = .int .u8 a) (ha : 0 ≤ a ∧ a ≤ 255) (H : AE B T fi prs (i + 1) r (put fr d (.int .i64 a)) h m K) : AE B T fi prs i (⟨d, .cv .i64 x, none⟩ :: r) fr h m K :=
  E_no (by simp only [kop, hx]; rw [wrap_in (by omega) (by omega)]) H
set_option maxRecDepth 100000 in
theorem cut_run (H : Heap) (pb pk : Pl) (bs kl : List Int) (pl : Bool) (at_ more : Int) (hat : 0 ≤ at_ ∧ at_ ≤ 255) (hmore : 0 ≤ more ∧ more ≤ 255) (hB : Byts allB H pb bs) (hl : bs.length < 9223372036854775808) (hg : rowGet H ⟨0, 0, none⟩ 1 = some [.slice pk.1 kl.length pk.2]) (h0 : 0 < H.length) (hkl : Ints allB H pk kl) (hk : kl = [1, 2, 3, 4, 5, 6, 7, 8, 9, 10, 11, 12]) : ∃ v h', Ret (tab Tryd.prog) 7 [.slice pb.1 bs.length pb.2, .int .u8 at_, .int .u8 more, .bool pl] H v h' ∧ v = .bool true := by
  have hne : 0 < kl.length ∧ kl.length < 100 := by rw [hk]; decide
  have hkk : ∀ x ∈ kl, 1 ≤ x ∧ x ≤ 12 := by rw [hk]; decide
  have h1 : arityM (kl[0]'hne.1) = 1 := by subst hk; rfl
  have key : ACall (tab Tryd.prog) 7 [.slice pb.1 bs.length pb.2, .int .u8 at_, .int .u8 more, .bool pl] H fun u _ => u = .bool true := by
    refine ACall_ownR k207 rfl ?_
    refine AX_seq (AX_E (E_mv (v := .bool _) rfl (E_nil (AX_seq (AX_E (E_mv (v := .slice _ _ _) rfl ?_))))))
    obtain ⟨s, X20, hr20, hsH, so20⟩ := sof_ret H pb bs hB hl
    obtain ⟨KA, hKA⟩ : ∃ K : Heap, K = H ++ X20 := ⟨_, rfl⟩
    rw [← hKA] at hr20 so20
    obtain ⟨N, hN⟩ : ∃ n : Nat, n = KA.length := ⟨_, rfl⟩
    rw [← hN] at so20
    have soKA := so20
    have kqKA : Kp (fun b => b = s) H KA := by rw [hKA]; exact Kp.app
    have lKA : H.length ≤ KA.length := kqKA.len
    have hsN := so20.1
    have klA : Ints (fun b => b < N ∧ b ≠ s) KA pk kl := Cells.congr (ints_lt hkl) (fun b hb => by have := hb.2; omega) (fun b hb hl => kqKA.keep b hl (by have := hb.2; omega))
    have gA : rowGet KA ⟨0, 0, none⟩ 1 = some [.slice pk.1 kl.length pk.2] := (rowGet_ne (kqKA.keep 0 h0 (by omega))).trans hg
    refine E_callU rfl hr20 rfl (E_mv (v := .bool _) rfl ?_)
    obtain ⟨c, q22, U37, hr37, hb37, ga22, soU37, kpU37⟩ := steered_ret N KA s 0 pl pk kl soKA (by omega) gA ⟨by omega, by omega⟩ klA hne hkk h1
    have kqU37 : Kp (fun b => b = s) H U37 := kqKA.trans kpU37 (fun _ _ x => x) (fun _ _ x => x)
    have leU37 : KA.length ≤ U37.length := kpU37.len
    have lhU37 : H.length ≤ U37.length := kqU37.len
    refine E_callU rfl hr37 rfl (E_new (E_stO (k := 0) rfl rfl (v := .agg _) rfl rfl rfl rfl (E_nil (AX_seq (AX_E (E_mv (v := .int .u8 at_) rfl (E_cv8 rfl hat (E_fa rfl (E_ldO (k := 0) (v := .slice _ _ _) rfl rfl (E_len (n := (c.gs).length) rfl (E_addI rfl rfl (by first | omega | (simp; done) | (simp; omega)) (by first | omega | (simp; done) | (simp; omega)) (E_rem rfl rfl (by omega) (by omega) fun k hk => (E_mv (v := .int .i64 ((k : Int))) rfl (E_nil (AX_seq (AX_E (E_ldON (k := 0) rfl rfl (E_mv (v := .int .i64 ((k : Int))) rfl ?_))))))))))))))))))
    obtain ⟨ca, eca⟩ : ∃ x : C, x = ⟨c.w, c.b, c.gs.take k⟩ := ⟨_, rfl⟩
    obtain ⟨cb, ecb⟩ : ∃ x : C, x = ⟨c.w, c.b, c.gs.drop k⟩ := ⟨_, rfl⟩
    obtain ⟨⟨ha, hb, _⟩, ⟨s1, s2, s3, s4⟩, ⟨e1, e2⟩, _, hdep, _, _⟩ := cut_facts (k := k) (m := 0) (n := 0) hb37.1 (by omega) (by omega) (by omega) (by omega) (by omega)
    have hr := CR.of hb37.1
    rw [← eca] at s2 ha e1 e2 hdep
    rw [← ecb] at s4 hb e1 e2 hdep
    have lna : ca.gs.length = k := by rw [eca]; simp; omega
    have lnb : cb.gs.length ≤ 14 := by rw [ecb]; simp; omega
    have lc : lens c.gs := ⟨by omega, fun g hg => by have := (hr.gr hg).len; omega⟩
    obtain ⟨X1, q1, hr1, f1⟩ := pslice_ret (U37 ++ [CO.row [.int .i64 (c.w), .int .i64 (c.b), .slice (q22).1 (c.gs).length (q22).2] true none]) c _ 0 (k : Int) (gates_lt2 ga22).app (by omega)
    rw [s1, s2] at hr1
    rw [s2] at f1
    obtain ⟨K2, hK2⟩ : ∃ K : Heap, K = U37 ++ ([CO.row [.int .i64 (c.w), .int .i64 (c.b), .slice (q22).1 (c.gs).length (q22).2] true none] ++ X1) := ⟨_, rfl⟩
    have lK2 : U37.length + 1 ≤ K2.length := by rw [hK2]; simp only [List.length_append, List.length_cons, List.length_nil]; omega
    have pK2 : U37 <+: K2 := by rw [hK2]; exact List.prefix_append _ _
    have fk3 : GatesP (fun b => (U37.length + 1 ≤ b ∧ b < K2.length)) K2 (q1) (ca.gs) := f1.atS (by simp) hK2
    refine E_callX (X := X1) rfl (hr1) (E_hp (h' := K2 ++ []) (congrArg (fun x : Heap => x ++ []) hK2.symm) (E_mv (v := .tuple _) rfl (E_ext (v := .agg _) rfl rfl (E_ext (v := .int .i64 (0)) rfl rfl (E_new (E_stO (k := 0) rfl rfl (v := .agg _) rfl rfl rfl rfl (E_mv (v := .int .i64 (0)) rfl (E_nil (AX_seq (AX_E (E_ldBN (cs := [.int .i64 (c.w), .int .i64 (c.b), .slice (q22).1 (c.gs).length (q22).2]) rfl (rowGet_eq hK2 (rowGet_own (k := 0) rfl)) (E_mv (v := .int .i64 ((k : Int))) rfl (E_fa rfl (E_ldB (v := .slice _ _ _) rfl (rowGet_eq hK2 (rowGet_own (k := 0) rfl)) (E_len (n := (c.gs).length) rfl ?_)))))))))))))))
    obtain ⟨X4, q4, hr4, f4⟩ := pslice_ret (K2 ++ [CO.row [.int .i64 (ca.w), .int .i64 (ca.b), .slice (q1).1 (ca.gs).length (q1).2] true none]) c _ (k : Int) (c.gs.length : Int) ((gates_lt2 ga22).lift hK2).app (by omega)
    rw [s3, s4] at hr4
    rw [s4] at f4
    obtain ⟨K5, hK5⟩ : ∃ K : Heap, K = K2 ++ ([CO.row [.int .i64 (ca.w), .int .i64 (ca.b), .slice (q1).1 (ca.gs).length (q1).2] true none] ++ X4) := ⟨_, rfl⟩
    have lK5 : K2.length + 1 ≤ K5.length := by rw [hK5]; simp only [List.length_append, List.length_cons, List.length_nil]; omega
    have pK5 : U37 <+: K5 := by rw [hK5]; exact (pK2).trans (List.prefix_append _ _)
    have fk6 : GatesP (fun b => (K2.length + 1 ≤ b ∧ b < K5.length)) K5 (q4) (cb.gs) := f4.atS (by simp) hK5
    refine E_callX (X := X4) rfl (hr4) (E_hp (h' := K5 ++ []) (congrArg (fun x : Heap => x ++ []) hK5.symm) (E_mv (v := .tuple _) rfl (E_ext (v := .agg _) rfl rfl (E_ext (v := .int .i64 (0)) rfl rfl (E_new (E_stO (k := 0) rfl rfl (v := .agg _) rfl rfl rfl rfl (E_mv (v := .int .i64 (0)) rfl (E_nil (AX_seq (AX_E (E_ldBN (cs := [.int .i64 (ca.w), .int .i64 (ca.b), .slice (q1).1 (ca.gs).length (q1).2]) rfl (rowGet_eq hK5 (rowGet_own (k := 0) rfl)) (E_ldON (k := 0) rfl rfl ?_))))))))))))
    obtain ⟨X7, q7, hr7, f7⟩ := pcompose_ret (K5 ++ [CO.row [.int .i64 (cb.w), .int .i64 (cb.b), .slice (q4).1 (cb.gs).length (q4).2] true none]) ca cb _ _ (fk3.lift hK5).gates.app.all fk6.gates.app.all (by omega) (by omega)
    rw [e1, e2] at hr7
    rw [e2] at f7
    obtain ⟨K8, hK8⟩ : ∃ K : Heap, K = K5 ++ ([CO.row [.int .i64 (cb.w), .int .i64 (cb.b), .slice (q4).1 (cb.gs).length (q4).2] true none] ++ X7) := ⟨_, rfl⟩
    have lK8 : K5.length + 1 ≤ K8.length := by rw [hK8]; simp only [List.length_append, List.length_cons, List.length_nil]; omega
    have pK8 : U37 <+: K8 := by rw [hK8]; exact (pK5).trans (List.prefix_append _ _)
    have fk9 : GatesP (fun b => (K5.length + 1 ≤ b ∧ b < K8.length)) K8 (q7) (c.gs) := f7.atS (by simp) hK8
    refine E_callX (X := X7) rfl (hr7) (E_hp (h' := K8 ++ []) (congrArg (fun x : Heap => x ++ []) hK8.symm) (E_mv (v := .tuple _) rfl (E_ext (v := .agg _) rfl rfl (E_ext (v := .int .i64 (0)) rfl rfl (E_new (E_stO (k := 0) rfl rfl (v := .agg _) rfl rfl rfl rfl (E_mv (v := .int .i64 (0)) rfl (E_nil (AX_seq (AX_E (E_ldBN (cs := [.int .i64 (ca.w), .int .i64 (ca.b), .slice (q1).1 (ca.gs).length (q1).2]) rfl (rowGet_lift hK8 (rowGet_eq hK5 (rowGet_own (k := 0) rfl))) (E_callV rfl ((by have h9 := pcount_ret (K8 ++ [CO.row [.int .i64 (c.w), .int .i64 (c.b), .slice (q7).1 (c.gs).length (q7).2] true none]) ca _ ((fk3.lift hK5).lift hK8).gates.app (by omega); rwa [if_pos ha, ha] at h9)) (E_mv (v := .tuple _) rfl (E_ext (v := .agg _) rfl rfl (E_ext (v := .int .i64 (0)) rfl rfl (E_new (E_stO (k := 1) (ob := .row (il (countL ca.gs)) true none) rfl rfl (v := .agg _) rfl rfl rfl rfl (E_mv (v := .int .i64 (0)) rfl (E_nil (AX_seq (AX_E (E_ldBN (cs := [.int .i64 (cb.w), .int .i64 (cb.b), .slice (q4).1 (cb.gs).length (q4).2]) rfl (rowGet_eq hK8 (rowGet_own (k := 0) rfl)) (E_callV rfl ((by have h9 := pcount_ret (K8 ++ [CO.row [.int .i64 (c.w), .int .i64 (c.b), .slice (q7).1 (c.gs).length (q7).2] true none, CO.row (il (countL ca.gs)) true none]) cb _ (fk6.lift hK8).gates.app (by omega); rwa [if_pos hb, hb] at h9)) (E_mv (v := .tuple _) rfl (E_ext (v := .agg _) rfl rfl (E_ext (v := .int .i64 (0)) rfl rfl (E_new (E_stO (k := 2) (ob := .row (il (countL cb.gs)) true none) rfl rfl (v := .agg _) rfl rfl rfl rfl (E_mv (v := .int .i64 (0)) rfl (E_nil (AX_seq (AX_E (E_ldBN (cs := [.int .i64 (c.w), .int .i64 (c.b), .slice (q22).1 (c.gs).length (q22).2]) rfl (rowGet_lift hK8 (rowGet_lift hK5 (rowGet_eq hK2 (rowGet_own (k := 0) rfl)))) (E_callV rfl ((by have h9 := pcount_ret (K8 ++ [CO.row [.int .i64 (c.w), .int .i64 (c.b), .slice (q7).1 (c.gs).length (q7).2] true none, CO.row (il (countL ca.gs)) true none, CO.row (il (countL cb.gs)) true none]) c _ ((((gates_lt2 ga22).lift hK2).lift hK5).lift hK8).app (by omega); rwa [if_pos hb37.1, hb37.1] at h9)) (E_mv (v := .tuple _) rfl (E_ext (v := .agg _) rfl rfl (E_ext (v := .int .i64 (0)) rfl rfl (E_new (E_stO (k := 3) (ob := .row (il (countL c.gs)) true none) rfl rfl (v := .agg _) rfl rfl rfl rfl (E_mv (v := .int .i64 (0)) rfl (E_nil (AX_seq (AX_E (E_ldBN (cs := [.int .i64 (ca.w), .int .i64 (ca.b), .slice (q1).1 (ca.gs).length (q1).2]) rfl (rowGet_lift hK8 (rowGet_eq hK5 (rowGet_own (k := 0) rfl))) (E_callV rfl ((by have h9 := pdepth_ret (K8 ++ [CO.row [.int .i64 (c.w), .int .i64 (c.b), .slice (q7).1 (c.gs).length (q7).2] true none, CO.row (il (countL ca.gs)) true none, CO.row (il (countL cb.gs)) true none, CO.row (il (countL c.gs)) true none]) ca _ ((fk3.lift hK5).lift hK8).gates.app (by omega); rwa [ha] at h9)) (E_mv (v := .tuple _) rfl (E_ext (v := .int .i64 ((depthR ca))) rfl rfl (E_ext (v := .int .i64 (0)) rfl rfl (E_mv (v := .int .i64 ((depthR ca))) rfl (E_mv (v := .int .i64 (0)) rfl (E_nil (AX_seq (AX_E (E_ldBN (cs := [.int .i64 (cb.w), .int .i64 (cb.b), .slice (q4).1 (cb.gs).length (q4).2]) rfl (rowGet_eq hK8 (rowGet_own (k := 0) rfl)) (E_callV rfl ((by have h9 := pdepth_ret (K8 ++ [CO.row [.int .i64 (c.w), .int .i64 (c.b), .slice (q7).1 (c.gs).length (q7).2] true none, CO.row (il (countL ca.gs)) true none, CO.row (il (countL cb.gs)) true none, CO.row (il (countL c.gs)) true none]) cb _ (fk6.lift hK8).gates.app (by omega); rwa [hb] at h9)) (E_mv (v := .tuple _) rfl (E_ext (v := .int .i64 ((depthR cb))) rfl rfl (E_ext (v := .int .i64 (0)) rfl rfl (E_mv (v := .int .i64 ((depthR cb))) rfl (E_mv (v := .int .i64 (0)) rfl (E_nil (AX_seq (AX_E (E_ldBN (cs := [.int .i64 (c.w), .int .i64 (c.b), .slice (q22).1 (c.gs).length (q22).2]) rfl (rowGet_lift hK8 (rowGet_lift hK5 (rowGet_eq hK2 (rowGet_own (k := 0) rfl)))) (E_callV rfl ((by have h9 := pdepth_ret (K8 ++ [CO.row [.int .i64 (c.w), .int .i64 (c.b), .slice (q7).1 (c.gs).length (q7).2] true none, CO.row (il (countL ca.gs)) true none, CO.row (il (countL cb.gs)) true none, CO.row (il (countL c.gs)) true none]) c _ ((((gates_lt2 ga22).lift hK2).lift hK5).lift hK8).app (by omega); rwa [hb37.1] at h9)) (E_mv (v := .tuple _) rfl (E_ext (v := .int .i64 ((depthR c))) rfl rfl (E_ext (v := .int .i64 (0)) rfl rfl (E_mv (v := .int .i64 ((depthR c))) rfl (E_mv (v := .int .i64 (0)) rfl (E_nil (AX_seq (AX_seq (AX_E (E_mv (v := .int .i64 (0)) rfl (E_neqS rfl rfl (fun c97 => ?_) (fun c97 => ?_)))))))))))))))))))))))))))))))))))))))))))))))))))))))))))))))))))))))))))))
    · exact (c97 rfl).elim
    · refine E_mv (v := .bool _) rfl (E_on rfl (E_mv (v := .int .i64 (0)) rfl (E_on rfl (E_neqS rfl rfl (fun c100 => ?_) (fun c100 => ?_)))))
      · exact (c100 rfl).elim
      · refine E_pickF rfl (v := .bool _) rfl (E_mv (v := .bool _) rfl (E_on rfl (E_mv (v := .int .i64 (0)) rfl (E_on rfl (E_neqS rfl rfl (fun c104 => ?_) (fun c104 => ?_))))))
        · exact (c104 rfl).elim
        · refine E_pickF rfl (v := .bool _) rfl (E_mv (v := .bool _) rfl (E_on rfl (E_mv (v := .int .i64 (0)) rfl (E_on rfl (E_neqS rfl rfl (fun c108 => ?_) (fun c108 => ?_))))))
          · exact (c108 rfl).elim
          · refine E_pickF rfl (v := .bool _) rfl (E_mv (v := .bool _) rfl (E_on rfl (E_mv (v := .int .i64 (0)) rfl (E_on rfl (E_neqS rfl rfl (fun c112 => ?_) (fun c112 => ?_))))))
            · exact (c112 rfl).elim
            · refine E_pickF rfl (v := .bool _) rfl (E_mv (v := .bool _) rfl (E_on rfl (E_mv (v := .int .i64 (0)) rfl (E_on rfl (E_neqS rfl rfl (fun c116 => ?_) (fun c116 => ?_))))))
              · exact (c116 rfl).elim
              · refine E_pickF rfl (v := .bool _) rfl (E_mv (v := .bool _) rfl (E_on rfl (E_mv (v := .int .i64 (0)) rfl (E_on rfl (E_neqS rfl rfl (fun c120 => ?_) (fun c120 => ?_))))))
                · exact (c120 rfl).elim
                · refine E_pickF rfl (v := .bool _) rfl (E_mv (v := .bool _) rfl (E_on rfl (E_mv (v := .int .i64 (0)) rfl (E_on rfl (E_neqS rfl rfl (fun c124 => ?_) (fun c124 => ?_))))))
                  · exact (c124 rfl).elim
                  · refine E_pickF rfl (v := .bool _) rfl (E_mv (v := .bool _) rfl (E_on rfl (E_mv (v := .int .i64 (0)) rfl (E_on rfl (E_neqS rfl rfl (fun c128 => ?_) (fun c128 => ?_))))))
                    · exact (c128 rfl).elim
                    · refine E_pickF rfl (v := .bool _) rfl (E_mv (v := .bool _) rfl (E_on rfl (E_ldON (k := 0) rfl rfl (E_on rfl (E_ldBN (cs := [.int .i64 (c.w), .int .i64 (c.b), .slice (q22).1 (c.gs).length (q22).2]) rfl (rowGet_lift hK8 (rowGet_lift hK5 (rowGet_eq hK2 (rowGet_own (k := 0) rfl)))) (E_on rfl (E_callP rfl (kcsame_ret _ c c _ _ fk9.gates.app ((((gates_lt2 ga22).lift hK2).lift hK5).lift hK8).app (by assumption)) (fun c133 => ?_) (fun c133 => ?_))))))))
                      · refine E_on rfl (E_notV rfl rfl (E_pickF rfl (v := .bool _) rfl (E_mv (v := .bool _) rfl (E_on rfl (E_fa rfl (E_on rfl (E_ldB (v := .slice _ _ _) rfl (rowGet_lift hK8 (rowGet_eq hK5 (rowGet_own (k := 0) rfl))) (E_on rfl (E_len (n := (ca.gs).length) rfl (E_on rfl (E_mv (v := .int .i64 ((k : Int))) rfl (E_on rfl (E_neqS rfl rfl (fun c141 => ?_) (fun c141 => ?_))))))))))))))
                        · omega
                        · refine E_pickF rfl (v := .bool _) rfl (E_mv (v := .bool _) rfl (E_on rfl (E_mv (v := .int .i64 ((depthR ca))) rfl (E_on rfl (E_mv (v := .int .i64 ((depthR cb))) rfl (E_on rfl (E_addI rfl rfl (by first | omega | (simp; done) | (simp; omega)) (by first | omega | (simp; done) | (simp; omega)) (E_on rfl (E_mv (v := .int .i64 ((depthR c))) rfl (E_on rfl (E_lssS rfl rfl (fun c148 => ?_) (fun c148 => ?_))))))))))))
                          · omega
                          · refine E_pickF rfl (v := .bool _) rfl (E_mv (v := .bool _) rfl (E_on rfl (E_mv (v := .int .i64 ((depthR c))) rfl (E_on rfl (E_mv (v := .int .i64 ((depthR ca))) rfl (E_on rfl (E_mv (v := .int .i64 ((depthR cb))) rfl (E_on rfl (E_mx2 rfl rfl (E_on rfl (E_lssS rfl rfl (fun c155 => ?_) (fun c155 => ?_))))))))))))
                            · split at c155 <;> omega
                            · refine E_pickF rfl (v := .bool _) rfl (E_mv (v := .bool _) rfl (E_on rfl (E_mv (v := .int .i64 ((depthR c))) rfl (E_on rfl (E_fa rfl (E_on rfl (E_ldB (v := .slice _ _ _) rfl (rowGet_lift hK8 (rowGet_lift hK5 (rowGet_eq hK2 (rowGet_own (k := 0) rfl)))) (E_on rfl (E_len (n := (c.gs).length) rfl (E_on rfl (E_gtrS rfl rfl (fun c162 => ?_) (fun c162 => ?_))))))))))))
                              · omega
                              · refine E_pickF rfl (v := .bool _) rfl (E_nil (AX_condF rfl (AX_skip (AX_seq (AX_seq (AX_E (E_mv (v := .int .i64 (0)) rfl (E_nil (AX_block ?_)))))))))
                                refine AX_loopF (γ := Nat) (fun j => [(2, .int .u8 more), (9, .pointer (some ⟨(U37).length + 0, 0, none⟩)), (17, .pointer (some ⟨(K8).length + 1, 0, none⟩)), (19, .pointer (some ⟨(K8).length + 2, 0, none⟩)), (21, .pointer (some ⟨(K8).length + 3, 0, none⟩)), (27, .int .i64 ((depthR c))), (164, .int .i64 ((j : Int)))]) (fun j h_ m_ => h_ = K8 ++ [CO.row [.int .i64 (c.w), .int .i64 (c.b), .slice (q7).1 (c.gs).length (q7).2] true none, CO.row (il (countL ca.gs)) true none, CO.row (il (countL cb.gs)) true none, CO.row (il (countL c.gs)) true none] ∧ m_ = [] ∧ j ≤ 14) (fun j => 14 - j) (0) ⟨rfl, rfl, rfl, rfl, rfl, rfl, rfl, trivial⟩ ⟨rfl, rfl, ?_⟩ ?_
                                · omega
                                rintro j fr0 h0 m0 ⟨rfl, rfl, inv0⟩ K0 hN0 hR0 hE0
                                refine AX_seq (AX_E (E_lssS rfl rfl (fun c165 => ?_) (fun c165 => ?_)))
                                · refine E_nil (AX_seq (AX_condT rfl (AX_skip (AX_seq (AX_block (AX_seq (AX_E (E_mv (v := .int .i64 ((j : Int))) rfl (E_mv (v := .int .i64 ((j : Int))) rfl (E_nil (AX_seq (AX_E (E_mv (v := .int .i64 ((j : Int))) rfl (E_iaA (j := j) rfl rfl rfl (by first | omega | (simp; done) | (simp; omega)) (E_ldO (k := 1) (v := .int .i64 ((countL ca.gs) j)) rfl (il_get (f := countL ca.gs) (j := j) rfl (by first | omega | (simp; done) | (simp; omega))) (E_mv (v := .int .i64 ((j : Int))) rfl (E_iaA (j := j) rfl rfl rfl (by first | omega | (simp; done) | (simp; omega)) (E_ldO (k := 2) (v := .int .i64 ((countL cb.gs) j)) rfl (il_get (f := countL cb.gs) (j := j) rfl (by first | omega | (simp; done) | (simp; omega))) (E_addI rfl rfl (by have h7 := count_le ca.gs j; have h8 := count_le cb.gs j; omega) (by have h7 := count_le ca.gs j; have h8 := count_le cb.gs j; omega) (E_mv (v := .int .i64 ((j : Int))) rfl (E_iaA (j := j) rfl rfl rfl (by first | omega | (simp; done) | (simp; omega)) (E_ldO (k := 3) (v := .int .i64 ((countL c.gs) j)) rfl (il_get (f := countL c.gs) (j := j) rfl (by first | omega | (simp; done) | (simp; omega))) (E_neqS rfl rfl (fun c177 => ?_) (fun c177 => ?_))))))))))))))))))))))))
                                  · have h7 := count_cut c.gs k j; rw [eca, ecb] at c177; exact (c177 h7).elim
                                  · refine E_nil (AX_condF rfl (AX_skip (AX_E (E_addI rfl rfl (by first | omega | (simp; done) | (simp; omega)) (by first | omega | (simp; done) | (simp; omega)) (E_mv (v := .int .i64 (((j : Int) + 1))) rfl (E_nil ?_))))))
                                    refine hN0 (j + 1) _ _ _ ⟨by first | rfl | (congr 1; omega), by first | rfl | (congr 1; omega), by first | rfl | (congr 1; omega), by first | rfl | (congr 1; omega), by first | rfl | (congr 1; omega), by first | rfl | (congr 1; omega), by first | rfl | (congr 1; omega), trivial⟩ ⟨rfl, rfl, ?_⟩ ?_
                                    -- n1
                                    all_goals clear hN0 hR0 hE0
                                    · omega
                                    · (first | omega | (simp; omega))
                                · refine E_nil (AX_seq (AX_condF rfl (AX_exit (hE0 _ _ _ _ (AX_seq (AX_E (E_ldBN (cs := [.int .i64 (c.w), .int .i64 (c.b), .slice (q22).1 (c.gs).length (q22).2]) rfl (rowGet_lift hK8 (rowGet_lift hK5 (rowGet_eq hK2 (rowGet_own (k := 0) rfl)))) (E_fa rfl (E_ldB (v := .int .i64 (c.w)) rfl (rowGet_lift hK8 (rowGet_lift hK5 (rowGet_eq hK2 (rowGet_own (k := 0) rfl)))) (E_mv (v := .int .u8 more) rfl (E_cv8 rfl hmore (E_rem rfl rfl (by omega) (by omega) fun m4 hm4 => (E_addI rfl rfl (by have := hr.w0; have := hr.b0; omega) (by have := hr.w0; have := hr.b0; omega) (E_fa rfl (E_ldB (v := .int .i64 (c.b)) rfl (rowGet_lift hK8 (rowGet_lift hK5 (rowGet_eq hK2 (rowGet_own (k := 0) rfl)))) (E_mv (v := .int .u8 more) rfl (E_cv8 rfl hmore (E_rem rfl rfl (by omega) (by omega) fun n3 hn3 => (E_addI rfl rfl (by have := hr.w0; have := hr.b0; omega) (by have := hr.w0; have := hr.b0; omega) ?_)))))))))))))))))))
                                  obtain ⟨cd, ecd⟩ : ∃ x : C, x = ⟨c.w + m4, c.b + n3, c.gs⟩ := ⟨_, rfl⟩
                                  obtain ⟨⟨_, _, hd⟩, _, _, ⟨w1, w2⟩, _, hdd, hud⟩ := cut_facts (k := 0) (m := m4) (n := n3) hb37.1 (by omega) (by omega) (by omega) (by omega) (by omega)
                                  rw [← ecd] at hd w2 hdd hud
                                  have lnd : cd.gs = c.gs := by rw [ecd]
                                  have lnd2 : cd.gs.length ≤ 14 := by rw [lnd]; omega
                                  obtain ⟨X10, q10, hr10, f10⟩ := pwiden_ret (K8 ++ [CO.row [.int .i64 (c.w), .int .i64 (c.b), .slice (q7).1 (c.gs).length (q7).2] true none, CO.row (il (countL ca.gs)) true none, CO.row (il (countL cb.gs)) true none, CO.row (il (countL c.gs)) true none]) c _ (c.w + m4) (c.b + n3) ((((gates_lt2 ga22).lift hK2).lift hK5).lift hK8).app (by omega)
                                  rw [w1, w2] at hr10
                                  rw [w2] at f10
                                  obtain ⟨K11, hK11⟩ : ∃ K : Heap, K = K8 ++ ([CO.row [.int .i64 (c.w), .int .i64 (c.b), .slice (q7).1 (c.gs).length (q7).2] true none, CO.row (il (countL ca.gs)) true none, CO.row (il (countL cb.gs)) true none, CO.row (il (countL c.gs)) true none] ++ X10) := ⟨_, rfl⟩
                                  have lK11 : K8.length + 4 ≤ K11.length := by rw [hK11]; simp only [List.length_append, List.length_cons, List.length_nil]; omega
                                  have pK11 : U37 <+: K11 := by rw [hK11]; exact (pK8).trans (List.prefix_append _ _)
                                  have fk12 : GatesP (fun b => (K8.length + 4 ≤ b ∧ b < K11.length)) K11 (q10) (cd.gs) := f10.atS (by simp) hK11
                                  refine E_callX (X := X10) rfl (hr10) (E_hp (h' := K11 ++ []) (congrArg (fun x : Heap => x ++ []) hK11.symm) (E_mv (v := .tuple _) rfl (E_ext (v := .agg _) rfl rfl (E_ext (v := .int .i64 (0)) rfl rfl (E_new (E_stO (k := 0) rfl rfl (v := .agg _) rfl rfl rfl rfl (E_mv (v := .int .i64 (0)) rfl (E_nil (AX_seq (AX_E (E_ldON (k := 0) rfl rfl (E_callV rfl ((by have h9 := pdepth_ret (K11 ++ [CO.row [.int .i64 (cd.w), .int .i64 (cd.b), .slice (q10).1 (cd.gs).length (q10).2] true none]) cd _ fk12.gates.app (by rw [lnd]; omega); rwa [hd] at h9)) (E_mv (v := .tuple _) rfl (E_ext (v := .int .i64 ((depthR cd))) rfl rfl (E_ext (v := .int .i64 (0)) rfl rfl (E_mv (v := .int .i64 ((depthR cd))) rfl (E_mv (v := .int .i64 (0)) rfl (E_nil (AX_seq (AX_E (E_ldON (k := 0) rfl rfl ?_)))))))))))))))))))))
                                  obtain ⟨X13, q13, hr13, f13⟩ := pused_ret (K11 ++ [CO.row [.int .i64 (cd.w), .int .i64 (cd.b), .slice (q10).1 (cd.gs).length (q10).2] true none]) cd _ fk12.gates.app (by omega)
                                  obtain ⟨K14, hK14⟩ : ∃ K : Heap, K = K11 ++ ([CO.row [.int .i64 (cd.w), .int .i64 (cd.b), .slice (q10).1 (cd.gs).length (q10).2] true none] ++ X13) := ⟨_, rfl⟩
                                  have lK14 : K11.length + 1 ≤ K14.length := by rw [hK14]; simp only [List.length_append, List.length_cons, List.length_nil]; omega
                                  have pK14 : U37 <+: K14 := by rw [hK14]; exact (pK11).trans (List.prefix_append _ _)
                                  have fk15 : Ints (fun b => (K11.length + 1 ≤ b ∧ b < K14.length)) K14 (q13) ((usedR cd)) := f13.atS (by simp) hK14
                                  refine E_callX (X := X13) rfl (hr13) (E_hp (h' := K14 ++ []) (congrArg (fun x : Heap => x ++ []) hK14.symm) (E_mv (v := .tuple _) rfl (E_ext (v := .slice _ _ _) rfl rfl (E_ext (v := .int .i64 ((checkM cd))) rfl rfl (E_mv (v := .slice _ _ _) rfl (E_mv (v := .int .i64 ((checkM cd))) rfl (E_nil (AX_seq (AX_E (E_ldBN (cs := [.int .i64 (c.w), .int .i64 (c.b), .slice (q22).1 (c.gs).length (q22).2]) rfl (rowGet_lift hK14 (rowGet_lift hK11 (rowGet_lift hK8 (rowGet_lift hK5 (rowGet_eq hK2 (rowGet_own (k := 0) rfl)))))) ?_))))))))))
                                  obtain ⟨X16, q16, hr16, f16⟩ := pused_ret (K14 ++ []) c _ ((((((gates_lt2 ga22).lift hK2).lift hK5).lift hK8).lift hK11).lift hK14).app (by omega)
                                  obtain ⟨K17, hK17⟩ : ∃ K : Heap, K = K14 ++ ([] ++ X16) := ⟨_, rfl⟩
                                  have lK17 : K14.length + 0 ≤ K17.length := by rw [hK17]; simp only [List.length_append, List.length_cons, List.length_nil]; omega
                                  have pK17 : U37 <+: K17 := by rw [hK17]; exact (pK14).trans (List.prefix_append _ _)
                                  have fk18 : Ints (fun b => (K14.length + 0 ≤ b ∧ b < K17.length)) K17 (q16) ((usedR c)) := f16.atS (by simp) hK17
                                  refine E_callX (X := X16) rfl (hr16) (E_hp (h' := K17 ++ []) (congrArg (fun x : Heap => x ++ []) hK17.symm) (E_mv (v := .tuple _) rfl (E_ext (v := .slice _ _ _) rfl rfl (E_ext (v := .int .i64 ((checkM c))) rfl rfl (E_mv (v := .slice _ _ _) rfl (E_mv (v := .int .i64 ((checkM c))) rfl (E_nil (AX_seq (AX_E (E_mv (v := .int .i64 (0)) rfl (E_eqlS rfl rfl (fun c212 => ?_) (fun c212 => ?_))))))))))))
                                  · refine E_mv (v := .bool _) rfl (E_on rfl (E_mv (v := .int .i64 (0)) rfl (E_on rfl (E_eqlS rfl rfl (fun c215 => ?_) (fun c215 => ?_)))))
                                    · refine E_pickT rfl (v := .bool _) rfl (E_mv (v := .bool _) rfl (E_on rfl (E_mv (v := .int .i64 ((checkM cd))) rfl (E_on rfl (E_eqlS rfl rfl (fun c219 => ?_) (fun c219 => ?_))))))
                                      · refine E_pickT rfl (v := .bool _) rfl (E_mv (v := .bool _) rfl (E_on rfl (E_mv (v := .int .i64 ((checkM c))) rfl (E_on rfl (E_eqlS rfl rfl (fun c223 => ?_) (fun c223 => ?_))))))
                                        · refine E_pickT rfl (v := .bool _) rfl (E_mv (v := .bool _) rfl (E_on rfl (E_mv (v := .int .i64 ((depthR cd))) rfl (E_on rfl (E_mv (v := .int .i64 ((depthR c))) rfl (E_on rfl (E_eqlS rfl rfl (fun c228 => ?_) (fun c228 => ?_))))))))
                                          · refine E_pickT rfl (v := .bool _) rfl (E_mv (v := .bool _) rfl (E_on rfl (E_mv (v := .slice _ _ _) rfl (E_on rfl (E_mv (v := .slice _ _ _) rfl (E_on rfl (E_callP rfl (equal_ret _ _ _ _ _ (fk15.lift hK17).app fk18.app (by have h7 := usedL_len cd.gs cd.w.toNat; rw [usedR, if_pos hd, usedM]; have := (CR.of hd).w0; omega)) (fun c233 => ?_) (fun c233 => ?_))))))))
                                            · refine E_pickT rfl (v := .bool _) rfl (E_mv (v := .bool _) rfl (E_on rfl (E_fa rfl (E_on rfl (E_ldB (v := .slice _ _ _) rfl (rowGet_lift hK17 (rowGet_eq hK14 (rowGet_own (k := 0) rfl))) (E_on rfl (E_fa rfl (E_on rfl (E_ldB (v := .slice _ _ _) rfl (rowGet_lift hK17 (rowGet_lift hK14 (rowGet_lift hK11 (rowGet_lift hK8 (rowGet_lift hK5 (rowGet_eq hK2 (rowGet_own (k := 0) rfl))))))) (E_on rfl (E_callP rfl (equalfunc_ret _ _ _ _ _ _ ((fk12.lift hK14).lift hK17).gates.app (((((((gates_lt2 ga22).lift hK2).lift hK5).lift hK8).lift hK11).lift hK14).lift hK17).app (by rw [lnd]; omega) (fun g h p q K hK hg e1 e2 => ksame_ret K g h p q e1 e2 (by rw [lnd] at hg; have := (hr.gr hg).len; omega))) (fun c240 => ?_) (fun c240 => ?_))))))))))))
                                              · refine E_pickT rfl (v := .bool _) rfl (E_mv (v := .bool _) rfl (E_on rfl (E_callV rfl (awake_ret _) (E_pickT rfl (v := .bool _) rfl (E_mv (v := .bool _) rfl (E_nil (AX_ret ?_)))))))
                                                exact ⟨_, rfl, by simp, rfl⟩
                                              · exact (c240 lnd).elim
                                            · exact (c233 hud).elim
                                          · exact (c228 hdd).elim
                                        · exact (c223 hb37.1).elim
                                      · exact (c219 hd).elim
                                    · exact (c215 rfl).elim
                                  · exact (c212 rfl).elim
                      · exact (c133 rfl).elim
  obtain ⟨q, v, u, hr, rfl⟩ := key
  exact ⟨_, u, ⟨q, hr⟩, rfl⟩
end Go.Canon
