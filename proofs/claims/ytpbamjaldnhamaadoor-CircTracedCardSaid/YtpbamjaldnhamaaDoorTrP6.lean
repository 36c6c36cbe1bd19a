/- CircTraced, part 6: the canonical machine and the runs of the program's functions on it. No conditions. -/
import Derived.Test.YtpbamjaldnhamaaDoorTrP5
namespace Go.Canon
open Go Go.Proofs
set_option linter.unusedVariables false
set_option linter.unusedSimpArgs false
def kf246 : KFunc := ⟨5, 68, [.cell 10 (some 3)], .seq (.reg [⟨some 10, .new [.int .i64 0, .int .i64 0, .slice none 0 0], none⟩] []) (.seq (.reg [⟨some 13, .mv (.t 1), none⟩, ⟨some 14, .mv (.t 2), none⟩, ⟨some 15, .mk [.int .i64 0, .int .i64 0, .slice none 0 0] [(0, 1, .t 13), (1, 1, .t 14)], none⟩, ⟨some 11, .new [.int .i64 0, .int .i64 0, .slice none 0 0], none⟩, ⟨none, .st (.t 11) (.t 15) 3, none⟩] []) (.seq (.seq (.reg [⟨some 16, .mv (.t 0), none⟩, ⟨some 17, .mv (.t 3), none⟩, ⟨some 18, .bin .add (.t 17) (.c (.int .i64 1)), none⟩, ⟨some 19, .call (.c (.func (.func 56) #[] #[])) [.t 16, .t 18], none⟩, ⟨some 20, .mv (.c (.int .i64 0)), none⟩] []) (.block 0 (.loop (.seq (.reg [⟨some 21, .bin .lss (.t 20) (.t 19), none⟩] []) (.seq (.cond (.t 21) .skip (.exit 0)) (.seq (.block 1 (.seq (.reg [⟨some 22, .mv (.t 0), none⟩, ⟨some 23, .mv (.t 1), none⟩, ⟨some 24, .mv (.t 4), none⟩, ⟨some 25, .call (.c (.func (.func 34) #[] #[])) [.t 22, .t 23, .t 24], none⟩, ⟨some 12, .new [.int .i64 0, .slice none 0 0, .int .i64 0, .int .i64 0], none⟩, ⟨none, .st (.t 12) (.t 25) 4, none⟩] []) (.seq (.block 2 (.seq (.reg [⟨some 27, .mv (.t 2), none⟩, ⟨some 28, .bin .gtr (.t 27) (.c (.int .i64 0)), none⟩, ⟨some 29, .mv (.t 28), none⟩, ⟨some 30, .mv (.t 0), some (29, true)⟩, ⟨some 31, .call (.c (.func (.func 77) #[] #[])) [.t 30, .c (.int .i64 5)], some (29, true)⟩, ⟨some 32, .pick (.t 29) (.t 31) (.c (.bool false)), none⟩, ⟨some 26, .mv (.t 32), none⟩] []) (.cond (.t 26) (.reg [⟨some 33, .mv (.t 0), none⟩, ⟨some 34, .mv (.t 1), none⟩, ⟨some 35, .call (.c (.func (.func 56) #[] #[])) [.t 33, .t 34], none⟩, ⟨some 36, .mkS [.int .i64 0] 1 [(0, 1, .t 35)], none⟩, ⟨some 37, .mv (.t 0), none⟩, ⟨some 38, .mv (.t 2), none⟩, ⟨some 39, .call (.c (.func (.func 56) #[] #[])) [.t 37, .t 38], none⟩, ⟨some 40, .mk [.int .i64 0, .slice none 0 0, .int .i64 0, .int .i64 0] [(0, 1, .c (.int .i64 13)), (1, 1, .t 36), (2, 1, .t 39)], none⟩, ⟨none, .st (.t 12) (.t 40) 4, none⟩] []) (.seq (.reg [⟨some 42, .mv (.t 0), none⟩, ⟨some 43, .call (.c (.func (.func 77) #[] #[])) [.t 42, .c (.int .i64 12)], none⟩, ⟨some 41, .mv (.t 43), none⟩] []) (.cond (.t 41) (.reg [⟨some 44, .mv (.t 0), none⟩, ⟨some 45, .mv (.t 1), none⟩, ⟨some 46, .call (.c (.func (.func 56) #[] #[])) [.t 44, .t 45], none⟩, ⟨some 47, .mkS [.int .i64 0] 1 [(0, 1, .t 46)], none⟩, ⟨some 48, .mk [.int .i64 0, .slice none 0 0, .int .i64 0, .int .i64 0] [(0, 1, .c (.int .i64 14)), (1, 1, .t 47)], none⟩, ⟨none, .st (.t 12) (.t 48) 4, none⟩] []) (.seq (.reg [⟨some 50, .mv (.t 2), none⟩, ⟨some 51, .bin .gtr (.t 50) (.c (.int .i64 0)), none⟩, ⟨some 52, .mv (.t 51), none⟩, ⟨some 53, .mv (.t 0), some (52, true)⟩, ⟨some 54, .call (.c (.func (.func 77) #[] #[])) [.t 53, .c (.int .i64 4)], some (52, true)⟩, ⟨some 55, .pick (.t 52) (.t 54) (.c (.bool false)), none⟩, ⟨some 49, .mv (.t 55), none⟩] []) (.cond (.t 49) (.reg [⟨some 56, .mv (.t 0), none⟩, ⟨some 57, .mv (.t 2), none⟩, ⟨some 58, .call (.c (.func (.func 20) #[] #[])) [.t 56, .c (.int .i64 1), .t 57], none⟩, ⟨some 59, .fa (.t 12) 3, none⟩, ⟨none, .st (.t 59) (.t 58) 1, none⟩] []) .skip))))))) (.reg [⟨some 60, .fa (.t 11) 2, none⟩, ⟨some 61, .ld (.t 60) none, none⟩, ⟨some 62, .ld (.t 12) (some 4), none⟩, ⟨some 63, .mkS [.int .i64 0, .slice none 0 0, .int .i64 0, .int .i64 0] 1 [(0, 4, .t 62)], none⟩, ⟨some 64, .app (.t 61) (.t 63) 4 48, none⟩, ⟨some 65, .fa (.t 11) 2, none⟩, ⟨none, .st (.t 65) (.t 64) 1, none⟩] [])))) (.reg [⟨some 66, .bin .add (.t 20) (.c (.int .i64 1)), none⟩, ⟨some 20, .mv (.t 66), none⟩] []))))))) (.seq (.reg [⟨some 67, .ld (.t 11) (some 3), none⟩, ⟨none, .st (.t 10) (.t 67) 3, none⟩] []) .ret)))⟩
theorem k246 : tab Tryd.prog 46 = some kf246 := by kernel_rfl
theorem ints_row {h : Heap} {b : Nat} {l : List Int} {cs : List Value} (hr : h[b]? = some (.row cs true none)) (hc : cs = l.map (.int .i64 ·)) : Ints (fun c => c = b) h (some ⟨b, 0, none⟩, l.length) l := by
  subst hc
  exact ⟨by simp, Nat.le_refl _, .inr ⟨b, 0, _, true, _, rfl, rfl, hr, by simp; right; rw [List.take_of_length_le (by simp)]⟩⟩
theorem ints_lt {S : Nat → Prop} {h : Heap} {p : Pl} {l : List Int} (H : Ints S h p l) : Ints (fun b => S b ∧ b < h.length) h p l := Cells.lt H
/-- A gate that Steered makes. -/
def SG (w b : Int) (kl : List Int) (g : G) : Prop := cgM g w b = 0 ∧ (g.k ∈ kl ∨ g.k = 13 ∨ g.k = 14)
theorem sg_up {w b : Int} {kl : List Int} {g : G} (hb : 0 ≤ b) (h : cgM g w 0 = 0 ∧ g.k ∈ kl ∧ g.b = 0 ∧ g.f = 0) (hk : ∀ x ∈ kl, 1 ≤ x ∧ x ≤ 12) {f : Int} (hf : 0 ≤ f ∧ f ≤ b) : SG w b kl ⟨g.k, g.ws, g.b, f⟩ := by
  refine ⟨?_, .inl h.2.1⟩
  have hkk := hk _ h.2.1
  have h0 := h.1
  unfold cgM at h0 ⊢
  dsimp only
  split at h0 <;> try omega
  split at h0 <;> try omega
  split at h0 <;> try omega
  split at h0 <;> try omega
  rename_i e1 e2 e3 e4
  rw [if_neg e1, if_neg e2, if_neg e3, if_neg e4, if_neg (by omega), if_neg (by omega)]
theorem sg_m {w b : Int} {kl : List Int} {r q : Nat} (hr : (r : Int) < w) (hq : (q : Int) < b) : SG w b kl ⟨13, [(r : Int)], (q : Int), 0⟩ := by
  refine ⟨?_, .inr (.inl rfl)⟩
  unfold cgM
  rw [if_neg (by show ¬ arityM 13 = 0; decide), if_neg (by show ¬ ((1 : Nat) : Int) ≠ arityM 13; decide), if_neg (by rintro ⟨x, hx, h⟩; simp at hx; omega), if_neg (by simp), if_neg (by simp; omega), if_neg (by simp)]
theorem sg_r {w b : Int} {kl : List Int} {r : Nat} (hr : (r : Int) < w) (hb : 0 ≤ b) : SG w b kl ⟨14, [(r : Int)], 0, 0⟩ := by
  refine ⟨?_, .inr (.inr rfl)⟩
  unfold cgM
  rw [if_neg (by show ¬ arityM 14 = 0; decide), if_neg (by show ¬ ((1 : Nat) : Int) ≠ arityM 14; decide), if_neg (by rintro ⟨x, hx, h⟩; simp at hx; omega), if_neg (by simp), if_neg (by simp; omega), if_neg (by simp)]
theorem sste_ret (N : Nat) (H : Heap) (s k : Nat) (w bits mo : Int) (pk : Pl) (kl : List Int) (hs : Sto N H s k) (hk : k < 4611686018427370000) (hw : 1 ≤ w ∧ w ≤ 12) (hbt : 1 ≤ bits ∧ bits ≤ 8) (hmo : 0 ≤ mo ∧ mo ≤ 120) (hkl : Ints (fun b => b < N ∧ b ≠ s) H pk kl) (hne : 0 < kl.length ∧ kl.length < 100) (hkk : ∀ x ∈ kl, 1 ≤ x ∧ x ≤ 12) (h1 : arityM (kl[0]'hne.1) = 1) :
    ∃ (gs : List G) (q : Pl) (u : Heap), Ret (tab Tryd.prog) 46 [.pointer (some ⟨s, 0, none⟩), .int .i64 w, .int .i64 bits, .int .i64 mo, .slice pk.1 kl.length pk.2] H (cv ⟨w, bits, gs⟩ q) u ∧ ((gs.length : Int) ≤ mo ∧ ∀ g ∈ gs, SG w bits kl g) ∧ Gates (fun b => H.length ≤ b) u q gs ∧ Sto N u s (k + 3000) ∧ Kp (fun b => b = s) H u := by
  have key : ACall (tab Tryd.prog) 46 [.pointer (some ⟨s, 0, none⟩), .int .i64 w, .int .i64 bits, .int .i64 mo, .slice pk.1 kl.length pk.2] H fun v u => ∃ (gs : List G) (q : Pl), v = cv ⟨w, bits, gs⟩ q ∧ ((gs.length : Int) ≤ mo ∧ ∀ g ∈ gs, SG w bits kl g) ∧ Gates (fun b => H.length ≤ b) u q gs ∧ Sto N u s (k + 3000) ∧ Kp (fun b => b = s) H u := by
    have kqH : Kp (fun b => b = s) H H := ⟨Nat.le_refl _, fun _ _ _ => rfl⟩
    have soH := hs
    have hsN := hs.1
    have hNH := hs.2.1
    refine ACall_ownR k246 rfl ?_
    refine AX_seq (AX_E (E_new (E_nil (AX_seq (AX_E (E_mv (v := .int .i64 (w)) rfl (E_mv (v := .int .i64 (bits)) rfl (E_mk (cs := [.int .i64 (w), .int .i64 (bits), .slice none 0 0]) rfl (E_new (E_stO (k := 1) rfl rfl (v := .agg _) rfl rfl rfl rfl (E_nil (AX_seq (AX_seq (AX_E (E_mv (v := .pointer (some ⟨s, 0, none⟩)) rfl (E_mv (v := .int .i64 (mo)) rfl (E_addI rfl rfl (by first | omega | (simp; done) | (simp; omega)) (by first | omega | (simp; done) | (simp; omega)) ?_)))))))))))))))))
    obtain ⟨K1, hK1⟩ : ∃ K : Heap, K = H ++ ([CO.row [.int .i64 (0), .int .i64 (0), .slice none 0 0] true none, CO.row [.int .i64 (w), .int .i64 (bits), .slice none 0 0] true none] ++ []) := ⟨_, rfl⟩
    have lK1 : H.length + 2 ≤ K1.length := by rw [hK1]; simp only [List.length_append, List.length_cons, List.length_nil]; omega
    have pK1 : H <+: K1 := by rw [hK1]; exact List.prefix_append _ _
    have soK1 : Sto N K1 s (k) := soH.kp (S := fun _ => False) (by rw [hK1]; exact Kp.app) (fun b _ h => h)
    have kqK1 : Kp (fun b => b = s) H K1 := kqH.trans (S' := fun _ => False) (by rw [hK1]; exact Kp.app) (fun _ _ x => x) (fun _ _ x => x.elim)
    obtain ⟨r19, U19, hr19, hb19, soU19, kpU19, luU19⟩ := less_ret N K1 s k (mo + 1) soK1 (by omega) (by omega)
    have kqU19 : Kp (fun b => b = s) H U19 := kqK1.trans kpU19 (fun _ _ x => x) (fun _ _ x => x)
    have leU19 : K1.length ≤ U19.length := kpU19.len
    have lhU19 : H.length ≤ U19.length := kqU19.len
    have fk2 : Ints (fun b => (b < N ∧ b ≠ s)) U19 (pk) (kl) := kpU19.ii (hkl.lift hK1) (fun b hb => ⟨trivial, fun e => by have h : (b < N ∧ b ≠ s) := hb; have e1 : (b = s) := e; omega⟩)
    have rw3 : U19[(H).length + 0]? = some (CO.row [.int .i64 (0), .int .i64 (0), .slice none 0 0] true none) := kpU19.row (get_own hK1 (k := 0) rfl) (by show ¬ ((H).length + 0 = s); omega)
    have rw4 : U19[(H).length + 1]? = some (CO.row [.int .i64 (w), .int .i64 (bits), .slice none 0 0] true none) := kpU19.row (get_own hK1 (k := 1) rfl) (by show ¬ ((H).length + 1 = s); omega)
    refine E_hp (h' := K1 ++ []) (((List.append_nil _).symm.trans (congrArg (fun x : Heap => (H ++ x) ++ []) (List.append_nil _).symm)).trans (congrArg (fun x : Heap => x ++ []) hK1.symm)) (E_callU rfl hr19 rfl (E_mv (v := .int .i64 (0)) rfl (E_nil (AX_block ?_))))
    refine AX_loopF (γ := Nat × List G × Pl) (fun x => [(0, .pointer (some ⟨s, 0, none⟩)), (1, .int .i64 (w)), (2, .int .i64 (bits)), (4, .slice (pk).1 (kl).length (pk).2), (10, .pointer (some ⟨H.length + 0, 0, none⟩)), (11, .pointer (some ⟨H.length + 1, 0, none⟩)), (19, .int .i64 ((r19 : Int))), (20, .int .i64 ((x.1 : Int)))]) (fun x h_ m_ => (m_ = [] ∧ Kp (fun b => b = s) H h_ ∧ Sto N h_ s (k + 1 + 20 * x.1) ∧ OwnG h_ (H.length + 2) x.2.2 x.2.1 ∧ h_[H.length + 0]? = some (CO.row [.int .i64 (0), .int .i64 (0), .slice none 0 0] true none) ∧ h_[H.length + 1]? = some (CO.row [.int .i64 (w), .int .i64 (bits), .slice (x.2.2).1 (x.2.1).length (x.2.2).2] true none)) ∧ (x.2.1).length = x.1 ∧ x.1 ≤ r19 ∧ ∀ g ∈ (x.2.1), SG w bits kl g) (fun x => r19 - x.1) (0, [], (none, 0)) ⟨rfl, rfl, rfl, rfl, rfl, rfl, rfl, rfl, trivial⟩ ⟨?_, ?_⟩ ?_
    · rw [List.append_nil]
      exact ⟨rfl, kqU19, soU19, OwnG.nil, rw3, rw4⟩
    · exact ⟨rfl, by omega, fun g h => by simp at h⟩
    rintro ⟨i, gs, p⟩ fr0 KH0 mk0 ⟨hI0, inv0⟩ K0 hN0 hR0 hE0
    try dsimp only at hI0 inv0
    obtain ⟨rfl, kq0, so0, og0, rz0, rw0⟩ := hI0
    obtain ⟨hl0, hi0, hg0⟩ := inv0
    have kqKH0 := kq0
    have soKH0 := so0
    have krKH0 : Kp (fun b => b = s) KH0 KH0 := ⟨Nat.le_refl _, fun _ _ _ => rfl⟩
    have lH0 := kq0.len
    have fkl0 : Ints (fun b => b < N ∧ b ≠ s) KH0 pk kl := kq0.ii hkl (fun b hb => ⟨trivial, hb.2⟩)
    have lz0 := (List.getElem?_eq_some_iff.1 rw0).1
    refine AX_nil ?_
    refine AX_seq (AX_E (E_lssS rfl rfl (fun c21 => ?_) (fun c21 => ?_)))
    · refine E_nil (AX_seq (AX_condT rfl (AX_skip (AX_seq (AX_block (AX_seq (AX_E (E_mv (v := .pointer (some ⟨s, 0, none⟩)) rfl (E_mv (v := .int .i64 (w)) rfl (E_mv (v := .slice _ _ _) rfl ?_))))))))))
      obtain ⟨g25, q25, U25, hr25, hb25, ii25, soU25, kpU25⟩ := sgate_ret N KH0 s _ w pk kl soKH0 (by omega) hw fkl0 hne hkk h1
      have kqU25 : Kp (fun b => b = s) H U25 := kqKH0.trans kpU25 (fun _ _ x => x) (fun _ _ x => x)
      have krU25 : Kp (fun b => b = s) KH0 U25 := krKH0.trans kpU25 (fun _ _ x => x) (fun _ _ x => x)
      have leU25 : KH0.length ≤ U25.length := kpU25.len
      have lhU25 : H.length ≤ U25.length := kqU25.len
      have fk5 : Ints (fun b => (b < N ∧ b ≠ s)) U25 (pk) (kl) := kpU25.ii fkl0 (fun b hb => ⟨trivial, fun e => by have h : (b < N ∧ b ≠ s) := hb; have e1 : (b = s) := e; omega⟩)
      have rw6 : U25[H.length + 0]? = some (CO.row [.int .i64 (0), .int .i64 (0), .slice none 0 0] true none) := kpU25.row rz0 (by show ¬ (H.length + 0 = s); omega)
      have rw7 : U25[H.length + 1]? = some (CO.row [.int .i64 (w), .int .i64 (bits), .slice (p).1 (gs).length (p).2] true none) := kpU25.row rw0 (by show ¬ (H.length + 1 = s); omega)
      refine E_callU rfl hr25 rfl (E_new (E_stO (k := 0) rfl rfl (v := .agg _) rfl rfl rfl rfl (E_nil (AX_seq (AX_block (AX_seq (AX_E (E_mv (v := .int .i64 (bits)) rfl (E_gtrS rfl rfl (fun c28 => ?_) (fun c28 => ?_))))))))))
      · refine E_mv (v := .bool _) rfl (E_on rfl (E_mv (v := .pointer (some ⟨s, 0, none⟩)) rfl (E_on rfl ?_)))
        obtain ⟨K8, hK8⟩ : ∃ K : Heap, K = U25 ++ ([CO.row [.int .i64 (g25.k), .slice (q25).1 (g25.ws).length (q25).2, .int .i64 (g25.b), .int .i64 (g25.f)] true none] ++ []) := ⟨_, rfl⟩
        have lK8 : U25.length + 1 ≤ K8.length := by rw [hK8]; simp only [List.length_append, List.length_cons, List.length_nil]; omega
        have pK8 : U25 <+: K8 := by rw [hK8]; exact List.prefix_append _ _
        have soK8 : Sto N K8 s (((k + 1 + 20 * i) + 1 + w.toNat)) := soU25.kp (S := fun _ => False) (by rw [hK8]; exact Kp.app) (fun b _ h => h)
        have kqK8 : Kp (fun b => b = s) H K8 := kqU25.trans (S' := fun _ => False) (by rw [hK8]; exact Kp.app) (fun _ _ x => x) (fun _ _ x => x.elim)
        have krK8 : Kp (fun b => b = s) KH0 K8 := krU25.trans (S' := fun _ => False) (by rw [hK8]; exact Kp.app) (fun _ _ x => x) (fun _ _ x => x.elim)
        obtain ⟨r31, U31, hr31, hb31, soU31, kpU31, luU31⟩ := seldom_ret N K8 s _ 5 soK8 (by omega) (by decide)
        have kqU31 : Kp (fun b => b = s) H U31 := kqK8.trans kpU31 (fun _ _ x => x) (fun _ _ x => x)
        have krU31 : Kp (fun b => b = s) KH0 U31 := krK8.trans kpU31 (fun _ _ x => x) (fun _ _ x => x)
        have leU31 : K8.length ≤ U31.length := kpU31.len
        have lhU31 : H.length ≤ U31.length := kqU31.len
        have fk9 : Ints (fun b => (b < N ∧ b ≠ s)) U31 (pk) (kl) := kpU31.ii (fk5.lift hK8) (fun b hb => ⟨trivial, fun e => by have h : (b < N ∧ b ≠ s) := hb; have e1 : (b = s) := e; omega⟩)
        have rw10 : U31[H.length + 0]? = some (CO.row [.int .i64 (0), .int .i64 (0), .slice none 0 0] true none) := kpU31.row (getq hK8 rw6) (by show ¬ (H.length + 0 = s); omega)
        have rw11 : U31[H.length + 1]? = some (CO.row [.int .i64 (w), .int .i64 (bits), .slice (p).1 (gs).length (p).2] true none) := kpU31.row (getq hK8 rw7) (by show ¬ (H.length + 1 = s); omega)
        have fk12 : Ints (fun b => (KH0.length ≤ b ∧ b < U25.length)) U31 (q25) (g25.ws) := kpU31.ii ((ints_lt ii25).lift hK8) (fun b hb => ⟨trivial, fun e => by have h : (KH0.length ≤ b ∧ b < U25.length) := hb; have e1 : (b = s) := e; omega⟩)
        have rw13 : U31[(U25).length + 0]? = some (CO.row [.int .i64 (g25.k), .slice (q25).1 (g25.ws).length (q25).2, .int .i64 (g25.b), .int .i64 (g25.f)] true none) := kpU31.row (get_own hK8 (k := 0) rfl) (by show ¬ ((U25).length + 0 = s); omega)
        refine E_hp (h' := K8 ++ []) (((List.append_nil _).symm.trans (congrArg (fun x : Heap => (U25 ++ x) ++ []) (List.append_nil _).symm)).trans (congrArg (fun x : Heap => x ++ []) hK8.symm)) (E_callU rfl hr31 rfl (E_bs (fun c31 => ?_) (fun c31 => ?_)))
        · refine E_pickT rfl (v := .bool _) rfl (E_mv (v := .bool _) rfl (E_nil (AX_condT rfl (AX_E (E_mv (v := .pointer (some ⟨s, 0, none⟩)) rfl (E_mv (v := .int .i64 (w)) rfl ?_))))))
          obtain ⟨r35, U35, hr35, hb35, soU35, kpU35, luU35⟩ := less_ret N U31 s _ w soU31 (by omega) (by omega)
          have kqU35 : Kp (fun b => b = s) H U35 := kqU31.trans kpU35 (fun _ _ x => x) (fun _ _ x => x)
          have krU35 : Kp (fun b => b = s) KH0 U35 := krU31.trans kpU35 (fun _ _ x => x) (fun _ _ x => x)
          have leU35 : U31.length ≤ U35.length := kpU35.len
          have lhU35 : H.length ≤ U35.length := kqU35.len
          have fk14 : Ints (fun b => (b < N ∧ b ≠ s)) U35 (pk) (kl) := kpU35.ii fk9 (fun b hb => ⟨trivial, fun e => by have h : (b < N ∧ b ≠ s) := hb; have e1 : (b = s) := e; omega⟩)
          have rw15 : U35[H.length + 0]? = some (CO.row [.int .i64 (0), .int .i64 (0), .slice none 0 0] true none) := kpU35.row rw10 (by show ¬ (H.length + 0 = s); omega)
          have rw16 : U35[H.length + 1]? = some (CO.row [.int .i64 (w), .int .i64 (bits), .slice (p).1 (gs).length (p).2] true none) := kpU35.row rw11 (by show ¬ (H.length + 1 = s); omega)
          have fk17 : Ints (fun b => (KH0.length ≤ b ∧ b < U25.length)) U35 (q25) (g25.ws) := kpU35.ii fk12 (fun b hb => ⟨trivial, fun e => by have h : (KH0.length ≤ b ∧ b < U25.length) := hb; have e1 : (b = s) := e; omega⟩)
          have rw18 : U35[(U25).length + 0]? = some (CO.row [.int .i64 (g25.k), .slice (q25).1 (g25.ws).length (q25).2, .int .i64 (g25.b), .int .i64 (g25.f)] true none) := kpU35.row rw13 (by show ¬ ((U25).length + 0 = s); omega)
          refine E_callU rfl hr35 rfl ?_
          obtain ⟨K19, hK19⟩ : ∃ K : Heap, K = U35 ++ ([CO.row [.int .i64 ((r35 : Int))] true none] ++ []) := ⟨_, rfl⟩
          have lK19 : U35.length + 1 ≤ K19.length := by rw [hK19]; simp only [List.length_append, List.length_cons, List.length_nil]; omega
          have pK19 : U35 <+: K19 := by rw [hK19]; exact List.prefix_append _ _
          have soK19 : Sto N K19 s (((((k + 1 + 20 * i) + 1 + w.toNat) + 1) + 1)) := soU35.kp (S := fun _ => False) (by rw [hK19]; exact Kp.app) (fun b _ h => h)
          have kqK19 : Kp (fun b => b = s) H K19 := kqU35.trans (S' := fun _ => False) (by rw [hK19]; exact Kp.app) (fun _ _ x => x) (fun _ _ x => x.elim)
          have krK19 : Kp (fun b => b = s) KH0 K19 := krU35.trans (S' := fun _ => False) (by rw [hK19]; exact Kp.app) (fun _ _ x => x) (fun _ _ x => x.elim)
          have fm36 : Ints (fun b => b = U35.length + 0) K19 (some ⟨U35.length + 0, 0, none⟩, [(r35 : Int)].length) [(r35 : Int)] := ints_row (get_own hK19 (k := 0) rfl) rfl
          have lm36 : U35.length ≤ K19.length := by rw [hK19]; simp
          refine E_mkS (cs := [.int .i64 (r35 : Int)]) rfl (E_hp (h' := K19 ++ []) (((List.append_nil _).symm.trans (congrArg (fun x : Heap => (U35 ++ x) ++ []) (List.append_nil _).symm)).trans (congrArg (fun x : Heap => x ++ []) hK19.symm)) (E_mv (v := .pointer (some ⟨s, 0, none⟩)) rfl (E_mv (v := .int .i64 (bits)) rfl ?_)))
          obtain ⟨r39, U39, hr39, hb39, soU39, kpU39, luU39⟩ := less_ret N K19 s _ bits soK19 (by omega) (by omega)
          have kqU39 : Kp (fun b => b = s) H U39 := kqK19.trans kpU39 (fun _ _ x => x) (fun _ _ x => x)
          have krU39 : Kp (fun b => b = s) KH0 U39 := krK19.trans kpU39 (fun _ _ x => x) (fun _ _ x => x)
          have leU39 : K19.length ≤ U39.length := kpU39.len
          have lhU39 : H.length ≤ U39.length := kqU39.len
          have fk20 : Ints (fun b => (b < N ∧ b ≠ s)) U39 (pk) (kl) := kpU39.ii (fk14.lift hK19) (fun b hb => ⟨trivial, fun e => by have h : (b < N ∧ b ≠ s) := hb; have e1 : (b = s) := e; omega⟩)
          have rw21 : U39[H.length + 0]? = some (CO.row [.int .i64 (0), .int .i64 (0), .slice none 0 0] true none) := kpU39.row (getq hK19 rw15) (by show ¬ (H.length + 0 = s); omega)
          have rw22 : U39[H.length + 1]? = some (CO.row [.int .i64 (w), .int .i64 (bits), .slice (p).1 (gs).length (p).2] true none) := kpU39.row (getq hK19 rw16) (by show ¬ (H.length + 1 = s); omega)
          have fk23 : Ints (fun b => (KH0.length ≤ b ∧ b < U25.length)) U39 (q25) (g25.ws) := kpU39.ii (fk17.lift hK19) (fun b hb => ⟨trivial, fun e => by have h : (KH0.length ≤ b ∧ b < U25.length) := hb; have e1 : (b = s) := e; omega⟩)
          have rw24 : U39[(U25).length + 0]? = some (CO.row [.int .i64 (g25.k), .slice (q25).1 (g25.ws).length (q25).2, .int .i64 (g25.b), .int .i64 (g25.f)] true none) := kpU39.row (getq hK19 rw18) (by show ¬ ((U25).length + 0 = s); omega)
          have fk25 : Ints (fun b => (b = U35.length + 0)) U39 (((some ⟨U35.length + 0, 0, none⟩, [(r35 : Int)].length) : Pl)) ([(r35 : Int)]) := kpU39.ii fm36 (fun b hb => ⟨trivial, fun e => by have h : (b = U35.length + 0) := hb; have e1 : (b = s) := e; omega⟩)
          refine E_callU rfl hr39 rfl (E_mk (cs := [.int .i64 (13), .slice (((some ⟨U35.length + 0, 0, none⟩, [(r35 : Int)].length) : Pl)).1 ([(r35 : Int)]).length (((some ⟨U35.length + 0, 0, none⟩, [(r35 : Int)].length) : Pl)).2, .int .i64 ((r39 : Int)), .int .i64 (0)]) rfl (E_stX (l := [.int .i64 (13), .slice (((some ⟨U35.length + 0, 0, none⟩, [(r35 : Int)].length) : Pl)).1 ([(r35 : Int)]).length (((some ⟨U35.length + 0, 0, none⟩, [(r35 : Int)].length) : Pl)).2, .int .i64 ((r39 : Int)), .int .i64 (0)]) (v := .agg _) rfl rfl rfl rfl ((congrArg (fun h : Heap => h[(U25).length + 0]?) (List.append_nil _)).trans (rw24)) (by simp) rfl rfl fun V26 hV26 => ?_))
          have eV26 : V26 = U39.set ((U25).length + 0) (CO.row [.int .i64 (13), .slice (((some ⟨U35.length + 0, 0, none⟩, [(r35 : Int)].length) : Pl)).1 ([(r35 : Int)]).length (((some ⟨U35.length + 0, 0, none⟩, [(r35 : Int)].length) : Pl)).2, .int .i64 ((r39 : Int)), .int .i64 (0)] true none) := by rw [hV26, List.append_nil]; rfl
          have kpV26 : Kp (fun b => b = (U25).length + 0) U39 V26 := by rw [eV26]; exact Kp.set
          have kqV26 : Kp (fun b => b = s) H V26 := kqU39.trans kpV26 (fun _ _ x => x) (fun b hb x => by omega)
          have soV26 : Sto N V26 s ((((((k + 1 + 20 * i) + 1 + w.toNat) + 1) + 1) + 1)) := soU39.kp kpV26 (fun b hb x => by omega)
          have leV26 : V26.length = U39.length := by rw [eV26]; exact List.length_set
          have ltV26 : (U25).length + 0 < U39.length := (List.getElem?_eq_some_iff.1 (rw24)).1
          have krV26 : Kp (fun b => b = s) KH0 V26 := krU39.trans kpV26 (fun _ _ x => x) (fun b hb x => by omega)
          have fk27 : Ints (fun b => (b < N ∧ b ≠ s)) V26 (pk) (kl) := kpV26.ii fk20 (fun b hb => ⟨trivial, fun e => by have h : (b < N ∧ b ≠ s) := hb; have e1 : (b = (U25).length + 0) := e; omega⟩)
          have rw28 : V26[H.length + 0]? = some (CO.row [.int .i64 (0), .int .i64 (0), .slice none 0 0] true none) := kpV26.row rw21 (by show ¬ (H.length + 0 = (U25).length + 0); omega)
          have rw29 : V26[H.length + 1]? = some (CO.row [.int .i64 (w), .int .i64 (bits), .slice (p).1 (gs).length (p).2] true none) := kpV26.row rw22 (by show ¬ (H.length + 1 = (U25).length + 0); omega)
          have fk30 : Ints (fun b => (KH0.length ≤ b ∧ b < U25.length)) V26 (q25) (g25.ws) := kpV26.ii fk23 (fun b hb => ⟨trivial, fun e => by have h : (KH0.length ≤ b ∧ b < U25.length) := hb; have e1 : (b = (U25).length + 0) := e; omega⟩)
          have fk32 : Ints (fun b => (b = U35.length + 0)) V26 (((some ⟨U35.length + 0, 0, none⟩, [(r35 : Int)].length) : Pl)) ([(r35 : Int)]) := kpV26.ii fk25 (fun b hb => ⟨trivial, fun e => by have h : (b = U35.length + 0) := hb; have e1 : (b = (U25).length + 0) := e; omega⟩)
          have rw31 : V26[(U25).length + 0]? = some (CO.row [.int .i64 (13), .slice (((some ⟨U35.length + 0, 0, none⟩, [(r35 : Int)].length) : Pl)).1 ([(r35 : Int)]).length (((some ⟨U35.length + 0, 0, none⟩, [(r35 : Int)].length) : Pl)).2, .int .i64 ((r39 : Int)), .int .i64 (0)] true none) := by rw [eV26, List.getElem?_set_self ltV26]
          refine E_nil (AX_E (E_fa rfl (E_ldB (v := .slice _ _ _) rfl (rowGet_c (j := 2) (rowGet_all rw29 rfl) rfl) (E_ldBN rfl (rowGet_all rw31 rfl) (E_mkS (cs := [.int .i64 (13), .slice (((some ⟨U35.length + 0, 0, none⟩, [(r35 : Int)].length) : Pl)).1 ([(r35 : Int)]).length (((some ⟨U35.length + 0, 0, none⟩, [(r35 : Int)].length) : Pl)).2, .int .i64 ((r39 : Int)), .int .i64 (0)]) rfl ?_)))))
          obtain ⟨U3, hK3⟩ : ∃ K : Heap, K = V26 ++ [CO.row [.int .i64 (13), .slice (((some ⟨U35.length + 0, 0, none⟩, [(r35 : Int)].length) : Pl)).1 ([(r35 : Int)]).length (((some ⟨U35.length + 0, 0, none⟩, [(r35 : Int)].length) : Pl)).2, .int .i64 ((r39 : Int)), .int .i64 (0)] true none] := ⟨_, rfl⟩
          have l3 : U3.length = V26.length + 1 := by rw [hK3]; simp
          have lr3 := krV26.len
          have k3 : Kp (fun _ => False) V26 U3 := by rw [hK3]; exact Kp.app
          have og3 : OwnG U3 (H.length + 2) p gs := (og0.kp krV26 (fun b hb e => by omega)).kp k3 (fun _ _ x => x)
          obtain ⟨ps, ep, gg3, pp3, ii3⟩ := og3
          have iq3 : Ints (fun c => KH0.length ≤ c) U3 (((some ⟨U35.length + 0, 0, none⟩, [(r35 : Int)].length) : Pl)) ((⟨13, [(r35 : Int)], (r39 : Int), 0⟩ : G)).ws := Cells.congr (k3.ii fk32 (fun _ _ => ⟨trivial, fun x => x⟩)) (fun b hb => by have h : (b = U35.length + 0) := hb; omega) (fun _ _ _ => rfl)
          refine E_hp (h' := U3) hK3.symm (E_appK (k := gs.length) (kx := 1) (p := p) (new := gcells (⟨13, [(r35 : Int)], (r39 : Int), 0⟩ : G) (((some ⟨U35.length + 0, 0, none⟩, [(r35 : Int)].length) : Pl))) gg3 rfl rfl (by rw [hK3]; show (if 1 * 4 = 0 then some [] else rowGet _ ⟨_, _, none⟩ (1 * 4)) = _; exact rowGet_own (k := 0) rfl) (by decide) (by simp only [roomB]; omega) rfl rfl rfl fun U4 hl4 hg4 hk4 => ?_)
          have og4 : OwnG U4 (H.length + 2) (some ⟨U3.length, 0, none⟩, (gs ++ [(⟨13, [(r35 : Int)], (r39 : Int), 0⟩ : G)]).length) (gs ++ [(⟨13, [(r35 : Int)], (r39 : Int), 0⟩ : G)]) := OwnG.add (M := KH0.length) (by omega) ⟨ps, ep, gg3, pp3, ii3⟩ iq3 (ownG_lt og0) (by omega) ps ep ii3 hg4 hk4
          have k4 : ∀ b, b < U3.length → b < H.length + 2 → U4[b]? = U3[b]? := fun b hb hb2 => hk4 b hb fun a ha e => by have := pp3 a ha; omega
          have rz4 := (k4 (H.length + 0) (by omega) (by omega)).trans (k3.row rw28 (fun x => x))
          have rw4 := (k4 (H.length + 1) (by omega) (by omega)).trans (k3.row rw29 (fun x => x))
          have kp4 : Kp (fun b => H.length + 2 ≤ b) V26 U4 := ⟨by omega, fun b hb hn => (k4 b (by omega) (by omega)).trans (k3.keep b hb (fun x => x))⟩
          refine E_fa rfl (E_stX (b := H.length + 1) (o := 0 + 2) (l := [.slice (some ⟨U3.length, 0, none⟩) (gs.length + 1) (gs.length + 1)]) (v := .slice _ _ _) rfl rfl rfl rfl ((congrArg (fun h : Heap => h[H.length + 1]?) (List.append_nil _)).trans rw4) (by simp) rfl rfl fun V eV => ?_)
          have eV2 : V = U4.set (H.length + 1) (CO.row [.int .i64 (w), .int .i64 (bits), .slice (((some ⟨U3.length, 0, none⟩, (gs ++ [(⟨13, [(r35 : Int)], (r39 : Int), 0⟩ : G)]).length) : Pl)).1 (gs ++ [(⟨13, [(r35 : Int)], (r39 : Int), 0⟩ : G)]).length (((some ⟨U3.length, 0, none⟩, (gs ++ [(⟨13, [(r35 : Int)], (r39 : Int), 0⟩ : G)]).length) : Pl)).2] true none) := by rw [eV, List.append_nil]; simp
          have kpV : Kp (fun b => b = H.length + 1) U4 V := by rw [eV2]; exact Kp.set
          have kqV : Kp (fun b => b = s) H V := (kqV26.trans (kp4.trans (S'' := fun b => H.length ≤ b) kpV (fun b _ (x : _ ≤ _) => by omega) (fun b _ (x : _ = _) => by omega)) (fun _ _ x => x) (fun b hb (x : _ ≤ _) => by omega))
          have soV : Sto N V s (k + 1 + 20 * (i + 1)) := ((soV26.kp kp4 (fun b hb (x : _ ≤ _) => by omega)).kp kpV (fun b hb (x : _ = _) => by omega)).mono (by omega)
          have ogV := og4.kp kpV (fun b hb (x : _ = _) => by omega)
          have rzV := kpV.row rz4 (by show ¬ H.length + 0 = H.length + 1; omega)
          have rwV : V[H.length + 1]? = some (CO.row [.int .i64 (w), .int .i64 (bits), .slice (((some ⟨U3.length, 0, none⟩, (gs ++ [(⟨13, [(r35 : Int)], (r39 : Int), 0⟩ : G)]).length) : Pl)).1 (gs ++ [(⟨13, [(r35 : Int)], (r39 : Int), 0⟩ : G)]).length (((some ⟨U3.length, 0, none⟩, (gs ++ [(⟨13, [(r35 : Int)], (r39 : Int), 0⟩ : G)]).length) : Pl)).2] true none) := by rw [eV2, List.getElem?_set_self (List.getElem?_eq_some_iff.1 rw4).1]
          refine E_nil (AX_E (E_addI rfl rfl (by first | omega | (simp; done) | (simp; omega)) (by first | omega | (simp; done) | (simp; omega)) (E_mv (v := .int .i64 (((i : Int) + 1))) rfl (E_nil ?_))))
          refine hN0 (i + 1, gs ++ [(⟨13, [(r35 : Int)], (r39 : Int), 0⟩ : G)], (some ⟨U3.length, 0, none⟩, (gs ++ [(⟨13, [(r35 : Int)], (r39 : Int), 0⟩ : G)]).length)) _ _ _ ⟨by first | rfl | (congr 1; omega), by first | rfl | (congr 1; omega), by first | rfl | (congr 1; omega), by first | rfl | (congr 1; omega), by rfl, by rfl, by first | rfl | (congr 1; omega), by rfl, trivial⟩ ⟨?_, ?_⟩ ?_
          -- n1
          all_goals clear hN0 hR0 hE0
          · rw [List.append_nil]
            exact ⟨rfl, kqV, soV, ogV, rzV, rwV⟩
          · refine ⟨by simp; omega, by omega, fun x hx => ?_⟩
            rcases List.mem_append.1 hx with hx | hx
            · exact hg0 x hx
            · simp only [List.mem_singleton] at hx; subst hx; first | exact sg_m hb35 hb39 | exact sg_r hb46 (by omega) | exact sg_up (by omega) hb25 hkk (by omega)
          · (first | omega | (simp; omega))
        · refine E_pickT rfl (v := .bool _) rfl (E_mv (v := .bool _) rfl (E_nil (AX_condF rfl (AX_seq (AX_E (E_mv (v := .pointer (some ⟨s, 0, none⟩)) rfl ?_))))))
          obtain ⟨r43, U43, hr43, hb43, soU43, kpU43, luU43⟩ := seldom_ret N U31 s _ 12 soU31 (by omega) (by decide)
          have kqU43 : Kp (fun b => b = s) H U43 := kqU31.trans kpU43 (fun _ _ x => x) (fun _ _ x => x)
          have krU43 : Kp (fun b => b = s) KH0 U43 := krU31.trans kpU43 (fun _ _ x => x) (fun _ _ x => x)
          have leU43 : U31.length ≤ U43.length := kpU43.len
          have lhU43 : H.length ≤ U43.length := kqU43.len
          have fk33 : Ints (fun b => (b < N ∧ b ≠ s)) U43 (pk) (kl) := kpU43.ii fk9 (fun b hb => ⟨trivial, fun e => by have h : (b < N ∧ b ≠ s) := hb; have e1 : (b = s) := e; omega⟩)
          have rw34 : U43[H.length + 0]? = some (CO.row [.int .i64 (0), .int .i64 (0), .slice none 0 0] true none) := kpU43.row rw10 (by show ¬ (H.length + 0 = s); omega)
          have rw35 : U43[H.length + 1]? = some (CO.row [.int .i64 (w), .int .i64 (bits), .slice (p).1 (gs).length (p).2] true none) := kpU43.row rw11 (by show ¬ (H.length + 1 = s); omega)
          have fk36 : Ints (fun b => (KH0.length ≤ b ∧ b < U25.length)) U43 (q25) (g25.ws) := kpU43.ii fk12 (fun b hb => ⟨trivial, fun e => by have h : (KH0.length ≤ b ∧ b < U25.length) := hb; have e1 : (b = s) := e; omega⟩)
          have rw37 : U43[(U25).length + 0]? = some (CO.row [.int .i64 (g25.k), .slice (q25).1 (g25.ws).length (q25).2, .int .i64 (g25.b), .int .i64 (g25.f)] true none) := kpU43.row rw13 (by show ¬ ((U25).length + 0 = s); omega)
          refine E_callU rfl hr43 rfl (E_bs (fun c43 => ?_) (fun c43 => ?_))
          · refine E_mv (v := .bool _) rfl (E_nil (AX_condT rfl (AX_E (E_mv (v := .pointer (some ⟨s, 0, none⟩)) rfl (E_mv (v := .int .i64 (w)) rfl ?_)))))
            obtain ⟨r46, U46, hr46, hb46, soU46, kpU46, luU46⟩ := less_ret N U43 s _ w soU43 (by omega) (by omega)
            have kqU46 : Kp (fun b => b = s) H U46 := kqU43.trans kpU46 (fun _ _ x => x) (fun _ _ x => x)
            have krU46 : Kp (fun b => b = s) KH0 U46 := krU43.trans kpU46 (fun _ _ x => x) (fun _ _ x => x)
            have leU46 : U43.length ≤ U46.length := kpU46.len
            have lhU46 : H.length ≤ U46.length := kqU46.len
            have fk38 : Ints (fun b => (b < N ∧ b ≠ s)) U46 (pk) (kl) := kpU46.ii fk33 (fun b hb => ⟨trivial, fun e => by have h : (b < N ∧ b ≠ s) := hb; have e1 : (b = s) := e; omega⟩)
            have rw39 : U46[H.length + 0]? = some (CO.row [.int .i64 (0), .int .i64 (0), .slice none 0 0] true none) := kpU46.row rw34 (by show ¬ (H.length + 0 = s); omega)
            have rw40 : U46[H.length + 1]? = some (CO.row [.int .i64 (w), .int .i64 (bits), .slice (p).1 (gs).length (p).2] true none) := kpU46.row rw35 (by show ¬ (H.length + 1 = s); omega)
            have fk41 : Ints (fun b => (KH0.length ≤ b ∧ b < U25.length)) U46 (q25) (g25.ws) := kpU46.ii fk36 (fun b hb => ⟨trivial, fun e => by have h : (KH0.length ≤ b ∧ b < U25.length) := hb; have e1 : (b = s) := e; omega⟩)
            have rw42 : U46[(U25).length + 0]? = some (CO.row [.int .i64 (g25.k), .slice (q25).1 (g25.ws).length (q25).2, .int .i64 (g25.b), .int .i64 (g25.f)] true none) := kpU46.row rw37 (by show ¬ ((U25).length + 0 = s); omega)
            refine E_callU rfl hr46 rfl ?_
            obtain ⟨K43, hK43⟩ : ∃ K : Heap, K = U46 ++ ([CO.row [.int .i64 ((r46 : Int))] true none] ++ []) := ⟨_, rfl⟩
            have lK43 : U46.length + 1 ≤ K43.length := by rw [hK43]; simp only [List.length_append, List.length_cons, List.length_nil]; omega
            have pK43 : U46 <+: K43 := by rw [hK43]; exact List.prefix_append _ _
            have soK43 : Sto N K43 s ((((((k + 1 + 20 * i) + 1 + w.toNat) + 1) + 1) + 1)) := soU46.kp (S := fun _ => False) (by rw [hK43]; exact Kp.app) (fun b _ h => h)
            have kqK43 : Kp (fun b => b = s) H K43 := kqU46.trans (S' := fun _ => False) (by rw [hK43]; exact Kp.app) (fun _ _ x => x) (fun _ _ x => x.elim)
            have krK43 : Kp (fun b => b = s) KH0 K43 := krU46.trans (S' := fun _ => False) (by rw [hK43]; exact Kp.app) (fun _ _ x => x) (fun _ _ x => x.elim)
            have fm47 : Ints (fun b => b = U46.length + 0) K43 (some ⟨U46.length + 0, 0, none⟩, [(r46 : Int)].length) [(r46 : Int)] := ints_row (get_own hK43 (k := 0) rfl) rfl
            have lm47 : U46.length ≤ K43.length := by rw [hK43]; simp
            refine E_mkS (cs := [.int .i64 (r46 : Int)]) rfl (E_hp (h' := K43 ++ []) (((List.append_nil _).symm.trans (congrArg (fun x : Heap => (U46 ++ x) ++ []) (List.append_nil _).symm)).trans (congrArg (fun x : Heap => x ++ []) hK43.symm)) (E_mk (cs := [.int .i64 (14), .slice (((some ⟨U46.length + 0, 0, none⟩, [(r46 : Int)].length) : Pl)).1 ([(r46 : Int)]).length (((some ⟨U46.length + 0, 0, none⟩, [(r46 : Int)].length) : Pl)).2, .int .i64 (0), .int .i64 (0)]) rfl (E_stX (l := [.int .i64 (14), .slice (((some ⟨U46.length + 0, 0, none⟩, [(r46 : Int)].length) : Pl)).1 ([(r46 : Int)]).length (((some ⟨U46.length + 0, 0, none⟩, [(r46 : Int)].length) : Pl)).2, .int .i64 (0), .int .i64 (0)]) (v := .agg _) rfl rfl rfl rfl ((congrArg (fun h : Heap => h[(U25).length + 0]?) (List.append_nil _)).trans ((getq hK43 rw42))) (by simp) rfl rfl fun V44 hV44 => ?_)))
            have eV44 : V44 = K43.set ((U25).length + 0) (CO.row [.int .i64 (14), .slice (((some ⟨U46.length + 0, 0, none⟩, [(r46 : Int)].length) : Pl)).1 ([(r46 : Int)]).length (((some ⟨U46.length + 0, 0, none⟩, [(r46 : Int)].length) : Pl)).2, .int .i64 (0), .int .i64 (0)] true none) := by rw [hV44, List.append_nil]; rfl
            have kpV44 : Kp (fun b => b = (U25).length + 0) K43 V44 := by rw [eV44]; exact Kp.set
            have kqV44 : Kp (fun b => b = s) H V44 := kqK43.trans kpV44 (fun _ _ x => x) (fun b hb x => by omega)
            have soV44 : Sto N V44 s ((((((k + 1 + 20 * i) + 1 + w.toNat) + 1) + 1) + 1)) := soK43.kp kpV44 (fun b hb x => by omega)
            have leV44 : V44.length = K43.length := by rw [eV44]; exact List.length_set
            have ltV44 : (U25).length + 0 < K43.length := (List.getElem?_eq_some_iff.1 ((getq hK43 rw42))).1
            have krV44 : Kp (fun b => b = s) KH0 V44 := krK43.trans kpV44 (fun _ _ x => x) (fun b hb x => by omega)
            have fk45 : Ints (fun b => (b < N ∧ b ≠ s)) V44 (pk) (kl) := kpV44.ii (fk38.lift hK43) (fun b hb => ⟨trivial, fun e => by have h : (b < N ∧ b ≠ s) := hb; have e1 : (b = (U25).length + 0) := e; omega⟩)
            have rw46 : V44[H.length + 0]? = some (CO.row [.int .i64 (0), .int .i64 (0), .slice none 0 0] true none) := kpV44.row (getq hK43 rw39) (by show ¬ (H.length + 0 = (U25).length + 0); omega)
            have rw47 : V44[H.length + 1]? = some (CO.row [.int .i64 (w), .int .i64 (bits), .slice (p).1 (gs).length (p).2] true none) := kpV44.row (getq hK43 rw40) (by show ¬ (H.length + 1 = (U25).length + 0); omega)
            have fk48 : Ints (fun b => (KH0.length ≤ b ∧ b < U25.length)) V44 (q25) (g25.ws) := kpV44.ii (fk41.lift hK43) (fun b hb => ⟨trivial, fun e => by have h : (KH0.length ≤ b ∧ b < U25.length) := hb; have e1 : (b = (U25).length + 0) := e; omega⟩)
            have fk50 : Ints (fun b => (b = U46.length + 0)) V44 (((some ⟨U46.length + 0, 0, none⟩, [(r46 : Int)].length) : Pl)) ([(r46 : Int)]) := kpV44.ii fm47 (fun b hb => ⟨trivial, fun e => by have h : (b = U46.length + 0) := hb; have e1 : (b = (U25).length + 0) := e; omega⟩)
            have rw49 : V44[(U25).length + 0]? = some (CO.row [.int .i64 (14), .slice (((some ⟨U46.length + 0, 0, none⟩, [(r46 : Int)].length) : Pl)).1 ([(r46 : Int)]).length (((some ⟨U46.length + 0, 0, none⟩, [(r46 : Int)].length) : Pl)).2, .int .i64 (0), .int .i64 (0)] true none) := by rw [eV44, List.getElem?_set_self ltV44]
            refine E_nil (AX_E (E_fa rfl (E_ldB (v := .slice _ _ _) rfl (rowGet_c (j := 2) (rowGet_all rw47 rfl) rfl) (E_ldBN rfl (rowGet_all rw49 rfl) (E_mkS (cs := [.int .i64 (14), .slice (((some ⟨U46.length + 0, 0, none⟩, [(r46 : Int)].length) : Pl)).1 ([(r46 : Int)]).length (((some ⟨U46.length + 0, 0, none⟩, [(r46 : Int)].length) : Pl)).2, .int .i64 (0), .int .i64 (0)]) rfl ?_)))))
            obtain ⟨U3, hK3⟩ : ∃ K : Heap, K = V44 ++ [CO.row [.int .i64 (14), .slice (((some ⟨U46.length + 0, 0, none⟩, [(r46 : Int)].length) : Pl)).1 ([(r46 : Int)]).length (((some ⟨U46.length + 0, 0, none⟩, [(r46 : Int)].length) : Pl)).2, .int .i64 (0), .int .i64 (0)] true none] := ⟨_, rfl⟩
            have l3 : U3.length = V44.length + 1 := by rw [hK3]; simp
            have lr3 := krV44.len
            have k3 : Kp (fun _ => False) V44 U3 := by rw [hK3]; exact Kp.app
            have og3 : OwnG U3 (H.length + 2) p gs := (og0.kp krV44 (fun b hb e => by omega)).kp k3 (fun _ _ x => x)
            obtain ⟨ps, ep, gg3, pp3, ii3⟩ := og3
            have iq3 : Ints (fun c => KH0.length ≤ c) U3 (((some ⟨U46.length + 0, 0, none⟩, [(r46 : Int)].length) : Pl)) ((⟨14, [(r46 : Int)], 0, 0⟩ : G)).ws := Cells.congr (k3.ii fk50 (fun _ _ => ⟨trivial, fun x => x⟩)) (fun b hb => by have h : (b = U46.length + 0) := hb; omega) (fun _ _ _ => rfl)
            refine E_hp (h' := U3) hK3.symm (E_appK (k := gs.length) (kx := 1) (p := p) (new := gcells (⟨14, [(r46 : Int)], 0, 0⟩ : G) (((some ⟨U46.length + 0, 0, none⟩, [(r46 : Int)].length) : Pl))) gg3 rfl rfl (by rw [hK3]; show (if 1 * 4 = 0 then some [] else rowGet _ ⟨_, _, none⟩ (1 * 4)) = _; exact rowGet_own (k := 0) rfl) (by decide) (by simp only [roomB]; omega) rfl rfl rfl fun U4 hl4 hg4 hk4 => ?_)
            have og4 : OwnG U4 (H.length + 2) (some ⟨U3.length, 0, none⟩, (gs ++ [(⟨14, [(r46 : Int)], 0, 0⟩ : G)]).length) (gs ++ [(⟨14, [(r46 : Int)], 0, 0⟩ : G)]) := OwnG.add (M := KH0.length) (by omega) ⟨ps, ep, gg3, pp3, ii3⟩ iq3 (ownG_lt og0) (by omega) ps ep ii3 hg4 hk4
            have k4 : ∀ b, b < U3.length → b < H.length + 2 → U4[b]? = U3[b]? := fun b hb hb2 => hk4 b hb fun a ha e => by have := pp3 a ha; omega
            have rz4 := (k4 (H.length + 0) (by omega) (by omega)).trans (k3.row rw46 (fun x => x))
            have rw4 := (k4 (H.length + 1) (by omega) (by omega)).trans (k3.row rw47 (fun x => x))
            have kp4 : Kp (fun b => H.length + 2 ≤ b) V44 U4 := ⟨by omega, fun b hb hn => (k4 b (by omega) (by omega)).trans (k3.keep b hb (fun x => x))⟩
            refine E_fa rfl (E_stX (b := H.length + 1) (o := 0 + 2) (l := [.slice (some ⟨U3.length, 0, none⟩) (gs.length + 1) (gs.length + 1)]) (v := .slice _ _ _) rfl rfl rfl rfl ((congrArg (fun h : Heap => h[H.length + 1]?) (List.append_nil _)).trans rw4) (by simp) rfl rfl fun V eV => ?_)
            have eV2 : V = U4.set (H.length + 1) (CO.row [.int .i64 (w), .int .i64 (bits), .slice (((some ⟨U3.length, 0, none⟩, (gs ++ [(⟨14, [(r46 : Int)], 0, 0⟩ : G)]).length) : Pl)).1 (gs ++ [(⟨14, [(r46 : Int)], 0, 0⟩ : G)]).length (((some ⟨U3.length, 0, none⟩, (gs ++ [(⟨14, [(r46 : Int)], 0, 0⟩ : G)]).length) : Pl)).2] true none) := by rw [eV, List.append_nil]; simp
            have kpV : Kp (fun b => b = H.length + 1) U4 V := by rw [eV2]; exact Kp.set
            have kqV : Kp (fun b => b = s) H V := (kqV44.trans (kp4.trans (S'' := fun b => H.length ≤ b) kpV (fun b _ (x : _ ≤ _) => by omega) (fun b _ (x : _ = _) => by omega)) (fun _ _ x => x) (fun b hb (x : _ ≤ _) => by omega))
            have soV : Sto N V s (k + 1 + 20 * (i + 1)) := ((soV44.kp kp4 (fun b hb (x : _ ≤ _) => by omega)).kp kpV (fun b hb (x : _ = _) => by omega)).mono (by omega)
            have ogV := og4.kp kpV (fun b hb (x : _ = _) => by omega)
            have rzV := kpV.row rz4 (by show ¬ H.length + 0 = H.length + 1; omega)
            have rwV : V[H.length + 1]? = some (CO.row [.int .i64 (w), .int .i64 (bits), .slice (((some ⟨U3.length, 0, none⟩, (gs ++ [(⟨14, [(r46 : Int)], 0, 0⟩ : G)]).length) : Pl)).1 (gs ++ [(⟨14, [(r46 : Int)], 0, 0⟩ : G)]).length (((some ⟨U3.length, 0, none⟩, (gs ++ [(⟨14, [(r46 : Int)], 0, 0⟩ : G)]).length) : Pl)).2] true none) := by rw [eV2, List.getElem?_set_self (List.getElem?_eq_some_iff.1 rw4).1]
            refine E_nil (AX_E (E_addI rfl rfl (by first | omega | (simp; done) | (simp; omega)) (by first | omega | (simp; done) | (simp; omega)) (E_mv (v := .int .i64 (((i : Int) + 1))) rfl (E_nil ?_))))
            refine hN0 (i + 1, gs ++ [(⟨14, [(r46 : Int)], 0, 0⟩ : G)], (some ⟨U3.length, 0, none⟩, (gs ++ [(⟨14, [(r46 : Int)], 0, 0⟩ : G)]).length)) _ _ _ ⟨by first | rfl | (congr 1; omega), by first | rfl | (congr 1; omega), by first | rfl | (congr 1; omega), by first | rfl | (congr 1; omega), by rfl, by rfl, by first | rfl | (congr 1; omega), by rfl, trivial⟩ ⟨?_, ?_⟩ ?_
            -- n2
            all_goals clear hN0 hR0 hE0
            · rw [List.append_nil]
              exact ⟨rfl, kqV, soV, ogV, rzV, rwV⟩
            · refine ⟨by simp; omega, by omega, fun x hx => ?_⟩
              rcases List.mem_append.1 hx with hx | hx
              · exact hg0 x hx
              · simp only [List.mem_singleton] at hx; subst hx; first | exact sg_m hb35 hb39 | exact sg_r hb46 (by omega) | exact sg_up (by omega) hb25 hkk (by omega)
            · (first | omega | (simp; omega))
          · refine E_mv (v := .bool _) rfl (E_nil (AX_condF rfl (AX_seq (AX_E (E_mv (v := .int .i64 (bits)) rfl (E_gtrS rfl rfl (fun c51 => ?_) (fun c51 => ?_)))))))
            · refine E_mv (v := .bool _) rfl (E_on rfl (E_mv (v := .pointer (some ⟨s, 0, none⟩)) rfl (E_on rfl ?_)))
              obtain ⟨r54, U54, hr54, hb54, soU54, kpU54, luU54⟩ := seldom_ret N U43 s _ 4 soU43 (by omega) (by decide)
              have kqU54 : Kp (fun b => b = s) H U54 := kqU43.trans kpU54 (fun _ _ x => x) (fun _ _ x => x)
              have krU54 : Kp (fun b => b = s) KH0 U54 := krU43.trans kpU54 (fun _ _ x => x) (fun _ _ x => x)
              have leU54 : U43.length ≤ U54.length := kpU54.len
              have lhU54 : H.length ≤ U54.length := kqU54.len
              have fk51 : Ints (fun b => (b < N ∧ b ≠ s)) U54 (pk) (kl) := kpU54.ii fk33 (fun b hb => ⟨trivial, fun e => by have h : (b < N ∧ b ≠ s) := hb; have e1 : (b = s) := e; omega⟩)
              have rw52 : U54[H.length + 0]? = some (CO.row [.int .i64 (0), .int .i64 (0), .slice none 0 0] true none) := kpU54.row rw34 (by show ¬ (H.length + 0 = s); omega)
              have rw53 : U54[H.length + 1]? = some (CO.row [.int .i64 (w), .int .i64 (bits), .slice (p).1 (gs).length (p).2] true none) := kpU54.row rw35 (by show ¬ (H.length + 1 = s); omega)
              have fk54 : Ints (fun b => (KH0.length ≤ b ∧ b < U25.length)) U54 (q25) (g25.ws) := kpU54.ii fk36 (fun b hb => ⟨trivial, fun e => by have h : (KH0.length ≤ b ∧ b < U25.length) := hb; have e1 : (b = s) := e; omega⟩)
              have rw55 : U54[(U25).length + 0]? = some (CO.row [.int .i64 (g25.k), .slice (q25).1 (g25.ws).length (q25).2, .int .i64 (g25.b), .int .i64 (g25.f)] true none) := kpU54.row rw37 (by show ¬ ((U25).length + 0 = s); omega)
              refine E_callU rfl hr54 rfl (E_bs (fun c54 => ?_) (fun c54 => ?_))
              · refine E_pickT rfl (v := .bool _) rfl (E_mv (v := .bool _) rfl (E_nil (AX_condT rfl (AX_E (E_mv (v := .pointer (some ⟨s, 0, none⟩)) rfl (E_mv (v := .int .i64 (bits)) rfl ?_))))))
                obtain ⟨r58, U58, hr58, hb58, soU58, kpU58, luU58⟩ := from_ret N U54 s _ 1 bits soU54 (by omega) (by decide) (by omega) (by omega)
                have kqU58 : Kp (fun b => b = s) H U58 := kqU54.trans kpU58 (fun _ _ x => x) (fun _ _ x => x)
                have krU58 : Kp (fun b => b = s) KH0 U58 := krU54.trans kpU58 (fun _ _ x => x) (fun _ _ x => x)
                have leU58 : U54.length ≤ U58.length := kpU58.len
                have lhU58 : H.length ≤ U58.length := kqU58.len
                have fk56 : Ints (fun b => (b < N ∧ b ≠ s)) U58 (pk) (kl) := kpU58.ii fk51 (fun b hb => ⟨trivial, fun e => by have h : (b < N ∧ b ≠ s) := hb; have e1 : (b = s) := e; omega⟩)
                have rw57 : U58[H.length + 0]? = some (CO.row [.int .i64 (0), .int .i64 (0), .slice none 0 0] true none) := kpU58.row rw52 (by show ¬ (H.length + 0 = s); omega)
                have rw58 : U58[H.length + 1]? = some (CO.row [.int .i64 (w), .int .i64 (bits), .slice (p).1 (gs).length (p).2] true none) := kpU58.row rw53 (by show ¬ (H.length + 1 = s); omega)
                have fk59 : Ints (fun b => (KH0.length ≤ b ∧ b < U25.length)) U58 (q25) (g25.ws) := kpU58.ii fk54 (fun b hb => ⟨trivial, fun e => by have h : (KH0.length ≤ b ∧ b < U25.length) := hb; have e1 : (b = s) := e; omega⟩)
                have rw60 : U58[(U25).length + 0]? = some (CO.row [.int .i64 (g25.k), .slice (q25).1 (g25.ws).length (q25).2, .int .i64 (g25.b), .int .i64 (g25.f)] true none) := kpU58.row rw55 (by show ¬ ((U25).length + 0 = s); omega)
                refine E_callU rfl hr58 rfl (E_fa rfl (E_stX (l := [.int .i64 ((r58 : Int))]) (v := .int .i64 ((r58 : Int))) rfl rfl rfl rfl ((congrArg (fun h : Heap => h[(U25).length + 0]?) (List.append_nil _)).trans (rw60)) (by simp) rfl rfl fun V61 hV61 => ?_))
                have eV61 : V61 = U58.set ((U25).length + 0) (CO.row [.int .i64 (g25.k), .slice (q25).1 (g25.ws).length (q25).2, .int .i64 (g25.b), .int .i64 ((r58 : Int))] true none) := by rw [hV61, List.append_nil]; rfl
                have kpV61 : Kp (fun b => b = (U25).length + 0) U58 V61 := by rw [eV61]; exact Kp.set
                have kqV61 : Kp (fun b => b = s) H V61 := kqU58.trans kpV61 (fun _ _ x => x) (fun b hb x => by omega)
                have soV61 : Sto N V61 s (((((((k + 1 + 20 * i) + 1 + w.toNat) + 1) + 1) + 1) + 1)) := soU58.kp kpV61 (fun b hb x => by omega)
                have leV61 : V61.length = U58.length := by rw [eV61]; exact List.length_set
                have ltV61 : (U25).length + 0 < U58.length := (List.getElem?_eq_some_iff.1 (rw60)).1
                have krV61 : Kp (fun b => b = s) KH0 V61 := krU58.trans kpV61 (fun _ _ x => x) (fun b hb x => by omega)
                have fk62 : Ints (fun b => (b < N ∧ b ≠ s)) V61 (pk) (kl) := kpV61.ii fk56 (fun b hb => ⟨trivial, fun e => by have h : (b < N ∧ b ≠ s) := hb; have e1 : (b = (U25).length + 0) := e; omega⟩)
                have rw63 : V61[H.length + 0]? = some (CO.row [.int .i64 (0), .int .i64 (0), .slice none 0 0] true none) := kpV61.row rw57 (by show ¬ (H.length + 0 = (U25).length + 0); omega)
                have rw64 : V61[H.length + 1]? = some (CO.row [.int .i64 (w), .int .i64 (bits), .slice (p).1 (gs).length (p).2] true none) := kpV61.row rw58 (by show ¬ (H.length + 1 = (U25).length + 0); omega)
                have fk65 : Ints (fun b => (KH0.length ≤ b ∧ b < U25.length)) V61 (q25) (g25.ws) := kpV61.ii fk59 (fun b hb => ⟨trivial, fun e => by have h : (KH0.length ≤ b ∧ b < U25.length) := hb; have e1 : (b = (U25).length + 0) := e; omega⟩)
                have rw66 : V61[(U25).length + 0]? = some (CO.row [.int .i64 (g25.k), .slice (q25).1 (g25.ws).length (q25).2, .int .i64 (g25.b), .int .i64 ((r58 : Int))] true none) := by rw [eV61, List.getElem?_set_self ltV61]
                have rw67 : V61[(U25).length + 0]? = some (CO.row [.int .i64 (g25.k), .slice (q25).1 (g25.ws).length (q25).2, .int .i64 (g25.b), .int .i64 ((r58 : Int))] true none) := by rw [eV61, List.getElem?_set_self ltV61]
                refine E_nil (AX_E (E_fa rfl (E_ldB (v := .slice _ _ _) rfl (rowGet_c (j := 2) (rowGet_all rw64 rfl) rfl) (E_ldBN rfl (rowGet_all rw66 rfl) (E_mkS (cs := [.int .i64 (g25.k), .slice (q25).1 (g25.ws).length (q25).2, .int .i64 (g25.b), .int .i64 ((r58 : Int))]) rfl ?_)))))
                obtain ⟨U3, hK3⟩ : ∃ K : Heap, K = V61 ++ [CO.row [.int .i64 (g25.k), .slice (q25).1 (g25.ws).length (q25).2, .int .i64 (g25.b), .int .i64 ((r58 : Int))] true none] := ⟨_, rfl⟩
                have l3 : U3.length = V61.length + 1 := by rw [hK3]; simp
                have lr3 := krV61.len
                have k3 : Kp (fun _ => False) V61 U3 := by rw [hK3]; exact Kp.app
                have og3 : OwnG U3 (H.length + 2) p gs := (og0.kp krV61 (fun b hb e => by omega)).kp k3 (fun _ _ x => x)
                obtain ⟨ps, ep, gg3, pp3, ii3⟩ := og3
                have iq3 : Ints (fun c => KH0.length ≤ c) U3 (q25) ((⟨g25.k, g25.ws, g25.b, (r58 : Int)⟩ : G)).ws := Cells.congr (k3.ii fk65 (fun _ _ => ⟨trivial, fun x => x⟩)) (fun b hb => by have h : (KH0.length ≤ b ∧ b < U25.length) := hb; omega) (fun _ _ _ => rfl)
                refine E_hp (h' := U3) hK3.symm (E_appK (k := gs.length) (kx := 1) (p := p) (new := gcells (⟨g25.k, g25.ws, g25.b, (r58 : Int)⟩ : G) (q25)) gg3 rfl rfl (by rw [hK3]; show (if 1 * 4 = 0 then some [] else rowGet _ ⟨_, _, none⟩ (1 * 4)) = _; exact rowGet_own (k := 0) rfl) (by decide) (by simp only [roomB]; omega) rfl rfl rfl fun U4 hl4 hg4 hk4 => ?_)
                have og4 : OwnG U4 (H.length + 2) (some ⟨U3.length, 0, none⟩, (gs ++ [(⟨g25.k, g25.ws, g25.b, (r58 : Int)⟩ : G)]).length) (gs ++ [(⟨g25.k, g25.ws, g25.b, (r58 : Int)⟩ : G)]) := OwnG.add (M := KH0.length) (by omega) ⟨ps, ep, gg3, pp3, ii3⟩ iq3 (ownG_lt og0) (by omega) ps ep ii3 hg4 hk4
                have k4 : ∀ b, b < U3.length → b < H.length + 2 → U4[b]? = U3[b]? := fun b hb hb2 => hk4 b hb fun a ha e => by have := pp3 a ha; omega
                have rz4 := (k4 (H.length + 0) (by omega) (by omega)).trans (k3.row rw63 (fun x => x))
                have rw4 := (k4 (H.length + 1) (by omega) (by omega)).trans (k3.row rw64 (fun x => x))
                have kp4 : Kp (fun b => H.length + 2 ≤ b) V61 U4 := ⟨by omega, fun b hb hn => (k4 b (by omega) (by omega)).trans (k3.keep b hb (fun x => x))⟩
                refine E_fa rfl (E_stX (b := H.length + 1) (o := 0 + 2) (l := [.slice (some ⟨U3.length, 0, none⟩) (gs.length + 1) (gs.length + 1)]) (v := .slice _ _ _) rfl rfl rfl rfl ((congrArg (fun h : Heap => h[H.length + 1]?) (List.append_nil _)).trans rw4) (by simp) rfl rfl fun V eV => ?_)
                have eV2 : V = U4.set (H.length + 1) (CO.row [.int .i64 (w), .int .i64 (bits), .slice (((some ⟨U3.length, 0, none⟩, (gs ++ [(⟨g25.k, g25.ws, g25.b, (r58 : Int)⟩ : G)]).length) : Pl)).1 (gs ++ [(⟨g25.k, g25.ws, g25.b, (r58 : Int)⟩ : G)]).length (((some ⟨U3.length, 0, none⟩, (gs ++ [(⟨g25.k, g25.ws, g25.b, (r58 : Int)⟩ : G)]).length) : Pl)).2] true none) := by rw [eV, List.append_nil]; simp
                have kpV : Kp (fun b => b = H.length + 1) U4 V := by rw [eV2]; exact Kp.set
                have kqV : Kp (fun b => b = s) H V := (kqV61.trans (kp4.trans (S'' := fun b => H.length ≤ b) kpV (fun b _ (x : _ ≤ _) => by omega) (fun b _ (x : _ = _) => by omega)) (fun _ _ x => x) (fun b hb (x : _ ≤ _) => by omega))
                have soV : Sto N V s (k + 1 + 20 * (i + 1)) := ((soV61.kp kp4 (fun b hb (x : _ ≤ _) => by omega)).kp kpV (fun b hb (x : _ = _) => by omega)).mono (by omega)
                have ogV := og4.kp kpV (fun b hb (x : _ = _) => by omega)
                have rzV := kpV.row rz4 (by show ¬ H.length + 0 = H.length + 1; omega)
                have rwV : V[H.length + 1]? = some (CO.row [.int .i64 (w), .int .i64 (bits), .slice (((some ⟨U3.length, 0, none⟩, (gs ++ [(⟨g25.k, g25.ws, g25.b, (r58 : Int)⟩ : G)]).length) : Pl)).1 (gs ++ [(⟨g25.k, g25.ws, g25.b, (r58 : Int)⟩ : G)]).length (((some ⟨U3.length, 0, none⟩, (gs ++ [(⟨g25.k, g25.ws, g25.b, (r58 : Int)⟩ : G)]).length) : Pl)).2] true none) := by rw [eV2, List.getElem?_set_self (List.getElem?_eq_some_iff.1 rw4).1]
                refine E_nil (AX_E (E_addI rfl rfl (by first | omega | (simp; done) | (simp; omega)) (by first | omega | (simp; done) | (simp; omega)) (E_mv (v := .int .i64 (((i : Int) + 1))) rfl (E_nil ?_))))
                refine hN0 (i + 1, gs ++ [(⟨g25.k, g25.ws, g25.b, (r58 : Int)⟩ : G)], (some ⟨U3.length, 0, none⟩, (gs ++ [(⟨g25.k, g25.ws, g25.b, (r58 : Int)⟩ : G)]).length)) _ _ _ ⟨by first | rfl | (congr 1; omega), by first | rfl | (congr 1; omega), by first | rfl | (congr 1; omega), by first | rfl | (congr 1; omega), by rfl, by rfl, by first | rfl | (congr 1; omega), by rfl, trivial⟩ ⟨?_, ?_⟩ ?_
                -- n3
                all_goals clear hN0 hR0 hE0
                · rw [List.append_nil]
                  exact ⟨rfl, kqV, soV, ogV, rzV, rwV⟩
                · refine ⟨by simp; omega, by omega, fun x hx => ?_⟩
                  rcases List.mem_append.1 hx with hx | hx
                  · exact hg0 x hx
                  · simp only [List.mem_singleton] at hx; subst hx; first | exact sg_m hb35 hb39 | exact sg_r hb46 (by omega) | exact sg_up (by omega) hb25 hkk (by omega)
                · (first | omega | (simp; omega))
              · refine E_pickT rfl (v := .bool _) rfl (E_mv (v := .bool _) rfl (E_nil (AX_condF rfl (AX_skip (AX_E (E_fa rfl (E_ldB (v := .slice _ _ _) rfl (rowGet_c (j := 2) (rowGet_all rw53 rfl) rfl) (E_ldBN rfl (rowGet_all rw55 rfl) (E_mkS (cs := [.int .i64 (g25.k), .slice (q25).1 (g25.ws).length (q25).2, .int .i64 (g25.b), .int .i64 (g25.f)]) rfl ?_)))))))))
                obtain ⟨U3, hK3⟩ : ∃ K : Heap, K = U54 ++ [CO.row [.int .i64 (g25.k), .slice (q25).1 (g25.ws).length (q25).2, .int .i64 (g25.b), .int .i64 (g25.f)] true none] := ⟨_, rfl⟩
                have l3 : U3.length = U54.length + 1 := by rw [hK3]; simp
                have lr3 := krU54.len
                have k3 : Kp (fun _ => False) U54 U3 := by rw [hK3]; exact Kp.app
                have og3 : OwnG U3 (H.length + 2) p gs := (og0.kp krU54 (fun b hb e => by omega)).kp k3 (fun _ _ x => x)
                obtain ⟨ps, ep, gg3, pp3, ii3⟩ := og3
                have iq3 : Ints (fun c => KH0.length ≤ c) U3 (q25) ((⟨g25.k, g25.ws, g25.b, g25.f⟩ : G)).ws := Cells.congr (k3.ii fk54 (fun _ _ => ⟨trivial, fun x => x⟩)) (fun b hb => by have h : (KH0.length ≤ b ∧ b < U25.length) := hb; omega) (fun _ _ _ => rfl)
                refine E_hp (h' := U3) hK3.symm (E_appK (k := gs.length) (kx := 1) (p := p) (new := gcells (⟨g25.k, g25.ws, g25.b, g25.f⟩ : G) (q25)) gg3 rfl rfl (by rw [hK3]; show (if 1 * 4 = 0 then some [] else rowGet _ ⟨_, _, none⟩ (1 * 4)) = _; exact rowGet_own (k := 0) rfl) (by decide) (by simp only [roomB]; omega) rfl rfl rfl fun U4 hl4 hg4 hk4 => ?_)
                have og4 : OwnG U4 (H.length + 2) (some ⟨U3.length, 0, none⟩, (gs ++ [(⟨g25.k, g25.ws, g25.b, g25.f⟩ : G)]).length) (gs ++ [(⟨g25.k, g25.ws, g25.b, g25.f⟩ : G)]) := OwnG.add (M := KH0.length) (by omega) ⟨ps, ep, gg3, pp3, ii3⟩ iq3 (ownG_lt og0) (by omega) ps ep ii3 hg4 hk4
                have k4 : ∀ b, b < U3.length → b < H.length + 2 → U4[b]? = U3[b]? := fun b hb hb2 => hk4 b hb fun a ha e => by have := pp3 a ha; omega
                have rz4 := (k4 (H.length + 0) (by omega) (by omega)).trans (k3.row rw52 (fun x => x))
                have rw4 := (k4 (H.length + 1) (by omega) (by omega)).trans (k3.row rw53 (fun x => x))
                have kp4 : Kp (fun b => H.length + 2 ≤ b) U54 U4 := ⟨by omega, fun b hb hn => (k4 b (by omega) (by omega)).trans (k3.keep b hb (fun x => x))⟩
                refine E_fa rfl (E_stX (b := H.length + 1) (o := 0 + 2) (l := [.slice (some ⟨U3.length, 0, none⟩) (gs.length + 1) (gs.length + 1)]) (v := .slice _ _ _) rfl rfl rfl rfl ((congrArg (fun h : Heap => h[H.length + 1]?) (List.append_nil _)).trans rw4) (by simp) rfl rfl fun V eV => ?_)
                have eV2 : V = U4.set (H.length + 1) (CO.row [.int .i64 (w), .int .i64 (bits), .slice (((some ⟨U3.length, 0, none⟩, (gs ++ [(⟨g25.k, g25.ws, g25.b, g25.f⟩ : G)]).length) : Pl)).1 (gs ++ [(⟨g25.k, g25.ws, g25.b, g25.f⟩ : G)]).length (((some ⟨U3.length, 0, none⟩, (gs ++ [(⟨g25.k, g25.ws, g25.b, g25.f⟩ : G)]).length) : Pl)).2] true none) := by rw [eV, List.append_nil]; simp
                have kpV : Kp (fun b => b = H.length + 1) U4 V := by rw [eV2]; exact Kp.set
                have kqV : Kp (fun b => b = s) H V := (kqU54.trans (kp4.trans (S'' := fun b => H.length ≤ b) kpV (fun b _ (x : _ ≤ _) => by omega) (fun b _ (x : _ = _) => by omega)) (fun _ _ x => x) (fun b hb (x : _ ≤ _) => by omega))
                have soV : Sto N V s (k + 1 + 20 * (i + 1)) := ((soU54.kp kp4 (fun b hb (x : _ ≤ _) => by omega)).kp kpV (fun b hb (x : _ = _) => by omega)).mono (by omega)
                have ogV := og4.kp kpV (fun b hb (x : _ = _) => by omega)
                have rzV := kpV.row rz4 (by show ¬ H.length + 0 = H.length + 1; omega)
                have rwV : V[H.length + 1]? = some (CO.row [.int .i64 (w), .int .i64 (bits), .slice (((some ⟨U3.length, 0, none⟩, (gs ++ [(⟨g25.k, g25.ws, g25.b, g25.f⟩ : G)]).length) : Pl)).1 (gs ++ [(⟨g25.k, g25.ws, g25.b, g25.f⟩ : G)]).length (((some ⟨U3.length, 0, none⟩, (gs ++ [(⟨g25.k, g25.ws, g25.b, g25.f⟩ : G)]).length) : Pl)).2] true none) := by rw [eV2, List.getElem?_set_self (List.getElem?_eq_some_iff.1 rw4).1]
                refine E_nil (AX_E (E_addI rfl rfl (by first | omega | (simp; done) | (simp; omega)) (by first | omega | (simp; done) | (simp; omega)) (E_mv (v := .int .i64 (((i : Int) + 1))) rfl (E_nil ?_))))
                refine hN0 (i + 1, gs ++ [(⟨g25.k, g25.ws, g25.b, g25.f⟩ : G)], (some ⟨U3.length, 0, none⟩, (gs ++ [(⟨g25.k, g25.ws, g25.b, g25.f⟩ : G)]).length)) _ _ _ ⟨by first | rfl | (congr 1; omega), by first | rfl | (congr 1; omega), by first | rfl | (congr 1; omega), by first | rfl | (congr 1; omega), by rfl, by rfl, by first | rfl | (congr 1; omega), by rfl, trivial⟩ ⟨?_, ?_⟩ ?_
                -- n4
                all_goals clear hN0 hR0 hE0
                · rw [List.append_nil]
                  exact ⟨rfl, kqV, soV, ogV, rzV, rwV⟩
                · refine ⟨by simp; omega, by omega, fun x hx => ?_⟩
                  rcases List.mem_append.1 hx with hx | hx
                  · exact hg0 x hx
                  · simp only [List.mem_singleton] at hx; subst hx; first | exact sg_m hb35 hb39 | exact sg_r hb46 (by omega) | exact sg_up (by omega) hb25 hkk (by omega)
                · (first | omega | (simp; omega))
            · omega
      · omega
    · refine E_nil (AX_seq (AX_condF rfl (AX_exit (hE0 _ _ _ _ (AX_seq (AX_E (E_ldBN rfl (rowGet_all rw0 rfl) (E_stX (l := [.int .i64 (w), .int .i64 (bits), .slice (p).1 (gs).length (p).2]) (v := .agg _) rfl rfl rfl rfl ((congrArg (fun h : Heap => h[H.length + 0]?) (List.append_nil _)).trans (rz0)) (by simp) rfl rfl fun V68 hV68 => ?_))))))))
      have eV68 : V68 = KH0.set (H.length + 0) (CO.row [.int .i64 (w), .int .i64 (bits), .slice (p).1 (gs).length (p).2] true none) := by rw [hV68, List.append_nil]; rfl
      have kpV68 : Kp (fun b => b = H.length + 0) KH0 V68 := by rw [eV68]; exact Kp.set
      have kqV68 : Kp (fun b => b = s) H V68 := kqKH0.trans kpV68 (fun _ _ x => x) (fun b hb x => by omega)
      have soV68 : Sto N V68 s ((k + 1 + 20 * i)) := soKH0.kp kpV68 (fun b hb x => by omega)
      have leV68 : V68.length = KH0.length := by rw [eV68]; exact List.length_set
      have ltV68 : H.length + 0 < KH0.length := (List.getElem?_eq_some_iff.1 (rz0)).1
      have fk69 : Ints (fun b => (b < N ∧ b ≠ s)) V68 (pk) (kl) := kpV68.ii fkl0 (fun b hb => ⟨trivial, fun e => by have h : (b < N ∧ b ≠ s) := hb; have e1 : (b = H.length + 0) := e; omega⟩)
      have rw70 : V68[H.length + 0]? = some (CO.row [.int .i64 (w), .int .i64 (bits), .slice (p).1 (gs).length (p).2] true none) := by rw [eV68, List.getElem?_set_self ltV68]
      have rw71 : V68[H.length + 1]? = some (CO.row [.int .i64 (w), .int .i64 (bits), .slice (p).1 (gs).length (p).2] true none) := kpV68.row rw0 (by show ¬ (H.length + 1 = H.length + 0); omega)
      refine E_nil (AX_ret ?_)
      simp only [List.append_nil, List.foldl_nil]
      refine ⟨_, res_x rfl rw70 rfl, by simp, ?_⟩
      have ogE := og0.kp kpV68 (fun b hb (x : _ = _) => by omega)
      refine ⟨gs, p, rfl, ⟨by omega, hg0⟩, ?_⟩
      unfold forget
      split
      · rename_i hf
        have hn : gs = [] ∧ p = (none, 0) := ownG_flat og0 hf.1
        rw [hn.1, hn.2]
        exact ⟨Gates.nil, (soV68.pre hf.2 hNH).mono (by omega), kqH⟩
      · refine ⟨?_, soV68.mono (by omega), kqV68⟩
        obtain ⟨ps, e, a, b⟩ := ogE.gates
        exact ⟨ps, e, Cells.congr a (fun b hb => by have : H.length + 2 ≤ b := hb; omega) (fun _ _ _ => rfl), fun i h1 h2 => Cells.congr (b i h1 h2) (fun b hb => by have : H.length + 2 ≤ b := hb; omega) (fun _ _ _ => rfl)⟩
  obtain ⟨n, v, u, hr, g, q, rfl, h⟩ := key
  exact ⟨g, q, u, ⟨n, hr⟩, h⟩
end Go.Canon
namespace Go.Canon
open Go Go.Proofs
set_option linter.unusedVariables false
set_option linter.unusedSimpArgs false
def kf247 : KFunc := ⟨1, 8, [.tmp 2], .seq (.reg [⟨some 2, .mv (.c (.slice none 0 0)), none⟩] []) (.seq (.seq (.reg [⟨some 3, .mv (.t 0), none⟩, ⟨some 4, .eqN false 0 (.t 3), none⟩] []) (.cond (.t 4) (.seq (.reg [⟨some 2, .mv (.c (.slice none 0 0)), none⟩] []) .ret) .skip)) (.seq (.reg [⟨some 5, .mkS [] 0 [], none⟩, ⟨some 6, .mv (.t 0), none⟩, ⟨some 7, .app (.t 5) (.t 6) 1 1, none⟩, ⟨some 2, .mv (.t 7), none⟩] []) .ret))⟩
theorem k247 : tab Tryd.prog 47 = some kf247 := by kernel_rfl
def kf210 : KFunc := ⟨1, 11, [.tmp 2], .seq (.reg [⟨some 2, .mv (.c (.pointer none)), none⟩] []) (.seq (.reg [⟨some 3, .mv (.t 0), none⟩, ⟨some 4, .mv (.t 0), none⟩, ⟨some 5, .len (.t 4), none⟩, ⟨some 6, .mn [.t 5, .c (.int .i64 300)], none⟩, ⟨some 7, .slS (.t 3) none (some (.t 6)) none 1, none⟩, ⟨some 8, .call (.c (.func (.func 47) #[] #[])) [.t 7], none⟩, ⟨some 9, .mk [.slice none 0 0, .int .i64 0, .int .u32 0] [(0, 1, .t 8), (2, 1, .c (.int .u32 2463534242))], none⟩, ⟨some 10, .box (.t 9), none⟩, ⟨some 2, .mv (.t 10), none⟩] []) .ret)⟩
theorem k210 : tab Tryd.prog 10 = some kf210 := by kernel_rfl
def kf209 : KFunc := ⟨2, 17, [.cell 4 (some 3)], .seq (.reg [⟨some 4, .new [.int .i64 0, .int .i64 0, .slice none 0 0], none⟩] []) (.seq (.reg [⟨some 6, .mv (.t 0), none⟩, ⟨some 7, .call (.c (.func (.func 20) #[] #[])) [.t 6, .c (.int .i64 1), .c (.int .i64 4)], none⟩, ⟨some 5, .mv (.t 7), none⟩] []) (.seq (.seq (.reg [⟨some 8, .mv (.t 1), none⟩] []) (.cond (.t 8) (.seq (.reg [⟨some 9, .mv (.t 0), none⟩, ⟨some 10, .mv (.t 5), none⟩, ⟨some 11, .ld (.c (.pointer (some ⟨0, 0, none⟩))) none, none⟩, ⟨some 12, .call (.c (.func (.func 21) #[] #[])) [.t 9, .t 10, .c (.int .i64 14), .t 11], none⟩, ⟨none, .st (.t 4) (.t 12) 3, none⟩] []) .ret) .skip)) (.seq (.reg [⟨some 13, .mv (.t 0), none⟩, ⟨some 14, .mv (.t 5), none⟩, ⟨some 15, .ld (.c (.pointer (some ⟨0, 0, none⟩))) none, none⟩, ⟨some 16, .call (.c (.func (.func 46) #[] #[])) [.t 13, .t 14, .c (.int .i64 2), .c (.int .i64 14), .t 15], none⟩, ⟨none, .st (.t 4) (.t 16) 3, none⟩] []) .ret)))⟩
theorem k209 : tab Tryd.prog 9 = some kf209 := by kernel_rfl
/-- A list of bytes. -/
def Byts (S : Nat → Prop) (h : Heap) (p : Pl) (l : List Int) : Prop := Cells S h 1 p l.length (l.map (.int .u8 ·))
theorem clone8_ret (H : Heap) (p : Pl) (l : List Int) {S : Nat → Prop} (hv : Byts S H p l) (hl : l.length < 4294967296) : ∃ X q, Ret (tab Tryd.prog) 47 [.slice p.1 l.length p.2] H (.slice q.1 l.length q.2) (H ++ X) ∧ Byts (fun b => H.length ≤ b) (H ++ X) q l := by
  have key := Ret_grow (T := tab Tryd.prog) (f := 47) (args := [.slice p.1 l.length p.2]) (h := H) (fun u X => ∃ q : Pl, u = .slice q.1 l.length q.2 ∧ Byts (fun b => H.length ≤ b) (H ++ X) q l) k247 rfl ?_
  · obtain ⟨u, X, hr, q, rfl, f1⟩ := key
    exact ⟨X, q, hr, f1⟩
  refine AX_seq (AX_E (E_mv (v := .slice _ _ _) rfl (E_nil (AX_seq (AX_seq (AX_E (E_mv (v := .slice _ _ _) rfl (E_eqN (b := (p).1.isNone) rfl (E_bs (fun c4 => ?_) (fun c4 => ?_))))))))))
  · refine E_nil (AX_condT rfl (AX_seq (AX_E (E_mv (v := .slice _ _ _) rfl (E_nil (AX_ret ?_))))))
    have hp : p.1 = none := by simpa using c4
    have hl0 : l = [] := by
      obtain ⟨h1, h2, ⟨h3, h4⟩ | ⟨b, o, cs, wr, gr, e1, _⟩⟩ := hv
      · exact List.length_eq_zero_iff.1 (by omega)
      · rw [hp] at e1; cases e1
    subst hl0
    refine ⟨_, rfl, by simp, [], forget_nil rfl (List.prefix_append _ _), (none, 0), rfl, ?_⟩
    exact ⟨rfl, Nat.le_refl _, .inl ⟨rfl, rfl⟩⟩
  · refine E_nil (AX_condF rfl (AX_skip (AX_seq (AX_E (E_mkS (cs := []) rfl (E_mv (v := .slice _ _ _) rfl (E_app0 (k := 0) rfl rfl rfl (Cells.first (Cells.app hv)) (by simp only [roomB]; omega) (by simp) fun W q hW => (E_mv (v := .slice _ _ _) rfl (E_nil (AX_ret ?_))))))))))
    have hq : q.1 ≠ none := by rcases hW with ⟨_, rfl, _⟩ | ⟨_, rfl, _⟩ <;> simp
    refine ⟨_, rfl, by simp, _, forget_more (v := .slice q.1 l.length q.2) (by rcases h : flat2 (.slice q.1 l.length q.2); rfl; exact (hq (sl_flat h)).elim), q, rfl, ?_⟩
    rcases hW with ⟨h0, rfl, rfl⟩ | ⟨_, rfl, rfl⟩
    · have : l = [] := List.length_eq_zero_iff.1 h0
      rw [this]
      exact ⟨rfl, by simp, .inr ⟨H.length + 0, 0, [], true, none, rfl, by simp, by simp, .inl rfl, .inl rfl⟩⟩
    · exact ⟨by simp, by simp, .inr ⟨H.length + 1, 0, l.map (.int .u8 ·), true, some 1, rfl, by simp, by simp, .inr rfl, .inr ⟨by simp, by rw [List.drop_zero, List.take_of_length_le (by simp)]⟩⟩⟩
section
variable {B : Nat → Prop} {T : Nat → Option KFunc} {fi : FI} {prs : List (Nat × Nat)} {i : Nat} {d : Option Nat} {r : List KOper} {fr : Nat → Value} {h u : Heap} {m : List Nat} {K : (Nat → Value) → Heap → List Nat → Prop}
theorem E_mn2 {x y : KO} {a b : Int} (hx : x.ev fr = .int .i64 a) (hy : y.ev fr = .int .i64 b) (H : AE B T fi prs (i + 1) r (put fr d (.int .i64 (if b < a then b else a))) h m K) : AE B T fi prs i (⟨d, .mn [x, y], none⟩ :: r) fr h m K := by
  refine E_no ?_ H
  simp [kop, hx, hy, ints, asI64, least]
end
theorem byts_take {S : Nat → Prop} {h : Heap} {p : Pl} {l : List Int} (H : Byts S h p l) (k : Nat) : Byts S h p (l.take k) := by
  have := Cells.take H (j := (l.take k).length) (by simp; omega)
  rwa [show (l.map (Value.int .u8 ·)).take ((l.take k).length * 1) = (l.take k).map (.int .u8 ·) by rw [Nat.mul_one, List.map_take, List.length_take, ← List.take_take, List.take_of_length_le (l := l.map _) (by simp)]] at this
theorem rowGet_lt' {h : Heap} {a : Addr} {n : Nat} {l : List Value} (H : rowGet h a n = some l) : a.block < h.length := by
  unfold rowGet at H
  split at H
  · rename_i hr; exact (List.getElem?_eq_some_iff.1 hr).1
  · cases H
theorem byts_sb {S : Nat → Prop} {h X : Heap} {q : Pl} {l : List Int} (H : Byts S h q l) : SB (h ++ X).length (h ++ X) h.length q l := by
  intro j hj
  obtain ⟨b, o, e, hr⟩ := Cells.row H (j := j) (k := 1) (by decide) (by omega)
  have hb := rowGet_lt' hr
  have hb : b < h.length := hb
  refine ⟨b, o, l[j], e, by omega, by simp; omega, ?_⟩
  rw [rowGet_base hr]
  congr 1
  rw [List.drop_eq_getElem_cons (by simpa using hj)]
  simp
theorem sof_ret (H : Heap) (p : Pl) (l : List Int) {S : Nat → Prop} (hv : Byts S H p l) (hl : l.length < 9223372036854775808) : ∃ (s : Nat) (X : Heap), Ret (tab Tryd.prog) 10 [.slice p.1 l.length p.2] H (.pointer (some ⟨s, 0, none⟩)) (H ++ X) ∧ H.length ≤ s ∧ Sto (H ++ X).length (H ++ X) s 0 := by
  have key := Ret_grow (T := tab Tryd.prog) (f := 10) (args := [.slice p.1 l.length p.2]) (h := H) (fun u X => ∃ s : Nat, u = .pointer (some ⟨s, 0, none⟩) ∧ H.length ≤ s ∧ Sto (H ++ X).length (H ++ X) s 0) k210 rfl ?_
  · obtain ⟨u, X, hr, s, rfl, f1⟩ := key
    exact ⟨s, X, hr, f1⟩
  refine AX_seq (AX_E (E_mv (v := .pointer none) rfl (E_nil (AX_seq (AX_E (E_mv (v := .slice _ _ _) rfl (E_mv (v := .slice _ _ _) rfl (E_len (n := (l).length) rfl (E_mn2 rfl rfl (E_slHi (j := (l.take 300).length) rfl (Cells.app hv) rfl (by rw [List.length_take]; split <;> omega) (by simp; omega) ?_))))))))))
  obtain ⟨X8, q8, hr8, f8⟩ := clone8_ret (H ++ []) p (l.take 300) (byts_take (Cells.app hv) 300) (by simp; omega)
  refine E_callX (X := X8) rfl (hr8) (E_mk (cs := [.slice q8.1 (l.take 300).length q8.2, .int .i64 (0), .int .u32 (2463534242)]) rfl (E_boxA rfl (E_mv (v := .pointer _) rfl (E_nil (AX_ret ?_)))))
  have f8 := f8
  rw [List.append_nil] at f8
  refine ⟨_, rfl, by simp, X8 ++ [CO.row [.slice q8.1 (l.take 300).length q8.2, .int .i64 (0), .int .u32 (2463534242)] true none], ?_, (H ++ X8).length, ?_, by simp, ?_⟩
  · rw [forget_more rfl]; simp
  · show Value.pointer (some ⟨(H ++ ([] ++ X8)).length + 0, 0, none⟩) = _; simp
  · rw [← List.append_assoc]
    exact ⟨by simp, Nat.le_refl _, q8, l.take 300, 0, 2463534242, by rw [List.getElem?_append_right (Nat.le_refl _)]; simp, byts_sb f8, by decide, by decide, ⟨by decide, by decide⟩, by simp; omega⟩
theorem forget_or {h u : Heap} {v : Value} : forget h v u = u ∨ (flat2 v = true ∧ h <+: u ∧ forget h v u = h) := by
  unfold forget
  split
  · rename_i hh; exact .inr ⟨hh.1, hh.2, rfl⟩
  · exact .inl rfl
theorem gates_flat {S : Nat → Prop} {h : Heap} {p : Pl} {gs : List G} {w b : Int} (H : Gates S h p gs) (hf : flat2 (.agg #[.int .i64 w, .int .i64 b, .slice p.1 gs.length p.2]) = true) : gs = [] ∧ p = (none, 0) := by
  obtain ⟨ps, e, ⟨_, h2, ⟨h3, h4⟩ | ⟨b', o, cs, wr, gr, e1, _⟩⟩, _⟩ := H
  · exact ⟨List.length_eq_zero_iff.1 (by omega), by rw [← h3, ← h4]⟩
  · rw [e1] at hf; exact absurd hf (by simp [flat2, flat1, flat0])
theorem steered_ret (N : Nat) (H : Heap) (s k : Nat) (pl : Bool) (pk : Pl) (kl : List Int) (hs : Sto N H s k) (hk : k < 4611686018427360000) (hg : rowGet H ⟨0, 0, none⟩ 1 = some [.slice pk.1 kl.length pk.2]) (h0 : 0 < N ∧ 0 ≠ s) (hkl : Ints (fun b => b < N ∧ b ≠ s) H pk kl) (hne : 0 < kl.length ∧ kl.length < 100) (hkk : ∀ x ∈ kl, 1 ≤ x ∧ x ≤ 12) (h1 : arityM (kl[0]'hne.1) = 1) :
    ∃ (c : C) (q : Pl) (u : Heap), Ret (tab Tryd.prog) 9 [.pointer (some ⟨s, 0, none⟩), .bool pl] H (cv c q) u ∧ (checkM c = 0 ∧ c.w ≤ 4 ∧ c.b ≤ 2 ∧ c.gs.length ≤ 14) ∧ Gates (fun b => H.length ≤ b) u q c.gs ∧ Sto N u s (k + 4000) ∧ Kp (fun b => b = s) H u := by
  have key : ACall (tab Tryd.prog) 9 [.pointer (some ⟨s, 0, none⟩), .bool pl] H fun v u => ∃ (c : C) (q : Pl), v = cv c q ∧ (checkM c = 0 ∧ c.w ≤ 4 ∧ c.b ≤ 2 ∧ c.gs.length ≤ 14) ∧ Gates (fun b => H.length ≤ b) u q c.gs ∧ Sto N u s (k + 4000) ∧ Kp (fun b => b = s) H u := by
    have kqH : Kp (fun b => b = s) H H := ⟨Nat.le_refl _, fun _ _ _ => rfl⟩
    have soH := hs
    have hsN := hs.1
    have hNH := hs.2.1
    refine ACall_ownR k209 rfl ?_
    refine AX_seq (AX_E (E_new (E_nil (AX_seq (AX_E (E_mv (v := .pointer (some ⟨s, 0, none⟩)) rfl ?_))))))
    obtain ⟨K1, hK1⟩ : ∃ K : Heap, K = H ++ ([CO.row [.int .i64 (0), .int .i64 (0), .slice none 0 0] true none] ++ []) := ⟨_, rfl⟩
    have lK1 : H.length + 1 ≤ K1.length := by rw [hK1]; simp only [List.length_append, List.length_cons, List.length_nil]; omega
    have pK1 : H <+: K1 := by rw [hK1]; exact List.prefix_append _ _
    have soK1 : Sto N K1 s (k) := soH.kp (S := fun _ => False) (by rw [hK1]; exact Kp.app) (fun b _ h => h)
    have kqK1 : Kp (fun b => b = s) H K1 := kqH.trans (S' := fun _ => False) (by rw [hK1]; exact Kp.app) (fun _ _ x => x) (fun _ _ x => x.elim)
    obtain ⟨r7, U7, hr7, hb7, soU7, kpU7, luU7⟩ := from_ret N K1 s k 1 4 soK1 (by omega) (by decide) (by decide) (by decide)
    have kqU7 : Kp (fun b => b = s) H U7 := kqK1.trans kpU7 (fun _ _ x => x) (fun _ _ x => x)
    have leU7 : K1.length ≤ U7.length := kpU7.len
    have lhU7 : H.length ≤ U7.length := kqU7.len
    have rw2 : U7[(H).length + 0]? = some (CO.row [.int .i64 (0), .int .i64 (0), .slice none 0 0] true none) := kpU7.row (get_own hK1 (k := 0) rfl) (by show ¬ ((H).length + 0 = s); omega)
    refine E_hp (h' := K1 ++ []) (((List.append_nil _).symm.trans (congrArg (fun x : Heap => (H ++ x) ++ []) (List.append_nil _).symm)).trans (congrArg (fun x : Heap => x ++ []) hK1.symm)) (E_callU rfl hr7 rfl (E_mv (v := .int .i64 ((r7 : Int))) rfl (E_nil (AX_seq (AX_seq (AX_E (E_mv (v := .bool _) rfl (E_bs (fun c8 => ?_) (fun c8 => ?_)))))))))
    · refine E_nil (AX_condT rfl (AX_seq (AX_E (E_mv (v := .pointer (some ⟨s, 0, none⟩)) rfl (E_mv (v := .int .i64 ((r7 : Int))) rfl (E_ldB (v := .slice _ _ _) rfl ((rowGet_ne (kqU7.keep 0 (by omega) h0.2)).trans hg) ?_))))))
      obtain ⟨gs12, q12, U12, hr12, hb12, ga12, soU12, kpU12⟩ := scirc_ret N U7 s _ r7 14 pk kl soU7 (by omega) (by omega) (by decide) (kqU7.ii hkl (fun b hb => ⟨trivial, hb.2⟩)) hne hkk h1
      have kqU12 : Kp (fun b => b = s) H U12 := kqU7.trans kpU12 (fun _ _ x => x) (fun _ _ x => x)
      have leU12 : U7.length ≤ U12.length := kpU12.len
      have lhU12 : H.length ≤ U12.length := kqU12.len
      have rw3 : U12[(H).length + 0]? = some (CO.row [.int .i64 (0), .int .i64 (0), .slice none 0 0] true none) := kpU12.row rw2 (by show ¬ ((H).length + 0 = s); omega)
      have fk4 : Ints (fun b => (b < N ∧ b ≠ s)) U12 (pk) (kl) := kpU12.ii (kqU7.ii hkl (fun b hb => ⟨trivial, hb.2⟩)) (fun b hb => ⟨trivial, fun e => by have h : (b < N ∧ b ≠ s) := hb; have e1 : (b = s) := e; omega⟩)
      refine E_callU rfl hr12 rfl (E_stX (l := [.int .i64 ((r7 : Int)), .int .i64 (0), .slice (q12).1 (gs12).length (q12).2]) (v := .agg _) rfl rfl rfl rfl ((congrArg (fun h : Heap => h[(H).length + 0]?) (List.append_nil _)).trans (rw3)) (by simp) rfl rfl fun V5 hV5 => ?_)
      have eV5 : V5 = U12.set ((H).length + 0) (CO.row [.int .i64 ((r7 : Int)), .int .i64 (0), .slice (q12).1 (gs12).length (q12).2] true none) := by rw [hV5, List.append_nil]; rfl
      have kpV5 : Kp (fun b => b = (H).length + 0) U12 V5 := by rw [eV5]; exact Kp.set
      have kqV5 : Kp (fun b => b = s) H V5 := kqU12.trans kpV5 (fun _ _ x => x) (fun b hb x => by omega)
      have soV5 : Sto N V5 s (((k + 1) + 3000)) := soU12.kp kpV5 (fun b hb x => by omega)
      have leV5 : V5.length = U12.length := by rw [eV5]; exact List.length_set
      have ltV5 : (H).length + 0 < U12.length := (List.getElem?_eq_some_iff.1 (rw3)).1
      have fk7 : Gates (fun b => (U7.length ≤ b)) V5 (q12) (gs12) := kpV5.ga ga12 (fun b hb => ⟨trivial, fun e => by have h : (U7.length ≤ b) := hb; have e1 : (b = (H).length + 0) := e; omega⟩)
      have rw6 : V5[(H).length + 0]? = some (CO.row [.int .i64 ((r7 : Int)), .int .i64 (0), .slice (q12).1 (gs12).length (q12).2] true none) := by rw [eV5, List.getElem?_set_self ltV5]
      have fk8 : Ints (fun b => (b < N ∧ b ≠ s)) V5 (pk) (kl) := kpV5.ii fk4 (fun b hb => ⟨trivial, fun e => by have h : (b < N ∧ b ≠ s) := hb; have e1 : (b = (H).length + 0) := e; omega⟩)
      refine E_nil (AX_ret ?_)
      simp only [List.append_nil, List.foldl_nil]
      refine ⟨_, res_x rfl rw6 rfl, by simp, ?_⟩
      refine ⟨⟨r7, 0, gs12⟩, q12, rfl, ⟨checkM_of (by omega) (by decide) (by have := hb12.1; omega) (fun g hg => (hb12.2 g hg).1), by show (r7 : Int) ≤ 4; omega, by show (0 : Int) ≤ 2; decide, by have := hb12.1; show gs12.length ≤ 14; omega⟩, ?_⟩
      rcases forget_or (h := H) (u := V5) (v := .agg #[.int .i64 ((r7 : Int)), .int .i64 (0), .slice (q12).1 (gs12).length (q12).2]) with e | ⟨e1, e2, e3⟩
      · refine (show forget H _ V5 = V5 from e).symm ▸ ⟨?_, soV5.mono (by omega), kqV5⟩
        have ga := kpV5.ga ga12 (fun b hb => ⟨trivial, fun e => by have h : U7.length ≤ b := hb; have e1 : b = H.length + 0 := e; omega⟩)
        obtain ⟨ps, e, a, b⟩ := ga
        exact ⟨ps, e, Cells.congr a (fun b hb => by have : U7.length ≤ b := hb; omega) (fun _ _ _ => rfl), fun i h1 h2 => Cells.congr (b i h1 h2) (fun b hb => by have : U7.length ≤ b := hb; omega) (fun _ _ _ => rfl)⟩
      · have hn : gs12 = [] ∧ q12 = (none, 0) := gates_flat ga12 e1
        refine (show forget H _ V5 = H from e3).symm ▸ ⟨?_, (soV5.pre e2 hNH).mono (by omega), kqH⟩
        rw [hn.1, hn.2]; exact Gates.nil
    · refine E_nil (AX_condF rfl (AX_skip (AX_seq (AX_E (E_mv (v := .pointer (some ⟨s, 0, none⟩)) rfl (E_mv (v := .int .i64 ((r7 : Int))) rfl (E_ldB (v := .slice _ _ _) rfl ((rowGet_ne (kqU7.keep 0 (by omega) h0.2)).trans hg) ?_)))))))
      obtain ⟨gs16, q16, U16, hr16, hb16, ga16, soU16, kpU16⟩ := sste_ret N U7 s _ r7 2 14 pk kl soU7 (by omega) (by omega) (by decide) (by decide) (kqU7.ii hkl (fun b hb => ⟨trivial, hb.2⟩)) hne hkk h1
      have kqU16 : Kp (fun b => b = s) H U16 := kqU7.trans kpU16 (fun _ _ x => x) (fun _ _ x => x)
      have leU16 : U7.length ≤ U16.length := kpU16.len
      have lhU16 : H.length ≤ U16.length := kqU16.len
      have rw9 : U16[(H).length + 0]? = some (CO.row [.int .i64 (0), .int .i64 (0), .slice none 0 0] true none) := kpU16.row rw2 (by show ¬ ((H).length + 0 = s); omega)
      have fk10 : Ints (fun b => (b < N ∧ b ≠ s)) U16 (pk) (kl) := kpU16.ii (kqU7.ii hkl (fun b hb => ⟨trivial, hb.2⟩)) (fun b hb => ⟨trivial, fun e => by have h : (b < N ∧ b ≠ s) := hb; have e1 : (b = s) := e; omega⟩)
      refine E_callU rfl hr16 rfl (E_stX (l := [.int .i64 ((r7 : Int)), .int .i64 (2), .slice (q16).1 (gs16).length (q16).2]) (v := .agg _) rfl rfl rfl rfl ((congrArg (fun h : Heap => h[(H).length + 0]?) (List.append_nil _)).trans (rw9)) (by simp) rfl rfl fun V11 hV11 => ?_)
      have eV11 : V11 = U16.set ((H).length + 0) (CO.row [.int .i64 ((r7 : Int)), .int .i64 (2), .slice (q16).1 (gs16).length (q16).2] true none) := by rw [hV11, List.append_nil]; rfl
      have kpV11 : Kp (fun b => b = (H).length + 0) U16 V11 := by rw [eV11]; exact Kp.set
      have kqV11 : Kp (fun b => b = s) H V11 := kqU16.trans kpV11 (fun _ _ x => x) (fun b hb x => by omega)
      have soV11 : Sto N V11 s (((k + 1) + 3000)) := soU16.kp kpV11 (fun b hb x => by omega)
      have leV11 : V11.length = U16.length := by rw [eV11]; exact List.length_set
      have ltV11 : (H).length + 0 < U16.length := (List.getElem?_eq_some_iff.1 (rw9)).1
      have fk13 : Gates (fun b => (U7.length ≤ b)) V11 (q16) (gs16) := kpV11.ga ga16 (fun b hb => ⟨trivial, fun e => by have h : (U7.length ≤ b) := hb; have e1 : (b = (H).length + 0) := e; omega⟩)
      have rw12 : V11[(H).length + 0]? = some (CO.row [.int .i64 ((r7 : Int)), .int .i64 (2), .slice (q16).1 (gs16).length (q16).2] true none) := by rw [eV11, List.getElem?_set_self ltV11]
      have fk14 : Ints (fun b => (b < N ∧ b ≠ s)) V11 (pk) (kl) := kpV11.ii fk10 (fun b hb => ⟨trivial, fun e => by have h : (b < N ∧ b ≠ s) := hb; have e1 : (b = (H).length + 0) := e; omega⟩)
      refine E_nil (AX_ret ?_)
      simp only [List.append_nil, List.foldl_nil]
      refine ⟨_, res_x rfl rw12 rfl, by simp, ?_⟩
      refine ⟨⟨r7, 2, gs16⟩, q16, rfl, ⟨checkM_of (by omega) (by decide) (by have := hb16.1; omega) (fun g hg => (hb16.2 g hg).1), by show (r7 : Int) ≤ 4; omega, by show (2 : Int) ≤ 2; decide, by have := hb16.1; show gs16.length ≤ 14; omega⟩, ?_⟩
      rcases forget_or (h := H) (u := V11) (v := .agg #[.int .i64 ((r7 : Int)), .int .i64 (2), .slice (q16).1 (gs16).length (q16).2]) with e | ⟨e1, e2, e3⟩
      · refine (show forget H _ V11 = V11 from e).symm ▸ ⟨?_, soV11.mono (by omega), kqV11⟩
        have ga := kpV11.ga ga16 (fun b hb => ⟨trivial, fun e => by have h : U7.length ≤ b := hb; have e1 : b = H.length + 0 := e; omega⟩)
        obtain ⟨ps, e, a, b⟩ := ga
        exact ⟨ps, e, Cells.congr a (fun b hb => by have : U7.length ≤ b := hb; omega) (fun _ _ _ => rfl), fun i h1 h2 => Cells.congr (b i h1 h2) (fun b hb => by have : U7.length ≤ b := hb; omega) (fun _ _ _ => rfl)⟩
      · have hn : gs16 = [] ∧ q16 = (none, 0) := gates_flat ga16 e1
        refine (show forget H _ V11 = H from e3).symm ▸ ⟨?_, (soV11.pre e2 hNH).mono (by omega), kqH⟩
        rw [hn.1, hn.2]; exact Gates.nil
  obtain ⟨n, v, u, hr, c, q, rfl, h⟩ := key
  exact ⟨c, q, u, ⟨n, hr⟩, h⟩
end Go.Canon
namespace Go.Canon
open Go Go.Proofs
set_option linter.unusedVariables false
set_option linter.unusedSimpArgs false
end Go.Canon
namespace Go.Canon
open Go Go.Proofs
set_option linter.unusedVariables false
set_option linter.unusedSimpArgs false
end Go.Canon
namespace Go.Canon
open Go Go.Proofs
set_option linter.unusedVariables false
set_option linter.unusedSimpArgs false
end Go.Canon
namespace Go.Canon
open Go Go.Proofs
set_option linter.unusedVariables false
set_option linter.unusedSimpArgs false
theorem gates_lt2 {S : Nat → Prop} {h : Heap} {p : Pl} {gs : List G} (H : Gates S h p gs) : Gates (fun b => S b ∧ b < h.length) h p gs := by
  obtain ⟨ps, e, a, b⟩ := H
  exact ⟨ps, e, Cells.lt a, fun i h1 h2 => Cells.lt (b i h1 h2)⟩
end Go.Canon
namespace Go.Canon
open Go Go.Proofs
set_option linter.unusedVariables false
set_option linter.unusedSimpArgs false
end Go.Canon
namespace Go.Canon
open Go Go.Proofs
set_option linter.unusedVariables false
set_option linter.unusedSimpArgs false
theorem E_cv8 {B : Nat → Prop} {T : Nat → Option KFunc} {fi : FI} {prs : List (Nat × Nat)} {i : Nat} {d : Option Nat} {r : List KOper} {fr : Nat → Value} {h : Heap} {m : List Nat} {K : (Nat → Value) → Heap → List Nat → Prop} {x : KO} {a : Int} (hx : x.ev fr = .int .u8 a) (ha : 0 ≤ a ∧ a ≤ 255) (H : AE B T fi prs (i + 1) r (put fr d (.int .i64 a)) h m K) : AE B T fi prs i (⟨d, .cv .i64 x, none⟩ :: r) fr h m K :=
  E_no (by simp only [kop, hx]; rw [wrap_in (by omega) (by omega)]) H
end Go.Canon
namespace Go.Canon
open Go Go.Proofs
set_option linter.unusedVariables false
set_option linter.unusedSimpArgs false
end Go.Canon
namespace Go.Canon
open Go Go.Proofs
set_option linter.unusedVariables false
set_option linter.unusedSimpArgs false
end Go.Canon
namespace Go.Canon
open Go Go.Proofs
set_option linter.unusedVariables false
set_option linter.unusedSimpArgs false
end Go.Canon
namespace Go.Canon
open Go Go.Proofs
set_option linter.unusedVariables false
set_option linter.unusedSimpArgs false
end Go.Canon
namespace Go.Canon
open Go Go.Proofs
set_option linter.unusedVariables false
set_option linter.unusedSimpArgs false
end Go.Canon
namespace Go.Canon
open Go Go.Proofs
set_option linter.unusedVariables false
set_option linter.unusedSimpArgs false
end Go.Canon
namespace Go.Canon
open Go Go.Proofs
set_option linter.unusedVariables false
set_option linter.unusedSimpArgs false
/-- Which letters commute, which undo one another, which are alike. -/
structure LW {α : Type} (P : α → Prop) (cm un eq : α → α → Prop) : Prop where
  rf : ∀ a, eq a a
  sy : ∀ {a b}, eq a b → eq b a
  tr : ∀ {a b c}, eq a b → eq b c → eq a c
  cs : ∀ {a b}, P a → P b → cm a b → cm b a
  us : ∀ {a b}, P a → P b → un a b → un b a
  ce : ∀ {a b c}, P a → P b → P c → eq a b → cm a c → cm b c
  ue : ∀ {a b c}, P a → P b → P c → eq a b → un a c → un b c
  uc : ∀ {a b c}, P a → P b → P c → un a b → cm a c → cm b c
  uu : ∀ {a b c}, P a → P b → P c → un a c → un b c → un a b ∨ eq a b
section
variable {α : Type} {P : α → Prop} {cm un eq : α → α → Prop}
/-- All of a list are right. -/
def Al (P : α → Prop) (l : List α) : Prop := ∀ x ∈ l, P x
theorem Al.cons {a : α} {l : List α} : Al P (a :: l) ↔ P a ∧ Al P l := by simp [Al]
theorem Al.nil : Al P [] := fun _ h => by simp at h
/-- One list comes of the other by changing the places of neighbours that commute, and letters that are alike. -/
inductive Tr (P : α → Prop) (cm eq : α → α → Prop) : List α → List α → Prop
  | nil : Tr P cm eq [] []
  | cons {a b l m} : P a → P b → eq a b → Tr P cm eq l m → Tr P cm eq (a :: l) (b :: m)
  | swap {a b l} : P a → P b → Al P l → cm a b → Tr P cm eq (a :: b :: l) (b :: a :: l)
  | trans {l m n} : Tr P cm eq l m → Tr P cm eq m n → Tr P cm eq l n
theorem Tr.all {l m : List α} (h : Tr P cm eq l m) : Al P l ∧ Al P m := by
  induction h with
  | nil => exact ⟨Al.nil, Al.nil⟩
  | cons a b _ _ ih => exact ⟨Al.cons.2 ⟨a, ih.1⟩, Al.cons.2 ⟨b, ih.2⟩⟩
  | swap a b h _ => exact ⟨Al.cons.2 ⟨a, Al.cons.2 ⟨b, h⟩⟩, Al.cons.2 ⟨b, Al.cons.2 ⟨a, h⟩⟩⟩
  | trans _ _ h1 h2 => exact ⟨h1.1, h2.2⟩
theorem Tr.len {l m : List α} (h : Tr P cm eq l m) : l.length = m.length := by
  induction h with
  | nil => rfl
  | cons _ _ _ _ ih => simp [ih]
  | swap _ _ _ _ => rfl
  | trans _ _ h1 h2 => omega
theorem Tr.rfl' (W : LW P cm un eq) : ∀ {l : List α}, Al P l → Tr P cm eq l l
  | [], _ => .nil
  | a :: l, h => .cons (Al.cons.1 h).1 (Al.cons.1 h).1 (W.rf a) (Tr.rfl' W (Al.cons.1 h).2)
theorem Tr.app (W : LW P cm un eq) {p l m : List α} (hp : Al P p) (h : Tr P cm eq l m) : Tr P cm eq (p ++ l) (p ++ m) := by
  induction p with
  | nil => exact h
  | cons a p ih => exact .cons (Al.cons.1 hp).1 (Al.cons.1 hp).1 (W.rf a) (ih (Al.cons.1 hp).2)
/-- Both are none, or both some that are alike. -/
def RO (R : List α → List α → Prop) : Option (List α) → Option (List α) → Prop
  | none, none => True
  | some l, some m => R l m
  | _, _ => False
theorem RO.map {a b : α} {x y : Option (List α)} (ha : P a) (hb : P b) (e : eq a b) (h : RO (Tr P cm eq) x y) : RO (Tr P cm eq) (x.map (a :: ·)) (y.map (b :: ·)) := by
  cases x <;> cases y <;> first | trivial | exact h.elim | exact .cons ha hb e h
variable [DecidableRel cm] [DecidableRel un]
end
end Go.Canon
namespace Go.Canon
open Go Go.Proofs
set_option linter.unusedVariables false
set_option linter.unusedSimpArgs false
/-- Gates that are the same to all others. -/
def Cl (a b : G) : Prop := a.f = b.f ∧ (∀ x, x ∈ a.ws ↔ x ∈ b.ws) ∧ lastM a = lastM b ∧ (a.k = b.k ∧ a.b = b.b ∨ a.k ≤ 12 ∧ b.k ≤ 12 ∧ b.k = oppM a.k)
/-- Gates that do the same. -/
def dq (a b : G) : Prop := a.k = b.k ∧ a.f = b.f ∧ a.b = b.b ∧ (∀ x, x ∈ a.ws ↔ x ∈ b.ws) ∧ lastM a = lastM b
theorem undo_iff {a b : G} (ha : GR a) (hb : GR b) : undoM a b ↔ a.k ≤ 12 ∧ b.k = oppM a.k ∧ a.f = b.f ∧ (∀ x, x ∈ a.ws ↔ x ∈ b.ws) ∧ lastM a = lastM b := by
  rw [← pundo_iff ha hb]
  unfold pundoM
  rw [of_eq ha hb, opp_opp]
theorem opp_le {k : Int} (h : k ≤ 12) : oppM k ≤ 12 := by unfold oppM; (repeat' split) <;> omega
theorem undo_cl {a b : G} (ha : GR a) (hb : GR b) (h : undoM a b) : Cl a b := by
  obtain ⟨h1, h2, h3, h4, h5⟩ := (undo_iff ha hb).1 h
  exact ⟨h3, h4, h5, .inr ⟨h1, by rw [h2]; exact opp_le h1, h2⟩⟩
theorem cl_axis {a b : G} (ha : GR a) (hb : GR b) (h : Cl a b) (x : Int) : axisM a x = axisM b x := by
  obtain ⟨_, _, h3, h4⟩ := h
  unfold lastM at h3
  rcases h4 with ⟨h4, _⟩ | ⟨k1, k2, h4⟩
  · unfold axisM
    by_cases c : a.k = 9 ∨ a.k = 12
    · rw [if_pos c, if_pos (by omega)] at h3
      rw [h3, h4]
    · simp only [← h4, if_neg c]
  · by_cases c : 5 ≤ a.k ∧ a.k ≤ 8
    · have : 5 ≤ b.k ∧ b.k ≤ 8 := by rw [h4]; unfold oppM; (repeat' split) <;> omega
      unfold axisM
      rw [if_pos (by omega), if_pos (by omega)]
    · have e : b.k = a.k := by rw [h4]; unfold oppM; (repeat' split) <;> omega
      unfold axisM
      by_cases c : a.k = 9 ∨ a.k = 12
      · rw [if_pos c, if_pos (by omega)] at h3
        rw [h3, e]
      · simp only [e, if_neg c]
theorem comm_cl {a b c : G} (ha : GR a) (hb : GR b) (hc : GR c) (h : Cl a b) (H : commM a c) : commM b c := by
  have hax := cl_axis ha hb h
  obtain ⟨h1, h2, h3, h4⟩ := h
  have ht : touchM a c ↔ touchM b c := by unfold touchM; omega
  have hm : meetM a c ↔ meetM b c := by unfold meetM; rw [ht]; simp only [h2]
  have k1 : a.k = 11 ↔ b.k = 11 := by
    rcases h4 with h4 | ⟨_, _, h4⟩
    · omega
    · rw [h4]; unfold oppM; (repeat' split) <;> omega
  have k0 : a.k = 10 ↔ b.k = 10 := by
    rcases h4 with h4 | ⟨_, _, h4⟩
    · omega
    · rw [h4]; unfold oppM; (repeat' split) <;> omega
  unfold commM at H ⊢
  rw [← hm, ← ht]
  refine H.imp (fun x => x) fun ⟨x, y⟩ => ⟨x, ?_⟩
  by_cases cc : (a.k = 11 ∧ (c.k = 10 ∨ c.k = 11)) ∨ (c.k = 11 ∧ a.k = 10)
  · rw [if_pos cc] at y
    rw [if_pos (by omega)]
    have y2 := (alike_iff ha hc (by omega) (by omega)).2 y
    refine (alike_iff hb hc (by omega) (by omega)).1 ?_
    intro z
    rw [← h2 z]
    exact y2 z
  · rw [if_neg cc] at y
    rw [if_neg (by omega)]
    intro z hz hz2
    rw [← hax]
    exact y z ((h2 z).2 hz) hz2
theorem undo_dq {a b c : G} (ha : GR a) (hb : GR b) (hc : GR c) (h : undoM a c) (k : undoM b c) : dq a b := by
  obtain ⟨h1, h2, h3, h4, h5⟩ := (undo_iff ha hc).1 h
  obtain ⟨k1, k2, k3, k4, k5⟩ := (undo_iff hb hc).1 k
  have e : a.k = b.k := by rw [opp_opp.2 h2, ← opp_opp.2 k2]
  exact ⟨e, by omega, by rw [ha.bk (by omega), hb.bk (by omega)], fun x => (h4 x).trans (k4 x).symm, by omega⟩
theorem undo_ex {a b c : G} (ha : GR a) (hb : GR b) (hc : GR c) (h : undoM a c) (k : undoM b c) : undoM a b ∨ a = b := by
  have e := undo_dq ha hb hc h k
  have hh := h
  unfold undoM at h k
  by_cases s : a.k = 10 ∨ a.k = 11 ∨ a.k = 12
  · left
    refine (undo_iff ha hb).2 ⟨by omega, ?_, e.2.1, e.2.2.2.1, e.2.2.2.2⟩
    rw [← e.1]
    unfold oppM
    (repeat' split) <;> omega
  · right
    have s2 := e.1
    rw [if_neg (by omega), if_neg (by omega)] at h k
    have e1 : a.ws = b.ws := h.2.2.2.trans k.2.2.2.symm
    obtain ⟨ak, aw, ab, af⟩ := a
    obtain ⟨bk, bw, bb, bf⟩ := b
    obtain ⟨e2, e3, e4, _⟩ := e
    simp only at e1 e2 e3 e4
    subst e1 e2 e3 e4
    rfl
/-- Exactly. -/
theorem lwX : LW GR commM undoM (fun a b : G => a = b) :=
  ⟨fun _ => rfl, fun h => h.symm, fun h k => h.trans k, fun ha hb h => (comm_symm ha hb).1 h, fun ha hb h => (undo_symm ha hb).1 h, fun _ _ _ e h => e ▸ h, fun _ _ _ e h => e ▸ h,
    fun ha hb hc u h => comm_cl ha hb hc (undo_cl ha hb u) h, fun ha hb hc h k => undo_ex ha hb hc h k⟩
end Go.Canon
namespace Go.Canon
open Go Go.Proofs
set_option linter.unusedVariables false
set_option linter.unusedSimpArgs false
theorem wsLt_irr : ∀ a : List Int, ¬ wsLt a a
  | [] => by simp [wsLt]
  | x :: xs => by simp [wsLt, wsLt_irr xs]
theorem wsLt_tr : ∀ {a b c : List Int}, wsLt a b → wsLt b c → wsLt a c
  | [], _, _, h, _ => by simp [wsLt] at h
  | _ :: _, [], _, h, _ => by simp [wsLt] at h
  | _ :: _, _ :: _, [], _, h => by simp [wsLt] at h
  | x :: xs, y :: ys, z :: zs, h, k => by
    unfold wsLt at h k ⊢
    by_cases e : x = y
    · subst e
      rw [if_neg (by simp)] at h
      by_cases e2 : x = z
      · subst e2
        rw [if_neg (by simp)] at k ⊢
        exact wsLt_tr h k
      · rw [if_pos e2] at k ⊢; exact k
    · rw [if_pos e] at h
      by_cases e2 : y = z
      · subst e2
        rw [if_pos e]; exact h
      · rw [if_pos e2] at k
        rw [if_pos (by omega)]; omega
theorem wsLt_tot : ∀ {a b : List Int}, a.length = b.length → a ≠ b → wsLt a b ∨ wsLt b a
  | [], [], _, h => (h rfl).elim
  | [], _ :: _, h, _ => by simp at h
  | _ :: _, [], h, _ => by simp at h
  | x :: xs, y :: ys, hl, h => by
    unfold wsLt
    by_cases e : x = y
    · subst e
      rw [if_neg (by simp), if_neg (by simp)]
      exact wsLt_tot (by simpa using hl) (fun e => h (by rw [e]))
    · rw [if_pos e, if_pos (fun e' => e e'.symm)]; omega
theorem before_irr (g : G) : ¬ beforeM g g := by
  unfold beforeM
  simp
theorem before_tr {a b c : G} (h : beforeM a b) (k : beforeM b c) : beforeM a c := by
  unfold beforeM at h k ⊢
  by_cases e : a.k = b.k
  · rw [if_neg (by simp [e])] at h
    by_cases e2 : b.k = c.k
    · rw [if_neg (by simp [e2])] at k
      rw [if_neg (by simp [e, e2])]
      by_cases w : a.ws = b.ws
      · rw [if_neg (by simp [w])] at h
        by_cases w2 : b.ws = c.ws
        · rw [if_neg (by simp [w2])] at k
          rw [if_neg (by simp [w, w2])]
          split at h <;> split at k <;> split <;> omega
        · rw [if_pos w2] at k
          rw [if_pos (by rw [w]; exact w2), w]; exact k
      · rw [if_pos w] at h
        by_cases w2 : b.ws = c.ws
        · rw [if_pos (by rw [← w2]; exact w), ← w2]; exact h
        · rw [if_pos w2] at k
          have t := wsLt_tr h k
          rw [if_pos (fun e => by rw [e] at t; exact wsLt_irr _ t)]; exact t
    · rw [if_pos e2] at k
      rw [if_pos (by omega)]; omega
  · rw [if_pos e] at h
    by_cases e2 : b.k = c.k
    · rw [if_pos (by omega)]; omega
    · rw [if_pos e2] at k
      rw [if_pos (by omega)]; omega
theorem before_tot {a b : G} (ha : GR a) (hb : GR b) (h : ¬ beforeM a b) (k : ¬ beforeM b a) : a = b := by
  have ea := ha.ar; have eb := hb.ar
  unfold beforeM at h k
  by_cases e : a.k = b.k
  · rw [if_neg (by simp [e])] at h
    rw [if_neg (by simp [e])] at k
    by_cases w : a.ws = b.ws
    · rw [if_neg (by simp [w])] at h
      rw [if_neg (by simp [w])] at k
      obtain ⟨ak, aw, ab, af⟩ := a
      obtain ⟨bk, bw, bb, bf⟩ := b
      simp only at e w h k
      subst e w
      by_cases c : ab = bb
      · subst c
        rw [if_neg (by simp)] at h k
        obtain rfl : af = bf := by omega
        rfl
      · rw [if_pos c] at h
        rw [if_pos (fun x => c x.symm)] at k
        omega
    · rw [if_pos w] at h
      rw [if_pos (fun x => w x.symm)] at k
      exact ((wsLt_tot (by rw [e] at ea; omega) w).elim h k).elim
  · rw [if_pos e] at h
    rw [if_pos (fun x => e x.symm)] at k
    omega
/-- The first that is g, if all before it commute with it, goes. -/
def tk : List G → G → Option (List G)
  | [], _ => none
  | a :: l, g => if a = g then some l else if commM a g then (tk l g).map (a :: ·) else none
abbrev TrX : List G → List G → Prop := Tr GR commM (fun a b : G => a = b)
/-- A list in the first order. -/
inductive Td : List G → List G → Prop
  | nil : Td [] []
  | cons {l m o g} : tk l g = some m → (∀ h, tk l h ≠ none → ¬ beforeM h g) → Td m o → Td l (g :: o)
theorem tk_mem {g : G} : ∀ {l m : List G}, tk l g = some m → g ∈ l ∧ ∀ x ∈ m, x ∈ l
  | [], _, h => by simp [tk] at h
  | a :: l, m, h => by
    rw [tk] at h
    split at h
    · rename_i e; cases h; exact ⟨by rw [e]; exact List.mem_cons_self, fun x hx => List.mem_cons_of_mem _ hx⟩
    · split at h
      · obtain ⟨n, hn, rfl⟩ := Option.map_eq_some_iff.1 h
        have := tk_mem hn
        exact ⟨List.mem_cons_of_mem _ this.1, fun x hx => (List.mem_cons.1 hx).elim (fun e => e ▸ List.mem_cons_self) fun hx => List.mem_cons_of_mem _ (this.2 x hx)⟩
      · cases h
theorem tk_tr {l m : List G} (h : TrX l m) : ∀ g, GR g → RO TrX (tk l g) (tk m g) := by
  induction h with
  | nil => exact fun _ _ => trivial
  | @cons a b l m ha hb e h ih =>
    subst e
    intro g hg
    have i1 := ih g hg
    rw [tk, tk]
    by_cases h1 : a = g
    · rw [if_pos h1, if_pos h1]; exact h
    · rw [if_neg h1, if_neg h1]
      by_cases h2 : commM a g
      · rw [if_pos h2, if_pos h2]; exact i1.map ha ha rfl
      · rw [if_neg h2, if_neg h2]; trivial
  | @swap a b l ha hb hl c =>
    intro g hg
    have c' := (comm_symm ha hb).1 c
    by_cases h1 : a = g
    · by_cases h2 : b = g
      · simp only [tk, h1, h2, if_true]
        exact Tr.rfl' lwX (Al.cons.2 ⟨hg, hl⟩)
      · have hc : commM b g := h1 ▸ c'
        simp only [tk, h1, h2, hc, if_true, if_false, Option.map_some]
        exact Tr.rfl' lwX (Al.cons.2 ⟨hb, hl⟩)
    · by_cases h2 : b = g
      · have hc : commM a g := h2 ▸ c
        simp only [tk, h1, h2, hc, if_true, if_false, Option.map_some]
        exact Tr.rfl' lwX (Al.cons.2 ⟨ha, hl⟩)
      · by_cases h3 : commM a g
        · by_cases h4 : commM b g
          · simp only [tk, h1, h2, h3, h4, if_true, if_false]
            cases hr : tk l g with
            | none => trivial
            | some t => exact .swap ha hb (fun x hx => hl x ((tk_mem hr).2 x hx)) c
          · simp only [tk, h1, h2, h3, h4, if_true, if_false, Option.map_none]; trivial
        · by_cases h4 : commM b g
          · simp only [tk, h1, h2, h3, h4, if_true, if_false, Option.map_none]; trivial
          · simp only [tk, h1, h2, h3, h4, if_true, if_false]; trivial
  | @trans l m n h1 h2 i1 i2 =>
    intro g hg
    have a := i1 g hg
    have b := i2 g hg
    revert a b
    cases tk l g <;> cases tk m g <;> cases tk n g <;> first | exact fun _ _ => trivial | exact fun x => x.elim | exact fun _ x => x.elim | exact fun x y => Tr.trans x y
theorem td_det {l o : List G} (h : Td l o) : ∀ {m o' : List G}, TrX l m → Td m o' → o = o' := by
  induction h with
  | nil =>
    intro m o' ht h'
    have := ht.len
    cases h' with
    | nil => rfl
    | cons h1 _ _ => rename_i g; have := (tk_mem h1).1; rw [List.length_eq_zero_iff.1 ht.len.symm] at this; simp at this
  | @cons l m o g h1 h2 h3 ih =>
    intro m' o' ht h'
    have hg := ht.all.1 g (tk_mem h1).1
    cases h' with
    | nil => have := (tk_mem h1).1; rw [List.length_eq_zero_iff.1 ht.len] at this; simp at this
    | @cons _ n o'' g' k1 k2 k3 =>
      have hg' := ht.all.2 g' (tk_mem k1).1
      have a := tk_tr ht g hg
      have b := tk_tr ht g' hg'
      have e : g = g' := by
        refine before_tot hg hg' (k2 g ?_) (h2 g' ?_)
        · intro e; rw [h1, e] at a; exact a
        · intro e; rw [k1, e] at b; exact b
      subst e
      rw [h1, k1] at a
      rw [ih a k3]
theorem tk_trx {g : G} : ∀ {l m : List G}, Al GR l → tk l g = some m → TrX l (g :: m)
  | [], _, _, h => by simp [tk] at h
  | a :: l, m, hl, h => by
    obtain ⟨ha, hl2⟩ := Al.cons.1 hl
    have hg := hl g (tk_mem h).1
    rw [tk] at h
    by_cases e : a = g
    · rw [if_pos e] at h; cases h; subst e; exact Tr.rfl' lwX hl
    · rw [if_neg e] at h
      by_cases c : commM a g
      · rw [if_pos c] at h
        obtain ⟨n, hn, rfl⟩ := Option.map_eq_some_iff.1 h
        exact .trans (.cons ha ha rfl (tk_trx hl2 hn)) (.swap ha hg (fun x hx => hl2 x ((tk_mem hn).2 x hx)) c)
      · rw [if_neg c] at h; cases h
theorem td_trx {l o : List G} (h : Td l o) (hl : Al GR l) : TrX l o := by
  induction h with
  | nil => exact .nil
  | @cons l m o g h1 h2 h3 ih =>
    have hg := hl g (tk_mem h1).1
    exact .trans (tk_trx hl h1) (.cons hg hg rfl (ih fun x hx => hl x ((tk_mem h1).2 x hx)))
theorem tk_free {l : List G} : ∀ {b : Nat} (hb : b < l.length), (∀ j (hj : j < b), commM (l[j]'(by omega)) l[b] ∧ l[j]'(by omega) ≠ l[b]) → tk l l[b] = some (l.eraseIdx b) := by
  induction l with
  | nil => intro b hb; simp at hb
  | cons a l ih =>
    intro b hb h
    match b, hb, h with
    | 0, _, _ => rw [tk, if_pos (by rfl)]; rfl
    | b + 1, hb, h =>
      have h0 := h 0 (by omega)
      rw [tk, if_neg (by simpa using h0.2), if_pos (by simpa using h0.1)]
      have := ih (b := b) (by simpa using hb) fun j hj => by have := h (j + 1) (by omega); simpa using this
      simp only [List.getElem_cons_succ] at this ⊢
      rw [this]
      rfl
theorem tk_ne {g : G} : ∀ {l : List G}, tk l g ≠ none → ∃ i, ∃ hi : i < l.length, l[i] = g ∧ ∀ j (hj : j < i), commM (l[j]'(by omega)) g
  | [], h => by simp [tk] at h
  | a :: l, h => by
    rw [tk] at h
    by_cases e : a = g
    · exact ⟨0, by simp, by simpa using e, fun j hj => by omega⟩
    · rw [if_neg e] at h
      by_cases c : commM a g
      · rw [if_pos c] at h
        obtain ⟨i, hi, e2, h2⟩ := tk_ne (g := g) (l := l) (by intro e; rw [e] at h; simp at h)
        refine ⟨i + 1, by simpa using hi, by simpa using e2, fun j hj => ?_⟩
        match j with
        | 0 => simpa using c
        | j + 1 => simpa using h2 j (by omega)
      · rw [if_neg c] at h; exact (h rfl).elim
theorem next_law {l : List G} (hl : Al GR l) : ∀ i, i ≤ l.length → (0 < i → 0 ≤ nextM l i) ∧ (0 ≤ nextM l i → freeTo l (nextM l i).toNat (nextM l i).toNat ∧ (∀ j, j < i → freeTo l j j → ¬ beforeM (l.getD j default) (l.getD (nextM l i).toNat default)) ∧ ∀ j, j < (nextM l i).toNat → freeTo l j j → beforeM (l.getD (nextM l i).toNat default) (l.getD j default))
  | 0, _ => ⟨fun h => by omega, fun h => by simp [nextM] at h⟩
  | i + 1, hi => by
    obtain ⟨h0, h1⟩ := next_law hl i (by omega)
    have hlt := nextM_lt l i
    refine ⟨fun _ => nextM_pos l (i + 1) (by omega), ?_⟩
    have hgr : ∀ j, j < l.length → GR (l.getD j default) := fun j hj => by rw [getG_at hj]; exact hl _ (List.getElem_mem _)
    unfold nextM
    split
    · rename_i c
      intro _
      rw [Int.toNat_natCast]
      refine ⟨c.1, fun j hj hf => ?_, fun j hj hf => ?_⟩
      · by_cases e : j = i
        · subst e; exact before_irr _
        · intro hb
          rcases c.2 with c2 | c2
          · have := h0 (by omega); omega
          · by_cases c3 : 0 ≤ nextM l i
            · exact (h1 c3).2.1 j (by omega) hf (before_tr hb c2)
            · have := h0 (by omega); omega
      · have c3 := h0 (by omega)
        have c2 := c.2.resolve_left (by omega)
        obtain ⟨f1, f2, f3⟩ := h1 c3
        by_cases hb : beforeM (l.getD i default) (l.getD j default)
        · exact hb
        · exfalso
          by_cases hb2 : beforeM (l.getD j default) (l.getD i default)
          · exact f2 j hj hf (before_tr hb2 c2)
          · have := before_tot (hgr i (by omega)) (hgr j (by omega)) hb hb2
            rw [this] at c2
            exact f2 j hj hf c2
    · rename_i c
      intro hh
      obtain ⟨f1, f2, f3⟩ := h1 hh
      refine ⟨f1, fun j hj hf => ?_, f3⟩
      by_cases e : j = i
      · subst e
        intro hb
        exact c ⟨hf, .inr hb⟩
      · exact f2 j (by omega) hf
theorem free_comm {l : List G} {b j : Nat} (hb : b < l.length) (h : freeTo l b b) (hj : j < b) : commM (l[j]'(by omega)) l[b] := by
  have := h j hj
  rwa [getG_at (show j < l.length by omega), getG_at hb] at this
theorem tidy_td : ∀ (n : Nat) {l : List G}, l.length = n → Al GR l → Td l (tidyL n l)
  | 0, l, hn, _ => by rw [List.length_eq_zero_iff.1 hn]; exact .nil
  | n + 1, l, hn, hl => by
    obtain ⟨h0, h1⟩ := next_law hl l.length (Nat.le_refl _)
    have hlt := nextM_lt l l.length
    have hp := h0 (by omega)
    obtain ⟨f1, f2, f3⟩ := h1 hp
    obtain ⟨b, hb⟩ : ∃ b : Nat, nextM l l.length = (b : Int) := ⟨(nextM l l.length).toNat, by omega⟩
    rw [hb, Int.toNat_natCast] at f1 f2 f3
    have hbl : b < l.length := by omega
    rw [tidyL, hb, Int.toNat_natCast, getG_at hbl]
    refine .cons (m := l.eraseIdx b) (tk_free hbl fun j hj => ⟨free_comm hbl f1 hj, fun e => ?_⟩) (fun h hh => ?_) ?_
    · have hf : freeTo l j j := fun i hi => by
        have := f1 i (by omega)
        rw [getG_at (show i < l.length by omega), getG_at hbl] at this
        rw [getG_at (show i < l.length by omega), getG_at (show j < l.length by omega), e]
        exact this
      have := f3 j hj hf
      rw [getG_at hbl, getG_at (show j < l.length by omega), e] at this
      exact before_irr _ this
    · obtain ⟨i, hi, rfl, h2⟩ := tk_ne hh
      have hf : freeTo l i i := fun j hj => by
        rw [getG_at (show j < l.length by omega), getG_at hi]
        exact h2 j hj
      have := f2 i hi hf
      rwa [getG_at hi, getG_at hbl] at this
    · exact tidy_td n (by rw [List.length_eraseIdx_of_lt hbl]; omega) fun x hx => hl x (List.mem_of_mem_eraseIdx hx)
/-- Tidy of circuits that come of one another is the same. -/
theorem tidy_tr {l m : List G} (h : TrX l m) : tidyL l.length l = tidyL m.length m := td_det (tidy_td _ rfl h.all.1) h (tidy_td _ rfl h.all.2)
theorem tidy_trx {l : List G} (hl : Al GR l) : TrX l (tidyL l.length l) := td_trx (tidy_td _ rfl hl) hl
theorem tidy_again {l : List G} (hl : Al GR l) : tidyL (tidyL l.length l).length (tidyL l.length l) = tidyL l.length l := (tidy_tr (tidy_trx hl)).symm
/-- Neighbours that commute change places. -/
theorem tr_swap {l : List G} {i : Nat} (hl : Al GR l) (hi : i + 1 < l.length) (hc : commM (l[i]'(by omega)) l[i + 1]) : TrX l ((l.set i l[i + 1]).set (i + 1) (l[i]'(by omega))) := by
  have e : l = l.take i ++ l[i] :: l[i + 1] :: l.drop (i + 2) := by
    conv => lhs; rw [← List.take_append_drop i l, List.drop_eq_getElem_cons (by omega), List.drop_eq_getElem_cons (by omega)]
  have e2 : (l.set i l[i + 1]).set (i + 1) (l[i]'(by omega)) = l.take i ++ l[i + 1] :: l[i] :: l.drop (i + 2) := by
    apply List.ext_getElem?
    intro j
    rcases Nat.lt_trichotomy j i with h | h | h
    · rw [List.getElem?_set_ne (by omega), List.getElem?_set_ne (by omega), List.getElem?_append_left (by simp; omega), List.getElem?_take_of_lt h]
    · subst h
      have hlt : (l.take j).length = j := by simp; omega
      rw [List.getElem?_set_ne (by omega), List.getElem?_set_self (by omega), List.getElem?_append_right (by omega), show j - (l.take j).length = 0 by omega]
      rfl
    · by_cases h2 : j = i + 1
      · subst h2
        have hlt : (l.take i).length = i := by simp; omega
        rw [List.getElem?_set_self (by simp; omega), List.getElem?_append_right (by omega), show i + 1 - (l.take i).length = 1 by omega]
        rfl
      · rw [List.getElem?_set_ne (by omega), List.getElem?_set_ne (by omega), List.getElem?_append_right (by simp; omega), show j - (l.take i).length = (j - i - 2) + 2 by simp; omega]
        simp only [List.getElem?_cons_succ, List.getElem?_drop]
        congr 1
        omega
  rw [e2]
  conv => lhs; rw [e]
  refine Tr.app lwX (fun x hx => hl x (List.mem_of_mem_take hx)) ?_
  exact .swap (hl _ (List.getElem_mem _)) (hl _ (List.getElem_mem _)) (fun x hx => hl x (List.mem_of_mem_drop hx)) hc
end Go.Canon
namespace Go.Canon
open Go Go.Proofs
set_option linter.unusedVariables false
set_option linter.unusedSimpArgs false
end Go.Canon
namespace Go.Canon
open Go Go.Proofs
set_option linter.unusedVariables false
set_option linter.unusedSimpArgs false
end Go.Canon
namespace Go.Canon
open Go Go.Proofs
set_option linter.unusedVariables false
set_option linter.unusedSimpArgs false
/-- A list of gates at the start of a row of its own, which may be longer. -/
structure OL (K : Heap) (lo hi x n : Nat) (gs : List G) (ps : List Pl) : Prop where
  e : ps.length = gs.length
  le : gs.length ≤ n
  lh : lo ≤ x ∧ x < hi
  row : ∃ cs gr, K[x]? = some (.row cs true gr) ∧ (gr = none ∨ gr = some 4) ∧ n * 4 ≤ cs.length ∧ (∀ v ∈ cs, isCell v = true) ∧ cs.take (gs.length * 4) = flat gs ps
  w : Wires (fun b => (lo ≤ b ∧ b < hi) ∧ b ≠ x) K gs ps
theorem OL.gates {K : Heap} {lo hi x n : Nat} {gs : List G} {ps : List Pl} (H : OL K lo hi x n gs ps) : Gates allB K (some ⟨x, 0, none⟩, n) gs := by
  obtain ⟨e, hn, lh, ⟨cs, gr, r1, r2, r3, r4, r5⟩, w⟩ := H
  exact ⟨ps, e, ⟨flat_len _ _ e, hn, .inr ⟨x, 0, cs, true, gr, rfl, trivial, r1, r2, .inr ⟨by omega, by rw [List.drop_zero]; exact r5⟩⟩⟩, fun i h1 h2 => (w i h1 h2).all⟩
theorem OL.kp {S : Nat → Prop} {K K' : Heap} {lo hi x n : Nat} {gs : List G} {ps : List Pl} (H : OL K lo hi x n gs ps) (k : Kp S K K') (hS : ∀ b, lo ≤ b → b < hi → ¬ S b) : OL K' lo hi x n gs ps := by
  obtain ⟨e, hn, lh, ⟨cs, gr, r1, r2, r3, r4, r5⟩, w⟩ := H
  exact ⟨e, hn, lh, ⟨cs, gr, k.row r1 (hS x lh.1 lh.2), r2, r3, r4, r5⟩, fun i h1 h2 => (w i h1 h2).congr (fun _ y => y) fun b hb hl => k.keep b hl (hS b hb.1.1 hb.1.2)⟩
/-- One gate is taken out. -/
theorem OL.del {K : Heap} {lo hi x n j : Nat} {gs : List G} {ps : List Pl} (H : OL K lo hi x n gs ps) (hj : j < gs.length) :
    ∃ K', Ret (tab Tryd.prog) 33 [.slice (some ⟨x, 0, none⟩) gs.length n, .int .i64 (j : Int), .int .i64 ((j : Int) + 1)] K (.slice (some ⟨x, 0, none⟩) (gs.length - 1) n) K' ∧ Kp (fun b => b = x) K K' ∧ OL K' lo hi x n (gs.eraseIdx j) (ps.eraseIdx j) := by
  obtain ⟨e, hn, lh, ⟨cs, gr, r1, r2, r3, r4, r5⟩, w⟩ := H
  obtain ⟨cs', hr, c1, c2, c3⟩ := delete_ret K x gs.length n j cs gr r1 r2 hj hn (by omega) r4
  have hlen : (gs.eraseIdx j).length = gs.length - 1 := List.length_eraseIdx_of_lt hj
  refine ⟨_, hr, Kp.set, by rw [hlen, List.length_eraseIdx_of_lt (by omega)]; omega, by omega, lh, ⟨cs', gr, List.getElem?_set_self (List.getElem?_eq_some_iff.1 r1).1, r2, by omega, c2, ?_⟩, fun i h1 h2 => ?_⟩
  · rw [hlen, c3, ← flat_erase e, ← r5]
    congr 1
    · rw [List.take_take]; congr 1; omega
    · rw [List.drop_take, Nat.sub_mul]
  · have key : ∀ i (h1 : i < gs.length) (h2 : i < ps.length), Ints (fun b => (lo ≤ b ∧ b < hi) ∧ b ≠ x) (K.set x (.row cs' true gr)) ps[i] gs[i].ws := fun i h1 h2 => (w i h1 h2).congr (fun _ y => y) fun b hb _ => List.getElem?_set_ne (fun e => hb.2 e.symm)
    by_cases hij : i < j
    · have e1 : (gs.eraseIdx j)[i] = gs[i] := by rw [List.getElem_eraseIdx, dif_pos hij]
      have e2 : (ps.eraseIdx j)[i] = ps[i] := by rw [List.getElem_eraseIdx, dif_pos hij]
      rw [e1, e2]
      exact key i (by omega) (by omega)
    · have h3 : i + 1 < gs.length := by rw [hlen] at h1; omega
      have e1 : (gs.eraseIdx j)[i] = gs[i + 1] := by rw [List.getElem_eraseIdx, dif_neg hij]
      have e2 : (ps.eraseIdx j)[i] = ps[i + 1] := by rw [List.getElem_eraseIdx, dif_neg hij]
      rw [e1, e2]
      exact key (i + 1) h3 (by omega)
theorem leafB {h h' A Z : Heap} {u : Value} {n : Nat} {p : Pl} {gs : List G} (he : h' = h ++ (A ++ Z)) (hz : Bld n Z p gs) (hn : n = h.length + A.length) (hf : flat2 u = true → p.1 = none) :
    ∃ X, forget h u h' = h ++ X ∧ (gs ≠ [] → ∃ x, p = (some ⟨x, 0, none⟩, gs.length) ∧ ∃ ps, OL (h ++ X) h.length (h ++ X).length x gs.length gs ps) := by
  subst he
  obtain ⟨ps, a, ⟨b1, b2⟩, c, d⟩ := hz
  by_cases hu : flat2 u = true
  · refine ⟨[], forget_nil hu (List.prefix_append _ _), fun hg => ?_⟩
    rcases b2 with ⟨_, b3⟩ | ⟨j, gr, e, _⟩
    · exact absurd (List.length_eq_zero_iff.1 b3) hg
    · have := hf hu
      rw [e] at this
      cases this
  · refine ⟨A ++ Z, forget_more (by simpa using hu), fun hg => ?_⟩
    rcases b2 with ⟨_, b3⟩ | ⟨j, gr, e, r1, r2⟩
    · exact absurd (List.length_eq_zero_iff.1 b3) hg
    · have hj := (List.getElem?_eq_some_iff.1 r1).1
      have hl : (h ++ (A ++ Z)).length = n + Z.length := by simp; omega
      refine ⟨n + j, e, ps, a, Nat.le_refl _, ⟨by omega, by omega⟩, ⟨_, gr, ?_, r2, by rw [flat_len _ _ a]; omega, flat_cells, by rw [← flat_len _ _ a, List.take_length]⟩, fun i h1 h2 => ?_⟩
      · rw [← List.append_assoc, List.getElem?_append_right (by simp; omega), show n + j - (h ++ A).length = j by simp; omega]
        exact r1
      · have := c i h1 h2 (h ++ A) (by simp; omega)
        rw [List.append_assoc] at this
        exact this.congr (fun b hb => ⟨⟨by have := hb.1.1; omega, by have := hb.1.2; omega⟩, fun e2 => hb.2 _ (by rw [e]) e2.symm⟩) fun _ _ _ => rfl
theorem kown_retR (H : Heap) (c : C) (p : Pl) {S : Nat → Prop} (hv : Gates S H p c.gs) (hl : c.gs.length < 4294967296) (hw : ∀ g ∈ c.gs, g.ws.length < 4294967296) : ∃ X p', Ret (tab Tryd.prog) 27 [cv c p] H (cv c p') (H ++ X) ∧ (c.gs ≠ [] → ∃ x, p' = (some ⟨x, 0, none⟩, c.gs.length) ∧ ∃ ps, OL (H ++ X) H.length (H ++ X).length x c.gs.length c.gs ps) := by
  have key := Ret_grow (T := tab Tryd.prog) (f := 27) (args := [cv c p]) (h := H) (fun u X => ∃ p', u = cv c p' ∧ (c.gs ≠ [] → ∃ x, p' = (some ⟨x, 0, none⟩, c.gs.length) ∧ ∃ ps, OL (H ++ X) H.length (H ++ X).length x c.gs.length c.gs ps)) k8 rfl ?_
  · obtain ⟨u, X, hr, p', rfl, f1⟩ := key
    exact ⟨X, p', hr, f1⟩
  refine AX_seq (AX_E (E_boxA rfl (E_new (E_nil (AX_seq (AX_E (E_fa rfl (E_ldO (k := 0) (v := .int .i64 (c.w)) rfl rfl (E_fa rfl (E_ldO (k := 0) (v := .int .i64 (c.b)) rfl rfl (E_mk (cs := [.int .i64 (c.w), .int .i64 (c.b), .slice none 0 0]) rfl (E_new (E_stO (k := 2) rfl rfl (v := .agg _) rfl rfl rfl rfl (E_nil (AX_seq (AX_seq (AX_E (E_fa rfl (E_ldO (k := 0) (v := .slice _ _ _) rfl rfl (E_len (n := (c.gs).length) rfl (E_mv (v := .int .i64 (0)) rfl (E_nil (AX_block ?_)))))))))))))))))))))))
  refine AX_loopF (γ := Nat × Pl) (fun x => [(2, .pointer (some ⟨(H).length + 1, 0, none⟩)), (3, .pointer (some ⟨(H).length + 2, 0, none⟩)), (12, .slice (p).1 (c.gs).length (p).2), (13, .int .i64 ((c.gs).length)), (14, .int .i64 ((x.1 : Int)))]) (fun x h_ m_ => (∃ z_, h_ = H ++ ([CO.row [.int .i64 (c.w), .int .i64 (c.b), .slice (p).1 (c.gs).length (p).2] true none, CO.row [.int .i64 (0), .int .i64 (0), .slice none 0 0] true none, CO.row [.int .i64 (c.w), .int .i64 (c.b), .slice (x.2).1 (c.gs.take x.1).length (x.2).2] true none] ++ z_) ∧ Bld (H.length + 3) z_ x.2 (c.gs.take x.1)) ∧ m_ = [] ∧ x.1 ≤ c.gs.length) (fun x => c.gs.length - x.1) (0, (none, 0)) ⟨rfl, rfl, rfl, rfl, rfl, trivial⟩ ⟨⟨[], app0 _ _, Bld.nil⟩, rfl, ?_⟩ ?_
  · simp
  rintro ⟨j, p0⟩ fr0 h0 m0 ⟨⟨z0, rfl, zf0⟩, rfl, inv0⟩ K0 hN0 hR0 hE0
  try dsimp only at zf0 inv0
  refine AX_nil ?_
  refine AX_seq (AX_E (E_lssS rfl rfl (fun c15 => ?_) (fun c15 => ?_)))
  · refine E_nil (AX_seq (AX_condT rfl (AX_skip (AX_seq (AX_block (AX_seq (AX_E (have ix1 : j < (c.gs).length := (by first | omega | (simp; done) | (simp; omega)); E_iaGb (j := j) rfl hv.app rfl rfl rfl ix1 fun b1 o1 q1 f1 w1 => (E_ldBN rfl w1 (E_new (E_stO (k := 0) rfl rfl (v := .agg _) rfl rfl rfl rfl (E_nil (AX_E (E_fa rfl (E_ldB (v := .slice _ _ _) rfl (rowGet_own (k := 2) rfl) (E_fa rfl (E_ldO (k := 0) (v := .int .i64 ((c.gs[j]'ix1).k)) rfl rfl (E_fa rfl (E_ldO (k := 0) (v := .slice _ _ _) rfl rfl ?_)))))))))))))))))))
    obtain ⟨X2, q2, hr2, f2⟩ := clone_ret _ _ _ f1.app (by exact hw _ (List.getElem_mem _))
    refine E_callX (X := X2) rfl (hr2) (E_fa rfl (E_ldB (v := .int .i64 ((c.gs[j]'ix1).b)) rfl (rowGet_own (k := 0) rfl) (E_fa rfl (E_ldB (v := .int .i64 ((c.gs[j]'ix1).f)) rfl (rowGet_own (k := 0) rfl) (E_mk (cs := [.int .i64 ((c.gs[j]'ix1).k), .slice (q2).1 ((c.gs[j]'ix1).ws).length (q2).2, .int .i64 ((c.gs[j]'ix1).b), .int .i64 ((c.gs[j]'ix1).f)]) rfl (E_mkS (cs := [.int .i64 ((c.gs[j]'ix1).k), .slice (q2).1 ((c.gs[j]'ix1).ws).length (q2).2, .int .i64 ((c.gs[j]'ix1).b), .int .i64 ((c.gs[j]'ix1).f)]) rfl (E_appG (A := [CO.row [.int .i64 (c.w), .int .i64 (c.b), .slice (p).1 (c.gs).length (p).2] true none, CO.row [.int .i64 (0), .int .i64 (0), .slice none 0 0] true none, CO.row [.int .i64 (c.w), .int .i64 (c.b), .slice (p0).1 (c.gs.take j).length (p0).2] true none]) (Z := z0) (W := ([CO.row [.int .i64 ((c.gs[j]'ix1).k), .slice (q1).1 ((c.gs[j]'ix1).ws).length (q1).2, .int .i64 ((c.gs[j]'ix1).b), .int .i64 ((c.gs[j]'ix1).f)] true none] ++ (X2 ++ [CO.row [.int .i64 ((c.gs[j]'ix1).k), .slice (q2).1 ((c.gs[j]'ix1).ws).length (q2).2, .int .i64 ((c.gs[j]'ix1).b), .int .i64 ((c.gs[j]'ix1).f)] true none]))) (gs' := c.gs.take (j + 1)) (by first | (simp only [List.append_assoc, List.append_nil, List.nil_append, List.cons_append, List.set_cons_zero, List.set_cons_succ]; done) | (simp only [List.append_assoc, List.append_nil, List.nil_append, List.cons_append, List.set_cons_zero, List.set_cons_succ]; rfl)) (List.take_succ_eq_append_getElem (by omega)) (n := (H.length + 3)) (by simp) (zf0) rfl rfl (rowGet_own (k := 0) rfl) (IntsZ.inside f2 (by simp; omega)) (by rw [List.length_take]; omega) rfl fun z3n p3n hb3n => (E_fa rfl (E_stO (k := 2) rfl rfl (v := .slice _ _ _) rfl rfl rfl rfl (E_nil (AX_E (E_addI rfl rfl (by first | omega | (simp; done) | (simp; omega)) (by first | omega | (simp; done) | (simp; omega)) (E_mv (v := .int .i64 (((j : Int) + 1))) rfl (E_nil ?_))))))))))))))
    refine hN0 (j + 1, p3n) _ _ _ ⟨by first | rfl | (congr 1; omega), by first | rfl | (congr 1; omega), by first | rfl | (congr 1; omega), by first | rfl | (congr 1; omega), by first | rfl | (congr 1; omega), trivial⟩ ⟨⟨z3n, rfl, hb3n⟩, rfl, ?_⟩ ?_
    all_goals clear hN0 hR0 hE0
    · omega
    · (first | omega | (simp; omega))
  · refine E_nil (AX_seq (AX_condF rfl (AX_exit (hE0 _ _ _ _ ?_))))
    have e0 : c.gs.take j = c.gs := List.take_of_length_le (by omega)
    refine AX_hp (h' := H ++ ([CO.row [.int .i64 (c.w), .int .i64 (c.b), .slice (p).1 (c.gs).length (p).2] true none, CO.row [.int .i64 (0), .int .i64 (0), .slice none 0 0] true none, CO.row [.int .i64 (c.w), .int .i64 (c.b), .slice (p0).1 (c.gs.take j).length (p0).2] true none] ++ z0)) (by first | (simp only [List.append_assoc, List.append_nil, List.nil_append, List.cons_append, List.set_cons_zero, List.set_cons_succ]; done) | (simp only [List.append_assoc, List.append_nil, List.nil_append, List.cons_append, List.set_cons_zero, List.set_cons_succ]; rfl)) ?_
    refine AX_seq (AX_E (E_ldON (k := 2) rfl rfl (E_stO (k := 1) rfl rfl (v := .agg _) rfl rfl rfl rfl (E_nil (AX_ret ?_)))))
    refine ⟨_, res1 (res_cellN (k := 1) rfl rfl), by simp, ?_⟩
    obtain ⟨X, h1, h2⟩ := leafB (h := H) (h' := H ++ ([CO.row [.int .i64 (c.w), .int .i64 (c.b), .slice (p).1 (c.gs).length (p).2] true none, CO.row [.int .i64 (c.w), .int .i64 (c.b), .slice (p0).1 (c.gs.take j).length (p0).2] true none, CO.row [.int .i64 (c.w), .int .i64 (c.b), .slice (p0).1 (c.gs.take j).length (p0).2] true none] ++ z0)) (A := [CO.row [.int .i64 (c.w), .int .i64 (c.b), .slice (p).1 (c.gs).length (p).2] true none, CO.row [.int .i64 (c.w), .int .i64 (c.b), .slice (p0).1 (c.gs.take j).length (p0).2] true none, CO.row [.int .i64 (c.w), .int .i64 (c.b), .slice (p0).1 (c.gs.take j).length (p0).2] true none]) (Z := z0) (u := cv ⟨c.w, c.b, c.gs.take j⟩ p0) rfl zf0 (by simp) cv_flat
    exact ⟨X, h1, p0, (show _ = cv ⟨c.w, c.b, c.gs.take j⟩ p0 from rfl).trans (by rw [e0] <;> rfl), by rw [e0] at h2; exact h2⟩
/-- A list that is written where it lies. -/
theorem blk_of {S : Nat → Prop} {p : Pl} (h : ∀ a, p.1 = some a → S a.block) (m : Nat) : ∃ x, (∀ a, p.1 = some a → a.block = x) ∧ (S x ∨ x = m) := by
  obtain ⟨p1, p2⟩ := p
  cases p1 with
  | none => exact ⟨m, ⟨fun a h => (by cases h), .inr rfl⟩⟩
  | some a => exact ⟨a.block, ⟨fun b hb => (by injection hb with hb; rw [hb]), .inl (h a rfl)⟩⟩
theorem RI.kp {H : Heap} {S : Nat → Prop} {p : Pl} {n x : Nat} {K : Heap} {gs : List G} {ps : List Pl} (I : RI H S p n K gs ps) (hx : ∀ a, p.1 = some a → a.block = x) : Kp (fun b => b = x) H K :=
  ⟨by rw [I.len]; exact Nat.le_refl _, fun b _ hb => I.keep b fun a ha e => hb (by rw [← e]; exact hx a ha)⟩
theorem RI.gates {H : Heap} {S S' : Nat → Prop} {p : Pl} {n : Nat} {K : Heap} {gs : List G} {ps : List Pl} (I : RI H S p n K gs ps) (W : Wires (fun b => S' b ∧ offP p b) H gs ps) : Gates allB K p gs := by
  refine ⟨ps, by rw [I.e1, I.e2], by have := I.cells; rw [← I.e1] at this; exact this.congr (fun _ _ => trivial) (fun _ _ _ => rfl), fun i h1 h2 => (W i h1 h2).congr (fun _ _ => trivial) fun b hb _ => I.keep b hb.2⟩
theorem wires_swap {S : Nat → Prop} {K : Heap} {gs : List G} {ps : List Pl} {i j : Nat} (W : Wires S K gs ps) (hi : i < gs.length) (hj : j < gs.length) (hi2 : i < ps.length) (hj2 : j < ps.length) : Wires S K ((gs.set i gs[j]).set j gs[i]) ((ps.set i ps[j]).set j ps[i]) := by
  intro k h1 h2
  simp only [List.length_set] at h1 h2
  by_cases e : j = k
  · subst e
    simp only [List.getElem_set_self]
    exact W i hi hi2
  · by_cases e2 : i = k
    · subst e2
      rw [List.getElem_set_ne e, List.getElem_set_ne e, List.getElem_set_self, List.getElem_set_self]
      exact W j hj hj2
    · rw [List.getElem_set_ne e, List.getElem_set_ne e, List.getElem_set_ne e2, List.getElem_set_ne e2]
      exact W k h1 h2
theorem trx_perm {l m : List G} (h : TrX l m) : l.Perm m := by
  induction h with
  | nil => exact .nil
  | cons _ _ e _ ih => subst e; exact ih.cons _
  | swap _ _ _ _ => exact .swap _ _ _
  | trans _ _ h1 h2 => exact h1.trans h2
/-- What CircTraced needs of Tidy. -/
theorem traced_facts {c : C} (hc : checkM c = 0) : Al GR c.gs ∧ tidyR c = tidyM c ∧ checkM (tidyM c) = 0 ∧ tidyR (tidyM c) = tidyM c ∧ (tidyM c).gs.length = c.gs.length ∧ TrX c.gs (tidyM c).gs ∧ Td c.gs (tidyM c).gs := by
  have hr := CR.of hc
  have hl : Al GR c.gs := fun g hg => hr.gr hg
  have ht := tidy_trx hl
  have h1 : checkM (tidyM c) = 0 := checkM_of ⟨by have := hr.w0; show 1 ≤ c.w; omega, hr.w0.2⟩ hr.b0 (by show (tidyL c.gs.length c.gs).length ≤ 120; rw [tidyL_len]; have := hr.n0; omega) fun g hg => hr.cg g ((trx_perm ht).mem_iff.2 hg)
  refine ⟨hl, if_pos hc, h1, ?_, ht.len.symm, ht, tidy_td _ rfl hl⟩
  rw [show tidyR (tidyM c) = tidyM (tidyM c) from if_pos h1]
  show (⟨c.w, c.b, tidyL (tidyL c.gs.length c.gs).length (tidyL c.gs.length c.gs)⟩ : C) = ⟨c.w, c.b, tidyL c.gs.length c.gs⟩
  rw [tidy_again hl]
theorem traced_same {c : C} {ds : List G} (hc : checkM c = 0) (ht : TrX c.gs ds) : checkM ⟨c.w, c.b, ds⟩ = 0 ∧ tidyR ⟨c.w, c.b, ds⟩ = tidyM c ∧ ds.length = c.gs.length := by
  have hr := CR.of hc
  have h1 : checkM ⟨c.w, c.b, ds⟩ = 0 := checkM_of ⟨by have := hr.w0; show 1 ≤ c.w; omega, hr.w0.2⟩ hr.b0 (by rw [← ht.len]; have := hr.n0; omega) fun g hg => hr.cg g ((trx_perm ht).mem_iff.2 hg)
  refine ⟨h1, ?_, ht.len.symm⟩
  rw [show tidyR ⟨c.w, c.b, ds⟩ = tidyM ⟨c.w, c.b, ds⟩ from if_pos h1]
  show (⟨c.w, c.b, tidyL ds.length ds⟩ : C) = ⟨c.w, c.b, tidyL c.gs.length c.gs⟩
  rw [tidy_tr ht]
/-- Where a list's first gate that is g stands, if all before it commute with it. -/
theorem tk_idx {g : G} : ∀ {l m : List G}, tk l g = some m → ∃ i, ∃ hi : i < l.length, l[i] = g ∧ (∀ j (hj : j < i), l[j]'(by omega) ≠ g ∧ commM (l[j]'(by omega)) g) ∧ m = l.eraseIdx i
  | [], _, h => by simp [tk] at h
  | a :: l, m, h => by
    rw [tk] at h
    by_cases e : a = g
    · rw [if_pos e] at h; cases h
      exact ⟨0, by simp, by simpa using e, fun j hj => by omega, rfl⟩
    · rw [if_neg e] at h
      by_cases c : commM a g
      · rw [if_pos c] at h
        obtain ⟨n, hn, rfl⟩ := Option.map_eq_some_iff.1 h
        obtain ⟨i, hi, h1, h2, rfl⟩ := tk_idx hn
        refine ⟨i + 1, by simpa using hi, by simpa using h1, fun j hj => ?_, rfl⟩
        match j with
        | 0 => exact ⟨by simpa using e, by simpa using c⟩
        | j + 1 => simpa using h2 j (by omega)
      · rw [if_neg c] at h; cases h
theorem td_next {l o : List G} (h : Td l o) (ho : o ≠ []) : ∃ i, ∃ hi : i < l.length, l[i] = o[0]'(List.length_pos_iff.2 ho) ∧ (∀ j (hj : j < i), l[j]'(by omega) ≠ l[i] ∧ commM (l[j]'(by omega)) l[i]) ∧ Td (l.eraseIdx i) (o.drop 1) := by
  cases h with
  | nil => exact absurd rfl ho
  | cons h1 _ h3 =>
    obtain ⟨i, hi, e, h2, rfl⟩ := tk_idx h1
    exact ⟨i, hi, by simpa using e, fun j hj => by rw [e]; exact h2 j hj, by simpa using h3⟩
theorem fidx_first {l : List G} {g : G} {i : Nat} (hi : i < l.length) (e : l[i] = g) (h : ∀ j (hj : j < i), l[j]'(by omega) ≠ g) : fidxM (fun x => x = g) l = i :=
  fidx_at hi (fun x hx => by obtain ⟨j, hj, rfl⟩ := List.mem_take_iff_getElem.1 hx; exact h j (by omega)) e
end Go.Canon
namespace Go.Canon
open Go Go.Proofs
set_option linter.unusedVariables false
set_option linter.unusedSimpArgs false
def kf231 : KFunc := ⟨2, 7, [.tmp 3], .seq (.reg [⟨some 2, .box (.t 0), none⟩, ⟨some 3, .mv (.c (.bool false)), none⟩] []) (.seq (.reg [⟨some 4, .ld (.t 2) (some 4), none⟩, ⟨some 5, .ld (.t 1) (some 4), none⟩, ⟨some 6, .call (.c (.func (.func 32) #[] #[])) [.t 4, .t 5], none⟩, ⟨some 3, .mv (.t 6), none⟩] []) .ret)⟩
theorem k231 : tab Tryd.prog 31 = some kf231 := by kernel_rfl
def kf205 : KFunc := ⟨3, 205, [.tmp 6], .seq (.reg [⟨some 6, .mv (.c (.bool false)), none⟩] []) (.seq (.reg [⟨some 29, .mv (.t 0), none⟩, ⟨some 30, .call (.c (.func (.func 10) #[] #[])) [.t 29], none⟩, ⟨some 31, .mv (.t 2), none⟩, ⟨some 32, .call (.c (.func (.func 9) #[] #[])) [.t 30, .t 31], none⟩, ⟨some 7, .new [.int .i64 0, .int .i64 0, .slice none 0 0], none⟩, ⟨none, .st (.t 7) (.t 32) 3, none⟩] []) (.seq (.reg [⟨some 34, .ld (.t 7) (some 3), none⟩, ⟨some 35, .call (.c (.func (.func 26) #[] #[])) [.t 34], none⟩, ⟨some 33, .mv (.t 35), none⟩, ⟨some 36, .ext (.t 33) 0, none⟩, ⟨some 37, .ext (.t 33) 1, none⟩, ⟨some 8, .new [.int .i64 0, .int .i64 0, .slice none 0 0], none⟩, ⟨none, .st (.t 8) (.t 36) 3, none⟩, ⟨some 9, .mv (.t 37), none⟩] []) (.seq (.reg [⟨some 39, .ld (.t 8) (some 3), none⟩, ⟨some 40, .call (.c (.func (.func 26) #[] #[])) [.t 39], none⟩, ⟨some 38, .mv (.t 40), none⟩, ⟨some 41, .ext (.t 38) 0, none⟩, ⟨some 42, .ext (.t 38) 1, none⟩, ⟨some 10, .new [.int .i64 0, .int .i64 0, .slice none 0 0], none⟩, ⟨none, .st (.t 10) (.t 41) 3, none⟩, ⟨some 11, .mv (.t 42), none⟩] []) (.seq (.seq (.reg [⟨some 43, .mv (.t 9), none⟩, ⟨some 44, .bin .neq (.t 43) (.c (.int .i64 0)), none⟩, ⟨some 45, .mv (.t 44), none⟩, ⟨some 46, .mv (.t 11), some (45, false)⟩, ⟨some 47, .bin .neq (.t 46) (.c (.int .i64 0)), some (45, false)⟩, ⟨some 48, .pick (.t 45) (.c (.bool true)) (.t 47), none⟩, ⟨some 49, .mv (.t 48), none⟩, ⟨some 50, .ld (.t 10) (some 3), some (49, false)⟩, ⟨some 51, .ld (.t 8) (some 3), some (49, false)⟩, ⟨some 52, .call (.c (.func (.func 24) #[] #[])) [.t 50, .t 51], some (49, false)⟩, ⟨some 53, .not (.t 52), some (49, false)⟩, ⟨some 54, .pick (.t 49) (.c (.bool true)) (.t 53), none⟩, ⟨some 55, .mv (.t 54), none⟩, ⟨some 56, .fa (.t 8) 2, some (55, false)⟩, ⟨some 57, .ld (.t 56) none, some (55, false)⟩, ⟨some 58, .len (.t 57), some (55, false)⟩, ⟨some 59, .fa (.t 7) 2, some (55, false)⟩, ⟨some 60, .ld (.t 59) none, some (55, false)⟩, ⟨some 61, .len (.t 60), some (55, false)⟩, ⟨some 62, .bin .neq (.t 58) (.t 61), some (55, false)⟩, ⟨some 63, .pick (.t 55) (.c (.bool true)) (.t 62), none⟩] []) (.cond (.t 63) (.seq (.reg [⟨some 6, .mv (.c (.bool false)), none⟩] []) .ret) .skip)) (.seq (.reg [⟨some 64, .ld (.t 7) (some 3), none⟩, ⟨some 65, .call (.c (.func (.func 27) #[] #[])) [.t 64], none⟩, ⟨some 12, .new [.int .i64 0, .int .i64 0, .slice none 0 0], none⟩, ⟨none, .st (.t 12) (.t 65) 3, none⟩] []) (.seq (.seq (.reg [⟨some 66, .mv (.t 1), none⟩, ⟨some 67, .mv (.t 1), none⟩, ⟨some 68, .len (.t 67), none⟩, ⟨some 69, .mn [.t 68, .c (.int .i64 30)], none⟩, ⟨some 70, .slS (.t 66) none (some (.t 69)) none 1, none⟩, ⟨some 71, .len (.t 70), none⟩, ⟨some 72, .mv (.c (.int .i64 0)), none⟩] []) (.block 0 (.loop (.seq (.reg [⟨some 73, .bin .lss (.t 72) (.t 71), none⟩] []) (.seq (.cond (.t 73) .skip (.exit 0)) (.seq (.block 1 (.seq (.reg [⟨some 74, .iaS (.t 70) (.t 72) 1, none⟩, ⟨some 75, .ld (.t 74) none, none⟩, ⟨some 14, .mv (.t 75), none⟩] []) (.seq (.seq (.reg [⟨some 76, .fa (.t 12) 2, none⟩, ⟨some 77, .ld (.t 76) none, none⟩, ⟨some 78, .len (.t 77), none⟩, ⟨some 79, .bin .lss (.t 78) (.c (.int .i64 2)), none⟩] []) (.cond (.t 79) (.exit 0) .skip)) (.seq (.reg [⟨some 80, .mv (.t 14), none⟩, ⟨some 81, .cv .i64 (.t 80), none⟩, ⟨some 82, .fa (.t 12) 2, none⟩, ⟨some 83, .ld (.t 82) none, none⟩, ⟨some 84, .len (.t 83), none⟩, ⟨some 85, .bin .sub (.t 84) (.c (.int .i64 1)), none⟩, ⟨some 86, .bin .rem (.t 81) (.t 85), none⟩, ⟨some 15, .mv (.t 86), none⟩] []) (.seq (.reg [⟨some 88, .ld (.t 12) (some 3), none⟩, ⟨some 89, .mv (.t 15), none⟩, ⟨some 90, .mv (.t 15), none⟩, ⟨some 91, .bin .add (.t 90) (.c (.int .i64 1)), none⟩, ⟨some 92, .call (.c (.func (.func 28) #[] #[])) [.t 88, .t 89, .t 91], none⟩, ⟨some 87, .mv (.t 92), none⟩, ⟨some 93, .ext (.t 87) 0, none⟩, ⟨some 94, .ext (.t 87) 1, none⟩, ⟨some 16, .mv (.t 93), none⟩, ⟨some 17, .mv (.t 94), none⟩] []) (.seq (.reg [⟨some 96, .ld (.t 12) (some 3), none⟩, ⟨some 97, .mv (.t 15), none⟩, ⟨some 98, .bin .add (.t 97) (.c (.int .i64 1)), none⟩, ⟨some 99, .mv (.t 15), none⟩, ⟨some 100, .call (.c (.func (.func 28) #[] #[])) [.t 96, .t 98, .t 99], none⟩, ⟨some 95, .mv (.t 100), none⟩, ⟨some 101, .ext (.t 95) 0, none⟩, ⟨some 102, .ext (.t 95) 1, none⟩, ⟨some 18, .mv (.t 101), none⟩, ⟨some 19, .mv (.t 102), none⟩] []) (.seq (.seq (.reg [⟨some 103, .mv (.t 17), none⟩, ⟨some 104, .bin .neq (.t 103) (.c (.int .i64 0)), none⟩, ⟨some 105, .mv (.t 104), none⟩, ⟨some 106, .mv (.t 19), some (105, false)⟩, ⟨some 107, .bin .neq (.t 106) (.c (.int .i64 0)), some (105, false)⟩, ⟨some 108, .pick (.t 105) (.c (.bool true)) (.t 107), none⟩, ⟨some 109, .mv (.t 108), none⟩, ⟨some 110, .mv (.t 16), some (109, false)⟩, ⟨some 111, .mv (.t 18), some (109, false)⟩, ⟨some 112, .eqB true (.t 110) (.t 111), some (109, false)⟩, ⟨some 113, .pick (.t 109) (.c (.bool true)) (.t 112), none⟩] []) (.cond (.t 113) (.seq (.reg [⟨some 6, .mv (.c (.bool false)), none⟩] []) .ret) .skip)) (.seq (.reg [⟨some 114, .mv (.t 16), none⟩] []) (.cond (.t 114) (.reg [⟨some 115, .fa (.t 12) 2, none⟩, ⟨some 116, .ld (.t 115) none, none⟩, ⟨some 117, .mv (.t 15), none⟩, ⟨some 118, .fa (.t 12) 2, none⟩, ⟨some 119, .ld (.t 118) none, none⟩, ⟨some 120, .mv (.t 15), none⟩, ⟨some 121, .bin .add (.t 120) (.c (.int .i64 1)), none⟩, ⟨some 122, .fa (.t 12) 2, none⟩, ⟨some 123, .ld (.t 122) none, none⟩, ⟨some 124, .mv (.t 15), none⟩, ⟨some 125, .bin .add (.t 124) (.c (.int .i64 1)), none⟩, ⟨some 126, .iaS (.t 123) (.t 125) 4, none⟩, ⟨some 127, .ld (.t 126) (some 4), none⟩, ⟨some 128, .fa (.t 12) 2, none⟩, ⟨some 129, .ld (.t 128) none, none⟩, ⟨some 130, .mv (.t 15), none⟩, ⟨some 131, .iaS (.t 129) (.t 130) 4, none⟩, ⟨some 132, .ld (.t 131) (some 4), none⟩, ⟨some 133, .iaS (.t 116) (.t 117) 4, none⟩, ⟨none, .st (.t 133) (.t 127) 4, none⟩, ⟨some 134, .iaS (.t 119) (.t 121) 4, none⟩, ⟨none, .st (.t 134) (.t 132) 4, none⟩] [(4, 19)]) .skip))))))))) (.reg [⟨some 135, .bin .add (.t 72) (.c (.int .i64 1)), none⟩, ⟨some 72, .mv (.t 135), none⟩] []))))))) (.seq (.reg [⟨some 137, .ld (.t 12) (some 3), none⟩, ⟨some 138, .call (.c (.func (.func 26) #[] #[])) [.t 137], none⟩, ⟨some 136, .mv (.t 138), none⟩, ⟨some 139, .ext (.t 136) 0, none⟩, ⟨some 140, .ext (.t 136) 1, none⟩, ⟨some 20, .new [.int .i64 0, .int .i64 0, .slice none 0 0], none⟩, ⟨none, .st (.t 20) (.t 139) 3, none⟩, ⟨some 9, .mv (.t 140), none⟩] []) (.seq (.reg [⟨some 142, .ld (.t 7) (some 3), none⟩, ⟨some 143, .ld (.t 12) (some 3), none⟩, ⟨some 144, .call (.c (.func (.func 29) #[] #[])) [.t 142, .t 143], none⟩, ⟨some 141, .mv (.t 144), none⟩, ⟨some 145, .ext (.t 141) 0, none⟩, ⟨some 146, .ext (.t 141) 1, none⟩, ⟨some 21, .mv (.t 145), none⟩, ⟨some 11, .mv (.t 146), none⟩] []) (.seq (.seq (.reg [⟨some 147, .mv (.t 9), none⟩, ⟨some 148, .bin .neq (.t 147) (.c (.int .i64 0)), none⟩, ⟨some 149, .mv (.t 148), none⟩, ⟨some 150, .mv (.t 11), some (149, false)⟩, ⟨some 151, .bin .neq (.t 150) (.c (.int .i64 0)), some (149, false)⟩, ⟨some 152, .pick (.t 149) (.c (.bool true)) (.t 151), none⟩, ⟨some 153, .mv (.t 152), none⟩, ⟨some 154, .mv (.t 21), some (153, false)⟩, ⟨some 155, .not (.t 154), some (153, false)⟩, ⟨some 156, .pick (.t 153) (.c (.bool true)) (.t 155), none⟩, ⟨some 157, .mv (.t 156), none⟩, ⟨some 158, .ld (.t 20) (some 3), some (157, false)⟩, ⟨some 159, .ld (.t 8) (some 3), some (157, false)⟩, ⟨some 160, .call (.c (.func (.func 24) #[] #[])) [.t 158, .t 159], some (157, false)⟩, ⟨some 161, .not (.t 160), some (157, false)⟩, ⟨some 162, .pick (.t 157) (.c (.bool true)) (.t 161), none⟩] []) (.cond (.t 162) (.seq (.reg [⟨some 6, .mv (.c (.bool false)), none⟩] []) .ret) .skip)) (.seq (.reg [⟨some 163, .ld (.t 7) (some 3), none⟩, ⟨some 164, .call (.c (.func (.func 27) #[] #[])) [.t 163], none⟩, ⟨some 22, .new [.int .i64 0, .int .i64 0, .slice none 0 0], none⟩, ⟨none, .st (.t 22) (.t 164) 3, none⟩] []) (.seq (.seq (.reg [⟨some 165, .fa (.t 8) 2, none⟩, ⟨some 166, .ld (.t 165) none, none⟩, ⟨some 167, .len (.t 166), none⟩, ⟨some 168, .mv (.c (.int .i64 0)), none⟩] []) (.block 2 (.loop (.seq (.reg [⟨some 169, .bin .lss (.t 168) (.t 167), none⟩] []) (.seq (.cond (.t 169) .skip (.exit 2)) (.seq (.block 3 (.seq (.reg [⟨some 170, .iaS (.t 166) (.t 168) 4, none⟩, ⟨some 171, .ld (.t 170) (some 4), none⟩, ⟨some 24, .new [.int .i64 0, .slice none 0 0, .int .i64 0, .int .i64 0], none⟩, ⟨none, .st (.t 24) (.t 171) 4, none⟩] []) (.seq (.reg [⟨some 172, .fa (.t 22) 2, none⟩, ⟨some 173, .ld (.t 172) none, none⟩, ⟨some 174, .fn 31 [] [.t 24], none⟩, ⟨some 175, .call (.c (.func (.func 30) #[] #[])) [.t 173, .t 174], none⟩, ⟨some 25, .mv (.t 175), none⟩] []) (.seq (.seq (.reg [⟨some 176, .mv (.t 25), none⟩, ⟨some 177, .bin .lss (.t 176) (.c (.int .i64 0)), none⟩] []) (.cond (.t 177) (.seq (.reg [⟨some 6, .mv (.c (.bool false)), none⟩] []) .ret) .skip)) (.seq (.seq (.reg [⟨some 178, .mv (.t 25), none⟩, ⟨some 179, .mv (.c (.int .i64 0)), none⟩] []) (.block 4 (.loop (.seq (.reg [⟨some 180, .bin .lss (.t 179) (.t 178), none⟩] []) (.seq (.cond (.t 180) .skip (.exit 4)) (.seq (.block 5 (.seq (.reg [⟨some 181, .mv (.t 179), none⟩, ⟨some 26, .mv (.t 181), none⟩] []) (.seq (.reg [⟨some 183, .ld (.t 22) (some 3), none⟩, ⟨some 184, .mv (.t 26), none⟩, ⟨some 185, .mv (.t 25), none⟩, ⟨some 186, .call (.c (.func (.func 28) #[] #[])) [.t 183, .t 184, .t 185], none⟩, ⟨some 182, .mv (.t 186), none⟩, ⟨some 187, .ext (.t 182) 0, none⟩, ⟨some 188, .ext (.t 182) 1, none⟩, ⟨some 27, .mv (.t 187), none⟩, ⟨some 28, .mv (.t 188), none⟩] []) (.seq (.reg [⟨some 189, .mv (.t 27), none⟩, ⟨some 190, .not (.t 189), none⟩, ⟨some 191, .mv (.t 190), none⟩, ⟨some 192, .mv (.t 28), some (191, false)⟩, ⟨some 193, .bin .neq (.t 192) (.c (.int .i64 0)), some (191, false)⟩, ⟨some 194, .pick (.t 191) (.c (.bool true)) (.t 193), none⟩] []) (.cond (.t 194) (.seq (.reg [⟨some 6, .mv (.c (.bool false)), none⟩] []) .ret) .skip))))) (.reg [⟨some 195, .bin .add (.t 179) (.c (.int .i64 1)), none⟩, ⟨some 179, .mv (.t 195), none⟩] []))))))) (.reg [⟨some 196, .fa (.t 22) 2, none⟩, ⟨some 197, .ld (.t 196) none, none⟩, ⟨some 198, .mv (.t 25), none⟩, ⟨some 199, .mv (.t 25), none⟩, ⟨some 200, .bin .add (.t 199) (.c (.int .i64 1)), none⟩, ⟨some 201, .call (.c (.func (.func 33) #[] #[])) [.t 197, .t 198, .t 200], none⟩, ⟨some 202, .fa (.t 22) 2, none⟩, ⟨none, .st (.t 202) (.t 201) 1, none⟩] [])))))) (.reg [⟨some 203, .bin .add (.t 168) (.c (.int .i64 1)), none⟩, ⟨some 168, .mv (.t 203), none⟩] []))))))) (.seq (.reg [⟨some 204, .call (.c (.func (.func 19) #[] #[])) [], none⟩, ⟨some 6, .mv (.t 204), none⟩] []) .ret))))))))))))⟩
theorem k205 : tab Tryd.prog 5 = some kf205 := by kernel_rfl
theorem cells_pre {S : Nat → Prop} {h h' : Heap} {sz n : Nat} {p : Pl} {cells : List Value} (hp : h <+: h') (H : Cells S h sz p n cells) : Cells S h' sz p n cells := by
  obtain ⟨t, rfl⟩ := hp
  exact H.app
theorem row_pre {h h' : Heap} {a : Addr} {n : Nat} {l : List Value} (hp : h <+: h') (H : rowGet h a n = some l) : rowGet h' a n = some l := by
  obtain ⟨t, rfl⟩ := hp
  exact rowGet_base H
theorem cl231_ret (K : Heap) (g gg : G) (p q : Pl) (b : Nat) {S S' : Nat → Prop} (hrow : rowGet K ⟨b, 0, none⟩ 4 = some (gcells gg q)) (hv : Ints S K p g.ws) (hu : Ints S' K q gg.ws) (hl : g.ws.length < 4611686018427387904) : Ret (tab Tryd.prog) 31 [gv g p, .pointer (some ⟨b, 0, none⟩)] K (.bool (decide (g = gg))) K := by
  refine Ret_own k231 rfl ?_
  refine AX_seq (AX_E (E_boxA rfl (E_mv (v := .bool _) rfl (E_nil (AX_seq (AX_E (E_ldON (k := 0) rfl rfl (E_ldBN rfl hrow (E_callV rfl (ksame_ret _ g gg _ _ hv.app hu.app hl) (E_mv (v := .bool _) rfl (E_nil (AX_ret ?_))))))))))))
  refine ⟨_, rfl, by simp, ?_, forget_flat rfl (List.prefix_append _ _)⟩
  refine congrArg (Value.bool) ?_
  refine decide_eq_decide.2 ?_
  exact Iff.rfl
theorem two_at {c : C} (hc : checkM c = 0) {i j : Nat} (hi : i < c.gs.length) (hj : j < c.gs.length) : twoE c i j = 0 ∧ twoG c i j i = c.gs[i] ∧ twoG c i j j = c.gs[j] := by
  have t : twoE c i j = 0 := by unfold twoE; (repeat' split) <;> omega
  exact ⟨t, by simp only [twoG, if_pos t, Int.toNat_natCast, getG_at hi], by simp only [twoG, if_pos t, Int.toNat_natCast, getG_at hj]⟩
theorem commute_at {K : Heap} {c : C} {ds : List G} {q : Pl} {n i j : Nat} (hc : checkM ⟨c.w, c.b, ds⟩ = 0) (hg : Gates allB K q ds) (hn : ds.length = n) (hi : i < ds.length) (hj : j < ds.length) (hl : ds.length ≤ 120) :
    Ret (tab Tryd.prog) 28 [.agg #[.int .i64 c.w, .int .i64 c.b, .slice q.1 n q.2], .int .i64 (i : Int), .int .i64 (j : Int)] K (.tuple #[.bool (decide (commM ds[i] ds[j])), .int .i64 0]) K := by
  subst hn
  have h9 := pCommute_ret K ⟨c.w, c.b, ds⟩ q (i : Int) (j : Int) hg (by show ds.length < _; omega)
  obtain ⟨t1, t2, t3⟩ := two_at hc (i := i) (j := j) hi hj
  rw [if_pos t1, t1, t2, t3] at h9
  exact h9
set_option maxRecDepth 100000 in
theorem traced_run (H : Heap) (pb pp pk : Pl) (bs ls kl : List Int) (pl : Bool) (hP : Byts allB H pp ls) (hlp : ls.length < 9223372036854775808) (hls : ∀ x ∈ ls, 0 ≤ x ∧ x ≤ 255) (hB : Byts allB H pb bs) (hl : bs.length < 9223372036854775808) (hg : rowGet H ⟨0, 0, none⟩ 1 = some [.slice pk.1 kl.length pk.2]) (h0 : 0 < H.length) (hkl : Ints allB H pk kl) (hk : kl = [1, 2, 3, 4, 5, 6, 7, 8, 9, 10, 11, 12]) : ∃ v h', Ret (tab Tryd.prog) 5 [.slice pb.1 bs.length pb.2, .slice pp.1 ls.length pp.2, .bool pl] H v h' ∧ v = .bool true := by
  have hne : 0 < kl.length ∧ kl.length < 100 := by rw [hk]; decide
  have hkk : ∀ x ∈ kl, 1 ≤ x ∧ x ≤ 12 := by rw [hk]; decide
  have h1 : arityM (kl[0]'hne.1) = 1 := by subst hk; rfl
  have key : ACall (tab Tryd.prog) 5 [.slice pb.1 bs.length pb.2, .slice pp.1 ls.length pp.2, .bool pl] H fun u _ => u = .bool true := by
    refine ACall_ownR k205 rfl ?_
    refine AX_seq (AX_E (E_mv (v := .bool _) rfl (E_nil (AX_seq (AX_E (E_mv (v := .slice _ _ _) rfl ?_))))))
    obtain ⟨s, X20, hr20, hsH, so20⟩ := sof_ret H pb bs hB hl
    obtain ⟨KA, hKA⟩ : ∃ K : Heap, K = H ++ X20 := ⟨_, rfl⟩
    rw [← hKA] at hr20 so20
    obtain ⟨N, hN⟩ : ∃ n : Nat, n = KA.length := ⟨_, rfl⟩
    rw [← hN] at so20
    have soKA := so20
    have kqKA : Kp (fun b => b = s) H KA := by rw [hKA]; exact Kp.app
    have lKA : H.length ≤ KA.length := kqKA.len
    have hsN := so20.1
    have klA : Ints (fun b => b < N ∧ b ≠ s) KA pk kl := Cells.congr (ints_lt hkl) (fun b hb => by have := hb.2; omega) (fun b hb hl => kqKA.keep b hl (by have := hb.2; omega))
    have gA : rowGet KA ⟨0, 0, none⟩ 1 = some [.slice pk.1 kl.length pk.2] := (rowGet_ne (kqKA.keep 0 h0 (by omega))).trans hg
    refine E_callU rfl hr20 rfl (E_mv (v := .bool _) rfl ?_)
    obtain ⟨c, q32, U32, hr32, hb32, ga32, soU32, kpU32⟩ := steered_ret N KA s 0 pl pk kl soKA (by omega) gA ⟨by omega, by omega⟩ klA hne hkk h1
    have kqU32 : Kp (fun b => b = s) H U32 := kqKA.trans kpU32 (fun _ _ x => x) (fun _ _ x => x)
    have leU32 : KA.length ≤ U32.length := kpU32.len
    have lhU32 : H.length ≤ U32.length := kqU32.len
    obtain ⟨hc, hw4, hb2, hl14⟩ := hb32
    obtain ⟨ft1, ft2, ft3, ft4, ft5, ft6, ft7⟩ := traced_facts hc
    have hr := CR.of hc
    have lwc : ∀ g ∈ c.gs, g.ws.length < 4294967296 := fun g hg => by have := (hr.gr hg).len; omega
    have lwt : ∀ g ∈ (tidyM c).gs, g.ws.length < 4294967296 := fun g hg => by have := ((CR.of ft3).gr hg).len; omega
    have lt : lens (tidyM c).gs := ⟨by omega, fun g hg => by have := lwt g hg; omega⟩
    have hP32 : Byts (fun b => b < H.length) U32 pp ls := Cells.congr (Cells.lt hP) (fun b hb => hb.2) (fun b hb hl => kqU32.keep b hl (by have := hb.2; omega))
    refine E_callU rfl hr32 rfl (E_new (E_stO (k := 0) rfl rfl (v := .agg _) rfl rfl rfl rfl (E_nil (AX_seq (AX_E (E_ldON (k := 0) rfl rfl ?_))))))
    obtain ⟨X1, q1, hr1, f1⟩ := ptidy_ret (U32 ++ [CO.row [.int .i64 (c.w), .int .i64 (c.b), .slice (q32).1 (c.gs).length (q32).2] true none]) c _ (gates_lt2 ga32).app (by omega)
    rw [ft2] at hr1 f1
    obtain ⟨K2, hK2⟩ : ∃ K : Heap, K = U32 ++ ([CO.row [.int .i64 (c.w), .int .i64 (c.b), .slice (q32).1 (c.gs).length (q32).2] true none] ++ X1) := ⟨_, rfl⟩
    have lK2 : U32.length + 1 ≤ K2.length := by rw [hK2]; simp only [List.length_append, List.length_cons, List.length_nil]; omega
    have pK2 : U32 <+: K2 := by rw [hK2]; exact List.prefix_append _ _
    have fk3 : GatesP (fun b => (U32.length + 1 ≤ b ∧ b < K2.length)) K2 (q1) ((tidyM c).gs) := f1.atS (by simp) hK2
    refine E_callX (X := X1) rfl (hr1) (E_hp (h' := K2 ++ []) (congrArg (fun x : Heap => x ++ []) hK2.symm) (E_mv (v := .tuple _) rfl (E_ext (v := .agg _) rfl rfl (E_ext (v := .int .i64 ((checkM c))) rfl rfl (E_new (E_stO (k := 0) rfl rfl (v := .agg _) rfl rfl rfl rfl (E_mv (v := .int .i64 ((checkM c))) rfl (E_nil (AX_seq (AX_E (E_ldON (k := 0) rfl rfl ?_)))))))))))
    obtain ⟨X4, q4, hr4, f4⟩ := ptidy_ret (K2 ++ [CO.row [.int .i64 ((tidyM c).w), .int .i64 ((tidyM c).b), .slice (q1).1 ((tidyM c).gs).length (q1).2] true none]) (tidyM c) _ fk3.gates.app (by omega)
    rw [ft4] at hr4 f4
    obtain ⟨K5, hK5⟩ : ∃ K : Heap, K = K2 ++ ([CO.row [.int .i64 ((tidyM c).w), .int .i64 ((tidyM c).b), .slice (q1).1 ((tidyM c).gs).length (q1).2] true none] ++ X4) := ⟨_, rfl⟩
    have lK5 : K2.length + 1 ≤ K5.length := by rw [hK5]; simp only [List.length_append, List.length_cons, List.length_nil]; omega
    have pK5 : U32 <+: K5 := by rw [hK5]; exact (pK2).trans (List.prefix_append _ _)
    have fk6 : GatesP (fun b => (K2.length + 1 ≤ b ∧ b < K5.length)) K5 (q4) ((tidyM c).gs) := f4.atS (by simp) hK5
    refine E_callX (X := X4) rfl (hr4) (E_hp (h' := K5 ++ []) (congrArg (fun x : Heap => x ++ []) hK5.symm) (E_mv (v := .tuple _) rfl (E_ext (v := .agg _) rfl rfl (E_ext (v := .int .i64 ((checkM (tidyM c)))) rfl rfl (E_new (E_stO (k := 0) rfl rfl (v := .agg _) rfl rfl rfl rfl (E_mv (v := .int .i64 ((checkM (tidyM c)))) rfl (E_nil (AX_seq (AX_seq (AX_E (E_mv (v := .int .i64 ((checkM c))) rfl (E_neqS rfl rfl (fun c44 => ?_) (fun c44 => ?_))))))))))))))
    · exact (c44 hc).elim
    · refine E_mv (v := .bool _) rfl (E_on rfl (E_mv (v := .int .i64 ((checkM (tidyM c)))) rfl (E_on rfl (E_neqS rfl rfl (fun c47 => ?_) (fun c47 => ?_)))))
      · exact (c47 ft3).elim
      · refine E_pickF rfl (v := .bool _) rfl (E_mv (v := .bool _) rfl (E_on rfl (E_ldON (k := 0) rfl rfl (E_on rfl (E_ldBN (cs := [.int .i64 ((tidyM c).w), .int .i64 ((tidyM c).b), .slice (q1).1 ((tidyM c).gs).length (q1).2]) rfl (rowGet_eq hK5 (rowGet_own (k := 0) rfl)) (E_on rfl (E_callP rfl (kcsame_ret _ (tidyM c) (tidyM c) _ _ fk6.gates.app (fk3.lift hK5).gates.app (by assumption)) (fun c52 => ?_) (fun c52 => ?_))))))))
        · refine E_on rfl (E_notV rfl rfl (E_pickF rfl (v := .bool _) rfl (E_mv (v := .bool _) rfl (E_on rfl (E_fa rfl (E_on rfl (E_ldB (v := .slice _ _ _) rfl (rowGet_eq hK5 (rowGet_own (k := 0) rfl)) (E_on rfl (E_len (n := ((tidyM c).gs).length) rfl (E_on rfl (E_fa rfl (E_on rfl (E_ldB (v := .slice _ _ _) rfl (rowGet_lift hK5 (rowGet_eq hK2 (rowGet_own (k := 0) rfl))) (E_on rfl (E_len (n := (c.gs).length) rfl (E_on rfl (E_neqS rfl rfl (fun c62 => ?_) (fun c62 => ?_))))))))))))))))))
          · omega
          · refine E_pickF rfl (v := .bool _) rfl (E_nil (AX_condF rfl (AX_skip (AX_seq (AX_E (E_ldBN (cs := [.int .i64 (c.w), .int .i64 (c.b), .slice (q32).1 (c.gs).length (q32).2]) rfl (rowGet_lift hK5 (rowGet_eq hK2 (rowGet_own (k := 0) rfl))) ?_))))))
            obtain ⟨X65, q65, hr65, f65⟩ := kown_ret (K5 ++ [CO.row [.int .i64 ((tidyM c).w), .int .i64 ((tidyM c).b), .slice (q4).1 ((tidyM c).gs).length (q4).2] true none]) c _ (((gates_lt2 ga32).lift hK2).lift hK5).app (by omega) lwc
            obtain ⟨K7, hK7⟩ : ∃ K : Heap, K = K5 ++ ([CO.row [.int .i64 ((tidyM c).w), .int .i64 ((tidyM c).b), .slice (q4).1 ((tidyM c).gs).length (q4).2] true none] ++ X65) := ⟨_, rfl⟩
            have lK7 : K5.length + 1 ≤ K7.length := by rw [hK7]; simp only [List.length_append, List.length_cons, List.length_nil]; omega
            have pK7 : U32 <+: K7 := by rw [hK7]; exact (pK5).trans (List.prefix_append _ _)
            have fk8 : GatesP (fun b => (K5.length + 1 ≤ b ∧ b < K7.length)) K7 (q65) (c.gs) := f65.atS (by simp) hK7
            refine E_callX (X := X65) rfl (hr65) (E_hp (h' := K7 ++ []) (congrArg (fun x : Heap => x ++ []) hK7.symm) (E_new (E_stO (k := 0) rfl rfl (v := .agg _) rfl rfl rfl rfl (E_nil (AX_seq (AX_seq (AX_E (E_mv (v := .slice _ _ _) rfl (E_mv (v := .slice _ _ _) rfl (E_len (n := (ls).length) rfl (E_mn2 rfl rfl ?_)))))))))))
            have hP70 : Byts (fun b => b < H.length) K7 pp ls := cells_pre pK7 hP32
            refine E_slHi (j := (ls.take 30).length) rfl (Cells.app hP70) rfl (by rw [List.length_take]; split <;> omega) (by simp; omega) (E_len (n := ((ls.take 30)).length) rfl ?_)
            obtain ⟨K9, hK9⟩ : ∃ K : Heap, K = K7 ++ ([CO.row [.int .i64 (c.w), .int .i64 (c.b), .slice (q65).1 (c.gs).length (q65).2] true none] ++ []) := ⟨_, rfl⟩
            have lK9 : K7.length + 1 ≤ K9.length := by rw [hK9]; simp only [List.length_append, List.length_cons, List.length_nil]; omega
            have pK9 : U32 <+: K9 := by rw [hK9]; exact (pK7).trans (List.prefix_append _ _)
            obtain ⟨KB, hKB⟩ : ∃ K' : Heap, K' = K9 := ⟨_, rfl⟩
            have kpB : Kp (fun b => b < 0) K9 KB := by rw [hKB]; exact ⟨Nat.le_refl _, fun _ _ _ => rfl⟩
            have eKB : KB = (K5 ++ [CO.row [.int .i64 ((tidyM c).w), .int .i64 ((tidyM c).b), .slice (q4).1 ((tidyM c).gs).length (q4).2] true none]) ++ (X65 ++ [CO.row [.int .i64 (c.w), .int .i64 (c.b), .slice (q65).1 (c.gs).length (q65).2] true none]) := by rw [hKB, hK9, hK7]; simp only [List.append_assoc, List.append_nil, List.nil_append, List.cons_append]
            obtain ⟨pz, RB, WB, dB⟩ := RI.of (A := K5 ++ [CO.row [.int .i64 ((tidyM c).w), .int .i64 ((tidyM c).b), .slice (q4).1 ((tidyM c).gs).length (q4).2] true none]) (X := X65) (W := [CO.row [.int .i64 (c.w), .int .i64 (c.b), .slice (q65).1 (c.gs).length (q65).2] true none]) f65 rfl hr65.wr
            rw [← eKB] at RB WB
            obtain ⟨xq, hxq, hxr⟩ := blk_of RB.cells.inS KB.length
            simp only [segB, List.length_append, List.length_cons, List.length_nil] at hxr
            have lkA := congrArg List.length hK7
            have lkB := congrArg List.length hK9
            have lkC := congrArg List.length hKB
            simp only [List.length_append, List.length_cons, List.length_nil] at lkA lkB
            have fPB : Byts (fun b => b < H.length) KB pp (ls.take 30) := byts_take (cells_pre (by rw [hKB]; exact pK9) hP32) 30
            have fk10 : Gates (fun b => (KA.length ≤ b ∧ b < U32.length)) KB (q32) (c.gs) := kpB.ga (((((gates_lt2 ga32).lift hK2).lift hK5).lift hK7).lift hK9) (fun b hb => ⟨trivial, fun e => by have h : (KA.length ≤ b ∧ b < U32.length) := hb; have e1 : (b < 0) := e; omega⟩)
            have rw11 : KB[(U32).length + 0]? = some (CO.row [.int .i64 (c.w), .int .i64 (c.b), .slice (q32).1 (c.gs).length (q32).2] true none) := kpB.row (getq hK9 (getq hK7 (getq hK5 (get_own hK2 (k := 0) rfl)))) (by show ¬ ((U32).length + 0 < 0); omega)
            have fk12 : GatesP (fun b => (U32.length + 1 ≤ b ∧ b < K2.length)) KB (q1) ((tidyM c).gs) := kpB.gp (((fk3.lift hK5).lift hK7).lift hK9) (fun b hb => ⟨trivial, fun e => by have h : (U32.length + 1 ≤ b ∧ b < K2.length) := hb; have e1 : (b < 0) := e; omega⟩)
            have rw13 : KB[(K2).length + 0]? = some (CO.row [.int .i64 ((tidyM c).w), .int .i64 ((tidyM c).b), .slice (q1).1 ((tidyM c).gs).length (q1).2] true none) := kpB.row (getq hK9 (getq hK7 (get_own hK5 (k := 0) rfl))) (by show ¬ ((K2).length + 0 < 0); omega)
            have fk14 : GatesP (fun b => (K2.length + 1 ≤ b ∧ b < K5.length)) KB (q4) ((tidyM c).gs) := kpB.gp ((fk6.lift hK7).lift hK9) (fun b hb => ⟨trivial, fun e => by have h : (K2.length + 1 ≤ b ∧ b < K5.length) := hb; have e1 : (b < 0) := e; omega⟩)
            have rw15 : KB[(K5).length + 0]? = some (CO.row [.int .i64 ((tidyM c).w), .int .i64 ((tidyM c).b), .slice (q4).1 ((tidyM c).gs).length (q4).2] true none) := kpB.row (getq hK9 (get_own hK7 (k := 0) rfl)) (by show ¬ ((K5).length + 0 < 0); omega)
            have rw16 : KB[(K2).length + 0]? = some (CO.row [.int .i64 ((tidyM c).w), .int .i64 ((tidyM c).b), .slice (q1).1 ((tidyM c).gs).length (q1).2] true none) := kpB.row (getq hK9 (getq hK7 (get_own hK5 (k := 0) rfl))) (by show ¬ ((K2).length + 0 < 0); omega)
            have rw17 : KB[(U32).length + 0]? = some (CO.row [.int .i64 (c.w), .int .i64 (c.b), .slice (q32).1 (c.gs).length (q32).2] true none) := kpB.row (getq hK9 (getq hK7 (getq hK5 (get_own hK2 (k := 0) rfl)))) (by show ¬ ((U32).length + 0 < 0); omega)
            have fk18 : GatesP (fun b => (K5.length + 1 ≤ b ∧ b < K7.length)) KB (q65) (c.gs) := kpB.gp (fk8.lift hK9) (fun b hb => ⟨trivial, fun e => by have h : (K5.length + 1 ≤ b ∧ b < K7.length) := hb; have e1 : (b < 0) := e; omega⟩)
            have rw19 : KB[(K7).length + 0]? = some (CO.row [.int .i64 (c.w), .int .i64 (c.b), .slice (q65).1 (c.gs).length (q65).2] true none) := kpB.row (get_own hK9 (k := 0) rfl) (by show ¬ ((K7).length + 0 < 0); omega)
            have rC := rw11
            have gC := fk10
            have rT := rw13
            have gT := fk12.gates
            have rD := rw19
            refine E_hp (h' := K9 ++ []) (((List.append_nil _).symm.trans (congrArg (fun x : Heap => (K7 ++ x) ++ []) (List.append_nil _).symm)).trans (congrArg (fun x : Heap => x ++ []) hK9.symm)) (E_hp (h' := KB ++ []) (congrArg (· ++ []) hKB.symm) (E_mv (v := .int .i64 (0)) rfl (E_nil (AX_block ?_))))
            refine AX_loopF (γ := Nat × List G × List Pl) (fun x => [(7, .pointer (some ⟨(U32).length + 0, 0, none⟩)), (8, .pointer (some ⟨(K2).length + 0, 0, none⟩)), (12, .pointer (some ⟨(K7).length + 0, 0, none⟩)), (70, .slice pp.1 (ls.take 30).length pp.2), (71, .int .i64 (((ls.take 30)).length)), (72, .int .i64 ((x.1 : Int)))]) (fun x h_ m_ => (m_ = [] ∧ RI KB (segB (K5 ++ [CO.row [.int .i64 ((tidyM c).w), .int .i64 ((tidyM c).b), .slice (q4).1 ((tidyM c).gs).length (q4).2] true none]).length X65.length) q65 c.gs.length h_ x.2.1 x.2.2) ∧ x.1 ≤ (ls.take 30).length ∧ Wires (fun b => segB (K5 ++ [CO.row [.int .i64 ((tidyM c).w), .int .i64 ((tidyM c).b), .slice (q4).1 ((tidyM c).gs).length (q4).2] true none]).length X65.length b ∧ offP q65 b) KB x.2.1 x.2.2 ∧ TrX c.gs x.2.1) (fun x => (ls.take 30).length - x.1) (0, c.gs, pz) ⟨rfl, rfl, rfl, rfl, rfl, rfl, trivial⟩ ⟨?_, ?_⟩ ?_
            · exact ⟨rfl, by rw [List.append_nil]; exact RB⟩
            · exact ⟨by omega, WB, Tr.rfl' lwX ft1⟩
            rintro ⟨i, ds, ps⟩ fr0 KH0 mk0 ⟨hI0, inv0⟩ Kk0 hN0 hR0 hE0
            try dsimp only at hI0 inv0
            obtain ⟨rfl, R0⟩ := hI0
            have lR0 := R0.len
            have hl30 : (ls.take 30).length ≤ 30 := by rw [List.length_take]; omega
            obtain ⟨hi0, W0, T0⟩ := inv0
            have kp0 := R0.kp hxq
            have gd0 := R0.gates W0
            have hdl : ds.length = c.gs.length := T0.len.symm
            have hgd : Al GR ds := T0.all.2
            obtain ⟨hD, hDt, _⟩ := traced_same hc T0
            have rC0 := kp0.row rC (by show ¬ (U32).length + 0 = xq; omega)
            have rT0 := kp0.row rT (by show ¬ (K2).length + 0 = xq; omega)
            have rD0 := kp0.row rD (by show ¬ (K7).length + 0 = xq; omega)
            have gC0 := kp0.ga gC (fun b hb => ⟨trivial, fun e => by have h : (KA.length ≤ b ∧ b < U32.length) := hb; have e1 : b = xq := e; omega⟩)
            have gT0 := kp0.ga gT (fun b hb => ⟨trivial, fun e => by have h : (U32.length + 1 ≤ b ∧ b < K2.length) := hb; have e1 : b = xq := e; omega⟩)
            have fP0 : Byts (fun b => b < H.length) KH0 pp (ls.take 30) := Cells.congr fPB (fun _ x => x) (fun b hb hl => kp0.keep b hl (by have h : b < H.length := hb; omega))
            refine AX_nil ?_
            refine AX_seq (AX_E (E_lssS rfl rfl (fun c73 => ?_) (fun c73 => ?_)))
            · refine E_nil (AX_seq (AX_condT rfl (AX_skip (AX_seq (AX_block (AX_seq (AX_E (have hjx : i < (ls.take 30).length := (by omega); E_iaCb (j := i) (v := .int .u8 ((ls.take 30)[i]'hjx)) rfl fP0 rfl rfl (by first | omega | (simp; done) | (simp; omega)) (by rw [List.getElem?_map, List.getElem?_eq_getElem hjx]; rfl) fun b20 o20 w20 => (E_ldB (v := .int _ _) rfl w20 (E_mv (v := .int _ _) rfl (E_nil (AX_seq (AX_seq (AX_E (E_fa rfl (E_ldB (v := .slice _ _ _) rfl (rowGet_c (j := 2) (rowGet_all rD0 rfl) rfl) (E_len (n := (c.gs).length) rfl (E_lssS rfl rfl (fun c79 => ?_) (fun c79 => ?_)))))))))))))))))))
              · refine E_nil (AX_condT rfl (AX_exit (hE0 _ _ _ _ (AX_seq (AX_E (E_ldBN rfl (rowGet_all rD0 rfl) ?_))))))
                obtain ⟨X138, q138, h138, f138⟩ := ptidy_ret (KH0 ++ []) ⟨c.w, c.b, ds⟩ q65 gd0.app (by show ds.length < _; omega)
                rw [hDt] at f138
                have hr138 : Ret (tab Tryd.prog) 26 [.agg #[.int .i64 c.w, .int .i64 c.b, .slice q65.1 c.gs.length q65.2]] (KH0 ++ []) (.tuple #[cv (tidyM c) q138, .int .i64 0]) (KH0 ++ [] ++ X138) := by rw [hDt, hD] at h138; rw [← hdl]; exact h138
                obtain ⟨K21, hK21⟩ : ∃ K : Heap, K = KH0 ++ ([] ++ X138) := ⟨_, rfl⟩
                have lK21 : KH0.length + 0 ≤ K21.length := by rw [hK21]; simp only [List.length_append, List.length_cons, List.length_nil]; omega
                have pK21 : KH0 <+: K21 := by rw [hK21]; exact List.prefix_append _ _
                have fk22 : GatesP (fun b => (KH0.length + 0 ≤ b ∧ b < K21.length)) K21 (q138) ((tidyM c).gs) := f138.atS (by simp) hK21
                refine E_callX (X := X138) rfl (hr138) (E_hp (h' := K21 ++ []) (congrArg (fun x : Heap => x ++ []) hK21.symm) (E_mv (v := .tuple _) rfl (E_ext (v := .agg _) rfl rfl (E_ext (v := .int .i64 (0)) rfl rfl (E_new (E_stO (k := 0) rfl rfl (v := .agg _) rfl rfl rfl rfl (E_mv (v := .int .i64 (0)) rfl (E_nil (AX_seq (AX_E (E_ldBN rfl (rowGet_lift hK21 (rowGet_all rC0 rfl)) (E_ldBN rfl (rowGet_lift hK21 (rowGet_all rD0 rfl)) ?_))))))))))))
                have hh144 : Ret (tab Tryd.prog) 29 [cv c q32, .agg #[.int .i64 c.w, .int .i64 c.b, .slice q65.1 c.gs.length q65.2]] (K21 ++ [CO.row [.int .i64 ((tidyM c).w), .int .i64 ((tidyM c).b), .slice (q138).1 ((tidyM c).gs).length (q138).2] true none]) (.tuple #[.bool true, .int .i64 0]) (K21 ++ [CO.row [.int .i64 ((tidyM c).w), .int .i64 ((tidyM c).b), .slice (q138).1 ((tidyM c).gs).length (q138).2] true none]) := by
                  have h9 := pequal_ret (K21 ++ [CO.row [.int .i64 ((tidyM c).w), .int .i64 ((tidyM c).b), .slice (q138).1 ((tidyM c).gs).length (q138).2] true none]) c ⟨c.w, c.b, ds⟩ q32 q65 (gC0.lift hK21).app.all (gd0.lift hK21).app (by omega) (by show ds.length < _; omega)
                  have e9 : equalE c ⟨c.w, c.b, ds⟩ = 0 := by unfold equalE; rw [if_neg (fun h => h hc)]; exact hD
                  have e8 : tidyM c = tidyM ⟨c.w, c.b, ds⟩ := by rw [← hDt]; exact if_pos hD
                  rw [if_pos e9, e9, decide_eq_true e8] at h9
                  rw [← hdl]
                  exact h9
                refine E_callV rfl hh144 (E_mv (v := .tuple _) rfl (E_ext (v := .bool _) rfl rfl (E_ext (v := .int .i64 (0)) rfl rfl (E_mv (v := .bool _) rfl (E_mv (v := .int .i64 (0)) rfl (E_nil (AX_seq (AX_seq (AX_E (E_mv (v := .int .i64 (0)) rfl (E_neqS rfl rfl (fun c148 => ?_) (fun c148 => ?_))))))))))))
                · exact (c148 rfl).elim
                · refine E_mv (v := .bool _) rfl (E_on rfl (E_mv (v := .int .i64 (0)) rfl (E_on rfl (E_neqS rfl rfl (fun c151 => ?_) (fun c151 => ?_)))))
                  · exact (c151 rfl).elim
                  · refine E_pickF rfl (v := .bool _) rfl (E_mv (v := .bool _) rfl (E_on rfl (E_mv (v := .bool _) rfl (E_on rfl (E_notV rfl rfl (E_pickF rfl (v := .bool _) rfl (E_mv (v := .bool _) rfl (E_on rfl (E_ldON (k := 0) rfl rfl (E_on rfl (E_ldBN rfl (rowGet_lift hK21 (rowGet_all rT0 rfl)) (E_on rfl (E_callP rfl (kcsame_ret _ (tidyM c) (tidyM c) _ _ fk22.gates.app (gT0.lift hK21).app (by assumption)) (fun c160 => ?_) (fun c160 => ?_))))))))))))))
                    · refine E_on rfl (E_notV rfl rfl (E_pickF rfl (v := .bool _) rfl (E_nil (AX_condF rfl (AX_skip (AX_seq (AX_E (E_ldBN rfl (rowGet_lift hK21 (rowGet_all rC0 rfl)) ?_))))))))
                      obtain ⟨X164, q164, hr164, f164⟩ := kown_retR (K21 ++ [CO.row [.int .i64 ((tidyM c).w), .int .i64 ((tidyM c).b), .slice (q138).1 ((tidyM c).gs).length (q138).2] true none]) c _ (gC0.lift hK21).app (by omega) lwc
                      obtain ⟨K23, hK23⟩ : ∃ K : Heap, K = K21 ++ ([CO.row [.int .i64 ((tidyM c).w), .int .i64 ((tidyM c).b), .slice (q138).1 ((tidyM c).gs).length (q138).2] true none] ++ X164) := ⟨_, rfl⟩
                      have lK23 : K21.length + 1 ≤ K23.length := by rw [hK23]; simp only [List.length_append, List.length_cons, List.length_nil]; omega
                      have pK23 : KH0 <+: K23 := by rw [hK23]; exact (pK21).trans (List.prefix_append _ _)
                      refine E_callX (X := X164) rfl (hr164) (E_hp (h' := K23 ++ []) (congrArg (fun x : Heap => x ++ []) hK23.symm) (E_new (E_stO (k := 0) rfl rfl (v := .agg _) rfl rfl rfl rfl (E_nil (AX_seq (AX_seq (AX_E (E_fa rfl (E_ldB (v := .slice _ _ _) rfl (rowGet_c (j := 2) (rowGet_lift hK23 (rowGet_lift hK21 (rowGet_all rT0 rfl))) rfl) (E_len (n := ((tidyM c).gs).length) rfl ?_))))))))))
                      obtain ⟨K24, hK24⟩ : ∃ K : Heap, K = K23 ++ ([CO.row [.int .i64 (c.w), .int .i64 (c.b), .slice (q164).1 (c.gs).length (q164).2] true none] ++ []) := ⟨_, rfl⟩
                      have lK24 : K23.length + 1 ≤ K24.length := by rw [hK24]; simp only [List.length_append, List.length_cons, List.length_nil]; omega
                      have pK24 : KH0 <+: K24 := by rw [hK24]; exact (pK23).trans (List.prefix_append _ _)
                      obtain ⟨KC, hKC⟩ : ∃ K' : Heap, K' = K24 := ⟨_, rfl⟩
                      have kpC : Kp (fun b => b < 0) K24 KC := by rw [hKC]; exact ⟨Nat.le_refl _, fun _ _ _ => rfl⟩
                      obtain ⟨lo, hlo⟩ : ∃ n : Nat, n = (K21 ++ [CO.row [.int .i64 ((tidyM c).w), .int .i64 ((tidyM c).b), .slice (q138).1 ((tidyM c).gs).length (q138).2] true none]).length := ⟨_, rfl⟩
                      obtain ⟨hi, hhi⟩ : ∃ n : Nat, n = K23.length := ⟨_, rfl⟩
                      have eA : (K21 ++ [CO.row [.int .i64 ((tidyM c).w), .int .i64 ((tidyM c).b), .slice (q138).1 ((tidyM c).gs).length (q138).2] true none]) ++ X164 = K23 := by rw [hK23, List.append_assoc]
                      rw [eA, ← hlo, ← hhi] at f164
                      obtain ⟨xl, ps0, hxl⟩ : ∃ x ps, c.gs ≠ [] → q164 = (some ⟨x, 0, none⟩, c.gs.length) ∧ OL KC lo hi x c.gs.length c.gs ps := by
                        by_cases h : c.gs = []
                        · exact ⟨0, [], fun h2 => absurd h h2⟩
                        · obtain ⟨x, a, ps, b⟩ := f164 h
                          exact ⟨x, ps, fun _ => ⟨a, b.kp (S := fun _ => False) (by rw [hKC, hK24]; exact Kp.app) (fun _ _ _ x => x)⟩⟩
                      have lkA2 := congrArg List.length hK23
                      have lkB2 := congrArg List.length hK24
                      have lkC2 := congrArg List.length hKC
                      simp only [List.length_append, List.length_cons, List.length_nil] at lkA2 lkB2 hlo
                      have fk26 : Gates (fun b => (KA.length ≤ b ∧ b < U32.length)) KC (q32) (c.gs) := kpC.ga (((gC0.lift hK21).lift hK23).lift hK24) (fun b hb => ⟨trivial, fun e => by have h : (KA.length ≤ b ∧ b < U32.length) := hb; have e1 : (b < 0) := e; omega⟩)
                      have rw25 : KC[(U32).length + 0]? = some (CO.row [.int .i64 (c.w), .int .i64 (c.b), .slice (q32).1 (c.gs).length (q32).2] true none) := kpC.row (getq hK24 (getq hK23 (getq hK21 rC0))) (by show ¬ ((U32).length + 0 < 0); omega)
                      have fk28 : Gates (fun b => (U32.length + 1 ≤ b ∧ b < K2.length)) KC (q1) ((tidyM c).gs) := kpC.ga (((gT0.lift hK21).lift hK23).lift hK24) (fun b hb => ⟨trivial, fun e => by have h : (U32.length + 1 ≤ b ∧ b < K2.length) := hb; have e1 : (b < 0) := e; omega⟩)
                      have rw27 : KC[(K2).length + 0]? = some (CO.row [.int .i64 ((tidyM c).w), .int .i64 ((tidyM c).b), .slice (q1).1 ((tidyM c).gs).length (q1).2] true none) := kpC.row (getq hK24 (getq hK23 (getq hK21 rT0))) (by show ¬ ((K2).length + 0 < 0); omega)
                      have rw29 : KC[(K7).length + 0]? = some (CO.row [.int .i64 (c.w), .int .i64 (c.b), .slice (q65).1 (c.gs).length (q65).2] true none) := kpC.row (getq hK24 (getq hK23 (getq hK21 rD0))) (by show ¬ ((K7).length + 0 < 0); omega)
                      have fk30 : GatesP (fun b => (KH0.length + 0 ≤ b ∧ b < K21.length)) KC (q138) ((tidyM c).gs) := kpC.gp ((fk22.lift hK23).lift hK24) (fun b hb => ⟨trivial, fun e => by have h : (KH0.length + 0 ≤ b ∧ b < K21.length) := hb; have e1 : (b < 0) := e; omega⟩)
                      have rw31 : KC[(K21).length + 0]? = some (CO.row [.int .i64 ((tidyM c).w), .int .i64 ((tidyM c).b), .slice (q138).1 ((tidyM c).gs).length (q138).2] true none) := kpC.row (getq hK24 (get_own hK23 (k := 0) rfl)) (by show ¬ ((K21).length + 0 < 0); omega)
                      have rw32 : KC[(K23).length + 0]? = some (CO.row [.int .i64 (c.w), .int .i64 (c.b), .slice (q164).1 (c.gs).length (q164).2] true none) := kpC.row (get_own hK24 (k := 0) rfl) (by show ¬ ((K23).length + 0 < 0); omega)
                      have gT2 := fk28
                      have rL := rw32
                      refine E_hp (h' := K24 ++ []) (((List.append_nil _).symm.trans (congrArg (fun x : Heap => (K23 ++ x) ++ []) (List.append_nil _).symm)).trans (congrArg (fun x : Heap => x ++ []) hK24.symm)) (E_hp (h' := KC ++ []) (congrArg (· ++ []) hKC.symm) (E_mv (v := .int .i64 (0)) rfl (E_nil (AX_block ?_))))
                      refine AX_loopF (γ := Nat × List G × List Pl) (fun x => [(22, .pointer (some ⟨(K23).length + 0, 0, none⟩)), (166, .slice (q1).1 ((tidyM c).gs).length (q1).2), (167, .int .i64 (((tidyM c).gs).length)), (168, .int .i64 ((x.1 : Int)))]) (fun x h_ m_ => (m_ = [] ∧ Kp (fun b => (lo ≤ b ∧ b < hi) ∨ b = (K23).length + 0) KC h_ ∧ h_[(K23).length + 0]? = some (CO.row [.int .i64 (c.w), .int .i64 (c.b), .slice (q164).1 (x.2.1).length (q164).2] true none) ∧ (c.gs ≠ [] → OL h_ lo hi xl c.gs.length x.2.1 x.2.2)) ∧ x.1 ≤ (tidyM c).gs.length ∧ Td x.2.1 ((tidyM c).gs.drop x.1) ∧ (∀ g ∈ (x.2.1), g ∈ c.gs) ∧ (x.2.1).length ≤ c.gs.length) (fun x => (tidyM c).gs.length - x.1) (0, c.gs, ps0) ⟨rfl, rfl, rfl, rfl, trivial⟩ ⟨?_, ?_⟩ ?_
                      · rw [List.append_nil]
                        exact ⟨rfl, ⟨Nat.le_refl _, fun _ _ _ => rfl⟩, rL, fun h => (hxl h).2⟩
                      · exact ⟨by omega, by rw [List.drop_zero]; exact ft7, fun g h => h, Nat.le_refl _⟩
                      rintro ⟨j, lf, ps⟩ fr2 KH2 mk2 ⟨hI2, inv2⟩ Kk2 hN2 hR2 hE2
                      try dsimp only at hI2 inv2
                      obtain ⟨rfl, kp3, rL3, ol3⟩ := hI2
                      obtain ⟨hj3, td3, hm3, hn3⟩ := inv2
                      have gT3 := kp3.ga gT2 (fun b hb => ⟨trivial, fun e => by have h : (U32.length + 1 ≤ b ∧ b < K2.length) := hb; have e1 : (lo ≤ b ∧ b < hi) ∨ b = (K23).length + 0 := e; omega⟩)
                      refine AX_nil ?_
                      refine AX_seq (AX_E (E_lssS rfl rfl (fun c169 => ?_) (fun c169 => ?_)))
                      · refine E_nil (AX_seq (AX_condT rfl (AX_skip (AX_seq (AX_block (AX_seq (AX_E (have ix33 : j < ((tidyM c).gs).length := (by first | omega | (simp; done) | (simp; omega)); E_iaGb (j := j) rfl gT3 rfl rfl rfl ix33 fun b33 o33 q33 f33 w33 => ?_))))))))
                        have hjt : j < (tidyM c).gs.length := by omega
                        have hcne : c.gs ≠ [] := fun e => by have h8 := congrArg List.length e; simp only [List.length_nil] at h8; omega
                        obtain ⟨hq164, _⟩ := hxl hcne
                        have ol3 := ol3 hcne
                        have gl3 : Gates allB KH2 q164 lf := by rw [hq164]; exact ol3.gates
                        have hne9 : (tidyM c).gs.drop j ≠ [] := fun e => by have := congrArg List.length e; simp at this; omega
                        obtain ⟨at_, hat, e1, e2, td4⟩ := td_next td3 hne9
                        have e3 : ((tidyM c).gs.drop j)[0]'(List.length_pos_iff.2 hne9) = (tidyM c).gs[j] := by simp
                        rw [e3] at e1
                        have hLc : checkM ⟨c.w, c.b, lf⟩ = 0 := checkM_of ⟨by have := hr.w0; omega, hr.w0.2⟩ hr.b0 (by omega) fun g hg => hr.cg g (hm3 g hg)
                        refine E_ldBN rfl w33 (E_new (E_stO (k := 0) rfl rfl (v := .agg _) rfl rfl rfl rfl (E_nil (AX_seq (AX_E (E_fa rfl (E_ldB (v := .slice _ _ _) rfl (rowGet_c (j := 2) (rowGet_all rL3 rfl) rfl) (E_fn (u := []) (v := [.pointer (some ⟨(KH2).length + 0, 0, none⟩)]) rfl rfl ?_))))))))
                        obtain ⟨K34, hK34⟩ : ∃ K : Heap, K = KH2 ++ ([CO.row [.int .i64 (((tidyM c).gs[j]'ix33).k), .slice (q33).1 (((tidyM c).gs[j]'ix33).ws).length (q33).2, .int .i64 (((tidyM c).gs[j]'ix33).b), .int .i64 (((tidyM c).gs[j]'ix33).f)] true none] ++ []) := ⟨_, rfl⟩
                        have lK34 : KH2.length + 1 ≤ K34.length := by rw [hK34]; simp only [List.length_append, List.length_cons, List.length_nil]; omega
                        have pK34 : KH2 <+: K34 := by rw [hK34]; exact List.prefix_append _ _
                        have gl4 : Gates allB K34 q164 lf := gl3.lift hK34
                        have r24 : rowGet K34 ⟨KH2.length + 0, 0, none⟩ 4 = some (gcells (tidyM c).gs[j] q33) := rowGet_all (get_own hK34 (k := 0) rfl) rfl
                        have i24 := f33.lift hK34
                        have hh175 := indexfuncG_ret (K34 ++ []) q164 lf (f := 31) #[] #[.pointer (some ⟨KH2.length + 0, 0, none⟩)] (fun x => x = (tidyM c).gs[j]) gl4.app (by omega) (fun g p K hK hg e1 => cl231_ret K g _ p _ _ (row_pre hK (rowGet_base r24)) e1 (cells_pre hK i24.app) (by have := lwc g (hm3 g hg); omega))
                        rw [fidx_first hat e1 (fun j hj => by rw [← e1]; exact (e2 j hj).1)] at hh175
                        refine E_hp (h' := K34 ++ []) (((List.append_nil _).symm.trans (congrArg (fun x : Heap => (KH2 ++ x) ++ []) (List.append_nil _).symm)).trans (congrArg (fun x : Heap => x ++ []) hK34.symm)) (E_callV rfl hh175 (E_mv (v := .int .i64 ((at_ : Int))) rfl (E_nil (AX_seq (AX_seq (AX_E (E_mv (v := .int .i64 ((at_ : Int))) rfl (E_lssS rfl rfl (fun c177 => ?_) (fun c177 => ?_)))))))))
                        · omega
                        · refine E_nil (AX_condF rfl (AX_skip (AX_seq (AX_seq (AX_E (E_mv (v := .int .i64 ((at_ : Int))) rfl (E_mv (v := .int .i64 (0)) rfl (E_nil (AX_block ?_)))))))))
                          refine AX_loopF (γ := Nat) (fun k => [(22, .pointer (some ⟨(K23).length + 0, 0, none⟩)), (25, .int .i64 ((at_ : Int))), (166, .slice (q1).1 ((tidyM c).gs).length (q1).2), (167, .int .i64 (((tidyM c).gs).length)), (168, .int .i64 ((j : Int))), (178, .int .i64 ((at_ : Int))), (179, .int .i64 ((k : Int)))]) (fun k h_ m_ => h_ = K34 ++ [] ∧ m_ = [] ∧ True) (fun k => at_ - k) (0) ⟨rfl, rfl, rfl, rfl, rfl, rfl, rfl, trivial⟩ ⟨rfl, rfl, ?_⟩ ?_
                          · trivial
                          rintro k fr4 h4 m4 ⟨rfl, rfl, inv4⟩ K4 hN4 hR4 hE4
                          refine AX_seq (AX_E (E_lssS rfl rfl (fun c180 => ?_) (fun c180 => ?_)))
                          · refine E_nil (AX_seq (AX_condT rfl (AX_skip (AX_seq (AX_block (AX_seq (AX_E (E_mv (v := .int .i64 ((k : Int))) rfl (E_mv (v := .int .i64 ((k : Int))) rfl (E_nil (AX_seq (AX_E (E_ldBN rfl (rowGet_lift hK34 (rowGet_all rL3 rfl)) (E_mv (v := .int .i64 ((k : Int))) rfl (E_mv (v := .int .i64 ((at_ : Int))) rfl ?_)))))))))))))))
                            have hh186 := commute_at (K := K34 ++ []) hLc gl4.app rfl (i := k) (j := at_) (by omega) hat (by omega)
                            rw [decide_eq_true (e2 k (by omega)).2] at hh186
                            refine E_callV rfl hh186 (E_mv (v := .tuple _) rfl (E_ext (v := .bool _) rfl rfl (E_ext (v := .int .i64 (0)) rfl rfl (E_mv (v := .bool _) rfl (E_mv (v := .int .i64 (0)) rfl (E_nil (AX_seq (AX_E (E_mv (v := .bool _) rfl (E_notV rfl rfl (E_mv (v := .bool _) rfl (E_on rfl (E_mv (v := .int .i64 (0)) rfl (E_on rfl (E_neqS rfl rfl (fun c193 => ?_) (fun c193 => ?_))))))))))))))))
                            · exact (c193 rfl).elim
                            · refine E_pickF rfl (v := .bool _) rfl (E_nil (AX_condF rfl (AX_skip (AX_E (E_addI rfl rfl (by first | omega | (simp; done) | (simp; omega)) (by first | omega | (simp; done) | (simp; omega)) (E_mv (v := .int .i64 (((k : Int) + 1))) rfl (E_nil ?_)))))))
                              refine hN4 (k + 1) _ _ _ ⟨by first | rfl | (congr 1; omega), by first | rfl | (congr 1; omega), by first | rfl | (congr 1; omega), by first | rfl | (congr 1; omega), by first | rfl | (congr 1; omega), by first | rfl | (congr 1; omega), by first | rfl | (congr 1; omega), trivial⟩ ⟨rfl, rfl, ?_⟩ ?_
                              -- n1
                              all_goals clear hN0 hR0 hE0 hN2 hR2 hE2 hN4 hR4 hE4
                              · trivial
                              · (first | omega | (simp; omega))
                          · refine E_nil (AX_seq (AX_condF rfl (AX_exit (hE4 _ _ _ _ (AX_E (E_fa rfl (E_ldB (v := .slice _ _ _) rfl (rowGet_c (j := 2) (rowGet_lift hK34 (rowGet_all rL3 rfl)) rfl) (E_mv (v := .int .i64 ((at_ : Int))) rfl (E_mv (v := .int .i64 ((at_ : Int))) rfl (E_addI rfl rfl (by first | omega | (simp; done) | (simp; omega)) (by first | omega | (simp; done) | (simp; omega)) ?_))))))))))
                            have kpG : Kp (fun _ => False) KH2 K34 := by rw [hK34]; exact Kp.app
                            have ol4 := ol3.kp kpG (fun _ _ _ x => x)
                            obtain ⟨KD, hd201, kp201, olD⟩ := ol4.del hat
                            have hr201 : Ret (tab Tryd.prog) 33 [.slice (q164).1 (lf).length (q164).2, .int .i64 (at_ : Int), .int .i64 ((at_ : Int) + 1)] K34 (.slice (q164).1 (lf.length - 1) (q164).2) KD := by rw [hq164]; exact hd201
                            have lh3 := ol3.lh
                            have kpD : Kp (fun b => (lo ≤ b ∧ b < hi) ∨ b = (K23).length + 0) KC KD := (kp3.trans kpG (fun _ _ x => x) (fun _ _ x => x.elim)).trans kp201 (fun _ _ x => x) (fun b _ x => .inl (by have x : b = xl := x; omega))
                            have rLD := kp201.row (kpG.row rL3 (fun x => x)) (by show ¬ (K23).length + 0 = xl; omega)
                            have gTD := kpD.ga gT2 (fun b hb => ⟨trivial, fun e => by have h : (U32.length + 1 ≤ b ∧ b < K2.length) := hb; have e1 : (lo ≤ b ∧ b < hi) ∨ b = (K23).length + 0 := e; omega⟩)
                            refine E_callU rfl hr201 rfl (E_fa rfl (E_stX (b := (K23).length + 0) (o := 0 + 2) (l := [.slice (q164).1 (lf.length - 1) (q164).2]) (v := .slice _ _ _) rfl rfl rfl rfl ((congrArg (fun h : Heap => h[(K23).length + 0]?) (List.append_nil _)).trans rLD) (by simp) rfl rfl fun V eV => ?_))
                            have eV2 : V = KD.set ((K23).length + 0) (CO.row [.int .i64 (c.w), .int .i64 (c.b), .slice (q164).1 (lf.eraseIdx at_).length (q164).2] true none) := by rw [eV, List.append_nil, List.length_eraseIdx_of_lt hat]; rfl
                            have kpV1 : Kp (fun b => b = (K23).length + 0) KD V := by rw [eV2]; exact Kp.set
                            have kpV := kpD.trans kpV1 (S'' := fun b => (lo ≤ b ∧ b < hi) ∨ b = (K23).length + 0) (fun _ _ x => x) (fun _ _ x => .inr x)
                            have rV : V[(K23).length + 0]? = some (CO.row [.int .i64 (c.w), .int .i64 (c.b), .slice (q164).1 (lf.eraseIdx at_).length (q164).2] true none) := by rw [eV2, List.getElem?_set_self (List.getElem?_eq_some_iff.1 rLD).1]
                            have olV := olD.kp kpV1 (fun b h1 h2 x => by have x : b = (K23).length + 0 := x; omega)
                            have gTV := kpV.ga gT2 (fun b hb => ⟨trivial, fun e => by have h : (U32.length + 1 ≤ b ∧ b < K2.length) := hb; have e1 : (lo ≤ b ∧ b < hi) ∨ b = (K23).length + 0 := e; omega⟩)
                            refine E_nil (AX_E (E_addI rfl rfl (by first | omega | (simp; done) | (simp; omega)) (by first | omega | (simp; done) | (simp; omega)) (E_mv (v := .int .i64 (((j : Int) + 1))) rfl (E_nil ?_))))
                            refine hN2 (j + 1, lf.eraseIdx at_, ps.eraseIdx at_) _ _ _ ⟨by first | rfl | (congr 1; omega), by first | rfl | (congr 1; omega), by first | rfl | (congr 1; omega), by rfl, trivial⟩ ⟨?_, ?_⟩ ?_
                            -- n2
                            all_goals clear hN0 hR0 hE0 hN2 hR2 hE2 hN4 hR4 hE4
                            · rw [List.append_nil]
                              exact ⟨rfl, kpV, rV, fun _ => olV⟩
                            · dsimp only
                              exact ⟨by omega, by rw [List.drop_drop] at td4; exact td4, fun g h => hm3 g (List.mem_of_mem_eraseIdx h), by rw [List.length_eraseIdx_of_lt hat]; omega⟩
                            · dsimp only
                              omega
                      · refine E_nil (AX_seq (AX_condF rfl (AX_exit (hE2 _ _ _ _ (AX_seq (AX_E (E_callV rfl (awake_ret _) (E_mv (v := .bool _) rfl (E_nil (AX_ret ?_))))))))))
                        exact ⟨_, rfl, by simp, rfl⟩
                    · exact (c160 rfl).elim
              · refine E_nil (AX_condF rfl (AX_skip (AX_seq (AX_E (E_mv (v := .int _ _) rfl (E_cv8 rfl (hls _ (List.mem_of_mem_take (List.getElem_mem _))) (E_fa rfl (E_ldB (v := .slice _ _ _) rfl (rowGet_c (j := 2) (rowGet_all rD0 rfl) rfl) (E_len (n := (c.gs).length) rfl (E_subI rfl rfl (by first | omega | (simp; done) | (simp; omega)) (by first | omega | (simp; done) | (simp; omega)) (E_rem rfl rfl (hls _ (List.mem_of_mem_take (List.getElem_mem _))).1 (by omega) fun ii hii => (E_mv (v := .int .i64 ((ii : Int))) rfl (E_nil (AX_seq (AX_E (E_ldBN rfl (rowGet_all rD0 rfl) (E_mv (v := .int .i64 ((ii : Int))) rfl (E_mv (v := .int .i64 ((ii : Int))) rfl (E_addI rfl rfl (by first | omega | (simp; done) | (simp; omega)) (by first | omega | (simp; done) | (simp; omega)) ?_)))))))))))))))))))
                have hi1 : ii < ds.length := by omega
                have hi2 : ii + 1 < ds.length := by omega
                have hh92 := commute_at (K := KH0 ++ []) hD gd0.app hdl (i := ii) (j := ii + 1) (by omega) (by omega) (by omega)
                refine E_callV rfl hh92 (E_mv (v := .tuple _) rfl (E_ext (v := .bool _) rfl rfl (E_bs (fun c93 => ?_) (fun c93 => ?_))))
                · refine E_ext (v := .int .i64 (0)) rfl rfl (E_mv (v := .bool _) rfl (E_mv (v := .int .i64 (0)) rfl (E_nil (AX_seq (AX_E (E_ldBN rfl (rowGet_all rD0 rfl) (E_mv (v := .int .i64 ((ii : Int))) rfl (E_addI rfl rfl (by first | omega | (simp; done) | (simp; omega)) (by first | omega | (simp; done) | (simp; omega)) (E_mv (v := .int .i64 ((ii : Int))) rfl ?_)))))))))
                  have hi1 : ii < ds.length := by omega
                  have hi2 : ii + 1 < ds.length := by omega
                  have hh100 := commute_at (K := KH0 ++ []) hD gd0.app hdl (i := ii + 1) (j := ii) (by omega) (by omega) (by omega)
                  refine E_callV rfl hh100 (E_mv (v := .tuple _) rfl (E_ext (v := .bool _) rfl rfl (E_ext (v := .int .i64 (0)) rfl rfl (E_mv (v := .bool _) rfl (E_mv (v := .int .i64 (0)) rfl (E_nil (AX_seq (AX_seq (AX_E (E_mv (v := .int .i64 (0)) rfl (E_neqS rfl rfl (fun c104 => ?_) (fun c104 => ?_))))))))))))
                  · exact (c104 rfl).elim
                  · refine E_mv (v := .bool _) rfl (E_on rfl (E_mv (v := .int .i64 (0)) rfl (E_on rfl (E_neqS rfl rfl (fun c107 => ?_) (fun c107 => ?_)))))
                    · exact (c107 rfl).elim
                    · refine E_pickF rfl (v := .bool _) rfl (E_mv (v := .bool _) rfl (E_on rfl (E_mv (v := .bool _) rfl (E_on rfl (E_mv (v := .bool _) rfl (E_on rfl (E_eqB rfl rfl (E_bs (fun c112 => ?_) (fun c112 => ?_)))))))))
                      · rw [decide_eq_decide.2 (comm_symm (hgd _ (List.getElem_mem _)) (hgd _ (List.getElem_mem _))), c93] at c112; exact absurd c112 (by decide)
                      · refine E_pickF rfl (v := .bool _) rfl (E_nil (AX_condF rfl (AX_skip (AX_seq (AX_E (E_mv (v := .bool _) rfl (E_nil (AX_condT rfl (AX_EB (fun b => b = xq) (E_fa rfl (E_ldB (v := .slice _ _ _) rfl (rowGet_c (j := 2) (rowGet_all rD0 rfl) rfl) ?_)))))))))))
                        have a1 := R0.e1
                        have a2 := R0.e2
                        obtain ⟨b, o, hp, _, hb⟩ := R0.cells.some' (by omega)
                        have hbx : b = xq := hxq _ hp
                        obtain ⟨cs, gr, hrow⟩ := R0.row _ hp
                        have h1 : ii < ds.length := by omega
                        have h2 : ii + 1 < ds.length := by omega
                        have h3 : ii < ps.length := by omega
                        have h4 : ii + 1 < ps.length := by omega
                        have fj := R0.cells.at4 a1 (by omega) hp h2 h4
                        have fk := R0.cells.at4 a1 (by omega) hp h1 h3
                        obtain ⟨w1, R2⟩ := R0.put hp hrow (j := ii) (by omega) ds[ii + 1] ps[ii + 1]
                        obtain ⟨K2, hK2⟩ : ∃ K : Heap, K = KH0.set b (.row (cs.take (o + ii * 4) ++ gcells ds[ii + 1] ps[ii + 1] ++ cs.drop (o + ii * 4 + 4)) true gr) := ⟨_, rfl⟩
                        rw [← hK2] at R2
                        obtain ⟨cs2, gr2, hrow2⟩ := R2.row _ hp
                        obtain ⟨w2, _⟩ := R2.put hp hrow2 (j := ii + 1) (by omega) ds[ii] ps[ii]
                        refine E_mv (v := .int .i64 ((ii : Int))) rfl (E_fa rfl (E_ldX (v := .slice _ _ _) rfl (rowGet_c (j := 2) (rowGet_all rD0 rfl) rfl) (by show ¬ (K7).length + 0 = xq; omega) (E_mv (v := .int .i64 ((ii : Int))) rfl (E_addI rfl rfl (by first | omega | (simp; done) | (simp; omega)) (by first | omega | (simp; done) | (simp; omega)) (E_fa rfl (E_ldB (v := .slice _ _ _) rfl (rowGet_c (j := 2) (rowGet_all rD0 rfl) rfl) (E_mv (v := .int .i64 ((ii : Int))) rfl (E_addI rfl rfl (by first | omega | (simp; done) | (simp; omega)) (by first | omega | (simp; done) | (simp; omega)) (E_iaS (congrArg (fun a => Value.slice a c.gs.length q65.2) hp) rfl (by omega) (by omega) (E_ldBN rfl fj (E_fa rfl (E_ldB (v := .slice _ _ _) rfl (rowGet_c (j := 2) (rowGet_all rD0 rfl) rfl) (E_mv (v := .int .i64 ((ii : Int))) rfl (E_iaS (congrArg (fun a => Value.slice a c.gs.length q65.2) hp) rfl (by omega) (by omega) (E_ldBN rfl fk (E_iaS (congrArg (fun a => Value.slice a c.gs.length q65.2) hp) rfl (by omega) (by omega) (E_stXP (l := gcells ds[ii + 1] ps[ii + 1]) (v := .agg _) hbx (by decide) rfl rfl rfl rfl ((congrArg (fun h : Heap => h[b]?) (List.append_nil _)).trans hrow) (by simpa using w1) rfl fun K2' hK2' => ?_)))))))))))))))))
                        obtain rfl : K2' = K2 := by rw [hK2', hK2, List.append_nil]; rfl
                        refine E_iaS (congrArg (fun a => Value.slice a c.gs.length q65.2) hp) rfl (by omega) (by omega) (E_stX (l := gcells ds[ii] ps[ii]) (v := .agg _) rfl rfl rfl rfl ((congrArg (fun h : Heap => h[b]?) (List.append_nil _)).trans hrow2) (by simpa using w2) rfl rfl fun K3 hK3 => ?_)
                        rw [List.append_nil] at hK3
                        refine E_nil (AX_E (E_addI rfl rfl (by first | omega | (simp; done) | (simp; omega)) (by first | omega | (simp; done) | (simp; omega)) (E_mv (v := .int .i64 (((i : Int) + 1))) rfl (E_nil ?_))))
                        refine hN0 (i + 1, (ds.set ii ds[ii + 1]).set (ii + 1) ds[ii], (ps.set ii ps[ii + 1]).set (ii + 1) ps[ii]) _ _ _ ⟨by first | rfl | (congr 1; omega), by first | rfl | (congr 1; omega), by first | rfl | (congr 1; omega), by first | rfl | (congr 1; omega), by first | rfl | (congr 1; omega), by rfl, trivial⟩ ⟨?_, ?_⟩ ?_
                        -- n3
                        all_goals clear hN0 hR0 hE0
                        · refine ⟨rfl, ?_⟩
                          rw [List.append_nil]
                          have := (R2.put hp hrow2 (j := ii + 1) (by omega) ds[ii] ps[ii]).2
                          rw [hK3]
                          exact this
                        · dsimp only
                          exact ⟨by omega, wires_swap W0 (by omega) (by omega) (by omega) (by omega), T0.trans (tr_swap hgd (by omega) (of_decide_eq_true c93))⟩
                        · dsimp only
                          omega
                · refine E_ext (v := .int .i64 (0)) rfl rfl (E_mv (v := .bool _) rfl (E_mv (v := .int .i64 (0)) rfl (E_nil (AX_seq (AX_E (E_ldBN rfl (rowGet_all rD0 rfl) (E_mv (v := .int .i64 ((ii : Int))) rfl (E_addI rfl rfl (by first | omega | (simp; done) | (simp; omega)) (by first | omega | (simp; done) | (simp; omega)) (E_mv (v := .int .i64 ((ii : Int))) rfl ?_)))))))))
                  have hi1 : ii < ds.length := by omega
                  have hi2 : ii + 1 < ds.length := by omega
                  have hh100 := commute_at (K := KH0 ++ []) hD gd0.app hdl (i := ii + 1) (j := ii) (by omega) (by omega) (by omega)
                  refine E_callV rfl hh100 (E_mv (v := .tuple _) rfl (E_ext (v := .bool _) rfl rfl (E_ext (v := .int .i64 (0)) rfl rfl (E_mv (v := .bool _) rfl (E_mv (v := .int .i64 (0)) rfl (E_nil (AX_seq (AX_seq (AX_E (E_mv (v := .int .i64 (0)) rfl (E_neqS rfl rfl (fun c104 => ?_) (fun c104 => ?_))))))))))))
                  · exact (c104 rfl).elim
                  · refine E_mv (v := .bool _) rfl (E_on rfl (E_mv (v := .int .i64 (0)) rfl (E_on rfl (E_neqS rfl rfl (fun c107 => ?_) (fun c107 => ?_)))))
                    · exact (c107 rfl).elim
                    · refine E_pickF rfl (v := .bool _) rfl (E_mv (v := .bool _) rfl (E_on rfl (E_mv (v := .bool _) rfl (E_on rfl (E_mv (v := .bool _) rfl (E_on rfl (E_eqB rfl rfl (E_bs (fun c112 => ?_) (fun c112 => ?_)))))))))
                      · rw [decide_eq_decide.2 (comm_symm (hgd _ (List.getElem_mem _)) (hgd _ (List.getElem_mem _))), c93] at c112; exact absurd c112 (by decide)
                      · refine E_pickF rfl (v := .bool _) rfl (E_nil (AX_condF rfl (AX_skip (AX_seq (AX_E (E_mv (v := .bool _) rfl (E_nil (AX_condF rfl (AX_skip (AX_E (E_addI rfl rfl (by first | omega | (simp; done) | (simp; omega)) (by first | omega | (simp; done) | (simp; omega)) (E_mv (v := .int .i64 (((i : Int) + 1))) rfl (E_nil ?_)))))))))))))
                        refine hN0 (i + 1, ds, ps) _ _ _ ⟨by first | rfl | (congr 1; omega), by first | rfl | (congr 1; omega), by first | rfl | (congr 1; omega), by first | rfl | (congr 1; omega), by first | rfl | (congr 1; omega), by rfl, trivial⟩ ⟨?_, ?_⟩ ?_
                        -- n4
                        all_goals clear hN0 hR0 hE0
                        · refine ⟨rfl, ?_⟩
                          rw [List.append_nil]
                          exact R0
                        · dsimp only
                          exact ⟨by omega, W0, T0⟩
                        · dsimp only
                          omega
            · refine E_nil (AX_seq (AX_condF rfl (AX_exit (hE0 _ _ _ _ (AX_seq (AX_E (E_ldBN rfl (rowGet_all rD0 rfl) ?_)))))))
              obtain ⟨X138, q138, h138, f138⟩ := ptidy_ret (KH0 ++ []) ⟨c.w, c.b, ds⟩ q65 gd0.app (by show ds.length < _; omega)
              rw [hDt] at f138
              have hr138 : Ret (tab Tryd.prog) 26 [.agg #[.int .i64 c.w, .int .i64 c.b, .slice q65.1 c.gs.length q65.2]] (KH0 ++ []) (.tuple #[cv (tidyM c) q138, .int .i64 0]) (KH0 ++ [] ++ X138) := by rw [hDt, hD] at h138; rw [← hdl]; exact h138
              obtain ⟨K35, hK35⟩ : ∃ K : Heap, K = KH0 ++ ([] ++ X138) := ⟨_, rfl⟩
              have lK35 : KH0.length + 0 ≤ K35.length := by rw [hK35]; simp only [List.length_append, List.length_cons, List.length_nil]; omega
              have pK35 : KH0 <+: K35 := by rw [hK35]; exact List.prefix_append _ _
              have fk36 : GatesP (fun b => (KH0.length + 0 ≤ b ∧ b < K35.length)) K35 (q138) ((tidyM c).gs) := f138.atS (by simp) hK35
              refine E_callX (X := X138) rfl (hr138) (E_hp (h' := K35 ++ []) (congrArg (fun x : Heap => x ++ []) hK35.symm) (E_mv (v := .tuple _) rfl (E_ext (v := .agg _) rfl rfl (E_ext (v := .int .i64 (0)) rfl rfl (E_new (E_stO (k := 0) rfl rfl (v := .agg _) rfl rfl rfl rfl (E_mv (v := .int .i64 (0)) rfl (E_nil (AX_seq (AX_E (E_ldBN rfl (rowGet_lift hK35 (rowGet_all rC0 rfl)) (E_ldBN rfl (rowGet_lift hK35 (rowGet_all rD0 rfl)) ?_))))))))))))
              have hh144 : Ret (tab Tryd.prog) 29 [cv c q32, .agg #[.int .i64 c.w, .int .i64 c.b, .slice q65.1 c.gs.length q65.2]] (K35 ++ [CO.row [.int .i64 ((tidyM c).w), .int .i64 ((tidyM c).b), .slice (q138).1 ((tidyM c).gs).length (q138).2] true none]) (.tuple #[.bool true, .int .i64 0]) (K35 ++ [CO.row [.int .i64 ((tidyM c).w), .int .i64 ((tidyM c).b), .slice (q138).1 ((tidyM c).gs).length (q138).2] true none]) := by
                have h9 := pequal_ret (K35 ++ [CO.row [.int .i64 ((tidyM c).w), .int .i64 ((tidyM c).b), .slice (q138).1 ((tidyM c).gs).length (q138).2] true none]) c ⟨c.w, c.b, ds⟩ q32 q65 (gC0.lift hK35).app.all (gd0.lift hK35).app (by omega) (by show ds.length < _; omega)
                have e9 : equalE c ⟨c.w, c.b, ds⟩ = 0 := by unfold equalE; rw [if_neg (fun h => h hc)]; exact hD
                have e8 : tidyM c = tidyM ⟨c.w, c.b, ds⟩ := by rw [← hDt]; exact if_pos hD
                rw [if_pos e9, e9, decide_eq_true e8] at h9
                rw [← hdl]
                exact h9
              refine E_callV rfl hh144 (E_mv (v := .tuple _) rfl (E_ext (v := .bool _) rfl rfl (E_ext (v := .int .i64 (0)) rfl rfl (E_mv (v := .bool _) rfl (E_mv (v := .int .i64 (0)) rfl (E_nil (AX_seq (AX_seq (AX_E (E_mv (v := .int .i64 (0)) rfl (E_neqS rfl rfl (fun c148 => ?_) (fun c148 => ?_))))))))))))
              · exact (c148 rfl).elim
              · refine E_mv (v := .bool _) rfl (E_on rfl (E_mv (v := .int .i64 (0)) rfl (E_on rfl (E_neqS rfl rfl (fun c151 => ?_) (fun c151 => ?_)))))
                · exact (c151 rfl).elim
                · refine E_pickF rfl (v := .bool _) rfl (E_mv (v := .bool _) rfl (E_on rfl (E_mv (v := .bool _) rfl (E_on rfl (E_notV rfl rfl (E_pickF rfl (v := .bool _) rfl (E_mv (v := .bool _) rfl (E_on rfl (E_ldON (k := 0) rfl rfl (E_on rfl (E_ldBN rfl (rowGet_lift hK35 (rowGet_all rT0 rfl)) (E_on rfl (E_callP rfl (kcsame_ret _ (tidyM c) (tidyM c) _ _ fk36.gates.app (gT0.lift hK35).app (by assumption)) (fun c160 => ?_) (fun c160 => ?_))))))))))))))
                  · refine E_on rfl (E_notV rfl rfl (E_pickF rfl (v := .bool _) rfl (E_nil (AX_condF rfl (AX_skip (AX_seq (AX_E (E_ldBN rfl (rowGet_lift hK35 (rowGet_all rC0 rfl)) ?_))))))))
                    obtain ⟨X164, q164, hr164, f164⟩ := kown_retR (K35 ++ [CO.row [.int .i64 ((tidyM c).w), .int .i64 ((tidyM c).b), .slice (q138).1 ((tidyM c).gs).length (q138).2] true none]) c _ (gC0.lift hK35).app (by omega) lwc
                    obtain ⟨K37, hK37⟩ : ∃ K : Heap, K = K35 ++ ([CO.row [.int .i64 ((tidyM c).w), .int .i64 ((tidyM c).b), .slice (q138).1 ((tidyM c).gs).length (q138).2] true none] ++ X164) := ⟨_, rfl⟩
                    have lK37 : K35.length + 1 ≤ K37.length := by rw [hK37]; simp only [List.length_append, List.length_cons, List.length_nil]; omega
                    have pK37 : KH0 <+: K37 := by rw [hK37]; exact (pK35).trans (List.prefix_append _ _)
                    refine E_callX (X := X164) rfl (hr164) (E_hp (h' := K37 ++ []) (congrArg (fun x : Heap => x ++ []) hK37.symm) (E_new (E_stO (k := 0) rfl rfl (v := .agg _) rfl rfl rfl rfl (E_nil (AX_seq (AX_seq (AX_E (E_fa rfl (E_ldB (v := .slice _ _ _) rfl (rowGet_c (j := 2) (rowGet_lift hK37 (rowGet_lift hK35 (rowGet_all rT0 rfl))) rfl) (E_len (n := ((tidyM c).gs).length) rfl ?_))))))))))
                    obtain ⟨K38, hK38⟩ : ∃ K : Heap, K = K37 ++ ([CO.row [.int .i64 (c.w), .int .i64 (c.b), .slice (q164).1 (c.gs).length (q164).2] true none] ++ []) := ⟨_, rfl⟩
                    have lK38 : K37.length + 1 ≤ K38.length := by rw [hK38]; simp only [List.length_append, List.length_cons, List.length_nil]; omega
                    have pK38 : KH0 <+: K38 := by rw [hK38]; exact (pK37).trans (List.prefix_append _ _)
                    obtain ⟨KC, hKC⟩ : ∃ K' : Heap, K' = K38 := ⟨_, rfl⟩
                    have kpC : Kp (fun b => b < 0) K38 KC := by rw [hKC]; exact ⟨Nat.le_refl _, fun _ _ _ => rfl⟩
                    obtain ⟨lo, hlo⟩ : ∃ n : Nat, n = (K35 ++ [CO.row [.int .i64 ((tidyM c).w), .int .i64 ((tidyM c).b), .slice (q138).1 ((tidyM c).gs).length (q138).2] true none]).length := ⟨_, rfl⟩
                    obtain ⟨hi, hhi⟩ : ∃ n : Nat, n = K37.length := ⟨_, rfl⟩
                    have eA : (K35 ++ [CO.row [.int .i64 ((tidyM c).w), .int .i64 ((tidyM c).b), .slice (q138).1 ((tidyM c).gs).length (q138).2] true none]) ++ X164 = K37 := by rw [hK37, List.append_assoc]
                    rw [eA, ← hlo, ← hhi] at f164
                    obtain ⟨xl, ps0, hxl⟩ : ∃ x ps, c.gs ≠ [] → q164 = (some ⟨x, 0, none⟩, c.gs.length) ∧ OL KC lo hi x c.gs.length c.gs ps := by
                      by_cases h : c.gs = []
                      · exact ⟨0, [], fun h2 => absurd h h2⟩
                      · obtain ⟨x, a, ps, b⟩ := f164 h
                        exact ⟨x, ps, fun _ => ⟨a, b.kp (S := fun _ => False) (by rw [hKC, hK38]; exact Kp.app) (fun _ _ _ x => x)⟩⟩
                    have lkA2 := congrArg List.length hK37
                    have lkB2 := congrArg List.length hK38
                    have lkC2 := congrArg List.length hKC
                    simp only [List.length_append, List.length_cons, List.length_nil] at lkA2 lkB2 hlo
                    have fk40 : Gates (fun b => (KA.length ≤ b ∧ b < U32.length)) KC (q32) (c.gs) := kpC.ga (((gC0.lift hK35).lift hK37).lift hK38) (fun b hb => ⟨trivial, fun e => by have h : (KA.length ≤ b ∧ b < U32.length) := hb; have e1 : (b < 0) := e; omega⟩)
                    have rw39 : KC[(U32).length + 0]? = some (CO.row [.int .i64 (c.w), .int .i64 (c.b), .slice (q32).1 (c.gs).length (q32).2] true none) := kpC.row (getq hK38 (getq hK37 (getq hK35 rC0))) (by show ¬ ((U32).length + 0 < 0); omega)
                    have fk42 : Gates (fun b => (U32.length + 1 ≤ b ∧ b < K2.length)) KC (q1) ((tidyM c).gs) := kpC.ga (((gT0.lift hK35).lift hK37).lift hK38) (fun b hb => ⟨trivial, fun e => by have h : (U32.length + 1 ≤ b ∧ b < K2.length) := hb; have e1 : (b < 0) := e; omega⟩)
                    have rw41 : KC[(K2).length + 0]? = some (CO.row [.int .i64 ((tidyM c).w), .int .i64 ((tidyM c).b), .slice (q1).1 ((tidyM c).gs).length (q1).2] true none) := kpC.row (getq hK38 (getq hK37 (getq hK35 rT0))) (by show ¬ ((K2).length + 0 < 0); omega)
                    have rw43 : KC[(K7).length + 0]? = some (CO.row [.int .i64 (c.w), .int .i64 (c.b), .slice (q65).1 (c.gs).length (q65).2] true none) := kpC.row (getq hK38 (getq hK37 (getq hK35 rD0))) (by show ¬ ((K7).length + 0 < 0); omega)
                    have fk44 : GatesP (fun b => (KH0.length + 0 ≤ b ∧ b < K35.length)) KC (q138) ((tidyM c).gs) := kpC.gp ((fk36.lift hK37).lift hK38) (fun b hb => ⟨trivial, fun e => by have h : (KH0.length + 0 ≤ b ∧ b < K35.length) := hb; have e1 : (b < 0) := e; omega⟩)
                    have rw45 : KC[(K35).length + 0]? = some (CO.row [.int .i64 ((tidyM c).w), .int .i64 ((tidyM c).b), .slice (q138).1 ((tidyM c).gs).length (q138).2] true none) := kpC.row (getq hK38 (get_own hK37 (k := 0) rfl)) (by show ¬ ((K35).length + 0 < 0); omega)
                    have rw46 : KC[(K37).length + 0]? = some (CO.row [.int .i64 (c.w), .int .i64 (c.b), .slice (q164).1 (c.gs).length (q164).2] true none) := kpC.row (get_own hK38 (k := 0) rfl) (by show ¬ ((K37).length + 0 < 0); omega)
                    have gT2 := fk42
                    have rL := rw46
                    refine E_hp (h' := K38 ++ []) (((List.append_nil _).symm.trans (congrArg (fun x : Heap => (K37 ++ x) ++ []) (List.append_nil _).symm)).trans (congrArg (fun x : Heap => x ++ []) hK38.symm)) (E_hp (h' := KC ++ []) (congrArg (· ++ []) hKC.symm) (E_mv (v := .int .i64 (0)) rfl (E_nil (AX_block ?_))))
                    refine AX_loopF (γ := Nat × List G × List Pl) (fun x => [(22, .pointer (some ⟨(K37).length + 0, 0, none⟩)), (166, .slice (q1).1 ((tidyM c).gs).length (q1).2), (167, .int .i64 (((tidyM c).gs).length)), (168, .int .i64 ((x.1 : Int)))]) (fun x h_ m_ => (m_ = [] ∧ Kp (fun b => (lo ≤ b ∧ b < hi) ∨ b = (K37).length + 0) KC h_ ∧ h_[(K37).length + 0]? = some (CO.row [.int .i64 (c.w), .int .i64 (c.b), .slice (q164).1 (x.2.1).length (q164).2] true none) ∧ (c.gs ≠ [] → OL h_ lo hi xl c.gs.length x.2.1 x.2.2)) ∧ x.1 ≤ (tidyM c).gs.length ∧ Td x.2.1 ((tidyM c).gs.drop x.1) ∧ (∀ g ∈ (x.2.1), g ∈ c.gs) ∧ (x.2.1).length ≤ c.gs.length) (fun x => (tidyM c).gs.length - x.1) (0, c.gs, ps0) ⟨rfl, rfl, rfl, rfl, trivial⟩ ⟨?_, ?_⟩ ?_
                    · rw [List.append_nil]
                      exact ⟨rfl, ⟨Nat.le_refl _, fun _ _ _ => rfl⟩, rL, fun h => (hxl h).2⟩
                    · exact ⟨by omega, by rw [List.drop_zero]; exact ft7, fun g h => h, Nat.le_refl _⟩
                    rintro ⟨j, lf, ps⟩ fr2 KH2 mk2 ⟨hI2, inv2⟩ Kk2 hN2 hR2 hE2
                    try dsimp only at hI2 inv2
                    obtain ⟨rfl, kp3, rL3, ol3⟩ := hI2
                    obtain ⟨hj3, td3, hm3, hn3⟩ := inv2
                    have gT3 := kp3.ga gT2 (fun b hb => ⟨trivial, fun e => by have h : (U32.length + 1 ≤ b ∧ b < K2.length) := hb; have e1 : (lo ≤ b ∧ b < hi) ∨ b = (K37).length + 0 := e; omega⟩)
                    refine AX_nil ?_
                    refine AX_seq (AX_E (E_lssS rfl rfl (fun c169 => ?_) (fun c169 => ?_)))
                    · refine E_nil (AX_seq (AX_condT rfl (AX_skip (AX_seq (AX_block (AX_seq (AX_E (have ix47 : j < ((tidyM c).gs).length := (by first | omega | (simp; done) | (simp; omega)); E_iaGb (j := j) rfl gT3 rfl rfl rfl ix47 fun b47 o47 q47 f47 w47 => ?_))))))))
                      have hjt : j < (tidyM c).gs.length := by omega
                      have hcne : c.gs ≠ [] := fun e => by have h8 := congrArg List.length e; simp only [List.length_nil] at h8; omega
                      obtain ⟨hq164, _⟩ := hxl hcne
                      have ol3 := ol3 hcne
                      have gl3 : Gates allB KH2 q164 lf := by rw [hq164]; exact ol3.gates
                      have hne9 : (tidyM c).gs.drop j ≠ [] := fun e => by have := congrArg List.length e; simp at this; omega
                      obtain ⟨at_, hat, e1, e2, td4⟩ := td_next td3 hne9
                      have e3 : ((tidyM c).gs.drop j)[0]'(List.length_pos_iff.2 hne9) = (tidyM c).gs[j] := by simp
                      rw [e3] at e1
                      have hLc : checkM ⟨c.w, c.b, lf⟩ = 0 := checkM_of ⟨by have := hr.w0; omega, hr.w0.2⟩ hr.b0 (by omega) fun g hg => hr.cg g (hm3 g hg)
                      refine E_ldBN rfl w47 (E_new (E_stO (k := 0) rfl rfl (v := .agg _) rfl rfl rfl rfl (E_nil (AX_seq (AX_E (E_fa rfl (E_ldB (v := .slice _ _ _) rfl (rowGet_c (j := 2) (rowGet_all rL3 rfl) rfl) (E_fn (u := []) (v := [.pointer (some ⟨(KH2).length + 0, 0, none⟩)]) rfl rfl ?_))))))))
                      obtain ⟨K48, hK48⟩ : ∃ K : Heap, K = KH2 ++ ([CO.row [.int .i64 (((tidyM c).gs[j]'ix47).k), .slice (q47).1 (((tidyM c).gs[j]'ix47).ws).length (q47).2, .int .i64 (((tidyM c).gs[j]'ix47).b), .int .i64 (((tidyM c).gs[j]'ix47).f)] true none] ++ []) := ⟨_, rfl⟩
                      have lK48 : KH2.length + 1 ≤ K48.length := by rw [hK48]; simp only [List.length_append, List.length_cons, List.length_nil]; omega
                      have pK48 : KH2 <+: K48 := by rw [hK48]; exact List.prefix_append _ _
                      have gl4 : Gates allB K48 q164 lf := gl3.lift hK48
                      have r24 : rowGet K48 ⟨KH2.length + 0, 0, none⟩ 4 = some (gcells (tidyM c).gs[j] q47) := rowGet_all (get_own hK48 (k := 0) rfl) rfl
                      have i24 := f47.lift hK48
                      have hh175 := indexfuncG_ret (K48 ++ []) q164 lf (f := 31) #[] #[.pointer (some ⟨KH2.length + 0, 0, none⟩)] (fun x => x = (tidyM c).gs[j]) gl4.app (by omega) (fun g p K hK hg e1 => cl231_ret K g _ p _ _ (row_pre hK (rowGet_base r24)) e1 (cells_pre hK i24.app) (by have := lwc g (hm3 g hg); omega))
                      rw [fidx_first hat e1 (fun j hj => by rw [← e1]; exact (e2 j hj).1)] at hh175
                      refine E_hp (h' := K48 ++ []) (((List.append_nil _).symm.trans (congrArg (fun x : Heap => (KH2 ++ x) ++ []) (List.append_nil _).symm)).trans (congrArg (fun x : Heap => x ++ []) hK48.symm)) (E_callV rfl hh175 (E_mv (v := .int .i64 ((at_ : Int))) rfl (E_nil (AX_seq (AX_seq (AX_E (E_mv (v := .int .i64 ((at_ : Int))) rfl (E_lssS rfl rfl (fun c177 => ?_) (fun c177 => ?_)))))))))
                      · omega
                      · refine E_nil (AX_condF rfl (AX_skip (AX_seq (AX_seq (AX_E (E_mv (v := .int .i64 ((at_ : Int))) rfl (E_mv (v := .int .i64 (0)) rfl (E_nil (AX_block ?_)))))))))
                        refine AX_loopF (γ := Nat) (fun k => [(22, .pointer (some ⟨(K37).length + 0, 0, none⟩)), (25, .int .i64 ((at_ : Int))), (166, .slice (q1).1 ((tidyM c).gs).length (q1).2), (167, .int .i64 (((tidyM c).gs).length)), (168, .int .i64 ((j : Int))), (178, .int .i64 ((at_ : Int))), (179, .int .i64 ((k : Int)))]) (fun k h_ m_ => h_ = K48 ++ [] ∧ m_ = [] ∧ True) (fun k => at_ - k) (0) ⟨rfl, rfl, rfl, rfl, rfl, rfl, rfl, trivial⟩ ⟨rfl, rfl, ?_⟩ ?_
                        · trivial
                        rintro k fr4 h4 m4 ⟨rfl, rfl, inv4⟩ K4 hN4 hR4 hE4
                        refine AX_seq (AX_E (E_lssS rfl rfl (fun c180 => ?_) (fun c180 => ?_)))
                        · refine E_nil (AX_seq (AX_condT rfl (AX_skip (AX_seq (AX_block (AX_seq (AX_E (E_mv (v := .int .i64 ((k : Int))) rfl (E_mv (v := .int .i64 ((k : Int))) rfl (E_nil (AX_seq (AX_E (E_ldBN rfl (rowGet_lift hK48 (rowGet_all rL3 rfl)) (E_mv (v := .int .i64 ((k : Int))) rfl (E_mv (v := .int .i64 ((at_ : Int))) rfl ?_)))))))))))))))
                          have hh186 := commute_at (K := K48 ++ []) hLc gl4.app rfl (i := k) (j := at_) (by omega) hat (by omega)
                          rw [decide_eq_true (e2 k (by omega)).2] at hh186
                          refine E_callV rfl hh186 (E_mv (v := .tuple _) rfl (E_ext (v := .bool _) rfl rfl (E_ext (v := .int .i64 (0)) rfl rfl (E_mv (v := .bool _) rfl (E_mv (v := .int .i64 (0)) rfl (E_nil (AX_seq (AX_E (E_mv (v := .bool _) rfl (E_notV rfl rfl (E_mv (v := .bool _) rfl (E_on rfl (E_mv (v := .int .i64 (0)) rfl (E_on rfl (E_neqS rfl rfl (fun c193 => ?_) (fun c193 => ?_))))))))))))))))
                          · exact (c193 rfl).elim
                          · refine E_pickF rfl (v := .bool _) rfl (E_nil (AX_condF rfl (AX_skip (AX_E (E_addI rfl rfl (by first | omega | (simp; done) | (simp; omega)) (by first | omega | (simp; done) | (simp; omega)) (E_mv (v := .int .i64 (((k : Int) + 1))) rfl (E_nil ?_)))))))
                            refine hN4 (k + 1) _ _ _ ⟨by first | rfl | (congr 1; omega), by first | rfl | (congr 1; omega), by first | rfl | (congr 1; omega), by first | rfl | (congr 1; omega), by first | rfl | (congr 1; omega), by first | rfl | (congr 1; omega), by first | rfl | (congr 1; omega), trivial⟩ ⟨rfl, rfl, ?_⟩ ?_
                            -- n5
                            all_goals clear hN0 hR0 hE0 hN2 hR2 hE2 hN4 hR4 hE4
                            · trivial
                            · (first | omega | (simp; omega))
                        · refine E_nil (AX_seq (AX_condF rfl (AX_exit (hE4 _ _ _ _ (AX_E (E_fa rfl (E_ldB (v := .slice _ _ _) rfl (rowGet_c (j := 2) (rowGet_lift hK48 (rowGet_all rL3 rfl)) rfl) (E_mv (v := .int .i64 ((at_ : Int))) rfl (E_mv (v := .int .i64 ((at_ : Int))) rfl (E_addI rfl rfl (by first | omega | (simp; done) | (simp; omega)) (by first | omega | (simp; done) | (simp; omega)) ?_))))))))))
                          have kpG : Kp (fun _ => False) KH2 K48 := by rw [hK48]; exact Kp.app
                          have ol4 := ol3.kp kpG (fun _ _ _ x => x)
                          obtain ⟨KD, hd201, kp201, olD⟩ := ol4.del hat
                          have hr201 : Ret (tab Tryd.prog) 33 [.slice (q164).1 (lf).length (q164).2, .int .i64 (at_ : Int), .int .i64 ((at_ : Int) + 1)] K48 (.slice (q164).1 (lf.length - 1) (q164).2) KD := by rw [hq164]; exact hd201
                          have lh3 := ol3.lh
                          have kpD : Kp (fun b => (lo ≤ b ∧ b < hi) ∨ b = (K37).length + 0) KC KD := (kp3.trans kpG (fun _ _ x => x) (fun _ _ x => x.elim)).trans kp201 (fun _ _ x => x) (fun b _ x => .inl (by have x : b = xl := x; omega))
                          have rLD := kp201.row (kpG.row rL3 (fun x => x)) (by show ¬ (K37).length + 0 = xl; omega)
                          have gTD := kpD.ga gT2 (fun b hb => ⟨trivial, fun e => by have h : (U32.length + 1 ≤ b ∧ b < K2.length) := hb; have e1 : (lo ≤ b ∧ b < hi) ∨ b = (K37).length + 0 := e; omega⟩)
                          refine E_callU rfl hr201 rfl (E_fa rfl (E_stX (b := (K37).length + 0) (o := 0 + 2) (l := [.slice (q164).1 (lf.length - 1) (q164).2]) (v := .slice _ _ _) rfl rfl rfl rfl ((congrArg (fun h : Heap => h[(K37).length + 0]?) (List.append_nil _)).trans rLD) (by simp) rfl rfl fun V eV => ?_))
                          have eV2 : V = KD.set ((K37).length + 0) (CO.row [.int .i64 (c.w), .int .i64 (c.b), .slice (q164).1 (lf.eraseIdx at_).length (q164).2] true none) := by rw [eV, List.append_nil, List.length_eraseIdx_of_lt hat]; rfl
                          have kpV1 : Kp (fun b => b = (K37).length + 0) KD V := by rw [eV2]; exact Kp.set
                          have kpV := kpD.trans kpV1 (S'' := fun b => (lo ≤ b ∧ b < hi) ∨ b = (K37).length + 0) (fun _ _ x => x) (fun _ _ x => .inr x)
                          have rV : V[(K37).length + 0]? = some (CO.row [.int .i64 (c.w), .int .i64 (c.b), .slice (q164).1 (lf.eraseIdx at_).length (q164).2] true none) := by rw [eV2, List.getElem?_set_self (List.getElem?_eq_some_iff.1 rLD).1]
                          have olV := olD.kp kpV1 (fun b h1 h2 x => by have x : b = (K37).length + 0 := x; omega)
                          have gTV := kpV.ga gT2 (fun b hb => ⟨trivial, fun e => by have h : (U32.length + 1 ≤ b ∧ b < K2.length) := hb; have e1 : (lo ≤ b ∧ b < hi) ∨ b = (K37).length + 0 := e; omega⟩)
                          refine E_nil (AX_E (E_addI rfl rfl (by first | omega | (simp; done) | (simp; omega)) (by first | omega | (simp; done) | (simp; omega)) (E_mv (v := .int .i64 (((j : Int) + 1))) rfl (E_nil ?_))))
                          refine hN2 (j + 1, lf.eraseIdx at_, ps.eraseIdx at_) _ _ _ ⟨by first | rfl | (congr 1; omega), by first | rfl | (congr 1; omega), by first | rfl | (congr 1; omega), by rfl, trivial⟩ ⟨?_, ?_⟩ ?_
                          -- n6
                          all_goals clear hN0 hR0 hE0 hN2 hR2 hE2 hN4 hR4 hE4
                          · rw [List.append_nil]
                            exact ⟨rfl, kpV, rV, fun _ => olV⟩
                          · dsimp only
                            exact ⟨by omega, by rw [List.drop_drop] at td4; exact td4, fun g h => hm3 g (List.mem_of_mem_eraseIdx h), by rw [List.length_eraseIdx_of_lt hat]; omega⟩
                          · dsimp only
                            omega
                    · refine E_nil (AX_seq (AX_condF rfl (AX_exit (hE2 _ _ _ _ (AX_seq (AX_E (E_callV rfl (awake_ret _) (E_mv (v := .bool _) rfl (E_nil (AX_ret ?_))))))))))
                      exact ⟨_, rfl, by simp, rfl⟩
                  · exact (c160 rfl).elim
        · exact (c52 rfl).elim
  obtain ⟨q, v, u, hr, rfl⟩ := key
  exact ⟨_, u, ⟨q, hr⟩, rfl⟩
end Go.Canon
