/- CircRelabelled, part 6: the canonical machine and the runs of the program's functions on it. No conditions. -/
import Derived.Test.YtpbamjaldnhamaaDoorReP5
namespace Go.Canon
open Go Go.Proofs
set_option linter.unusedVariables false
set_option linter.unusedSimpArgs false
def kf247 : KFunc := ⟨1, 8, [.tmp 2], .seq (.reg [⟨some 2, .mv (.c (.slice none 0 0)), none⟩] []) (.seq (.seq (.reg [⟨some 3, .mv (.t 0), none⟩, ⟨some 4, .eqN false 0 (.t 3), none⟩] []) (.cond (.t 4) (.seq (.reg [⟨some 2, .mv (.c (.slice none 0 0)), none⟩] []) .ret) .skip)) (.seq (.reg [⟨some 5, .mkS [] 0 [], none⟩, ⟨some 6, .mv (.t 0), none⟩, ⟨some 7, .app (.t 5) (.t 6) 1 1, none⟩, ⟨some 2, .mv (.t 7), none⟩] []) .ret))⟩
theorem k247 : tab Tryd.prog 47 = some kf247 := by kernel_rfl
def kf210 : KFunc := ⟨1, 11, [.tmp 2], .seq (.reg [⟨some 2, .mv (.c (.pointer none)), none⟩] []) (.seq (.reg [⟨some 3, .mv (.t 0), none⟩, ⟨some 4, .mv (.t 0), none⟩, ⟨some 5, .len (.t 4), none⟩, ⟨some 6, .mn [.t 5, .c (.int .i64 300)], none⟩, ⟨some 7, .slS (.t 3) none (some (.t 6)) none 1, none⟩, ⟨some 8, .call (.c (.func (.func 47) #[] #[])) [.t 7], none⟩, ⟨some 9, .mk [.slice none 0 0, .int .i64 0, .int .u32 0] [(0, 1, .t 8), (2, 1, .c (.int .u32 2463534242))], none⟩, ⟨some 10, .box (.t 9), none⟩, ⟨some 2, .mv (.t 10), none⟩] []) .ret)⟩
theorem k210 : tab Tryd.prog 10 = some kf210 := by kernel_rfl
/-- A list of bytes. -/
def Byts (S : Nat → Prop) (h : Heap) (p : Pl) (l : List Int) : Prop := Cells S h 1 p l.length (l.map (.int .u8 ·))
theorem clone8_ret (H : Heap) (p : Pl) (l : List Int) {S : Nat → Prop} (hv : Byts S H p l) (hl : l.length < 4294967296) : ∃ X q, Ret (tab Tryd.prog) 47 [.slice p.1 l.length p.2] H (.slice q.1 l.length q.2) (H ++ X) ∧ Byts (fun b => H.length ≤ b) (H ++ X) q l := by
  have key := Ret_grow (T := tab Tryd.prog) (f := 47) (args := [.slice p.1 l.length p.2]) (h := H) (fun u X => ∃ q : Pl, u = .slice q.1 l.length q.2 ∧ Byts (fun b => H.length ≤ b) (H ++ X) q l) k247 rfl ?_
  · obtain ⟨u, X, hr, q, rfl, f1⟩ := key
    exact ⟨X, q, hr, f1⟩
  refine AX_seq (AX_E (E_mv (v := .slice _ _ _) rfl (E_nil (AX_seq (AX_seq (AX_E (E_mv (v := .slice _ _ _) rfl (E_eqN (b := (p).1.isNone) rfl (E_bs (fun c4 => ?_) (fun c4 => ?_))))))))))
  · refine E_nil (AX_condT rfl (AX_seq (AX_E (E_mv (v := .slice _ _ _) rfl (E_nil (AX_ret ?_))))))
    have hp : p.1 = none := by simpa using c4
    have hl0 : l = [] := by
      obtain ⟨h1, h2, ⟨h3, h4⟩ | ⟨b, o, cs, wr, gr, e1, _⟩⟩ := hv
      · exact List.length_eq_zero_iff.1 (by omega)
      · rw [hp] at e1; cases e1
    subst hl0
    refine ⟨_, rfl, by simp, [], forget_nil rfl (List.prefix_append _ _), (none, 0), rfl, ?_⟩
    exact ⟨rfl, Nat.le_refl _, .inl ⟨rfl, rfl⟩⟩
  · refine E_nil (AX_condF rfl (AX_skip (AX_seq (AX_E (E_mkS (cs := []) rfl (E_mv (v := .slice _ _ _) rfl (E_app0 (k := 0) rfl rfl rfl (Cells.first (Cells.app hv)) (by simp only [roomB]; omega) (by simp) fun W q hW => (E_mv (v := .slice _ _ _) rfl (E_nil (AX_ret ?_))))))))))
    have hq : q.1 ≠ none := by rcases hW with ⟨_, rfl, _⟩ | ⟨_, rfl, _⟩ <;> simp
    refine ⟨_, rfl, by simp, _, forget_more (v := .slice q.1 l.length q.2) (by rcases h : flat2 (.slice q.1 l.length q.2); rfl; exact (hq (sl_flat h)).elim), q, rfl, ?_⟩
    rcases hW with ⟨h0, rfl, rfl⟩ | ⟨_, rfl, rfl⟩
    · have : l = [] := List.length_eq_zero_iff.1 h0
      rw [this]
      exact ⟨rfl, by simp, .inr ⟨H.length + 0, 0, [], true, none, rfl, by simp, by simp, .inl rfl, .inl rfl⟩⟩
    · exact ⟨by simp, by simp, .inr ⟨H.length + 1, 0, l.map (.int .u8 ·), true, some 1, rfl, by simp, by simp, .inr rfl, .inr ⟨by simp, by rw [List.drop_zero, List.take_of_length_le (by simp)]⟩⟩⟩
section
variable {B : Nat → Prop} {T : Nat → Option KFunc} {fi : FI} {prs : List (Nat × Nat)} {i : Nat} {d : Option Nat} {r : List KOper} {fr : Nat → Value} {h u : Heap} {m : List Nat} {K : (Nat → Value) → Heap → List Nat → Prop}
theorem E_mn2 {x y : KO} {a b : Int} (hx : x.ev fr = .int .i64 a) (hy : y.ev fr = .int .i64 b) (H : AE B T fi prs (i + 1) r (put fr d (.int .i64 (if b < a then b else a))) h m K) : AE B T fi prs i (⟨d, .mn [x, y], none⟩ :: r) fr h m K := by
  refine E_no ?_ H
  simp [kop, hx, hy, ints, asI64, least]
end
theorem byts_take {S : Nat → Prop} {h : Heap} {p : Pl} {l : List Int} (H : Byts S h p l) (k : Nat) : Byts S h p (l.take k) := by
  have := Cells.take H (j := (l.take k).length) (by simp; omega)
  rwa [show (l.map (Value.int .u8 ·)).take ((l.take k).length * 1) = (l.take k).map (.int .u8 ·) by rw [Nat.mul_one, List.map_take, List.length_take, ← List.take_take, List.take_of_length_le (l := l.map _) (by simp)]] at this
theorem rowGet_lt' {h : Heap} {a : Addr} {n : Nat} {l : List Value} (H : rowGet h a n = some l) : a.block < h.length := by
  unfold rowGet at H
  split at H
  · rename_i hr; exact (List.getElem?_eq_some_iff.1 hr).1
  · cases H
theorem byts_sb {S : Nat → Prop} {h X : Heap} {q : Pl} {l : List Int} (H : Byts S h q l) : SB (h ++ X).length (h ++ X) h.length q l := by
  intro j hj
  obtain ⟨b, o, e, hr⟩ := Cells.row H (j := j) (k := 1) (by decide) (by omega)
  have hb := rowGet_lt' hr
  have hb : b < h.length := hb
  refine ⟨b, o, l[j], e, by omega, by simp; omega, ?_⟩
  rw [rowGet_base hr]
  congr 1
  rw [List.drop_eq_getElem_cons (by simpa using hj)]
  simp
theorem sof_ret (H : Heap) (p : Pl) (l : List Int) {S : Nat → Prop} (hv : Byts S H p l) (hl : l.length < 9223372036854775808) : ∃ (s : Nat) (X : Heap), Ret (tab Tryd.prog) 10 [.slice p.1 l.length p.2] H (.pointer (some ⟨s, 0, none⟩)) (H ++ X) ∧ H.length ≤ s ∧ Sto (H ++ X).length (H ++ X) s 0 := by
  have key := Ret_grow (T := tab Tryd.prog) (f := 10) (args := [.slice p.1 l.length p.2]) (h := H) (fun u X => ∃ s : Nat, u = .pointer (some ⟨s, 0, none⟩) ∧ H.length ≤ s ∧ Sto (H ++ X).length (H ++ X) s 0) k210 rfl ?_
  · obtain ⟨u, X, hr, s, rfl, f1⟩ := key
    exact ⟨s, X, hr, f1⟩
  refine AX_seq (AX_E (E_mv (v := .pointer none) rfl (E_nil (AX_seq (AX_E (E_mv (v := .slice _ _ _) rfl (E_mv (v := .slice _ _ _) rfl (E_len (n := (l).length) rfl (E_mn2 rfl rfl (E_slHi (j := (l.take 300).length) rfl (Cells.app hv) rfl (by rw [List.length_take]; split <;> omega) (by simp; omega) ?_))))))))))
  obtain ⟨X8, q8, hr8, f8⟩ := clone8_ret (H ++ []) p (l.take 300) (byts_take (Cells.app hv) 300) (by simp; omega)
  refine E_callX (X := X8) rfl (hr8) (E_mk (cs := [.slice q8.1 (l.take 300).length q8.2, .int .i64 (0), .int .u32 (2463534242)]) rfl (E_boxA rfl (E_mv (v := .pointer _) rfl (E_nil (AX_ret ?_)))))
  have f8 := f8
  rw [List.append_nil] at f8
  refine ⟨_, rfl, by simp, X8 ++ [CO.row [.slice q8.1 (l.take 300).length q8.2, .int .i64 (0), .int .u32 (2463534242)] true none], ?_, (H ++ X8).length, ?_, by simp, ?_⟩
  · rw [forget_more rfl]; simp
  · show Value.pointer (some ⟨(H ++ ([] ++ X8)).length + 0, 0, none⟩) = _; simp
  · rw [← List.append_assoc]
    exact ⟨by simp, Nat.le_refl _, q8, l.take 300, 0, 2463534242, by rw [List.getElem?_append_right (Nat.le_refl _)]; simp, byts_sb f8, by decide, by decide, ⟨by decide, by decide⟩, by simp; omega⟩
end Go.Canon
namespace Go.Canon
open Go Go.Proofs
set_option linter.unusedVariables false
set_option linter.unusedSimpArgs false
end Go.Canon
namespace Go.Canon
open Go Go.Proofs
set_option linter.unusedVariables false
set_option linter.unusedSimpArgs false
end Go.Canon
namespace Go.Canon
open Go Go.Proofs
set_option linter.unusedVariables false
set_option linter.unusedSimpArgs false
end Go.Canon
namespace Go.Canon
open Go Go.Proofs
set_option linter.unusedVariables false
set_option linter.unusedSimpArgs false
theorem gates_lt2 {S : Nat → Prop} {h : Heap} {p : Pl} {gs : List G} (H : Gates S h p gs) : Gates (fun b => S b ∧ b < h.length) h p gs := by
  obtain ⟨ps, e, a, b⟩ := H
  exact ⟨ps, e, Cells.lt a, fun i h1 h2 => Cells.lt (b i h1 h2)⟩
theorem getI {l : List Int} {j : Nat} (h : j < l.length) : l.getD j 0 = l[j] := by rw [List.getD_eq_getElem?_getD, List.getElem?_eq_getElem h]; rfl
end Go.Canon
namespace Go.Canon
open Go Go.Proofs
set_option linter.unusedVariables false
set_option linter.unusedSimpArgs false
end Go.Canon
namespace Go.Canon
open Go Go.Proofs
set_option linter.unusedVariables false
set_option linter.unusedSimpArgs false
theorem E_cv8 {B : Nat → Prop} {T : Nat → Option KFunc} {fi : FI} {prs : List (Nat × Nat)} {i : Nat} {d : Option Nat} {r : List KOper} {fr : Nat → Value} {h : Heap} {m : List Nat} {K : (Nat → Value) → Heap → List Nat → Prop} {x : KO} {a : Int} (hx : x.ev fr = .int .u8 a) (ha : 0 ≤ a ∧ a ≤ 255) (H : AE B T fi prs (i + 1) r (put fr d (.int .i64 a)) h m K) : AE B T fi prs i (⟨d, .cv .i64 x, none⟩ :: r) fr h m K :=
  E_no (by simp only [kop, hx]; rw [wrap_in (by omega) (by omega)]) H
end Go.Canon
namespace Go.Canon
open Go Go.Proofs
set_option linter.unusedVariables false
set_option linter.unusedSimpArgs false
def relF (ws : List Int) (x : Int) : Int := ws.getD x.toNat 0
/-- No two wires go to one. -/
def Inj (ws : List Int) (w : Int) : Prop := ∀ x y, 0 ≤ x → x < w → 0 ≤ y → y < w → relF ws x = relF ws y → x = y
def Rng (w : Int) (g : G) : Prop := ∀ x ∈ g.ws, 0 ≤ x ∧ x < w
theorem relG_ws (ws : List Int) (g : G) : (relG ws g).ws = g.ws.map (relF ws) := rfl
theorem inj_of {ws : List Int} {w : Int} (hl : (ws.length : Int) = w) (hd : ws.Nodup) : Inj ws w := by
  intro x y hx hx2 hy hy2 h
  have h1 : x.toNat < ws.length := by omega
  have h2 : y.toNat < ws.length := by omega
  unfold relF at h
  rw [List.getD_eq_getElem?_getD, List.getD_eq_getElem?_getD, List.getElem?_eq_getElem h1, List.getElem?_eq_getElem h2] at h
  have h3 : ws[x.toNat] = ws[y.toNat] := h
  have hp := List.pairwise_iff_getElem.1 hd
  rcases Nat.lt_trichotomy x.toNat y.toNat with h4 | h4 | h4
  · exact absurd h3 (hp _ _ h1 h2 h4)
  · omega
  · exact absurd h3.symm (hp _ _ h2 h1 h4)
section
variable {ws : List Int} {w : Int}
theorem rel_mem (hi : Inj ws w) {x : Int} {g : G} (hx : 0 ≤ x ∧ x < w) (hg : Rng w g) : relF ws x ∈ (relG ws g).ws ↔ x ∈ g.ws := by
  rw [relG_ws, List.mem_map]
  exact ⟨fun ⟨y, hy, e⟩ => by rw [← hi y x (hg y hy).1 (hg y hy).2 hx.1 hx.2 e]; exact hy, fun h => ⟨x, h, rfl⟩⟩
theorem rel_meet (hi : Inj ws w) {g h : G} (hg : Rng w g) (hh : Rng w h) : meetM (relG ws g) (relG ws h) ↔ meetM g h := by
  have ht : touchM (relG ws g) (relG ws h) ↔ touchM g h := Iff.rfl
  have hw : (∃ x ∈ (relG ws g).ws, x ∈ (relG ws h).ws) ↔ ∃ x ∈ g.ws, x ∈ h.ws := by
    constructor
    · rintro ⟨x, h1, h2⟩
      rw [relG_ws, List.mem_map] at h1
      obtain ⟨y, hy, rfl⟩ := h1
      exact ⟨y, hy, (rel_mem hi (hg y hy) hh).1 h2⟩
    · rintro ⟨x, h1, h2⟩
      exact ⟨relF ws x, (rel_mem hi (hg x h1) hg).2 h1, (rel_mem hi (hg x h1) hh).2 h2⟩
  unfold meetM
  rw [hw, ht]
theorem rel_getD (hi : Inj ws w) {g : G} {j : Nat} (hj : j < g.ws.length) : (relG ws g).ws.getD j 0 = relF ws (g.ws.getD j 0) := by
  rw [relG_ws, List.getD_eq_getElem?_getD, List.getD_eq_getElem?_getD, List.getElem?_map, List.getElem?_eq_getElem hj]
  rfl
theorem rel_axis (hi : Inj ws w) {g : G} {x : Int} (hx : 0 ≤ x ∧ x < w) (hg : Rng w g) (hl : 0 < g.ws.length) : axisM (relG ws g) (relF ws x) = axisM g x := by
  have e : (relG ws g).ws.getD ((relG ws g).ws.length - 1) 0 = relF ws x ↔ g.ws.getD (g.ws.length - 1) 0 = x := by
    have hlen : (relG ws g).ws.length = g.ws.length := by rw [relG_ws, List.length_map]
    rw [hlen, rel_getD hi (by omega)]
    have hm : g.ws.getD (g.ws.length - 1) 0 ∈ g.ws := by rw [List.getD_eq_getElem?_getD, List.getElem?_eq_getElem (by omega)]; exact List.getElem_mem _
    exact ⟨fun h => hi _ _ (hg _ hm).1 (hg _ hm).2 hx.1 hx.2 h, fun h => by rw [h]⟩
  have k : (relG ws g).k = g.k := rfl
  unfold axisM
  simp only [k, e]
theorem rel_alike (hi : Inj ws w) {g h : G} (hg : Rng w g) (hh : Rng w h) (hl : 2 ≤ g.ws.length) : alikeM (relG ws g) (relG ws h) ↔ alikeM g h := by
  have m0 : g.ws.getD 0 0 ∈ g.ws := by rw [List.getD_eq_getElem?_getD, List.getElem?_eq_getElem (by omega)]; exact List.getElem_mem _
  have m1 : g.ws.getD 1 0 ∈ g.ws := by rw [List.getD_eq_getElem?_getD, List.getElem?_eq_getElem (by omega)]; exact List.getElem_mem _
  unfold alikeM
  rw [rel_getD hi (by omega), rel_getD hi (by omega), rel_mem hi (hg _ m0) hh, rel_mem hi (hg _ m1) hh]
theorem rel_all (hi : Inj ws w) {g h : G} (hg : Rng w g) (hh : Rng w h) (lg : 0 < g.ws.length) (lh : 0 < h.ws.length) :
    (∀ x ∈ (relG ws g).ws, x ∈ (relG ws h).ws → axisM (relG ws g) x ≠ 0 ∧ axisM (relG ws g) x = axisM (relG ws h) x) ↔ ∀ x ∈ g.ws, x ∈ h.ws → axisM g x ≠ 0 ∧ axisM g x = axisM h x := by
  constructor
  · intro H x h1 h2
    have := H (relF ws x) ((rel_mem hi (hg x h1) hg).2 h1) ((rel_mem hi (hg x h1) hh).2 h2)
    rwa [rel_axis hi (hg x h1) hg lg, rel_axis hi (hg x h1) hh lh] at this
  · intro H x h1 h2
    rw [relG_ws, List.mem_map] at h1
    obtain ⟨y, hy, rfl⟩ := h1
    rw [rel_axis hi (hg y hy) hg lg, rel_axis hi (hg y hy) hh lh]
    exact H y hy ((rel_mem hi (hg y hy) hh).1 h2)
theorem rel_comm (hi : Inj ws w) {g h : G} (hg : Rng w g) (hh : Rng w h) (rg : GR g) (rh : GR h) : commM (relG ws g) (relG ws h) ↔ commM g h := by
  have lg := rg.len; have lh := rh.len
  have kg : (relG ws g).k = g.k := rfl
  have kh : (relG ws h).k = h.k := rfl
  have ht : touchM (relG ws g) (relG ws h) ↔ touchM g h := Iff.rfl
  unfold commM
  rw [rel_meet hi hg hh, ht, kg, kh]
  by_cases hc : (g.k = 11 ∧ (h.k = 10 ∨ h.k = 11)) ∨ (h.k = 11 ∧ g.k = 10)
  · rw [if_pos hc, if_pos hc, rel_alike hi hg hh]
    have h1 := rg.ar
    unfold arityM at h1
    (repeat' split at h1) <;> omega
  · rw [if_neg hc, if_neg hc, rel_all hi hg hh (by omega) (by omega)]
theorem map_inj (hi : Inj ws w) : ∀ {a b : List Int}, (∀ x ∈ a, 0 ≤ x ∧ x < w) → (∀ x ∈ b, 0 ≤ x ∧ x < w) → (a.map (relF ws) = b.map (relF ws) ↔ a = b)
  | [], [], _, _ => by simp
  | [], _ :: _, _, _ => by simp
  | _ :: _, [], _, _ => by simp
  | x :: a, y :: b, ha, hb => by
    simp only [List.map_cons, List.cons.injEq]
    rw [map_inj hi (fun z hz => ha z (List.mem_cons_of_mem _ hz)) (fun z hz => hb z (List.mem_cons_of_mem _ hz))]
    have h1 := ha x List.mem_cons_self; have h2 := hb y List.mem_cons_self
    exact ⟨fun h => ⟨hi x y h1.1 h1.2 h2.1 h2.2 h.1, h.2⟩, fun h => ⟨by rw [h.1], h.2⟩⟩
theorem rel_undo (hi : Inj ws w) {g h : G} (hg : Rng w g) (hh : Rng w h) (rg : GR g) (rh : GR h) : undoM (relG ws g) (relG ws h) ↔ undoM g h := by
  have lg := rg.len; have lh := rh.len
  have kg : (relG ws g).k = g.k := rfl
  have kh : (relG ws h).k = h.k := rfl
  have fg : (relG ws g).f = g.f := rfl
  have fh : (relG ws h).f = h.f := rfl
  have a1 := rg.ar; have a2 := rh.ar
  unfold undoM
  rw [kg, kh, fg, fh]
  by_cases hf : g.f = h.f ∧ g.k < 13 ∧ h.k = oppM g.k
  · obtain ⟨f1, f2, f3⟩ := hf
    simp only [f1, f2, true_and]
    rw [← f3]
    simp only [true_and]
    by_cases c1 : g.k = 10 ∨ g.k = 11
    · rw [if_pos c1, if_pos c1, rel_alike hi hg hh (by unfold arityM at a1; (repeat' split at a1) <;> omega)]
    · rw [if_neg c1, if_neg c1]
      by_cases c2 : g.k = 12
      · have l3 : g.ws.length = 3 := by unfold arityM at a1; (repeat' split at a1) <;> omega
        have k3 : h.k = 12 := by rw [f3, c2]; rfl
        have m3 : h.ws.length = 3 := by unfold arityM at a2; (repeat' split at a2) <;> omega
        rw [if_pos c2, if_pos c2, rel_alike hi hg hh (by omega), rel_getD hi (by omega), rel_getD hi (by omega)]
        have m0 : g.ws.getD 2 0 ∈ g.ws := by rw [List.getD_eq_getElem?_getD, List.getElem?_eq_getElem (by omega)]; exact List.getElem_mem _
        have m1 : h.ws.getD 2 0 ∈ h.ws := by rw [List.getD_eq_getElem?_getD, List.getElem?_eq_getElem (by omega)]; exact List.getElem_mem _
        exact ⟨fun x => ⟨hi _ _ (hg _ m0).1 (hg _ m0).2 (hh _ m1).1 (hh _ m1).2 x.1, x.2⟩, fun x => ⟨by rw [x.1], x.2⟩⟩
      · rw [if_neg c2, if_neg c2, relG_ws, relG_ws, map_inj hi hg hh]
  · exact ⟨fun x => absurd ⟨x.1, x.2.1, x.2.2.1⟩ hf, fun x => absurd ⟨x.1, x.2.1, x.2.2.1⟩ hf⟩
end
theorem rel_layerTo {gs ds : List G} {out : List Int} {i : Nat} : ∀ {k : Nat}, (∀ q, q < k → (meetM (ds.getD i default) (ds.getD q default) ↔ meetM (gs.getD i default) (gs.getD q default))) → layerTo ds out i k = layerTo gs out i k
  | 0, _ => rfl
  | k + 1, h => by
    rw [layerTo.eq_2, layerTo.eq_2, rel_layerTo (k := k) fun q hq => h q (by omega)]
    simp only [h k (by omega)]
theorem rel_layers {gs ds : List G} : ∀ {n : Nat}, (∀ i q, i < n → q < i → (meetM (ds.getD i default) (ds.getD q default) ↔ meetM (gs.getD i default) (gs.getD q default))) → layersL ds n = layersL gs n
  | 0, _ => rfl
  | n + 1, h => by
    rw [layersL, layersL, rel_layers (n := n) fun i q hi hq => h i q (by omega) hq, rel_layerTo fun q hq => h n q (by omega) hq]
theorem rel_count {gs : List G} {ws : List Int} : countL (gs.map (relG ws)) = countL gs := by
  funext i
  simp only [countL]
  rw [List.filter_map, List.length_map]
  rfl
end Go.Canon
namespace Go.Canon
open Go Go.Proofs
set_option linter.unusedVariables false
set_option linter.unusedSimpArgs false
/-- The wires in some order. -/
structure Ord (ws : List Int) (w : Int) : Prop where
  len : (ws.length : Int) = w
  rng : ∀ x ∈ ws, 0 ≤ x ∧ x < w
  nd : ws.Nodup
theorem Ord.f {ws : List Int} {w x : Int} (H : Ord ws w) (h : 0 ≤ x ∧ x < w) : 0 ≤ relF ws x ∧ relF ws x < w := by
  have hl := H.len
  have h1 : x.toNat < ws.length := by omega
  unfold relF
  rw [List.getD_eq_getElem?_getD, List.getElem?_eq_getElem h1]
  exact H.rng _ (List.getElem_mem _)
theorem Ord.relK {ws : List Int} {w : Int} (H : Ord ws w) : ∀ k, k ≤ ws.length → Go.Canon.relK ws w k = 0
  | 0, _ => rfl
  | k + 1, h => by
    rw [Go.Canon.relK, Ord.relK H k (by omega), if_neg (by simp)]
    have hk : k < ws.length := by omega
    have e : ws.getD k 0 = ws[k] := by rw [List.getD_eq_getElem?_getD, List.getElem?_eq_getElem hk]; rfl
    have h1 := H.rng _ (List.getElem_mem hk)
    rw [e, if_neg (by omega), if_neg]
    intro hm
    obtain ⟨j, hj, e2⟩ := List.mem_iff_getElem.1 hm
    rw [List.getElem_take] at e2
    have hjk : j < k := by simp at hj; omega
    exact (List.pairwise_iff_getElem.1 H.nd j k (by omega) hk hjk) e2
theorem rel_cg {ws : List Int} {g : G} {w b : Int} (H : Ord ws w) (hg : cgM g w b = 0) : cgM (relG ws g) w b = 0 := by
  have hi := inj_of H.len H.nd
  have hr : Rng w g := by
    unfold cgM at hg
    split at hg <;> try omega
    split at hg <;> try omega
    split at hg <;> try omega
    rename_i e1 e2 e3
    exact fun x hx => by
      false_or_by_contra
      exact e3 ⟨x, hx, by omega⟩
  unfold cgM at hg ⊢
  split at hg <;> try omega
  split at hg <;> try omega
  split at hg <;> try omega
  split at hg <;> try omega
  split at hg <;> try omega
  split at hg <;> try omega
  rename_i e1 e2 e3 e4 e5 e6
  have hlen : (relG ws g).ws.length = g.ws.length := by rw [relG_ws, List.length_map]
  rw [if_neg (show ¬ arityM (relG ws g).k = 0 from e1), if_neg (by rw [hlen]; exact e2), if_neg, if_neg, if_neg (by exact e5), if_neg (by exact e6)]
  · simp only [Decidable.not_not] at e4 ⊢
    rw [relG_ws]
    refine List.pairwise_map.2 (List.Pairwise.imp_of_mem ?_ e4)
    intro x y hx hy hne he
    exact hne (hi x y (hr x hx).1 (hr x hx).2 (hr y hy).1 (hr y hy).2 he)
  · rintro ⟨x, hx, h⟩
    rw [relG_ws, List.mem_map] at hx
    obtain ⟨y, hy, rfl⟩ := hx
    have := H.f (hr y hy)
    omega
theorem cg_Rng {g : G} {w b : Int} (hg : cgM g w b = 0) : Rng w g := by
  unfold cgM at hg
  split at hg <;> try omega
  split at hg <;> try omega
  split at hg <;> try omega
  rename_i e1 e2 e3
  exact fun x hx => by
    false_or_by_contra
    exact e3 ⟨x, hx, by omega⟩
theorem rel_circ {c : C} {ws : List Int} (hc : checkM c = 0) (H : Ord ws c.w) : relabelE c ws = 0 ∧ relabelM c ws = ⟨c.w, c.b, c.gs.map (relG ws)⟩ ∧ checkM ⟨c.w, c.b, c.gs.map (relG ws)⟩ = 0 := by
  have hr := CR.of hc
  have h1 : relabelE c ws = 0 := by
    unfold relabelE
    rw [if_neg (by simp [hc]), if_neg (by have := H.len; omega)]
    exact H.relK _ (Nat.le_refl _)
  refine ⟨h1, by unfold relabelM; rw [if_pos h1], checkM_of hr.w0 hr.b0 (by simp; exact hr.n0) fun g hg => ?_⟩
  obtain ⟨x, hx, rfl⟩ := List.mem_map.1 hg
  exact rel_cg H (hr.cg x hx)
theorem rel_back {c : C} {to fr : List Int} (hc : checkM c = 0) (hb : ∀ x, 0 ≤ x → x < c.w → relF fr (relF to x) = x) : (c.gs.map (relG to)).map (relG fr) = c.gs := by
  have hr := CR.of hc
  rw [List.map_map]
  conv => rhs; rw [← List.map_id c.gs]
  refine List.map_congr_left fun g hg => ?_
  have hR := cg_Rng (hr.cg g hg)
  show (⟨g.k, (g.ws.map (relF to)).map (relF fr), g.b, g.f⟩ : G) = g
  have : (g.ws.map (relF to)).map (relF fr) = g.ws := by
    rw [List.map_map]
    conv => rhs; rw [← List.map_id g.ws]
    exact List.map_congr_left fun x hx => hb x (hR x hx).1 (hR x hx).2
  rw [this]
theorem rel_inv {ws : List Int} {gs : List G} : (gs.reverse.map invG).map (relG ws) = (gs.map (relG ws)).reverse.map invG := by
  rw [List.map_map, ← List.map_reverse, List.map_map]
  rfl
end Go.Canon
namespace Go.Canon
open Go Go.Proofs
set_option linter.unusedVariables false
set_option linter.unusedSimpArgs false
def usesB (gs : List G) (x : Int) : Bool := decide (∃ g ∈ gs, x ∈ g.ws)
theorem usedL_filter (gs : List G) : ∀ n, usedL gs n = ((List.range n).map fun i : Nat => (i : Int)).filter (usesB gs)
  | 0 => rfl
  | n + 1 => by
    rw [usedL, usedL_filter gs n, List.range_succ, List.map_append, List.filter_append]
    congr 1
    by_cases h : ∃ g ∈ gs, (n : Int) ∈ g.ws
    · rw [if_pos h]; simp [usesB, h]
    · rw [if_neg h]; simp [usesB, h]
theorem usedL_mem {gs : List G} {n : Nat} {x : Int} : x ∈ usedL gs n ↔ (0 ≤ x ∧ x < n) ∧ ∃ g ∈ gs, x ∈ g.ws := by
  rw [usedL_filter, List.mem_filter, List.mem_map]
  constructor
  · rintro ⟨⟨i, hi, rfl⟩, h⟩
    exact ⟨by have := List.mem_range.1 hi; omega, by simpa [usesB] using h⟩
  · rintro ⟨⟨h1, h2⟩, h⟩
    exact ⟨⟨x.toNat, List.mem_range.2 (by omega), by omega⟩, by simpa [usesB] using h⟩
theorem usedL_sorted (gs : List G) (n : Nat) : (usedL gs n).Pairwise (· < ·) := by
  rw [usedL_filter]
  refine List.Pairwise.filter _ (List.pairwise_map.2 ?_)
  exact List.pairwise_lt_range.imp fun h => by omega
theorem to_map {ws : List Int} : ws = (List.range ws.length).map fun i : Nat => relF ws (i : Int) := by
  apply List.ext_getElem
  · simp
  · intro i h1 h2
    simp [relF, h1]
theorem rel_uses {gs : List G} {ws : List Int} {w x : Int} (hi : Inj ws w) (hg : ∀ g ∈ gs, Rng w g) (hx : 0 ≤ x ∧ x < w) : usesB (gs.map (relG ws)) (relF ws x) = usesB gs x := by
  unfold usesB
  refine decide_eq_decide.2 ⟨?_, ?_⟩
  · rintro ⟨g, h1, h2⟩
    obtain ⟨g', h3, rfl⟩ := List.mem_map.1 h1
    exact ⟨g', h3, (rel_mem hi hx (hg g' h3)).1 h2⟩
  · rintro ⟨g, h1, h2⟩
    exact ⟨_, List.mem_map.2 ⟨g, h1, rfl⟩, (rel_mem hi hx (hg g h1)).2 h2⟩
theorem used_len {gs : List G} {ws : List Int} {n : Nat} (H : Ord ws n) (hp : ws.Perm ((List.range n).map fun i : Nat => (i : Int))) (hg : ∀ g ∈ gs, Rng (n : Int) g) : (usedL (gs.map (relG ws)) n).length = (usedL gs n).length := by
  have hl := H.len
  have hi := inj_of H.len H.nd
  have key : ∀ P : Int → Bool, (ws.filter P).length = ((List.range n).filter (P ∘ fun i : Nat => relF ws (i : Int))).length := fun P => by
    conv => lhs; rw [to_map (ws := ws)]
    rw [List.filter_map, List.length_map, show ws.length = n by omega]
  rw [usedL_filter, usedL_filter, ← (hp.filter (usesB (gs.map (relG ws)))).length_eq, key, List.filter_map, List.length_map]
  congr 1
  refine List.filter_congr fun i hi2 => ?_
  have := List.mem_range.1 hi2
  exact rel_uses (x := (i : Int)) hi hg ⟨by omega, by omega⟩
end Go.Canon
namespace Go.Canon
open Go Go.Proofs
set_option linter.unusedVariables false
set_option linter.unusedSimpArgs false
def kf276 : KFunc := ⟨2, 17, [.tmp 4], .seq (.reg [⟨some 4, .mv (.c (.bool false)), none⟩] []) (.seq (.reg [⟨some 5, .mv (.t 0), none⟩, ⟨some 6, .call (.c (.func (.func 99) #[] #[])) [.t 5], none⟩, ⟨some 7, .mv (.t 6), none⟩, ⟨some 8, .mv (.t 1), some (7, true)⟩, ⟨some 9, .call (.c (.func (.func 99) #[] #[])) [.t 8], some (7, true)⟩, ⟨some 10, .not (.t 9), some (7, true)⟩, ⟨some 11, .pick (.t 7) (.t 10) (.c (.bool false)), none⟩, ⟨some 12, .mv (.t 11), none⟩, ⟨some 13, .mv (.t 0), some (12, false)⟩, ⟨some 14, .mv (.t 1), some (12, false)⟩, ⟨some 15, .bin .lss (.t 13) (.t 14), some (12, false)⟩, ⟨some 16, .pick (.t 12) (.c (.bool true)) (.t 15), none⟩, ⟨some 4, .mv (.t 16), none⟩] []) .ret)⟩
theorem k276 : tab Tryd.prog 76 = some kf276 := by kernel_rfl
def kf244 : KFunc := ⟨1, 21, [.tmp 2], .seq (.reg [⟨some 2, .mv (.c (.bool false)), none⟩] []) (.seq (.seq (.reg [⟨some 4, .mv (.t 0), none⟩, ⟨some 5, .len (.t 4), none⟩, ⟨some 6, .bin .sub (.t 5) (.c (.int .i64 1)), none⟩, ⟨some 3, .mv (.t 6), none⟩] []) (.block 0 (.loop (.seq (.seq (.reg [⟨some 7, .mv (.t 3), none⟩, ⟨some 8, .bin .gtr (.t 7) (.c (.int .i64 0)), none⟩] []) (.cond (.t 8) .skip (.exit 0))) (.seq (.block 1 (.seq (.reg [⟨some 11, .mv (.t 0), none⟩, ⟨some 12, .mv (.t 3), none⟩, ⟨some 13, .iaS (.t 11) (.t 12) 1, none⟩, ⟨some 14, .ld (.t 13) none, none⟩, ⟨some 15, .mv (.t 0), none⟩, ⟨some 16, .mv (.t 3), none⟩, ⟨some 17, .bin .sub (.t 16) (.c (.int .i64 1)), none⟩, ⟨some 18, .iaS (.t 15) (.t 17) 1, none⟩, ⟨some 19, .ld (.t 18) none, none⟩, ⟨some 20, .call (.c (.func (.func 76) #[] #[])) [.t 14, .t 19], none⟩] []) (.cond (.t 20) (.seq (.reg [⟨some 2, .mv (.c (.bool false)), none⟩] []) .ret) .skip))) (.reg [⟨some 9, .mv (.t 3), none⟩, ⟨some 10, .bin .sub (.t 9) (.c (.int .i64 1)), none⟩, ⟨some 3, .mv (.t 10), none⟩] [])))))) (.seq (.reg [⟨some 2, .mv (.c (.bool true)), none⟩] []) .ret))⟩
theorem k244 : tab Tryd.prog 44 = some kf244 := by kernel_rfl
theorem cmpless_ret (H : Heap) (x y : Int) : Ret (tab Tryd.prog) 76 [.int .i64 x, .int .i64 y] H (.bool (decide (x < y))) H := by
  refine Ret_own k276 rfl ?_
  refine AX_seq (AX_E (E_mv (v := .bool _) rfl (E_nil (AX_seq (AX_E (E_mv (v := .int .i64 (x)) rfl (E_callP rfl (isnan_ret _ _) (fun c6 => ?_) (fun c6 => ?_))))))))
  · refine E_mv (v := .bool _) rfl (E_on rfl (E_mv (v := .int .i64 (y)) rfl (E_on rfl (E_callP rfl (isnan_ret _ _) (fun c9 => ?_) (fun c9 => ?_)))))
    · refine E_on rfl (E_notV rfl rfl (E_pickT rfl (v := .bool _) rfl (E_mv (v := .bool _) rfl (E_on rfl (E_mv (v := .int .i64 (x)) rfl (E_on rfl (E_mv (v := .int .i64 (y)) rfl (E_on rfl (E_lssV rfl rfl (E_pickF rfl (v := .bool _) rfl (E_mv (v := .bool _) rfl (E_nil (AX_ret ?_)))))))))))))
      refine ⟨_, rfl, by simp, ?_, forget_flat rfl (List.prefix_append _ _)⟩
      refine congrArg (Value.bool) ?_
      refine decide_eq_decide.2 ?_
      first | rfl | omega | assumption | (exact c6.elim) | (exact (c12 trivial).elim)
    · refine E_on rfl (E_notV rfl rfl (E_pickT rfl (v := .bool _) rfl (E_mv (v := .bool _) rfl (E_notF rfl (E_notF rfl (E_notF rfl (E_pickT rfl (v := .bool _) rfl (E_mv (v := .bool _) rfl (E_nil (AX_ret ?_))))))))))
      refine ⟨_, rfl, by simp, ?_, forget_flat rfl (List.prefix_append _ _)⟩
      refine congrArg (Value.bool) ?_
      refine (decide_eq_true ?_).symm
      first | rfl | omega | assumption | (exact c6.elim) | (exact (c12 trivial).elim)
  · refine E_mv (v := .bool _) rfl (E_notT rfl (E_notT rfl (E_notT rfl (E_pickF rfl (v := .bool _) rfl (E_mv (v := .bool _) rfl (E_on rfl (E_mv (v := .int .i64 (x)) rfl (E_on rfl (E_mv (v := .int .i64 (y)) rfl (E_on rfl (E_lssV rfl rfl (E_pickF rfl (v := .bool _) rfl (E_mv (v := .bool _) rfl (E_nil (AX_ret ?_)))))))))))))))
    refine ⟨_, rfl, by simp, ?_, forget_flat rfl (List.prefix_append _ _)⟩
    refine congrArg (Value.bool) ?_
    refine decide_eq_decide.2 ?_
    first | rfl | omega | assumption | (exact c6.elim) | (exact (c12 trivial).elim)
theorem issorted_ret (H : Heap) (p : Pl) (l : List Int) {S : Nat → Prop} (hv : Ints S H p l) (hl : l.length < 4611686018427387904) (hs : l.Pairwise (· < ·)) : Ret (tab Tryd.prog) 44 [.slice p.1 l.length p.2] H (.bool true) H := by
  refine Ret_own k244 rfl ?_
  refine AX_seq (AX_E (E_mv (v := .bool _) rfl (E_nil (AX_seq (AX_seq (AX_E (E_mv (v := .slice _ _ _) rfl (E_len (n := (l).length) rfl (E_subI rfl rfl (by first | omega | (simp; done) | (simp; omega)) (by first | omega | (simp; done) | (simp; omega)) (E_mv (v := .int .i64 (((l).length - 1))) rfl (E_nil (AX_block ?_))))))))))))
  refine AX_loopF (γ := Int) (fun z => [(0, .slice (p).1 (l).length (p).2), (3, .int .i64 (z))]) (fun z h_ m_ => h_ = H ++ [] ∧ m_ = [] ∧ -1 ≤ z ∧ z < l.length) (fun z => z.toNat) ((l.length : Int) - 1) ⟨rfl, rfl, trivial⟩ ⟨rfl, rfl, ?_⟩ ?_
  · omega
  rintro z fr0 h0 m0 ⟨rfl, rfl, inv0⟩ K0 hN0 hR0 hE0
  refine AX_seq (AX_seq (AX_E (E_mv (v := .int .i64 (z)) rfl (E_gtrS rfl rfl (fun c8 => ?_) (fun c8 => ?_)))))
  · refine E_nil (AX_condT rfl (AX_skip (AX_seq (AX_block (AX_seq (AX_E (E_mv (v := .slice _ _ _) rfl (E_mv (v := .int .i64 (z)) rfl (have ix1 : (z).toNat < (l).length := (by first | omega | (simp; done) | (simp; omega)); E_iaIb (j := (z).toNat) rfl hv rfl rfl (by omega) ix1 fun b1 o1 w1 => (E_ldB (v := .int .i64 (l[(z).toNat]'ix1)) rfl w1 (E_mv (v := .slice _ _ _) rfl (E_mv (v := .int .i64 (z)) rfl (E_subI rfl rfl (by first | omega | (simp; done) | (simp; omega)) (by first | omega | (simp; done) | (simp; omega)) (have ix2 : ((z - 1)).toNat < (l).length := (by first | omega | (simp; done) | (simp; omega)); E_iaIb (j := ((z - 1)).toNat) rfl hv rfl rfl (by omega) ix2 fun b2 o2 w2 => (E_ldB (v := .int .i64 (l[((z - 1)).toNat]'ix2)) rfl w2 (E_callP rfl (cmpless_ret _ _ _) (fun c20 => ?_) (fun c20 => ?_)))))))))))))))))
    · have h5 := List.pairwise_iff_getElem.1 hs (z - 1).toNat z.toNat (by omega) (by omega) (by omega); omega
    · refine E_nil (AX_condF rfl (AX_skip (AX_E (E_mv (v := .int .i64 (z)) rfl (E_subI rfl rfl (by first | omega | (simp; done) | (simp; omega)) (by first | omega | (simp; done) | (simp; omega)) (E_mv (v := .int .i64 ((z - 1))) rfl (E_nil ?_)))))))
      refine hN0 (z - 1) _ _ _ ⟨by first | rfl | (congr 1; omega), by first | rfl | (congr 1; omega), trivial⟩ ⟨rfl, rfl, ?_⟩ ?_
      all_goals clear hN0 hR0 hE0
      · omega
      · (first | omega | (simp; omega))
  · refine E_nil (AX_condF rfl (AX_exit (hE0 _ _ _ _ (AX_seq (AX_E (E_mv (v := .bool _) rfl (E_nil (AX_ret ?_))))))))
    refine ⟨_, rfl, by simp, ?_, forget_flat rfl (List.prefix_append _ _)⟩
    clear hN0 hR0 hE0
    refine congrArg (Value.bool) ?_
    rfl
end Go.Canon
namespace Go.Canon
open Go Go.Proofs
set_option linter.unusedVariables false
set_option linter.unusedSimpArgs false
theorem rel_facts {c : C} {to fr : List Int} (hc : checkM c = 0) (hp : plainM c) (H : Ord to c.w) (F : Ord fr c.w) (hb : ∀ x, 0 ≤ x → x < c.w → relF fr (relF to x) = x) (hperm : to.Perm ((List.range c.w.toNat).map fun i : Nat => (i : Int))) :
    let d : C := ⟨c.w, c.b, c.gs.map (relG to)⟩
    checkM d = 0 ∧ (relabelE c to = 0 ∧ relabelM c to = d) ∧ (relabelE d fr = 0 ∧ relabelM d fr = c) ∧ layersR d = layersR c ∧ countL d.gs = countL c.gs ∧
    ((usedR d).length = (usedR c).length ∧ (∀ x ∈ usedR c, (0 ≤ x ∧ x < c.w) ∧ relF to x ∈ usedR d) ∧ (usedR c).Pairwise (· < ·) ∧ (usedR d).Pairwise (· < ·)) ∧ plainM d := by
  intro d
  have hr := CR.of hc
  have w0 := hr.w0
  obtain ⟨r1, r2, hd⟩ := rel_circ hc H
  have hd : checkM d = 0 := hd
  obtain ⟨r3, r4, _⟩ := rel_circ (c := d) hd F
  have back := rel_back hc hb
  have hi := inj_of H.len H.nd
  have hR : ∀ g ∈ c.gs, Rng c.w g := fun g hg => cg_Rng (hr.cg g hg)
  have hw : ((c.w.toNat : Nat) : Int) = c.w := by omega
  have uc : usedR c = usedL c.gs c.w.toNat := if_pos hc
  have ud : usedR d = usedL d.gs c.w.toNat := if_pos hd
  refine ⟨hd, ⟨r1, r2⟩, ⟨r3, ?_⟩, ?_, rel_count, ⟨?_, ?_, ?_, ?_⟩, ?_⟩
  · rw [r4]; show (⟨c.w, c.b, (c.gs.map (relG to)).map (relG fr)⟩ : C) = c; rw [back]
  · rw [show layersR d = layersL d.gs d.gs.length from if_pos hd, show layersR c = layersL c.gs c.gs.length from if_pos hc]
    show layersL (c.gs.map (relG to)) (c.gs.map (relG to)).length = _
    rw [List.length_map]
    refine rel_layers fun i q hin hq => ?_
    have e1 : (c.gs.map (relG to)).getD i default = relG to (c.gs.getD i default) := by
      rw [getG_at hin, getG_at (by simpa using hin)]; simp
    have e2 : (c.gs.map (relG to)).getD q default = relG to (c.gs.getD q default) := by
      rw [getG_at (show q < c.gs.length by omega), getG_at (by simp; omega)]; simp
    rw [e1, e2, getG_at hin, getG_at (show q < c.gs.length by omega)]
    exact rel_meet hi (hR _ (List.getElem_mem _)) (hR _ (List.getElem_mem _))
  · rw [uc, ud]
    exact used_len (by rw [hw]; exact H) hperm fun g hg => by rw [hw]; exact hR g hg
  · intro x hx
    rw [uc] at hx
    obtain ⟨h1, g, hg, hxg⟩ := usedL_mem.1 hx
    have hx2 : 0 ≤ x ∧ x < c.w := by omega
    refine ⟨hx2, ?_⟩
    rw [ud]
    have := H.f hx2
    exact usedL_mem.2 ⟨by omega, _, List.mem_map.2 ⟨g, hg, rfl⟩, (rel_mem hi hx2 (hR g hg)).2 hxg⟩
  · rw [uc]; exact usedL_sorted _ _
  · rw [ud]; exact usedL_sorted _ _
  · intro g hg
    obtain ⟨x, hx, rfl⟩ := List.mem_map.1 hg
    exact hp x hx
end Go.Canon
namespace Go.Canon
open Go Go.Proofs
set_option linter.unusedVariables false
set_option linter.unusedSimpArgs false
theorem opp_ar2 (k : Int) : arityM (oppM k) = arityM k := by
  unfold oppM
  split
  · rename_i h; subst h; rfl
  · split
    · rename_i h; subst h; rfl
    · split
      · rename_i h; subst h; rfl
      · split
        · rename_i h; subst h; rfl
        · rfl
theorem opp_lt2 {k : Int} (h : k < 13) : oppM k < 13 := by
  unfold oppM
  (repeat' split) <;> omega
theorem inv_cg {g : G} {w b : Int} (h : cgM g w b = 0) (hk : g.k < 13) : cgM (invG g) w b = 0 := by
  have ho := opp_lt2 hk
  unfold cgM at h ⊢
  split at h <;> try omega
  split at h <;> try omega
  split at h <;> try omega
  split at h <;> try omega
  split at h <;> try omega
  split at h <;> try omega
  rename_i e1 e2 e3 e4 e5 e6
  have ka : arityM (invG g).k = arityM g.k := opp_ar2 g.k
  rw [ka, if_neg e1, if_neg (by exact e2), if_neg (by exact e3), if_neg (by exact e4), if_neg (by show ¬ ((g.f < 0 ∨ b < g.f) ∨ oppM g.k = 13 ∧ (g.b < 0 ∨ b - 1 < g.b)); omega), if_neg (by show ¬ ((13 ≤ oppM g.k ∧ g.f ≠ 0) ∨ (oppM g.k ≠ 13 ∧ g.b ≠ 0)); omega)]
theorem inv_circ {c : C} (hc : checkM c = 0) (hp : plainM c) : inverseE c = 0 ∧ inverseM c = ⟨c.w, c.b, c.gs.reverse.map invG⟩ ∧ checkM ⟨c.w, c.b, c.gs.reverse.map invG⟩ = 0 := by
  have hr := CR.of hc
  have e : inverseE c = 0 := by unfold inverseE; rw [if_neg (by simp [hc]), if_pos hp]
  refine ⟨e, by unfold inverseM; rw [if_pos e], checkM_of hr.w0 hr.b0 (by simp; exact hr.n0) fun g hg => ?_⟩
  obtain ⟨x, hx, rfl⟩ := List.mem_map.1 hg
  have hx := List.mem_reverse.1 hx
  exact inv_cg (hr.cg x hx) (hp x hx).1
/-- The Inverse on other wires is the Inverse of what is on other wires. -/
theorem inv_rel {c : C} {to : List Int} (hc : checkM c = 0) (hp : plainM c) (H : Ord to c.w) (hd : checkM ⟨c.w, c.b, c.gs.map (relG to)⟩ = 0) (hpd : plainM ⟨c.w, c.b, c.gs.map (relG to)⟩) :
    relabelE (inverseM c) to = 0 ∧ relabelM (inverseM c) to = inverseM ⟨c.w, c.b, c.gs.map (relG to)⟩ := by
  obtain ⟨_, i2, i3⟩ := inv_circ hc hp
  obtain ⟨_, j2, _⟩ := inv_circ hd hpd
  obtain ⟨r1, r2, _⟩ := rel_circ (c := ⟨c.w, c.b, c.gs.reverse.map invG⟩) i3 H
  rw [i2, j2]
  refine ⟨r1, ?_⟩
  rw [r2, ← rel_inv]
end Go.Canon
namespace Go.Canon
open Go Go.Proofs
set_option linter.unusedVariables false
set_option linter.unusedSimpArgs false
/-- A plain circuit of the store, by one name. -/
theorem scircC_ret (N : Nat) (H : Heap) (s k : Nat) (w mo : Int) (pk : Pl) (kl : List Int) (hs : Sto N H s k) (hk : k < 4611686018427370000) (hw : 1 ≤ w ∧ w ≤ 12) (hmo : 0 ≤ mo ∧ mo ≤ 120) (hkl : Ints (fun b => b < N ∧ b ≠ s) H pk kl) (hne : 0 < kl.length ∧ kl.length < 100) (hkk : ∀ x ∈ kl, 1 ≤ x ∧ x ≤ 12) (h1 : arityM (kl[0]'hne.1) = 1) :
    ∃ (c : C) (q : Pl) (u : Heap), Ret (tab Tryd.prog) 21 [.pointer (some ⟨s, 0, none⟩), .int .i64 w, .int .i64 mo, .slice pk.1 kl.length pk.2] H (cv c q) u ∧ (c.w = w ∧ c.b = 0 ∧ (c.gs.length : Int) ≤ mo ∧ checkM c = 0 ∧ plainM c) ∧ Gates (fun b => H.length ≤ b) u q c.gs ∧ Sto N u s (k + 3000) ∧ Kp (fun b => b = s) H u := by
  obtain ⟨gs, q, u, hr, ⟨h2, h3⟩, h4, h5, h6⟩ := scirc_ret N H s k w mo pk kl hs hk hw hmo hkl hne hkk h1
  refine ⟨⟨w, 0, gs⟩, q, u, hr, ⟨rfl, rfl, h2, checkM_of hw (by decide) (by omega) fun g hg => (h3 g hg).1, fun g hg => ⟨?_, (h3 g hg).2.2.2⟩⟩, h4, h5, h6⟩
  have := hkk _ (h3 g hg).2.1
  omega
theorem fr_ord {to f : List Int} {w : Int} (H : Ord to w) (hp : to.Perm ((List.range w.toNat).map fun i : Nat => (i : Int))) (hl : f.length = to.length) (hf : ∀ k, k < to.length → f.getD (to.getD k 0).toNat 0 = (k : Int)) : Ord f w ∧ ∀ x, 0 ≤ x → x < w → relF f (relF to x) = x := by
  have hlt := H.len
  have key : ∀ j, j < f.length → ∃ k, k < to.length ∧ to.getD k 0 = (j : Int) ∧ f.getD j 0 = (k : Int) := fun j hj => by
    have : (j : Int) ∈ to := hp.mem_iff.2 (List.mem_map.2 ⟨j, List.mem_range.2 (by omega), rfl⟩)
    obtain ⟨k, hk, e⟩ := List.mem_iff_getElem.1 this
    have e2 : to.getD k 0 = (j : Int) := by rw [List.getD_eq_getElem?_getD, List.getElem?_eq_getElem hk]; exact e
    refine ⟨k, hk, e2, ?_⟩
    have := hf k hk
    rw [e2] at this
    exact this
  have hget : ∀ j (hj : j < f.length), f.getD j 0 = f[j] := fun j hj => by rw [List.getD_eq_getElem?_getD, List.getElem?_eq_getElem hj]; rfl
  refine ⟨⟨by omega, fun x hx => ?_, ?_⟩, fun x h0 h1 => ?_⟩
  · obtain ⟨j, hj, rfl⟩ := List.mem_iff_getElem.1 hx
    obtain ⟨k, hk, _, e⟩ := key j hj
    rw [← hget j hj, e]
    omega
  · refine List.pairwise_iff_getElem.2 fun i j hi hj hij e => ?_
    obtain ⟨k, hk, e1, e2⟩ := key i hi
    obtain ⟨k', hk', e3, e4⟩ := key j hj
    rw [← hget i hi, ← hget j hj, e2, e4] at e
    have : k = k' := by omega
    subst this
    omega
  · have := hf x.toNat (by omega)
    unfold relF
    rw [this]
    omega
theorem ints_set {f : List Int} {o : Nat} {x : Int} (ho : o < f.length) : (f.map (Value.int .i64 ·)).take (0 + o * 1) ++ [Value.int .i64 x] ++ (f.map (Value.int .i64 ·)).drop (0 + o * 1 + 1) = (f.set o x).map (.int .i64 ·) := by
  rw [List.map_set, List.set_eq_take_append_cons_drop, if_pos (by simpa using ho)]
  simp
end Go.Canon
namespace Go.Canon
open Go Go.Proofs
set_option linter.unusedVariables false
set_option linter.unusedSimpArgs false
def kf208 : KFunc := ⟨3, 296, [.tmp 6], .seq (.reg [⟨some 6, .mv (.c (.bool false)), none⟩] []) (.seq (.reg [⟨some 43, .mv (.t 0), none⟩, ⟨some 44, .call (.c (.func (.func 10) #[] #[])) [.t 43], none⟩, ⟨some 7, .mv (.t 44), none⟩] []) (.seq (.reg [⟨some 45, .mv (.t 7), none⟩, ⟨some 46, .call (.c (.func (.func 20) #[] #[])) [.t 45, .c (.int .i64 1), .c (.int .i64 5)], none⟩, ⟨some 8, .mv (.t 46), none⟩] []) (.seq (.reg [⟨some 47, .mv (.t 7), none⟩, ⟨some 48, .mv (.t 8), none⟩, ⟨some 49, .ld (.c (.pointer (some ⟨0, 0, none⟩))) none, none⟩, ⟨some 50, .call (.c (.func (.func 21) #[] #[])) [.t 47, .t 48, .c (.int .i64 14), .t 49], none⟩, ⟨some 9, .new [.int .i64 0, .int .i64 0, .slice none 0 0], none⟩, ⟨none, .st (.t 9) (.t 50) 3, none⟩] []) (.seq (.reg [⟨some 51, .mv (.t 7), none⟩, ⟨some 52, .mv (.t 8), none⟩, ⟨some 53, .call (.c (.func (.func 42) #[] #[])) [.t 51, .t 52], none⟩, ⟨some 10, .mv (.t 53), none⟩] []) (.seq (.reg [⟨some 54, .mv (.t 8), none⟩, ⟨some 55, .mkSl (.t 54) (.t 54) [.int .i64 0] 8, none⟩, ⟨some 11, .mv (.t 55), none⟩] []) (.seq (.seq (.reg [⟨some 56, .mv (.t 10), none⟩, ⟨some 57, .len (.t 56), none⟩, ⟨some 58, .mv (.c (.int .i64 0)), none⟩] []) (.block 0 (.loop (.seq (.reg [⟨some 59, .bin .lss (.t 58) (.t 57), none⟩] []) (.seq (.cond (.t 59) .skip (.exit 0)) (.seq (.block 1 (.seq (.reg [⟨some 60, .mv (.t 58), none⟩, ⟨some 61, .iaS (.t 56) (.t 58) 1, none⟩, ⟨some 62, .ld (.t 61) none, none⟩, ⟨some 12, .mv (.t 60), none⟩, ⟨some 13, .mv (.t 62), none⟩] []) (.reg [⟨some 63, .mv (.t 11), none⟩, ⟨some 64, .mv (.t 13), none⟩, ⟨some 65, .mv (.t 12), none⟩, ⟨some 66, .iaS (.t 63) (.t 64) 1, none⟩, ⟨none, .st (.t 66) (.t 65) 1, none⟩] []))) (.reg [⟨some 67, .bin .add (.t 58) (.c (.int .i64 1)), none⟩, ⟨some 58, .mv (.t 67), none⟩] []))))))) (.seq (.reg [⟨some 69, .ld (.t 9) (some 3), none⟩, ⟨some 70, .mv (.t 10), none⟩, ⟨some 71, .call (.c (.func (.func 43) #[] #[])) [.t 69, .t 70], none⟩, ⟨some 68, .mv (.t 71), none⟩, ⟨some 72, .ext (.t 68) 0, none⟩, ⟨some 73, .ext (.t 68) 1, none⟩, ⟨some 14, .new [.int .i64 0, .int .i64 0, .slice none 0 0], none⟩, ⟨none, .st (.t 14) (.t 72) 3, none⟩, ⟨some 15, .mv (.t 73), none⟩] []) (.seq (.reg [⟨some 75, .ld (.t 14) (some 3), none⟩, ⟨some 76, .mv (.t 11), none⟩, ⟨some 77, .call (.c (.func (.func 43) #[] #[])) [.t 75, .t 76], none⟩, ⟨some 74, .mv (.t 77), none⟩, ⟨some 78, .ext (.t 74) 0, none⟩, ⟨some 79, .ext (.t 74) 1, none⟩, ⟨some 16, .new [.int .i64 0, .int .i64 0, .slice none 0 0], none⟩, ⟨none, .st (.t 16) (.t 78) 3, none⟩, ⟨some 17, .mv (.t 79), none⟩] []) (.seq (.reg [⟨some 81, .ld (.t 9) (some 3), none⟩, ⟨some 82, .call (.c (.func (.func 11) #[] #[])) [.t 81], none⟩, ⟨some 80, .mv (.t 82), none⟩, ⟨some 83, .ext (.t 80) 0, none⟩, ⟨some 84, .ext (.t 80) 1, none⟩, ⟨some 18, .mv (.t 83), none⟩, ⟨some 19, .mv (.t 84), none⟩] []) (.seq (.reg [⟨some 86, .ld (.t 14) (some 3), none⟩, ⟨some 87, .call (.c (.func (.func 11) #[] #[])) [.t 86], none⟩, ⟨some 85, .mv (.t 87), none⟩, ⟨some 88, .ext (.t 85) 0, none⟩, ⟨some 89, .ext (.t 85) 1, none⟩, ⟨some 20, .mv (.t 88), none⟩, ⟨some 21, .mv (.t 89), none⟩] []) (.seq (.reg [⟨some 91, .ld (.t 9) (some 3), none⟩, ⟨some 92, .call (.c (.func (.func 37) #[] #[])) [.t 91], none⟩, ⟨some 90, .mv (.t 92), none⟩, ⟨some 93, .ext (.t 90) 0, none⟩, ⟨some 94, .ext (.t 90) 1, none⟩, ⟨some 22, .new [.int .i64 0, .int .i64 0, .int .i64 0, .int .i64 0, .int .i64 0, .int .i64 0, .int .i64 0, .int .i64 0, .int .i64 0, .int .i64 0, .int .i64 0, .int .i64 0, .int .i64 0, .int .i64 0], none⟩, ⟨none, .st (.t 22) (.t 93) 14, none⟩, ⟨some 23, .mv (.t 94), none⟩] []) (.seq (.reg [⟨some 96, .ld (.t 14) (some 3), none⟩, ⟨some 97, .call (.c (.func (.func 37) #[] #[])) [.t 96], none⟩, ⟨some 95, .mv (.t 97), none⟩, ⟨some 98, .ext (.t 95) 0, none⟩, ⟨some 99, .ext (.t 95) 1, none⟩, ⟨some 24, .new [.int .i64 0, .int .i64 0, .int .i64 0, .int .i64 0, .int .i64 0, .int .i64 0, .int .i64 0, .int .i64 0, .int .i64 0, .int .i64 0, .int .i64 0, .int .i64 0, .int .i64 0, .int .i64 0], none⟩, ⟨none, .st (.t 24) (.t 98) 14, none⟩, ⟨some 25, .mv (.t 99), none⟩] []) (.seq (.seq (.reg [⟨some 100, .mv (.t 15), none⟩, ⟨some 101, .bin .neq (.t 100) (.c (.int .i64 0)), none⟩, ⟨some 102, .mv (.t 101), none⟩, ⟨some 103, .mv (.t 17), some (102, false)⟩, ⟨some 104, .bin .neq (.t 103) (.c (.int .i64 0)), some (102, false)⟩, ⟨some 105, .pick (.t 102) (.c (.bool true)) (.t 104), none⟩, ⟨some 106, .mv (.t 105), none⟩, ⟨some 107, .mv (.t 19), some (106, false)⟩, ⟨some 108, .bin .neq (.t 107) (.c (.int .i64 0)), some (106, false)⟩, ⟨some 109, .pick (.t 106) (.c (.bool true)) (.t 108), none⟩, ⟨some 110, .mv (.t 109), none⟩, ⟨some 111, .mv (.t 21), some (110, false)⟩, ⟨some 112, .bin .neq (.t 111) (.c (.int .i64 0)), some (110, false)⟩, ⟨some 113, .pick (.t 110) (.c (.bool true)) (.t 112), none⟩, ⟨some 114, .mv (.t 113), none⟩, ⟨some 115, .mv (.t 23), some (114, false)⟩, ⟨some 116, .bin .neq (.t 115) (.c (.int .i64 0)), some (114, false)⟩, ⟨some 117, .pick (.t 114) (.c (.bool true)) (.t 116), none⟩, ⟨some 118, .mv (.t 117), none⟩, ⟨some 119, .mv (.t 25), some (118, false)⟩, ⟨some 120, .bin .neq (.t 119) (.c (.int .i64 0)), some (118, false)⟩, ⟨some 121, .pick (.t 118) (.c (.bool true)) (.t 120), none⟩, ⟨some 122, .mv (.t 121), none⟩, ⟨some 123, .ld (.t 16) (some 3), some (122, false)⟩, ⟨some 124, .ld (.t 9) (some 3), some (122, false)⟩, ⟨some 125, .call (.c (.func (.func 24) #[] #[])) [.t 123, .t 124], some (122, false)⟩, ⟨some 126, .not (.t 125), some (122, false)⟩, ⟨some 127, .pick (.t 122) (.c (.bool true)) (.t 126), none⟩, ⟨some 128, .mv (.t 127), none⟩, ⟨some 129, .mv (.t 18), some (128, false)⟩, ⟨some 130, .mv (.t 20), some (128, false)⟩, ⟨some 131, .call (.c (.func (.func 40) #[] #[])) [.t 129, .t 130], some (128, false)⟩, ⟨some 132, .not (.t 131), some (128, false)⟩, ⟨some 133, .pick (.t 128) (.c (.bool true)) (.t 132), none⟩, ⟨some 134, .mv (.t 133), none⟩, ⟨some 135, .ld (.t 22) (some 14), some (134, false)⟩, ⟨some 136, .ld (.t 24) (some 14), some (134, false)⟩, ⟨some 137, .eqA true [1, 1, 1, 1, 1, 1, 1, 1, 1, 1, 1, 1, 1, 1] (.t 135) (.t 136), some (134, false)⟩, ⟨some 138, .pick (.t 134) (.c (.bool true)) (.t 137), none⟩] []) (.cond (.t 138) (.seq (.reg [⟨some 6, .mv (.c (.bool false)), none⟩] []) .ret) .skip)) (.seq (.reg [⟨some 140, .ld (.t 9) (some 3), none⟩, ⟨some 141, .call (.c (.func (.func 39) #[] #[])) [.t 140], none⟩, ⟨some 139, .mv (.t 141), none⟩, ⟨some 142, .ext (.t 139) 0, none⟩, ⟨some 143, .ext (.t 139) 1, none⟩, ⟨some 26, .mv (.t 142), none⟩, ⟨some 15, .mv (.t 143), none⟩] []) (.seq (.reg [⟨some 145, .ld (.t 14) (some 3), none⟩, ⟨some 146, .call (.c (.func (.func 39) #[] #[])) [.t 145], none⟩, ⟨some 144, .mv (.t 146), none⟩, ⟨some 147, .ext (.t 144) 0, none⟩, ⟨some 148, .ext (.t 144) 1, none⟩, ⟨some 27, .mv (.t 147), none⟩, ⟨some 17, .mv (.t 148), none⟩] []) (.seq (.seq (.reg [⟨some 149, .mv (.t 26), none⟩, ⟨some 150, .len (.t 149), none⟩, ⟨some 151, .mv (.c (.int .i64 0)), none⟩] []) (.block 2 (.loop (.seq (.reg [⟨some 152, .bin .lss (.t 151) (.t 150), none⟩] []) (.seq (.cond (.t 152) .skip (.exit 2)) (.seq (.block 3 (.seq (.reg [⟨some 153, .iaS (.t 149) (.t 151) 1, none⟩, ⟨some 154, .ld (.t 153) none, none⟩, ⟨some 29, .mv (.t 154), none⟩] []) (.seq (.reg [⟨some 155, .mv (.t 29), none⟩, ⟨some 156, .bin .lss (.t 155) (.c (.int .i64 0)), none⟩, ⟨some 157, .mv (.t 156), none⟩, ⟨some 158, .mv (.t 29), some (157, false)⟩, ⟨some 159, .mv (.t 8), some (157, false)⟩, ⟨some 160, .bin .geq (.t 158) (.t 159), some (157, false)⟩, ⟨some 161, .pick (.t 157) (.c (.bool true)) (.t 160), none⟩, ⟨some 162, .mv (.t 161), none⟩, ⟨some 163, .mv (.t 27), some (162, false)⟩, ⟨some 164, .mv (.t 10), some (162, false)⟩, ⟨some 165, .mv (.t 29), some (162, false)⟩, ⟨some 166, .iaS (.t 164) (.t 165) 1, some (162, false)⟩, ⟨some 167, .ld (.t 166) none, some (162, false)⟩, ⟨some 168, .call (.c (.func (.func 17) #[] #[])) [.t 163, .t 167], some (162, false)⟩, ⟨some 169, .not (.t 168), some (162, false)⟩, ⟨some 170, .pick (.t 162) (.c (.bool true)) (.t 169), none⟩] []) (.cond (.t 170) (.seq (.reg [⟨some 6, .mv (.c (.bool false)), none⟩] []) .ret) .skip)))) (.reg [⟨some 171, .bin .add (.t 151) (.c (.int .i64 1)), none⟩, ⟨some 151, .mv (.t 171), none⟩] []))))))) (.seq (.seq (.reg [⟨some 172, .mv (.t 15), none⟩, ⟨some 173, .bin .neq (.t 172) (.c (.int .i64 0)), none⟩, ⟨some 174, .mv (.t 173), none⟩, ⟨some 175, .mv (.t 17), some (174, false)⟩, ⟨some 176, .bin .neq (.t 175) (.c (.int .i64 0)), some (174, false)⟩, ⟨some 177, .pick (.t 174) (.c (.bool true)) (.t 176), none⟩, ⟨some 178, .mv (.t 177), none⟩, ⟨some 179, .mv (.t 26), some (178, false)⟩, ⟨some 180, .len (.t 179), some (178, false)⟩, ⟨some 181, .mv (.t 27), some (178, false)⟩, ⟨some 182, .len (.t 181), some (178, false)⟩, ⟨some 183, .bin .neq (.t 180) (.t 182), some (178, false)⟩, ⟨some 184, .pick (.t 178) (.c (.bool true)) (.t 183), none⟩, ⟨some 185, .mv (.t 184), none⟩, ⟨some 186, .mv (.t 26), some (185, false)⟩, ⟨some 187, .call (.c (.func (.func 44) #[] #[])) [.t 186], some (185, false)⟩, ⟨some 188, .not (.t 187), some (185, false)⟩, ⟨some 189, .pick (.t 185) (.c (.bool true)) (.t 188), none⟩, ⟨some 190, .mv (.t 189), none⟩, ⟨some 191, .mv (.t 27), some (190, false)⟩, ⟨some 192, .call (.c (.func (.func 44) #[] #[])) [.t 191], some (190, false)⟩, ⟨some 193, .not (.t 192), some (190, false)⟩, ⟨some 194, .pick (.t 190) (.c (.bool true)) (.t 193), none⟩] []) (.cond (.t 194) (.seq (.reg [⟨some 6, .mv (.c (.bool false)), none⟩] []) .ret) .skip)) (.seq (.reg [⟨some 196, .ld (.t 9) (some 3), none⟩, ⟨some 197, .call (.c (.func (.func 22) #[] #[])) [.t 196], none⟩, ⟨some 195, .mv (.t 197), none⟩, ⟨some 198, .ext (.t 195) 0, none⟩, ⟨some 199, .ext (.t 195) 1, none⟩, ⟨some 30, .new [.int .i64 0, .int .i64 0, .slice none 0 0], none⟩, ⟨none, .st (.t 30) (.t 198) 3, none⟩, ⟨some 15, .mv (.t 199), none⟩] []) (.seq (.reg [⟨some 201, .ld (.t 14) (some 3), none⟩, ⟨some 202, .call (.c (.func (.func 22) #[] #[])) [.t 201], none⟩, ⟨some 200, .mv (.t 202), none⟩, ⟨some 203, .ext (.t 200) 0, none⟩, ⟨some 204, .ext (.t 200) 1, none⟩, ⟨some 31, .new [.int .i64 0, .int .i64 0, .slice none 0 0], none⟩, ⟨none, .st (.t 31) (.t 203) 3, none⟩, ⟨some 17, .mv (.t 204), none⟩] []) (.seq (.reg [⟨some 206, .ld (.t 30) (some 3), none⟩, ⟨some 207, .mv (.t 10), none⟩, ⟨some 208, .call (.c (.func (.func 43) #[] #[])) [.t 206, .t 207], none⟩, ⟨some 205, .mv (.t 208), none⟩, ⟨some 209, .ext (.t 205) 0, none⟩, ⟨some 210, .ext (.t 205) 1, none⟩, ⟨some 32, .new [.int .i64 0, .int .i64 0, .slice none 0 0], none⟩, ⟨none, .st (.t 32) (.t 209) 3, none⟩, ⟨some 19, .mv (.t 210), none⟩] []) (.seq (.seq (.reg [⟨some 211, .mv (.t 15), none⟩, ⟨some 212, .bin .neq (.t 211) (.c (.int .i64 0)), none⟩, ⟨some 213, .mv (.t 212), none⟩, ⟨some 214, .mv (.t 17), some (213, false)⟩, ⟨some 215, .bin .neq (.t 214) (.c (.int .i64 0)), some (213, false)⟩, ⟨some 216, .pick (.t 213) (.c (.bool true)) (.t 215), none⟩, ⟨some 217, .mv (.t 216), none⟩, ⟨some 218, .mv (.t 19), some (217, false)⟩, ⟨some 219, .bin .neq (.t 218) (.c (.int .i64 0)), some (217, false)⟩, ⟨some 220, .pick (.t 217) (.c (.bool true)) (.t 219), none⟩, ⟨some 221, .mv (.t 220), none⟩, ⟨some 222, .ld (.t 31) (some 3), some (221, false)⟩, ⟨some 223, .ld (.t 32) (some 3), some (221, false)⟩, ⟨some 224, .call (.c (.func (.func 24) #[] #[])) [.t 222, .t 223], some (221, false)⟩, ⟨some 225, .not (.t 224), some (221, false)⟩, ⟨some 226, .pick (.t 221) (.c (.bool true)) (.t 225), none⟩] []) (.cond (.t 226) (.seq (.reg [⟨some 6, .mv (.c (.bool false)), none⟩] []) .ret) .skip)) (.seq (.seq (.reg [⟨some 227, .fa (.t 9) 2, none⟩, ⟨some 228, .ld (.t 227) none, none⟩, ⟨some 229, .len (.t 228), none⟩, ⟨some 230, .bin .gtr (.t 229) (.c (.int .i64 0)), none⟩] []) (.cond (.t 230) (.seq (.reg [⟨some 231, .mv (.t 1), none⟩, ⟨some 232, .cv .i64 (.t 231), none⟩, ⟨some 233, .fa (.t 9) 2, none⟩, ⟨some 234, .ld (.t 233) none, none⟩, ⟨some 235, .len (.t 234), none⟩, ⟨some 236, .bin .rem (.t 232) (.t 235), none⟩, ⟨some 237, .mv (.t 2), none⟩, ⟨some 238, .cv .i64 (.t 237), none⟩, ⟨some 239, .fa (.t 9) 2, none⟩, ⟨some 240, .ld (.t 239) none, none⟩, ⟨some 241, .len (.t 240), none⟩, ⟨some 242, .bin .rem (.t 238) (.t 241), none⟩, ⟨some 33, .mv (.t 236), none⟩, ⟨some 34, .mv (.t 242), none⟩] []) (.seq (.reg [⟨some 244, .ld (.t 9) (some 3), none⟩, ⟨some 245, .mv (.t 33), none⟩, ⟨some 246, .mv (.t 34), none⟩, ⟨some 247, .call (.c (.func (.func 28) #[] #[])) [.t 244, .t 245, .t 246], none⟩, ⟨some 243, .mv (.t 247), none⟩, ⟨some 248, .ext (.t 243) 0, none⟩, ⟨some 249, .ext (.t 243) 1, none⟩, ⟨some 35, .mv (.t 248), none⟩, ⟨some 36, .mv (.t 249), none⟩] []) (.seq (.reg [⟨some 251, .ld (.t 14) (some 3), none⟩, ⟨some 252, .mv (.t 33), none⟩, ⟨some 253, .mv (.t 34), none⟩, ⟨some 254, .call (.c (.func (.func 28) #[] #[])) [.t 251, .t 252, .t 253], none⟩, ⟨some 250, .mv (.t 254), none⟩, ⟨some 255, .ext (.t 250) 0, none⟩, ⟨some 256, .ext (.t 250) 1, none⟩, ⟨some 37, .mv (.t 255), none⟩, ⟨some 38, .mv (.t 256), none⟩] []) (.seq (.reg [⟨some 258, .ld (.t 9) (some 3), none⟩, ⟨some 259, .mv (.t 33), none⟩, ⟨some 260, .mv (.t 34), none⟩, ⟨some 261, .call (.c (.func (.func 45) #[] #[])) [.t 258, .t 259, .t 260], none⟩, ⟨some 257, .mv (.t 261), none⟩, ⟨some 262, .ext (.t 257) 0, none⟩, ⟨some 263, .ext (.t 257) 1, none⟩, ⟨some 39, .mv (.t 262), none⟩, ⟨some 40, .mv (.t 263), none⟩] []) (.seq (.reg [⟨some 265, .ld (.t 14) (some 3), none⟩, ⟨some 266, .mv (.t 34), none⟩, ⟨some 267, .mv (.t 33), none⟩, ⟨some 268, .call (.c (.func (.func 45) #[] #[])) [.t 265, .t 266, .t 267], none⟩, ⟨some 264, .mv (.t 268), none⟩, ⟨some 269, .ext (.t 264) 0, none⟩, ⟨some 270, .ext (.t 264) 1, none⟩, ⟨some 41, .mv (.t 269), none⟩, ⟨some 42, .mv (.t 270), none⟩] []) (.seq (.reg [⟨some 271, .mv (.t 36), none⟩, ⟨some 272, .bin .neq (.t 271) (.c (.int .i64 0)), none⟩, ⟨some 273, .mv (.t 272), none⟩, ⟨some 274, .mv (.t 38), some (273, false)⟩, ⟨some 275, .bin .neq (.t 274) (.c (.int .i64 0)), some (273, false)⟩, ⟨some 276, .pick (.t 273) (.c (.bool true)) (.t 275), none⟩, ⟨some 277, .mv (.t 276), none⟩, ⟨some 278, .mv (.t 40), some (277, false)⟩, ⟨some 279, .bin .neq (.t 278) (.c (.int .i64 0)), some (277, false)⟩, ⟨some 280, .pick (.t 277) (.c (.bool true)) (.t 279), none⟩, ⟨some 281, .mv (.t 280), none⟩, ⟨some 282, .mv (.t 42), some (281, false)⟩, ⟨some 283, .bin .neq (.t 282) (.c (.int .i64 0)), some (281, false)⟩, ⟨some 284, .pick (.t 281) (.c (.bool true)) (.t 283), none⟩, ⟨some 285, .mv (.t 284), none⟩, ⟨some 286, .mv (.t 35), some (285, false)⟩, ⟨some 287, .mv (.t 37), some (285, false)⟩, ⟨some 288, .eqB true (.t 286) (.t 287), some (285, false)⟩, ⟨some 289, .pick (.t 285) (.c (.bool true)) (.t 288), none⟩, ⟨some 290, .mv (.t 289), none⟩, ⟨some 291, .mv (.t 39), some (290, false)⟩, ⟨some 292, .mv (.t 41), some (290, false)⟩, ⟨some 293, .eqB true (.t 291) (.t 292), some (290, false)⟩, ⟨some 294, .pick (.t 290) (.c (.bool true)) (.t 293), none⟩] []) (.cond (.t 294) (.seq (.reg [⟨some 6, .mv (.c (.bool false)), none⟩] []) .ret) .skip))))))) .skip)) (.seq (.reg [⟨some 295, .call (.c (.func (.func 19) #[] #[])) [], none⟩, ⟨some 6, .mv (.t 295), none⟩] []) .ret)))))))))))))))))))))))⟩
theorem k208 : tab Tryd.prog 8 = some kf208 := by kernel_rfl
theorem twoE_in2 {c : C} {i j : Int} (hc : checkM c = 0) (h : 0 ≤ i ∧ 0 ≤ j ∧ i < c.gs.length ∧ j < c.gs.length) : twoE c i j = 0 := by
  unfold twoE
  (repeat' split) <;> omega
theorem rel_two {c : C} {to : List Int} {p q : Nat} (hc : checkM c = 0) (H : Ord to c.w) (hd : checkM ⟨c.w, c.b, c.gs.map (relG to)⟩ = 0) (hp : p < c.gs.length) (hq : q < c.gs.length) :
    (twoE c p q = 0 ∧ twoE ⟨c.w, c.b, c.gs.map (relG to)⟩ p q = 0 ∧ twoE ⟨c.w, c.b, c.gs.map (relG to)⟩ q p = 0) ∧
    (decide (commM (twoG ⟨c.w, c.b, c.gs.map (relG to)⟩ p q p) (twoG ⟨c.w, c.b, c.gs.map (relG to)⟩ p q q)) = decide (commM (twoG c p q p) (twoG c p q q))) ∧
    (decide (undoM (twoG ⟨c.w, c.b, c.gs.map (relG to)⟩ q p q) (twoG ⟨c.w, c.b, c.gs.map (relG to)⟩ q p p)) = decide (undoM (twoG c p q p) (twoG c p q q))) := by
  have hr := CR.of hc
  have hi := inj_of H.len H.nd
  have hlen : (⟨c.w, c.b, c.gs.map (relG to)⟩ : C).gs.length = c.gs.length := by simp
  have t1 : twoE c p q = 0 := twoE_in2 hc (by omega)
  have t2 : twoE ⟨c.w, c.b, c.gs.map (relG to)⟩ p q = 0 := twoE_in2 hd (by omega)
  have t3 : twoE ⟨c.w, c.b, c.gs.map (relG to)⟩ q p = 0 := twoE_in2 hd (by omega)
  have hg : ∀ i, i < c.gs.length → (c.gs.map (relG to)).getD i default = relG to (c.gs.getD i default) := fun i hi => by
    rw [getG_at hi, getG_at (by simpa using hi)]; simp
  have hR : ∀ i, i < c.gs.length → Rng c.w (c.gs.getD i default) ∧ GR (c.gs.getD i default) := fun i hi => by
    rw [getG_at hi]; exact ⟨cg_Rng (hr.cg _ (List.getElem_mem _)), hr.gr (List.getElem_mem _)⟩
  refine ⟨⟨t1, t2, t3⟩, ?_, ?_⟩
  · simp only [twoG, if_pos t1, if_pos t2, Int.toNat_natCast, hg p hp, hg q hq]
    exact decide_eq_decide.2 (rel_comm hi (hR p hp).1 (hR q hq).1 (hR p hp).2 (hR q hq).2)
  · simp only [twoG, if_pos t1, if_pos t3, Int.toNat_natCast, hg p hp, hg q hq]
    exact decide_eq_decide.2 ((rel_undo hi (hR q hq).1 (hR p hp).1 (hR q hq).2 (hR p hp).2).trans (undo_symm (hR q hq).2 (hR p hp).2))
set_option maxRecDepth 100000 in
theorem relabelled_run (H : Heap) (pb pk : Pl) (bs kl : List Int) (one two : Int) (hone : 0 ≤ one ∧ one ≤ 255) (htwo : 0 ≤ two ∧ two ≤ 255) (hB : Byts allB H pb bs) (hl : bs.length < 9223372036854775808) (hg : rowGet H ⟨0, 0, none⟩ 1 = some [.slice pk.1 kl.length pk.2]) (h0 : 0 < H.length) (hkl : Ints allB H pk kl) (hk : kl = [1, 2, 3, 4, 5, 6, 7, 8, 9, 10, 11, 12]) : ∃ v h', Ret (tab Tryd.prog) 8 [.slice pb.1 bs.length pb.2, .int .u8 one, .int .u8 two] H v h' ∧ v = .bool true := by
  have hne : 0 < kl.length ∧ kl.length < 100 := by rw [hk]; decide
  have hkk : ∀ x ∈ kl, 1 ≤ x ∧ x ≤ 12 := by rw [hk]; decide
  have h1 : arityM (kl[0]'hne.1) = 1 := by subst hk; rfl
  have key : ACall (tab Tryd.prog) 8 [.slice pb.1 bs.length pb.2, .int .u8 one, .int .u8 two] H fun u _ => u = .bool true := by
    refine ACall_ownR k208 rfl ?_
    refine AX_seq (AX_E (E_mv (v := .bool _) rfl (E_nil (AX_seq (AX_E (E_mv (v := .slice _ _ _) rfl ?_))))))
    obtain ⟨s, X20, hr20, hsH, so20⟩ := sof_ret H pb bs hB hl
    obtain ⟨KA, hKA⟩ : ∃ K : Heap, K = H ++ X20 := ⟨_, rfl⟩
    rw [← hKA] at hr20 so20
    obtain ⟨N, hN⟩ : ∃ n : Nat, n = KA.length := ⟨_, rfl⟩
    rw [← hN] at so20
    have soKA := so20
    have kqKA : Kp (fun b => b = s) H KA := by rw [hKA]; exact Kp.app
    have lKA : H.length ≤ KA.length := kqKA.len
    have hsN := so20.1
    have klA : Ints (fun b => b < N ∧ b ≠ s) KA pk kl := Cells.congr (ints_lt hkl) (fun b hb => by have := hb.2; omega) (fun b hb hl => kqKA.keep b hl (by have := hb.2; omega))
    have gA : rowGet KA ⟨0, 0, none⟩ 1 = some [.slice pk.1 kl.length pk.2] := (rowGet_ne (kqKA.keep 0 h0 (by omega))).trans hg
    refine E_callU rfl hr20 rfl (E_mv (v := .pointer (some ⟨s, 0, none⟩)) rfl (E_nil (AX_seq (AX_E (E_mv (v := .pointer (some ⟨s, 0, none⟩)) rfl ?_)))))
    obtain ⟨r46, U46, hr46, hb46, soU46, kpU46, luU46⟩ := from_ret N KA s 0 1 5 soKA (by omega) (by decide) (by decide) (by decide)
    have kqU46 : Kp (fun b => b = s) H U46 := kqKA.trans kpU46 (fun _ _ x => x) (fun _ _ x => x)
    have leU46 : KA.length ≤ U46.length := kpU46.len
    have lhU46 : H.length ≤ U46.length := kqU46.len
    refine E_callU rfl hr46 rfl (E_mv (v := .int .i64 ((r46 : Int))) rfl (E_nil (AX_seq (AX_E (E_mv (v := .pointer (some ⟨s, 0, none⟩)) rfl (E_mv (v := .int .i64 ((r46 : Int))) rfl (E_ldB (v := .slice _ _ _) rfl ((rowGet_ne (kpU46.keep 0 (by omega) (by omega))).trans gA) ?_)))))))
    obtain ⟨c, q50, U50, hr50, hb50, ga50, soU50, kpU50⟩ := scircC_ret N U46 s _ r46 14 pk kl soU46 (by omega) (by omega) (by decide) (kpU46.ii klA (fun b hb => ⟨trivial, hb.2⟩)) hne hkk h1
    have kqU50 : Kp (fun b => b = s) H U50 := kqU46.trans kpU50 (fun _ _ x => x) (fun _ _ x => x)
    have leU50 : U46.length ≤ U50.length := kpU50.len
    have lhU50 : H.length ≤ U50.length := kqU50.len
    have fk1 : Ints (fun b => (b < N ∧ b ≠ s)) U50 (pk) (kl) := kpU50.ii (kpU46.ii klA (fun b hb => ⟨trivial, hb.2⟩)) (fun b hb => ⟨trivial, fun e => by have h : (b < N ∧ b ≠ s) := hb; have e1 : (b = s) := e; omega⟩)
    refine E_callU rfl hr50 rfl (E_new ?_)
    obtain ⟨K2, hK2⟩ : ∃ K : Heap, K = U50 ++ ([CO.row [.int .i64 (0), .int .i64 (0), .slice none 0 0] true none] ++ []) := ⟨_, rfl⟩
    have lK2 : U50.length + 1 ≤ K2.length := by rw [hK2]; simp only [List.length_append, List.length_cons, List.length_nil]; omega
    have pK2 : U50 <+: K2 := by rw [hK2]; exact List.prefix_append _ _
    have soK2 : Sto N K2 s (((0 + 1) + 3000)) := soU50.kp (S := fun _ => False) (by rw [hK2]; exact Kp.app) (fun b _ h => h)
    have kqK2 : Kp (fun b => b = s) H K2 := kqU50.trans (S' := fun _ => False) (by rw [hK2]; exact Kp.app) (fun _ _ x => x) (fun _ _ x => x.elim)
    refine E_hp (h' := K2 ++ []) (((List.append_nil _).symm.trans (congrArg (fun x : Heap => (U50 ++ x) ++ []) (List.append_nil _).symm)).trans (congrArg (fun x : Heap => x ++ []) hK2.symm)) (E_stX (l := [.int .i64 (c.w), .int .i64 (c.b), .slice (q50).1 (c.gs).length (q50).2]) (v := .agg _) rfl rfl rfl rfl ((congrArg (fun h : Heap => h[(U50).length + 0]?) (List.append_nil _)).trans ((get_own hK2 (k := 0) rfl))) (by simp) rfl rfl fun V3 hV3 => ?_)
    have eV3 : V3 = K2.set ((U50).length + 0) (CO.row [.int .i64 (c.w), .int .i64 (c.b), .slice (q50).1 (c.gs).length (q50).2] true none) := by rw [hV3, List.append_nil]; rfl
    have kpV3 : Kp (fun b => b = (U50).length + 0) K2 V3 := by rw [eV3]; exact Kp.set
    have kqV3 : Kp (fun b => b = s) H V3 := kqK2.trans kpV3 (fun _ _ x => x) (fun b hb x => by omega)
    have soV3 : Sto N V3 s (((0 + 1) + 3000)) := soK2.kp kpV3 (fun b hb x => by omega)
    have leV3 : V3.length = K2.length := by rw [eV3]; exact List.length_set
    have ltV3 : (U50).length + 0 < K2.length := (List.getElem?_eq_some_iff.1 ((get_own hK2 (k := 0) rfl))).1
    have fk4 : Ints (fun b => (b < N ∧ b ≠ s)) V3 (pk) (kl) := kpV3.ii (fk1.lift hK2) (fun b hb => ⟨trivial, fun e => by have h : (b < N ∧ b ≠ s) := hb; have e1 : (b = (U50).length + 0) := e; omega⟩)
    have fk5 : Gates (fun b => (U46.length ≤ b ∧ b < U50.length)) V3 (q50) (c.gs) := kpV3.ga ((gates_lt2 ga50).lift hK2) (fun b hb => ⟨trivial, fun e => by have h : (U46.length ≤ b ∧ b < U50.length) := hb; have e1 : (b = (U50).length + 0) := e; omega⟩)
    have rw6 : V3[(U50).length + 0]? = some (CO.row [.int .i64 (c.w), .int .i64 (c.b), .slice (q50).1 (c.gs).length (q50).2] true none) := by rw [eV3, List.getElem?_set_self ltV3]
    refine E_nil (AX_seq (AX_E (E_mv (v := .pointer (some ⟨s, 0, none⟩)) rfl (E_mv (v := .int .i64 ((r46 : Int))) rfl ?_))))
    obtain ⟨l53, p53, U53, hr53, hb53, ow53, soU53, kpU53⟩ := sorder_retP N V3 s _ r46 soV3 (by omega) (by omega) (by omega)
    have kqU53 : Kp (fun b => b = s) H U53 := kqV3.trans kpU53 (fun _ _ x => x) (fun _ _ x => x)
    have leU53 : V3.length ≤ U53.length := kpU53.len
    have lhU53 : H.length ≤ U53.length := kqU53.len
    have fk7 : Ints (fun b => (b < N ∧ b ≠ s)) U53 (pk) (kl) := kpU53.ii fk4 (fun b hb => ⟨trivial, fun e => by have h : (b < N ∧ b ≠ s) := hb; have e1 : (b = s) := e; omega⟩)
    have fk8 : Gates (fun b => (U46.length ≤ b ∧ b < U50.length)) U53 (q50) (c.gs) := kpU53.ga fk5 (fun b hb => ⟨trivial, fun e => by have h : (U46.length ≤ b ∧ b < U50.length) := hb; have e1 : (b = s) := e; omega⟩)
    have rw9 : U53[(U50).length + 0]? = some (CO.row [.int .i64 (c.w), .int .i64 (c.b), .slice (q50).1 (c.gs).length (q50).2] true none) := kpU53.row rw6 (by show ¬ ((U50).length + 0 = s); omega)
    refine E_callU rfl hr53 rfl (E_mv (v := .slice _ _ _) rfl (E_nil (AX_seq (AX_E (E_mv (v := .int .i64 ((r46 : Int))) rfl (E_mkSlI (n := r46) rfl rfl (by first | omega | (simp; done) | (simp; omega)) (E_mv (v := .slice _ _ _) rfl (E_nil (AX_seq (AX_seq (AX_E (E_mv (v := .slice _ _ _) rfl (E_len (n := (l53).length) rfl ?_)))))))))))))
    obtain ⟨K10, hK10⟩ : ∃ K : Heap, K = U53 ++ ([CO.row ((List.replicate (r46) (0 : Int)).map (.int .i64 ·)) true none] ++ []) := ⟨_, rfl⟩
    have lK10 : U53.length + 1 ≤ K10.length := by rw [hK10]; simp only [List.length_append, List.length_cons, List.length_nil]; omega
    have pK10 : U53 <+: K10 := by rw [hK10]; exact List.prefix_append _ _
    obtain ⟨KB, hKB⟩ : ∃ K' : Heap, K' = K10 := ⟨_, rfl⟩
    have kpB : Kp (fun b => b < 0) K10 KB := by rw [hKB]; exact ⟨Nat.le_refl _, fun _ _ _ => rfl⟩
    have rB : KB[(U53).length + 0]? = some (CO.row ((List.replicate r46 (0 : Int)).map (.int .i64 ·)) true none) := by rw [hKB]; exact get_own hK10 (k := 0) rfl
    obtain ⟨hcw, hcb, hcl, hc, hp⟩ := hb50
    obtain ⟨hl53, hm53, hn53, hp53⟩ := hb53
    have oT : Ord l53 c.w := ⟨by omega, fun x hx => by have := hm53 x hx; omega, hn53⟩
    have fk11 : Ints (fun b => (b < N ∧ b ≠ s)) KB (pk) (kl) := kpB.ii (fk7.lift hK10) (fun b hb => ⟨trivial, fun e => by have h : (b < N ∧ b ≠ s) := hb; have e1 : (b < 0) := e; omega⟩)
    have fk12 : Gates (fun b => (U46.length ≤ b ∧ b < U50.length)) KB (q50) (c.gs) := kpB.ga (fk8.lift hK10) (fun b hb => ⟨trivial, fun e => by have h : (U46.length ≤ b ∧ b < U50.length) := hb; have e1 : (b < 0) := e; omega⟩)
    have rw13 : KB[(U50).length + 0]? = some (CO.row [.int .i64 (c.w), .int .i64 (c.b), .slice (q50).1 (c.gs).length (q50).2] true none) := kpB.row (getq hK10 rw9) (by show ¬ ((U50).length + 0 < 0); omega)
    have fk14 : Ints (fun b => (V3.length ≤ b ∧ b < U53.length)) KB (p53) (l53) := kpB.ii ((ints_lt ow53.ints).lift hK10) (fun b hb => ⟨trivial, fun e => by have h : (V3.length ≤ b ∧ b < U53.length) := hb; have e1 : (b < 0) := e; omega⟩)
    have rC := rw13
    have gC := fk12
    have fT := fk14
    refine E_hp (h' := K10 ++ []) (((List.append_nil _).symm.trans (congrArg (fun x : Heap => (U53 ++ x) ++ []) (List.append_nil _).symm)).trans (congrArg (fun x : Heap => x ++ []) hK10.symm)) (E_hp (h' := KB ++ []) (congrArg (· ++ []) hKB.symm) (E_mv (v := .int .i64 (0)) rfl (E_nil (AX_block ?_))))
    refine AX_loopF (γ := Nat × List Int) (fun x => [(1, .int .u8 one), (2, .int .u8 two), (8, .int .i64 ((r46 : Int))), (9, .pointer (some ⟨(U50).length + 0, 0, none⟩)), (10, .slice (p53).1 (l53).length (p53).2), (11, .slice (some ⟨(U53).length + 0, 0, none⟩) r46 r46), (56, .slice (p53).1 (l53).length (p53).2), (57, .int .i64 ((l53).length)), (58, .int .i64 ((x.1 : Int)))]) (fun x h_ m_ => (m_ = [] ∧ Kp (fun b => b = (U53).length + 0) KB h_ ∧ h_[(U53).length + 0]? = some (CO.row ((x.2).map (.int .i64 ·)) true none)) ∧ (x.2).length = r46 ∧ x.1 ≤ r46 ∧ ∀ k, k < x.1 → (x.2).getD (l53.getD k 0).toNat 0 = (k : Int)) (fun x => r46 - x.1) (0, List.replicate r46 (0 : Int)) ⟨rfl, rfl, rfl, rfl, rfl, rfl, rfl, rfl, rfl, trivial⟩ ⟨?_, ?_⟩ ?_
    · rw [List.append_nil]
      exact ⟨rfl, ⟨Nat.le_refl _, fun _ _ _ => rfl⟩, rB⟩
    · exact ⟨by simp, by omega, fun k h => by omega⟩
    rintro ⟨i, f⟩ fr0 KH0 mk0 ⟨hI0, inv0⟩ K0 hN0 hR0 hE0
    try dsimp only at hI0 inv0
    obtain ⟨rfl, kp0, rF0⟩ := hI0
    obtain ⟨hf0, hi0, hd0⟩ := inv0
    have rC0 := kp0.row rC (by show ¬ (U50).length + 0 = (U53).length + 0; omega)
    have fT0 := kp0.ii fT (fun b hb => ⟨trivial, fun e => by have h : (V3.length ≤ b ∧ b < U53.length) := hb; have e1 : b = (U53).length + 0 := e; omega⟩)
    have gC0 := kp0.ga gC (fun b hb => ⟨trivial, fun e => by have h : (U46.length ≤ b ∧ b < U50.length) := hb; have e1 : b = (U53).length + 0 := e; omega⟩)
    refine AX_nil ?_
    refine AX_seq (AX_E (E_lssS rfl rfl (fun c59 => ?_) (fun c59 => ?_)))
    · refine E_nil (AX_seq (AX_condT rfl (AX_skip (AX_seq (AX_block (AX_seq (AX_E (E_mv (v := .int .i64 ((i : Int))) rfl (have ix15 : i < (l53).length := (by first | omega | (simp; done) | (simp; omega)); E_iaIb (j := i) rfl fT0 rfl rfl rfl ix15 fun b15 o15 w15 => (E_ldB (v := .int .i64 (l53[i]'ix15)) rfl w15 (E_mv (v := .int .i64 ((i : Int))) rfl (E_mv (v := .int .i64 (l53[i]'ix15)) rfl (E_nil (AX_E (E_mv (v := .slice _ _ _) rfl (E_mv (v := .int .i64 (l53[i]'ix15)) rfl (E_mv (v := .int .i64 ((i : Int))) rfl ?_)))))))))))))))))
      have hix : i < l53.length := by omega
      have hrg := hm53 _ (List.getElem_mem hix)
      refine E_iaS rfl rfl (by omega) (by omega) (E_stX (b := (U53).length + 0) (o := 0 + (l53[i]'ix15).toNat * 1) (l := [.int .i64 (i : Int)]) (v := .int _ _) rfl rfl rfl rfl ((congrArg (fun h : Heap => h[(U53).length + 0]?) (List.append_nil _)).trans rF0) (by simp; omega) rfl rfl fun V eV => ?_)
      obtain ⟨f2, hf2⟩ : ∃ g : List Int, g = f.set (l53[i]'ix15).toNat (i : Int) := ⟨_, rfl⟩
      have hxf : (l53[i]'ix15).toNat < f.length := by omega
      have eV2 : V = KH0.set ((U53).length + 0) (CO.row ((f2).map (.int .i64 ·)) true none) := by rw [eV, List.append_nil, hf2, ← ints_set hxf]; rfl
      have kpV : Kp (fun b => b = (U53).length + 0) KB V := kp0.trans (by rw [eV2]; exact Kp.set) (fun _ _ x => x) (fun _ _ x => x)
      have rV : V[(U53).length + 0]? = some (CO.row ((f2).map (.int .i64 ·)) true none) := by rw [eV2, List.getElem?_set_self (List.getElem?_eq_some_iff.1 rF0).1]
      have rCV := kpV.row rC (by show ¬ (U50).length + 0 = (U53).length + 0; omega)
      have fTV := kpV.ii fT (fun b hb => ⟨trivial, fun e => by have h : (V3.length ≤ b ∧ b < U53.length) := hb; have e1 : b = (U53).length + 0 := e; omega⟩)
      have gCV := kpV.ga gC (fun b hb => ⟨trivial, fun e => by have h : (U46.length ≤ b ∧ b < U50.length) := hb; have e1 : b = (U53).length + 0 := e; omega⟩)
      refine E_nil (AX_E (E_addI rfl rfl (by first | omega | (simp; done) | (simp; omega)) (by first | omega | (simp; done) | (simp; omega)) (E_mv (v := .int .i64 (((i : Int) + 1))) rfl (E_nil ?_))))
      refine hN0 (i + 1, f2) _ _ _ ⟨by first | rfl | (congr 1; omega), by first | rfl | (congr 1; omega), by first | rfl | (congr 1; omega), by first | rfl | (congr 1; omega), by first | rfl | (congr 1; omega), by first | rfl | (congr 1; omega), by first | rfl | (congr 1; omega), by first | rfl | (congr 1; omega), by rfl, trivial⟩ ⟨?_, ?_⟩ ?_
      -- n1
      all_goals clear hN0 hR0 hE0
      · rw [List.append_nil]
        exact ⟨rfl, kpV, rV⟩
      · refine ⟨by rw [hf2]; simp; omega, by omega, fun k hk => ?_⟩
        rw [hf2]
        by_cases e : k = i
        · subst e; rw [getI hix]; simp [List.getD_eq_getElem?_getD, hxf]
        · have h9 := hd0 k (by omega)
          have hne9 : (l53.getD k 0).toNat ≠ (l53[i]'hix).toNat := fun e2 => by
            have hk9 : k < l53.length := by omega
            have q1 := hm53 _ (List.getElem_mem hk9); have q2 := hm53 _ (List.getElem_mem hix)
            rw [getI hk9] at e2
            exact List.pairwise_iff_getElem.1 hn53 k i hk9 hix (by omega) (by omega)
          simp only [List.getD_eq_getElem?_getD] at h9 hne9 ⊢
          rw [List.getElem?_set_ne (fun x => hne9 x.symm)]
          exact h9
      · (first | omega | (simp; omega))
    · refine E_nil (AX_seq (AX_condF rfl (AX_exit (hE0 _ _ _ _ ?_))))
      have ei : i = r46 := by omega
      obtain ⟨oF, hbk⟩ := fr_ord (f := f) oT (by rw [hcw]; exact hp53) (by omega) (fun k hk => hd0 k (by omega))
      obtain ⟨cd, ecd⟩ : ∃ x : C, x = ⟨c.w, c.b, c.gs.map (relG l53)⟩ := ⟨_, rfl⟩
      obtain ⟨hd, ⟨r1, r2⟩, ⟨r3, r4⟩, hlay, hcnt, ⟨hul, hum, hus1, hus2⟩, hpd⟩ := rel_facts hc hp oT oF hbk (by rw [hcw]; exact hp53)
      obtain ⟨_, i2, i3⟩ := inv_circ hc hp
      obtain ⟨i1, _, _⟩ := inv_circ hc hp
      obtain ⟨j1, j2, _⟩ := inv_circ hd hpd
      obtain ⟨z1, z2⟩ := inv_rel hc hp oT hd hpd
      rw [← ecd] at hd r2 r3 r4 hlay hcnt hul hum hus2 hpd j1 j2 z2
      have hr := CR.of hc
      have lnd : cd.gs.length = c.gs.length := by rw [ecd]; simp
      have lgc : c.gs.length ≤ 14 := by omega
      have lwc : ∀ g ∈ c.gs, g.ws.length < 4611686018427387904 := fun g hg => by have := (hr.gr hg).len; omega
      have lwd : ∀ g ∈ cd.gs, g.ws.length < 4611686018427387904 := fun g hg => by have := ((CR.of hd).gr hg).len; omega
      have lc : lens c.gs := ⟨by omega, lwc⟩
      have ld : lens cd.gs := ⟨by omega, lwd⟩
      have luc : (usedR c).length ≤ 12 := by rw [show usedR c = usedL c.gs c.w.toNat from if_pos hc]; have := usedL_len c.gs c.w.toNat; omega
      have lni : (inverseM c).gs.length = c.gs.length := by rw [i2]; simp
      have lnj : (inverseM cd).gs.length = cd.gs.length := by rw [j2]; simp
      have lid : lens (inverseM cd).gs := ⟨by omega, fun g hg => by rw [j2] at hg; obtain ⟨x, hx, rfl⟩ := List.mem_map.1 hg; exact lwd x (List.mem_reverse.1 hx)⟩
      have fFf : Ints (fun b => b = (U53).length + 0) KH0 (some ⟨(U53).length + 0, 0, none⟩, f.length) f := ints_row rF0 rfl
      refine AX_seq (AX_E (E_ldBN rfl (rowGet_all rC0 rfl) (E_mv (v := .slice _ _ _) rfl ?_)))
      obtain ⟨X16, q16, hr16, f16⟩ := prelabel_ret (KH0 ++ []) c _ l53 _ gC0.app fT0.app (by omega) (by omega)
      rw [r1, r2] at hr16
      rw [r2] at f16
      obtain ⟨K17, hK17⟩ : ∃ K : Heap, K = KH0 ++ ([] ++ X16) := ⟨_, rfl⟩
      have lK17 : KH0.length + 0 ≤ K17.length := by rw [hK17]; simp only [List.length_append, List.length_cons, List.length_nil]; omega
      have pK17 : KH0 <+: K17 := by rw [hK17]; exact List.prefix_append _ _
      have fk18 : GatesP (fun b => (KH0.length + 0 ≤ b ∧ b < K17.length)) K17 (q16) (cd.gs) := f16.atS (by simp) hK17
      refine E_callX (X := X16) rfl (hr16) (E_hp (h' := K17 ++ []) (congrArg (fun x : Heap => x ++ []) hK17.symm) (E_mv (v := .tuple _) rfl (E_ext (v := .agg _) rfl rfl (E_ext (v := .int .i64 (0)) rfl rfl (E_new (E_stO (k := 0) rfl rfl (v := .agg _) rfl rfl rfl rfl (E_mv (v := .int .i64 (0)) rfl (E_nil (AX_seq (AX_E (E_ldON (k := 0) rfl rfl (E_mv (v := .slice _ _ _) rfl ?_))))))))))))
      obtain ⟨X19, q19, hr19, f19⟩ := prelabel_ret (K17 ++ [CO.row [.int .i64 (cd.w), .int .i64 (cd.b), .slice (q16).1 (cd.gs).length (q16).2] true none]) cd _ f _ fk18.gates.app (fFf.lift hK17).app (by omega) (by omega)
      rw [r3, r4] at hr19
      rw [r4] at f19
      have e19 := hr19
      dsimp only at hr19
      rw [hf0] at hr19
      obtain ⟨K20, hK20⟩ : ∃ K : Heap, K = K17 ++ ([CO.row [.int .i64 (cd.w), .int .i64 (cd.b), .slice (q16).1 (cd.gs).length (q16).2] true none] ++ X19) := ⟨_, rfl⟩
      have lK20 : K17.length + 1 ≤ K20.length := by rw [hK20]; simp only [List.length_append, List.length_cons, List.length_nil]; omega
      have pK20 : KH0 <+: K20 := by rw [hK20]; exact (pK17).trans (List.prefix_append _ _)
      have fk21 : GatesP (fun b => (K17.length + 1 ≤ b ∧ b < K20.length)) K20 (q19) (c.gs) := f19.atS (by simp) hK20
      refine E_callX (X := X19) rfl (hr19) (E_hp (h' := K20 ++ []) (congrArg (fun x : Heap => x ++ []) hK20.symm) (E_mv (v := .tuple _) rfl (E_ext (v := .agg _) rfl rfl (E_ext (v := .int .i64 (0)) rfl rfl (E_new (E_stO (k := 0) rfl rfl (v := .agg _) rfl rfl rfl rfl (E_mv (v := .int .i64 (0)) rfl (E_nil (AX_seq (AX_E (E_ldBN rfl (rowGet_lift hK20 (rowGet_lift hK17 (rowGet_all rC0 rfl))) ?_)))))))))))
      obtain ⟨X22, q22, hr22, f22⟩ := players_ret (K20 ++ [CO.row [.int .i64 (c.w), .int .i64 (c.b), .slice (q19).1 (c.gs).length (q19).2] true none]) c _ ((gC0.lift hK17).lift hK20).app (by omega)
      obtain ⟨K23, hK23⟩ : ∃ K : Heap, K = K20 ++ ([CO.row [.int .i64 (c.w), .int .i64 (c.b), .slice (q19).1 (c.gs).length (q19).2] true none] ++ X22) := ⟨_, rfl⟩
      have lK23 : K20.length + 1 ≤ K23.length := by rw [hK23]; simp only [List.length_append, List.length_cons, List.length_nil]; omega
      have pK23 : KH0 <+: K23 := by rw [hK23]; exact (pK20).trans (List.prefix_append _ _)
      have fk24 : Ints (fun b => (K20.length + 1 ≤ b ∧ b < K23.length)) K23 (q22) ((layersR c)) := f22.atS (by simp) hK23
      refine E_callX (X := X22) rfl (hr22) (E_hp (h' := K23 ++ []) (congrArg (fun x : Heap => x ++ []) hK23.symm) (E_mv (v := .tuple _) rfl (E_ext (v := .slice _ _ _) rfl rfl (E_ext (v := .int .i64 ((checkM c))) rfl rfl (E_mv (v := .slice _ _ _) rfl (E_mv (v := .int .i64 ((checkM c))) rfl (E_nil (AX_seq (AX_E (E_ldBN (cs := [.int .i64 (cd.w), .int .i64 (cd.b), .slice (q16).1 (cd.gs).length (q16).2]) rfl (rowGet_lift hK23 (rowGet_eq hK20 (rowGet_own (k := 0) rfl))) ?_))))))))))
      obtain ⟨X25, q25, hr25, f25⟩ := players_ret (K23 ++ []) cd _ ((fk18.lift hK20).lift hK23).gates.app (by omega)
      obtain ⟨K26, hK26⟩ : ∃ K : Heap, K = K23 ++ ([] ++ X25) := ⟨_, rfl⟩
      have lK26 : K23.length + 0 ≤ K26.length := by rw [hK26]; simp only [List.length_append, List.length_cons, List.length_nil]; omega
      have pK26 : KH0 <+: K26 := by rw [hK26]; exact (pK23).trans (List.prefix_append _ _)
      have fk27 : Ints (fun b => (K23.length + 0 ≤ b ∧ b < K26.length)) K26 (q25) ((layersR cd)) := f25.atS (by simp) hK26
      refine E_callX (X := X25) rfl (hr25) (E_hp (h' := K26 ++ []) (congrArg (fun x : Heap => x ++ []) hK26.symm) (E_mv (v := .tuple _) rfl (E_ext (v := .slice _ _ _) rfl rfl (E_ext (v := .int .i64 ((checkM cd))) rfl rfl (E_mv (v := .slice _ _ _) rfl (E_mv (v := .int .i64 ((checkM cd))) rfl (E_nil (AX_seq (AX_E (E_ldBN rfl (rowGet_lift hK26 (rowGet_lift hK23 (rowGet_lift hK20 (rowGet_lift hK17 (rowGet_all rC0 rfl))))) (E_callV rfl ((by have h9 := pcount_ret (K26 ++ []) c _ ((((gC0.lift hK17).lift hK20).lift hK23).lift hK26).app (by omega); rwa [if_pos hc, hc] at h9)) (E_mv (v := .tuple _) rfl (E_ext (v := .agg _) rfl rfl (E_ext (v := .int .i64 (0)) rfl rfl (E_new (E_stO (k := 0) (ob := .row (il (countL c.gs)) true none) rfl rfl (v := .agg _) rfl rfl rfl rfl (E_mv (v := .int .i64 (0)) rfl (E_nil (AX_seq (AX_E (E_ldBN (cs := [.int .i64 (cd.w), .int .i64 (cd.b), .slice (q16).1 (cd.gs).length (q16).2]) rfl (rowGet_lift hK26 (rowGet_lift hK23 (rowGet_eq hK20 (rowGet_own (k := 0) rfl)))) (E_callV rfl ((by have h9 := pcount_ret (K26 ++ [CO.row (il (countL c.gs)) true none]) cd _ (((fk18.lift hK20).lift hK23).lift hK26).gates.app (by omega); rwa [if_pos hd, hd] at h9)) (E_mv (v := .tuple _) rfl (E_ext (v := .agg _) rfl rfl (E_ext (v := .int .i64 (0)) rfl rfl (E_new (E_stO (k := 1) (ob := .row (il (countL cd.gs)) true none) rfl rfl (v := .agg _) rfl rfl rfl rfl (E_mv (v := .int .i64 (0)) rfl (E_nil (AX_seq (AX_seq (AX_E (E_mv (v := .int .i64 (0)) rfl (E_neqS rfl rfl (fun c101 => ?_) (fun c101 => ?_)))))))))))))))))))))))))))))))))))
      · exact (c101 (by first | rfl | assumption)).elim
      · refine E_mv (v := .bool _) rfl (E_on rfl (E_mv (v := .int .i64 (0)) rfl (E_on rfl (E_neqS rfl rfl (fun c104 => ?_) (fun c104 => ?_)))))
        · exact (c104 (by first | rfl | assumption)).elim
        · refine E_pickF rfl (v := .bool _) rfl (E_mv (v := .bool _) rfl (E_on rfl (E_mv (v := .int .i64 ((checkM c))) rfl (E_on rfl (E_neqS rfl rfl (fun c108 => ?_) (fun c108 => ?_))))))
          · exact (c108 (by first | rfl | assumption)).elim
          · refine E_pickF rfl (v := .bool _) rfl (E_mv (v := .bool _) rfl (E_on rfl (E_mv (v := .int .i64 ((checkM cd))) rfl (E_on rfl (E_neqS rfl rfl (fun c112 => ?_) (fun c112 => ?_))))))
            · exact (c112 (by first | rfl | assumption)).elim
            · refine E_pickF rfl (v := .bool _) rfl (E_mv (v := .bool _) rfl (E_on rfl (E_mv (v := .int .i64 (0)) rfl (E_on rfl (E_neqS rfl rfl (fun c116 => ?_) (fun c116 => ?_))))))
              · exact (c116 (by first | rfl | assumption)).elim
              · refine E_pickF rfl (v := .bool _) rfl (E_mv (v := .bool _) rfl (E_on rfl (E_mv (v := .int .i64 (0)) rfl (E_on rfl (E_neqS rfl rfl (fun c120 => ?_) (fun c120 => ?_))))))
                · exact (c120 (by first | rfl | assumption)).elim
                · refine E_pickF rfl (v := .bool _) rfl (E_mv (v := .bool _) rfl (E_on rfl (E_ldBN (cs := [.int .i64 (c.w), .int .i64 (c.b), .slice (q19).1 (c.gs).length (q19).2]) rfl (rowGet_lift hK26 (rowGet_eq hK23 (rowGet_own (k := 0) rfl))) (E_on rfl (E_ldBN rfl (rowGet_lift hK26 (rowGet_lift hK23 (rowGet_lift hK20 (rowGet_lift hK17 (rowGet_all rC0 rfl))))) (E_on rfl (E_callP rfl (kcsame_ret _ c c _ _ ((fk21.lift hK23).lift hK26).gates.app ((((gC0.lift hK17).lift hK20).lift hK23).lift hK26).app (by assumption)) (fun c125 => ?_) (fun c125 => ?_))))))))
                  · refine E_on rfl (E_notV rfl rfl (E_pickF rfl (v := .bool _) rfl (E_mv (v := .bool _) rfl (E_on rfl (E_mv (v := .slice _ _ _) rfl (E_on rfl (E_mv (v := .slice _ _ _) rfl (E_on rfl (E_callP rfl (equal_ret _ _ _ _ _ (fk24.lift hK26).app fk27.app (by rw [show layersR c = layersL c.gs c.gs.length from if_pos hc, layersL_len]; omega)) (fun c131 => ?_) (fun c131 => ?_))))))))))
                    · refine E_on rfl (E_notV rfl rfl (E_pickF rfl (v := .bool _) rfl (E_mv (v := .bool _) rfl (E_on rfl (E_ldON (k := 0) (cs := il (countL c.gs)) rfl rfl (E_on rfl (E_ldON (k := 1) (cs := il (countL cd.gs)) rfl rfl (E_on rfl (E_eqAP rfl rfl (il_eq (f := countL c.gs) (g := countL cd.gs)) (fun c137 => ?_) (fun c137 => ?_))))))))))
                      · refine E_pickF rfl (v := .bool _) rfl (E_nil (AX_condF rfl (AX_skip (AX_seq (AX_E (E_ldBN rfl (rowGet_lift hK26 (rowGet_lift hK23 (rowGet_lift hK20 (rowGet_lift hK17 (rowGet_all rC0 rfl))))) ?_))))))
                        obtain ⟨X28, q28, hr28, f28⟩ := pused_ret (K26 ++ [CO.row (il (countL c.gs)) true none, CO.row (il (countL cd.gs)) true none]) c _ ((((gC0.lift hK17).lift hK20).lift hK23).lift hK26).app (by omega)
                        obtain ⟨K29, hK29⟩ : ∃ K : Heap, K = K26 ++ ([CO.row (il (countL c.gs)) true none, CO.row (il (countL cd.gs)) true none] ++ X28) := ⟨_, rfl⟩
                        have lK29 : K26.length + 2 ≤ K29.length := by rw [hK29]; simp only [List.length_append, List.length_cons, List.length_nil]; omega
                        have pK29 : KH0 <+: K29 := by rw [hK29]; exact (pK26).trans (List.prefix_append _ _)
                        have fk30 : Ints (fun b => (K26.length + 2 ≤ b ∧ b < K29.length)) K29 (q28) ((usedR c)) := f28.atS (by simp) hK29
                        refine E_callX (X := X28) rfl (hr28) (E_hp (h' := K29 ++ []) (congrArg (fun x : Heap => x ++ []) hK29.symm) (E_mv (v := .tuple _) rfl (E_ext (v := .slice _ _ _) rfl rfl (E_ext (v := .int .i64 ((checkM c))) rfl rfl (E_mv (v := .slice _ _ _) rfl (E_mv (v := .int .i64 ((checkM c))) rfl (E_nil (AX_seq (AX_E (E_ldBN (cs := [.int .i64 (cd.w), .int .i64 (cd.b), .slice (q16).1 (cd.gs).length (q16).2]) rfl (rowGet_lift hK29 (rowGet_lift hK26 (rowGet_lift hK23 (rowGet_eq hK20 (rowGet_own (k := 0) rfl))))) ?_))))))))))
                        obtain ⟨X31, q31, hr31, f31⟩ := pused_ret (K29 ++ []) cd _ ((((fk18.lift hK20).lift hK23).lift hK26).lift hK29).gates.app (by omega)
                        obtain ⟨K32, hK32⟩ : ∃ K : Heap, K = K29 ++ ([] ++ X31) := ⟨_, rfl⟩
                        have lK32 : K29.length + 0 ≤ K32.length := by rw [hK32]; simp only [List.length_append, List.length_cons, List.length_nil]; omega
                        have pK32 : KH0 <+: K32 := by rw [hK32]; exact (pK29).trans (List.prefix_append _ _)
                        have fk33 : Ints (fun b => (K29.length + 0 ≤ b ∧ b < K32.length)) K32 (q31) ((usedR cd)) := f31.atS (by simp) hK32
                        refine E_callX (X := X31) rfl (hr31) (E_hp (h' := K32 ++ []) (congrArg (fun x : Heap => x ++ []) hK32.symm) (E_mv (v := .tuple _) rfl (E_ext (v := .slice _ _ _) rfl rfl (E_ext (v := .int .i64 ((checkM cd))) rfl rfl (E_mv (v := .slice _ _ _) rfl (E_mv (v := .int .i64 ((checkM cd))) rfl (E_nil (AX_seq (AX_seq (AX_E (E_mv (v := .slice _ _ _) rfl (E_len (n := ((usedR c)).length) rfl (E_mv (v := .int .i64 (0)) rfl (E_nil (AX_block ?_)))))))))))))))
                        refine AX_loopF (γ := Nat) (fun j => [(1, .int .u8 one), (2, .int .u8 two), (8, .int .i64 ((r46 : Int))), (9, .pointer (some ⟨(U50).length + 0, 0, none⟩)), (10, .slice (p53).1 (l53).length (p53).2), (14, .pointer (some ⟨(K17).length + 0, 0, none⟩)), (15, .int .i64 ((checkM c))), (17, .int .i64 ((checkM cd))), (26, .slice (q28).1 ((usedR c)).length (q28).2), (27, .slice (q31).1 ((usedR cd)).length (q31).2), (149, .slice (q28).1 ((usedR c)).length (q28).2), (150, .int .i64 (((usedR c)).length)), (151, .int .i64 ((j : Int)))]) (fun j h_ m_ => h_ = K32 ++ [] ∧ m_ = [] ∧ True) (fun j => (usedR c).length - j) (0) ⟨rfl, rfl, rfl, rfl, rfl, rfl, rfl, rfl, rfl, rfl, rfl, rfl, rfl, trivial⟩ ⟨rfl, rfl, ?_⟩ ?_
                        · trivial
                        rintro j fr2 h2 m2 ⟨rfl, rfl, inv2⟩ K2 hN2 hR2 hE2
                        refine AX_seq (AX_E (E_lssS rfl rfl (fun c152 => ?_) (fun c152 => ?_)))
                        · refine E_nil (AX_seq (AX_condT rfl (AX_skip (AX_seq (AX_block (AX_seq (AX_E (have ix34 : j < ((usedR c)).length := (by first | omega | (simp; done) | (simp; omega)); E_iaIb (j := j) rfl (fk30.lift hK32) rfl rfl rfl ix34 fun b34 o34 w34 => (E_ldB (v := .int .i64 ((usedR c)[j]'ix34)) rfl w34 (E_mv (v := .int .i64 ((usedR c)[j]'ix34)) rfl (E_nil (AX_seq (AX_E (E_mv (v := .int .i64 ((usedR c)[j]'ix34)) rfl (E_lssS rfl rfl (fun c156 => ?_) (fun c156 => ?_))))))))))))))))
                          · have hu9 := hum _ (List.getElem_mem (show j < (usedR c).length by omega)); omega
                          · refine E_mv (v := .bool _) rfl (E_on rfl (E_mv (v := .int .i64 ((usedR c)[j]'ix34)) rfl (E_on rfl (E_mv (v := .int .i64 ((r46 : Int))) rfl (E_on rfl (E_geqS rfl rfl (fun c160 => ?_) (fun c160 => ?_)))))))
                            · have hu9 := hum _ (List.getElem_mem (show j < (usedR c).length by omega)); omega
                            · refine E_pickF rfl (v := .bool _) rfl (E_mv (v := .bool _) rfl (E_on rfl (E_mv (v := .slice _ _ _) rfl (E_on rfl (E_mv (v := .slice _ _ _) rfl (E_on rfl (E_mv (v := .int .i64 ((usedR c)[j]'ix34)) rfl (E_on rfl (have ix35 : ((usedR c)[j]'ix34).toNat < (l53).length := (by first | omega | (simp; done) | (simp; omega)); E_iaIb (j := ((usedR c)[j]'ix34).toNat) rfl ((((((fT0.lift hK17).lift hK20).lift hK23).lift hK26).lift hK29).lift hK32) rfl rfl (by omega) ix35 fun b35 o35 w35 => (E_on rfl (E_ldB (v := .int .i64 (l53[((usedR c)[j]'ix34).toNat]'ix35)) rfl w35 (E_on rfl (E_callP rfl (contains_ret _ _ _ _ fk33.app (by first | omega | (simp; done) | (simp; omega))) (fun c168 => ?_) (fun c168 => ?_))))))))))))))
                              · refine E_on rfl (E_notV rfl rfl (E_pickF rfl (v := .bool _) rfl (E_nil (AX_condF rfl (AX_skip (AX_E (E_addI rfl rfl (by first | omega | (simp; done) | (simp; omega)) (by first | omega | (simp; done) | (simp; omega)) (E_mv (v := .int .i64 (((j : Int) + 1))) rfl (E_nil ?_)))))))))
                                refine hN2 (j + 1) _ _ _ ⟨by first | rfl | (congr 1; omega), by first | rfl | (congr 1; omega), by first | rfl | (congr 1; omega), by first | rfl | (congr 1; omega), by first | rfl | (congr 1; omega), by first | rfl | (congr 1; omega), by first | rfl | (congr 1; omega), by first | rfl | (congr 1; omega), by first | rfl | (congr 1; omega), by first | rfl | (congr 1; omega), by first | rfl | (congr 1; omega), by first | rfl | (congr 1; omega), by first | rfl | (congr 1; omega), trivial⟩ ⟨rfl, rfl, ?_⟩ ?_
                                -- n2
                                all_goals clear hN0 hR0 hE0 hN2 hR2 hE2
                                · trivial
                                · (first | omega | (simp; omega))
                              · have hu9 := hum _ (List.getElem_mem (show j < (usedR c).length by omega)); have h9 := hu9.2; unfold relF at h9; rw [getI (by omega)] at h9; exact (c168 h9).elim
                        · refine E_nil (AX_seq (AX_condF rfl (AX_exit (hE2 _ _ _ _ (AX_seq (AX_seq (AX_E (E_mv (v := .int .i64 ((checkM c))) rfl (E_neqS rfl rfl (fun c173 => ?_) (fun c173 => ?_))))))))))
                          · exact (c173 hc).elim
                          · refine E_mv (v := .bool _) rfl (E_on rfl (E_mv (v := .int .i64 ((checkM cd))) rfl (E_on rfl (E_neqS rfl rfl (fun c176 => ?_) (fun c176 => ?_)))))
                            · exact (c176 hd).elim
                            · refine E_pickF rfl (v := .bool _) rfl (E_mv (v := .bool _) rfl (E_on rfl (E_mv (v := .slice _ _ _) rfl (E_on rfl (E_len (n := ((usedR c)).length) rfl (E_on rfl (E_mv (v := .slice _ _ _) rfl (E_on rfl (E_len (n := ((usedR cd)).length) rfl (E_on rfl (E_neqS rfl rfl (fun c183 => ?_) (fun c183 => ?_))))))))))))
                              · omega
                              · refine E_pickF rfl (v := .bool _) rfl (E_mv (v := .bool _) rfl (E_on rfl (E_mv (v := .slice _ _ _) rfl (E_on rfl (E_callV rfl (issorted_ret _ _ _ (fk30.lift hK32).app (by omega) hus1) (E_on rfl (E_notV rfl rfl (E_pickF rfl (v := .bool _) rfl (E_mv (v := .bool _) rfl (E_on rfl (E_mv (v := .slice _ _ _) rfl (E_on rfl (E_callV rfl (issorted_ret _ _ _ fk33.app (by omega) hus2) (E_on rfl (E_notV rfl rfl (E_pickF rfl (v := .bool _) rfl (E_nil (AX_condF rfl (AX_skip (AX_seq (AX_E (E_ldBN rfl (rowGet_lift hK32 (rowGet_lift hK29 (rowGet_lift hK26 (rowGet_lift hK23 (rowGet_lift hK20 (rowGet_lift hK17 (rowGet_all rC0 rfl))))))) ?_))))))))))))))))))))))
                                obtain ⟨X36, q36, hr36, f36⟩ := pinverse_ret (K32 ++ []) c _ ((((((gC0.lift hK17).lift hK20).lift hK23).lift hK26).lift hK29).lift hK32).app (by omega)
                                obtain ⟨K37, hK37⟩ : ∃ K : Heap, K = K32 ++ ([] ++ X36) := ⟨_, rfl⟩
                                have lK37 : K32.length + 0 ≤ K37.length := by rw [hK37]; simp only [List.length_append, List.length_cons, List.length_nil]; omega
                                have pK37 : KH0 <+: K37 := by rw [hK37]; exact (pK32).trans (List.prefix_append _ _)
                                have fk38 : GatesP (fun b => (K32.length + 0 ≤ b ∧ b < K37.length)) K37 (q36) ((inverseM c).gs) := f36.atS (by simp) hK37
                                refine E_callX (X := X36) rfl (hr36) (E_hp (h' := K37 ++ []) (congrArg (fun x : Heap => x ++ []) hK37.symm) (E_mv (v := .tuple _) rfl (E_ext (v := .agg _) rfl rfl (E_ext (v := .int .i64 ((inverseE c))) rfl rfl (E_new (E_stO (k := 0) rfl rfl (v := .agg _) rfl rfl rfl rfl (E_mv (v := .int .i64 ((inverseE c))) rfl (E_nil (AX_seq (AX_E (E_ldBN (cs := [.int .i64 (cd.w), .int .i64 (cd.b), .slice (q16).1 (cd.gs).length (q16).2]) rfl (rowGet_lift hK37 (rowGet_lift hK32 (rowGet_lift hK29 (rowGet_lift hK26 (rowGet_lift hK23 (rowGet_eq hK20 (rowGet_own (k := 0) rfl))))))) ?_)))))))))))
                                obtain ⟨X39, q39, hr39, f39⟩ := pinverse_ret (K37 ++ [CO.row [.int .i64 ((inverseM c).w), .int .i64 ((inverseM c).b), .slice (q36).1 ((inverseM c).gs).length (q36).2] true none]) cd _ ((((((fk18.lift hK20).lift hK23).lift hK26).lift hK29).lift hK32).lift hK37).gates.app (by omega)
                                obtain ⟨K40, hK40⟩ : ∃ K : Heap, K = K37 ++ ([CO.row [.int .i64 ((inverseM c).w), .int .i64 ((inverseM c).b), .slice (q36).1 ((inverseM c).gs).length (q36).2] true none] ++ X39) := ⟨_, rfl⟩
                                have lK40 : K37.length + 1 ≤ K40.length := by rw [hK40]; simp only [List.length_append, List.length_cons, List.length_nil]; omega
                                have pK40 : KH0 <+: K40 := by rw [hK40]; exact (pK37).trans (List.prefix_append _ _)
                                have fk41 : GatesP (fun b => (K37.length + 1 ≤ b ∧ b < K40.length)) K40 (q39) ((inverseM cd).gs) := f39.atS (by simp) hK40
                                refine E_callX (X := X39) rfl (hr39) (E_hp (h' := K40 ++ []) (congrArg (fun x : Heap => x ++ []) hK40.symm) (E_mv (v := .tuple _) rfl (E_ext (v := .agg _) rfl rfl (E_ext (v := .int .i64 ((inverseE cd))) rfl rfl (E_new (E_stO (k := 0) rfl rfl (v := .agg _) rfl rfl rfl rfl (E_mv (v := .int .i64 ((inverseE cd))) rfl (E_nil (AX_seq (AX_E (E_ldBN (cs := [.int .i64 ((inverseM c).w), .int .i64 ((inverseM c).b), .slice (q36).1 ((inverseM c).gs).length (q36).2]) rfl (rowGet_eq hK40 (rowGet_own (k := 0) rfl)) (E_mv (v := .slice _ _ _) rfl ?_))))))))))))
                                obtain ⟨X42, q42, hr42, f42⟩ := prelabel_ret (K40 ++ [CO.row [.int .i64 ((inverseM cd).w), .int .i64 ((inverseM cd).b), .slice (q39).1 ((inverseM cd).gs).length (q39).2] true none]) (inverseM c) _ l53 _ (fk38.lift hK40).gates.app ((((((((fT0.lift hK17).lift hK20).lift hK23).lift hK26).lift hK29).lift hK32).lift hK37).lift hK40).app (by omega) (by omega)
                                rw [z1, z2] at hr42
                                rw [z2] at f42
                                obtain ⟨K43, hK43⟩ : ∃ K : Heap, K = K40 ++ ([CO.row [.int .i64 ((inverseM cd).w), .int .i64 ((inverseM cd).b), .slice (q39).1 ((inverseM cd).gs).length (q39).2] true none] ++ X42) := ⟨_, rfl⟩
                                have lK43 : K40.length + 1 ≤ K43.length := by rw [hK43]; simp only [List.length_append, List.length_cons, List.length_nil]; omega
                                have pK43 : KH0 <+: K43 := by rw [hK43]; exact (pK40).trans (List.prefix_append _ _)
                                have fk44 : GatesP (fun b => (K40.length + 1 ≤ b ∧ b < K43.length)) K43 (q42) ((inverseM cd).gs) := f42.atS (by simp) hK43
                                refine E_callX (X := X42) rfl (hr42) (E_hp (h' := K43 ++ []) (congrArg (fun x : Heap => x ++ []) hK43.symm) (E_mv (v := .tuple _) rfl (E_ext (v := .agg _) rfl rfl (E_ext (v := .int .i64 (0)) rfl rfl (E_new (E_stO (k := 0) rfl rfl (v := .agg _) rfl rfl rfl rfl (E_mv (v := .int .i64 (0)) rfl (E_nil (AX_seq (AX_seq (AX_E (E_mv (v := .int .i64 ((inverseE c))) rfl (E_neqS rfl rfl (fun c212 => ?_) (fun c212 => ?_))))))))))))))
                                · exact (c212 i1).elim
                                · refine E_mv (v := .bool _) rfl (E_on rfl (E_mv (v := .int .i64 ((inverseE cd))) rfl (E_on rfl (E_neqS rfl rfl (fun c215 => ?_) (fun c215 => ?_)))))
                                  · exact (c215 j1).elim
                                  · refine E_pickF rfl (v := .bool _) rfl (E_mv (v := .bool _) rfl (E_on rfl (E_mv (v := .int .i64 (0)) rfl (E_on rfl (E_neqS rfl rfl (fun c219 => ?_) (fun c219 => ?_))))))
                                    · exact (c219 rfl).elim
                                    · refine E_pickF rfl (v := .bool _) rfl (E_mv (v := .bool _) rfl (E_on rfl (E_ldBN (cs := [.int .i64 ((inverseM cd).w), .int .i64 ((inverseM cd).b), .slice (q39).1 ((inverseM cd).gs).length (q39).2]) rfl (rowGet_eq hK43 (rowGet_own (k := 0) rfl)) (E_on rfl (E_ldON (k := 0) rfl rfl (E_on rfl (E_callP rfl (kcsame_ret _ (inverseM cd) (inverseM cd) _ _ (fk41.lift hK43).gates.app fk44.gates.app (by assumption)) (fun c224 => ?_) (fun c224 => ?_))))))))
                                      · refine E_on rfl (E_notV rfl rfl (E_pickF rfl (v := .bool _) rfl (E_nil (AX_condF rfl (AX_skip (AX_seq (AX_seq (AX_E (E_fa rfl (E_ldB (v := .slice _ _ _) rfl (rowGet_c (j := 2) (rowGet_lift hK43 (rowGet_lift hK40 (rowGet_lift hK37 (rowGet_lift hK32 (rowGet_lift hK29 (rowGet_lift hK26 (rowGet_lift hK23 (rowGet_lift hK20 (rowGet_lift hK17 (rowGet_all rC0 rfl)))))))))) rfl) (E_len (n := (c.gs).length) rfl (E_gtrS rfl rfl (fun c230 => ?_) (fun c230 => ?_)))))))))))))
                                        · refine E_nil (AX_condT rfl (AX_seq (AX_E (E_mv (v := .int .u8 one) rfl (E_cv8 rfl hone (E_fa rfl (E_ldB (v := .slice _ _ _) rfl (rowGet_c (j := 2) (rowGet_lift hK43 (rowGet_lift hK40 (rowGet_lift hK37 (rowGet_lift hK32 (rowGet_lift hK29 (rowGet_lift hK26 (rowGet_lift hK23 (rowGet_lift hK20 (rowGet_lift hK17 (rowGet_all rC0 rfl)))))))))) rfl) (E_len (n := (c.gs).length) rfl (E_rem rfl rfl (by omega) (by omega) fun pi hpi => (E_mv (v := .int .u8 two) rfl (E_cv8 rfl htwo (E_fa rfl (E_ldB (v := .slice _ _ _) rfl (rowGet_c (j := 2) (rowGet_lift hK43 (rowGet_lift hK40 (rowGet_lift hK37 (rowGet_lift hK32 (rowGet_lift hK29 (rowGet_lift hK26 (rowGet_lift hK23 (rowGet_lift hK20 (rowGet_lift hK17 (rowGet_all rC0 rfl)))))))))) rfl) (E_len (n := (c.gs).length) rfl (E_rem rfl rfl (by omega) (by omega) fun qi hqi => ?_)))))))))))))))
                                          have t := rel_two (p := pi) (q := qi) hc oT (by rw [← ecd]; exact hd) (by omega) (by omega)
                                          rw [← ecd] at t
                                          obtain ⟨⟨t1, t2, t3⟩, t4, t5⟩ := t
                                          refine E_mv (v := .int .i64 ((pi : Int))) rfl (E_mv (v := .int .i64 ((qi : Int))) rfl (E_nil (AX_seq (AX_E (E_ldBN rfl (rowGet_lift hK43 (rowGet_lift hK40 (rowGet_lift hK37 (rowGet_lift hK32 (rowGet_lift hK29 (rowGet_lift hK26 (rowGet_lift hK23 (rowGet_lift hK20 (rowGet_lift hK17 (rowGet_all rC0 rfl)))))))))) (E_mv (v := .int .i64 ((pi : Int))) rfl (E_mv (v := .int .i64 ((qi : Int))) rfl ?_)))))))
                                          have hh247 := pCommute_ret (K43 ++ [CO.row [.int .i64 ((inverseM cd).w), .int .i64 ((inverseM cd).b), .slice (q42).1 ((inverseM cd).gs).length (q42).2] true none]) c _ (pi : Int) (qi : Int) (((((((((gC0.lift hK17).lift hK20).lift hK23).lift hK26).lift hK29).lift hK32).lift hK37).lift hK40).lift hK43).app (by omega)
                                          rw [if_pos t1, t1] at hh247
                                          refine E_callV rfl hh247 (E_mv (v := .tuple _) rfl (E_ext (v := .bool _) rfl rfl (E_ext (v := .int .i64 (0)) rfl rfl (E_mv (v := .bool _) rfl (E_mv (v := .int .i64 (0)) rfl (E_nil (AX_seq (AX_E (E_ldBN (cs := [.int .i64 (cd.w), .int .i64 (cd.b), .slice (q16).1 (cd.gs).length (q16).2]) rfl (rowGet_lift hK43 (rowGet_lift hK40 (rowGet_lift hK37 (rowGet_lift hK32 (rowGet_lift hK29 (rowGet_lift hK26 (rowGet_lift hK23 (rowGet_eq hK20 (rowGet_own (k := 0) rfl))))))))) (E_mv (v := .int .i64 ((pi : Int))) rfl (E_mv (v := .int .i64 ((qi : Int))) rfl ?_)))))))))))
                                          have hh254 := pCommute_ret (K43 ++ [CO.row [.int .i64 ((inverseM cd).w), .int .i64 ((inverseM cd).b), .slice (q42).1 ((inverseM cd).gs).length (q42).2] true none]) cd _ (pi : Int) (qi : Int) ((((((((fk18.lift hK20).lift hK23).lift hK26).lift hK29).lift hK32).lift hK37).lift hK40).lift hK43).gates.app (by omega)
                                          rw [if_pos t2, t2] at hh254
                                          refine E_callV rfl hh254 (E_mv (v := .tuple _) rfl (E_ext (v := .bool _) rfl rfl (E_ext (v := .int .i64 (0)) rfl rfl (E_mv (v := .bool _) rfl (E_mv (v := .int .i64 (0)) rfl (E_nil (AX_seq (AX_E (E_ldBN rfl (rowGet_lift hK43 (rowGet_lift hK40 (rowGet_lift hK37 (rowGet_lift hK32 (rowGet_lift hK29 (rowGet_lift hK26 (rowGet_lift hK23 (rowGet_lift hK20 (rowGet_lift hK17 (rowGet_all rC0 rfl)))))))))) (E_mv (v := .int .i64 ((pi : Int))) rfl (E_mv (v := .int .i64 ((qi : Int))) rfl ?_)))))))))))
                                          have hh261 := pUndo_ret (K43 ++ [CO.row [.int .i64 ((inverseM cd).w), .int .i64 ((inverseM cd).b), .slice (q42).1 ((inverseM cd).gs).length (q42).2] true none]) c _ (pi : Int) (qi : Int) (((((((((gC0.lift hK17).lift hK20).lift hK23).lift hK26).lift hK29).lift hK32).lift hK37).lift hK40).lift hK43).app (by omega)
                                          rw [if_pos t1, t1] at hh261
                                          refine E_callV rfl hh261 (E_mv (v := .tuple _) rfl (E_ext (v := .bool _) rfl rfl (E_ext (v := .int .i64 (0)) rfl rfl (E_mv (v := .bool _) rfl (E_mv (v := .int .i64 (0)) rfl (E_nil (AX_seq (AX_E (E_ldBN (cs := [.int .i64 (cd.w), .int .i64 (cd.b), .slice (q16).1 (cd.gs).length (q16).2]) rfl (rowGet_lift hK43 (rowGet_lift hK40 (rowGet_lift hK37 (rowGet_lift hK32 (rowGet_lift hK29 (rowGet_lift hK26 (rowGet_lift hK23 (rowGet_eq hK20 (rowGet_own (k := 0) rfl))))))))) (E_mv (v := .int .i64 ((qi : Int))) rfl (E_mv (v := .int .i64 ((pi : Int))) rfl ?_)))))))))))
                                          have hh268 := pUndo_ret (K43 ++ [CO.row [.int .i64 ((inverseM cd).w), .int .i64 ((inverseM cd).b), .slice (q42).1 ((inverseM cd).gs).length (q42).2] true none]) cd _ (qi : Int) (pi : Int) ((((((((fk18.lift hK20).lift hK23).lift hK26).lift hK29).lift hK32).lift hK37).lift hK40).lift hK43).gates.app (by omega)
                                          rw [if_pos t3, t3] at hh268
                                          refine E_callV rfl hh268 (E_mv (v := .tuple _) rfl (E_ext (v := .bool _) rfl rfl (E_ext (v := .int .i64 (0)) rfl rfl (E_mv (v := .bool _) rfl (E_mv (v := .int .i64 (0)) rfl (E_nil (AX_seq (AX_E (E_mv (v := .int .i64 (0)) rfl (E_neqS rfl rfl (fun c272 => ?_) (fun c272 => ?_)))))))))))
                                          · exact (c272 rfl).elim
                                          · refine E_mv (v := .bool _) rfl (E_on rfl (E_mv (v := .int .i64 (0)) rfl (E_on rfl (E_neqS rfl rfl (fun c275 => ?_) (fun c275 => ?_)))))
                                            · exact (c275 rfl).elim
                                            · refine E_pickF rfl (v := .bool _) rfl (E_mv (v := .bool _) rfl (E_on rfl (E_mv (v := .int .i64 (0)) rfl (E_on rfl (E_neqS rfl rfl (fun c279 => ?_) (fun c279 => ?_))))))
                                              · exact (c279 rfl).elim
                                              · refine E_pickF rfl (v := .bool _) rfl (E_mv (v := .bool _) rfl (E_on rfl (E_mv (v := .int .i64 (0)) rfl (E_on rfl (E_neqS rfl rfl (fun c283 => ?_) (fun c283 => ?_))))))
                                                · exact (c283 rfl).elim
                                                · refine E_pickF rfl (v := .bool _) rfl (E_mv (v := .bool _) rfl (E_on rfl (E_mv (v := .bool _) rfl (E_on rfl (E_mv (v := .bool _) rfl (E_on rfl (E_eqB rfl rfl (E_bs (fun c288 => ?_) (fun c288 => ?_)))))))))
                                                  · rw [t4] at c288; simp at c288
                                                  · refine E_pickF rfl (v := .bool _) rfl (E_mv (v := .bool _) rfl (E_on rfl (E_mv (v := .bool _) rfl (E_on rfl (E_mv (v := .bool _) rfl (E_on rfl (E_eqB rfl rfl (E_bs (fun c293 => ?_) (fun c293 => ?_)))))))))
                                                    · rw [t5] at c293; simp at c293
                                                    · refine E_pickF rfl (v := .bool _) rfl (E_nil (AX_condF rfl (AX_skip (AX_seq (AX_E (E_callV rfl (awake_ret _) (E_mv (v := .bool _) rfl (E_nil (AX_ret ?_)))))))))
                                                      exact ⟨_, rfl, by simp, rfl⟩
                                        · refine E_nil (AX_condF rfl (AX_skip (AX_seq (AX_E (E_callV rfl (awake_ret _) (E_mv (v := .bool _) rfl (E_nil (AX_ret ?_))))))))
                                          exact ⟨_, rfl, by simp, rfl⟩
                                      · exact (c224 rfl).elim
                      · exact (c137 (fun i _ => by rw [hcnt])).elim
                    · exact (c131 hlay.symm).elim
                  · exact (c125 rfl).elim
  obtain ⟨q, v, u, hr, rfl⟩ := key
  exact ⟨_, u, ⟨q, hr⟩, rfl⟩
end Go.Canon
