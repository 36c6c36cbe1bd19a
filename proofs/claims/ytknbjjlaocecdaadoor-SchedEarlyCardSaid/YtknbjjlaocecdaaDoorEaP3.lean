/- SchedEarly, part 3: the canonical machine and the runs of the program's functions on it. No conditions. -/
import Derived.Test.YtknbjjlaocecdaaDoorEaP2
set_option linter.unusedSectionVars false
set_option linter.unusedVariables false
set_option linter.unusedSimpArgs false
namespace Go.Canon
set_option linter.unusedVariables false
set_option linter.unusedSimpArgs false
open Go
variable [C0 : Cmb] [CmbOk C0]
variable {G : Nat → List (Sg V)} {w w' w2 : Wd} {h h' h2 : Heap} {vh vh' vh2 : List VO} {α : Type} {r : α} {f : Fr} {fr : Nat → Value} {K : V → List VO → Option α} {wr : List Nat}
/-- An object told of otherwise. -/
theorem HR.setO (R : HR G w h vh) {id : Nat} {p : Option Addr × Option Nat} {o : VO} (hi : w.ι[id]? = some p) (hf : (objAt vh id).free = true) (H : OR w h o p) (hof : o.free = true ∨ o = .gone := by first | exact .inl rfl | exact .inr rfl) : HR G w h (vh.set id o) ∧ Stp2 w h vh w h (vh.set id o) := by
  have hal : ∀ i, (objAt (vh.set id o) i).alive = true → (objAt vh i).alive = true := fun i hh => by
    rw [objAt_set] at hh
    split at hh
    · rename_i e; rw [← e.1]; exact VO.free_alive hf
    · exact hh
  have hfr : ∀ i, (objAt (vh.set id o) i).free = true → (objAt vh i).free = true := fun i hh => by
    rw [objAt_set] at hh
    split at hh
    · rename_i e; rw [← e.1]; exact hf
    · exact hh
  refine ⟨⟨by simp [R.len], fun i x q hx hq => ?_, fun i j c h1 h2 a1 a2 => R.inj i j c h1 h2 (hal i a1) (hal j a2), fun c ⟨i, e, a⟩ hF => R.nF c ⟨i, e, hal i a⟩ hF, fun c ⟨i, e, a⟩ => R.lt c ⟨i, e, hal i a⟩, R.Fl, R.gl⟩,
    { hl := Nat.le_refl _, ι := fun _ _ x => x, y := rfl, F := fun _ x => x, F' := fun _ x => .inl x, fr := fun _ _ _ => rfl, own := fun c ⟨i, e, a⟩ => .inl ⟨i, e, hal i a⟩, ownU := fun c ⟨i, e, a⟩ => .inl ⟨i, e, hfr i a⟩, lk := fun i hh => hh.set hf, nl := fun i hh => hh.of_set hof }⟩
  rw [List.getElem?_set] at hx
  split at hx
  · rename_i e; subst e
    split at hx
    · cases hx
      rw [hi] at hq
      cases hq
      exact H
    · cases hx
  · exact R.ob i x q hx hq
/-- An object under another name. -/
theorem HR.move (R : HR G w h vh) {id b : Nat} {m : Option Nat} {o : VO} (hi : w.ι[id]? = some (some ⟨b, 0, none⟩, m)) (hf : (objAt vh id).free = true) (H : OR w h o (some ⟨b, 0, none⟩, m)) (hof : o.free = true := by rfl) :
    HR G (w.add (some ⟨b, 0, none⟩, m)) h (vh.set id .gone ++ [o]) ∧ Stp2 w h vh (w.add (some ⟨b, 0, none⟩, m)) h (vh.set id .gone ++ [o]) := by
  have hid : id < vh.length := by rw [← R.len]; exact (List.getElem?_eq_some_iff.1 hi).1
  have hob : ∀ j, j < w.ι.length → objAt (vh.set id .gone ++ [o]) j = if id = j then .gone else objAt vh j := fun j hj => by
    rw [objAt_app, if_pos (by rw [List.length_set, ← R.len]; exact hj), objAt_set]
    by_cases e : id = j
    · rw [if_pos ⟨e, hid⟩, if_pos e]
    · rw [if_neg (by simp [e]), if_neg e]
  have key : ∀ {j c}, atB (w.add (some ⟨b, 0, none⟩, m)) j c → (objAt (vh.set id .gone ++ [o]) j).alive = true → (j < w.ι.length ∧ j ≠ id ∧ atB w j c ∧ (objAt vh j).alive = true ∧ objAt (vh.set id .gone ++ [o]) j = objAt vh j) ∨ (j = w.ι.length ∧ c = b) := fun {j c} e ha => by
    rcases add_at e with ⟨h1, e⟩ | ⟨h1, e⟩
    · rw [hob j h1] at ha
      by_cases e2 : id = j
      · rw [if_pos e2] at ha; cases ha
      · rw [if_neg e2] at ha; exact .inl ⟨h1, fun e3 => e2 e3.symm, e, ha, by rw [hob j h1, if_neg e2]⟩
    · cases e; exact .inr ⟨h1, rfl⟩
  have hb : Own w vh b := ⟨id, ⟨m, hi⟩, VO.free_alive hf⟩
  have S : Stp2 w h vh (w.add (some ⟨b, 0, none⟩, m)) h (vh.set id .gone ++ [o]) :=
    { hl := Nat.le_refl _
      ι := fun id p e => add_old e
      y := rfl
      F := fun _ h => h
      F' := fun _ h => .inl h
      fr := fun b hb _ => rfl
      own := fun c ⟨j, e, ha⟩ => by
        rcases key e ha with ⟨_, _, e, ha, _⟩ | ⟨_, rfl⟩
        · exact .inl ⟨j, e, ha⟩
        · exact .inl hb
      ownU := fun c ⟨j, e, ha⟩ => by
        rcases key e (VO.free_alive ha) with ⟨_, _, e, _, eo⟩ | ⟨_, rfl⟩
        · rw [eo] at ha; exact .inl ⟨j, e, ha⟩
        · exact .inl ⟨id, ⟨m, hi⟩, hf⟩
      lk := fun j hh => (hh.set hf).app
      nl := fun j hh => (hh.of_app (.inl hof)).of_set (.inr rfl) }
  have L := S.wle R
  refine ⟨⟨by simp [Wd.add, R.len], fun j x q hx hq => ?_, fun i j c h1 h2 a1 a2 => ?_, fun c ⟨j, e, ha⟩ hF => ?_, fun c ⟨j, e, ha⟩ => ?_, R.Fl, glob_mono L R.gl⟩, S⟩
  · by_cases hj : j < w.ι.length
    · have hq' : w.ι[j]? = some q := by
        have hq : (w.ι ++ [(some ⟨b, 0, none⟩, m)])[j]? = some q := hq
        rwa [List.getElem?_append_left hj] at hq
      have hx' : objAt (vh.set id .gone ++ [o]) j = x := by unfold objAt; rw [List.getD_eq_getElem?_getD, hx]; rfl
      rw [hob j hj] at hx'
      by_cases e : id = j
      · rw [if_pos e] at hx'; subst hx'; trivial
      · rw [if_neg e] at hx'
        have hv : vh[j]? = some x := by
          rw [List.getElem?_append_left (by rw [List.length_set, ← R.len]; exact hj), List.getElem?_set_ne e] at hx; exact hx
        exact (R.ob j x q hv hq').mono L fun _ _ _ => rfl
    · have hjl : j = w.ι.length := by
        have := (List.getElem?_eq_some_iff.1 hx).1
        simp [← R.len] at this; omega
      subst hjl
      rw [add_new] at hq
      cases hq
      have : x = o := by
        rw [R.len] at hx
        simp at hx; exact hx.symm
      subst this
      exact H.mono L fun _ _ _ => rfl
  · rcases key h1 a1 with ⟨g1, g2, g3, g4, _⟩ | ⟨g1, rfl⟩ <;> rcases key h2 a2 with ⟨k1, k2, k3, k4, _⟩ | ⟨k1, k3⟩
    · exact R.inj i j c g3 k3 g4 k4
    · subst k3; exact (g2 (R.inj i id c g3 ⟨m, hi⟩ g4 (VO.free_alive hf))).elim
    · exact (k2 (R.inj j id c k3 ⟨m, hi⟩ k4 (VO.free_alive hf))).elim
    · rw [g1, k1]
  · rcases key e ha with ⟨_, _, e, ha, _⟩ | ⟨_, rfl⟩
    · exact R.nF c ⟨j, e, ha⟩ hF
    · exact R.nF c hb hF
  · rcases key e ha with ⟨_, _, e, ha, _⟩ | ⟨_, rfl⟩
    · exact R.lt c ⟨j, e, ha⟩
    · exact R.lt c hb
theorem bnds_A {len : Nat} {lo hi : Option Value} {a b : Nat} (h1 : bnd? hi len len = some b) (h2 : bnd? lo b 0 = some a) : bnds len len lo hi none = some (a, b, len) := bnds_none h1 h2
theorem vSlA_ok (R : HR G w h vh) (Hf : FrR w h f fr) {x : KO} {lo hi mx : Option KO} {len sz : Nat} (H : vSlA vh K (evV f x) (lo.map (evV f)) (hi.map (evV f)) (mx.map (evV f)) len sz = some r) : OpO G w h vh wr (kop (.slA x lo hi mx len sz) fr h) K r := by
  have hx := Hf.ev x
  unfold vSlA at H
  split at H
  · cases H
  · rename_i hmx
    have hmx : mx = none := by cases mx <;> simp_all
    subst hmx
    split at H
    · rename_i id q j e
      split at H
      · rename_i l lk ho
        split at H
        · rename_i a ha
          split at H
          · rename_i hn
            obtain ⟨rfl, rfl⟩ := hn
            rw [e] at hx
            obtain ⟨b0, m, hu, hi', cs, gr, hb, hs, g1, g2, g3⟩ := op_row R hx ho (fun _ => .inr (.inr trivial))
            obtain ⟨b, H2, hb1, hb2⟩ := vBnd_ok Hf H
            obtain ⟨i, H3, ha1, ha2⟩ := vBnd_ok Hf H2
            have hbl : b ≤ a.n := by rcases hb2 with ⟨_, e⟩ | ⟨_, e, _⟩ <;> omega
            have hab : i ≤ b := by rcases ha2 with ⟨_, e⟩ | ⟨_, e, _⟩ <;> omega
            have hg : noGr h ⟨b0, offQ q + j, none⟩ = true := by simp [noGr, hb, g1 rfl]
            refine .no R (u := .slice (some (if a.n = i then ⟨b0, offQ q + j, none⟩ else ⟨b0, offQ q + j + i * a.t.sz, none⟩)) (b - i) (a.n - i)) ?_ H3 ?_
            · simp only [kop, hu, hg, if_true, Option.map_none, bnds_A (hb1 a.n (Nat.le_refl _)) (ha1 b (Nat.le_refl _)), add_ad]
            · have := VR.gl (w := w) (h := h) id q j a.t.sz (if a.n = i then 0 else i) (b - i) (a.n - i) b0 _ hi' (by omega)
              rw [beq_c]
              split
              · rename_i e; rw [if_pos e] at this; simpa using this
              · rename_i e; rw [if_neg e] at this; exact this
          · cases H
        · cases H
      · cases H
    · rename_i t y j e
      split at H
      · rename_i a ha
        split at H
        · rename_i hn
          obtain ⟨rfl, rfl⟩ := hn
          rw [e] at hx
          generalize hu : x.ev fr = u at hx
          obtain ⟨b0, o, row, wr', gr, rfl, hF, hb, hg, q1, q2, q3⟩ := fp_arr hx ha
          cases hg rfl
          obtain ⟨b, H2, hb1, hb2⟩ := vBnd_ok Hf H
          obtain ⟨i, H3, ha1, ha2⟩ := vBnd_ok Hf H2
          have hbl : b ≤ a.n := by rcases hb2 with ⟨_, e⟩ | ⟨_, e, _⟩ <;> omega
          have hab : i ≤ b := by rcases ha2 with ⟨_, e⟩ | ⟨_, e, _⟩ <;> omega
          have hg : noGr h ⟨b0, o, none⟩ = true := by simp [noGr, hb]
          have hsl : VR w h (.sl a.t a.l) (.slice (some ⟨b0, o, none⟩) a.l.length a.n) := .sl _ _ _ (.inr ⟨b0, o, a.n, row, wr', none, rfl, by omega, hF, hb, .inl rfl, .inr ⟨by rw [q1]; exact q2, by rw [q1]; exact q3⟩⟩)
          have hv := sl_cut (a := i) hsl hab (by rw [q1]; exact hbl)
          rw [cutL_eq (fun e => by rcases ha2 with ⟨_, h⟩ | ⟨h, _⟩; exact h; cases lo <;> simp_all) (fun e => by rcases hb2 with ⟨_, h⟩ | ⟨h, _⟩; rw [q1]; exact h; cases hi <;> simp_all)] at H3
          refine .no R ?_ H3 hv
          simp only [kop, hu, hg, if_true, Option.map_none, bnds_A (hb1 a.n (Nat.le_refl _)) (ha1 b (Nat.le_refl _)), add_ad, Option.map_some]
          congr 4
          split <;> rfl
        · cases H
      · cases H
    · cases H
theorem firstC_no {ad : Option Addr} {sz : Nat} (hn : noRoom ad) : firstC h sz 0 (.slice ad 0 0) = some [] := by
  rcases hn with rfl | ⟨x, rfl, hs⟩ <;> simp [firstC]
theorem firstC_row {b A sz k c m : Nat} {cs : List Value} {wr : Bool} {gr : Option Nat} (hb : h[b]? = some (.row cs wr gr)) (hl : A + k * sz ≤ cs.length) (hm : m ≤ k) : firstC h sz m (.slice (some ⟨b, A, none⟩) k c) = some (((cs.drop A).take (k * sz)).take (m * sz)) := by
  have hmk : m * sz ≤ k * sz := Nat.mul_le_mul_right _ hm
  simp only [firstC]
  split
  · rename_i e; rw [e]; simp
  · unfold rowGet
    simp only [hb]
    rw [if_pos ⟨trivial, by omega⟩, List.take_take]
    congr 2; omega
theorem sl_first {t : Ty} {l : List (El t)} {u : Value} (hv : VR w h (.sl t l) u) : ∃ ad c cn, u = .slice ad l.length c ∧ RepL (Rep w.F h t) l cn ∧ ∀ m, m ≤ l.length → firstC h t.sz m u = some (cn.take (m * t.sz)) := by
  cases hv with
  | sl _ _ _ H =>
    rcases H with ⟨e, a, e2, hn⟩ | ⟨b, o, c, row, wr, gr, e, h1, h2, h3, h4, h5⟩
    · simp only [List.cons.injEq, and_true] at e2
      subst e e2
      refine ⟨a, 0, [], rfl, rfl, fun m hm => ?_⟩
      have : m = 0 := by simpa using hm
      subst this
      simpa using firstC_no hn
    · simp only [List.cons.injEq, and_true] at e
      subst e
      rcases h5 with e | ⟨h5, h6⟩
      · subst e
        refine ⟨_, c, [], rfl, rfl, fun m hm => ?_⟩
        have : m = 0 := by simpa using hm
        subst this
        simp [firstC]
      · exact ⟨_, c, _, rfl, h6, fun m hm => firstC_row h3 h5 hm⟩
theorem src_ok (R : HR G w h vh) {t : Ty} {x : V} {u : Value} {b : Bool} {l : List (El t)} (hv : VR w h x u) (H : srcL vh t x = some (b, l)) (hb : b = true) : ∃ ad c cn, u = .slice ad l.length c ∧ RepL (Rep w.F h t) l cn ∧ ∀ m, m ≤ l.length → firstC h t.sz m u = some (cn.take (m * t.sz)) := by
  have nil : ∀ {ad}, noRoom ad → ∃ ad' c cn, Value.slice ad 0 0 = .slice ad' ([] : List (El t)).length c ∧ RepL (Rep w.F h t) [] cn ∧ ∀ m, m ≤ ([] : List (El t)).length → firstC h t.sz m (.slice ad 0 0) = some (cn.take (m * t.sz)) := fun {ad} hn => ⟨ad, 0, [], rfl, rfl, fun m hm => by
    have : m = 0 := by simpa using hm
    subst this
    simpa using firstC_no hn⟩
  unfold srcL at H
  split at H
  · cases H
    cases hv with
    | k _ _ => exact nil (.inl rfl)
  · cases H
    cases hv with
    | e0 a ha => exact nil ha
  · split at H
    · rename_i e; subst e; cases H
      exact sl_first hv
    · cases H
  · rename_i id
    split at H
    · rename_i t' n l' ng lk ho
      split at H
      · rename_i e; subst e; cases H
        obtain ⟨a, rfl, hln, hi, ⟨b, cs, gr, rfl, e2, e3, e4, _⟩ | ⟨rfl, rfl, e3, _⟩⟩ := gw_rep R.ha hv ho
        · have hlen := e3.len fun _ _ => Rep.len
          subst hln
          refine ⟨_, l'.length, cs, rfl, e3, fun m hm => ?_⟩
          have hm : m ≤ l'.length := hm
          have := firstC_row (A := 0) (k := l'.length) (sz := t'.sz) (c := l'.length) e2 (by omega) hm
          rw [this, List.drop_zero, List.take_take]
          congr 2
          have := Nat.mul_le_mul_right t'.sz hm
          omega
        · exact nil e3
      · cases H
    · cases H
  · rename_i id q j sz o n c
    split at H
    · rename_i l0 ng lk ho
      split at H
      · rename_i a ha
        split at H
        · rename_i e
          obtain ⟨e1, e2⟩ := e
          subst e1
          subst e2
          cases H
          simp only [Bool.and_eq_true, decide_eq_true_eq] at hb
          rw [Option.bind_eq_some_iff] at ha
          obtain ⟨l1, h1, h2⟩ := ha
          cases hv with
          | gl0 _ _ _ _ _ ad ha0 =>
            show ∃ ad' c cn, _ = Value.slice ad' ((a.l.drop o).take 0).length c ∧ RepL _ ((a.l.drop o).take 0) cn ∧ ∀ m, m ≤ ((a.l.drop o).take 0).length → _
            rw [List.take_zero]; exact nil ha0
          | gl _ _ _ _ _ _ _ b0 m hi hnc =>
            obtain ⟨p, hp, hor⟩ := R.at ho rfl
            rw [hi] at hp
            cases hp
            rcases hor with ⟨b', cs, gr, e1, e2, e3, e4, e5, e6⟩ | ⟨t2, e1, e2, e3, e4⟩
            · cases e1
              obtain ⟨k, g1, g2⟩ := getQ_rep e3 h1 hb.1
              obtain ⟨g3, g4, g5⟩ := arSg_rep g2 h2
              rw [List.length_take, List.length_drop] at g4
              have hln : ((a.l.drop o).take n).length = n := by simp; omega
              show ∃ ad' c cn, _ = Value.slice ad' ((a.l.drop o).take n).length c ∧ RepL _ ((a.l.drop o).take n) cn ∧ ∀ m, m ≤ ((a.l.drop o).take n).length → _
              rw [hln]
              have hmul : o * a.t.sz + n * a.t.sz ≤ a.n * a.t.sz := by rw [← Nat.add_mul]; exact Nat.mul_le_mul_right _ hb.2
              have g6 := drop_take_rep (fun _ _ => Rep.len) g5 o n
              rw [List.drop_take, List.drop_drop, List.drop_take, List.take_take, List.take_take, List.drop_drop] at g6
              have e9 : offQ q + (j + o * a.t.sz) = offQ q + j + o * a.t.sz := by omega
              rw [e9] at g6
              have e10 : min (min (n * a.t.sz) (a.n * a.t.sz - o * a.t.sz)) (k - (j + o * a.t.sz)) = n * a.t.sz := by omega
              rw [e10] at g6
              exact ⟨_, c, _, rfl, g6, fun m hm => firstC_row e2 (by omega) hm⟩
            · rcases e3 with e3 | ⟨x, e3, e4⟩
              · cases e3
              · cases e3; cases e4
        · cases H
      · cases H
    · cases H
  · cases H
theorem RepL.append {β : Type} {Q : β → List Value → Prop} : ∀ {a b : List β} {c d : List Value}, RepL Q a c → RepL Q b d → RepL Q (a ++ b) (c ++ d)
  | [], b, c, d, h1, h2 => by cases h1; exact h2
  | x :: a, b, _, d, ⟨c1, c2, e, h3, h4⟩, h2 => ⟨c1, c2 ++ d, by rw [e, List.append_assoc], h3, h4.append h2⟩
theorem RepL.take {β : Type} {Q : β → List Value → Prop} {sz : Nat} (hsz : ∀ x cs, Q x cs → cs.length = sz) {l : List β} {cs : List Value} (H : RepL Q l cs) (n : Nat) : RepL Q (l.take n) (cs.take (n * sz)) := by
  have := drop_take_rep hsz H 0 n
  simpa using this
theorem RepL.drop {β : Type} {Q : β → List Value → Prop} {sz : Nat} (hsz : ∀ x cs, Q x cs → cs.length = sz) {l : List β} {cs : List Value} (H : RepL Q l cs) (n : Nat) : RepL Q (l.drop n) (cs.drop (n * sz)) := by
  have hl := H.len hsz
  have := drop_take_rep hsz H n l.length
  rw [List.take_of_length_le (by simp), List.take_of_length_le (by rw [List.length_drop]; omega)] at this
  exact this
/-- A list copied into one. -/
theorem RepL.cpy {β : Type} {Q : β → List Value → Prop} {sz : Nat} (hsz : ∀ x cs, Q x cs → cs.length = sz) {l l2 : List β} {cs c2 : List Value} (H : RepL Q l cs) (H2 : RepL Q l2 c2) {o m : Nat} (h1 : o + m ≤ l.length) (h2 : m ≤ l2.length) :
    RepL Q (cpyL l o m l2) (putC cs (o * sz) (c2.take (m * sz))) ∧ (cpyL l o m l2).length = l.length := by
  have hl2 : (c2.take (m * sz)).length = m * sz := by
    rw [List.length_take, H2.len hsz]
    have := Nat.mul_le_mul_right sz h2
    omega
  refine ⟨?_, by simp [cpyL]; omega⟩
  unfold cpyL putC
  rw [hl2, ← Nat.add_mul]
  exact ((H.take hsz o).append (H2.take hsz m)).append (H.drop hsz (o + m))
end Go.Canon
namespace Go.Canon
set_option linter.unusedVariables false
set_option linter.unusedSimpArgs false
open Go
variable [C0 : Cmb] [CmbOk C0]
variable {G : Nat → List (Sg V)} {w w' w2 : Wd} {h h' h2 : Heap} {vh vh' vh2 : List VO} {α : Type} {r : α} {f : Fr} {fr : Nat → Value} {K : V → List VO → Option α} {wr : List Nat}
/-- A list of one's own laid by append. -/
theorem lay_app (R : HR G w h vh) {t : Ty} {x : List (El t)} {cs : List Value} (Hl : RepL (Rep w.F h t) x cs) {kr : Option KR} (hk : kr = some (.val (.slice (some ⟨h.length, 0, none⟩) x.length x.length) (.new (.row cs true (some t.sz))))) (H : K (.gw vh.length) (vh ++ [.row [.ar t x.length x] false false]) = some r) : OpO G w h vh wr kr K r := by
  have Hs : SgR w h [.ar t x.length x] cs := by simpa using SgR.ar (w := w) (h := h) rfl Hl .nil
  obtain ⟨R', S⟩ := R.new (m := some x.length) (co := .row cs true (some t.sz)) (o := .row [.ar t x.length x] false false) rfl (.inl ⟨h.length, cs, some t.sz, rfl, by simp, Hs.mono (wle_add R), fun e => (by cases e), .inr ⟨_, _, _, rfl, rfl⟩, fun n e => by cases e; exact ⟨_, _, rfl⟩⟩)
  exact ⟨_, _, _, _, _, hk, H, R', S, .gw _ _ _ (by rw [← R.len]; exact add_new), pre_same⟩
theorem firstC_all (R : HR G w h vh) {t : Ty} {l : List (El t)} {u : Value} {cn : List Value} {ad : Option Addr} {c : Nat} (hu : u = .slice ad l.length c) (Hl : RepL (Rep w.F h t) l cn) (hf : ∀ m, m ≤ l.length → firstC h t.sz m u = some (cn.take (m * t.sz))) : firstC h t.sz l.length u = some cn := by
  rw [hf _ (Nat.le_refl _), List.take_of_length_le (Nat.le_of_eq (Hl.len fun _ _ => Rep.len))]
theorem vApp_ok (R : HR G w h vh) (Hf : FrR w h f fr) {hint : Option OpH} {s x : KO} {sz bytes : Nat} (H : vApp hint vh K (evV f s) (evV f x) sz bytes = some r) : OpO G w h vh ((wrV vh f (.app s x sz bytes)).getD []) (kop (.app s x sz bytes) fr h) K r := by
  have hs := Hf.ev s
  have hx := Hf.ev x
  have base : ∀ {wr : List Nat} {ad : Option Addr} {t : Ty}, noRoom ad → s.ev fr = .slice ad 0 0 → t.sz = sz → (match srcL vh t (evV f x) with
      | some (b, l') => grd (b && decide (l'.length * bytes ≤ roomB)) (K (.gw vh.length) (vh ++ [.row [.ar t l'.length l'] false false]))
      | none => none) = some r → OpO G w h vh wr (kop (.app s x sz bytes) fr h) K r := by
    intro wr ad t hn hu hsz H2
    subst hsz
    split at H2
    · rename_i b l' hsrc
      obtain ⟨hb, H2⟩ := grd_some H2
      simp only [Bool.and_eq_true, decide_eq_true_eq] at hb
      obtain ⟨ad', c, cn, hux, g1, g2⟩ := src_ok R hx hsrc hb.1
      have hfc := firstC_all R hux g1 g2
      rw [hux] at hfc
      have hk : kop (.app s x t.sz bytes) fr h = kapp h (.slice ad 0 0) (.slice ad' l'.length c) t.sz bytes := by simp only [kop, hu, hux]
      rw [hk]
      unfold kapp
      simp only [hfc, Nat.zero_add]
      by_cases h0 : l'.length = 0
      · have : l' = [] := List.eq_nil_of_length_eq_zero h0
        subst this
        obtain ⟨R', S⟩ := R.new0 (o := .row [.ar t 0 []] false false) (p := (ad, some 0)) hn (.inr ⟨t, rfl, rfl, hn, rfl⟩)
        exact ⟨.slice ad 0 0, .no, .gw vh.length, _, _, by simp, H2, R', S, .gw _ _ _ (by rw [← R.len]; exact add_new), fun _ _ _ => rfl⟩
      · rw [if_neg (by omega), if_neg (by omega)]
        have hold : firstC h t.sz 0 (.slice ad 0 0) = some [] := firstC_no hn
        rw [hold]
        simp only [List.nil_append]
        refine lay_app R g1 ?_ H2
        rcases hn with rfl | ⟨y, rfl, hy⟩
        · rfl
        · simp only [hy, if_true]
    · cases H2
  unfold vApp at H
  split at H
  · rename_i e
    rw [e] at hs
    generalize hu : s.ev fr = u at hs
    cases hs with
    | k _ _ =>
      split at H
      · split at H
        · exact base (.inl rfl) hu (by assumption) H
        · cases H
      · cases H
  · rename_i e
    rw [e] at hs
    generalize hu : s.ev fr = u at hs
    cases hs with
    | e0 a ha =>
      split at H
      · split at H
        · exact base ha hu (by assumption) H
        · cases H
      · cases H
  · rename_i id e
    rw [e] at hs
    split at H
    · rename_i t n l ng ho
      split at H
      · rename_i hsz; subst hsz
        split at H
        · rename_i b l' hsrc
          obtain ⟨hb, H⟩ := grd_some H
          simp only [Bool.and_eq_true, decide_eq_true_eq] at hb
          obtain ⟨ad', c, cn, hux, g1, g2⟩ := src_ok R hx hsrc hb.1
          have hfc := firstC_all R hux g1 g2
          rw [hux] at hfc
          obtain ⟨ad, hu, hln, hi, hor⟩ := gw_rep R.ha hs ho
          obtain ⟨ad2, c2, cl, hu2, g3, g4⟩ := src_ok R (t := t) (x := .gw id) (b := true) (l := l) hs (by simp only [srcL]; rw [ho]; exact dif_pos rfl) rfl
          have hfl := firstC_all R hu2 g3 g4
          rw [hu] at hu2
          cases hu2
          rw [hu] at hfl
          have hfree : (objAt vh id).free = true := by rw [ho]; rfl
          have hwr : ng = false → id ∈ (wrV vh f (.app s x t.sz bytes)).getD [] := fun hng => by subst hng; simp only [wrV, e, ho]; exact List.mem_singleton.2 rfl
          generalize (wrV vh f (.app s x t.sz bytes)).getD [] = wr0 at hwr ⊢
          have hk : kop (.app s x t.sz bytes) fr h = kapp h (.slice ad l.length l.length) (.slice ad' l'.length c) t.sz bytes := by simp only [kop, hu, hux]
          rw [hk]
          unfold kapp
          simp only [hfc]
          by_cases h0 : l'.length = 0
          · have : l' = [] := List.eq_nil_of_length_eq_zero h0
            subst this
            have hkk : (if l.length + ([] : List (El t)).length ≤ l.length then if ([] : List (El t)).length = 0 then some (KR.val (.slice ad l.length l.length) .no) else none else none) = some (KR.val (.slice ad l.length l.length) .no) := by simp
            rcases hor with ⟨b0, cs, gr, rfl, e2, e3, e4, e5⟩ | ⟨hn0, hl0, e3, e4⟩
            · obtain ⟨R', S⟩ := R.move (o := .row [.ar t (l.length + ([] : List (El t)).length) (l ++ [])] false false) hi hfree (.inl ⟨b0, cs, gr, rfl, e2, by simpa using SgR.ar (w := w) (h := h) rfl e3 .nil, fun e => (by cases e), e4.imp (fun x => x) fun e => ⟨_, _, _, rfl, e⟩, fun n e => by cases e; exact ⟨t, l ++ [], rfl⟩⟩)
              exact ⟨.slice (some ⟨b0, 0, none⟩) l.length l.length, .no, .gw vh.length, _, _, by simp, H, R', S, .gw _ _ _ (by rw [← R.len]; exact add_new), fun _ _ _ => rfl⟩
            · subst hl0
              obtain ⟨R1, S1⟩ := R.setO (o := .gone) hi hfree trivial
              obtain ⟨R', S⟩ := R1.new0 (o := .row [.ar t 0 []] false false) (p := (ad, some 0)) e3 (.inr ⟨t, rfl, rfl, e3, rfl⟩)
              exact ⟨.slice ad 0 0, .no, .gw vh.length, _, _, by simp, H, R', S1.trans S, .gw _ _ _ (by rw [← R.len]; exact add_new), fun _ _ _ => rfl⟩
          · rw [if_neg (by omega), if_neg (by omega), hfl]
            dsimp only
            have happ := g3.append g1
            have hlen : (l ++ l').length = l.length + l'.length := List.length_append
            obtain ⟨R1, S1⟩ := R.setO (o := .gone) hi hfree trivial
            have hvl : (vh.set id .gone).length = vh.length := List.length_set
            have new : ∀ {kr : Option KR}, kr = some (.val (.slice (some ⟨h.length, 0, none⟩) (l.length + l'.length) (l.length + l'.length)) (.new (.row (cl ++ cn) true (some t.sz)))) → OpO G w h vh wr0 kr K r := by
              intro kr hkr
              obtain ⟨u, e, v, vh', w', q1, q2, q3, q4, q5, q6⟩ := lay_app (wr := wr0) (K := K) (kr := kr) R1 happ (by rw [hlen]; exact hkr) (by rw [hvl, hlen]; exact H)
              exact ⟨u, e, v, vh', w', q1, q2, q3, S1.trans q4, q5, q6⟩
            rcases hor with ⟨b0, cs, gr, rfl, e2, e3, e4, e5⟩ | ⟨hn0, hl0, e3, e4⟩
            · dsimp only
              simp only [e2, Option.isSome_none, Bool.false_eq_true, if_false]
              cases gr with
              | none => exact new rfl
              | some z =>
                have hz : z = t.sz := by rcases e4 with e4 | e4 <;> simp_all
                subst hz
                have hcell : cn.all isCell = true := g1.cells fun _ _ => Rep.cells
                simp only [hcell, and_self, if_true]
                obtain ⟨R2, S2⟩ := R.upd (co := .gone) (o := .gone) hi hfree (.inr rfl) (fun _ => trivial)
                have L2 := S2.wle R
                obtain ⟨u, e, v, vh', w', q1, q2, q3, q4, q5, q6⟩ := lay_app (wr := []) (K := K) R2 (happ.mono fun _ _ => L2.rep) (kr := some (.val (.slice (some ⟨(h.set b0 .gone).length, 0, none⟩) (l ++ l').length (l ++ l').length) (.new (.row (cl ++ cn) true (some t.sz))))) rfl (by rw [List.length_set, hlen]; exact H)
                cases q1
                refine ⟨.slice (some ⟨h.length, 0, none⟩) (l.length + l'.length) (l.length + l'.length), .kill b0 (.row (cl ++ cn) true (some t.sz)), v, vh', w', rfl, q2, q3, S2.trans q4, ?_, fun c hc hn => ?_⟩
                · rw [List.length_set, hlen] at q5; exact q5
                · show (h.set b0 .gone ++ [_])[c]? = _
                  rw [List.getElem?_append_left (by rw [List.length_set]; exact hc)]
                  exact List.getElem?_set_ne fun e : b0 = c => hn id (hwr (by cases hq : ng with | false => rfl | true => exact absurd (e5 hq) (by simp))) (by subst e; exact ⟨_, hi⟩)
            · rcases e3 with rfl | ⟨y, rfl, hy⟩
              · exact new rfl
              · simp only [hy, if_true]; exact new rfl
        · cases H
      · cases H
    · cases H
  · cases H
end Go.Canon
namespace Go.Canon
set_option linter.unusedVariables false
set_option linter.unusedSimpArgs false
open Go
variable [C0 : Cmb] [CmbOk C0]
variable {G : Nat → List (Sg V)} {w w' w2 : Wd} {h h' h2 : Heap} {vh vh' vh2 : List VO} {α : Type} {r : α} {f : Fr} {fr : Nat → Value} {K : V → List VO → Option α} {wr : List Nat}
theorem putC_nil {cs : List Value} {j : Nat} : putC cs j [] = cs := by simp [putC]
/-- A list of one's own, changed. -/
theorem onArr_ok (R : HR G w h vh) {x : V} {u : Value} {sz : Nat} {fu : (a : Arr) → Nat → Nat → Option (Bool × List (El a.t))} {b : Bool} (hv : VR w h x u) (H : onArr vh x sz fu = some (b, vh')) (hb : b = true) :
    ∃ (a : Arr) (o n : Nat) (l2 : List (El a.t)) (ad : Option Addr) (c : Nat) (ac : List Value), a.t.sz = sz ∧ fu a o n = some (true, l2) ∧ u = .slice ad n c ∧ lenV vh x = some n ∧ o + n ≤ a.l.length ∧ RepL (Rep w.F h a.t) a.l ac ∧
      (RepL (Rep w.F h a.t) l2 ac → l2.length = a.l.length → HR G w h vh' ∧ Stp2 w h vh w h vh') ∧
      (n = 0 ∨ ∃ id b0 A cs gr, ad = some ⟨b0, A, none⟩ ∧ id ∈ idV x ∧ atB w id b0 ∧ h[b0]? = some (.row cs true gr) ∧ A + n * sz ≤ cs.length ∧
        ∀ cn : List Value, cn.length ≤ n * sz → RepL (Rep w.F h a.t) l2 (putC ac (o * sz) cn) → l2.length = a.l.length → HR G w (h.set b0 (.row (putC cs A cn) true gr)) vh' ∧ Stp2 w h vh w (h.set b0 (.row (putC cs A cn) true gr)) vh') := by
  unfold onArr at H
  split at H
  · rename_i id
    split at H
    · rename_i t n l ng ho
      split at H
      · rename_i hs; subst hs
        split at H
        · rename_i b' l2 hfu
          cases H
          subst hb
          obtain ⟨ad, hu, hln, hi, hor⟩ := gw_rep R.ha hv ho
          have hfree : (objAt vh id).free = true := by rw [ho]; rfl
          have hlen : lenV vh (.gw id) = some n := by simp only [lenV, ho]
          rcases hor with ⟨b0, cs, gr, rfl, e2, e3, e4, e5⟩ | ⟨hn0, hl0, e3, e4⟩
          · have hcl := e3.len fun _ _ => Rep.len
            refine ⟨⟨t, n, l⟩, 0, n, l2, _, n, cs, rfl, hfu, hu, hlen, by simp [hln], e3, fun g1 g2 => ?_, .inr ⟨id, b0, 0, cs, gr, rfl, by simp [idV], ⟨_, hi⟩, e2, by rw [← hln]; omega, fun cn hcn g1 g2 => ?_⟩⟩
            · exact R.setO hi hfree (.inl ⟨b0, cs, gr, rfl, e2, by simpa using SgR.ar (w := w) (h := h) (by rw [← hln]; exact g2) g1 .nil, e5, e4.imp (fun x => x) fun e => ⟨_, _, _, rfl, e⟩, fun n e => by cases e; exact ⟨_, _, rfl⟩⟩)
            · have hbl : b0 < h.length := (List.getElem?_eq_some_iff.1 e2).1
              rw [Nat.zero_mul] at g1
              exact R.upd hi hfree (.inl rfl) fun L => .inl ⟨b0, _, gr, rfl, by rw [List.getElem?_set_self hbl], by simpa using SgR.ar (w := w) (by rw [← hln]; exact g2) (g1.mono fun _ _ => L.rep) .nil, e5, e4.imp (fun x => x) fun e => ⟨_, _, _, rfl, e⟩, fun n e => by cases e; exact ⟨_, _, rfl⟩⟩
          · subst hl0 hn0
            refine ⟨⟨t, 0, []⟩, 0, 0, l2, _, 0, [], rfl, hfu, hu, hlen, by simp, rfl, fun g1 g2 => ?_, .inl rfl⟩
            have : l2 = [] := List.eq_nil_of_length_eq_zero g2
            subst this
            exact R.setO hi hfree (.inr ⟨t, rfl, rfl, e3, e4⟩)
        · cases H
      · cases H
    · cases H
  · rename_i id q j sz' o n c
    split at H
    · rename_i l ng ho
      split at H
      · rename_i a ha
        split at H
        · rename_i hs
          obtain ⟨rfl, rfl⟩ := hs
          split at H
          · rename_i b' l2 hfu
            split at H
            · rename_i l3 hl3
              cases H
              simp only [Bool.and_eq_true, decide_eq_true_eq] at hb
              obtain ⟨rfl, hq, hon⟩ := hb
              rw [Option.bind_eq_some_iff] at ha
              obtain ⟨l0, h1, h2⟩ := ha
              have hfree : (objAt vh id).free = true := by rw [ho]; rfl
              obtain ⟨p, hp, hor⟩ := R.at ho rfl
              have hlen : lenV vh (.gl id q j a.t.sz o n c) = some n := rfl
              have shape : ∀ {t n xs}, l = [.ar t n xs] → ∃ xs', l3 = [.ar t n xs'] := fun {t n xs} e => by
                subst e
                cases q with
                | cons y q => exact setQ_shape (by simp) hl3
                | nil =>
                  simp only [setQ] at hl3
                  cases j with
                  | zero =>
                    simp only [getQ] at h1
                    cases h1
                    simp only [arSg, dropSg] at h2
                    cases h2
                    simp only [repSg] at hl3
                    cases hl3
                    exact ⟨_, rfl⟩
                  | succ j =>
                    exfalso
                    simp only [getQ] at h1
                    cases h1
                    simp only [arSg, dropSg] at h2
                    cases hbb : Nat.ble (Sg.len (.ar t n xs)) (j + 1) with
                    | false => rw [hbb] at h2; cases h2
                    | true =>
                      rw [hbb] at h2
                      cases hh : j + 1 - Sg.len (.ar t n xs) with
                      | zero => rw [hh] at h2; simp [dropSg] at h2
                      | succ k => rw [hh] at h2; simp [dropSg] at h2
              -- what the changed row is
              have row : ∀ {cs : List Value}, SgR w h l cs → ∃ k, offQ q + k ≤ cs.length ∧ a.l.length = a.n ∧ j + a.n * a.t.sz ≤ k ∧ RepL (Rep w.F h a.t) a.l ((cs.drop (offQ q + j)).take (a.n * a.t.sz)) ∧
                  ∀ cn : List Value, cn.length ≤ n * a.t.sz → RepL (Rep w.F h a.t) l2 (putC ((cs.drop (offQ q + j)).take (a.n * a.t.sz)) (o * a.t.sz) cn) → l2.length = a.l.length → SgR w h l3 (putC cs (offQ q + j + o * a.t.sz) cn) := by
                intro cs hcs
                obtain ⟨k, g1, g2⟩ := getQ_rep hcs h1 hq
                obtain ⟨g3, g4, g5⟩ := arSg_rep g2 h2
                rw [List.length_take, List.length_drop] at g4
                have ecell : ((cs.drop (offQ q)).take k).drop j = ((cs.drop (offQ q + j)).take (k - j)) := by rw [List.drop_take, List.drop_drop]
                rw [ecell, List.take_take] at g5
                have e1 : min (a.n * a.t.sz) (k - j) = a.n * a.t.sz := by omega
                rw [e1] at g5
                refine ⟨k, g1, g3, by omega, g5, fun cn hcn g6 g7 => ?_⟩
                have hm : o * a.t.sz + n * a.t.sz ≤ a.n * a.t.sz := by rw [← Nat.add_mul]; exact Nat.mul_le_mul_right _ hon
                have hfl : (putC ((cs.drop (offQ q + j)).take (a.n * a.t.sz)) (o * a.t.sz) cn).length = a.n * a.t.sz := by
                  rw [putC_len (by simp; omega)]; simp; omega
                have hnew : SgR w h [.ar a.t a.n l2] (putC ((cs.drop (offQ q + j)).take (a.n * a.t.sz)) (o * a.t.sz) cn) := by
                  simpa using SgR.ar (w := w) (h := h) (n := a.n) (by rw [g7, g3]) g6 .nil
                obtain ⟨_, g8⟩ := setQ_rep2 (j := j) (cn := putC ((cs.drop (offQ q + j)).take (a.n * a.t.sz)) (o * a.t.sz) cn) (fun c0 l1 hc0 e0 => repSg_rep hc0 hnew (by rw [hfl]; rfl) (arSg_drop h2) e0) h1 hcs hl3 hq
                rw [putC_in (by omega) (by omega)] at g8
                exact g8
              cases hv with
              | gl _ _ _ _ _ _ _ b0 m hi hnc =>
                rw [hi] at hp
                cases hp
                rcases hor with ⟨b', cs, gr, e1, e2, e3, e4, e5, e6⟩ | ⟨t2, e1, e2, e3, e4⟩
                · cases e1
                  obtain ⟨k, g1, g3, g4, g5, g6⟩ := row e3
                  have hm : o * a.t.sz + n * a.t.sz ≤ a.n * a.t.sz := by rw [← Nat.add_mul]; exact Nat.mul_le_mul_right _ hon
                  have hOR : ∀ {h'' : Heap} {cs'}, h''[b0]? = some (.row cs' true gr) → SgR w h'' l3 cs' → OR w h'' (.row l3 ng false) (some ⟨b0, 0, none⟩, m) := fun k1 k2 =>
                    .inl ⟨b0, _, gr, rfl, k1, k2, e4, e5.imp (fun x => x) (fun ⟨t, n, xs, e, eg⟩ => let ⟨xs', e'⟩ := shape e; ⟨t, n, xs', e', eg⟩), fun n e => let ⟨t, xs, e⟩ := e6 n e; let ⟨xs', e'⟩ := shape e; ⟨t, xs', e'⟩⟩
                  refine ⟨a, o, n, l2, _, c, _, rfl, hfu, rfl, hlen, by omega, g5, fun k1 k2 => ?_, .inr ⟨id, b0, offQ q + j + o * a.t.sz, cs, gr, rfl, by simp [idV], ⟨m, hi⟩, e2, by omega, fun cn hcn k1 k2 => ?_⟩⟩
                  · have := g6 [] (by simp) (by rw [putC_nil]; exact k1) k2
                    rw [putC_nil] at this
                    exact R.setO hi hfree (hOR e2 this)
                  · have hbl : b0 < h.length := (List.getElem?_eq_some_iff.1 e2).1
                    exact R.upd hi hfree (.inl rfl) fun L => hOR (by rw [List.getElem?_set_self hbl]) ((g6 cn hcn k1 k2).mono L)
                · rcases e3 with e3 | ⟨x, e3, e4⟩
                  · cases e3
                  · cases e3; cases e4
              | gl0 _ _ _ _ _ ad ha0 =>
                rcases hor with ⟨b', cs, gr, e1, e2, e3, e4, e5, e6⟩ | ⟨t2, e1, e2, e3, e4⟩
                · obtain ⟨k, g1, g3, g4, g5, g6⟩ := row e3
                  refine ⟨a, o, 0, l2, _, 0, _, rfl, hfu, rfl, hlen, by omega, g5, fun k1 k2 => ?_, .inl rfl⟩
                  have := g6 [] (by simp) (by rw [putC_nil]; exact k1) k2
                  rw [putC_nil] at this
                  exact R.setO hp hfree (.inl ⟨b', cs, gr, e1, e2, this, e4, e5.imp (fun x => x) (fun ⟨t, n, xs, e, eg⟩ => let ⟨xs', e'⟩ := shape e; ⟨t, n, xs', e', eg⟩), fun n e => let ⟨t, xs, e⟩ := e6 n e; let ⟨xs', e'⟩ := shape e; ⟨t, xs', e'⟩⟩)
                · have hs0 : SgR w h l [] := by subst e1; simpa using SgR.ar (w := w) (h := h) (t := t2) (xs := []) rfl rfl .nil
                  obtain ⟨k, g1, g3, g4, g5, g6⟩ := row hs0
                  refine ⟨a, o, 0, l2, _, 0, _, rfl, hfu, rfl, hlen, by omega, g5, fun k1 k2 => ?_, .inl rfl⟩
                  have hs3 := g6 [] (by simp) (by rw [putC_nil]; exact k1) k2
                  obtain ⟨xs', e'⟩ := shape e1
                  subst e'
                  obtain ⟨k3, k4⟩ := sg_one hs3
                  have : xs' = [] := List.eq_nil_of_length_eq_zero k3
                  subst this
                  exact R.setO hp hfree (.inr ⟨t2, rfl, e2, e3, e4⟩)
            · cases H
          · cases H
        · cases H
      · cases H
    · cases H
  · cases H
end Go.Canon
namespace Go.Canon
set_option linter.unusedVariables false
set_option linter.unusedSimpArgs false
open Go
variable [C0 : Cmb] [CmbOk C0]
variable {G : Nat → List (Sg V)} {w w' w2 : Wd} {h h' h2 : Heap} {vh vh' vh2 : List VO} {α : Type} {r : α} {f : Fr} {fr : Nat → Value} {K : V → List VO → Option α} {wr : List Nat}
theorem lenV_ok (R : HR G w h vh) {x : V} {u : Value} {n : Nat} (hv : VR w h x u) (H : lenV vh x = some n) : ∃ ad c, u = .slice ad n c := by
  unfold lenV at H
  split at H
  · cases H
    cases hv with
    | sl _ _ _ H => rcases H with ⟨e, a, e2, hn⟩ | ⟨b, o, c, row, wr, gr, e, h1, h2, h3, h4, h5⟩
                    · simp only [List.cons.injEq, and_true] at e2; subst e e2; exact ⟨_, _, rfl⟩
                    · simp only [List.cons.injEq, and_true] at e; subst e; exact ⟨_, _, rfl⟩
  · split at H
    · rename_i ho
      cases H
      obtain ⟨a, rfl, _⟩ := gw_rep R.ha hv ho
      exact ⟨_, _, rfl⟩
    · cases H
  · cases H
    cases hv <;> exact ⟨_, _, rfl⟩
  · cases H
    cases hv with
    | k _ _ => exact ⟨_, _, rfl⟩
  · cases H
    cases hv with
    | e0 a ha => exact ⟨_, _, rfl⟩
  · cases H
theorem slice_inj {a a' : Option Addr} {n n' c c' : Nat} (e : Value.slice a n c = .slice a' n' c') : a = a' ∧ n = n' ∧ c = c' := by cases e; exact ⟨rfl, rfl, rfl⟩
theorem rowSet_at {b A : Nat} {cs cn : List Value} {gr : Option Nat} (hb : h[b]? = some (.row cs true gr)) (hl : A + cn.length ≤ cs.length) (hc : cn.all isCell = true) : rowSet h ⟨b, A, none⟩ cn = some (.row (putC cs A cn) true gr) := by
  unfold rowSet
  simp only [hb]
  rw [if_pos ⟨trivial, hl, hc⟩]; rfl
theorem vCpy_ok (R : HR G w h vh) {d s : KO} {sz : Nat} {vd vs : V} (hd : VR w h vd (d.ev fr)) (hs : VR w h vs (s.ev fr)) (H : vCpy vh K vd vs sz = some r) : OpO G w h vh (idV vd) (kop (.cpy d s sz) fr h) K r := by
  unfold vCpy at H
  split at H
  · rename_i nd ns hnd hns
    split at H
    · rename_i b vh' hon
      obtain ⟨hb, H⟩ := grd_some H
      obtain ⟨a, o, n, l2, ad, c, ac, hsz, hfu, hu, hlen, hon2, hac, P0, P1⟩ := onArr_ok R hd hon hb
      subst hsz
      rw [hnd] at hlen
      cases hlen
      split at hfu
      · rename_i bs l' hsrc
        simp only [Option.some.injEq, Prod.mk.injEq] at hfu
        obtain ⟨rfl, rfl⟩ := hfu
        obtain ⟨ad', c', cn, hux, g1, g2⟩ := src_ok R hs hsrc rfl
        obtain ⟨ad2, c2, hu2⟩ := lenV_ok R hs hns
        rw [hux] at hu2
        obtain ⟨rfl, hns', rfl⟩ := slice_inj hu2
        subst hns'
        have hm1 : min l'.length nd ≤ l'.length := Nat.min_le_left _ _
        have hm2 : min l'.length nd ≤ nd := Nat.min_le_right _ _
        obtain ⟨q1, q2⟩ := RepL.cpy (fun _ _ => Rep.len) hac g1 (o := o) (m := min l'.length nd) (by omega) hm1
        have hk : kop (.cpy d s a.t.sz) fr h = kcpy h (.slice ad nd c) (.slice ad' l'.length c') a.t.sz := by simp only [kop, hu, hux]
        rw [hk]
        unfold kcpy
        dsimp only
        by_cases h0 : min l'.length nd * a.t.sz = 0
        · rw [if_pos h0]
          rw [h0, List.take_zero, putC_nil] at q1
          obtain ⟨R', S⟩ := P0 q1 q2
          exact ⟨_, .no, _, _, w, rfl, H, R', S, .i _ _, fun _ _ _ => rfl⟩
        · rw [if_neg h0]
          have hn0 : nd ≠ 0 := by intro e; subst e; simp at h0
          have hf := g2 _ hm1
          rw [hux] at hf
          rw [hf]
          rcases P1 with e | ⟨id, b0, A, cs, gr, rfl, hid, hat, hrow, hA, P1⟩
          · exact (hn0 e).elim
          · have hcl : (cn.take (min l'.length nd * a.t.sz)).length = min l'.length nd * a.t.sz := by
              rw [List.length_take, g1.len fun _ _ => Rep.len]
              have := Nat.mul_le_mul_right a.t.sz hm1
              omega
            have hmm := Nat.mul_le_mul_right a.t.sz hm2
            have hcell : (cn.take (min l'.length nd * a.t.sz)).all isCell = true := by
              have := (g1.take (fun _ _ => Rep.len) (min l'.length nd)).cells fun _ _ => Rep.cells
              exact this
            obtain ⟨R', S⟩ := P1 _ (by rw [hcl]; exact hmm) q1 q2
            refine ⟨.int .i64 (min l'.length nd : Nat), .upd b0 (.row (putC cs A (cn.take (min l'.length nd * a.t.sz))) true gr), _, _, w, ?_, H, R', S, .i _ _, fun x hx hn => ?_⟩
            · have hrs := rowSet_at (A := A) hrow (by rw [hcl]; omega) hcell
              simp only [hrs]
            · exact List.getElem?_set_ne fun e : b0 = x => hn id hid (by subst e; exact hat)
      · cases hfu
    · cases H
  · cases H
theorem rep_replicate {β : Type} {Q : β → List Value → Prop} {y : β} {z : List Value} (H : Q y z) : ∀ n, RepL Q (List.replicate n y) (List.replicate n z).flatten
  | 0 => rfl
  | n + 1 => ⟨z, (List.replicate n z).flatten, by simp [List.replicate_succ], H, rep_replicate H n⟩
theorem flat_len' {z : List Value} (n : Nat) : (List.replicate n z).flatten.length = n * z.length := by simp
theorem vClr_ok (R : HR G w h vh) {x : KO} {z : List Value} {vx : V} (hx : VR w h vx (x.ev fr)) (H : vClr vh K vx z = some r) : OpO G w h vh (idV vx) (kop (.clr x z) fr h) K r := by
  unfold vClr at H
  split at H
  · generalize hu : x.ev fr = u at hx
    cases hx with
    | k _ _ => exact .no R (by simp only [kop, hu]; rw [if_pos (by simp)]) H (.tup _ _ .nil)
  · generalize hu : x.ev fr = u at hx
    cases hx with
    | e0 a ha => exact .no R (by simp only [kop, hu]; rw [if_pos (by simp)]) H (.tup _ _ .nil)
  · obtain ⟨hz, H⟩ := zok_some H
    split at H
    · rename_i b vh' hon
      obtain ⟨hb, H⟩ := grd_some H
      obtain ⟨a, o, n, l2, ad, c, ac, hsz, hfu, hu, hlen, hon2, hac, P0, P1⟩ := onArr_ok R hx hon hb
      split at hfu
      · rename_i y hy
        simp only [Option.some.injEq, Prod.mk.injEq, true_and] at hfu
        subst hfu
        have hr := Fz_nil (lookS_whole (w := w) (h := h) HA.nil (consts_rep hz) hy).1
        have hrl : RepL (Rep w.F h a.t) (List.replicate n y) (List.replicate n z).flatten := rep_replicate hr n
        obtain ⟨q1, q2⟩ := RepL.cpy (fun _ _ => Rep.len) hac hrl (o := o) (m := n) hon2 (by simp)
        have hfl : (List.replicate n z).flatten.length = n * z.length := flat_len' n
        rw [hsz, List.take_of_length_le (by rw [hfl]; exact Nat.le_refl _)] at q1
        have hcell : (List.replicate n z).flatten.all isCell = true := hrl.cells fun _ _ => Rep.cells
        by_cases h0 : n * z.length = 0
        · have hnil : (List.replicate n z).flatten = [] := List.eq_nil_of_length_eq_zero (by omega)
          rw [hnil, putC_nil] at q1
          obtain ⟨R', S⟩ := P0 q1 q2
          exact ⟨.tuple #[], .no, _, _, w, by simp only [kop, hu]; rw [if_pos h0], H, R', S, .tup _ _ .nil, fun _ _ _ => rfl⟩
        · rcases P1 with e | ⟨id, b0, A, cs, gr, rfl, hid, hat, hrow, hA, P1⟩
          · subst e; simp at h0
          · obtain ⟨R', S⟩ := P1 _ (by rw [hfl]; exact Nat.le_refl _) q1 q2
            refine ⟨.tuple #[], .upd b0 (.row (putC cs A (List.replicate n z).flatten) true gr), _, _, w, ?_, H, R', S, .tup _ _ .nil, fun x hx hn => ?_⟩
            · simp only [kop, hu]
              rw [if_neg h0]
              have hrs := rowSet_at (A := A) hrow (by rw [hfl]; exact hA) hcell
              simp only [hrs]
            · exact List.getElem?_set_ne fun e : b0 = x => hn id hid (by subst e; exact hat)
      · cases hfu
    · cases H
theorem kinds_len : ∀ {t : Ty} {ks : List Nat}, kinds t = some ks → ks.length = t.sz := by
  intro t
  induction t with
  | int => intro ks e; cases e; rfl
  | bool => intro ks e; cases e; rfl
  | str => intro ks e; cases e; rfl
  | unit => intro ks e; cases e; rfl
  | pair a b iha ihb =>
    intro ks e
    simp only [kinds] at e
    split at e
    · rename_i x y hx hy; cases e; rw [List.length_append, iha hx, ihb hy]; rfl
    · cases e
  | arr n t ih =>
    intro ks e
    simp only [kinds, Option.map_eq_some_iff] at e
    obtain ⟨x, hx, rfl⟩ := e
    simp [ih hx, Ty.sz]
  | _ => intro ks e; simp [kinds] at e
theorem cellsEq_append : ∀ {k1 k2 : List Nat} {a1 a2 b1 b2 : List Value} {x y : Bool}, a1.length = k1.length → b1.length = k1.length → cellsEq k1 a1 b1 = some x → cellsEq k2 a2 b2 = some y → cellsEq (k1 ++ k2) (a1 ++ a2) (b1 ++ b2) = some (x && y)
  | [], k2, a1, a2, b1, b2, x, y, h1, h2, h3, h4 => by
    have : a1 = [] := List.eq_nil_of_length_eq_zero h1
    have : b1 = [] := List.eq_nil_of_length_eq_zero h2
    subst_vars
    simp only [cellsEq] at h3
    cases h3
    simpa using h4
  | k :: k1, k2, a :: a1, a2, b :: b1, b2, x, y, h1, h2, h3, h4 => by
    simp only [cellsEq, List.cons_append] at h3 ⊢
    split at h3
    · rename_i p q hp hq
      cases h3
      rw [hp, cellsEq_append (by simpa using h1) (by simpa using h2) hq h4]
      simp [Bool.and_assoc]
    · cases h3
  | k :: k1, _, [], _, _, _, _, _, h1, _, _, _ => by simp at h1
  | k :: k1, _, _ :: _, _, [], _, _, _, _, h2, _, _ => by simp at h2
/-- Two keys, cell by cell. -/
theorem keq_cells : ∀ {t : Ty} {ks : List Nat}, kinds t = some ks → ∀ {x y : El t} {a b : List Value}, Rep w.F h t x a → Rep w'.F h' t y b → cellsEq ks a b = some (keq t x y) := by
  intro t
  induction t with
  | int k => intro ks e x y a b h1 h2; cases e; cases h1; cases h2; simp [cellsEq, cellEq, keq]
  | bool => intro ks e x y a b h1 h2; cases e; cases h1; cases h2; simp [cellsEq, cellEq, keq]
  | str => 
    intro ks e x y a b h1 h2; cases e; cases h1; cases h2
    simp [cellsEq, cellEq, keq]
  | unit => intro ks e x y a b h1 h2; cases e; cases h1; cases h2; simp [cellsEq, keq]
  | pair p q ihp ihq =>
    intro ks e x y a b h1 h2
    simp only [kinds] at e
    split at e
    · rename_i k1 k2 e1 e2
      cases e
      obtain ⟨a1, a2, rfl, h3, h4⟩ := h1
      obtain ⟨b1, b2, rfl, h5, h6⟩ := h2
      rw [cellsEq_append (by rw [h3.len, kinds_len e1]) (by rw [h5.len, kinds_len e1]) (ihp e1 h3 h5) (ihq e2 h4 h6)]; rfl
    · cases e
  | arr n t ih =>
    intro ks e x y a b h1 h2
    simp only [kinds, Option.map_eq_some_iff] at e
    obtain ⟨k1, e1, rfl⟩ := e
    obtain ⟨hn, h1⟩ := h1
    obtain ⟨hm, h2⟩ := h2
    have key : ∀ {n : Nat} {x y : List (El t)} {a b : List Value}, x.length = n → y.length = n → RepL (Rep w.F h t) x a → RepL (Rep w'.F h' t) y b → cellsEq (List.replicate n k1).flatten a b = some (keq.keqL (keq t) x y) := by
      intro n
      induction n with
      | zero =>
        intro x y a b g1 g2 g3 g4
        have : x = [] := List.eq_nil_of_length_eq_zero g1
        have : y = [] := List.eq_nil_of_length_eq_zero g2
        subst_vars
        simp [cellsEq, keq.keqL]
      | succ n ihn =>
        intro x y a b g1 g2 g3 g4
        cases x with
        | nil => simp at g1
        | cons x xs =>
          cases y with
          | nil => simp at g2
          | cons y ys =>
            obtain ⟨a1, a2, rfl, g5, g6⟩ := g3
            obtain ⟨b1, b2, rfl, g7, g8⟩ := g4
            rw [List.replicate_succ, List.flatten_cons, cellsEq_append (by rw [g5.len, kinds_len e1]) (by rw [g7.len, kinds_len e1]) (ih e1 g5 g7) (ihn (by simpa using g1) (by simpa using g2) g6 g8)]
            rfl
    exact key hn hm h1 h2
  | _ => intro ks e; simp [kinds] at e
end Go.Canon
namespace Go.Canon
set_option linter.unusedVariables false
set_option linter.unusedSimpArgs false
open Go
variable [C0 : Cmb] [CmbOk C0]
variable {G : Nat → List (Sg V)} {w w' w2 : Wd} {h h' h2 : Heap} {vh vh' vh2 : List VO} {α : Type} {r : α} {f : Fr} {fr : Nat → Value} {K : V → List VO → Option α} {wr : List Nat}
abbrev KR1 (w : Wd) (h : Heap) (k : Ty) : El k → Value → Prop := fun x u => ∃ cs, u = vals k cs ∧ Rep w.F h k x cs
theorem kdOf_wide {k : Ty} {kd : Nat} (e : kdOf k = some kd) : (k.wide = false ∧ ((∃ i, k = .int i) ∧ kd = 1 ∨ k = .bool ∧ kd = 0 ∨ k = .str ∧ kd = 2)) ∨ (∃ ks, kinds k = some ks ∧ ksOf kd = ks ∧ 3 ≤ kd ∧ k.wide = true) := by
  cases k with
  | int i => cases e; exact .inl ⟨rfl, .inl ⟨⟨i, rfl⟩, rfl⟩⟩
  | bool => cases e; exact .inl ⟨rfl, .inr (.inl ⟨rfl, rfl⟩)⟩
  | str => cases e; exact .inl ⟨rfl, .inr (.inr ⟨rfl, rfl⟩)⟩
  | _ =>
    simp only [kdOf, Option.bind_eq_some_iff] at e
    obtain ⟨ks, h1, h2⟩ := e
    split at h2
    · rename_i h3
      cases h2
      refine .inr ⟨ks, h1, h3, ?_, ?_⟩
      · unfold codeK; omega
      · first | rfl | (simp [kinds] at h1)
    · cases h2
theorem key_eq {k : Ty} {kd : Nat} (e : kdOf k = some kd) {x y : El k} {a b : Value} (h1 : KR1 w h k x a) (h2 : KR1 w' h' k y b) : keyEq kd a b = some (keq k x y) := by
  obtain ⟨ca, rfl, h1⟩ := h1
  obtain ⟨cb, rfl, h2⟩ := h2
  rcases kdOf_wide e with ⟨hw, ⟨⟨i, rfl⟩, rfl⟩ | ⟨rfl, rfl⟩ | ⟨rfl, rfl⟩⟩ | ⟨ks, hk, hks, hkd, hw⟩
  · cases h1; cases h2; simp [keyEq, vals, cellEq, keq]
  · cases h1; cases h2; simp [keyEq, vals, cellEq, keq]
  · cases h1; cases h2; simp [keyEq, vals, cellEq, keq]
  · rw [vals_wide hw, vals_wide hw]
    unfold keyEq
    rw [if_neg (by omega)]
    simp only [hks]
    rw [if_pos ⟨by simp [h1.len, kinds_len hk], by simp [h2.len, kinds_len hk]⟩]
    exact keq_cells hk h1 h2
theorem key_flat : ∀ {k : Ty}, k.key = true → ∀ {x : El k} {cs : List Value}, Rep w.F h k x cs → cs.all flat0 = true := by
  intro k
  induction k with
  | int k => intro _ x cs e; cases e; rfl
  | bool => intro _ x cs e; cases e; rfl
  | str => intro _ x cs e; cases e; rfl
  | unit => intro _ x cs e; cases e; rfl
  | pair a b iha ihb =>
    intro hk x cs H
    simp only [Ty.key, Bool.and_eq_true] at hk
    obtain ⟨c1, c2, rfl, h1, h2⟩ := H
    rw [List.all_append, iha hk.1 h1, ihb hk.2 h2]; rfl
  | arr n t ih =>
    intro hk x cs H
    obtain ⟨_, H⟩ := H
    have : ∀ {l : List (El t)} {cs : List Value}, RepL (Rep w.F h t) l cs → cs.all flat0 = true := by
      intro l
      induction l with
      | nil => intro cs H; cases H; rfl
      | cons x l ihl => rintro cs ⟨c1, c2, rfl, h1, h2⟩; rw [List.all_append, ih hk h1, ihl h2]; rfl
    exact this H
  | _ => intro hk; simp [Ty.key] at hk
theorem key_is {k : Ty} {kd : Nat} (e : kdOf k = some kd) (hk : k.key = true) {x : El k} {a : Value} (h1 : KR1 w h k x a) : isKey kd a = true := by
  obtain ⟨ca, rfl, h1⟩ := h1
  have hf := key_flat hk h1
  rcases kdOf_wide e with ⟨hw, ⟨⟨i, rfl⟩, rfl⟩ | ⟨rfl, rfl⟩ | ⟨rfl, rfl⟩⟩ | ⟨ks, hks, hk2, hkd, hw⟩
  · cases h1; rfl
  · cases h1; rfl
  · cases h1; rfl
  · rw [vals_wide hw]
    have hs : ca.length = ks.length := by rw [h1.len, kinds_len hks]
    obtain ⟨m, rfl⟩ : ∃ m, kd = m + 3 := ⟨kd - 3, by omega⟩
    simp only [isKey, hk2, List.size_toArray, hs, beq_self_eq_true, Bool.true_and, Bool.and_eq_true, decide_eq_true_eq]
    exact ⟨by omega, hf⟩
theorem findM_rep {k v : Ty} {kd : Nat} (e : kdOf k = some kd) {x : El k} {ku : Value} (hx : KR1 w' h' k x ku) : ∀ {l : List (El k × El v)} {ms : List MapEntry} {i : Nat}, EnR (KR1 w h k) (KR1 w h v) i l ms → ∀ j,
    (findM x l j = none ∧ findK kd ku ms j = some none) ∨ ∃ n y u, findM x l j = some (n, y) ∧ findK kd ku ms j = some (some (n, u)) ∧ KR1 w h v y u ∧ j ≤ n ∧ n < j + l.length ∧ (l[n - j]?).map (·.2) = some y
  | [], ms, i, H, j => by cases H; exact .inl ⟨rfl, rfl⟩
  | p :: l, ms, i, ⟨m, ms', e1, e2, e3, e4, e5⟩, j => by
    subst e1
    have hk := key_eq e hx e3
    cases hq : keq k x p.1 with
    | true =>
      refine .inr ⟨j, p.2, m.val, by simp only [findM, hq, cond_true], ?_, e4, Nat.le_refl _, by simp, by simp⟩
      rw [hq] at hk
      simp only [findK, hk]
    | false =>
      rw [hq] at hk
      rcases findM_rep e hx e5 (j + 1) with ⟨g1, g2⟩ | ⟨n, y, u, g1, g2, g3, g4, g5, g6⟩
      · exact .inl ⟨by simp only [findM, hq, cond_false]; exact g1, by simp only [findK, hk]; exact g2⟩
      · refine .inr ⟨n, y, u, by simp only [findM, hq, cond_false]; exact g1, by simp only [findK, hk]; exact g2, g3, by omega, by simp; omega, ?_⟩
        obtain ⟨d, rfl⟩ : ∃ d, n = j + 1 + d := ⟨n - (j + 1), by omega⟩
        have e6 : j + 1 + d - j = d + 1 := by omega
        have e7 : j + 1 + d - (j + 1) = d := by omega
        rw [e6, List.getElem?_cons_succ]
        rw [e7] at g6; exact g6
theorem EnR.len {α β : Type} {K : α → Value → Prop} {R : β → Value → Prop} : ∀ {i : Nat} {l : List (α × β)} {ms : List MapEntry}, EnR K R i l ms → ms.length = l.length
  | _, [], _, h => by cases h; rfl
  | i, x :: l, _, ⟨m, ms', e, _, _, _, d⟩ => by rw [e]; simp [EnR.len d]
theorem EnR.snoc {α β : Type} {K : α → Value → Prop} {R : β → Value → Prop} {a : α} {b : β} {ka vb : Value} (ha : K a ka) (hb : R b vb) : ∀ {i : Nat} {l : List (α × β)} {ms : List MapEntry}, EnR K R i l ms → EnR K R i (l ++ [(a, b)]) (ms ++ [{ key := ka, val := vb, born := i + l.length }])
  | i, [], _, h => by cases h; exact ⟨_, [], rfl, rfl, ha, hb, rfl⟩
  | i, x :: l, _, ⟨m, ms', e, h1, h2, h3, h4⟩ => by
    subst e
    have := h4.snoc ha hb
    have e2 : i + 1 + l.length = i + (x :: l).length := by simp; omega
    rw [e2] at this
    exact ⟨m, _, rfl, h1, h2, h3, this⟩
/-- An entry changed. -/
theorem EnR.mod {α β : Type} {K : α → Value → Prop} {R : β → Value → Prop} {g : MapEntry → MapEntry} {gl : α × β → α × β} (hb : ∀ e, (g e).born = e.born) : ∀ {i : Nat} {l : List (α × β)} {ms : List MapEntry} {n : Nat},
    EnR K R i l ms → (∀ p m, l[n]? = some p → K p.1 m.key → R p.2 m.val → K (gl p).1 (g m).key ∧ R (gl p).2 (g m).val) → EnR K R i (l.modify n gl) (ms.modify n g)
  | i, [], _, n, h, _ => by cases h; cases n <;> rfl
  | i, x :: l, _, 0, ⟨m, ms', e, h1, h2, h3, h4⟩, hg => by
    subst e
    obtain ⟨q1, q2⟩ := hg x m rfl h2 h3
    exact ⟨g m, ms', rfl, (hb m).trans h1, q1, q2, h4⟩
  | i, x :: l, _, n + 1, ⟨m, ms', e, h1, h2, h3, h4⟩, hg => by
    subst e
    exact ⟨m, _, rfl, h1, h2, h3, h4.mod hb fun p m e => hg p m (by simpa using e)⟩
theorem set_modify {β : Type} {l : List β} {n : Nat} {x : β} : l.set n x = l.modify n fun _ => x := by
  induction l generalizing n with
  | nil => cases n <;> rfl
  | cons y l ih => cases n with
    | zero => rfl
    | succ n => simp [ih]
theorem EnR.born {α β : Type} {K : α → Value → Prop} {R : β → Value → Prop} : ∀ {i : Nat} {l : List (α × β)} {ms : List MapEntry} {n : Nat}, EnR K R i l ms → n < l.length → (ms[n]?).map (·.born) = some (i + n)
  | i, [], _, n, h, hn => by simp at hn
  | i, x :: l, _, 0, ⟨m, ms', e, h1, _, _, _⟩, hn => by subst e; simp [h1]
  | i, x :: l, _, n + 1, ⟨m, ms', e, h1, h2, h3, h4⟩, hn => by
    subst e
    have := h4.born (n := n) (by simpa using hn)
    rw [List.getElem?_cons_succ, this]; congr 1; omega
theorem EnR.idx {α β : Type} {K : α → Value → Prop} {R : β → Value → Prop} {z : Int} : ∀ {i : Nat} {l : List (α × β)} {ms : List MapEntry}, EnR K R i l ms → i ≤ z → z < i + l.length → ms.findIdx? (fun e => (e.born : Int) == z) = some (z.toNat - i)
  | i, [], _, h, h1, h2 => by simp at h2; omega
  | i, x :: l, _, ⟨m, ms', e, g1, _, _, g4⟩, h1, h2 => by
    subst e
    rw [List.findIdx?_cons]
    by_cases hz : (i : Int) = z
    · rw [g1]
      have : ((i : Int) == z) = true := by simp [hz]
      rw [this]
      simp; omega
    · rw [g1]
      have : ((i : Int) == z) = false := by simp [hz]
      rw [this]
      simp only [List.length_cons] at h2
      rw [g4.idx (by omega) (by omega)]
      simp; omega
/-- A map of one's own. -/
theorem om_row (R : HR G w h vh) {id : Nat} {k v : Ty} {l : List (El k × El v)} {lk : Bool} {u : Value} (hv : VR w h (.om id) u) (ho : objAt vh id = .mp k v l lk) : ∃ b m ms, u = .map (some b) ∧ w.ι[id]? = some (some ⟨b, 0, none⟩, m) ∧ h[b]? = some (.map ms l.length) ∧ EnR (KR1 w h k) (KR1 w h v) 0 l ms := by
  obtain ⟨p, hp, b, ms, e1, e2, e3⟩ := R.at ho rfl
  cases hv with
  | om _ b' m hi =>
    rw [hi] at hp
    cases hp
    cases e1
    exact ⟨b, m, ms, rfl, hi, e2, e3⟩
theorem kr1_look (R : HA w h vh) {t : Ty} {v : V} {u : Value} {x : El t} {i : List Nat} (hv : VR w h v u) (he : lookV vh t v = some (x, i)) : KR1 (w.fz i) h t x u := let ⟨cs, h1, _, h2, _⟩ := lookV_rep R hv he; ⟨cs, h1, h2⟩
theorem kr1_nil {t : Ty} {v : V} {u : Value} {x : El t} {i : List Nat} (hv : VR w h v u) (he : lookV [] t v = some (x, i)) : KR1 w h t x u := by
  obtain ⟨cs, h1, _, h2, h3⟩ := lookV_rep HA.nil hv he
  refine ⟨cs, h1, ?_⟩
  cases i with
  | nil => exact Fz_nil h2
  | cons a i => have := h3 a (by simp); simp [objAt] at this; cases this
theorem kr1_enc {t : Ty} {u : Value} {x : El t} (H : KR1 w h t x u) : VR w h (encV t x) u := by
  obtain ⟨cs, rfl, H⟩ := H; exact encV_rep H
theorem vLk_ok (R : HR G w h vh) {kd : Nat} {m k : KO} {z : Value} {ok : Bool} {vm vk : V} (hm : VR w h vm (m.ev fr)) (hk : VR w h vk (k.ev fr)) (H : vLk vh K kd vm vk z ok = some r) : OpO G w h vh wr (kop (.lk kd m k z ok) fr h) K r := by
  have go : ∀ {kt vt : Ty} {l : List (El kt × El vt)}, vLk.go vh K kd vk z ok kt vt l = some r → (∀ kd' ku, kdOf kt = some kd' → kt.key = true → (∃ x, KR1 w h kt x ku) → ku = k.ev fr → True) →
      ((l = [] ∧ m.ev fr = .map none) ∨ ∃ b ms, m.ev fr = .map (some b) ∧ h[b]? = some (.map ms l.length) ∧ EnR (KR1 w h kt) (KR1 w h vt) 0 l ms) → OpO G w h vh wr (kop (.lk kd m k z ok) fr h) K r := by
    intro kt vt l H2 _ hmm
    unfold vLk.go at H2
    split at H2
    · rename_i hkd
      split at H2
      · rename_i x _ y _ hx hy
        have kx := kr1_nil hk hx
        have ky := kr1_nil (const1_rep (w := w) (h := h) z) hy
        have hik := key_is hkd.1 hkd.2 kx
        have fin : ∀ u : Value, KR1 w h vt (atM x y l) u → ∀ bb : Bool, bb = hasM x l → kop (.lk kd m k z ok) fr h = some (.val (if ok then .tuple #[u, .bool bb] else u) .no) → OpO G w h vh wr (kop (.lk kd m k z ok) fr h) K r := by
          intro u hu bb hbb hkk
          subst hbb
          refine .no R hkk H2 ?_
          cases ok with
          | true => exact .tup _ _ (.cons (kr1_enc hu) (.cons (.b _) .nil))
          | false => exact kr1_enc hu
        rcases hmm with ⟨rfl, hmu⟩ | ⟨b, ms, hmu, hb, hen⟩
        · refine fin z (by simpa [atM, findM] using ky) false (by simp [hasM, findM]) ?_
          simp only [kop, hik, if_true, hmu]
        · rcases findM_rep hkd.1 kx hen 0 with ⟨g1, g2⟩ | ⟨n, y', u, g1, g2, g3, g4, g5, g6⟩
          · refine fin z (by simp only [atM, g1]; exact ky) false (by simp [hasM, g1]) ?_
            simp only [kop, hik, if_true, hmu, hb, g2]
          · refine fin u (by simp only [atM, g1]; exact g3) true (by simp [hasM, g1]) ?_
            simp only [kop, hik, if_true, hmu, hb, g2]
      · cases H2
    · cases H2
  unfold vLk at H
  split at H
  · rename_i kt vt l
    refine go H (fun _ _ _ _ _ _ => trivial) ?_
    generalize m.ev fr = u at hm
    cases hm with
    | mp _ _ _ _ H =>
      rcases H with ⟨e, e2⟩ | ⟨b, ms, e, h1, h2, h3⟩
      · simp only [List.cons.injEq, and_true] at e2; exact .inl ⟨e, e2⟩
      · simp only [List.cons.injEq, and_true] at e; exact .inr ⟨b, ms, e, h2, h3⟩
  · rename_i id
    split at H
    · rename_i kt vt l lk ho
      refine go H (fun _ _ _ _ _ _ => trivial) ?_
      obtain ⟨b, m', ms, e1, e2, e3, e4⟩ := om_row R hm ho
      exact .inr ⟨b, ms, e1, e3, e4⟩
    · cases H
  · cases H
theorem vIns_ok (R : HR G w h vh) {kd : Nat} {m k v : KO} {vm vk vv : V} (hm : VR w h vm (m.ev fr)) (hk : VR w h vk (k.ev fr)) (hv : VR w h vv (v.ev fr)) (H : vIns vh K kd vm vk vv = some r) : OpO G w h vh (idV vm) (kop (.ins kd m k v) fr h) K r := by
  unfold vIns at H
  split at H
  · rename_i id
    split at H
    · rename_i kt vt l ho
      split at H
      · rename_i hkd
        split at H
        · rename_i x _ y vh' hx hy
          split at H
          · rename_i kt' vt' l' lk' ho'
            obtain ⟨i, hy1, hfr, rfl⟩ := frz_some hy
            have kx := kr1_nil hk hx
            have ky := kr1_look R.ha hv hy1
            have hik := key_is hkd.1 hkd.2 kx
            obtain ⟨b, mm, ms, e1, e2, e3, e4⟩ := om_row R hm ho
            obtain ⟨R1, S1⟩ := R.frz hfr
            have L1 := S1.wle R
            have hni : id ∉ i := fun hh => by rw [objAt_kill, if_pos hh] at ho'; cases ho'
            have ho2 : objAt (kill i vh) id = .mp kt vt l false := by rw [objAt_kill, if_neg hni]; exact ho
            have hbl : b < h.length := (List.getElem?_eq_some_iff.1 e3).1
            have m1 : ∀ {t : Ty} {x : El t} {u : Value}, KR1 w h t x u → KR1 (w.fz i) h t x u := fun ⟨cs, e, a⟩ => ⟨cs, e, L1.rep a⟩
            have hen : EnR (KR1 (w.fz i) h kt) (KR1 (w.fz i) h vt) 0 l ms := e4.mono (fun _ _ => m1) fun _ _ => m1
            have kx1 := m1 kx
            -- the new entries
            have key : ∀ ms', EnR (KR1 (w.fz i) h kt) (KR1 (w.fz i) h vt) 0 (insM x y l) ms' → HR G (w.fz i) (h.set b (.map ms' (insM x y l).length)) ((kill i vh).set id (.mp kt vt (insM x y l) false)) ∧ Stp2 (w.fz i) h (kill i vh) (w.fz i) (h.set b (.map ms' (insM x y l).length)) ((kill i vh).set id (.mp kt vt (insM x y l) false)) := fun ms' hms =>
              R1.upd (m := mm) e2 (by rw [ho2]; rfl) (.inl rfl) fun L => ⟨b, ms', rfl, by rw [List.getElem?_set_self hbl], hms.mono (fun _ _ ⟨cs, e, a⟩ => ⟨cs, e, L.rep a⟩) fun _ _ ⟨cs, e, a⟩ => ⟨cs, e, L.rep a⟩⟩
            have fin : ∀ ms', EnR (KR1 (w.fz i) h kt) (KR1 (w.fz i) h vt) 0 (insM x y l) ms' → kop (.ins kd m k v) fr h = some (.val undef (.upd b (.map ms' (insM x y l).length))) → OpO G w h vh (idV (.om id)) (kop (.ins kd m k v) fr h) K r := fun ms' hms hkk => by
              obtain ⟨R2, S2⟩ := key ms' hms
              exact ⟨undef, _, .tup [], _, _, hkk, H, R2, S1.trans S2, .tup _ _ .nil, fun c hc hn => List.getElem?_set_ne fun e : b = c => hn id (by simp [idV]) (by subst e; exact ⟨mm, e2⟩)⟩
            rcases findM_rep hkd.1 kx e4 0 with ⟨g1, g2⟩ | ⟨n, y', u, g1, g2, g3, g4, g5, g6⟩
            · have hins : insM x y l = l ++ [(x, y)] := by simp only [insM, g1]
              have hms := hen.snoc kx1 ky
              rw [← hins, Nat.zero_add] at hms
              refine fin _ hms ?_
              simp only [kop, e1, e3, hik, if_true, g2, hins, List.length_append, List.length_cons, List.length_nil, Nat.zero_add]
            · have hins : insM x y l = l.set n (x, y) := by simp only [insM, g1]
              have hms : EnR (KR1 (w.fz i) h kt) (KR1 (w.fz i) h vt) 0 (insM x y l) (ms.modify n fun e => { e with key := k.ev fr, val := v.ev fr }) := by
                rw [hins, set_modify]
                exact EnR.mod (g := fun e => { e with key := k.ev fr, val := v.ev fr }) (gl := fun _ => (x, y)) (fun _ => rfl) hen fun _ _ _ _ _ => ⟨kx1, ky⟩
              refine fin _ hms ?_
              simp only [kop, e1, e3, hik, if_true, g2, hins, List.length_set]
          · cases H
        · cases H
      · cases H
    · cases H
  · cases H
theorem vMent_ok (R : HR G w h vh) {kd : Nat} {m k : KO} {z : Value} {vm vk : V} (hm : VR w h vm (m.ev fr)) (hk : VR w h vk (k.ev fr)) (H : vMent vh K kd vm vk z = some r) : OpO G w h vh (idV vm) (kop (.ment kd m k z) fr h) K r := by
  unfold vMent at H
  split at H
  · rename_i id
    split at H
    · rename_i kt vt l ho
      split at H
      · rename_i hkd
        split at H
        · rename_i x _ y _ hx hy
          have kx := kr1_nil hk hx
          have ky := kr1_nil (const1_rep (w := w) (h := h) z) hy
          have hik := key_is hkd.1 hkd.2 kx
          obtain ⟨b, mm, ms, e1, e2, e3, e4⟩ := om_row R hm ho
          have hbl : b < h.length := (List.getElem?_eq_some_iff.1 e3).1
          have fin : ∀ ms' u, EnR (KR1 w h kt) (KR1 w h vt) 0 (insM x (atM x y l) l) ms' → KR1 w h vt (atM x y l) u → kop (.ment kd m k z) fr h = some (.val (.tuple #[u, .int .i64 (posM x l : Nat)]) (.upd b (.map ms' (insM x (atM x y l) l).length))) → OpO G w h vh (idV (.om id)) (kop (.ment kd m k z) fr h) K r := fun ms' u hms hu hkk => by
            obtain ⟨R2, S2⟩ := R.upd (o := .mp kt vt (insM x (atM x y l) l) false) (co := .map ms' (insM x (atM x y l) l).length) e2 (by rw [ho]; rfl) (.inl rfl) fun L => ⟨b, ms', rfl, by rw [List.getElem?_set_self hbl], hms.mono (fun _ _ ⟨cs, e, a⟩ => ⟨cs, e, L.rep a⟩) fun _ _ ⟨cs, e, a⟩ => ⟨cs, e, L.rep a⟩⟩
            refine ⟨_, _, _, _, _, hkk, H, R2, S2, ?_, fun c hc hn => List.getElem?_set_ne fun e : b = c => hn id (by simp [idV]) (by subst e; exact ⟨mm, e2⟩)⟩
            exact .tup _ _ (.cons ((kr1_enc hu).mono (S2.wle R)) (.cons (.i _ _) .nil))
          rcases findM_rep hkd.1 kx e4 0 with ⟨g1, g2⟩ | ⟨n, y', u, g1, g2, g3, g4, g5, g6⟩
          · have hat : atM x y l = y := by simp only [atM, g1]; rfl
            have hins : insM x (atM x y l) l = l ++ [(x, y)] := by simp only [insM, g1, hat]
            have hpos : posM x l = l.length := by simp only [posM, g1]
            have hms := e4.snoc kx ky
            rw [← hins, Nat.zero_add] at hms
            refine fin _ z hms (by rw [hat]; exact ky) ?_
            simp only [kop, e1, e3, hik, if_true, g2, hins, hpos, List.length_append, List.length_cons, List.length_nil, Nat.zero_add]
          · have hat : atM x y l = y' := by simp only [atM, g1]; rfl
            have hins : insM x (atM x y l) l = l.set n (x, y') := by simp only [insM, g1, hat]
            have hpos : posM x l = n := by simp only [posM, g1]
            have hn : n < l.length := by omega
            have hms : EnR (KR1 w h kt) (KR1 w h vt) 0 (insM x (atM x y l) l) (ms.modify n fun e => { e with key := k.ev fr }) := by
              rw [hins, set_modify]
              refine EnR.mod (g := fun e => { e with key := k.ev fr }) (gl := fun _ => (x, y')) (fun _ => rfl) e4 fun p m' hp h1 h2 => ⟨kx, ?_⟩
              rw [Nat.sub_zero, hp] at g6
              simp at g6
              rw [← g6]; exact h2
            refine fin _ u hms (by rw [hat]; exact g3) ?_
            have hb := e4.born hn
            rw [Nat.zero_add] at hb
            have hb2 : ((ms[n]?).map fun x => (x.born : Int)) = some (n : Int) := by
              cases hq : ms[n]? with
              | none => rw [hq] at hb; cases hb
              | some q => rw [hq] at hb; simp at hb; simp [hb]
            simp only [kop, e1, e3, hik, if_true, g2, hins, hpos, List.length_set, hb2, Option.getD_some]
        · cases H
      · cases H
    · cases H
  · cases H
theorem vMset_ok (R : HR G w h vh) {m s v : KO} {vm vs vv : V} (hm : VR w h vm (m.ev fr)) (hs : VR w h vs (s.ev fr)) (hv : VR w h vv (v.ev fr)) (H : vMset vh K vm vs vv = some r) : OpO G w h vh (idV vm) (kop (.mset m s v) fr h) K r := by
  unfold vMset at H
  split at H
  · rename_i id k z
    split at H
    · rename_i kt vt l ho
      split at H
      · rename_i y vh' hy
        split at H
        · rename_i kt' vt' l' lk' ho'
          obtain ⟨hz, H⟩ := grd_some H
          obtain ⟨z0, z1⟩ := inB_iff hz
          obtain ⟨i, hy1, hfr, rfl⟩ := frz_some hy
          have ky := kr1_look R.ha hv hy1
          obtain ⟨b, mm, ms, e1, e2, e3, e4⟩ := om_row R hm ho
          obtain ⟨R1, S1⟩ := R.frz hfr
          have L1 := S1.wle R
          have hni : id ∉ i := fun hh => by rw [objAt_kill, if_pos hh] at ho'; cases ho'
          have ho2 : objAt (kill i vh) id = .mp kt vt l false := by rw [objAt_kill, if_neg hni]; exact ho
          have hbl : b < h.length := (List.getElem?_eq_some_iff.1 e3).1
          have m1 : ∀ {t : Ty} {x : El t} {u : Value}, KR1 w h t x u → KR1 (w.fz i) h t x u := fun ⟨cs, e, a⟩ => ⟨cs, e, L1.rep a⟩
          have hen : EnR (KR1 (w.fz i) h kt) (KR1 (w.fz i) h vt) 0 l ms := e4.mono (fun _ _ => m1) fun _ _ => m1
          have hms : EnR (KR1 (w.fz i) h kt) (KR1 (w.fz i) h vt) 0 (l.modify z.toNat fun e => (e.1, y)) (ms.modify z.toNat fun e => { e with val := v.ev fr }) :=
            EnR.mod (g := fun e => { e with val := v.ev fr }) (gl := fun e => (e.1, y)) (fun _ => rfl) hen fun _ _ _ h1 _ => ⟨h1, ky⟩
          obtain ⟨R2, S2⟩ := R1.upd (o := .mp kt vt (l.modify z.toNat fun e => (e.1, y)) false) (co := .map (ms.modify z.toNat fun e => { e with val := v.ev fr }) (l.modify z.toNat fun e => (e.1, y)).length) e2 (by rw [ho2]; rfl) (.inl rfl) fun L => ⟨b, _, rfl, by rw [List.getElem?_set_self hbl], hms.mono (fun _ _ ⟨cs, e, a⟩ => ⟨cs, e, L.rep a⟩) fun _ _ ⟨cs, e, a⟩ => ⟨cs, e, L.rep a⟩⟩
          generalize hsu : s.ev fr = u at hs
          cases hs
          have hidx := e4.idx (z := z) (by omega) (by omega)
          rw [Nat.sub_zero] at hidx
          refine ⟨undef, .upd b (.map (ms.modify z.toNat fun e => { e with val := v.ev fr }) (l.modify z.toNat fun e => (e.1, y)).length), .tup [], _, _, ?_, H, R2, S1.trans S2, .tup _ _ .nil, fun c hc hn => List.getElem?_set_ne fun e : b = c => hn id (by simp [idV]) (by subst e; exact ⟨mm, e2⟩)⟩
          simp only [kop, e1, hsu, e3, hidx, List.length_modify]
        · cases H
      · cases H
    · cases H
  · cases H
end Go.Canon
namespace Go.Canon
set_option linter.unusedVariables false
set_option linter.unusedSimpArgs false
open Go
variable [C0 : Cmb] [CmbOk C0]
variable {G : Nat → List (Sg V)} {w w' w2 : Wd} {h h' h2 : Heap} {vh vh' vh2 : List VO} {α : Type} {r : α} {f : Fr} {fr : Nat → Value} {K : V → List VO → Option α} {wr : List Nat}
theorem isNilV_ok {kd : Nat} {v : V} {u : Value} {b : Bool} (hv : VR w h v u) (H : isNilV kd v = some b) : isNil kd u = some b := by
  unfold isNilV at H
  split at H <;> try (cases H; done)
  all_goals (first | (cases H) | skip)
  all_goals (cases hv)
  all_goals first | rfl | skip
  rename_i x Hr
  cases x with
  | none => cases Hr; rfl
  | some x => obtain ⟨b, o, row, wr, e, _⟩ := Hr; cases e; rfl
theorem nilU_ok (R : HR G w h vh) {v : V} {u : Value} {b : Bool} (hv : VR w h v u) (H : nilU vh v = some b) : ∃ c, isNil 0 u = some c ∧ (b = false → c = false) := by
  unfold nilU at H
  split at H
  · rename_i t l
    cases H
    cases hv with
    | sl _ _ v Hr =>
      rcases Hr with ⟨e, a, e2, _⟩ | ⟨b, o, c, row, wr, gr, e, _⟩
      · cases e2; subst e; exact ⟨a.isNone, rfl, fun h => by cases h⟩
      · cases e; exact ⟨false, rfl, fun _ => rfl⟩
  · rename_i id
    split at H
    · rename_i t n l ng lk ho
      cases H
      cases hv with
      | gw _ a m hi =>
        refine ⟨a.isNone, rfl, fun hf => ?_⟩
        obtain ⟨p, hp, hor⟩ := R.at ho rfl
        rw [hi] at hp; cases hp
        rcases hor with ⟨b, cs, gr, e1, e2, e3, e4, e5, e6⟩ | ⟨t', e1, e2, e3, e4⟩
        · cases e1; rfl
        · exfalso
          simp only [List.cons.injEq, Sg.ar.injEq, and_true] at e1
          obtain ⟨_, hn, _⟩ := e1
          subst hn; subst e4
          cases hf
    · cases H
  · cases H
    cases hv with
    | e0 a ha => exact ⟨a.isNone, rfl, fun h => by cases h⟩
  · cases H
theorem eqC_ok {kd : Nat} {x y : V} {a b : Value} {t : Bool} (hx : VR w h x a) (hy : VR w h y b) (H : eqC kd x y = some t) : cellEq kd a b = some t := by
  unfold eqC at H
  split at H
  · cases hx; cases hy; exact H
  · split at H
    · rename_i e; subst e; cases hx; cases hy; simpa [cellEq] using H
    · cases H
  · cases hx; cases hy; exact H
  · cases H
theorem eqSg_ok : ∀ {ks : List Nat} {xs ys : List (Sg V)} {av bs : List Value} {t : Bool}, SgR w h xs av → SgR w h ys bs → eqSg ks xs ys = some t → cellsEq ks av bs = some t
  | [], [], [], av, bs, t, h1, h2, H => by cases h1; cases h2; cases H; rfl
  | k :: ks, .c x :: xs, .c y :: ys, av, bs, t, h1, h2, H => by
    simp only [eqSg] at H
    split at H
    · rename_i p q hp hq
      cases H
      cases h1 with
      | c hx _ h1 =>
        cases h2 with
        | c hy _ h2 => simp only [cellsEq, eqC_ok hx hy hp, eqSg_ok h1 h2 hq]
    · cases H
  | [], [], _ :: _, _, _, _, _, _, H => by cases H
  | [], _ :: _, _, _, _, _, _, _, H => by cases H
  | _ :: _, [], _, _, _, _, _, _, H => by cases H
  | _ :: _, .c _ :: _, [], _, _, _, _, _, H => by cases H
  | _ :: _, .c _ :: _, .ar .. :: _, _, _, _, _, _, H => by cases H
  | _ :: _, .ar .. :: _, _, _, _, _, _, _, H => by cases H
theorem flatSg_ok : ∀ {l : List (Sg V)} {cs : List Value}, SgR w h l cs → SgR w h (flatSg l) cs
  | [], cs, H => H
  | .c v :: l, cs, H => by cases H with | c hv hc H => exact .c hv hc (flatSg_ok H)
  | .ar t n xs :: l, cs, H => by
    cases H with
    | @ar _ _ _ _ c1 c2 hn hx H =>
      refine SgR.append ?_ (flatSg_ok H)
      have key : ∀ {m : Nat}, m ≤ n → SgR w h (((List.range m).map fun i => segs t (xs.getD i (dfl t))).flatten) (c1.take (m * t.sz)) := by
        intro m
        induction m with
        | zero => intro _; simpa using SgR.nil
        | succ m ih =>
          intro hm
          obtain ⟨g1, g2⟩ := hx.at (fun _ _ => Rep.len) (dfl t) (i := m) (by omega)
          have e : c1.take ((m + 1) * t.sz) = c1.take (m * t.sz) ++ (c1.drop (m * t.sz)).take t.sz := by rw [Nat.succ_mul, List.take_add]
          rw [e, List.range_succ, List.map_append, List.flatten_append]
          refine (ih (by omega)).append ?_
          simpa using segs_rep (w := w) g2
      have hl := hx.len fun _ _ => Rep.len
      have := key (Nat.le_refl n)
      rw [List.take_of_length_le (by rw [hl, hn]; exact Nat.le_refl _)] at this
      exact this
theorem intsV_ok (Hf : FrR w h f fr) : ∀ {l : List KO} {zs : List Int}, intsV (l.map (evV f)) = some zs → ints (l.map (·.ev fr)) = some zs
  | [], zs, H => by cases H; rfl
  | x :: l, zs, H => by
    have hx := Hf.ev x
    simp only [List.map_cons] at H ⊢
    generalize evV f x = vx at hx H
    unfold intsV at H
    split at H
    · rename_i e; cases e
    · rename_i z r' e
      cases e
      rw [Option.map_eq_some_iff] at H
      obtain ⟨zs', h1, rfl⟩ := H
      generalize x.ev fr = u at hx ⊢
      cases hx
      have := intsV_ok Hf h1
      simp only [ints, List.mapM_cons] at this ⊢
      simp [asI64, this]
    · cases H
theorem SgR.to_arr {l : List (Sg V)} {cs : List Value} (H : SgR w h l cs) : VR w h (.g l) (.agg cs.toArray) := .g _ _ (by simpa using H)
/-- **Each operation**: what it does over values it does over cells. -/
theorem vop_ok (R : HR G w h vh) (Hf : FrR w h f fr) {hint : Option OpH} {op : KOp} (H : vop G hint f vh K op = some r) : OpO G w h vh ((wrV vh f op).getD []) (kop op fr h) K r := by
  cases op with
  | mv x => exact .no R rfl H (Hf.ev x)
  | pick c a b =>
    have hc := Hf.ev c
    have ha := Hf.ev a
    have hb := Hf.ev b
    simp only [vop] at H
    split at H
    · rename_i t x y e1 e2 e3
      rw [e1] at hc; rw [e2] at ha; rw [e3] at hb
      generalize h1 : c.ev fr = uc at hc
      generalize h2 : a.ev fr = ua at ha
      generalize h3 : b.ev fr = ub at hb
      cases hc; cases ha; cases hb
      refine .no R (u := .bool (bif t then x else y)) ?_ H (.b _)
      simp only [kop, h1, h2, h3]
      cases t <;> rfl
    · rename_i t e1 hno
      rw [e1] at hc
      generalize h1 : c.ev fr = uc at hc
      cases hc
      cases t with
      | true => exact .no R (by simp only [kop, h1, if_true]) H ha
      | false => exact .no R (by simp only [kop, h1, Bool.false_eq_true, if_false]) H hb
    · cases H
  | new z =>
    simp only [vop] at H
    obtain ⟨hz, H⟩ := zok_some H
    split at H
    · rename_i l hl
      exact lay_row R (arfy_rep (consts_rep hz) hl) rfl H
    · cases H
  | box x =>
    simp only [vop] at H
    split at H
    · rename_i l hl
      split at H
      · rename_i l' hl'
        obtain ⟨cs, h1, h2, _, _⟩ := segV_rep (Hf.ev x) hl
        exact lay_row R (arfy_rep h2 hl') (by simp only [kop, h1]) H
      · cases H
    · cases H
  | mk z ps =>
    simp only [vop] at H
    obtain ⟨hz, H⟩ := zok_some H
    split at H
    · rename_i l hl
      split at H
      · rename_i l' hl'
        obtain ⟨cs, h1, h2⟩ := overlay_rep Hf (consts_rep hz) hl
        exact .no R (by simp only [kop, h1]) H (arfy_rep h2 hl').to_arr
      · cases H
    · cases H
  | mkS z n ps =>
    simp only [vop] at H
    obtain ⟨hz, H⟩ := zok_some H
    split at H
    · rename_i t l ht hl
      split at H
      · rename_i x vh' hx
        obtain ⟨cs, h1, h2⟩ := overlay_rep Hf (consts_rep hz) hl
        obtain ⟨i, g1, g2, rfl⟩ := frzS_some hx
        obtain ⟨g3, g4⟩ := lookS_whole R.ha h2 g1
        refine OpO.frz R g2 ?_
        exact lay_list (R.frz g2).1 (by rw [g3.1]) g3.2 (by simp only [kop, h1]) H
      · cases H
    · cases H
  | ld x n => exact vLd_ok R (Hf.ev x) H
  | st x v n => exact vSt_ok R (Hf.ev x) (Hf.ev v) H
  | bin op x y =>
    obtain ⟨u, v, e1, e2, e3⟩ := vBin_ok (K := (K · vh)) (Hf.ev x) (Hf.ev y) H
    exact .no R (by simp only [kop, e1, Option.map_some]) e2 e3
  | eqB neg x y =>
    have hx := Hf.ev x
    have hy := Hf.ev y
    simp only [vop] at H
    split at H
    · rename_i e1 e2
      rw [e1] at hx; rw [e2] at hy
      generalize h1 : x.ev fr = ux at hx
      generalize h2 : y.ev fr = uy at hy
      cases hx; cases hy
      exact .no R (by simp only [kop, h1, h2]) H (.b _)
    · cases H
  | eqN neg kd x =>
    simp only [vop] at H
    split at H
    · rename_i b hb
      exact .no R (by simp only [kop, isNilV_ok (Hf.ev x) hb, Option.map_some]) H (.b _)
    · split at H
      · split at H
        · rename_i b hb
          obtain ⟨c, e1, e2⟩ := nilU_ok R (Hf.ev x) hb
          refine .no R (v := .b (neg != c)) (by simp only [kop, e1, Option.map_some]) ?_ (.b _)
          cases b with
          | false => rw [e2 rfl]; exact H
          | true =>
            obtain ⟨h1, h2⟩ := same_some H
            cases c <;> assumption
        · cases H
      · cases H
  | eqA neg ks x y =>
    have hx := Hf.ev x
    have hy := Hf.ev y
    simp only [vop] at H
    split at H
    · rename_i a b e1 e2
      split at H
      · rename_i t ht
        rw [e1] at hx; rw [e2] at hy
        generalize h1 : x.ev fr = ux at hx
        generalize h2 : y.ev fr = uy at hy
        cases hx with
        | g _ ca ga =>
          cases hy with
          | g _ cb gb =>
            exact .no R (by simp only [kop, h1, h2, eqSg_ok (flatSg_ok ga) (flatSg_ok gb) ht, Option.map_some]) H (.b _)
      · cases H
    · cases H
  | not x =>
    have hx := Hf.ev x
    simp only [vop] at H
    split at H
    · rename_i e1
      rw [e1] at hx
      generalize h1 : x.ev fr = ux at hx
      cases hx
      exact .no R (by simp only [kop, h1]) H (.b _)
    · cases H
  | neg x =>
    have hx := Hf.ev x
    simp only [vop] at H
    split at H
    · rename_i e1
      rw [e1] at hx
      generalize h1 : x.ev fr = ux at hx
      cases hx
      exact .no R (by simp only [kop, h1]) H (.i _ _)
    · cases H
  | cv k x =>
    have hx := Hf.ev x
    simp only [vop] at H
    split at H
    · rename_i e1
      rw [e1] at hx
      generalize h1 : x.ev fr = ux at hx
      cases hx
      exact .no R (by simp only [kop, h1]) H (.i _ _)
    · cases H
  | fn g a b => exact .no R rfl H (.fn _ _ _ _ _ (by simpa using Hf.evs a) (by simpa using Hf.evs b))
  | fa x off =>
    have hx := Hf.ev x
    simp only [vop] at H
    split at H
    · rename_i t y j ng e1
      rw [e1] at hx
      generalize h1 : x.ev fr = ux at hx
      cases hx with
      | fp _ _ _ _ b o row wr gr hF hb hg hl Hr =>
        refine .no R (u := .pointer (some ⟨b, o + (j + off), none⟩)) ?_ H (.fp t y (j + off) ng b o row wr gr hF hb hg hl Hr)
        simp only [kop, h1, add_ad, Nat.add_assoc]
    · rename_i t y e1
      split at H
      · rename_i y
        rw [e1] at hx
        generalize h1 : x.ev fr = ux at hx
        cases np_fp hx with
        | fp _ _ _ _ b o row wr gr hF hb hg hl Hr =>
          refine .no R (u := .pointer (some ⟨b, o + off, none⟩)) ?_ H (.fp t y off true b o row wr gr hF hb hg hl Hr)
          simp only [kop, h1, add_ad, Nat.add_zero]
      · cases H
    · rename_i id q j e1
      rw [e1] at hx
      generalize h1 : x.ev fr = ux at hx
      cases hx with
      | op _ _ _ b m hi =>
        refine .no R (u := .pointer (some ⟨b, offQ q + (j + off), none⟩)) ?_ H (.op id q (j + off) b m hi)
        simp only [kop, h1, add_ad, Nat.add_assoc]
    · rename_i g j e1
      rw [e1] at hx
      generalize h1 : x.ev fr = ux at hx
      cases hx with
      | gp _ _ hg =>
        refine .no R (u := .pointer (some ⟨g, j + off, none⟩)) ?_ H (.gp g (j + off) hg)
        simp only [kop, h1, add_ad]
    · cases H
  | fld x off n =>
    have hx := Hf.ev x
    simp only [vop] at H
    split at H
    · rename_i l e1
      rw [e1] at hx
      generalize h1 : x.ev fr = ux at hx
      cases hx with
      | g _ cs Hs =>
        obtain ⟨u, v, q1, q2, q3⟩ := partOf_ok (K := (K · vh)) Hs H
        exact .no R (by simp only [kop, h1, q1, Option.map_some]) q2 q3
    · cases H
  | iaS x i sz => exact vIaS_ok R (Hf.ev x) (Hf.ev i) H
  | iaA x i len sz => exact vIaA_ok R (Hf.ev x) (Hf.ev i) H
  | ixA x i len sz n => exact vIxA_ok R (Hf.ev x) (Hf.ev i) H
  | slS x lo hi mx sz => exact vSlS_ok R Hf H
  | slA x lo hi mx len sz => exact vSlA_ok R Hf H
  | ext x i =>
    have hx := Hf.ev x
    simp only [vop] at H
    split at H
    · rename_i l e1
      split at H
      · rename_i v hv
        rw [e1] at hx
        generalize h1 : x.ev fr = ux at hx
        cases hx with
        | tup _ vs Hs =>
          obtain ⟨u, e, hu⟩ := Hs.get hv
          exact .no R (by simp only [kop, h1]; rw [← Array.getElem?_toList, e]; rfl) H hu
      · cases H
    · cases H
  | call g args => cases H
  | len x =>
    simp only [vop] at H
    split at H
    · rename_i n hn
      obtain ⟨ad, c, e⟩ := lenV_ok R (Hf.ev x) hn
      exact .no R (by simp only [kop, e]) H (.i _ _)
    · cases H
  | lenS x =>
    have hx := Hf.ev x
    simp only [vop] at H
    split at H
    · rename_i e1
      rw [e1] at hx
      generalize h1 : x.ev fr = ux at hx
      cases hx
      exact .no R (by simp only [kop, h1]) H (.i _ _)
    · cases H
  | app s x sz bytes => exact vApp_ok R Hf H
  | cpy d s sz => exact vCpy_ok R (Hf.ev d) (Hf.ev s) H
  | clr x z => exact vClr_ok R (Hf.ev x) H
  | mkSl l c z bytes =>
    have hl := Hf.ev l
    have hc := Hf.ev c
    simp only [vop] at H
    obtain ⟨hz, H⟩ := zok_some H
    split at H
    · rename_i zl zc t e1 e2 e3
      split at H
      · rename_i y hy
        obtain ⟨hb, H⟩ := grd_some H
        simp only [Bool.and_eq_true, decide_eq_true_eq] at hb
        obtain ⟨⟨b1, b2⟩, b3⟩ := hb
        subst b2
        rw [e1] at hl; rw [e2] at hc
        generalize h1 : l.ev fr = ul at hl
        generalize h2 : c.ev fr = uc at hc
        cases hl; cases hc
        have hr := Fz_nil (lookS_whole (w := w) (h := h) HA.nil (consts_rep hz) hy).1
        refine lay_list R (by simp) (rep_replicate hr zl.toNat) ?_ H
        simp only [kop, h1, h2]
        rw [if_pos ⟨b1, Int.le_refl _, b3⟩]
      · cases H
    · cases H
  | mx l =>
    simp only [vop] at H
    split at H
    · rename_i x r' hl
      exact .no R (by simp only [kop, intsV_ok Hf hl, Option.bind_some, most, Option.map_some]; rfl) H (.i _ _)
    · cases H
  | mn l =>
    simp only [vop] at H
    split at H
    · rename_i x r' hl
      exact .no R (by simp only [kop, intsV_ok Hf hl, Option.bind_some, least, Option.map_some]; rfl) H (.i _ _)
    · cases H
  | mkM =>
    simp only [vop] at H
    split at H
    · rename_i k v _
      obtain ⟨R', S⟩ := R.new (m := none) (co := .map [] 0) (o := .mp k v [] false) rfl ⟨h.length, [], rfl, by simp, rfl⟩
      exact ⟨.map (some h.length), .new (.map [] 0), _, _, _, rfl, H, R', S, .om _ _ none (by rw [← R.len]; exact add_new), pre_same⟩
    · cases H
  | ins kd m k v => exact vIns_ok R (Hf.ev m) (Hf.ev k) (Hf.ev v) H
  | lk kd m k z ok => exact vLk_ok R (Hf.ev m) (Hf.ev k) H
  | nilc x =>
    have hx := Hf.ev x
    simp only [vop] at H
    split at H
    · rename_i t y e1
      split at H
      · rename_i y
        rw [e1] at hx
        generalize h1 : x.ev fr = ux at hx
        have h2 := np_fp hx
        cases h2 with
        | fp _ _ _ _ b o row wr gr hF hb hg hl Hr =>
          exact .no R (by simp only [kop, h1]) H (.fp t y 0 true b o row wr gr hF hb hg hl Hr)
      · cases H
    · rename_i e1
      rw [e1] at hx
      generalize h1 : x.ev fr = ux at hx
      have h2 := hx
      cases hx with
      | fp => exact .no R (by simp only [kop, h1]) H h2
    · rename_i e1
      rw [e1] at hx
      generalize h1 : x.ev fr = ux at hx
      have h2 := hx
      cases hx with
      | op => exact .no R (by simp only [kop, h1]) H h2
    · rename_i e1
      rw [e1] at hx
      generalize h1 : x.ev fr = ux at hx
      have h2 := hx
      cases hx with
      | gp => exact .no R (by simp only [kop, h1]) H h2
    · rename_i e1
      rw [e1] at hx
      generalize h1 : x.ev fr = ux at hx
      have h2 := hx
      cases hx with
      | fn => exact .no R (by simp only [kop, h1]) H h2
    · rename_i e1
      rw [e1] at hx
      generalize h1 : x.ev fr = ux at hx
      have h2 := hx
      cases hx with
      | yl => exact .no R (by simp only [kop, h1]) H h2
    · cases H
  | ment kd m k z => exact vMent_ok R (Hf.ev m) (Hf.ev k) H
  | mset m s v => exact vMset_ok R (Hf.ev m) (Hf.ev s) (Hf.ev v) H
end Go.Canon
namespace Go.Canon
set_option linter.unusedVariables false
set_option linter.unusedSimpArgs false
open Go
variable [C0 : Cmb] [CmbOk C0]
variable {G : Nat → List (Sg V)} {w w' w2 : Wd} {h h' h2 : Heap} {vh vh' vh2 : List VO} {fr : Nat → Value}
/-- Names: each means one thing. -/
def ExtR (ρ ρ' : Rn) : Prop := ∀ a b, lookR ρ a = some b → lookR ρ' a = some b
theorem ExtR.refl (ρ : Rn) : ExtR ρ ρ := fun _ _ h => h
theorem ExtR.trans {a b c : Rn} (h1 : ExtR a b) (h2 : ExtR b c) : ExtR a c := fun x y e => h2 _ _ (h1 _ _ e)
theorem lookR_mem : ∀ {ρ : Rn} {a b : Nat}, lookR ρ a = some b → (a, b) ∈ ρ
  | [], a, b, e => by cases e
  | (x, y) :: ρ, a, b, e => by
    simp only [lookR, beq_c] at e
    split at e
    · rename_i hx; subst hx; cases e; exact List.mem_cons_self
    · exact List.mem_cons_of_mem _ (lookR_mem e)
theorem bindR_ok {ρ ρ' : Rn} {a b : Nat} (e : bindR ρ a b = some ρ') : ExtR ρ ρ' ∧ lookR ρ' a = some b := by
  unfold bindR at e
  split at e
  · rename_i c hc
    split at e
    · rename_i h; subst h; cases e; exact ⟨.refl _, hc⟩
    · cases e
  · rename_i hn
    split at e
    · cases e
    · cases e
      refine ⟨fun x y hx => ?_, by simp [lookR]⟩
      simp only [lookR, beq_c]
      split
      · rename_i h; subst h; rw [hn] at hx; cases hx
      · exact hx
/-- Two names never mean the same. -/
def InjR (ρ : Rn) : Prop := ∀ a a' b, lookR ρ a = some b → lookR ρ a' = some b → a = a'
theorem InjR.nil : InjR [] := fun _ _ _ e => by cases e
theorem InjR.bind {ρ ρ' : Rn} {a b : Nat} (H : InjR ρ) (e : bindR ρ a b = some ρ') : InjR ρ' := by
  unfold bindR at e
  split at e
  · split at e
    · cases e; exact H
    · cases e
  · split at e
    · cases e
    · rename_i hn
      cases e
      have hno : ∀ x, lookR ρ x ≠ some b := fun x hx => by
        apply hn
        exact List.any_eq_true.2 ⟨(x, b), lookR_mem hx, by simp⟩
      intro x x' c h1 h2
      simp only [lookR, beq_c] at h1 h2
      split at h1 <;> split at h2
      · rename_i e1 e2; rw [← e1, ← e2]
      · cases h1; exact (hno _ h2).elim
      · cases h2; exact (hno _ h1).elim
      · exact H _ _ _ h1 h2
/-- What a name means in w (ρ) it means in w2 (ρe). -/
structure Tr (ρ ρe : Rn) (w w2 : Wd) (F : Nat → Prop) : Prop where
  nm : ∀ a b, lookR ρ a = some b → ∃ c, lookR ρe a = some c ∧ ∀ o, w.ι[b]? = some o → w2.ι[c]? = some o
  F : ∀ b, F b → w2.F b
theorem Tr.sub {ρ ρ' ρe : Rn} {F F' : Nat → Prop} (T : Tr ρ' ρe w w2 F') (hr : ExtR ρ ρ') (hf : ∀ b, F b → F' b) : Tr ρ ρe w w2 F := ⟨fun a b e => T.nm a b (hr _ _ e), fun b hb => T.F b (hf b hb)⟩
theorem rep_to {t : Ty} {x : El t} {cs : List Value} {F : Nat → Prop} (hF : ∀ b, F b → w2.F b) (H : Rep F h t x cs) : Rep w2.F h t x cs := H.mono hF fun _ _ => rfl
theorem matE_ok {ρ ρ' : Rn} {v0 v : V} {u : Value} (hv : VR w h v u) (e : matE ρ v0 v = some ρ') : ExtR ρ ρ' ∧ (InjR ρ → InjR ρ') ∧ ∀ {ρe w2 F}, Tr ρ' ρe w w2 F → VR w2 h (v0.ren ρe) u := by
  unfold matE at e
  split at e
  · rename_i a b
    obtain ⟨h1, h2⟩ := bindR_ok e
    refine ⟨h1, fun hi => hi.bind e, fun {ρe w2 F} T => ?_⟩
    obtain ⟨c, hc, hc2⟩ := T.nm _ _ h2
    cases hv with
    | gw _ ad n hi => simp only [V.ren, hc]; exact .gw _ _ _ (hc2 _ hi)
  · rename_i a j b j'
    split at e
    · rename_i hj; subst hj
      obtain ⟨h1, h2⟩ := bindR_ok e
      refine ⟨h1, fun hi => hi.bind e, fun {ρe w2 F} T => ?_⟩
      obtain ⟨c, hc, hc2⟩ := T.nm _ _ h2
      cases hv with
      | op _ _ _ b m hi => simp only [V.ren, hc]; exact .op _ _ _ _ _ (hc2 _ hi)
    · cases e
  · rename_i a b
    obtain ⟨h1, h2⟩ := bindR_ok e
    refine ⟨h1, fun hi => hi.bind e, fun {ρe w2 F} T => ?_⟩
    obtain ⟨c, hc, hc2⟩ := T.nm _ _ h2
    cases hv with
    | om _ b m hi => simp only [V.ren, hc]; exact .om _ _ _ (hc2 _ hi)
  · cases e; cases hv with | k _ hk => exact ⟨.refl _, id, fun T => .k _ hk⟩
  · cases e; cases hv with | k _ hk => exact ⟨.refl _, id, fun T => .k _ hk⟩
  · cases e; cases hv with | k _ hk => exact ⟨.refl _, id, fun T => .k _ hk⟩
  · cases e; cases hv with | k _ hk => exact ⟨.refl _, id, fun T => .k _ hk⟩
  · split at e
    · rename_i hf; subst hf; cases e
      cases hv with
      | fn _ _ _ a' c' h1 h2 =>
        refine ⟨.refl _, id, fun T => ?_⟩
        cases ha : a'.toList with
        | cons x l => rw [ha] at h1; cases h1
        | nil => cases hc : c'.toList with
          | cons x l => rw [hc] at h2; cases h2
          | nil => exact .fn _ [] [] a' c' (by rw [ha]; exact .nil) (by rw [hc]; exact .nil)
    · cases e
  · cases e
    cases hv with
    | tup _ vs hs =>
      refine ⟨.refl _, id, fun T => ?_⟩
      cases ha : vs.toList with
      | cons x l => rw [ha] at hs; cases hs
      | nil => exact .tup [] vs (by rw [ha]; exact .nil)
  · cases e; exact ⟨.refl _, id, fun T => .un _⟩
  · cases e
theorem mat0S_ok (R : HA w h vh) {ρ ρ' : Rn} {s : S0} {l r : List (Sg V)} {cs : List Value} {x : El s.ty} {i : List Nat} (H : SgR w h l cs) (e : mat0S vh ρ s l = some (x, ρ', i, r)) :
    ∃ c1 c2, cs = c1 ++ c2 ∧ SgR w h r c2 ∧ Alive vh i ∧ ExtR ρ ρ' ∧ (InjR ρ → InjR ρ') ∧ ∀ {ρe w2}, Tr ρ' ρe w w2 (Fz w i) → SgR w2 h (s.encSR ρe x) c1 := by
  cases s with
  | h t =>
    simp only [mat0S] at e
    split at e
    · rename_i x' i' r' hl
      cases e
      obtain ⟨c1, c2, e1, e2, e3, e4⟩ := lookS_rep R _ _ _ _ _ _ H hl
      exact ⟨c1, c2, e1, e3, e4, .refl _, id, fun T => segs_rep (rep_to T.F e2)⟩
    · cases e
  | e v0 =>
    cases H with
    | nil => cases e
    | ar => cases e
    | @c v u l us hv hc H =>
      simp only [mat0S] at e
      split at e
      · rename_i ρ2 hm
        cases e
        obtain ⟨h1, h2, h3⟩ := matE_ok hv hm
        exact ⟨[u], us, rfl, H, Alive.nil, h1, h2, fun T => .c (h3 T) hc .nil⟩
      · cases e
theorem Fz_mono_l {i j : List Nat} : ∀ b, Fz w i b → Fz w (i ++ j) b := fun _ hb => Fz.l hb
theorem Fz_mono_r {i j : List Nat} : ∀ b, Fz w j b → Fz w (i ++ j) b := fun _ hb => Fz.r hb
theorem matL_ok (R : HA w h vh) : ∀ {s : List S0} {ρ ρ' : Rn} {l r : List (Sg V)} {cs : List Value} {x : El (tys0 s)} {i : List Nat}, SgR w h l cs → matL vh ρ s l = some (x, ρ', i, r) →
    ∃ c1 c2, cs = c1 ++ c2 ∧ SgR w h r c2 ∧ Alive vh i ∧ ExtR ρ ρ' ∧ (InjR ρ → InjR ρ') ∧ ∀ {ρe w2}, Tr ρ' ρe w w2 (Fz w i) → SgR w2 h (enc0R ρe s x) c1
  | [], ρ, ρ', l, r, cs, x, i, H, e => by cases e; exact ⟨[], cs, rfl, H, Alive.nil, .refl _, id, fun _ => .nil⟩
  | s :: ss, ρ, ρ', l, r, cs, x, i, H, e => by
    simp only [matL] at e
    split at e
    · rename_i x1 ρ1 i1 r1 h1
      split at e
      · rename_i x2 ρ2 i2 r2 h2
        cases e
        obtain ⟨c1, c2, rfl, a1, a2, a3, a4, a5⟩ := mat0S_ok R H h1
        obtain ⟨c3, c4, rfl, b1, b2, b3, b4, b5⟩ := matL_ok R a1 h2
        exact ⟨c1 ++ c3, c4, by simp, b1, a2.app b2, a3.trans b3, fun hi => b4 (a4 hi), fun T => (a5 (T.sub b3 Fz_mono_l)).append (b5 (T.sub (.refl _) Fz_mono_r))⟩
      · cases e
    · cases e
theorem mat1_ok (R : HA w h vh) {ρ ρ' : Rn} {s : S1} {v : V} {u : Value} {x : El s.ty} {i : List Nat} (hv : VR w h v u) (e : mat1 vh ρ s v = some (x, ρ', i)) :
    Alive vh i ∧ ExtR ρ ρ' ∧ (InjR ρ → InjR ρ') ∧ ∀ {ρe w2}, Tr ρ' ρe w w2 (Fz w i) → VR w2 h (s.encR ρe x) u := by
  cases s with
  | s s =>
    cases s with
    | h t =>
      simp only [mat1, mat0] at e
      split at e
      · rename_i x' i' hl
        cases e
        obtain ⟨cs, rfl, _, e2, e4⟩ := lookV_rep R hv hl
        exact ⟨e4, .refl _, id, fun T => encV_rep (rep_to T.F e2)⟩
      · cases e
    | e v0 =>
      simp only [mat1, mat0] at e
      split at e
      · rename_i ρ2 hm
        cases e
        obtain ⟨h1, h2, h3⟩ := matE_ok hv hm
        exact ⟨Alive.nil, h1, h2, fun T => h3 T⟩
      · cases e
  | g l =>
    cases v with
    | g r' =>
      simp only [mat1] at e
      split at e
      · rename_i hm
        cases e
        cases hv with
        | g _ cs Hs =>
          obtain ⟨c1, c2, ec, a1, a2, a3, a4, a5⟩ := matL_ok R Hs hm
          cases a1
          rw [List.append_nil] at ec
          exact ⟨a2, a3, a4, fun T => .g _ _ (by rw [ec]; exact a5 T)⟩
      · cases e
    | _ => simp [mat1] at e
theorem matG1_ok (R : HA w h vh) {ρ ρ' : Rn} {s : SgS} {l r : List (Sg V)} {cs : List Value} {x : El s.ty} {i : List Nat} (H : SgR w h l cs) (e : matG1 vh ρ s l = some (x, ρ', i, r)) :
    ∃ c1 c2, cs = c1 ++ c2 ∧ SgR w h r c2 ∧ Alive vh i ∧ ExtR ρ ρ' ∧ (InjR ρ → InjR ρ') ∧ ∀ {ρe w2}, Tr ρ' ρe w w2 (Fz w i) → SgR w2 h (s.encR ρe x) c1 := by
  cases s with
  | c s => exact mat0S_ok R H e
  | ar t n =>
    cases H with
    | nil => cases n <;> cases e
    | c => cases n <;> cases e
    | @ar t' n' xs l c1 c2 hn hx H =>
      cases n with
      | some n =>
        simp only [matG1] at e
        split at e
        · rename_i hh
          obtain ⟨rfl, rfl⟩ := hh
          cases e
          exact ⟨c1, c2, rfl, H, Alive.nil, .refl _, id, fun {ρe w2} T => by
            have := SgR.ar (w := w2) (h := h) hn (hx.mono fun _ _ r => rep_to (fun b hb => T.F b (.inl hb)) r) .nil
            rw [List.append_nil] at this; exact this⟩
        · cases e
      | none =>
        simp only [matG1] at e
        split at e
        · rename_i hh
          subst hh
          cases e
          exact ⟨c1, c2, rfl, H, Alive.nil, .refl _, id, fun {ρe w2} T => by
            have := SgR.ar (w := w2) (h := h) (n := xs.length) rfl (hx.mono fun _ _ r => rep_to (fun b hb => T.F b (.inl hb)) r) .nil
            rw [List.append_nil] at this; exact this⟩
        · cases e
theorem matG_ok (R : HA w h vh) : ∀ {s : List SgS} {ρ ρ' : Rn} {l r : List (Sg V)} {cs : List Value} {x : El (tysG s)} {i : List Nat}, SgR w h l cs → matG vh ρ s l = some (x, ρ', i, r) →
    ∃ c1 c2, cs = c1 ++ c2 ∧ SgR w h r c2 ∧ Alive vh i ∧ ExtR ρ ρ' ∧ (InjR ρ → InjR ρ') ∧ ∀ {ρe w2}, Tr ρ' ρe w w2 (Fz w i) → SgR w2 h (encGR ρe s x) c1
  | [], ρ, ρ', l, r, cs, x, i, H, e => by cases e; exact ⟨[], cs, rfl, H, Alive.nil, .refl _, id, fun _ => .nil⟩
  | s :: ss, ρ, ρ', l, r, cs, x, i, H, e => by
    simp only [matG] at e
    split at e
    · rename_i x1 ρ1 i1 r1 h1
      split at e
      · rename_i x2 ρ2 i2 r2 h2
        cases e
        obtain ⟨c1, c2, rfl, a1, a2, a3, a4, a5⟩ := matG1_ok R H h1
        obtain ⟨c3, c4, rfl, b1, b2, b3, b4, b5⟩ := matG_ok R a1 h2
        exact ⟨c1 ++ c3, c4, by simp, b1, a2.app b2, a3.trans b3, fun hi => b4 (a4 hi), fun T => (a5 (T.sub b3 Fz_mono_l)).append (b5 (T.sub (.refl _) Fz_mono_r))⟩
      · cases e
    · cases e
theorem matO_ok (R : HA w h vh) {ρ ρ' : Rn} {s : OSh} {o : VO} {p : Option Addr × Option Nat} {x : El s.ty} {i : List Nat} (H : OR w h o p) (e : matO vh ρ s o = some (x, ρ', i)) :
    o.free = true ∧ Alive vh i ∧ ExtR ρ ρ' ∧ (InjR ρ → InjR ρ') ∧ ∀ {ρe w2}, Tr ρ' ρe w w2 (Fz w i) → OR w2 h (s.encR ρe x) p := by
  cases s with
  | mp k v =>
    cases o with
    | mp k' v' l lk =>
      cases lk with
      | true => simp [matO] at e
      | false =>
        simp only [matO] at e
        split at e
        · rename_i hh
          obtain ⟨rfl, rfl⟩ := hh
          cases e
          obtain ⟨b, ms, e1, e2, e3⟩ := H
          exact ⟨rfl, Alive.nil, .refl _, id, fun T => ⟨b, ms, e1, e2, e3.mono (fun _ _ ⟨cs, e, a⟩ => ⟨cs, e, rep_to (fun b hb => T.F b (.inl hb)) a⟩) fun _ _ ⟨cs, e, a⟩ => ⟨cs, e, rep_to (fun b hb => T.F b (.inl hb)) a⟩⟩⟩
        · cases e
    | row => simp [matO] at e
    | gone => simp [matO] at e
  | r l ng =>
    cases o with
    | mp => simp [matO] at e
    | gone => simp [matO] at e
    | row r ng' lk =>
      cases lk with
      | true => simp [matO] at e
      | false =>
        simp only [matO] at e
        split at e
        · rename_i hng
          simp only [Bool.and_eq_true] at hng
          obtain ⟨hng, hsh⟩ := hng
          have hng2 : ∀ {gr : Option Nat}, (ng' = true → gr = none) → ng = true → gr = none := fun hg hn => hg (by rw [hn] at hng; simpa using hng)
          split at e
          · rename_i x' ρ2 i2 hm
            cases e
            -- one list alone
            by_cases hone : ∃ t n xs, r = [.ar t n xs]
            · obtain ⟨t, n, xs, rfl⟩ := hone
              have hl : ∃ t' m, l = [.ar t' m] := by
                unfold shB at hsh
                dsimp only at hsh
                split at hsh
                · exact ⟨_, _, rfl⟩
                · cases hsh
              obtain ⟨t', m, rfl⟩ := hl
              have hmm : ∃ xs', (∀ ρe, encGR ρe [.ar t' m] x = [Sg.ar t n xs'] ∨ (xs'.length = n → encGR ρe [.ar t' m] x = [Sg.ar t n xs'])) ∧ xs' = xs ∧ ρ' = ρ ∧ i = [] := by
                cases m with
                | some m =>
                  simp only [matG, matG1] at hm
                  split at hm
                  · rename_i x1 ρ1 i1 r1 h1
                    split at h1
                    · rename_i hh
                      obtain ⟨rfl, rfl⟩ := hh
                      cases h1
                      cases hm
                      exact ⟨xs, fun ρe => .inl rfl, rfl, rfl, rfl⟩
                    · cases h1
                  · cases hm
                | none =>
                  simp only [matG, matG1] at hm
                  split at hm
                  · rename_i x1 ρ1 i1 r1 h1
                    split at h1
                    · rename_i hh
                      subst hh
                      cases h1
                      cases hm
                      exact ⟨xs, fun ρe => .inr fun hn => by subst hn; rfl, rfl, rfl, rfl⟩
                    · cases h1
                  · cases hm
              obtain ⟨xs', henc, rfl, rfl, rfl⟩ := hmm
              refine ⟨rfl, Alive.nil, .refl _, id, fun {ρe w2} T => ?_⟩
              have fin : xs'.length = n → encGR ρe [.ar t' m] x = [Sg.ar t n xs'] := fun hn => (henc ρe).elim (fun e => e) fun e => e hn
              rcases H with ⟨b, cs, gr, e1, e2, e3, e4, e5, e6⟩ | ⟨t2, e1, e2, e3, e4⟩
              · obtain ⟨q1, q2⟩ := sg_one e3
                refine .inl ⟨b, cs, gr, e1, e2, ?_, hng2 e4, ?_, ?_⟩
                · rw [fin q1]
                  have := SgR.ar (w := w2) (h := h) q1 (q2.mono fun _ _ r => rep_to (fun b hb => T.F b (.inl hb)) r) .nil
                  rw [List.append_nil] at this; exact this
                · rw [fin q1]
                  refine e5.imp (fun x => x) ?_
                  rintro ⟨t3, n3, xs3, e, eg⟩
                  simp only [List.cons.injEq, Sg.ar.injEq, and_true] at e
                  obtain ⟨rfl, _⟩ := e
                  exact ⟨_, _, _, rfl, eg⟩
                · intro k hk
                  rw [fin q1]
                  obtain ⟨t3, xs3, e⟩ := e6 k hk
                  simp only [List.cons.injEq, Sg.ar.injEq, and_true] at e
                  obtain ⟨rfl, rfl, _⟩ := e
                  exact ⟨_, _, rfl⟩
              · simp only [List.cons.injEq, Sg.ar.injEq, and_true] at e1
                obtain ⟨rfl, rfl, hx⟩ := e1
                have hx := eq_of_heq hx
                subst hx
                exact .inr ⟨t, fin rfl, e2, e3, by rw [e4] at hng; simpa using hng⟩
            · rcases H with ⟨b, cs, gr, e1, e2, e3, e4, e5, e6⟩ | ⟨t2, e1, e2, e3, e4⟩
              · obtain ⟨c1, c2, ec, a1, a2, a3, a4, a5⟩ := matG_ok R e3 hm
                cases a1
                rw [List.append_nil] at ec
                subst ec
                refine ⟨rfl, a2, a3, a4, fun T => .inl ⟨b, _, gr, e1, e2, a5 T, hng2 e4, .inl ?_, fun n hn => ?_⟩⟩
                · rcases e5 with e5 | ⟨t, n, xs, e, _⟩
                  · exact e5
                  · exact (hone ⟨t, n, xs, e⟩).elim
                · obtain ⟨t, xs, e⟩ := e6 n hn
                  exact (hone ⟨t, n, xs, e⟩).elim
              · exact (hone ⟨t2, 0, [], e1⟩).elim
          · cases e
        · cases e
end Go.Canon
namespace Go.Canon
set_option linter.unusedVariables false
set_option linter.unusedSimpArgs false
open Go
variable [C0 : Cmb] [CmbOk C0]
variable {G : Nat → List (Sg V)} {w w' w2 : Wd} {h h' h2 : Heap} {vh vh' vh2 : List VO} {fr : Nat → Value} {P : Nat → Prop} {tp : Option Nat}
/-- From one state to a later one: P: names that stay; tp: a loop's record, which may change. -/
structure Le (P : Nat → Prop) (tp : Option Nat) (w : Wd) (h : Heap) (vh : List VO) (w' : Wd) (h' : Heap) (vh' : List VO) : Prop where
  hl : h.length ≤ h'.length
  y : w'.y = w.y
  ι : ∀ id, P id → ∀ o, w.ι[id]? = some o → w'.ι[id]? = some o
  lk : ∀ id, Lk vh id → Lk vh' id ∧ w'.ι[id]? = w.ι[id]?
  F : ∀ b, w.F b → w'.F b
  F' : ∀ b, w'.F b → w.F b ∨ OwnU w vh b ∨ h.length ≤ b
  fr : ∀ b, b < h.length → ¬ OwnU w vh b → tp ≠ some b → h'[b]? = h[b]?
  own : ∀ b, Own w' vh' b → Own w vh b ∨ h.length ≤ b
  ownU : ∀ b, OwnU w' vh' b → OwnU w vh b ∨ h.length ≤ b
  nl : ∀ id, Lk vh' id → Lk vh id
theorem Le.refl : Le P tp w h vh w h vh := ⟨Nat.le_refl _, rfl, fun _ _ _ e => e, fun _ h => ⟨h, rfl⟩, fun _ h => h, fun _ h => .inl h, fun _ _ _ _ => rfl, fun _ h => .inl h, fun _ h => .inl h, fun _ h => h⟩
theorem Le.trans (a : Le P tp w h vh w' h' vh') (b : Le P tp w' h' vh' w2 h2 vh2) : Le P tp w h vh w2 h2 vh2 where
  hl := Nat.le_trans a.hl b.hl
  y := b.y.trans a.y
  ι := fun id x o e => b.ι _ x _ (a.ι _ x _ e)
  lk := fun id x => ⟨(b.lk _ (a.lk _ x).1).1, (b.lk _ (a.lk _ x).1).2.trans (a.lk _ x).2⟩
  F := fun x y => b.F _ (a.F _ y)
  F' := fun x y => by
    rcases b.F' _ y with y | y | y
    · exact a.F' _ y
    · rcases a.ownU _ y with y | y
      · exact .inr (.inl y)
      · exact .inr (.inr y)
    · exact .inr (.inr (Nat.le_trans a.hl y))
  fr := fun x hx hn ht => by
    rw [b.fr x (Nat.lt_of_lt_of_le hx a.hl) (fun hh => ?_) ht, a.fr x hx hn ht]
    rcases a.ownU _ hh with hh | hh
    · exact hn hh
    · omega
  own := fun x y => by
    rcases b.own _ y with y | y
    · exact a.own _ y
    · exact .inr (Nat.le_trans a.hl y)
  ownU := fun x y => by
    rcases b.ownU _ y with y | y
    · exact a.ownU _ y
    · exact .inr (Nat.le_trans a.hl y)
  nl := fun id x => a.nl _ (b.nl _ x)
theorem Le.weak {P' : Nat → Prop} (hP : ∀ id, P' id → P id) (H : Le P tp w h vh w' h' vh') : Le P' tp w h vh w' h' vh' := { H with ι := fun id x => H.ι id (hP id x) }
theorem Lk.some {id : Nat} (R : HR G w h vh) (H : Lk vh id) : ∃ o, w.ι[id]? = some o := ⟨_, List.getElem?_eq_getElem (by rw [R.len]; exact H.lt)⟩
theorem Stp2.le (R : HR G w h vh) (S : Stp2 w h vh w' h' vh') : Le P tp w h vh w' h' vh' where
  hl := S.hl
  y := S.y
  ι := fun id _ o e => S.ι _ _ e
  lk := fun id x => ⟨S.lk _ x, by obtain ⟨o, e⟩ := x.some R; rw [e]; exact S.ι _ _ e⟩
  F := S.F
  F' := S.F'
  fr := fun b hb hn _ => S.fr b hb hn
  own := S.own
  ownU := S.ownU
  nl := S.nl
/-- The record of a loop is no one's. -/
def TpOk (tp : Option Nat) (w : Wd) (h : Heap) (vh : List VO) : Prop := ∀ b, tp = some b → ¬ w.F b ∧ ¬ Own w vh b ∧ b < h.length
theorem TpOk.le (L : Le P tp w h vh w' h' vh') (H : TpOk tp w h vh) : TpOk tp w' h' vh' := fun b e => by
  obtain ⟨a, c, d⟩ := H b e
  refine ⟨fun hf => ?_, fun ho => ?_, Nat.lt_of_lt_of_le d L.hl⟩
  · rcases L.F' _ hf with hf | hf | hf
    · exact a hf
    · exact c hf.own
    · omega
  · rcases L.own _ ho with ho | ho
    · exact c ho
    · omega
/-- What was known of all objects that were there is known. -/
theorem Le.wle (R : HR G w h vh) (T : TpOk tp w h vh) (L : Le P tp w h vh w' h' vh') (hP : ∀ id, id < w.ι.length → P id) : Wle w h w' h' where
  ι := fun id o e => L.ι id (hP id (List.getElem?_eq_some_iff.1 e).1) o e
  F := L.F
  hF := fun b hb => L.fr b (R.Fl b hb) (fun hh => R.nF b hh.own hb) fun e => (T b e).1 hb
  y := fun d l e => by rw [L.y]; exact e
theorem VO.lock_alive (o : VO) : o.lock.alive = o.alive := by cases o <;> rfl
theorem VO.unlock_alive (o : VO) : o.unlock.alive = o.alive := by cases o <;> rfl
theorem VO.lock_free (o : VO) : o.lock.free = false := by cases o <;> rfl
theorem VO.unlock_free (o : VO) : o.unlock.free = o.alive := by cases o <;> rfl
theorem OR.lock {o : VO} {p : Option Addr × Option Nat} (H : OR w h o p) : OR w h o.lock p := by cases o <;> exact H
theorem OR.unlock {o : VO} {p : Option Addr × Option Nat} (H : OR w h o p) : OR w h o.unlock p := by cases o <;> exact H
theorem objAt_map {g : VO → VO} (hg : g .gone = .gone) {id : Nat} : objAt (vh.map g) id = g (objAt vh id) := by
  unfold objAt
  simp only [List.getD_eq_getElem?_getD, List.getElem?_map]
  cases vh[id]? with
  | none => simp [hg]
  | some x => rfl
theorem getElem_objAt {id : Nat} {o : VO} (e : vh[id]? = some o) : objAt vh id = o := by unfold objAt; rw [List.getD_eq_getElem?_getD, e]; rfl
/-- The same objects, with other locks. -/
theorem HR.same (R : HR G w h vh) (hl : vh'.length = vh.length) (ho : ∀ id, objAt vh' id = objAt vh id ∨ objAt vh' id = (objAt vh id).lock ∨ objAt vh' id = (objAt vh id).unlock) : HR G w h vh' := by
  have hal : ∀ id, (objAt vh' id).alive = (objAt vh id).alive := fun id => by
    rcases ho id with e | e | e <;> rw [e]
    · exact VO.lock_alive _
    · exact VO.unlock_alive _
  have hown : ∀ b, Own w vh' b → Own w vh b := fun b ⟨id, e, a⟩ => ⟨id, e, by rw [← hal]; exact a⟩
  refine ⟨by rw [hl]; exact R.len, fun id o p hx hp => ?_, fun i j b h1 h2 a1 a2 => R.inj i j b h1 h2 (by rw [← hal]; exact a1) (by rw [← hal]; exact a2), fun b hb => R.nF b (hown b hb), fun b hb => R.lt b (hown b hb), R.Fl, R.gl⟩
  have e1 := getElem_objAt hx
  have hid : id < vh.length := by rw [← hl]; exact (List.getElem?_eq_some_iff.1 hx).1
  have hor := R.ob id (objAt vh id) p (by unfold objAt; rw [List.getD_eq_getElem?_getD, List.getElem?_eq_getElem hid]; rfl) hp
  rw [← e1]
  rcases ho id with e | e | e <;> rw [e]
  · exact hor
  · exact hor.lock
  · exact hor.unlock
theorem relock_len : ∀ {a b : List VO}, (relock a b).length = b.length
  | [], b => by cases b <;> rfl
  | o :: a, [] => rfl
  | o :: a, o' :: b => by simp [relock, relock_len (a := a) (b := b)]
theorem relock_at : ∀ {a b : List VO} {id : Nat}, objAt (relock a b) id = if (objAt a id).free = true then (objAt b id).unlock else objAt b id
  | [], b, id => by
    have : objAt ([] : List VO) id = .gone := objAt_gone (by simp)
    rw [this]
    cases b <;> rfl
  | o :: a, [], id => by
    have : objAt ([] : List VO) id = .gone := objAt_gone (by simp)
    simp only [relock, this]
    split <;> rfl
  | o :: a, o' :: b, 0 => by
    simp only [relock, objAt, List.getD_cons_zero]
  | o :: a, o' :: b, id + 1 => by
    have := relock_at (a := a) (b := b) (id := id)
    simpa [relock, objAt] using this
/-- Locks put back: what was free is free again. -/
theorem relock_ok (R' : HR G w' h' vh') {vhE : List VO} (L : Le P tp w h vh w' h' vh') (ha : ∀ id, (objAt vh id).alive = (objAt vhE id).alive) (hf : ∀ id, (objAt vh id).free = true → (objAt vhE id).free = true) :
    HR G w' h' (relock vhE vh') ∧ Le P tp w h vhE w' h' (relock vhE vh') := by
  have hR : HR G w' h' (relock vhE vh') := R'.same relock_len fun id => by
    rw [relock_at]
    split
    · exact .inr (.inr rfl)
    · exact .inl rfl
  have hUE : ∀ b, OwnU w vh b → OwnU w vhE b := fun b ⟨id, e, a⟩ => ⟨id, e, hf id a⟩
  have hOE : ∀ b, Own w vh b → Own w vhE b := fun b ⟨id, e, a⟩ => ⟨id, e, by rw [← ha]; exact a⟩
  have hal : ∀ id, (objAt (relock vhE vh') id).alive = (objAt vh' id).alive := fun id => by
    rw [relock_at]
    split
    · exact VO.unlock_alive _
    · rfl
  have hk : ∀ id, (objAt vhE id).alive = true → (objAt vh id).free = false → Lk vh id := fun id h1 h2 => ⟨by rw [ha]; exact h1, h2⟩
  refine ⟨hR, { L with lk := fun id hh => ?_, F' := fun b hb => ?_, fr := fun b hb hn ht => L.fr b hb (fun hh => hn (hUE b hh)) ht, own := fun b ⟨id, e, a⟩ => ?_, ownU := fun b ⟨id, e, a⟩ => ?_, nl := fun id hh => ?_ }⟩
  · have hvf : (objAt vh id).free = false := by
      cases hq : (objAt vh id).free with
      | false => rfl
      | true => have := hf id hq; rw [hh.2] at this; cases this
    obtain ⟨a, b⟩ := L.lk id (hk id hh.1 hvf)
    refine ⟨?_, b⟩
    unfold Lk
    rw [relock_at, if_neg (by rw [hh.2]; decide)]
    exact a
  · rcases L.F' b hb with h | h | h
    · exact .inl h
    · exact .inr (.inl (hUE b h))
    · exact .inr (.inr h)
  · rw [hal] at a
    rcases L.own b ⟨id, e, a⟩ with h | h
    · exact .inl (hOE b h)
    · exact .inr h
  · rw [relock_at] at a
    split at a
    · rename_i hfe
      rw [VO.unlock_free] at a
      by_cases hf2 : (objAt vh' id).free = true
      · rcases L.ownU b ⟨id, e, hf2⟩ with h | h
        · exact .inl (hUE b h)
        · exact .inr h
      · have hl : Lk vh' id := ⟨a, by simpa using hf2⟩
        have hl2 := L.nl id hl
        obtain ⟨m, e⟩ := e
        rw [(L.lk id hl2).2] at e
        exact .inl ⟨id, ⟨m, e⟩, hfe⟩
    · rcases L.ownU b ⟨id, e, a⟩ with h | h
      · exact .inl (hUE b h)
      · exact .inr h
  · unfold Lk at hh
    rw [relock_at] at hh
    split at hh
    · rw [VO.unlock_free, VO.unlock_alive] at hh
      rw [hh.1] at hh; cases hh.2
    · rename_i hfe
      have := L.nl id hh
      exact ⟨by rw [← ha]; exact this.1, by simpa using hfe⟩
end Go.Canon
namespace Go.Canon
set_option linter.unusedVariables false
set_option linter.unusedSimpArgs false
open Go
variable [C0 : Cmb] [CmbOk C0]
variable {G : Nat → List (Sg V)} {w w' w2 : Wd} {h h' h2 : Heap} {vh vh' vh2 : List VO} {fr : Nat → Value} {P : Nat → Prop} {tp : Option Nat} {f : Fr}
theorem FrR.cons {d : Nat} {v : V} (hv : VR w h v (fr d)) (H : FrR w h f fr) : FrR w h ((d, v) :: f) fr := by
  intro t
  simp only [lookF, beq_c]
  split
  · rename_i e; subst e; exact hv
  · exact H t
theorem decS_ok (R : HA w h vh) (Hf : FrR w h f fr) : ∀ {l : List (Nat × S1)} {ρ ρ' : Rn} {x : El (tysS l)} {i : List Nat}, decS vh f ρ l = some (x, ρ', i) →
    Alive vh i ∧ ExtR ρ ρ' ∧ (InjR ρ → InjR ρ') ∧ ∀ {ρe w2 f2}, Tr ρ' ρe w w2 (Fz w i) → FrR w2 h f2 fr → FrR w2 h (encS ρe l x ++ f2) fr
  | [], ρ, ρ', x, i, e => by cases e; exact ⟨Alive.nil, .refl _, id, fun _ H => H⟩
  | (d, s) :: l, ρ, ρ', x, i, e => by
    simp only [decS] at e
    split at e
    · rename_i x1 ρ1 i1 h1
      split at e
      · rename_i x2 ρ2 i2 h2
        cases e
        obtain ⟨a2, a3, a4, a5⟩ := mat1_ok R (Hf d) h1
        obtain ⟨b2, b3, b4, b5⟩ := decS_ok R Hf h2
        exact ⟨a2.app b2, a3.trans b3, fun hi => b4 (a4 hi), fun T H => .cons (a5 (T.sub b3 Fz_mono_l)) (b5 (T.sub (.refl _) Fz_mono_r) H)⟩
      · cases e
    · cases e
/-- Something of each object that a shape names. -/
def AllO (ρ : Rn) (Q : Nat → VO → Prop) : (l : List (Nat × Bool × OSh)) → El (tysO l) → Prop
  | [], _ => True
  | (a, _, s) :: r, x => (∀ c, lookR ρ a = some c → Q c (s.encR ρ x.1)) ∧ AllO ρ Q r x.2
theorem decO_ok (R : HR G w h vh) {base : Nat} : ∀ {l : List (Nat × Bool × OSh)} {ρ ρ' : Rn} {x : El (tysO l)} {i : List Nat}, decO base vh ρ l = some (x, ρ', i) →
    Alive vh i ∧ ExtR ρ ρ' ∧ (InjR ρ → InjR ρ') ∧ (∀ o ∈ l, ∃ j, lookR ρ' o.1 = some j ∧ (objAt vh j).free = true) ∧ ∀ {ρe w2}, Tr ρ' ρe w w2 (Fz w i) → AllO ρe (fun c o => ∀ p, w2.ι[c]? = some p → OR w2 h o p) l x
  | [], ρ, ρ', x, i, e => by cases e; exact ⟨Alive.nil, .refl _, id, fun _ hm => (by cases hm), fun _ => trivial⟩
  | (a, fx, s) :: l, ρ, ρ', x, i, e => by
    simp only [decO] at e
    split at e
    · rename_i ρ0 h0
      have k0 : ExtR ρ ρ0 ∧ (InjR ρ → InjR ρ0) := by
        split at h0
        · cases h0; exact ⟨.refl _, id⟩
        · exact ⟨(bindR_ok h0).1, fun hi => hi.bind h0⟩
      split at e
      · rename_i x1 ρ1 i1 h1
        split at e
        · rename_i x2 ρ2 i2 h2
          cases e
          split at h1
          · rename_i j hj
            have hne : (objAt vh j).alive = true := by
              cases ho : objAt vh j with
              | gone => rw [ho] at h1; cases s <;> simp [matO] at h1
              | _ => rfl
            obtain ⟨p, hp, hor⟩ := R.at rfl hne
            obtain ⟨a1, a2, a3, a4, a5⟩ := matO_ok R.ha hor h1
            obtain ⟨b2, b3, b4, b5, b6⟩ := decO_ok R h2
            have hj2 : lookR ρ' a = some j := b3 _ _ (a3 _ _ hj)
            refine ⟨a2.app b2, k0.1.trans (a3.trans b3), fun hi => b4 (a4 (k0.2 hi)), fun o ho => ?_, fun {ρe w2} T => ⟨fun c hc q hq => ?_, b6 (T.sub (.refl _) Fz_mono_r)⟩⟩
            · rcases List.mem_cons.1 ho with rfl | ho
              · exact ⟨j, hj2, a1⟩
              · exact b5 o ho
            · obtain ⟨c', hc', ho⟩ := T.nm _ _ hj2
              rw [hc] at hc'
              cases hc'
              rw [ho _ hp] at hq
              cases hq
              exact a5 (T.sub b3 Fz_mono_l)
          · cases h1
        · cases e
      · cases e
    · cases e
theorem encO_len {ρ : Rn} : ∀ {l : List (Nat × Bool × OSh)} {x : El (tysO l)} {vh : List VO}, (encO ρ l x vh).length = vh.length
  | [], x, vh => rfl
  | (a, fx, s) :: l, x, vh => by
    simp only [encO]
    rw [encO_len]
    split
    · rw [List.length_set]
    · rfl
theorem encO_all {ρ : Rn} {Q : Nat → VO → Prop} : ∀ {l : List (Nat × Bool × OSh)} {x : El (tysO l)} {vh : List VO}, (∀ o ∈ l, ∀ c, lookR ρ o.1 = some c → c < vh.length) → AllO ρ Q l x → (∀ j, (∀ o ∈ l, lookR ρ o.1 ≠ some j) → Q j (objAt vh j)) → ∀ j, Q j (objAt (encO ρ l x vh) j)
  | [], x, vh, _, _, B, j => B j fun _ hm => by cases hm
  | (a, fx, s) :: l, x, vh, hl, A, B, j => by
    simp only [encO]
    refine encO_all (fun o ho c hc => ?_) A.2 (fun k hk => ?_) j
    · have := hl o (List.mem_cons_of_mem _ ho) c hc
      split
      · rw [List.length_set]; exact this
      · exact this
    · split
      · rename_i c hc
        rw [objAt_set]
        split
        · rename_i e; rw [← e.1]; exact A.1 c hc
        · rename_i hne
          have hcl := hl _ List.mem_cons_self c hc
          refine B k fun o ho => ?_
          rcases List.mem_cons.1 ho with rfl | ho
          · intro e; rw [hc] at e; cases e; exact hne ⟨rfl, hcl⟩
          · exact hk o ho
      · rename_i hc
        refine B k fun o ho => ?_
        rcases List.mem_cons.1 ho with rfl | ho
        · intro e; rw [hc] at e; cases e
        · exact hk o ho
theorem encR_free (s : OSh) (ρ : Rn) (x : El s.ty) : (s.encR ρ x).free = true := by cases s <;> rfl
/-- Is an object named by a shape? -/
def Nmd (ls : LS) (ρ : Rn) (id : Nat) : Prop := ∃ o ∈ ls.ob, lookR ρ o.1 = some id
theorem enc_at {ls : LS} {ρ : Rn} {s : VS} {x : El ls.ty} (hl : ∀ o ∈ ls.ob, ∀ c, lookR ρ o.1 = some c → c < s.h.length) (id : Nat) : (Nmd ls ρ id ∧ (objAt (ls.enc ρ s x).h id).free = true) ∨ (¬ Nmd ls ρ id ∧ objAt (ls.enc ρ s x).h id = (objAt s.h id).lock) := by
  have := encO_all (ρ := ρ) (Q := fun j o => (Nmd ls ρ j ∧ o.free = true) ∨ (¬ Nmd ls ρ j ∧ o = (objAt s.h j).lock)) (l := ls.ob) (x := x.2) (vh := s.h.map VO.lock) (fun o ho c hc => by rw [List.length_map]; exact hl o ho c hc) ?_ ?_ id
  · exact this
  · have key : ∀ {l : List (Nat × Bool × OSh)} {x : El (tysO l)}, (∀ o ∈ l, o ∈ ls.ob) → AllO ρ (fun j o => (Nmd ls ρ j ∧ o.free = true) ∨ (¬ Nmd ls ρ j ∧ o = (objAt s.h j).lock)) l x := by
      intro l
      induction l with
      | nil => intro x _; trivial
      | cons o l ih =>
        intro x hm
        obtain ⟨a, fx, sh⟩ := o
        exact ⟨fun c hc => .inl ⟨⟨_, hm _ List.mem_cons_self, hc⟩, encR_free _ _ _⟩, ih fun o ho => hm o (List.mem_cons_of_mem _ ho)⟩
    exact key fun _ h => h
  · intro j hj
    refine .inr ⟨fun ⟨o, ho, e⟩ => hj o ho e, ?_⟩
    exact objAt_map rfl
theorem enc_len {ls : LS} {ρ : Rn} {s : VS} {x : El ls.ty} : (ls.enc ρ s x).h.length = s.h.length := by
  show (encO ρ ls.ob x.2 (s.h.map VO.lock)).length = _
  rw [encO_len, List.length_map]
/-- The heap of a state by its shape. -/
theorem enc_HR {ls : LS} {ρe ρ' : Rn} {s1 : VS} {x : El ls.ty} {i : List Nat} (R : HR G w h vh) (hl : ∀ o ∈ ls.ob, ∀ c, lookR ρe o.1 = some c → c < s1.h.length)
    (hι : w2.ι.length = s1.h.length) (hF : w2.F = Fz w i) (T2 : ∀ o ∈ ls.ob, ∀ c, lookR ρe o.1 = some c → ∃ b, lookR ρ' o.1 = some b ∧ w2.ι[c]? = w.ι[b]? ∧ (objAt vh b).free = true)
    (hinj : InjR ρ') (hfree : freeAll vh i = true) (hdis : ∀ id ∈ i, ∀ a, lookR ρ' a ≠ some id)
    (A : AllO ρe (fun c o => ∀ p, w2.ι[c]? = some p → OR w2 h o p) ls.ob x.2)
    (unl : ∀ id p, ¬ Nmd ls ρe id → (objAt s1.h id).alive = true → w2.ι[id]? = some p → OR w2 h (objAt s1.h id) p ∧ ∀ b, p.1 = some ⟨b, 0, none⟩ → (∀ j, atB w j b → (objAt vh j).free = true → j ∉ i ∧ ∀ a, lookR ρ' a ≠ some j) ∧ ¬ w.F b ∧ b < h.length)
    (uinj : ∀ id id' b, ¬ Nmd ls ρe id → ¬ Nmd ls ρe id' → (objAt s1.h id).alive = true → (objAt s1.h id').alive = true → atB w2 id b → atB w2 id' b → id = id') :
    HR G w2 h (ls.enc ρe s1 x).h := by
  have hat := fun id => enc_at (x := x) hl id
  -- where a named object lies
  have named : ∀ {id b}, Nmd ls ρe id → atB w2 id b → ∃ a j, lookR ρe a = some id ∧ lookR ρ' a = some j ∧ atB w j b ∧ (objAt vh j).free = true := fun {id b} ⟨o, ho, e⟩ ⟨m, hm⟩ => by
    obtain ⟨j, g1, g2, g3⟩ := T2 o ho id e
    exact ⟨o.1, j, e, g1, ⟨m, by rw [← g2]; exact hm⟩, g3⟩
  have alu : ∀ {id}, ¬ Nmd ls ρe id → (objAt (ls.enc ρe s1 x).h id).alive = true → (objAt s1.h id).alive = true := fun {id} hn ha => by
    rcases hat id with ⟨h1, _⟩ | ⟨_, h1⟩
    · exact (hn h1).elim
    · rw [h1, VO.lock_alive] at ha; exact ha
  refine ⟨by rw [enc_len]; exact hι, fun id o p ho hp => ?_, fun a b c h1 h2 a1 a2 => ?_, fun b ⟨id, e, a⟩ hb => ?_, fun b ⟨id, e, a⟩ => ?_, fun b hb => ?_, fun g hg => ?_⟩
  · have := encO_all (ρ := ρe) (Q := fun c o => ∀ p, w2.ι[c]? = some p → OR w2 h o p) (l := ls.ob) (x := x.2) (vh := s1.h.map VO.lock) (fun o ho c hc => by rw [List.length_map]; exact hl o ho c hc) A (fun j hj q hq => ?_) id p hp
    · rw [← getElem_objAt ho]; exact this
    · rw [objAt_map rfl]
      cases hal : (objAt s1.h j).alive with
      | false => cases ho2 : objAt s1.h j with
        | gone => trivial
        | _ => rw [ho2] at hal; cases hal
      | true => exact ((unl j q (fun ⟨o, ho, e⟩ => hj o ho e) hal hq).1).lock
  · by_cases n1 : Nmd ls ρe a <;> by_cases n2 : Nmd ls ρe b
    · obtain ⟨x1, j1, e1, e2, e3, e4⟩ := named n1 h1
      obtain ⟨x2, j2, k1, k2, k3, k4⟩ := named n2 h2
      have := R.inj _ _ _ e3 k3 (VO.free_alive e4) (VO.free_alive k4)
      subst this
      have := hinj _ _ _ e2 k2
      subst this
      rw [e1] at k1; cases k1; rfl
    · obtain ⟨x1, j1, e1, e2, e3, e4⟩ := named n1 h1
      obtain ⟨m, hm⟩ := h2
      exact ((((unl b _ n2 (alu n2 a2) hm).2 c rfl).1 j1 e3 e4).2 _ e2).elim
    · obtain ⟨x1, j1, e1, e2, e3, e4⟩ := named n2 h2
      obtain ⟨m, hm⟩ := h1
      exact ((((unl a _ n1 (alu n1 a1) hm).2 c rfl).1 j1 e3 e4).2 _ e2).elim
    · exact uinj _ _ _ n1 n2 (alu n1 a1) (alu n2 a2) h1 h2
  · rw [hF] at hb
    by_cases n1 : Nmd ls ρe id
    · obtain ⟨x1, j1, e1, e2, e3, e4⟩ := named n1 e
      rcases hb with hb | ⟨k, hk, hkb⟩
      · exact R.nF b ⟨j1, e3, VO.free_alive e4⟩ hb
      · have := R.inj _ _ _ hkb e3 (VO.free_alive (freeAll_mem hfree hk)) (VO.free_alive e4)
        subst this
        exact hdis k hk _ e2
    · obtain ⟨m, hm⟩ := e
      obtain ⟨g1, g2, _⟩ := (unl id _ n1 (alu n1 a) hm).2 b rfl
      rcases hb with hb | ⟨k, hk, hkb⟩
      · exact g2 hb
      · exact (g1 k hkb (freeAll_mem hfree hk)).1 hk
  · by_cases n1 : Nmd ls ρe id
    · obtain ⟨x1, j1, e1, e2, e3, e4⟩ := named n1 e
      exact R.lt b ⟨j1, e3, VO.free_alive e4⟩
    · obtain ⟨m, hm⟩ := e
      exact ((unl id _ n1 (alu n1 a) hm).2 b rfl).2.2
  · rw [hF] at hb
    rcases hb with hb | ⟨k, hk, hkb⟩
    · exact R.Fl b hb
    · exact R.lt b ⟨k, hkb, VO.free_alive (freeAll_mem hfree hk)⟩
  · obtain ⟨a, cs, wr, b, c⟩ := R.gl g hg
    refine ⟨by rw [hF]; exact .inl a, cs, wr, b, ?_⟩
    have L : Wle ⟨[], w.F, []⟩ h ⟨[], w2.F, []⟩ h := ⟨fun _ _ x => x, fun b hb => by rw [hF]; exact .inl hb, fun _ _ => rfl, fun _ _ x => x⟩
    exact c.mono L
end Go.Canon
namespace Go.Canon
set_option linter.unusedVariables false
set_option linter.unusedSimpArgs false
open Go
variable [C0 : Cmb] [CmbOk C0]
variable {G : Nat → List (Sg V)} {w w' w2 : Wd} {h h' h2 : Heap} {vh vh' vh2 : List VO} {fr fr' : Nat → Value} {P : Nat → Prop} {tp : Option Nat} {f : Fr}
/-- What is known of a value without some objects. -/
structure Woff (nf : List Nat) (D : Nat) (w : Wd) (h : Heap) (w' : Wd) (h' : Heap) : Prop where
  ι : ∀ (id : Nat) o, id ∉ nf → w.ι[id]? = some o → w'.ι[id]? = some o
  F : ∀ b, w.F b → w'.F b
  hF : ∀ b, w.F b → h'[b]? = h[b]?
  y : ∀ (d l : Nat), d < D → w.y[d]? = some l → w'.y[d]? = some l
theorem not_mem_of {nf : List Nat} {x : Nat} (hh : (!nf.contains x) = true) : x ∉ nf := by simpa using hh
theorem VR.off {nf : List Nat} {D : Nat} (O : Woff nf D w h w' h') : ∀ (n : Nat) (v : V) (u : Value), v.off nf D n = true → VR w h v u → VR w' h' v u := by
  have rep : ∀ {t : Ty} {x : El t} {cs : List Value}, Rep w.F h t x cs → Rep w'.F h' t x cs := fun r => r.mono O.F O.hF
  intro n
  induction n with
  | zero => intro v u hv; simp [V.off] at hv
  | succ n ih =>
    have lst : ∀ {l : List V} {us : List Value}, l.all (V.off nf D n) = true → VRs w h l us → VRs w' h' l us := by
      intro l
      induction l with
      | nil => intro us _ H; cases H; exact .nil
      | cons v l ihl =>
        intro us ha H
        simp only [List.all_cons, Bool.and_eq_true] at ha
        cases H with
        | cons hv H => exact .cons (ih _ _ ha.1 hv) (ihl ha.2 H)
    intro v u hv H
    cases H with
    | i k z => exact .i k z
    | b x => exact .b x
    | s x => exact .s x
    | k _ hk => exact .k _ hk
    | sl t l _ H => exact .sl t l _ (rep (t := .sl t) H)
    | fp t x j ng b o row wr gr hF hb hg hl H => exact .fp t x j ng b o row wr gr (O.F _ hF) (by rw [O.hF _ hF]; exact hb) hg hl (rep H)
    | np t x _ H => exact .np t x _ (rep (t := .opt t) H)
    | mp k v l _ H => exact .mp k v l _ (rep (t := .mp k v) H)
    | gp g j hg => exact .gp g j hg
    | e0 a ha => exact .e0 a ha
    | gw id a m hi => exact .gw id a m (O.ι _ _ (not_mem_of (by simpa [V.off] using hv)) hi)
    | gl id q j sz o m c b m' hi hnc => exact .gl id q j sz o m c b m' (O.ι _ _ (not_mem_of (by simpa [V.off] using hv)) hi) hnc
    | gl0 id q j sz o a ha => exact .gl0 id q j sz o a ha
    | op id q j b m hi => exact .op id q j b m (O.ι _ _ (not_mem_of (by simpa [V.off] using hv)) hi)
    | om id b m hi => exact .om id b m (O.ι _ _ (not_mem_of (by simpa [V.off] using hv)) hi)
    | fn g a c a' c' h1 h2 =>
      simp only [V.off, Bool.and_eq_true] at hv
      exact .fn g a c a' c' (lst hv.1 h1) (lst hv.2 h2)
    | g l cs H =>
      simp only [V.off] at hv
      refine .g l cs ?_
      have key : ∀ {l : List (Sg V)} {us : List Value}, (l.all fun s => match s with | .c v => V.off nf D n v | .ar .. => true) = true → SgR w h l us → SgR w' h' l us := by
        intro l
        induction l with
        | nil => intro us _ H; cases H; exact .nil
        | cons s l ihl =>
          intro us ha H
          simp only [List.all_cons, Bool.and_eq_true] at ha
          cases H with
          | c hv hc H => exact .c (ih _ _ ha.1 hv) hc (ihl ha.2 H)
          | ar hn hx H => exact .ar hn (hx.mono fun _ _ => rep) (ihl ha.2 H)
      exact key hv H
    | tup l vs H => exact .tup l vs (lst (by simpa [V.off] using hv) H)
    | yl d l hy => exact .yl d l (O.y _ _ (Nat.lt_of_succ_le (Nat.le_of_ble_eq_true (by simpa [V.off, Nat.blt] using hv))) hy)
    | un u => exact .un u
theorem OR.off {nf : List Nat} {D : Nat} (O : Woff nf D w h w' h') {o : VO} {p : Option Addr × Option Nat} (ho : o.off nf D = true) (H : OR w h o p) (hb : ∀ b, p.1 = some ⟨b, 0, none⟩ → o.alive = true → h'[b]? = h[b]?) : OR w' h' o p := by
  have rep : ∀ {t : Ty} {x : El t} {cs : List Value}, Rep w.F h t x cs → Rep w'.F h' t x cs := fun r => r.mono O.F O.hF
  cases o with
  | gone => trivial
  | row l ng lk =>
    rcases H with ⟨b, cs, gr, e1, e2, e3, e4⟩ | H
    · refine .inl ⟨b, cs, gr, e1, by rw [hb b e1 rfl]; exact e2, ?_, e4⟩
      have key : ∀ {l : List (Sg V)} {us : List Value}, (l.all fun s => match s with | .c v => V.off nf D 4 v | .ar .. => true) = true → SgR w h l us → SgR w' h' l us := by
        intro l
        induction l with
        | nil => intro us _ H; cases H; exact .nil
        | cons s l ihl =>
          intro us ha H
          simp only [List.all_cons, Bool.and_eq_true] at ha
          cases H with
          | c hv hc H => exact .c (VR.off O _ _ _ ha.1 hv) hc (ihl ha.2 H)
          | ar hn hx H => exact .ar hn (hx.mono fun _ _ => rep) (ihl ha.2 H)
      exact key ho e3
    · exact .inr H
  | mp k v l lk =>
    obtain ⟨b, ms, e1, e2, e3⟩ := H
    exact ⟨b, ms, e1, by rw [hb b e1 rfl]; exact e2, e3.mono (fun _ _ ⟨cs, e, a⟩ => ⟨cs, e, rep a⟩) fun _ _ ⟨cs, e, a⟩ => ⟨cs, e, rep a⟩⟩
theorem lookR_filter {g : Nat → Bool} : ∀ {ρ : Rn} {a : Nat}, lookR (ρ.filter fun p => g p.1) a = if g a = true then lookR ρ a else none
  | [], a => by simp [lookR]
  | (x, y) :: ρ, a => by
    simp only [List.filter_cons]
    by_cases hx : g x = true
    · simp only [hx, if_true, lookR, beq_c]
      by_cases e : x = a
      · subst e; simp [hx]
      · rw [if_neg e, if_neg e]; exact lookR_filter
    · simp only [hx, Bool.false_eq_true, if_false, lookR, beq_c]
      by_cases e : x = a
      · subst e; rw [lookR_filter, if_neg hx, if_neg hx]
      · rw [if_neg e]; exact lookR_filter
theorem fixR_look {ob : List (Nat × Bool × OSh)} {ρ : Rn} {a : Nat} : lookR (fixR ob ρ) a = if (ob.any fun o => Nat.beq o.1 a && o.2.1) = true then lookR ρ a else none := lookR_filter (g := fun a => ob.any fun o => Nat.beq o.1 a && o.2.1)
theorem fixR_some {ob : List (Nat × Bool × OSh)} {ρ : Rn} {a c : Nat} (e : lookR (fixR ob ρ) a = some c) : lookR ρ a = some c ∧ ∃ o ∈ ob, o.1 = a ∧ o.2.1 = true := by
  rw [fixR_look] at e
  split at e
  · rename_i hh
    obtain ⟨o, ho, h1⟩ := List.any_eq_true.1 hh
    simp only [Bool.and_eq_true] at h1
    exact ⟨e, o, ho, Nat.eq_of_beq_eq_true h1.1, h1.2⟩
  · cases e
theorem fixR_of {ob : List (Nat × Bool × OSh)} {ρ : Rn} {c : Nat} {o : Nat × Bool × OSh} (ho : o ∈ ob) (hf : o.2.1 = true) (e : lookR ρ o.1 = some c) : lookR (fixR ob ρ) o.1 = some c := by
  rw [fixR_look, if_pos]
  · exact e
  · exact List.any_eq_true.2 ⟨o, ho, by simp [hf]⟩
theorem fixR_inj {ob : List (Nat × Bool × OSh)} {ρ : Rn} (H : InjR ρ) : InjR (fixR ob ρ) := fun a b c h1 h2 => H _ _ _ (fixR_some h1).1 (fixR_some h2).1
/-- The objects of a state in which all but the named ones are locked. -/
structure Lkd (ls : LS) (ρ : Rn) (vh0 vh : List VO) : Prop where
  len : vh.length = vh0.length
  at_ : ∀ id, (Nmd ls ρ id ∧ (objAt vh id).free = true) ∨ (¬ Nmd ls ρ id ∧ objAt vh id = (objAt vh0 id).lock)
/-- A shape that may stand here. -/
structure LOk (ls : LS) (base : Nat) (prot : List Nat) (ρ : Rn) (s : VS) (wr : List Nat) : Prop where
  inj : InjR ρ
  nm : ∀ o ∈ ls.ob, ∃ c, lookR ρ o.1 = some c ∧ c < s.h.length ∧ (objAt s.h c).free = true ∧ (o.2.1 = true ∨ base ≤ c ∧ c ∉ prot)
  names : ∀ a c, lookR ρ a = some c → ∃ o ∈ ls.ob, o.1 = a
  nf : ∃ nf : List Nat, (∀ id, id ∈ nf ↔ ∃ o ∈ ls.ob, o.2.1 = false ∧ lookR ρ o.1 = some id) ∧ (∀ t ∈ ls.keep, t ∉ wr ∧ (lookF s.f t).off nf 1000 4 = true) ∧ ∀ id, ¬ Nmd ls ρ id → (objAt s.h id).off nf 1000 = true
theorem namesOk_ok {ob : List (Nat × Bool × OSh)} {ρ : Rn} (H : namesOk ob ρ = true) : ∀ a c, lookR ρ a = some c → ∃ o ∈ ob, o.1 = a := by
  intro a c e
  have := List.all_eq_true.1 H _ (lookR_mem e)
  obtain ⟨o, ho, h1⟩ := List.any_eq_true.1 this
  exact ⟨o, ho, Nat.eq_of_beq_eq_true h1⟩
theorem LS.ok_ok {ls : LS} {base : Nat} {prot : List Nat} {ρ : Rn} {s : VS} {c : KC} (hn : ∀ a c, lookR ρ a = some c → ∃ o ∈ ls.ob, o.1 = a) (H : ls.ok base prot ρ s c = true) : LOk ls base prot ρ s (wrK c) := by
  simp only [LS.ok, Bool.and_eq_true] at H
  obtain ⟨⟨⟨h1, h2⟩, h3⟩, h4⟩ := H
  have hi : InjR ρ := fun a a' b e1 e2 => by
    have := List.all_eq_true.1 (List.all_eq_true.1 h4 _ (lookR_mem e1)) _ (lookR_mem e2)
    simpa using this
  refine ⟨hi, fun o ho => ?_, hn, (ls.ob.filter fun o => !o.2.1).filterMap (fun o => lookR ρ o.1), fun id => ?_, fun t ht => ?_, fun id hid => ?_⟩
  · have := List.all_eq_true.1 h1 o ho
    split at this
    · rename_i j hj
      simp only [Bool.and_eq_true, Bool.or_eq_true, Bool.not_eq_true', List.contains_eq_mem, decide_eq_false_iff_not] at this
      exact ⟨j, hj, Nat.lt_of_succ_le (Nat.le_of_ble_eq_true this.1.2), this.2, this.1.1.imp (fun x => x) fun x => ⟨Nat.le_of_ble_eq_true x.1, x.2⟩⟩
    · cases this
  · simp only [List.mem_filterMap, List.mem_filter, Bool.not_eq_true']
    constructor
    · rintro ⟨o, ⟨ho, hf⟩, e⟩; exact ⟨o, ho, hf, e⟩
    · rintro ⟨o, ho, hf, e⟩; exact ⟨o, ⟨ho, hf⟩, e⟩
  · have := List.all_eq_true.1 h2 t ht
    simp only [Bool.and_eq_true, Bool.not_eq_true', List.contains_eq_mem, decide_eq_false_iff_not] at this
    exact this
  · by_cases hl : id < s.h.length
    · have := List.all_eq_true.1 h3 id (by simpa using hl)
      simp only [Bool.or_eq_true] at this
      rcases this with this | this
      · obtain ⟨o, ho, he⟩ := List.any_eq_true.1 this
        split at he
        · rename_i j hj
          exact (hid ⟨o, ho, by rw [hj, Nat.eq_of_beq_eq_true he]⟩).elim
        · cases he
      · exact this
    · rw [objAt_gone (by omega)]; rfl
end Go.Canon
namespace Go.Canon
set_option linter.unusedVariables false
set_option linter.unusedSimpArgs false
open Go
variable [C0 : Cmb] [CmbOk C0]
variable {G : Nat → List (Sg V)} {w w' w2 wE : Wd} {h h' h2 hE : Heap} {vh vh' vh2 vhE : List VO} {fr fr' frE : Nat → Value} {P : Nat → Prop} {tp : Option Nat} {f : Fr}
theorem keepF_ok {w : Wd} {h : Heap} : ∀ {l : List Nat}, (∀ t ∈ l, VR w h (lookF f t) (fr t)) → FrR w h (keepF f l) fr
  | [], _ => fun t => .un _
  | t :: r, H => .cons (H t List.mem_cons_self) (keepF_ok fun t ht => H t (List.mem_cons_of_mem _ ht))
/-- Where the named objects lie. -/
theorem reι (ob : List (Nat × Bool × OSh)) (ρe ρ' : Rn) (ι ι' : List (Option Addr × Option Nat)) (hi : InjR ρe) (hb : ∀ o ∈ ob, ∃ b, lookR ρ' o.1 = some b ∧ b < ι'.length) :
    ∃ ι2 : List (Option Addr × Option Nat), ι2.length = ι.length ∧ (∀ c, c < ι.length → ∀ o ∈ ob, lookR ρe o.1 = some c → ∃ b, lookR ρ' o.1 = some b ∧ ι2[c]? = ι'[b]?) ∧ ∀ c, (∀ o ∈ ob, lookR ρe o.1 ≠ some c) → ι2[c]? = ι[c]? := by
  let g : Nat → Option Addr × Option Nat := fun c => match ob.find? (fun o => decide (lookR ρe o.1 = some c)) with
    | some o => ι'.getD ((lookR ρ' o.1).getD 0) (none, none)
    | none => ι.getD c (none, none)
  refine ⟨(List.range ι.length).map g, by simp, fun c hc o ho e => ?_, fun c hn => ?_⟩
  · obtain ⟨b, hb1, hb2⟩ := hb o ho
    refine ⟨b, hb1, ?_⟩
    rw [List.getElem?_map, List.getElem?_range hc]
    show some (g c) = _
    simp only [g]
    cases hf : ob.find? (fun o => decide (lookR ρe o.1 = some c)) with
    | none => have := List.find?_eq_none.1 hf o ho; simp [e] at this
    | some o' =>
      have h1 := List.find?_some hf
      simp only [decide_eq_true_eq] at h1
      have := hi _ _ _ e h1
      simp only [← this, hb1, Option.getD_some]
      rw [List.getD_eq_getElem?_getD, List.getElem?_eq_getElem hb2]; rfl
  · by_cases hc : c < ι.length
    · rw [List.getElem?_map, List.getElem?_range hc]
      show some (g c) = _
      simp only [g]
      cases hf : ob.find? (fun o => decide (lookR ρe o.1 = some c)) with
      | none => simp only; rw [List.getD_eq_getElem?_getD, List.getElem?_eq_getElem hc]; rfl
      | some o' =>
        have h1 := List.find?_some hf
        simp only [decide_eq_true_eq] at h1
        exact (hn _ (List.mem_of_find?_eq_some hf) h1).elim
    · rw [List.getElem?_eq_none (by simp; omega), List.getElem?_eq_none (by omega)]
/-- What a shape finds. -/
theorem LS.dec_ok {ls : LS} {base : Nat} {ρ ρ' : Rn} {s : VS} {x : El ls.ty} {i : List Nat} (R : HR G w h s.h) (Hf : FrR w h s.f fr) (e : ls.dec base ρ s = some (x, ρ', i)) :
    s.pd = none ∧ freeAll s.h i = true ∧ (∀ id ∈ i, ∀ a, lookR ρ' a ≠ some id) ∧ ExtR ρ ρ' ∧ (InjR ρ → InjR ρ') ∧ (∀ a c, lookR ρ' a = some c → ∃ o ∈ ls.ob, o.1 = a) ∧ (∀ o ∈ ls.ob, ∃ j, lookR ρ' o.1 = some j ∧ (objAt s.h j).free = true) ∧
    ∀ {ρe w2}, Tr ρ' ρe w w2 (Fz w i) → (∀ {f2}, FrR w2 h f2 fr → FrR w2 h (encS ρe ls.sl x.1 ++ f2) fr) ∧ AllO ρe (fun c o => ∀ p, w2.ι[c]? = some p → OR w2 h o p) ls.ob x.2 := by
  simp only [LS.dec] at e
  split at e
  · cases e
  · rename_i hpd
    split at e
    · rename_i x1 ρ1 i1 h1
      split at e
      · rename_i x2 ρ2 i2 h2
        split at e
        · rename_i hh
          cases e
          simp only [Bool.and_eq_true] at hh
          obtain ⟨⟨g1, g2⟩, g3⟩ := hh
          obtain ⟨a1, a2, a3, a4⟩ := decS_ok R.ha Hf h1
          obtain ⟨b1, b2, b3, b4, b5⟩ := decO_ok R h2
          refine ⟨by simpa using hpd, g2, fun id hid a ha => ?_, a2.trans b2, fun H => b3 (a3 H), namesOk_ok g1, b4, fun T => ⟨fun H => a4 (T.sub b2 Fz_mono_l) H, b5 (T.sub (.refl _) Fz_mono_r)⟩⟩
          have := List.all_eq_true.1 g3 id hid
          simp only [Bool.not_eq_true', List.any_eq_false] at this
          exact this _ (lookR_mem ha) (by simp)
        · cases e
      · cases e
    · cases e
theorem HR.free_lt (R : HR G w h vh) {j : Nat} (hf : (objAt vh j).free = true) : j < w.ι.length := by
  obtain ⟨p, hp, _⟩ := R.at rfl (VO.free_alive hf)
  exact (List.getElem?_eq_some_iff.1 hp).1
theorem Lkd.alive {ls : LS} {ρ : Rn} {vh0 vh : List VO} (K : Lkd ls ρ vh0 vh) (hn : ∀ id, Nmd ls ρ id → (objAt vh0 id).free = true) (id : Nat) : (objAt vh id).alive = (objAt vh0 id).alive := by
  rcases K.at_ id with ⟨h1, h2⟩ | ⟨_, h2⟩
  · rw [VO.free_alive h2, VO.free_alive (hn id h1)]
  · rw [h2, VO.lock_alive]
theorem LOk.nmf {ls : LS} {base : Nat} {prot : List Nat} {ρ : Rn} {s : VS} {wr : List Nat} (O : LOk ls base prot ρ s wr) (id : Nat) (H : Nmd ls ρ id) : (objAt s.h id).free = true := by
  obtain ⟨o, ho, e⟩ := H
  obtain ⟨c, e2, _, h2, _⟩ := O.nm o ho
  rw [e] at e2; cases e2; exact h2
theorem Lk.of_lkd {ls : LS} {ρ : Rn} {vh0 : List VO} (K : Lkd ls ρ vh0 vh) {id : Nat} (hn : ¬ Nmd ls ρ id) (ha : (objAt vh0 id).alive = true) : Lk vh id := by
  rcases K.at_ id with ⟨h1, _⟩ | ⟨_, h2⟩
  · exact (hn h1).elim
  · exact ⟨by rw [h2, VO.lock_alive]; exact ha, by rw [h2, VO.lock_free]⟩
/-- Names that stay, with those that a shape holds. -/
def PI (base : Nat) (prot : List Nat) (ls : LS) (ρ : Rn) (id : Nat) : Prop := id < base ∨ id ∈ prot ∨ ∃ a, lookR (fixR ls.ob ρ) a = some id
theorem LS.step {ls : LS} {base : Nat} {prot : List Nat} {ρe ρ' : Rn} {s1 s' : VS} {wr : List Nat} {x' : El ls.ty} {i' : List Nat}
    (O : LOk ls base prot ρe s1 wr) (RE : HR G wE hE s1.h) (K : Lkd ls ρe s1.h vhE) (T : TpOk tp wE hE s1.h) (FE : FrR wE hE s1.f frE)
    (R' : HR G w' h' s'.h) (F' : FrR w' h' s'.f fr') (L : Le (PI base prot ls ρe) tp wE hE vhE w' h' s'.h) (hk : ∀ t ∈ ls.keep, fr' t = frE t)
    (e : ls.dec base (fixR ls.ob ρe) s' = some (x', ρ', i')) :
    ∃ w2, HR G w2 h' (ls.enc ρe s1 x').h ∧ FrR w2 h' (ls.enc ρe s1 x').f fr' ∧ Le (PI base prot ls ρe) tp wE hE vhE w2 h' (ls.enc ρe s1 x').h ∧
      (∀ b, w'.F b → w2.F b) ∧ (∀ b, w2.F b → w'.F b ∨ Own w' s'.h b) ∧ ∀ b, Own w2 (ls.enc ρe s1 x').h b → Own w' s'.h b := by
  obtain ⟨e1, e2, e3, e4, e5, e6, e7, e8⟩ := LS.dec_ok R' F' e
  have hl : ∀ o ∈ ls.ob, ∀ c, lookR ρe o.1 = some c → c < s1.h.length := fun o ho c hc => by
    obtain ⟨c', k1, k2, _⟩ := O.nm o ho
    rw [hc] at k1; cases k1; exact k2
  obtain ⟨ι2, n1, n2, n3⟩ := reι ls.ob ρe ρ' wE.ι w'.ι O.inj fun o ho => by
    obtain ⟨j, k1, k2⟩ := e7 o ho
    exact ⟨j, k1, R'.free_lt k2⟩
  have n3 : ∀ c, ¬ Nmd ls ρe c → ι2[c]? = wE.ι[c]? := fun c hc => n3 c fun o ho ee => hc ⟨o, ho, ee⟩
  have hal := K.alive O.nmf
  have hat := fun id => enc_at (x := x') hl id
  let w2 : Wd := ⟨ι2, Fz w' i', w'.y⟩
  have nmd : ∀ {o : Nat × Bool × OSh} {c : Nat}, o ∈ ls.ob → lookR ρe o.1 = some c → ∃ b, lookR ρ' o.1 = some b ∧ w2.ι[c]? = w'.ι[b]? ∧ (objAt s'.h b).free = true := fun {o c} ho hc => by
    obtain ⟨b, k1, k2⟩ := n2 c (by rw [RE.len]; exact hl o ho c hc) o ho hc
    obtain ⟨j, k3, k4⟩ := e7 o ho
    rw [k1] at k3; cases k3
    exact ⟨b, k1, k2, k4⟩
  have TR : Tr ρ' ρe w' w2 (Fz w' i') := ⟨fun a b hb => by
    obtain ⟨o, ho, rfl⟩ := e6 a b hb
    obtain ⟨c, k1, _⟩ := O.nm o ho
    obtain ⟨b', k2, k3, _⟩ := nmd ho k1
    rw [hb] at k2; cases k2
    exact ⟨c, k1, fun p hp => by rw [k3]; exact hp⟩, fun b hb => hb⟩
  have unN : ∀ {id b}, ¬ Nmd ls ρe id → atB w2 id b → atB wE id b := fun {id b} hn ⟨m, hm⟩ => ⟨m, by rw [← n3 id hn]; exact hm⟩
  have hι : ∀ id, PI base prot ls ρe id → ∀ p, wE.ι[id]? = some p → w2.ι[id]? = some p := fun id hp p hpe => by
    have fx : ∀ a, lookR (fixR ls.ob ρe) a = some id → w2.ι[id]? = some p := fun a ha => by
      obtain ⟨k1, o, ho, rfl, k2⟩ := fixR_some ha
      obtain ⟨b, k3, k4, _⟩ := nmd ho k1
      rw [e4 _ _ ha] at k3; cases k3
      rw [k4]; exact L.ι _ (.inr (.inr ⟨_, ha⟩)) _ hpe
    by_cases hn : Nmd ls ρe id
    · obtain ⟨o, ho, ee⟩ := hn
      obtain ⟨c, k1, k2, k3, k4⟩ := O.nm o ho
      rw [ee] at k1; cases k1
      rcases k4 with k4 | ⟨k4, k5⟩
      · exact fx _ (fixR_of ho k4 ee)
      · rcases hp with hp | hp | ⟨a, hp⟩
        · omega
        · exact (k5 hp).elim
        · exact fx a hp
    · exact (n3 id hn).trans hpe
  have lkE : ∀ {id}, ¬ Nmd ls ρe id → (objAt s1.h id).alive = true → Lk vhE id := fun hn ha => Lk.of_lkd K hn ha
  have wf : ∀ nf : List Nat, (∀ id, id ∈ nf ↔ ∃ o ∈ ls.ob, o.2.1 = false ∧ lookR ρe o.1 = some id) → Woff nf 1000 wE hE w2 h' := fun nf hnf => by
    refine ⟨fun id o hid ho => ?_, fun b hb => .inl (L.F b hb), fun b hb => L.fr b (RE.Fl b hb) (fun ⟨id, ee, a⟩ => RE.nF b ⟨id, ee, by rw [← hal]; exact VO.free_alive a⟩ hb) fun ee => (T b ee).1 hb, fun d l _ ee => by show w'.y[d]? = _; rw [L.y]; exact ee⟩
    by_cases hn : Nmd ls ρe id
    · obtain ⟨o', ho', ee⟩ := hn
      refine hι id ?_ _ ho
      cases hq : o'.2.1 with
      | false => exact (hid ((hnf id).2 ⟨o', ho', hq, ee⟩)).elim
      | true => exact .inr (.inr ⟨_, fixR_of ho' hq ee⟩)
    · exact (n3 id hn).trans ho
  obtain ⟨nf, f1, f2, f3⟩ := O.nf
  have W := wf nf f1
  obtain ⟨g1, g2⟩ := e8 TR
  have own1 : ∀ b, Nmd ls ρe b → ∀ c, atB w2 b c → OwnU w' s'.h c := fun b ⟨o, ho, ee⟩ c ⟨m, hm⟩ => by
    obtain ⟨j, k1, k2, k3⟩ := nmd ho ee
    exact ⟨j, ⟨m, by rw [← k2]; exact hm⟩, k3⟩
  refine ⟨w2, ?_, g1 (keepF_ok fun t ht => ?_), ?_, fun b hb => .inl hb, fun b hb => ?_, fun b ⟨id, ee, a⟩ => ?_⟩
  · refine enc_HR R' hl (by show ι2.length = _; rw [n1, RE.len]) rfl (fun o ho c hc => nmd ho hc) (e5 (fixR_inj O.inj)) e2 e3 g2 (fun id p hn ha hp => ?_) (fun id id' b m1 m2 a1 a2 h1 h2 => RE.inj _ _ _ (unN m1 h1) (unN m2 h2) a1 a2)
    have hl2 := lkE hn ha
    obtain ⟨l1, l2⟩ := L.lk id hl2
    have hp2 : wE.ι[id]? = some p := by rw [← n3 id hn]; exact hp
    obtain ⟨q, hq, hor⟩ := RE.at (o := objAt s1.h id) rfl ha
    rw [hp2] at hq; cases hq
    refine ⟨hor.off W (f3 id hn) fun b hb _ => ?_, fun b hb => ?_⟩
    · have hown : Own wE s1.h b := ⟨id, ⟨p.2, by rw [hp2, ← hb]⟩, ha⟩
      refine L.fr b (RE.lt b hown) (fun ⟨id2, k1, k2⟩ => ?_) fun ee => (T b ee).2.1 hown
      have := RE.inj id2 id b k1 ⟨p.2, by rw [hp2, ← hb]⟩ (by rw [← hal]; exact VO.free_alive k2) ha
      subst this
      rw [hl2.2] at k2; cases k2
    · have hat2 : atB w' id b := ⟨p.2, by rw [l2, hp2, ← hb]⟩
      refine ⟨fun j hj hf => ?_, R'.nF b ⟨id, hat2, l1.1⟩, R'.lt b ⟨id, hat2, l1.1⟩⟩
      have := R'.inj j id b hj hat2 (VO.free_alive hf) l1.1
      subst this
      rw [l1.2] at hf; cases hf
  · rw [hk t ht]
    exact VR.off W _ _ _ (f2 t ht).2 (FE t)
  · refine ⟨L.hl, L.y, hι, fun id hh => ?_, fun b hb => .inl (L.F b hb), fun b hb => ?_, L.fr, fun b ⟨id, ee, a⟩ => ?_, fun b ⟨id, ee, a⟩ => ?_, fun id hh => ?_⟩
    · have hn : ¬ Nmd ls ρe id := fun hn => by
        rcases K.at_ id with ⟨_, k⟩ | ⟨k, _⟩
        · rw [hh.2] at k; cases k
        · exact k hn
      refine ⟨?_, n3 id hn⟩
      rcases hat id with ⟨k, _⟩ | ⟨_, k⟩
      · exact (hn k).elim
      · exact ⟨by rw [k, VO.lock_alive, ← hal]; exact hh.1, by rw [k, VO.lock_free]⟩
    · rcases hb with hb | ⟨id, hid, ee⟩
      · exact L.F' b hb
      · exact .inr (L.ownU b ⟨id, ee, freeAll_mem e2 hid⟩)
    · by_cases hn : Nmd ls ρe id
      · exact L.own b (own1 id hn b ee).own
      · refine .inl ⟨id, unN hn ee, ?_⟩
        rcases hat id with ⟨k, _⟩ | ⟨_, k⟩
        · exact (hn k).elim
        · rw [k, VO.lock_alive] at a; rw [hal]; exact a
    · by_cases hn : Nmd ls ρe id
      · exact L.ownU b (own1 id hn b ee)
      · rcases hat id with ⟨k, _⟩ | ⟨_, k⟩
        · exact (hn k).elim
        · rw [k, VO.lock_free] at a; cases a
    · rcases hat id with ⟨_, k⟩ | ⟨hn, k⟩
      · rw [hh.2] at k; cases k
      · have := hh.1
        rw [k, VO.lock_alive] at this
        exact lkE hn this
  · rcases hb with hb | ⟨id, hid, ee⟩
    · exact .inl hb
    · exact .inr ⟨id, ee, VO.free_alive (freeAll_mem e2 hid)⟩
  · by_cases hn : Nmd ls ρe id
    · exact (own1 id hn b ee).own
    · rcases hat id with ⟨k, _⟩ | ⟨_, k⟩
      · exact (hn k).elim
      · rw [k, VO.lock_alive] at a
        obtain ⟨l1, l2⟩ := L.lk id (lkE hn a)
        obtain ⟨mm, hm⟩ := unN hn ee
        exact ⟨id, ⟨mm, by rw [l2]; exact hm⟩, l1.1⟩
end Go.Canon
namespace Go.Canon
set_option linter.unusedVariables false
set_option linter.unusedSimpArgs false
open Go
variable [C0 : Cmb] [CmbOk C0]
variable {G : Nat → List (Sg V)} {w w' w2 wE : Wd} {h h' h2 hE : Heap} {vh vh' vh2 vhE : List VO} {fr fr' frE : Nat → Value} {P : Nat → Prop} {tp : Option Nat} {f : Fr}
/-- Slots without a list get an empty one. -/
theorem nilS_ok : ∀ {l : List (Nat × Ty)} {s : VS} {w : Wd}, HR G w h s.h → FrR w h s.f fr → ∃ w2, HR G w2 h (nilS l s).h ∧ FrR w2 h (nilS l s).f fr ∧ Stp2 w h s.h w2 h (nilS l s).h ∧ (nilS l s).pd = s.pd
  | [], s, w, R, F => ⟨w, R, F, .refl, rfl⟩
  | (d, t) :: r, s, w, R, F => by
    have one : ∀ a, noRoom a → fr d = .slice a 0 0 → ∃ w2, HR G w2 h (nilS r { s with f := (d, .gw s.h.length) :: s.f, h := s.h ++ [.row [.ar t 0 []] false false] }).h ∧ FrR w2 h (nilS r { s with f := (d, .gw s.h.length) :: s.f, h := s.h ++ [.row [.ar t 0 []] false false] }).f fr ∧ Stp2 w h s.h w2 h (nilS r { s with f := (d, .gw s.h.length) :: s.f, h := s.h ++ [.row [.ar t 0 []] false false] }).h ∧ (nilS r { s with f := (d, .gw s.h.length) :: s.f, h := s.h ++ [.row [.ar t 0 []] false false] }).pd = s.pd := fun a ha hf => by
      obtain ⟨R1, S1⟩ := R.new0 (o := .row [.ar t 0 []] false false) (p := (a, some 0)) ha (.inr ⟨t, rfl, rfl, ha, rfl⟩)
      have F1 : FrR (w.add (a, some 0)) h ((d, .gw s.h.length) :: s.f) fr := .cons (by rw [hf]; exact .gw _ a 0 (by rw [← R.len]; exact add_new)) (F.mono (S1.wle R))
      obtain ⟨w2, a1, a2, a3, a4⟩ := nilS_ok (l := r) (s := { s with f := (d, .gw s.h.length) :: s.f, h := s.h ++ [.row [.ar t 0 []] false false] }) R1 F1
      exact ⟨w2, a1, a2, S1.trans a3, a4⟩
    have hd := F d
    simp only [nilS]
    split
    · rename_i e
      rw [e] at hd
      generalize hu : fr d = u at hd
      cases hd with
      | k _ _ => exact one none (.inl rfl) hu
    · rename_i e
      rw [e] at hd
      generalize hu : fr d = u at hd
      cases hd with
      | e0 a ha => exact one a ha hu
    · exact nilS_ok R F
theorem cellSg_ar {t : Ty} {n : Nat} {l : List (El t)} {j : Nat} : cellSg [.ar t n l] j = none := by
  unfold cellSg
  cases j with
  | zero => rfl
  | succ j =>
    simp only [dropSg]
    cases Nat.ble (Sg.len (.ar t n l)) (j + 1) with
    | false => rfl
    | true =>
      simp only [cond_true]
      generalize j + 1 - Sg.len (.ar t n l) = k
      cases k <;> rfl
/-- Cells without a list get an empty one. -/
theorem nilO_ok {base : Nat} : ∀ {l : List (Nat × Nat × Ty)} {s : VS} {w : Wd}, HR G w h s.h → ∃ w2, HR G w2 h (nilO base l s).h ∧ Stp2 w h s.h w2 h (nilO base l s).h ∧ (nilO base l s).pd = s.pd ∧ (nilO base l s).f = s.f
  | [], s, w, R => ⟨w, R, .refl, rfl, rfl⟩
  | (q, j, t) :: r, s, w, R => by
    have one : ∀ l ng l' v, objAt s.h (nameI base q) = .row l ng false → cellSg l j = some v → setSg l j 1 [.c (.gw s.h.length)] = some l' → (∀ u, VR w h v u → ∃ a, noRoom a ∧ u = .slice a 0 0) →
        ∃ w2, HR G w2 h (nilO base r { s with h := (s.h ++ [VO.row [.ar t 0 []] false false]).set (nameI base q) (.row l' ng false) }).h ∧ Stp2 w h s.h w2 h (nilO base r { s with h := (s.h ++ [VO.row [.ar t 0 []] false false]).set (nameI base q) (.row l' ng false) }).h ∧
          (nilO base r { s with h := (s.h ++ [VO.row [.ar t 0 []] false false]).set (nameI base q) (.row l' ng false) }).pd = s.pd ∧ (nilO base r { s with h := (s.h ++ [VO.row [.ar t 0 []] false false]).set (nameI base q) (.row l' ng false) }).f = s.f := fun l ng l' v ho hc hs hv => by
      obtain ⟨p, hp, hor⟩ := R.at ho rfl
      have hid : nameI base q < w.ι.length := (List.getElem?_eq_some_iff.1 hp).1
      have hna : ¬ ∃ t n xs, l = [.ar t n xs] := fun ⟨t, n, xs, e⟩ => by rw [e, cellSg_ar] at hc; cases hc
      rcases hor with ⟨b, cs, gr, e1, e2, e3, e4, e5, e6⟩ | ⟨t', e1, _⟩
      · have hgr : gr = none := by
          rcases e5 with e5 | ⟨t, n, xs, e, _⟩
          · exact e5
          · exact (hna ⟨t, n, xs, e⟩).elim
        subst hgr
        obtain ⟨u, c1, c2, c3, c4⟩ := cellSg_rep e3 hc
        obtain ⟨a, ha, rfl⟩ := hv u c3
        obtain ⟨R1, S1⟩ := R.new0 (o := .row [.ar t 0 []] false false) (p := (a, some 0)) ha (.inr ⟨t, rfl, rfl, ha, rfl⟩)
        have hgw : SgR (w.add (a, some 0)) h [.c (.gw s.h.length)] [.slice a 0 0] := .c (.gw _ a 0 (by rw [← R.len]; exact add_new)) rfl .nil
        obtain ⟨_, d2⟩ := setSg_rep (e3.mono (S1.wle R)) hgw hs
        have hcs : cs.take j ++ [.slice a 0 0] ++ cs.drop (j + [Value.slice a 0 0].length) = cs := by
          rw [show j + [Value.slice a 0 0].length = j + 1 from rfl, ← c1, List.append_assoc, ← List.drop_drop, List.take_append_drop, List.take_append_drop]
        rw [hcs] at d2
        have hf : (objAt (s.h ++ [VO.row [.ar t 0 []] false false]) (nameI base q)).free = true := by
          rw [objAt_app, if_pos (by rw [← R.len]; exact hid), ho]; rfl
        obtain ⟨R2, S2⟩ := R1.setO (o := .row l' ng false) (add_old hp) hf (.inl ⟨b, cs, none, e1, e2, d2, fun _ => rfl, .inl rfl, fun n hn => by obtain ⟨t, xs, e⟩ := e6 n hn; exact (hna ⟨_, _, _, e⟩).elim⟩)
        obtain ⟨w2, a1, a2, a3, a4⟩ := nilO_ok (l := r) (s := { s with h := (s.h ++ [VO.row [.ar t 0 []] false false]).set (nameI base q) (.row l' ng false) }) R2
        exact ⟨w2, a1, (S1.trans S2).trans a2, a3, a4⟩
      · exact (hna ⟨_, _, _, e1⟩).elim
    simp only [nilO]
    split
    · rename_i l ng ho
      split
      · rename_i l' hc hs
        exact one l ng l' _ ho hc hs fun u hu => by cases hu with | k _ _ => exact ⟨none, .inl rfl, rfl⟩
      · rename_i l' hc hs
        exact one l ng l' _ ho hc hs fun u hu => by cases hu with | e0 a ha => exact ⟨a, ha, rfl⟩
      · exact nilO_ok R
    · exact nilO_ok R
theorem pre_ok {ls : LS} {base : Nat} {s : VS} (R : HR G w h s.h) (F : FrR w h s.f fr) : ∃ w2, HR G w2 h (ls.pre base s).h ∧ FrR w2 h (ls.pre base s).f fr ∧ Stp2 w h s.h w2 h (ls.pre base s).h ∧ (ls.pre base s).pd = s.pd := by
  obtain ⟨w1, a1, a2, a3, a4⟩ := nilS_ok (l := ls.nils) R F
  obtain ⟨w2, b1, b2, b3, b4⟩ := nilO_ok (base := base) (l := ls.nilo) a1
  exact ⟨w2, b1, by rw [show (ls.pre base s).f = (nilS ls.nils s).f from b4]; exact a2.mono (b2.wle a1), a3.trans b2, b3.trans a4⟩
theorem OR.fz {i : List Nat} {o : VO} {p : Option Addr × Option Nat} (H : OR w h o p) : OR (w.fz i) h o p :=
  have L : Wle w h (w.fz i) h := ⟨fun _ _ e => e, fun _ hb => .inl hb, fun _ _ => rfl, fun _ _ e => e⟩
  H.mono L fun _ _ _ => rfl
/-- A loop begins. -/
theorem LS.entry {ls : LS} {base : Nat} {prot : List Nat} {ρ : Rn} {s : VS} {c : KC} {x : El ls.ty} {i : List Nat} (R : HR G w h s.h) (F : FrR w h s.f fr) (e : ls.dec base [] s = some (x, ρ, i)) (ok : ls.ok base prot ρ s c = true) :
    LOk ls base prot ρ { s with h := kill i s.h } (wrK c) ∧ HR G (w.fz i) h (kill i s.h) ∧ Stp2 w h s.h (w.fz i) h (kill i s.h) ∧
    HR G (w.fz i) h (ls.enc ρ { s with h := kill i s.h } x).h ∧ FrR (w.fz i) h (ls.enc ρ { s with h := kill i s.h } x).f fr ∧ s.pd = none := by
  obtain ⟨e1, e2, e3, e4, e5, e6, e7, e8⟩ := LS.dec_ok R F e
  have O := LS.ok_ok e6 ok
  obtain ⟨R2, S2⟩ := R.frz e2
  have hk : ∀ id, objAt (kill i s.h) id = if id ∈ i then .gone else objAt s.h id := fun id => objAt_kill
  have O2 : LOk ls base prot ρ { s with h := kill i s.h } (wrK c) := by
    refine ⟨O.inj, fun o ho => ?_, O.names, ?_⟩
    · obtain ⟨b, a1, a2, a3, a4⟩ := O.nm o ho
      refine ⟨b, a1, by show b < (kill i s.h).length; rw [kill_len]; exact a2, ?_, a4⟩
      show (objAt (kill i s.h) b).free = true
      rw [hk, if_neg fun hm => e3 b hm _ a1]; exact a3
    · obtain ⟨nf, f1, f2, f3⟩ := O.nf
      refine ⟨nf, f1, f2, fun id hid => ?_⟩
      show (objAt (kill i s.h) id).off nf 1000 = true
      rw [hk]
      split
      · rfl
      · exact f3 id hid
  have L : Wle w h (w.fz i) h := S2.wle R
  have hl : ∀ o ∈ ls.ob, ∀ b, lookR ρ o.1 = some b → b < (kill i s.h).length := fun o ho b hb => by
    obtain ⟨b', a1, a2, _⟩ := O2.nm o ho
    rw [hb] at a1; cases a1; exact a2
  have TR : Tr ρ ρ w (w.fz i) (Fz w i) := ⟨fun a b hb => ⟨b, hb, fun _ hp => hp⟩, fun _ hb => hb⟩
  obtain ⟨g1, g2⟩ := e8 TR
  have hal : ∀ {id}, (objAt (kill i s.h) id).alive = true → id ∉ i ∧ (objAt s.h id).alive = true := fun {id} ha => by
    rw [hk] at ha
    split at ha
    · cases ha
    · rename_i hn; exact ⟨hn, ha⟩
  refine ⟨O2, R2, S2, ?_, g1 (keepF_ok fun t ht => (F t).mono L), e1⟩
  refine enc_HR R (s1 := { s with h := kill i s.h }) hl (by show w.ι.length = _; rw [kill_len]; exact R.len) rfl (fun o ho b hb => ?_) (e5 .nil) e2 e3 g2 (fun id p hn ha hp => ?_) (fun a b d _ _ a1 a2 h1 h2 => R.inj _ _ _ h1 h2 (hal a1).2 (hal a2).2)
  · obtain ⟨j, k1, k2⟩ := e7 o ho
    rw [hb] at k1; cases k1
    exact ⟨b, hb, rfl, k2⟩
  · obtain ⟨hni, ha2⟩ := hal ha
    obtain ⟨q, hq, hor⟩ := R.at (o := objAt s.h id) rfl ha2
    have hp : w.ι[id]? = some p := hp
    rw [hp] at hq; cases hq
    refine ⟨?_, fun b hb => ?_⟩
    · show OR _ _ (objAt (kill i s.h) id) _
      rw [hk, if_neg hni]; exact hor.fz
    · have hat : atB w id b := ⟨p.2, by rw [hp, ← hb]⟩
      refine ⟨fun j hj hf => ?_, R.nF b ⟨id, hat, ha2⟩, R.lt b ⟨id, hat, ha2⟩⟩
      have := R.inj j id b hj hat (VO.free_alive hf) ha2
      subst this
      exact ⟨hni, fun a ha => hn (by obtain ⟨o, ho, rfl⟩ := e6 a _ ha; exact ⟨o, ho, ha⟩)⟩
theorem lockB_at {vh : List VO} {id : Nat} : ∀ {ρ : Rn} {l : List VO}, objAt (ρ.foldl (fun l p => l.set p.2 (objAt vh p.2)) l) id = if (id < l.length ∧ ∃ p ∈ ρ, p.2 = id) then objAt vh id else objAt l id
  | [], l => by simp
  | p :: ρ, l => by
    rw [List.foldl_cons, lockB_at, List.length_set, objAt_set]
    by_cases h1 : ∃ q ∈ ρ, q.2 = id
    · by_cases h2 : id < l.length
      · rw [if_pos ⟨h2, h1⟩, if_pos ⟨h2, by obtain ⟨q, a, b⟩ := h1; exact ⟨q, List.mem_cons_of_mem _ a, b⟩⟩]
      · rw [if_neg (by rintro ⟨a, _⟩; exact h2 a), if_neg (by rintro ⟨a, b⟩; exact h2 (a ▸ b)), if_neg (by rintro ⟨a, _⟩; exact h2 a)]
    · rw [if_neg (fun hh => h1 hh.2)]
      by_cases h2 : p.2 = id ∧ p.2 < l.length
      · rw [if_pos h2, if_pos ⟨h2.1 ▸ h2.2, p, List.mem_cons_self, h2.1⟩, h2.1]
      · rw [if_neg h2, if_neg]
        rintro ⟨h3, q, hq, e⟩
        rcases List.mem_cons.1 hq with rfl | hq
        · exact h2 ⟨e, e ▸ h3⟩
        · exact h1 ⟨q, hq, e⟩
theorem lockB_len {vh : List VO} : ∀ {ρ : Rn} {l : List VO}, (ρ.foldl (fun l p => l.set p.2 (objAt vh p.2)) l).length = l.length
  | [], l => rfl
  | p :: ρ, l => by rw [List.foldl_cons, lockB_len, List.length_set]
theorem lockB_HR {ρ : Rn} (R : HR G w h vh) : HR G w h (lockB ρ vh) :=
  R.same (by unfold lockB; rw [lockB_len, List.length_map]) fun id => by
    unfold lockB
    rw [lockB_at]
    split
    · exact .inl rfl
    · exact .inr (.inl (objAt_map rfl))
theorem look_idR {base : Nat} : ∀ {ob : List (Nat × Bool × OSh)} {a c : Nat}, lookR (idR base ob) a = some c → c = nameI base a ∧ ∃ o ∈ ob, o.1 = a
  | [], a, c, e => by cases e
  | o :: ob, a, c, e => by
    simp only [idR, List.map_cons, lookR, beq_c] at e
    split at e
    · rename_i h1; cases e; exact ⟨by rw [h1], o, List.mem_cons_self, h1⟩
    · obtain ⟨h1, o', ho, h2⟩ := look_idR (ob := ob) e
      exact ⟨h1, o', List.mem_cons_of_mem _ ho, h2⟩
theorem look_idR_mem {base : Nat} : ∀ {ob : List (Nat × Bool × OSh)} {o}, o ∈ ob → lookR (idR base ob) o.1 = some (nameI base o.1)
  | [], o, h => by cases h
  | o' :: ob, o, h => by
    simp only [idR, List.map_cons, lookR, beq_c]
    split
    · rename_i h1; rw [h1]
    · rename_i h1
      rcases List.mem_cons.1 h with rfl | h
      · exact (h1 rfl).elim
      · exact look_idR_mem h
/-- Ways part. -/
theorem lockB_Lkd {ls : LS} {base : Nat} {prot : List Nat} {s : VS} {wr : List Nat} (O : LOk ls base prot (idR base ls.ob) s wr) : Lkd ls (idR base ls.ob) s.h (lockB (idR base ls.ob) s.h) := by
  refine ⟨by unfold lockB; rw [lockB_len, List.length_map], fun id => ?_⟩
  unfold lockB
  rw [lockB_at, List.length_map]
  by_cases hn : Nmd ls (idR base ls.ob) id
  · obtain ⟨o, ho, e⟩ := hn
    obtain ⟨c, a1, a2, a3, _⟩ := O.nm o ho
    rw [e] at a1; cases a1
    rw [if_pos ⟨a2, ⟨_, lookR_mem e, rfl⟩⟩]
    exact .inl ⟨⟨o, ho, e⟩, a3⟩
  · refine .inr ⟨hn, ?_⟩
    rw [if_neg]
    · exact objAt_map rfl
    · rintro ⟨_, p, hp, e⟩
      obtain ⟨o, ho, rfl⟩ := List.mem_map.1 hp
      refine hn ⟨o, ho, ?_⟩
      rw [look_idR_mem ho]; exact congrArg some e
theorem enc_Lkd {ls : LS} {base : Nat} {prot : List Nat} {ρ : Rn} {s : VS} {x : El ls.ty} {wr : List Nat} (O : LOk ls base prot ρ s wr) : Lkd ls ρ s.h (ls.enc ρ s x).h :=
  ⟨enc_len, fun id => enc_at (fun o ho c hc => by
    obtain ⟨b, a1, a2, _⟩ := O.nm o ho
    rw [hc] at a1; cases a1; exact a2) id⟩
/-- What is no one's may change. -/
theorem HR.chg (R : HR G w h vh) (hι : w'.ι = w.ι) (hF : w'.F = w.F) (hy : ∀ (d l : Nat), w.y[d]? = some l → w'.y[d]? = some l) (hl : h.length ≤ h'.length) (hh : ∀ b, w.F b ∨ Own w vh b → h'[b]? = h[b]?) : HR G w' h' vh ∧ Wle w h w' h' := by
  have L : Wle w h w' h' := ⟨fun id o e => by rw [hι]; exact e, fun b hb => by rw [hF]; exact hb, fun b hb => hh b (.inl hb), hy⟩
  have hat : ∀ {id b}, atB w' id b → atB w id b := fun ⟨m, e⟩ => ⟨m, by rw [← hι]; exact e⟩
  have hown : ∀ {b}, Own w' vh b → Own w vh b := fun ⟨id, e, a⟩ => ⟨id, hat e, a⟩
  refine ⟨⟨by rw [hι]; exact R.len, fun id o p ho hp => ?_, fun i j b h1 h2 a1 a2 => R.inj i j b (hat h1) (hat h2) a1 a2, fun b hb hf => R.nF b (hown hb) (by rw [hF] at hf; exact hf), fun b hb => Nat.lt_of_lt_of_le (R.lt b (hown hb)) hl, fun b hb => Nat.lt_of_lt_of_le (R.Fl b (by rw [hF] at hb; exact hb)) hl, glob_mono L R.gl⟩, L⟩
  rw [hι] at hp
  exact (R.ob id o p ho hp).mono L fun b hb ha => hh b (.inr ⟨id, ⟨p.2, by rw [hp, ← hb]⟩, by rw [getElem_objAt ho]; exact ha⟩)
end Go.Canon
namespace Go.Canon
set_option linter.unusedVariables false
set_option linter.unusedSimpArgs false
open Go
variable [C0 : Cmb] [CmbOk C0]
open Classical
variable {T : Nat → Option KFunc}
theorem put_ne {fr : Nat → Value} {d : Option Nat} {v : Value} {t : Nat} (h : d ≠ some t) : put fr d v t = fr t := by
  cases d with
  | none => rfl
  | some d =>
    show (if t = d then v else fr t) = _
    rw [if_neg (fun e => h (by rw [e]))]
theorem kops_wr : ∀ (n : Nat) {fi : FI} {prs : List (Nat × Nat)} {i : Nat} {log : List LogE} {ops : List KOper} {s s' : St}, kops T n fi prs i log ops s = some s' → ∀ t, t ∉ ops.filterMap (·.dst) → s'.fr t = s.fr t
  | 0, _, _, _, _, _, _, _, e => by unfold kops at e; cases e
  | n + 1, fi, prs, i, log, ops, s, s', e => by
    intro t ht
    unfold kops at e
    cases ops with
    | nil => cases e; rfl
    | cons o r =>
      have h1 : o.dst ≠ some t := fun hh => ht (by simp [List.filterMap_cons, hh])
      have h2 : t ∉ r.filterMap (·.dst) := fun hh => ht (by
        rw [List.filterMap_cons]
        split
        · exact hh
        · exact List.mem_cons_of_mem _ hh)
      dsimp only at e
      split at e
      · split at e
        · split at e
          · split at e
            · rw [kops_wr n e t h2]; exact put_ne h1
            · cases e
          · rw [kops_wr n e t h2]; exact put_ne h1
        · cases e
      · split at e
        · rw [kops_wr n e t h2]; exact put_ne h1
        · cases e
theorem kcode_wr : ∀ (n : Nat) {fi : FI} {c : KC} {s : St} {e : Ex} {s' : St}, kcode T n fi c s = some (e, s') → ∀ t, t ∉ wrK c → s'.fr t = s.fr t
  | 0, _, _, _, _, _, h => by unfold kcode at h; cases h
  | n + 1, fi, c, s, e, s', h => by
    intro t ht
    unfold kcode at h
    cases c with
    | skip => cases h; rfl
    | ret => cases h; rfl
    | exit id => cases h; rfl
    | reg ops prs =>
      dsimp only at h
      split at h
      · rename_i s1 h1
        cases h
        exact kops_wr n h1 t ht
      · cases h
    | seq a b =>
      simp only [wrK, List.mem_append, not_or] at ht
      dsimp only at h
      split at h
      · rename_i s1 h1
        rw [kcode_wr n h t ht.2, kcode_wr n h1 t ht.1]
      · exact kcode_wr n h t ht.1
    | cond c a b =>
      simp only [wrK, List.mem_append, not_or] at ht
      dsimp only at h
      split at h
      · rename_i b' _
        cases b' with
        | true => exact kcode_wr n h t ht.1
        | false => exact kcode_wr n h t ht.2
      · cases h
    | block id a =>
      simp only [wrK] at ht
      dsimp only at h
      split at h
      · rename_i id' s1 h1
        split at h
        · cases h; exact kcode_wr n h1 t ht
        · cases h; exact kcode_wr n h1 t ht
      · exact kcode_wr n h t ht
    | loop a =>
      dsimp only at h
      split at h
      · rename_i s1 h1
        rw [kcode_wr n h t ht, kcode_wr n h1 t (by simpa [wrK] using ht)]
      · exact kcode_wr n h t (by simpa [wrK] using ht)
    | rf f ps a b =>
      have aft : ∀ {n l s0 o}, kafter T n l s0 o = some (e, s') → s'.fr = s0.fr := fun {n l s0 o} hh => by
        cases n with
        | zero => unfold kafter at hh; cases hh
        | succ n =>
          unfold kafter at hh
          dsimp only at hh
          split at hh
          · split at hh
            · split at hh
              · cases hh
              · split at hh <;> (cases hh; rfl)
            · cases hh
          · cases hh
      dsimp only at h
      split at h
      · split at h
        · rw [aft h]
        · split at h
          · rw [aft h]
          · cases h
      · cases h
/-- Slots that code does not write. -/
theorem AX.wr {fi : FI} {c : KC} {fr : Nat → Value} {h : Heap} {m : List Nat} {K : Ex → (Nat → Value) → Heap → List Nat → Prop} (H : AX T fi c fr h m fun e fr' h' m' => (∀ t, t ∉ wrK c → fr' t = fr t) → K e fr' h' m') : AX T fi c fr h m K :=
  let ⟨n, e, s', x, k⟩ := H; ⟨n, e, s', x, k fun t ht => kcode_wr n x t ht⟩
end Go.Canon
namespace Go.Canon
set_option linter.unusedVariables false
set_option linter.unusedSimpArgs false
open Go
variable [C0 : Cmb] [CmbOk C0]
variable {α : Type}
/-- A function's setting: the record of the round in which it runs, what is known of the world. -/
structure Cx (α : Type) where
  T : Nat → Option KFunc
  G : Nat → List (Sg V)
  tp : Option Nat
  b0 : Nat
  Q : Wd → Heap → Option KJump → Prop
  Y : Yh α
  dep : Nat
structure Cx.St (C : Cx α) (w : Wd) (h : Heap) (vh : List VO) (pd : Option KJump) : Prop where
  hr : HR C.G w h vh
  q : C.Q w h pd
  tp : TpOk C.tp w h vh
  dep : w.y.length = C.dep
/-- What a record and its round's frame bear. -/
structure QSt (tp : Option Nat) (b0 : Nat) (w : Wd) (h : Heap) (w' : Wd) (h' : Heap) : Prop where
  ι : ∀ id, id < b0 → ∀ o, w.ι[id]? = some o → w'.ι[id]? = some o
  F : ∀ b, w.F b → w'.F b
  hF : ∀ b, w.F b → h'[b]? = h[b]?
  y : w'.y = w.y
  r : ∀ l, tp = some l → h'[l]? = h[l]?
structure Cx.Ok (C : Cx α) : Prop where
  st : ∀ {w h w' h' pd}, QSt C.tp C.b0 w h w' h' → C.Q w h pd → C.Q w' h' pd
  y : ∀ {w h vh args us kk} {r : α} {l}, C.St w h vh none → C.b0 ≤ vh.length → VRs w h args us → C.Y args vh kk = some r → w.y[C.dep - 1]? = some l → 0 < C.dep → ∀ {K : Value → Heap → Prop},
    (∀ v u vh' pd' w' h', C.St w' h' vh' pd' → Le (fun id => id < vh.length) C.tp w h vh w' h' vh' → VR w' h' v u → vh.length ≤ vh'.length → kk v vh' pd' = some r → K u h') → ARound C.T l us h K
/-- Marks. -/
structure Mk (tp : Option Nat) (hb : Nat) (m : List Nat) (w : Wd) (h : Heap) (vh : List VO) : Prop where
  le0 : hb ≤ h.length
  at_ : ∀ x ∈ m, hb ≤ x ∧ h[x]? = some .mark ∧ ¬ w.F x ∧ ¬ Own w vh x ∧ tp ≠ some x
variable {w w' w2 : Wd} {h h' h2 : Heap} {vh vh' vh2 : List VO} {fr fr' : Nat → Value} {P : Nat → Prop} {tp : Option Nat} {f : Fr} {m : List Nat} {hb : Nat}
theorem Mk.le (H : Mk tp hb m w h vh) (L : Le P tp w h vh w' h' vh') : Mk tp hb m w' h' vh' := by
  refine ⟨Nat.le_trans H.le0 L.hl, fun x hx => ?_⟩
  obtain ⟨a, b, c, d, e⟩ := H.at_ x hx
  have hl : x < h.length := (List.getElem?_eq_some_iff.1 b).1
  refine ⟨a, by rw [L.fr x hl (fun hh => d hh.own) e]; exact b, fun hf => ?_, fun ho => ?_, e⟩
  · rcases L.F' x hf with hf | hf | hf
    · exact c hf
    · exact d hf.own
    · omega
  · rcases L.own x ho with ho | ho
    · exact d ho
    · omega
theorem Le.none_tp (L : Le P none w h vh w' h' vh') : Le P tp w h vh w' h' vh' := { L with fr := fun b hb hn _ => L.fr b hb hn (by simp) }
theorem Le.qst {G : Nat → List (Sg V)} {b0 : Nat} (L : Le P none w h vh w' h' vh') (R : HR G w h vh) (T : TpOk tp w h vh) (hP : ∀ id, id < b0 → P id) : QSt tp b0 w h w' h' :=
  ⟨fun id hid => L.ι id (hP id hid), L.F, fun b hb => L.fr b (R.Fl b hb) (fun hh => R.nF b hh.own hb) (by simp), L.y, fun l e => L.fr l (T l e).2.2 (fun hh => (T l e).2.1 hh.own) (by simp)⟩
theorem Stp2.len {G : Nat → List (Sg V)} (S : Stp2 w h vh w' h' vh') (R : HR G w h vh) (R' : HR G w' h' vh') : vh.length ≤ vh'.length := by
  rw [← R.len, ← R'.len]
  by_cases hh : w.ι.length ≤ w'.ι.length
  · exact hh
  · exfalso
    have h1 := List.getElem?_eq_getElem (l := w.ι) (i := w'.ι.length) (by omega)
    have := S.ι _ _ h1
    rw [List.getElem?_eq_none (Nat.le_refl _)] at this
    cases this
def PF (fi : Fi) (id : Nat) : Prop := id < fi.base ∨ id ∈ fi.prot
/-- A piece of code. -/
def CodeOk (T : Nat → Option KFunc) (G : Nat → List (Sg V)) (code : Yh α → Fi → Nat → KC → VS → (Ex → VS → Option α) → Option α) : Prop :=
  ∀ (C : Cx α) (fi : Fi) (tag : Nat) (c : KC) (s : VS) (k : Ex → VS → Option α) (r : α), C.T = T → C.G = G → C.Ok → C.dep = fi.dep → C.b0 ≤ fi.base → code C.Y fi tag c s k = some r →
  ∀ (F : FI) (w : Wd) (h : Heap) (fr : Nat → Value) (m : List Nat) (hb : Nat), fi.rd = F.rd.isSome → fi.base ≤ s.h.length → C.St w h s.h s.pd → FrR w h s.f fr → Mk C.tp hb m w h s.h →
  ∀ K : Ex → (Nat → Value) → Heap → List Nat → Prop,
    (∀ e s' w' h' fr' m', fi.base ≤ s'.h.length → C.St w' h' s'.h s'.pd → FrR w' h' s'.f fr' → Mk C.tp hb m' w' h' s'.h → (fi.rd = true → m' = m) → Le (PF fi) C.tp w h s.h w' h' s'.h → k e s' = some r → K e fr' h' m') →
    AX T F c fr h m K
/-- A call. -/
def CallOk (T : Nat → Option KFunc) (G : Nat → List (Sg V)) (call : Yh α → Nat → Nat → List V → List VO → Option KJump → (V → List VO → Option KJump → Option α) → Option α) : Prop :=
  ∀ (C : Cx α) (g : Nat) (args : List V) (vh : List VO) (pd : Option KJump) (k : V → List VO → Option KJump → Option α) (r : α), C.T = T → C.G = G → C.Ok → C.b0 ≤ vh.length → call C.Y C.dep g args vh pd k = some r →
  ∀ (w : Wd) (h : Heap) (us : List Value), C.St w h vh pd → VRs w h args us →
  ∀ K : Value → Heap → Prop, (∀ v u vh' pd' w' h', C.St w' h' vh' pd' → Le (fun id => id < vh.length) C.tp w h vh w' h' vh' → VR w' h' v u → vh.length ≤ vh'.length → k v vh' pd' = some r → K u h') → ACall T g us h K
section
variable {T : Nat → Option KFunc} {G : Nat → List (Sg V)} {H : Hs} {R : Vm α} {C : Cx α} {fi : Fi} {tag : Nat} {s : VS} {k : Ex → VS → Option α} {r : α} {F : FI} {K : Ex → (Nat → Value) → Heap → List Nat → Prop}
/-- What is asked at a piece's beginning. -/
structure At_ (C : Cx α) (fi : Fi) (F : FI) (s : VS) (w : Wd) (h : Heap) (fr : Nat → Value) (m : List Nat) (hb : Nat) : Prop where
  rd : fi.rd = F.rd.isSome
  bs : fi.base ≤ s.h.length
  st : C.St w h s.h s.pd
  fr : FrR w h s.f fr
  mks : Mk C.tp hb m w h s.h
/-- What is known at its end. -/
def Thn (C : Cx α) (fi : Fi) (F : FI) (s : VS) (w : Wd) (h : Heap) (m : List Nat) (hb : Nat) (k : Ex → VS → Option α) (r : α) (K : Ex → (Nat → Value) → Heap → List Nat → Prop) : Prop :=
  ∀ e s' w' h' fr' m', At_ C fi F s' w' h' fr' m' hb → (fi.rd = true → m' = m) → Le (PF fi) C.tp w h s.h w' h' s'.h → k e s' = some r → K e fr' h' m'
structure Pre (C : Cx α) (T : Nat → Option KFunc) (G : Nat → List (Sg V)) (fi : Fi) : Prop where
  T : C.T = T
  G : C.G = G
  ok : C.Ok
  dep : C.dep = fi.dep
  b0 : C.b0 ≤ fi.base
theorem CodeOk.use (I : CodeOk T G R.code) (E : Pre C T G fi) {c : KC} (hc : R.code C.Y fi tag c s k = some r) (A : At_ C fi F s w h fr m hb) (Z : Thn C fi F s w h m hb k r K) : AX T F c fr h m K :=
  I C fi tag c s k r E.T E.G E.ok E.dep E.b0 hc F w h fr m hb A.rd A.bs A.st A.fr A.mks K fun e s' w' h' fr' m' a1 a2 a3 a4 a5 a6 a7 => Z e s' w' h' fr' m' ⟨A.rd, a1, a2, a3, a4⟩ a5 a6 a7
/-- The same objects, with other locks. -/
theorem At_.relk (A : At_ C fi F s w h fr m hb) {vh' : List VO} (R : HR C.G w h vh') (hl : vh'.length = s.h.length) (ha : ∀ id, (objAt vh' id).alive = (objAt s.h id).alive) {fi' : Fi} (hb' : fi'.base = fi.base) (hr : fi'.rd = fi.rd) : At_ C fi' F { s with h := vh' } w h fr m hb := by
  have own : ∀ b, Own w vh' b → Own w s.h b := fun b ⟨id, e, a⟩ => ⟨id, e, by rw [← ha]; exact a⟩
  exact ⟨hr.trans A.rd, by rw [hb']; show fi.base ≤ vh'.length; rw [hl]; exact A.bs, ⟨R, A.st.q, fun b e => ⟨(A.st.tp b e).1, fun hh => (A.st.tp b e).2.1 (own b hh), (A.st.tp b e).2.2⟩, A.st.dep⟩, A.fr,
    ⟨A.mks.le0, fun x hx => by obtain ⟨a, b, c, d, e⟩ := A.mks.at_ x hx; exact ⟨a, b, c, fun hh => d (own x hh), e⟩⟩⟩
theorem At_.step (A : At_ C fi F s w h fr m hb) (E : Pre C T G fi) {s' : VS} (R : HR C.G w' h' s'.h) (hf : FrR w' h' s'.f fr') (S : Stp2 w h s.h w' h' s'.h) (hp : s'.pd = s.pd) : At_ C fi F s' w' h' fr' m hb ∧ Le P C.tp w h s.h w' h' s'.h :=
  have L : Le (fun _ => True) none w h s.h w' h' s'.h := S.le A.st.hr
  ⟨⟨A.rd, Nat.le_trans A.bs (S.len A.st.hr R), ⟨R, by rw [hp]; exact E.ok.st (L.qst A.st.hr A.st.tp fun _ _ => trivial) A.st.q, A.st.tp.le (L.none_tp), by rw [S.y]; exact A.st.dep⟩, hf, A.mks.le (L.none_tp)⟩, S.le A.st.hr⟩
theorem Thn.go (Z : Thn C fi F s w h m hb k r K) (A : At_ C fi F s w h fr m hb) {e : Ex} (hk : k e s = some r) : K e fr h m := Z e s w h fr m A (fun _ => rfl) .refl hk
theorem Thn.later {s' : VS} {m' : List Nat} {k' : Ex → VS → Option α} {K' : Ex → (Nat → Value) → Heap → List Nat → Prop} (Z : Thn C fi F s w h m hb k r K) (L : Le (PF fi) C.tp w h s.h w' h' s'.h) (hm : fi.rd = true → m' = m)
    (hk : ∀ e s2 w2 h2 fr2 m2, At_ C fi F s2 w2 h2 fr2 m2 hb → (fi.rd = true → m2 = m') → Le (PF fi) C.tp w' h' s'.h w2 h2 s2.h → k' e s2 = some r → (k e s2 = some r ∧ (K e fr2 h2 m2 → K' e fr2 h2 m2)) ∨ K' e fr2 h2 m2) : Thn C fi F s' w' h' m' hb k' r K' :=
  fun e s2 w2 h2 fr2 m2 A hm2 L2 hk2 => by
    rcases hk e s2 w2 h2 fr2 m2 A hm2 L2 hk2 with ⟨a, b⟩ | a
    · exact b (Z e s2 w2 h2 fr2 m2 A (fun hr => (hm2 hr).trans (hm hr)) (L.trans L2) a)
    · exact a
theorem code_seq (I : CodeOk T G R.code) (E : Pre C T G fi) {a b : KC} (hc : (R.code C.Y fi tag a s fun e s' => match e with | .normal => R.code C.Y fi tag b s' k | e => k e s') = some r) (A : At_ C fi F s w h fr m hb) (Z : Thn C fi F s w h m hb k r K) : AX T F (.seq a b) fr h m K := by
  refine AX_seq (I.use E hc A fun e s' w' h' fr' m' A' hm L hk => ?_)
  cases e with
  | normal => exact I.use E hk A' (Z.later L hm fun e s2 w2 h2 fr2 m2 _ _ _ hk => .inl ⟨hk, id⟩)
  | ret => exact Z _ _ _ _ _ _ A' hm L hk
  | exit id => exact Z _ _ _ _ _ _ A' hm L hk
theorem code_loop0 (I : CodeOk T G R.code) (E : Pre C T G fi) {a : KC} (hc : (R.code C.Y fi tag a s fun e s' => match e with | .normal => R.code C.Y fi tag (.loop a) s' k | e => k e s') = some r) (A : At_ C fi F s w h fr m hb) (Z : Thn C fi F s w h m hb k r K) : AX T F (.loop a) fr h m K := by
  refine AX_loop_step (I.use E hc A fun e s' w' h' fr' m' A' hm L hk => ?_)
  cases e with
  | normal => exact I.use E hk A' (Z.later L hm fun e s2 w2 h2 fr2 m2 _ _ _ hk => .inl ⟨hk, id⟩)
  | ret => exact Z _ _ _ _ _ _ A' hm L hk
  | exit id => exact Z _ _ _ _ _ _ A' hm L hk
theorem code_block (I : CodeOk T G R.code) (E : Pre C T G fi) {id : Nat} {a : KC} (hc : (R.code C.Y fi id a s fun e s' => k (match e with | .exit id' => if id' = id then .normal else .exit id' | e => e) s') = some r) (A : At_ C fi F s w h fr m hb) (Z : Thn C fi F s w h m hb k r K) : AX T F (.block id a) fr h m K := by
  refine AX_block (I.use E hc A fun e s' w' h' fr' m' A' hm L hk => ?_)
  cases e with
  | normal => exact Z _ _ _ _ _ _ A' hm L hk
  | ret => exact Z _ _ _ _ _ _ A' hm L hk
  | exit id' =>
    show if id' = id then K .normal fr' h' m' else K (.exit id') fr' h' m'
    dsimp only at hk
    split
    · rename_i hh; rw [if_pos hh] at hk; exact Z _ _ _ _ _ _ A' hm L hk
    · rename_i hh; rw [if_neg hh] at hk; exact Z _ _ _ _ _ _ A' hm L hk
theorem told_ok {c : KO} {b : Bool} (A : At_ C fi F s w h fr m hb) (e : c.ev fr = .bool b) : At_ C fi F (told s c b) w h fr m hb := by
  cases c with
  | c v => exact A
  | t n =>
    have e : fr n = .bool b := e
    exact ⟨A.rd, A.bs, A.st, .cons (by rw [e]; exact .b _) A.fr, A.mks⟩
theorem told_h {c : KO} {b : Bool} : (told s c b).h = s.h ∧ (told s c b).pd = s.pd := by cases c <;> exact ⟨rfl, rfl⟩
theorem code_cond0 (I : CodeOk T G R.code) (E : Pre C T G fi) {c : KO} {a b : KC} {t : Bool} (hv : evV s.f c = .b t) (hc : (bif t then R.code C.Y fi tag a (told s c true) k else R.code C.Y fi tag b (told s c false) k) = some r) (A : At_ C fi F s w h fr m hb) (Z : Thn C fi F s w h m hb k r K) : AX T F (.cond c a b) fr h m K := by
  have hx := A.fr.ev c
  rw [hv] at hx
  generalize hu : c.ev fr = u at hx
  cases hx
  have Z' : Thn C fi F (told s c t) w h m hb k r K := by
    unfold Thn
    rw [told_h.1]
    exact Z
  refine AX_cond hu ?_
  cases t with
  | true => exact I.use E hc (told_ok A hu) Z'
  | false => exact I.use E hc (told_ok A hu) Z'
end
end Go.Canon
namespace Go.Canon
set_option linter.unusedVariables false
set_option linter.unusedSimpArgs false
open Go
variable [C0 : Cmb] [CmbOk C0]
variable {α : Type}
variable {w w' w2 wE : Wd} {h h' h2 hE : Heap} {vh vh' vh2 vhE : List VO} {fr fr' frE : Nat → Value} {P : Nat → Prop} {tp : Option Nat} {f : Fr} {m m' : List Nat} {hb : Nat}
variable {T : Nat → Option KFunc} {G : Nat → List (Sg V)} {H : Hs} {R : Vm α} {C : Cx α} {fi : Fi} {tag : Nat} {s s1 s' : VS} {k : Ex → VS → Option α} {r : α} {F : FI} {K : Ex → (Nat → Value) → Heap → List Nat → Prop}
variable {ls : LS} {ρ ρ' : Rn} {wr : List Nat}
theorem PI_guard : ∀ id, PI fi.base fi.prot ls ρ id → PF (fi.guard ls ρ) id := fun id hp => by
  rcases hp with hp | hp | ⟨a, ha⟩
  · exact .inl hp
  · exact .inr (List.mem_append_right _ hp)
  · exact .inr (List.mem_append_left _ (List.mem_map_of_mem (lookR_mem ha)))
theorem PF_PI : ∀ id, PF fi id → PI fi.base fi.prot ls ρ id := fun id hp => by
  rcases hp with hp | hp
  · exact .inl hp
  · exact .inr (.inl hp)
theorem PF_guard : ∀ id, PF fi id → PF (fi.guard ls ρ) id := fun id hp => PI_guard id (PF_PI id hp)
theorem Pre.guard (E : Pre C T G fi) : Pre C T G (fi.guard ls ρ) := ⟨E.T, E.G, E.ok, E.dep, E.b0⟩
/-- A state taken for another of its shape. -/
theorem meet_ok (E : Pre C T G fi) (O : LOk ls fi.base fi.prot ρ s1 wr) (RE : HR C.G wE hE s1.h) (TE : TpOk C.tp wE hE s1.h) (FE : FrR wE hE s1.f frE) (KE : Lkd ls ρ s1.h vhE) (hbs : fi.base ≤ s1.h.length)
    (A : At_ C (fi.guard ls ρ) F s' w' h' fr' m' hb) (L : Le (PI fi.base fi.prot ls ρ) C.tp wE hE vhE w' h' s'.h) (hk : ∀ t ∈ ls.keep, fr' t = frE t) {x' : El ls.ty} {i' : List Nat} (e : ls.dec fi.base (fixR ls.ob ρ) s' = some (x', ρ', i')) :
    ∃ w2, At_ C fi F (ls.enc ρ s1 x') w2 h' fr' m' hb ∧ Le (PI fi.base fi.prot ls ρ) C.tp wE hE vhE w2 h' (ls.enc ρ s1 x').h := by
  obtain ⟨w2, a1, a2, a3, a4, a5, a6⟩ := LS.step O RE KE TE FE A.st.hr A.fr L hk e
  have hpd : s'.pd = none := (LS.dec_ok A.st.hr A.fr e).1
  refine ⟨w2, ⟨A.rd, by rw [enc_len]; exact hbs, ⟨a1, ?_, fun b eb => ?_, by rw [a3.y, ← L.y]; exact A.st.dep⟩, a2, ⟨A.mks.le0, fun x hx => ?_⟩⟩, a3⟩
  · have hq := A.st.q
    rw [hpd] at hq
    refine E.ok.st ⟨fun id hid o ho => ?_, a4, fun _ _ => rfl, a3.y.trans L.y.symm, fun _ _ => rfl⟩ hq
    have hlt : id < wE.ι.length := by rw [RE.len]; exact Nat.lt_of_lt_of_le hid (Nat.le_trans E.b0 hbs)
    have hp : PI fi.base fi.prot ls ρ id := .inl (Nat.lt_of_lt_of_le hid E.b0)
    have h1 := L.ι id hp _ (List.getElem?_eq_getElem hlt)
    rw [ho] at h1; cases h1
    exact a3.ι id hp _ (List.getElem?_eq_getElem hlt)
  · obtain ⟨c1, c2, c3⟩ := A.st.tp b eb
    refine ⟨fun hf => ?_, fun ho => c2 (a6 b ho), c3⟩
    rcases a5 b hf with hf | hf
    · exact c1 hf
    · exact c2 hf
  · obtain ⟨c1, c2, c3, c4, c5⟩ := A.mks.at_ x hx
    refine ⟨c1, c2, fun hf => ?_, fun ho => c4 (a6 x ho), c5⟩
    rcases a5 x hf with hf | hf
    · exact c3 hf
    · exact c4 hf
/-- Locks put back. -/
theorem leave_ok (A : At_ C (fi.guard ls ρ) F s' w' h' fr' m' hb) (L : Le P C.tp wE hE vhE w' h' s'.h) (ha : ∀ id, (objAt vhE id).alive = (objAt s1.h id).alive) (hf : ∀ id, (objAt vhE id).free = true → (objAt s1.h id).free = true) :
    At_ C fi F { s' with h := relock s1.h s'.h } w' h' fr' m' hb ∧ Le P C.tp wE hE s1.h w' h' (relock s1.h s'.h) := by
  obtain ⟨a1, a2⟩ := relock_ok A.st.hr L ha hf
  refine ⟨A.relk a1 relock_len (fun id => ?_) rfl rfl, a2⟩
  rw [relock_at]
  split
  · exact VO.unlock_alive _
  · rfl
theorem Lkd.free (K : Lkd ls ρ vh vhE) (hn : ∀ id, Nmd ls ρ id → (objAt vh id).free = true) : ∀ id, (objAt vhE id).free = true → (objAt vh id).free = true := fun id hf => by
  rcases K.at_ id with ⟨h1, _⟩ | ⟨_, h1⟩
  · exact hn id h1
  · rw [h1, VO.lock_free] at hf; cases hf
/-- Ways that meet behind a piece of code. -/
theorem code_join (E : Pre C T G fi) {c a : KC} (hwr : wrK c = wrK a) {run : Fi → VS → (Ex → VS → Option α) → Option α}
    (hrun : ∀ {fi : Fi} {s : VS} {k : Ex → VS → Option α} {w h fr} {K : Ex → (Nat → Value) → Heap → List Nat → Prop}, Pre C T G fi → (∀ t, lookF s.f t = lookF (ls.pre fi.base s1).f t) → run fi s k = some r → At_ C fi F s w h fr m hb → Thn C fi F s w h m hb k r K → AX T F c fr h m K)
    (hc : vJoin fi ls a s1 run k = some r) (A : At_ C fi F s1 w h fr m hb) (Z : Thn C fi F s1 w h m hb k r K) : AX T F c fr h m K := by
  obtain ⟨w1, R1, F1, S1, p1⟩ := pre_ok (ls := ls) (base := fi.base) A.st.hr A.fr
  simp only [vJoin] at hc
  split at hc
  · rename_i ok
    obtain ⟨A1, L1⟩ := A.step (P := PF fi) E R1 F1 S1 p1
    have O := LS.ok_ok (fun a c e => (look_idR e).2) ok
    have KE := lockB_Lkd O
    have hal := KE.alive O.nmf
    have hfree := KE.free O.nmf
    have A2 := A1.relk (fi' := fi.guard ls (idR fi.base ls.ob)) (lockB_HR R1) KE.len hal rfl rfl
    rw [joinK_eq] at hc
    refine AX.wr (hrun (s := { ls.pre fi.base s1 with h := lockB (idR fi.base ls.ob) (ls.pre fi.base s1).h }) E.guard (fun t => rfl) hc A2 fun e s' w' h' fr' m' A' hm L' hk hw => ?_)
    have hw : ∀ t ∈ ls.keep, fr' t = fr t := fun t ht => hw t (by
      obtain ⟨nf, _, f2, _⟩ := O.nf
      rw [hwr]; exact (f2 t ht).1)
    have exits : ∀ e, k e { s' with h := relock (ls.pre fi.base s1).h s'.h } = some r → K e fr' h' m' := fun e hk => by
      obtain ⟨B1, B2⟩ := leave_ok A' L' hal hfree
      exact Z _ _ _ _ _ _ B1 hm (L1.trans (B2.weak PF_guard)) hk
    cases e with
    | ret => exact exits _ hk
    | exit id => exact exits _ hk
    | normal =>
      dsimp only at hk
      split at hk
      · rename_i x' ρ' i' e
        obtain ⟨w2, B1, B2⟩ := meet_ok E O R1 A1.st.tp F1 KE A1.bs A' (L'.weak PI_guard) hw e
        obtain ⟨c1, c2⟩ := relock_ok B1.st.hr B2 hal hfree
        refine Z _ _ _ _ _ _ (B1.relk c1 relock_len (fun id => ?_) rfl rfl) hm (L1.trans (c2.weak PF_PI)) hk
        rw [relock_at]
        split
        · exact VO.unlock_alive _
        · rfl
      · cases hk
  · cases hc
/-- A loop, by its shape. -/
theorem code_loop (I : CodeOk T G R.code) (E : Pre C T G fi) {a : KC} {x : El ls.ty} {i : List Nat} (hd : ls.dec fi.base [] (ls.pre fi.base s) = some (x, ρ, i)) (ok : ls.ok fi.base fi.prot ρ (ls.pre fi.base s) a = true)
    (hc : loopK (fun x again => R.code C.Y (fi.guard ls ρ) tag a (ls.enc ρ { ls.pre fi.base s with h := kill i (ls.pre fi.base s).h } x) fun e s' => match e with
            | .normal => match ls.dec fi.base (fixR ls.ob ρ) s' with
              | some (x, _) => again x
              | none => none
            | e => k e { s' with h := relock (kill i (ls.pre fi.base s).h) s'.h }) fuelL x = some r)
    (A : At_ C fi F s w h fr m hb) (Z : Thn C fi F s w h m hb k r K) : AX T F (.loop a) fr h m K := by
  obtain ⟨w1, R1, F1, S1, p1⟩ := pre_ok (ls := ls) (base := fi.base) A.st.hr A.fr
  obtain ⟨A1, L1⟩ := A.step (P := PF fi) E R1 F1 S1 p1
  obtain ⟨O, R2, S2, R3, F3, hpd⟩ := LS.entry R1 F1 hd ok
  generalize hs1 : ({ ls.pre fi.base s with h := kill i (ls.pre fi.base s).h } : VS) = s1 at O R3 F3 hc
  have hs1h : s1.h = kill i (ls.pre fi.base s).h := by rw [← hs1]
  have hs1f : s1.f = (ls.pre fi.base s).f := by rw [← hs1]
  have hs1p : s1.pd = (ls.pre fi.base s).pd := by rw [← hs1]
  rw [← hs1h] at R2 S2 hc
  obtain ⟨A2, L2⟩ := A1.step (s' := s1) (fr' := fr) (P := PF fi) E R2 (by rw [hs1f]; exact F1.mono (S2.wle R1)) S2 hs1p
  have KE : ∀ x, Lkd ls ρ s1.h (ls.enc ρ s1 x).h := fun x => enc_Lkd O
  have hal := (KE x).alive O.nmf
  have hfree := (KE x).free O.nmf
  have A3 : At_ C fi F (ls.enc ρ s1 x) (w1.fz i) h fr m hb := by
    have B := A2.relk (fi' := fi) R3 enc_len hal rfl rfl
    have hq : (ls.enc ρ s1 x).pd = s1.pd := by rw [hs1p, hpd]; rfl
    exact ⟨B.rd, B.bs, ⟨R3, by rw [hq]; exact B.st.q, B.st.tp, B.st.dep⟩, F3, B.mks⟩
  have key : ∀ (fu : Nat) (y : El ls.ty) (w' : Wd) (h' : Heap) (fr' : Nat → Value) (m' : List Nat), At_ C fi F (ls.enc ρ s1 y) w' h' fr' m' hb → (fi.rd = true → m' = m) → Le (PI fi.base fi.prot ls ρ) C.tp (w1.fz i) h (ls.enc ρ s1 x).h w' h' (ls.enc ρ s1 y).h → (∀ t ∈ ls.keep, fr' t = fr t) →
      loopK (fun x again => R.code C.Y (fi.guard ls ρ) tag a (ls.enc ρ s1 x) fun e s' => match e with
            | .normal => match ls.dec fi.base (fixR ls.ob ρ) s' with
              | some (x, _) => again x
              | none => none
            | e => k e { s' with h := relock s1.h s'.h }) fu y = some r → AX T F (.loop a) fr' h' m' K := by
    intro fu
    induction fu with
    | zero => intro y w' h' fr' m' _ _ _ _ hc; rw [loopK_zero] at hc; cases hc
    | succ fu ih =>
      intro y w' h' fr' m' A' hm' L' hkp hc
      rw [loopK_succ] at hc
      refine AX_loop_step (AX.wr (I.use E.guard hc (A'.relk A'.st.hr rfl (fun _ => rfl) rfl rfl) fun e s2 w2 h2 fr2 m2 B hm L3 hk hw => ?_))
      have L4 := L'.trans (L3.weak PI_guard)
      have hw : ∀ t ∈ ls.keep, fr2 t = fr t := fun t ht => by
        obtain ⟨nf, _, f2, _⟩ := O.nf
        rw [hw t (f2 t ht).1]; exact hkp t ht
      have exits : ∀ e, k e { s2 with h := relock s1.h s2.h } = some r → K e fr2 h2 m2 := fun e hk => by
        obtain ⟨B1, B2⟩ := leave_ok B L4 hal hfree
        exact Z _ _ _ _ _ _ B1 (fun hr => (hm hr).trans (hm' hr)) (L1.trans (L2.trans (B2.weak PF_PI))) hk
      cases e with
      | ret => exact exits _ hk
      | exit id => exact exits _ hk
      | normal =>
        dsimp only at hk
        split at hk
        · rename_i x' ρ' i' e
          obtain ⟨w3, B1, B2⟩ := meet_ok E O R2 A2.st.tp A2.fr (KE x) A2.bs B L4 hw e
          exact ih _ _ _ _ _ B1 (fun hr => (hm hr).trans (hm' hr)) B2 hw hk
        · cases hk
  exact key fuelL x _ _ _ _ A3 (fun _ => rfl) .refl (fun _ _ => rfl) hc
end Go.Canon
namespace Go.Canon
set_option linter.unusedVariables false
set_option linter.unusedSimpArgs false
open Go
variable [C0 : Cmb] [CmbOk C0]
open Classical
variable {α : Type}
variable {w w' w2 wE : Wd} {h h' h2 hE : Heap} {vh vh' vh2 vhE : List VO} {fr fr' frE : Nat → Value} {P : Nat → Prop} {tp : Option Nat} {f : Fr} {m m' : List Nat} {hb : Nat}
variable {T : Nat → Option KFunc} {G : Nat → List (Sg V)} {H : Hs} {R : Vm α} {C : Cx α} {fi : Fi} {tag : Nat} {s s1 s' : VS} {r : α} {F : FI}
theorem prefix_of {h h' : Heap} (hl : h.length ≤ h'.length) (hh : ∀ b, b < h.length → h'[b]? = h[b]?) : h <+: h' := by
  refine ⟨h'.drop h.length, ?_⟩
  apply List.ext_getElem?
  intro b
  rw [List.getElem?_append]
  split
  · rename_i hb; exact (hh b hb).symm
  · rename_i hb; rw [List.getElem?_drop]; congr 1; omega
theorem prefix_at {h h' : Heap} (hp : h <+: h') {b : Nat} (hb : b < h.length) : h'[b]? = h[b]? := by
  obtain ⟨t, rfl⟩ := hp; exact List.getElem?_append_left hb
/-- A call as a region meets it. -/
def CallVOk (C : Cx α) (T : Nat → Option KFunc) (H : Hs) (R : Vm α) : Prop :=
  ∀ (pure : Bool) (g : Nat) (args : List V) (vh : List VO) (pd : Option KJump) (k : V → List VO → Option KJump → Option α) (r : α), vCall H R C.Y C.dep pure g args vh pd k = some r → C.b0 ≤ vh.length →
  ∀ (w : Wd) (h : Heap) (us : List Value), C.St w h vh pd → VRs w h args us → ∀ K : Value → Heap → Prop,
    (∀ v u vh' pd' w' h', C.St w' h' vh' pd' → Le (fun id => id < vh.length) C.tp w h vh w' h' vh' → (pure = true → h.length ≤ h'.length ∧ ∀ b, b < h.length → (∀ id ∈ chV H g args, ¬ atB w id b) → h'[b]? = h[b]?) → VR w' h' v u → vh.length ≤ vh'.length → k v vh' pd' = some r → K u h') → ACall T g us h K
structure LgR (prs : List (Nat × Nat)) (lg : List Lg) (log : List LogE) (w : Wd) : Prop where
  at_ : ∀ e ∈ log, (∃ j, (e.ix, j) ∈ prs) → ∃ g ∈ lg, g.ix = e.ix ∧ (g.ch = false → e.hb <+: e.ha ∧ (g.call = false → e.all = false ∧ ∀ b ∈ e.rd, w.F b ∨ ∃ id ∈ g.ids, atB w id b)) ∧
    (g.ch = true → ∀ b, b < e.hb.length → (∀ id ∈ g.ids, ¬ atB w id b) → e.ha[b]? = e.hb[b]?)
theorem LgR.mono {prs : List (Nat × Nat)} {lg : List Lg} {log : List LogE} (L : LgR prs lg log w) (hι : ∀ (id : Nat) o, w.ι[id]? = some o → w'.ι[id]? = some o) (hF : ∀ b, w.F b → w'.F b) : LgR prs lg log w' :=
  ⟨fun e he hj => by
    obtain ⟨g, hg, b, c, d⟩ := L.at_ e he hj
    refine ⟨g, hg, b, fun hq => ⟨(c hq).1, fun hc => ⟨((c hq).2 hc).1, fun x hx => ?_⟩⟩, fun hq b hb hn => d hq b hb fun id hid ⟨n, e⟩ => hn id hid ⟨n, hι _ _ e⟩⟩
    rcases ((c hq).2 hc).2 x hx with c | ⟨id, c, n, d⟩
    · exact .inl (hF _ c)
    · exact .inr ⟨id, c, n, hι _ _ d⟩⟩
theorem LgR.skip {prs : List (Nat × Nat)} {lg : List Lg} {log : List LogE} {e : LogE} (L : LgR prs lg log w) (he : ¬ ∃ j, (e.ix, j) ∈ prs) : LgR prs lg (e :: log) w :=
  ⟨fun x hx hj => by
    rcases List.mem_cons.1 hx with rfl | hx
    · exact (he hj).elim
    · exact L.at_ x hx hj⟩
theorem LgR.add {prs : List (Nat × Nat)} {lg : List Lg} {log : List LogE} {e : LogE} {g : Lg} (L : LgR prs lg log w) (hi : g.ix = e.ix) (hg : g.ch = false → e.hb <+: e.ha ∧ (g.call = false → e.all = false ∧ ∀ b ∈ e.rd, w.F b ∨ ∃ id ∈ g.ids, atB w id b))
    (hh : g.ch = true → ∀ b, b < e.hb.length → (∀ id ∈ g.ids, ¬ atB w id b) → e.ha[b]? = e.hb[b]?) : LgR prs (g :: lg) (e :: log) w :=
  ⟨fun x hx hj => by
    rcases List.mem_cons.1 hx with rfl | hx
    · exact ⟨g, List.mem_cons_self, hi, hg, hh⟩
    · obtain ⟨g', hg', b⟩ := L.at_ x hx hj
      exact ⟨g', List.mem_cons_of_mem _ hg', b⟩⟩
theorem paired {prs : List (Nat × Nat)} {a b : Nat} (hj : (a, b) ∈ prs) : (prs.any fun p => Nat.beq p.1 a && Nat.beq p.2 b) = true := List.any_eq_true.2 ⟨_, hj, by simp⟩
/-- What leaves all that was is apart from what went before. -/
theorem LgR.apartP {prs : List (Nat × Nat)} {lg : List Lg} {log : List LogE} {e : LogE} (L : LgR prs lg log w) (hp : e.hb <+: e.ha) (hs : ∀ g ∈ lg, (g.ix, e.ix) ∈ prs → g.ch = true → e.all = false ∧ ∀ b ∈ e.rd, ∀ id ∈ g.ids, ¬ atB w id b) : ∀ e' ∈ log, (e'.ix, e.ix) ∈ prs → apart e' e := fun e' he' hj => by
  obtain ⟨g, hg, q, a, c⟩ := L.at_ e' he' ⟨_, hj⟩
  constructor
  · cases hch : g.ch with
    | false =>
      unfold clean; split
      · exact (a hch).1
      · exact fun b _ hb => prefix_at (a hch).1 hb
    | true =>
      obtain ⟨h1, h2⟩ := hs g hg (by rw [q]; exact hj) hch
      unfold clean
      rw [h1]
      exact fun b hb hl => c hch b hl (h2 b hb)
  · unfold clean; split
    · exact hp
    · exact fun b _ hb => prefix_at hp hb
theorem sure_blk (R : HR G w h vh) {v : V} {u : Value} (hv : VR w h v u) (hs : v.sure = true) {b : Nat} (hb : b ∈ blkOf u) : w.F b ∨ ∃ id ∈ idV v, atB w id b := by
  cases hv with
  | op id q j b' m' hi => simp [blkOf] at hb; subst hb; exact .inr ⟨id, by simp [idV], m', hi⟩
  | om id b' m' hi => simp [blkOf] at hb; subst hb; exact .inr ⟨id, by simp [idV], m', hi⟩
  | fp t x j ng b' o row wr gr hF => simp [blkOf] at hb; subst hb; exact .inl hF
  | gp g j hg => simp [blkOf] at hb; subst hb; exact .inl (R.gl _ hg).1
  | k _ hk =>
    cases u <;> first | (simp [blkOf] at hb; done) | skip
    · rename_i a; cases a <;> simp [blkOf, flat0] at hb hk
    · rename_i a n c; cases a <;> simp [blkOf, flat0] at hb hk
    · rename_i a; cases a <;> simp [blkOf, flat0] at hb hk
  | mp k v l _ H =>
    rcases H with ⟨_, e⟩ | ⟨b', ms, e, e2⟩
    · cases e; simp [blkOf] at hb
    · cases e; simp [blkOf] at hb; subst hb; exact .inl e2.1
  | np t x _ H =>
    cases x with
    | none => cases H; simp [blkOf] at hb
    | some x => obtain ⟨b', o, row, wr, e, e2⟩ := H; cases e; simp [blkOf] at hb; subst hb; exact .inl e2.1
  | _ => cases hs
theorem rd_ok (R : HR G w h vh) (Hf : FrR w h f fr) {op : KOp} (hw : wrV vh f op = none) (hs : rdSure f op = true) : ∀ b ∈ rds op fr, w.F b ∨ ∃ id ∈ rdV f op, atB w id b := by
  intro b hb
  cases op with
  | ld x n => exact sure_blk R (Hf.ev x) hs hb
  | slS x lo hi mx sz => exact sure_blk R (Hf.ev x) hs hb
  | slA x lo hi mx len sz => exact sure_blk R (Hf.ev x) hs hb
  | lk kd x k z ok => exact sure_blk R (Hf.ev x) hs hb
  | app s x sz bytes =>
    simp only [rdSure, Bool.and_eq_true] at hs
    simp only [rds, List.mem_append] at hb
    rcases hb with hb | hb
    · exact (sure_blk R (Hf.ev s) hs.1 hb).imp id fun ⟨i, a, b⟩ => ⟨i, List.mem_append_left _ a, b⟩
    · exact (sure_blk R (Hf.ev x) hs.2 hb).imp id fun ⟨i, a, b⟩ => ⟨i, List.mem_append_right _ a, b⟩
  | st | clr | ins | ment | mset | cpy => cases hw
  | _ => simp [rds] at hb
theorem inPrs_eq {prs : List (Nat × Nat)} {i : Nat} : prs.any (fun p => decide (p.1 = i ∨ p.2 = i)) = inPrs prs i := by
  unfold inPrs
  induction prs with
  | nil => rfl
  | cons p prs ih =>
    rw [List.any_cons, List.any_cons, ih]
    congr 1
    rw [Bool.eq_iff_iff]
    simp
theorem wanted_ok {g : Option (Nat × Bool)} {t : Nat} {b c : Bool} (hg : g = some (t, b)) (e : fr t = .bool c) : wantedK g fr = (c == b) ∧ toldK g fr = true := by
  subst hg
  simp only [wantedK, toldK, e, and_self]
/-- A region's operations, one after the other. -/
theorem ops_ok (V : CallVOk C T H R) (E : Pre C T G fi) (hG : C.G = H.gl) {prs : List (Nat × Nat)} {K : (Nat → Value) → Heap → List Nat → Prop} {k : VS → Option α} : ∀ (ops : List KOper) (i : Nat) (lg : List Lg) (log : List LogE) (s : VS) (w : Wd) (h : Heap) (fr : Nat → Value),
    At_ C fi F s w h fr m hb → LgR prs lg log w → vOps H R C.Y fi prs i lg ops s k = some r →
    (∀ s' w' h' fr', At_ C fi F s' w' h' fr' m hb → Le (PF fi) C.tp w h s.h w' h' s'.h → k s' = some r → K fr' h' m) → AOps T F prs i log ops fr h m K := by
  intro ops
  induction ops with
  | nil => intro i lg log s w h fr A L hc Z; exact AOps_nil (Z _ _ _ _ A .refl hc)
  | cons o ops ih =>
    intro i lg log s w h fr A L hc Z
    simp only [vOps] at hc
    -- not wanted
    have off : ∀ f, FrR w h f fr → wantedK o.guard fr = false → toldK o.guard fr = true → vOps H R C.Y fi prs (i + 1) lg ops { s with f := putF f o.dst (.tup []) } k = some r → AOps T F prs i log (o :: ops) fr h m K := fun f hf hw ht hc => by
      refine AOps_off hw ht (ih (i + 1) lg log { s with f := putF f o.dst (.tup []) } w h _ ⟨A.rd, A.bs, A.st, hf.put (.tup _ _ .nil), A.mks⟩ L hc fun s' w' h' fr' A' L' hk => Z _ _ _ _ A' L' hk)
    have on : ∀ f, FrR w h f fr → wantedK o.guard fr = true → (match o.op with
      | .call g args =>
        match evV f g with
        | .fn g a c => if inPrs prs i && !callOk s.h prs i lg (chV H g (a ++ args.map (evV f) ++ c)) then none else vCall H R C.Y fi.dep (inPrs prs i) g (a ++ args.map (evV f) ++ c) s.h s.pd fun v vh pd => vOps H R C.Y fi prs (i + 1) (if inPrs prs i then ⟨i, true, chV H g (a ++ args.map (evV f) ++ c), !(chV H g (a ++ args.map (evV f) ++ c)).isEmpty⟩ :: lg else lg) ops { f := putF f o.dst v, h := vh, pd := pd } k
        | .yl d => if inPrs prs i || s.pd.isSome || !(Nat.beq (d + 1) fi.dep) then none else C.Y (args.map (evV f)) s.h fun v vh pd => vOps H R C.Y fi prs (i + 1) lg ops { f := putF f o.dst v, h := vh, pd := pd } k
        | _ => none
      | op => if inPrs prs i && !pairOk s.h prs i lg (wrV s.h f op) (rdSure f op) (rdV f op) then none else
        vop H.gl (o.dst.bind (H.oh fi.fn)) f s.h (fun v vh => vOps H R C.Y fi prs (i + 1) (if inPrs prs i && (wrV s.h f op).isNone then ⟨i, !rdSure f op, rdV f op, false⟩ :: lg else lg) ops { s with f := putF f o.dst v, h := vh } k) op) = some r → AOps T F prs i log (o :: ops) fr h m K := by
      intro f hf hw hc
      split at hc
      · rename_i g args hop
        split at hc
        · rename_i g' a c hev
          split at hc
          · cases hc
          rename_i hcok
          generalize hch : chV H g' (a ++ args.map (evV f) ++ c) = ch at hc hcok
          have hx := hf.ev g
          rw [hev] at hx
          generalize hu : g.ev fr = u at hx
          cases hx with
          | fn _ _ _ a' c' h1 h2 =>
            have hk : kop o.op fr h = some (.call g' (a'.toList ++ args.map (·.ev fr) ++ c'.toList)) := by rw [hop]; simp only [kop, hu]
            have hargs := (h1.append (hf.evs args)).append h2
            rw [← E.dep] at hc
            have next : ∀ v u vh' pd' w' h', C.St w' h' vh' pd' → Le (fun id => id < s.h.length) C.tp w h s.h w' h' vh' → VR w' h' v u → s.h.length ≤ vh'.length → LgR prs (if inPrs prs i then ⟨i, true, ch, !ch.isEmpty⟩ :: lg else lg) (if inPrs prs i then ⟨i, isCall o.op, rds o.op fr, h, h'⟩ :: log else log) w' →
                vOps H R C.Y fi prs (i + 1) (if inPrs prs i then ⟨i, true, ch, !ch.isEmpty⟩ :: lg else lg) ops { f := putF f o.dst v, h := vh', pd := pd' } k = some r → AOps T F prs (i + 1) (if inPrs prs i then ⟨i, isCall o.op, rds o.op fr, h, h'⟩ :: log else log) ops (put fr o.dst u) h' m K := by
              intro v u vh' pd' w' h' S' L' hv hle hlg hc
              have W : Wle w h w' h' := L'.wle A.st.hr A.st.tp fun id hid => by rw [← A.st.hr.len]; exact hid
              refine ih _ _ _ { f := putF f o.dst v, h := vh', pd := pd' } w' h' _ ⟨A.rd, Nat.le_trans A.bs hle, S', (hf.mono W).put hv, A.mks.le L'⟩ hlg hc fun s2 w2 h2 fr2 A2 L2 hk2 => ?_
              refine Z _ _ _ _ A2 (Le.trans ?_ L2) hk2
              exact { L' with ι := fun id hp o ho => L'.ι id (by rw [← A.st.hr.len]; exact (List.getElem?_eq_some_iff.1 ho).1) o ho }
            cases hp : inPrs prs i with
            | false =>
              refine AOps_call (by rw [inPrs_eq, hp]) hw hk (V _ _ _ _ _ _ _ hc (Nat.le_trans E.b0 A.bs) _ _ _ A.st hargs _ fun v u vh' pd' w' h' S' L' _ hv hle hc => ?_)
              have W : Wle w h w' h' := L'.wle A.st.hr A.st.tp fun id hid => by rw [← A.st.hr.len]; exact hid
              have := next v u vh' pd' w' h' S' L' hv hle
              rw [hp] at this hc
              exact this (L.mono W.ι W.F) hc
            | true =>
              refine AOps_callD hw hk (by rw [inPrs_eq, hp]) (V _ _ _ _ _ _ _ hc (Nat.le_trans E.b0 A.bs) _ _ _ A.st hargs _ fun v u vh' pd' w' h' S' L' hpre hv hle hc => ?_)
              have W : Wle w h w' h' := L'.wle A.st.hr A.st.tp fun id hid => by rw [← A.st.hr.len]; exact hid
              have := next v u vh' pd' w' h' S' L' hv hle
              rw [hp] at this hc hcok
              obtain ⟨hle2, hun⟩ := hpre hp
              rw [hch] at hun
              have hcok : callOk s.h prs i lg ch = true := by simpa using hcok
              have hget : ∀ g ∈ lg, (g.ix, i) ∈ prs → g.ch = false ∧ (ch.isEmpty = true ∨ g.call = false ∧ g.ids.all (fun x => (objAt s.h x).free) = true ∧ ∀ x ∈ ch, (objAt s.h x).free = true ∧ x ∉ g.ids) := fun g hg hj => by
                have := List.all_eq_true.1 hcok g hg
                rw [paired hj] at this
                simp only [Bool.not_true, Bool.false_or, Bool.and_eq_true, Bool.or_eq_true, Bool.not_eq_true'] at this
                refine ⟨this.1, this.2.imp id fun ⟨⟨x1, x2⟩, x3⟩ => ⟨x1, x2, fun x hx => ?_⟩⟩
                have := List.all_eq_true.1 x3 x hx
                simp only [Bool.and_eq_true, Bool.not_eq_true'] at this
                exact ⟨this.1, by simpa using this.2⟩
              have add : LgR prs (⟨i, true, ch, !ch.isEmpty⟩ :: lg) (⟨i, isCall o.op, rds o.op fr, h, h'⟩ :: log) w' := by
                refine (L.mono W.ι W.F).add rfl (fun hh => ⟨prefix_of hle2 fun b hb => hun b hb fun id hid => ?_, fun hh => by cases hh⟩) fun _ b hb hn => hun b hb fun id hid ⟨n, e⟩ => hn id hid ⟨n, W.ι _ _ e⟩
                cases ch with
                | nil => cases hid
                | cons => cases hh
              refine ⟨?_, this add hc⟩
              cases he : ch.isEmpty with
              | true =>
                have : ch = [] := by simpa using he
                subst this
                exact L.apartP (e := ⟨i, isCall o.op, rds o.op fr, h, h'⟩) (prefix_of hle2 fun b hb => hun b hb fun id hid => by cases hid) fun g hg hj hq => by rw [(hget g hg hj).1] at hq; cases hq
              | false =>
                intro e' he' hj
                obtain ⟨g, hg, q, t1, _⟩ := L.at_ e' he' ⟨_, hj⟩
                obtain ⟨d1, d2⟩ := hget g hg (by rw [q]; exact hj)
                obtain ⟨d2, d3, d4⟩ := d2.resolve_left (by rw [he]; exact Bool.false_ne_true)
                obtain ⟨t1, t2⟩ := t1 d1
                obtain ⟨t2, t3⟩ := t2 d2
                constructor
                · unfold clean; split
                  · exact t1
                  · exact fun b _ hb => prefix_at t1 hb
                · unfold clean
                  rw [t2]
                  intro b hb hbl
                  refine hun b hbl fun id hid hat => ?_
                  obtain ⟨f1, f2⟩ := d4 id hid
                  rcases t3 b hb with c | ⟨id2, c, d⟩
                  · exact A.st.hr.nF b ⟨id, hat, VO.free_alive f1⟩ c
                  · have := A.st.hr.inj _ _ _ d hat (VO.free_alive (List.all_eq_true.1 d3 _ c)) (VO.free_alive f1)
                    subst this
                    exact f2 c
        · rename_i d hev
          have hx := hf.ev g
          rw [hev] at hx
          generalize hu : g.ev fr = u at hx
          cases hx with
          | yl _ l hy =>
            split at hc
            · cases hc
            · rename_i hno
              simp only [Bool.or_eq_true, Bool.not_eq_true', not_or, Bool.not_eq_false, Bool.not_eq_true] at hno
              obtain ⟨⟨hp, hpd⟩, hd⟩ := hno
              have hd := Nat.eq_of_beq_eq_true hd
              have hpd : s.pd = none := by simpa using hpd
              have hk : kop o.op fr h = some (.yield l (args.map (·.ev fr))) := by rw [hop]; simp only [kop, hu]; rfl
              have St0 := A.st
              rw [hpd] at St0
              have key := E.ok.y St0 (Nat.le_trans E.b0 A.bs) (hf.evs args) hc (l := l) (by rw [E.dep, ← hd]; exact hy) (by rw [E.dep, ← hd]; omega) (K := fun v h' => AOps T F prs (i + 1) log ops (put fr o.dst v) h' m K) fun v u vh' pd' w' h' S' L' hv hle hc => by
                have W : Wle w h w' h' := L'.wle A.st.hr A.st.tp fun id hid => by rw [← A.st.hr.len]; exact hid
                refine ih (i + 1) lg log { f := putF f o.dst v, h := vh', pd := pd' } w' h' _ ⟨A.rd, Nat.le_trans A.bs hle, S', (hf.mono W).put hv, A.mks.le L'⟩ (L.mono W.ι W.F) hc fun s2 w2 h2 fr2 A2 L2 hk2 => ?_
                refine Z _ _ _ _ A2 (Le.trans ?_ L2) hk2
                exact { L' with ι := fun id hp o ho => L'.ι id (by rw [← A.st.hr.len]; exact (List.getElem?_eq_some_iff.1 ho).1) o ho }
              rw [E.T] at key
              exact AOps_yield (by rw [inPrs_eq, hp]) hw hk key
        · cases hc
      · rename_i op hno
        split at hc
        · cases hc
        · rename_i hpair
          have R0 : HR H.gl w h s.h := by rw [← hG]; exact A.st.hr
          obtain ⟨u, e, v, vh', w', hk, hK, R', S', hv, hun⟩ := vop_ok R0 hf hc
          have R' : HR C.G w' (e.on h) vh' := by rw [hG]; exact R'
          have W := S'.wle R0
          obtain ⟨A', L'⟩ := A.step (P := PF fi) (s' := { s with f := putF f o.dst v, h := vh' }) E R' ((hf.mono W).put hv) S' rfl
          have hcall : isCall o.op = false := by
            cases ho : o.op <;> first | rfl | exact (hno _ _ ho).elim
          cases hp : inPrs prs i with
          | false =>
            rw [hp] at hK
            refine AOps_val (by rw [inPrs_eq, hp]) hw hk (ih (i + 1) lg log _ w' _ _ A' (L.mono W.ι W.F) hK fun s2 w2 h2 fr2 A2 L2 hk2 => Z _ _ _ _ A2 (L'.trans L2) hk2)
          | true =>
            rw [hp] at hK hpair
            cases hwr : wrV s.h f o.op with
            | none =>
              rw [hwr] at hK hun
              have hpre : h <+: e.on h := prefix_of S'.hl fun b hb => hun b hb (by simp)
              rw [hwr] at hpair
              have hpair : (lg.all fun e => !(prs.any fun p => Nat.beq p.1 e.ix && Nat.beq p.2 i) || (!e.ch || (rdSure f o.op && e.ids.all (fun x => (objAt s.h x).free) && (rdV f o.op).all fun x => (objAt s.h x).free && !e.ids.contains x))) = true := by simp only [pairOk, Bool.true_and, Bool.not_eq_true', Bool.not_eq_false] at hpair; exact hpair
              refine AOps_valD hw hk (L.apartP (e := ⟨i, isCall o.op, rds o.op fr, h, e.on h⟩) hpre fun g hg hj hq => ⟨hcall, fun b hb id hid hat => ?_⟩) (ih (i + 1) _ _ _ w' _ _ A' ?_ hK fun s2 w2 h2 fr2 A2 L2 hk2 => Z _ _ _ _ A2 (L'.trans L2) hk2) (by rw [inPrs_eq, hp])
              · have := List.all_eq_true.1 hpair g hg
                rw [paired hj, hq] at this
                simp only [Bool.not_true, Bool.false_or, Bool.and_eq_true] at this
                obtain ⟨⟨x1, x2⟩, x3⟩ := this
                have f1 : (objAt s.h id).free = true := List.all_eq_true.1 x2 _ hid
                rcases rd_ok R0 hf hwr x1 b hb with c | ⟨id2, c, d⟩
                · exact R0.nF b ⟨id, hat, VO.free_alive f1⟩ c
                · have x4 := List.all_eq_true.1 x3 _ c
                  simp only [Bool.and_eq_true, Bool.not_eq_true'] at x4
                  have := R0.inj _ _ _ d hat (VO.free_alive x4.1) (VO.free_alive f1)
                  subst this
                  have := x4.2
                  simp at this
                  exact this hid
              refine (L.mono W.ι W.F).add rfl (fun _ => ⟨hpre, fun hh => ⟨hcall, fun b hb => ?_⟩⟩) fun hh => by cases hh
              have := rd_ok R0 hf hwr (by simpa using hh) b hb
              rcases this with c | ⟨id, c, n, d⟩
              · exact .inl (W.F _ c)
              · exact .inr ⟨id, c, n, W.ι _ _ d⟩
            | some l =>
              rw [hwr] at hK hun hpair
              simp only [pairOk, Bool.true_and, Bool.not_eq_true', Bool.not_eq_false, Bool.and_eq_true] at hpair
              obtain ⟨⟨p1, p2⟩, p3⟩ := hpair
              have hnf : ¬ ∃ j, (i, j) ∈ prs := fun ⟨j, hj⟩ => by
                have := List.all_eq_true.1 p1 _ hj
                simp at this
              refine AOps_valD hw hk (fun e' he' hj => ?_) (ih (i + 1) _ _ _ w' _ _ A' ((L.mono W.ι W.F).skip hnf) hK fun s2 w2 h2 fr2 A2 L2 hk2 => Z _ _ _ _ A2 (L'.trans L2) hk2) (by rw [inPrs_eq, hp])
              obtain ⟨g, hg, q2, q3, _⟩ := L.at_ e' he' ⟨_, hj⟩
              have := List.all_eq_true.1 p3 g hg
              rw [paired (a := g.ix) (b := i) (by rw [q2]; exact hj)] at this
              simp only [Bool.not_true, Bool.false_or, Bool.and_eq_true, Bool.not_eq_true'] at this
              obtain ⟨⟨⟨t0, t1⟩, t2⟩, t3⟩ := this
              obtain ⟨q1, q3⟩ := q3 t0
              obtain ⟨q3, q4⟩ := q3 t1
              constructor
              · unfold clean; split
                · exact q1
                · exact fun b _ hb => prefix_at q1 hb
              · unfold clean
                rw [q3]
                intro b hb hbl
                refine hun b hbl fun id hid hat => ?_
                have hid : id ∈ l := hid
                have hfr : (objAt s.h id).free = true := List.all_eq_true.1 p2 _ hid
                rcases q4 b hb with c | ⟨id2, c, d⟩
                · exact R0.nF b ⟨id, hat, VO.free_alive hfr⟩ c
                · have hf2 : (objAt s.h id2).free = true := List.all_eq_true.1 t2 _ c
                  have := R0.inj _ _ _ d hat (VO.free_alive hf2) (VO.free_alive hfr)
                  subst this
                  have := List.all_eq_true.1 t3 _ hid
                  simp at this
                  exact this c
    split at hc
    · rename_i hg; exact on _ A.fr (by rw [hg]; rfl) hc
    · rename_i t b hg
      have hx := A.fr t
      split at hc
      · rename_i c e
        rw [e] at hx
        generalize hu : fr t = u at hx
        cases hx
        obtain ⟨g1, g2⟩ := wanted_ok hg hu
        have hf : FrR w h ((t, .b c) :: s.f) fr := .cons (by rw [hu]; exact .b _) A.fr
        cases b <;> cases c <;> dsimp only [cond_true, cond_false] at hc
        · exact on _ hf (by rw [g1]; rfl) hc
        · exact off _ hf (by rw [g1]; rfl) g2 hc
        · exact off _ hf (by rw [g1]; rfl) g2 hc
        · exact on _ hf (by rw [g1]; rfl) hc
      · rename_i e
        rw [e] at hx
        generalize hu : fr t = u at hx
        cases hx with
        | tup _ vs hvs =>
          exact off _ A.fr (by rw [hg]; simp only [wantedK, hu]) (by rw [hg]; simp only [toldK, hu]) hc
      · cases hc
end Go.Canon
namespace Go.Canon
set_option linter.unusedVariables false
set_option linter.unusedSectionVars false
set_option linter.unusedSimpArgs false
open Go
variable [C0 : Cmb] [CmbOk C0]
variable {α : Type} {r : α} {K : V → List VO → Option α}
variable {G : Nat → List (Sg V)} {w w' w2 : Wd} {h h' h2 : Heap} {vh vh' vh2 : List VO}
theorem rep_ints {F : Nat → Prop} : ∀ {l : List Int} {cs : List Value}, RepL (Rep F h (.int .i64)) l cs ↔ cs = List.map (Value.int .i64) l
  | [], cs => Iff.rfl
  | x :: l, cs => ⟨fun ⟨c1, c2, e, a, b⟩ => by
      have a : c1 = [.int .i64 x] := a
      rw [e, a, rep_ints.1 b]; rfl, fun e => ⟨[.int .i64 x], List.map (Value.int .i64) l, by rw [e]; rfl, rfl, rep_ints.2 rfl⟩⟩
theorem ints_i64 {l : List Int} : (List.map (Value.int .i64) l).all isI64 = true := by
  rw [List.all_eq_true]
  intro v hv
  obtain ⟨z, _, rfl⟩ := List.mem_map.1 hv
  rfl
theorem insL_map {i : Int} {l l' : List Int} : (List.map (Value.int .i64) l).take i.toNat ++ List.map (Value.int .i64) l' ++ (List.map (Value.int .i64) l).drop i.toNat = List.map (Value.int .i64) (insL i l l') := by
  unfold insL
  rw [List.map_append, List.map_append, List.map_take, List.map_drop]
theorem insL_len {i : Int} {l l' : List Int} : (insL i l l').length = l.length + l'.length := by
  unfold insL
  simp only [List.length_append, List.length_take, List.length_drop]; omega
/-- What slices.Insert lays, by what stood there. -/
noncomputable def kinsT (h : Heap) (ad : Option Addr) (xb n m : Nat) (cs : List Value) : Option (Value × Eff) :=
  match ad with
  | none => some (.slice (some ⟨h.length, 0, none⟩) (n + m) (n + m), Eff.new (.row cs true (some 1)))
  | some a => if a.spot.isSome = true then (if n = 0 then some (.slice (some ⟨h.length, 0, none⟩) (n + m) (n + m), .new (.row cs true (some 1))) else none) else
    match h[a.block]?, h[xb]? with
    | some (.row _ _ none), _ => some (.slice (some ⟨h.length, 0, none⟩) (n + m) (n + m), .new (.row cs true (some 1)))
    | some (.row _ true (some 1)), some (.row _ true none) => some (.slice (some ⟨h.length, 0, none⟩) (n + m) (n + m), .kill a.block (.row cs true (some 1)))
    | _, _ => none
theorem vInsert_ok (R : HR G w h vh) {args : List V} {us : List Value} (Hv : VRs w h args us) (H : vInsert vh K args = some r) : ∃ wr, OpO G w h vh wr ((kins us h).map fun p => KR.val p.1 p.2) K r := by
  unfold vInsert at H
  split at H
  · rename_i s i x
    split at H
    · cases H
    rename_i xid hxi
    split at H
    · rename_i lx lk hox
      split at H
      · rename_i b l' hsrc
        cases Hv with
        | @cons _ us0 _ _ hvs Hv =>
        cases Hv with
        | cons hvi Hv =>
        cases hvi
        cases Hv with
        | @cons _ ux _ _ hvx Hv =>
        cases Hv
        -- what is put in
        have hx : ∀ hb : b = true, 0 < l'.length → ∃ xb xo xc csx, ux = .slice (some ⟨xb, xo, none⟩) l'.length xc ∧ firstC h 1 l'.length ux = some (List.map (Value.int .i64) l') ∧ h[xb]? = some (.row csx true none) := fun hb hpos => by
          obtain ⟨ad, xc, cn, hux, g1, g2⟩ := src_ok (t := .int .i64) R hvx hsrc hb
          have hcn := rep_ints.1 g1
          have hf : firstC h 1 l'.length ux = some (List.map (Value.int .i64) l') := by
            have := firstC_all (t := .int .i64) R hux g1 g2
            rw [hcn] at this; exact this
          cases hvx with
          | gl id q j sz o n c b1 mm hi hnc =>
            have hxi : id = xid := Option.some.inj hxi
            subst hxi
            obtain ⟨p, hp, hor⟩ := R.at hox rfl
            rw [hi] at hp
            cases hp
            rcases hor with ⟨b2, cs, gr, e1, e2, e3, e4, _⟩ | ⟨t, _, _, _, e⟩
            · simp only [Option.some.injEq, Addr.mk.injEq] at e1
              obtain ⟨rfl, _⟩ := e1
              have hgr : gr = none := e4 rfl
              subst hgr
              simp only [Value.slice.injEq] at hux
              obtain ⟨_, rfl, _⟩ := hux
              exact ⟨_, _, _, cs, rfl, hf, e2⟩
            · cases e
          | gw id a n hi =>
            have hxi : id = xid := Option.some.inj hxi
            subst hxi
            obtain ⟨p, hp, hor⟩ := R.at hox rfl
            rw [hi] at hp
            cases hp
            rcases hor with ⟨b2, cs, gr, e1, e2, e3, e4, _⟩ | ⟨t, _, _, _, e⟩
            · subst e1
              have hgr : gr = none := e4 rfl
              subst hgr
              simp only [Value.slice.injEq] at hux
              obtain ⟨_, rfl, _⟩ := hux
              exact ⟨_, _, _, cs, rfl, hf, e2⟩
            · cases e
          | gl0 id q j sz o a ha =>
            simp only [Value.slice.injEq] at hux
            omega
          | _ => cases hxi
        have base : ∀ {ad : Option Addr}, noRoom ad → us0 = .slice ad 0 0 → grd (b && insG i 0 (List.length (α := Int) l')) (K (.gw vh.length) (vh ++ [.row [.ar (.int .i64) (List.length (α := Int) l') l'] false false])) = some r → ∃ wr, OpO G w h vh wr ((kins [us0, .int .i64 i, ux] h).map fun p => KR.val p.1 p.2) K r := fun {ad} hn hu H2 => by
          obtain ⟨hb, H2⟩ := grd_some H2
          simp only [insG, Bool.and_eq_true, decide_eq_true_eq] at hb
          obtain ⟨hb, ⟨⟨h1, h2⟩, h3⟩, h4⟩ := hb
          obtain ⟨xb, xo, xc, csx, rfl, hf, hrow⟩ := hx hb h1
          subst hu
          refine ⟨[], lay_app R (t := .int .i64) (x := l') (cs := List.map (Value.int .i64) l') (rep_ints.2 rfl) ?_ H2⟩
          unfold kins
          have hold : firstC h 1 0 (.slice ad 0 0) = some [] := firstC_no hn
          simp only [hold, hf]
          rw [if_pos ⟨trivial, h1, h2, h3, h4⟩, if_pos ⟨rfl, ints_i64⟩]
          have e0 : ([] : List Value).take i.toNat ++ List.map (Value.int .i64) l' ++ ([] : List Value).drop i.toNat = List.map (Value.int .i64) l' := by simp
          rw [e0, Nat.zero_add]
          rcases hn with rfl | ⟨y, rfl, hy⟩
          · rfl
          · simp only [hy, if_true]; rfl
        split at H
        · cases hvs with
          | k _ _ => exact base (.inl rfl) rfl H
        · cases hvs with
          | e0 a ha => exact base ha rfl H
        · rename_i id
          split at H
          · rename_i t n ll ng ho
            split at H
            · rename_i b2 l hsl
              split at H
              · cases H
              · rename_i hne
                obtain ⟨hb, H⟩ := grd_some H
                simp only [insG, Bool.and_eq_true, decide_eq_true_eq] at hb
                obtain ⟨⟨hb, hb2⟩, ⟨⟨h1, h2⟩, h3⟩, h4⟩ := hb
                obtain ⟨xb, xo, xc, csx, rfl, hf, hrow⟩ := hx hb h1
                obtain ⟨ad, hu, hln, hi, hor⟩ := gw_rep R.ha hvs ho
                obtain ⟨ad2, c2, cl, hu2, g3, g4⟩ := src_ok (t := .int .i64) R hvs hsl hb2
                have hcl := rep_ints.1 g3
                have hfl := firstC_all (t := .int .i64) R hu2 g3 g4
                rw [hcl] at hfl
                rw [hu] at hu2
                simp only [Value.slice.injEq] at hu2
                obtain ⟨rfl, hnl, rfl⟩ := hu2
                rw [hu] at hfl ⊢
                have hfl : firstC h 1 n (.slice ad n n) = some (List.map (Value.int .i64) l) := by rw [hnl] at hfl ⊢; exact hfl
                have hfree : (objAt vh id).free = true := by rw [ho]; rfl
                have hvl : (vh.set id .gone).length = vh.length := List.length_set
                have hk0 : kins [.slice ad n n, .int .i64 i, .slice (some ⟨xb, xo, none⟩) l'.length xc] h = kinsT h ad xb n l'.length (List.map (Value.int .i64) (insL i l l')) := by
                  unfold kins kinsT
                  simp only [hfl, hf]
                  rw [if_pos ⟨trivial, h1, h2, by rw [hnl]; exact h3, by rw [hnl]; exact h4⟩, if_pos ⟨ints_i64, ints_i64⟩, insL_map]
                  rfl
                have hlen : (insL i l l').length = n + l'.length := by rw [insL_len, hnl]
                obtain ⟨R1, S1⟩ := R.setO (o := .gone) hi hfree trivial
                have new : ∀ {kr : Option KR}, kr = some (.val (.slice (some ⟨h.length, 0, none⟩) (n + l'.length) (n + l'.length)) (.new (.row (List.map (Value.int .i64) (insL i l l')) true (some 1)))) → ∃ wr, OpO G w h vh wr kr K r := by
                  intro kr hkr
                  obtain ⟨u, e, v, vh', w', q1, q2, q3, q4, q5, q6⟩ := lay_app (wr := []) (K := K) (kr := kr) R1 (t := .int .i64) (x := insL i l l') (cs := List.map (Value.int .i64) (insL i l l')) (rep_ints.2 rfl) (by rw [hlen]; exact hkr) (by rw [hvl]; exact H)
                  exact ⟨[], u, e, v, vh', w', q1, q2, q3, S1.trans q4, q5, q6⟩
                rcases hor with ⟨b0, cs, gr, rfl, e2, e3, e4, e5⟩ | ⟨hn0, hl0, e3, e4⟩
                · cases gr with
                  | none =>
                    refine new ?_
                    rw [hk0]; unfold kinsT
                    simp only [e2]; rfl
                  | some z =>
                    have hz : z = 1 := by
                      rcases e4 with e4 | e4
                      · cases e4
                      · have ht : t = .int .i64 := by
                          unfold srcL at hsl
                          dsimp only at hsl
                          rw [ho] at hsl
                          dsimp only at hsl
                          split at hsl
                          · rename_i hh; exact hh
                          · cases hsl
                        subst ht
                        simpa [Ty.sz] using e4
                    subst hz
                    obtain ⟨R2, S2⟩ := R.upd (co := .gone) (o := .gone) hi hfree (.inr rfl) (fun _ => trivial)
                    obtain ⟨u, e, v, vh', w', q1, q2, q3, q4, q5, q6⟩ := lay_app (wr := []) (K := K) R2 (t := .int .i64) (x := insL i l l') (cs := List.map (Value.int .i64) (insL i l l')) (rep_ints.2 rfl) (kr := some (.val (.slice (some ⟨(h.set b0 .gone).length, 0, none⟩) (insL i l l').length (insL i l l').length) (.new (.row (List.map (Value.int .i64) (insL i l l')) true (some 1))))) rfl (by rw [hvl]; exact H)
                    cases q1
                    refine ⟨[id], .slice (some ⟨h.length, 0, none⟩) (n + l'.length) (n + l'.length), .kill b0 (.row (List.map (Value.int .i64) (insL i l l')) true (some 1)), v, vh', w', ?_, q2, q3, S2.trans q4, ?_, fun c hc hn => ?_⟩
                    · rw [hk0]; unfold kinsT
                      simp only [e2, hrow]; rfl
                    · rw [List.length_set, hlen] at q5; exact q5
                    · show (h.set b0 .gone ++ [_])[c]? = _
                      rw [List.getElem?_append_left (by rw [List.length_set]; exact hc)]
                      exact List.getElem?_set_ne fun e : b0 = c => hn id (by simp) (by subst e; exact ⟨_, hi⟩)
                · refine new ?_
                  rw [hk0]; unfold kinsT
                  rcases e3 with rfl | ⟨y, rfl, hy⟩
                  · rfl
                  · simp only [hy, if_true, hn0]; rfl
            · cases H
          · cases H
        · cases H
      · cases H
    · cases H
  · cases H
end Go.Canon
namespace Go.Canon
set_option linter.unusedVariables false
set_option linter.unusedSimpArgs false
open Go
variable [C0 : Cmb] [CmbOk C0]
variable {α : Type}
variable {w w' w2 wE : Wd} {h h' h2 hE : Heap} {vh vh' vh2 vhE : List VO} {fr fr' frE : Nat → Value} {P : Nat → Prop} {tp : Option Nat} {f : Fr} {m m' : List Nat} {hb : Nat}
variable {T : Nat → Option KFunc} {G : Nat → List (Sg V)} {H : Hs} {R : Vm α} {C : Cx α} {fi : Fi} {tag : Nat} {s s1 s' : VS} {r : α} {F : FI}
theorem frA_ok : ∀ {args : List V} {us : List Value} {n : Nat} {fr : Nat → Value}, VRs w h args us → (∀ i, fr (n + i) = us.getD i undef) → FrR w h (frA n args) fr
  | [], us, n, fr, H, hf => fun t => .un _
  | v :: args, us, n, fr, H, hf => by
    cases H with
    | cons hv H =>
      refine .cons ?_ (frA_ok (n := n + 1) H fun i => ?_)
      · have := hf 0
        simp only [Nat.add_zero, List.getD_cons_zero] at this
        rw [this]; exact hv
      · have := hf (i + 1)
        rw [show n + 1 + i = n + (i + 1) by omega, this]
        simp
theorem vRes_ok (R : HR G w h vh) (Hf : FrR w h f fr) : ∀ {rs : List KRes} {vs : List V}, vRes f vh rs = some vs → ∃ us, rs.mapM (resOf h fr) = some us ∧ VRs w h vs us
  | [], vs, e => by cases e; exact ⟨[], rfl, .nil⟩
  | .tmp t :: rs, vs, e => by
    simp only [vRes] at e
    cases hr : vRes f vh rs with
    | none => rw [hr] at e; cases e
    | some l =>
      rw [hr] at e; cases e
      obtain ⟨us, a, b⟩ := vRes_ok R Hf hr
      exact ⟨fr t :: us, by simp [List.mapM_cons, resOf, a], .cons (Hf t) b⟩
  | .cell t n :: rs, vs, e => by
    simp only [vRes] at e
    have hx := Hf t
    split at e
    · rename_i id j l he hr
      obtain ⟨us, a, b⟩ := vRes_ok R Hf hr
      rw [he] at hx
      generalize hu : fr t = u at hx
      split at e
      · rename_i sg ng lk ho
        obtain ⟨b', m, rfl, hi, cs, gr, hb, hs, _⟩ := op_row R hx ho (fun _ => .inr (.inr trivial))
        have g := fun m (hm : j + m ≤ cs.length) => rowGet_in (o := 0) (j := j) (n := cs.length) (m := m) (cs := []) hb (by omega) hm
        simp only [List.drop_zero, List.take_length, Nat.zero_add] at g
        simp only [offQ, Nat.zero_add] at hu
        split at e
        · cases hc : cellSg sg j with
          | none => rw [hc] at e; cases e
          | some v =>
            rw [hc] at e; cases e
            obtain ⟨u, e1, e2, e3, e4⟩ := cellSg_rep hs hc
            refine ⟨u :: us, ?_, .cons e3 b⟩
            simp [List.mapM_cons, resOf, hu, g 1 e2, e1, a]
        · rename_i n'
          cases hc : partSg sg j n' with
          | none => rw [hc] at e; cases e
          | some p =>
            rw [hc] at e; cases e
            obtain ⟨e1, e2⟩ := partSg_rep hs hc
            refine ⟨.agg ((cs.drop j).take n').toArray :: us, ?_, .cons (.g _ _ (by simpa using e2)) b⟩
            simp [List.mapM_cons, resOf, hu, g n' e1, a]
      · cases e
    · cases e
theorem one_ok {vs : List V} {us : List Value} (H : VRs w h vs us) : ∃ u, (match some us with | some [v] => some v | some vs => some (.tuple vs.toArray) | none => none) = some u ∧ VR w h (one vs) u := by
  cases H with
  | nil => exact ⟨_, rfl, .tup _ _ .nil⟩
  | cons hv H =>
    cases H with
    | nil => exact ⟨_, rfl, hv⟩
    | cons hv2 H => exact ⟨_, rfl, .tup _ _ (by simpa using VRs.cons hv (.cons hv2 H))⟩
theorem closed_at : ∀ {m : List Nat} {h : Heap} {b : Nat}, b ∉ m → (m.foldl (fun h x => h.set x .gone) h)[b]? = h[b]?
  | [], h, b, _ => rfl
  | x :: m, h, b, hb => by
    rw [List.foldl_cons, closed_at (fun hh => hb (List.mem_cons_of_mem _ hh)), List.getElem?_set_ne (fun e => hb (by rw [e]; exact List.mem_cons_self))]
theorem closed_len : ∀ {m : List Nat} {h : Heap}, (m.foldl (fun h x => h.set x .gone) h).length = h.length
  | [], h => rfl
  | x :: m, h => by rw [List.foldl_cons, closed_len, List.length_set]
/-- A function's code, from its arguments to its results. -/
theorem body_ok (I : CodeOk (α := α) T G R.code) {g : Nat} {kf : KFunc} (hkf : T g = some kf) {args : List V} {vh : List VO} {pd : Option KJump} {k : List V → List VO → Option KJump → Option α} (hT : C.T = T) (hG : C.G = G) (ok : C.Ok) (hb : C.b0 ≤ vh.length)
    (hc : vBody R C.Y C.dep g kf args vh pd k = some r) {us : List Value} (S : C.St w h vh pd) (Hv : VRs w h args us) {K : Value → Heap → Prop}
    (Z : ∀ vs us' u vh' pd' w' h', C.St w' h' vh' pd' → Le (fun id => id < vh.length) C.tp w h vh w' h' vh' → VRs w' h' vs us' → (match some us' with | some [v] => some v | some vs => some (.tuple vs.toArray) | none => none) = some u → vh.length ≤ vh'.length → k vs vh' pd' = some r → K u h') : ACall T g us h K := by
    simp only [vBody] at hc
    split at hc
    · rename_i hl
      split at hc
      · cases hc
      rename_i hni
      refine ACall_of hkf (by rw [← Hv.len]; exact hl) ?_ (by simpa using hni)
      have E : Pre C T G ⟨g, false, vh.length, C.dep, []⟩ := ⟨hT, hG, ok, rfl, hb⟩
      have A : At_ C ⟨g, false, vh.length, C.dep, []⟩ ⟨g, kf.nt, none⟩ ⟨frA 0 args, vh, pd⟩ w h (frOf us) [] h.length := ⟨rfl, Nat.le_refl _, S, frA_ok Hv fun i => by simp [frOf], ⟨Nat.le_refl _, fun x hx => by cases hx⟩⟩
      refine I.use E hc A fun e s' w' h' fr' m' A' _ L hk => ?_
      have fin : (match vRes s'.f s'.h kf.res with | some vs => k vs s'.h s'.pd | none => none) = some r → ∃ v, resultsK h' fr' kf.res = some v ∧ (∀ x ∈ m', h'[x]? = some .mark) ∧ K v (m'.foldl (fun h x => h.set x .gone) h') := fun hk => by
        split at hk
        · rename_i vs hvs
          obtain ⟨us', a, b⟩ := vRes_ok A'.st.hr A'.fr hvs
          obtain ⟨u, e1, e2⟩ := one_ok b
          refine ⟨u, by unfold resultsK; rw [a]; exact e1, fun x hx => (A'.mks.at_ x hx).2.1, ?_⟩
          have hh : ∀ b, w'.F b ∨ Own w' s'.h b → (m'.foldl (fun h x => h.set x .gone) h')[b]? = h'[b]? := fun b hb => closed_at fun hm => by
            obtain ⟨_, _, c1, c2, _⟩ := A'.mks.at_ b hm
            rcases hb with hb | hb
            · exact c1 hb
            · exact c2 hb
          obtain ⟨R2, W2⟩ := A'.st.hr.chg (w' := w') rfl rfl (fun _ _ e => e) (Nat.le_of_eq closed_len.symm) hh
          refine Z _ us' u _ _ w' _ ⟨R2, ok.st ⟨fun _ _ _ e => e, fun _ e => e, fun b hb => hh b (.inl hb), rfl, fun l el => closed_at fun hm => (A'.mks.at_ l hm).2.2.2.2 el⟩ A'.st.q, fun b eb => ?_, A'.st.dep⟩ ?_ (b.mono W2) e1 A'.bs hk
          · obtain ⟨c1, c2, c3⟩ := A'.st.tp b eb
            exact ⟨c1, c2, by rw [closed_len]; exact c3⟩
          · exact { L with
              hl := by rw [closed_len]; exact L.hl
              ι := fun id hid => L.ι id (.inl hid)
              fr := fun b hb hn ht => by rw [closed_at fun hm => by have := (A'.mks.at_ b hm).1; omega]; exact L.fr b hb hn ht }
        · cases hk
      cases e with
      | exit id => cases hk
      | normal => exact fin hk
      | ret => exact fin hk
    · cases hc
theorem one_of {vs : List V} {us : List Value} {u : Value} (H : VRs w h vs us) (e : (match some us with | some [v] => some v | some vs => some (.tuple vs.toArray) | none => none) = some u) : VR w h (one vs) u := by
  obtain ⟨u', e1, e2⟩ := one_ok H
  rw [e] at e1; cases e1; exact e2
/-- A call in full. -/
theorem full_ok (I : CodeOk (α := α) T G R.code) : CallOk (α := α) T G (vFull T R) := by
  intro C g args vh pd k r hT hG ok hb hc w h us S Hv K Z
  simp only [vFull] at hc
  split at hc
  · rename_i kf hkf
    split at hc
    · rename_i hi
      obtain ⟨_, u, e, v, vh', w', e1, e2, R', S', hv', _⟩ := vInsert_ok S.hr Hv hc
      rw [Option.map_eq_some_iff] at e1
      obtain ⟨⟨u1, e1'⟩, hki, he⟩ := e1
      cases he
      have L : ∀ P tp, Le P tp w h vh w' _ vh' := fun P tp => S'.le S.hr
      have hr : Ret T g us h u1 (e1'.on h) := ⟨1, by unfold kcall; simp only [hkf, hi, if_true, hki]⟩
      refine hr.call (Z v u1 vh' pd w' _ ⟨R', ok.st ((L (fun id => id < vh.length) none).qst S.hr S.tp fun id hid => Nat.lt_of_lt_of_le hid hb) S.q, S.tp.le (L (fun id => id < vh.length) none).none_tp, by rw [S'.y]; exact S.dep⟩ (L _ _) hv' (S'.len S.hr R') e2)
    exact body_ok I hkf hT hG ok hb hc S Hv fun vs us' u vh' pd' w' h' S' L' hvs eu hl hk => Z _ u vh' pd' w' h' S' L' (one_of hvs eu) hl hk
  · cases hc
end Go.Canon
