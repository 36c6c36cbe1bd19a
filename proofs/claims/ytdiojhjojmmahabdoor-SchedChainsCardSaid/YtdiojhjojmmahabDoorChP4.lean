/- SchedChains, part 4: the canonical machine and the runs of the program's functions on it. No conditions. -/
import Derived.Carry
import Derived.ChangeArms
import Derived.ChangeOld
import Derived.ChangeShapes
import Derived.Deep.Slices
import Derived.FnData
import Derived.OpenShut
import Derived.Test.YtdiojhjojmmahabDoorChP3
set_option linter.unusedSectionVars false
set_option linter.unusedVariables false
set_option linter.unusedSimpArgs false
namespace Go.Canon
set_option linter.unusedVariables false
set_option linter.unusedSimpArgs false
open Go
variable [C0 : Cmb] [CmbOk C0]
variable {w w' w2 wE : Wd} {h h' h2 hE : Heap} {vh vh' vh2 vhE : List VO} {fr fr' frE : Nat → Value} {P : Nat → Prop} {tp : Option Nat} {f : Fr} {m m' : List Nat} {hb : Nat}
variable {T : Nat → Option KFunc} {G : Nat → List (Sg V)} {H : Hs}
theorem dec1_ok (R : HA w h vh) : ∀ {l : List S1} {ρ ρ' : Rn} {vs : List V} {us : List Value} {x : El (tys1 l)} {i : List Nat}, VRs w h vs us → dec1 vh ρ l vs = some (x, ρ', i) →
    Alive vh i ∧ ExtR ρ ρ' ∧ (InjR ρ → InjR ρ') ∧ ∀ {ρe w2}, Tr ρ' ρe w w2 (Fz w i) → VRs w2 h (encVU ρe l x) us
  | [], ρ, ρ', [], us, x, i, H, e => by cases e; cases H; exact ⟨Alive.nil, .refl _, id, fun _ => .nil⟩
  | [], ρ, ρ', v :: vs, us, x, i, H, e => by simp [dec1] at e
  | s :: l, ρ, ρ', [], us, x, i, H, e => by simp [dec1] at e
  | s :: l, ρ, ρ', v :: vs, us, x, i, H, e => by
    simp only [dec1] at e
    cases H with
    | cons hv H =>
      split at e
      · rename_i x1 ρ1 i1 h1
        split at e
        · rename_i x2 ρ2 i2 h2
          cases e
          obtain ⟨a2, a3, a4, a5⟩ := mat1_ok R hv h1
          obtain ⟨b2, b3, b4, b5⟩ := dec1_ok R H h2
          exact ⟨a2.app b2, a3.trans b3, fun hi => b4 (a4 hi), fun T => .cons (a5 (T.sub b3 Fz_mono_l)) (b5 (T.sub (.refl _) Fz_mono_r))⟩
        · cases e
      · cases e
theorem decB_ok (R : HR G w h vh) : ∀ {l : List OSh} {a : Nat} {ρ ρ' : Rn} {x : El (tysB l)} {i : List Nat}, decB vh ρ a l = some (x, ρ', i) →
    Alive vh i ∧ ExtR ρ ρ' ∧ (InjR ρ → InjR ρ') ∧ (∀ m, m < l.length → ∃ j, lookR ρ' (a + m) = some j ∧ (objAt vh j).free = true) ∧
      ∀ {ρe w2}, Tr ρ' ρe w w2 (Fz w i) → ∀ (m : Nat) o, (encBU ρe l x)[m]? = some o → ∀ c, lookR ρe (a + m) = some c → ∀ p, w2.ι[c]? = some p → OR w2 h o p
  | [], a, ρ, ρ', x, i, e => by cases e; exact ⟨Alive.nil, .refl _, id, fun _ hm => (by simp at hm), fun _ m o e => by simp [encBU] at e⟩
  | s :: l, a, ρ, ρ', x, i, e => by
    simp only [decB] at e
    split at e
    · rename_i x1 ρ1 i1 h1
      split at e
      · rename_i x2 ρ2 i2 h2
        cases e
        split at h1
        · rename_i j hj
          have hne : (objAt vh j).alive = true := by
            cases ho : objAt vh j with
            | gone => rw [ho] at h1; cases s <;> simp [matO] at h1
            | _ => rfl
          obtain ⟨p, hp, hor⟩ := R.at rfl hne
          obtain ⟨a1, a2, a3, a4, a5⟩ := matO_ok R.ha hor h1
          obtain ⟨b2, b3, b4, b5, b6⟩ := decB_ok R h2
          have hj2 : lookR ρ' a = some j := b3 _ _ (a3 _ _ hj)
          refine ⟨a2.app b2, a3.trans b3, fun hi => b4 (a4 hi), fun m hm => ?_, fun {ρe w2} T m o eo c hc q hq => ?_⟩
          · cases m with
            | zero => exact ⟨j, hj2, a1⟩
            | succ m =>
              obtain ⟨j', c1, c2⟩ := b5 m (by simpa using hm)
              exact ⟨j', by rw [← c1]; congr 1; omega, c2⟩
          · cases m with
            | zero =>
              simp only [encBU, List.getElem?_cons_zero] at eo
              cases eo
              obtain ⟨c', hc', ho⟩ := T.nm _ _ hj2
              rw [Nat.add_zero] at hc
              rw [hc] at hc'; cases hc'
              rw [ho _ hp] at hq
              cases hq
              exact a5 (T.sub b3 Fz_mono_l)
            | succ m =>
              simp only [encBU, List.getElem?_cons_succ] at eo
              exact b6 (T.sub (.refl _) Fz_mono_r) m o eo c (by rw [← hc]; congr 1; omega) q hq
        · cases h1
      · cases e
    · cases e
/-- Results by their shape. -/
theorem RS_put (R : HR G w h vh) {out : RS} {vs : List V} {us : List Value} {r : El out.ty} (Hv : VRs w h vs us) (e : out.dec vs vh = some r) :
    ∃ w2, HR G w2 h (encBU (upR 0 out.ob.length) out.ob r.2) ∧ VRs w2 h (encVU (upR 0 out.ob.length) out.vals r.1) us ∧ (∀ b, w.F b → w2.F b) ∧ (∀ b, w2.F b → w.F b ∨ Own w vh b) ∧ ∀ b, Own w2 (encBU (upR 0 out.ob.length) out.ob r.2) b → Own w vh b := by
  simp only [RS.dec] at e
  split at e
  · rename_i x ρ1 i1 h1
    split at e
    · rename_i y ρ i2 h2
      split at e
      · rename_i hh
        cases e
        simp only [Bool.and_eq_true] at hh
        obtain ⟨⟨g1, g2⟩, g3⟩ := hh
        obtain ⟨a2, a3, a4, a5⟩ := dec1_ok R.ha Hv h1
        obtain ⟨b2, b3, b4, b5, b6⟩ := decB_ok R h2
        have hinj : InjR ρ := b4 (a4 .nil)
        have hdis : ∀ id ∈ i1 ++ i2, ∀ a, lookR ρ a ≠ some id := fun id hid a ha => by
          have := List.all_eq_true.1 g3 id hid
          simp only [Bool.not_eq_true', List.any_eq_false] at this
          exact this _ (lookR_mem ha) (by simp)
        let w2 : Wd := ⟨(List.range out.ob.length).map fun m => w.ι.getD ((lookR ρ m).getD 0) (none, none), Fz w (i1 ++ i2), []⟩
        have at2 : ∀ {m : Nat}, m < out.ob.length → ∃ j, lookR ρ m = some j ∧ (objAt vh j).free = true ∧ w2.ι[m]? = w.ι[j]? := fun {m} hm => by
          obtain ⟨j, c1, c2⟩ := b5 m hm
          rw [Nat.zero_add] at c1
          refine ⟨j, c1, c2, ?_⟩
          show ((List.range out.ob.length).map fun m => w.ι.getD ((lookR ρ m).getD 0) (none, none))[m]? = _
          rw [List.getElem?_map, List.getElem?_range hm, Option.map_some, c1, Option.getD_some, List.getD_eq_getElem?_getD, List.getElem?_eq_getElem (R.free_lt c2), Option.getD_some]
        have hl2 : w2.ι.length = out.ob.length := by simp [w2]
        have T : Tr ρ (upR 0 out.ob.length) w w2 (Fz w (i1 ++ i2)) := ⟨fun a b hb => by
          have ha : a < out.ob.length := by
            have := List.all_eq_true.1 g1 _ (lookR_mem hb)
            exact Nat.lt_of_succ_le (Nat.le_of_ble_eq_true (by simpa [Nat.blt] using this))
          refine ⟨a, by rw [look_upR, if_pos ha, Nat.zero_add], fun o ho => ?_⟩
          obtain ⟨j, c1, _, c3⟩ := at2 ha
          rw [hb] at c1; cases c1
          rw [c3]; exact ho, fun b hb => hb⟩
        have nm : ∀ {id b}, atB w2 id b → ∃ j, lookR ρ id = some j ∧ (objAt vh j).free = true ∧ atB w j b := fun {id b} ⟨m, hm⟩ => by
          have hid : id < out.ob.length := by rw [← hl2]; exact (List.getElem?_eq_some_iff.1 hm).1
          obtain ⟨j, c1, c2, c3⟩ := at2 hid
          exact ⟨j, c1, c2, m, by rw [← c3]; exact hm⟩
        have hOwn : ∀ b, Own w2 (encBU (upR 0 out.ob.length) out.ob y) b → Own w vh b := fun b ⟨id, e, _⟩ => by
          obtain ⟨j, _, c2, c3⟩ := nm e
          exact ⟨j, c3, VO.free_alive c2⟩
        have hFl : ∀ b, w2.F b → w.F b ∨ Own w vh b := fun b hb => by
          rcases hb with hb | ⟨k, hk, hkb⟩
          · exact .inl hb
          · exact .inr ⟨k, hkb, VO.free_alive (freeAll_mem g2 hk)⟩
        refine ⟨w2, ⟨by rw [hl2, encBU_len], fun id o p ho hp => ?_, fun i j b e1 e2 _ _ => ?_, fun b ⟨id, e, _⟩ hb => ?_, fun b hb => R.lt b (hOwn b hb), fun b hb => ?_, fun g hg => ?_⟩, a5 (T.sub b3 Fz_mono_l), fun b hb => .inl hb, hFl, hOwn⟩
        · have hid : id < out.ob.length := by rw [← hl2]; exact (List.getElem?_eq_some_iff.1 hp).1
          exact b6 (T.sub (.refl _) Fz_mono_r) id o ho id (by rw [Nat.zero_add, look_upR, if_pos hid, Nat.zero_add]) p hp
        · obtain ⟨j1, c1, c2, c3⟩ := nm e1
          obtain ⟨j2, d1, d2, d3⟩ := nm e2
          have := R.inj _ _ _ c3 d3 (VO.free_alive c2) (VO.free_alive d2)
          subst this
          exact hinj _ _ _ c1 d1
        · obtain ⟨j1, c1, c2, c3⟩ := nm e
          rcases hb with hb | ⟨k, hk, hkb⟩
          · exact R.nF b ⟨j1, c3, VO.free_alive c2⟩ hb
          · have := R.inj _ _ _ hkb c3 (VO.free_alive (freeAll_mem g2 hk)) (VO.free_alive c2)
            subst this
            exact hdis k hk _ c1
        · rcases hFl b hb with hb | hb
          · exact R.Fl b hb
          · exact R.lt b hb
        · obtain ⟨a, cs, wr, b, c⟩ := R.gl g hg
          exact ⟨.inl a, cs, wr, b, SgR.mono (w := ⟨[], w.F, []⟩) (w' := ⟨[], w2.F, []⟩) ⟨fun _ _ x => x, fun b hb => .inl hb, fun _ _ => rfl, fun _ _ x => x⟩ c⟩
      · cases e
    · cases e
  · cases e
theorem ArgsR.vrs {F : Nat → Prop} : ∀ {l : List Ty} {x : El (tys l)} {us : List Value}, ArgsR F h l x us → VRs ⟨[], F, []⟩ h (encA l x) us
  | [], x, us, H => by cases H; exact .nil
  | t :: l, x, us, ⟨cs, us', e, a, b⟩ => by subst e; exact .cons (encV_rep a) b.vrs
theorem nilR_ok {ob : List OSh} : ∀ {l : List S1} {vs : List V} {vh : List VO} {us : List Value} {w : Wd}, HR G w h vh → VRs w h vs us → ∃ w2, HR G w2 h (nilR ob l vs vh).2 ∧ VRs w2 h (nilR ob l vs vh).1 us ∧ Stp2 w h vh w2 h (nilR ob l vs vh).2
  | [], vs, vh, us, w, R, H => by cases vs <;> exact ⟨w, R, H, .refl⟩
  | x :: l, [], vh, us, w, R, H => ⟨w, R, H, .refl⟩
  | x :: l, v :: vs, vh, us, w, R, H => by
    cases H with
    | @cons _ u _ us hv Ht =>
      have go : ∃ w2, HR G w2 h (nilR ob l vs vh).2 ∧ VRs w2 h (v :: (nilR ob l vs vh).1) (u :: us) ∧ Stp2 w h vh w2 h (nilR ob l vs vh).2 := by
        obtain ⟨w2, a, b, c⟩ := nilR_ok (ob := ob) (l := l) R Ht
        exact ⟨w2, a, .cons (hv.mono (c.wle R)) b, c⟩
      have one : ∀ t a, noRoom a → u = .slice a 0 0 → ∃ w2, HR G w2 h (nilR ob l vs (vh ++ [.row [.ar t 0 []] false false])).2 ∧ VRs w2 h (.gw vh.length :: (nilR ob l vs (vh ++ [.row [.ar t 0 []] false false])).1) (u :: us) ∧ Stp2 w h vh w2 h (nilR ob l vs (vh ++ [.row [.ar t 0 []] false false])).2 := fun t a ha hu => by
        obtain ⟨R1, S1⟩ := R.new0 (o := .row [.ar t 0 []] false false) (p := (a, some 0)) ha (.inr ⟨t, rfl, rfl, ha, rfl⟩)
        obtain ⟨w2, b1, b2, b3⟩ := nilR_ok (ob := ob) (l := l) (vs := vs) R1 (Ht.mono (S1.wle R))
        have hg : VR (w.add (a, some 0)) h (.gw vh.length) u := by rw [hu]; exact .gw _ a 0 (by rw [← R.len]; exact add_new)
        exact ⟨w2, b1, .cons (hg.mono (b3.wle R1)) b2, S1.trans b3⟩
      simp only [nilR]
      split
      · split
        · split
          · cases hv with | k _ _ => exact one _ none (.inl rfl) rfl
          · cases hv with | e0 a ha => exact one _ a ha rfl
          · exact go
        · exact go
      · exact go
/-- **What a function makes of typed arguments is what it does.** -/
theorem vFun_ok (Cons : ∀ g c, H.con g = some c → ConOk T H.gl g c) (n g : Nat) (ins : List Ty) (out : RS) : ConOk T H.gl g ⟨ins, out, vFun T H n g ins out⟩ := by
  intro F h x us r R A hc
  simp only [vFun] at hc
  split at hc
  · rename_i kf hkf
    let C : Cx (El out.ty) := ⟨T, H.gl, none, 0, fun _ _ _ => True, fun _ _ _ => none, 0⟩
    have ok : C.Ok := ⟨fun _ _ => trivial, fun _ _ _ e => by cases e⟩
    have S : C.St ⟨[], F, []⟩ h [] none := ⟨R, trivial, fun b e => (by cases e), rfl⟩
    obtain ⟨m, v, h', e, k⟩ := body_ok (C := C) (run_ok Cons n).1 hkf rfl rfl ok (Nat.le_refl _) hc S A.vrs (K := fun u h' => ∃ w', HR H.gl w' h' (encBU (upR 0 out.ob.length) out.ob r.2) ∧ VR w' h' (one (encVU (upR 0 out.ob.length) out.vals r.1)) u ∧ h <+: h' ∧
      (∀ b, F b → w'.F b) ∧ (∀ b, w'.F b → F b ∨ h.length ≤ b) ∧ ∀ b, Own w' (encBU (upR 0 out.ob.length) out.ob r.2) b → h.length ≤ b) fun vs0 us' u vh0 pd' w0 h' S0 L0 hvs0 eu _ hk => by
      obtain ⟨w', R', hvs, Sn⟩ := nilR_ok (ob := out.ob) (l := out.vals) S0.hr hvs0
      have L' : Le (fun id => id < 0) none (⟨[], F, []⟩ : Wd) h [] w' h' (nilR out.ob out.vals vs0 vh0).2 := Le.trans L0 (Sn.le S0.hr)
      obtain ⟨w2, a1, a2, a3, a4, a5⟩ := RS_put R' hvs hk
      have no : ∀ b, ¬ Own (⟨[], F, []⟩ : Wd) [] b := fun b ⟨id, ⟨_, e⟩, _⟩ => by simp at e
      refine ⟨w2, a1, one_of a2 eu, prefix_of L'.hl fun b hb => L'.fr b hb (fun hh => no b hh.own) (by simp), fun b hb => a3 b (L'.F b hb), fun b hb => ?_, fun b hb => ?_⟩
      · rcases a4 b hb with hb | hb
        · rcases L'.F' b hb with c | c | c
          · exact .inl c
          · exact (no b c.own).elim
          · exact .inr c
        · rcases L'.own b hb with c | c
          · exact (no b c).elim
          · exact .inr c
      · rcases L'.own b (a5 b hb) with c | c
        · exact (no b c).elim
        · exact c
    obtain ⟨w', k⟩ := k
    exact ⟨v, h', w', ⟨m, e⟩, k⟩
  · cases hc
#print axioms vFun_ok
end Go.Canon
namespace Go.Canon
set_option linter.unusedVariables false
set_option linter.unusedSimpArgs false
open Go
variable {T : Nat → Option KFunc} {G : Nat → List (Sg V)} {H : Hs}
def lookC : List (Nat × Con) → Nat → Option Con
  | [], _ => none
  | (k, c) :: l, g => bif Nat.beq k g then some c else lookC l g
def AllC (T : Nat → Option KFunc) (G : Nat → List (Sg V)) : List (Nat × Con) → Prop
  | [] => True
  | p :: l => ConOk T G p.1 p.2 ∧ AllC T G l
theorem lookC_ok : ∀ {l : List (Nat × Con)}, AllC T G l → ∀ g c, lookC l g = some c → ConOk T G g c
  | [], _, g, c, e => by cases e
  | (k, c') :: l, ⟨h1, h2⟩, g, c, e => by
    simp only [lookC] at e
    rw [@beq_c realC ⟨rfl⟩] at e
    split at e
    · rename_i hk; subst hk; cases e; exact h1
    · exact lookC_ok h2 g c e
theorem con_of (l : List (Nat × Con)) {n g : Nat} {ins : List Ty} {out : RS} {m : Cmb → El (tys ins) → Option (El out.ty)} (e : (fun x => @vFun stuckC T H n g ins out x) = m stuckC) (hl : AllC T H.gl l) (hc : H.con = lookC l := by rfl) : ConOk T H.gl g ⟨ins, out, m realC⟩ := by
  rw [stuckC_eq] at e
  rw [← e]
  exact @vFun_ok realC ⟨rfl⟩ _ _ (fun g c h => lookC_ok hl g c (by rw [← hc]; exact h)) n g ins out
/-- The same, of what is reckoned outright. -/
theorem con_eq (l : List (Nat × Con)) {n g : Nat} {ins : List Ty} {out : RS} {m : El (tys ins) → Option (El out.ty)} (e : (fun x => @vFun realC T H n g ins out x) = m) (hl : AllC T H.gl l) (hc : H.con = lookC l := by rfl) : ConOk T H.gl g ⟨ins, out, m⟩ := by
  rw [← e]
  exact @vFun_ok realC ⟨rfl⟩ _ _ (fun g c h => lookC_ok hl g c (by rw [← hc]; exact h)) n g ins out
end Go.Canon
namespace Go.Canon
set_option linter.unusedVariables false
set_option linter.unusedSimpArgs false
open Go Go.ChangeShapes Go.WideShapes Go.Deep
section
variable {H : Type} {enc : TypeId × Value → H} {P : Program} {w : World}
theorem addX_off (a : Addr) (n : Nat) : (a.add n).off = a.off + n := by
  unfold Addr.add; split
  · rename_i h; rw [h]; rfl
  · rfl
theorem cellX {a : Addr} {v : Value} (h : w.cell? a = some v) : a.spot = none ∧ a.block < w.heap.size ∧ ∃ row : List Value, (h0 w)[a.block]? = some (.row row false none) ∧ row[a.off]? = some (canV w.heap.size v) := by
  unfold World.cell? at h
  split at h
  · rename_i c x y hc
    split at h
    · cases h
    · rename_i hs
      refine ⟨by simpa using hs, (Array.getElem?_eq_some_iff.1 hc).1, _, h0_get hc, ?_⟩
      rw [List.getElem?_map, Array.getElem?_toList, h]; rfl
  · cases h
theorem cellsX {a : Addr} {n : Nat} {cs row : List Value} (h : w.cells? 0 a n = some cs) (hrow : (h0 w)[a.block]? = some (.row row false none)) : a.off + n ≤ row.length ∨ n = 0 := by
  obtain ⟨_, hl, hc⟩ := World.cells?_some h
  cases n with
  | zero => exact .inr rfl
  | succ n =>
    have e := hc n (by omega)
    rw [List.getElem?_eq_getElem (by omega)] at e
    obtain ⟨_, _, row', h1, h2⟩ := cellX e
    rw [block_add, hrow] at h1
    injection h1 with h1
    injection h1 with h1
    subst h1
    have := (List.getElem?_eq_some_iff.1 h2).1
    rw [addX_off] at this
    exact .inl (by omega)
theorem takeX {a : Addr} {n : Nat} {cs row : List Value} (h : w.cells? 0 a n = some cs) (hrow : (h0 w)[a.block]? = some (.row row false none)) : (row.drop a.off).take n = cs.map (canV w.heap.size) := by
  obtain ⟨_, hl, hc⟩ := World.cells?_some h
  have hb := cellsX h hrow
  apply List.ext_getElem
  · simp only [List.length_take, List.length_drop, List.length_map]; omega
  · intro i h1 h2
    simp only [List.length_map] at h2
    have e := hc i (by omega)
    rw [List.getElem?_eq_getElem h2] at e
    obtain ⟨_, _, row', e1, e2⟩ := cellX e
    rw [block_add, hrow] at e1
    injection e1 with e1
    injection e1 with e1
    subst e1
    rw [addX_off] at e2
    obtain ⟨e3, e4⟩ := List.getElem?_eq_some_iff.1 e2
    rw [List.getElem_take, List.getElem_drop, List.getElem_map]
    exact e4
mutual
/-- This type of the program is that one. -/
def TyP (P : Program) : Ty → TypeId → Prop
  | .int k, t => P.underlying t = some (.int k)
  | .bool, t => P.underlying t = some .bool
  | .str, t => P.underlying t = some .string
  | .sl e, t => ∃ te, P.underlying t = some (.slice te) ∧ P.cellsOf te = e.sz ∧ 0 < e.sz ∧ TyP P e te
  | .arr n e, t => ∃ te, P.underlying t = some (.array n te) ∧ P.cellsOf te = e.sz ∧ P.cellsOf t = n * e.sz ∧ TyP P e te
  | .pair a b, t => ∃ fs : Array Field, P.underlying t = some (.struct fs) ∧ P.cellsOf t = a.sz + b.sz ∧ ∃ f r, fs.toList = f :: r ∧ f.offset = 0 ∧ P.cellsOf f.type = a.sz ∧ TyP P a f.type ∧ FsP P b r a.sz
  | _, _ => False
def FsP (P : Program) : Ty → List Field → Nat → Prop
  | .unit, fs, _ => fs = []
  | .pair a b, fs, o => ∃ f r, fs = f :: r ∧ f.offset = o ∧ P.cellsOf f.type = a.sz ∧ TyP P a f.type ∧ FsP P b r (o + a.sz)
  | _, _, _ => False
end
/-- Numbers in their range, lists that are not too long. -/
def Rng : (t : Ty) → El t → Prop
  | .int k, z => (Lit.int k z).wf = true
  | .bool, _ => True
  | .str, s => ByteArray.size s ≤ maxLen
  | .sl t, l => List.length (α := El t) l ≤ maxLen ∧ ∀ x ∈ l, Rng t x
  | .unit, _ => True
  | .pair a b, x => Rng a x.1 ∧ Rng b x.2
  | .arr n t, l => List.length (α := El t) l = n ∧ ∀ x ∈ l, Rng t x
  | .ptr _, _ => True
  | .opt _, _ => True
  | .mp _ _, _ => True
/-- A list out of its pieces. -/
theorem repL_chunks {α : Type} {R : α → List Value → Prop} {Q : α → Prop} {s : Nat} : ∀ (n : Nat) (cs : List Value), cs.length = n * s → (∀ i, i < n → ∃ y, R y ((cs.drop (i * s)).take s) ∧ Q y) → ∃ l : List α, l.length = n ∧ RepL R l cs ∧ ∀ x ∈ l, Q x
  | 0, cs, hl, _ => ⟨[], rfl, List.eq_nil_of_length_eq_zero (by simpa using hl), fun _ h => by cases h⟩
  | n + 1, cs, hl, h => by
    obtain ⟨y, hy, hq⟩ := h 0 (Nat.succ_pos _)
    rw [Nat.zero_mul, List.drop_zero] at hy
    obtain ⟨l, h1, h2, h3⟩ := repL_chunks (s := s) n (cs.drop s) (by rw [List.length_drop, hl, Nat.add_mul, Nat.one_mul]; omega) fun i hi => by
      obtain ⟨y, a, b⟩ := h (i + 1) (by omega)
      refine ⟨y, ?_, b⟩
      rw [List.drop_drop]
      rw [show s + i * s = (i + 1) * s by rw [Nat.add_mul]; omega]
      exact a
    exact ⟨y :: l, by simp [h1], ⟨_, _, (List.take_append_drop s cs).symm, hy, h2⟩, fun x hx => by
      rcases List.mem_cons.1 hx with rfl | hx
      · exact hq
      · exact h3 x hx⟩
theorem drop_take_chunk {l : List Value} {o m i s : Nat} (h : i * s + s ≤ m) : (((l.drop o).take m).drop (i * s)).take s = (l.drop (o + i * s)).take s := by
  rw [List.drop_take, List.take_take, List.drop_drop, Nat.min_eq_left (by omega)]
/-- What is read of a slice. -/
theorem slX {F : Nat → Prop} (hF : ∀ b, b ≤ w.heap.size → F b) {α : Type} {R : α → List Value → Prop} {Q : α → Prop} {a : Addr} {len cap sz : Nat} (hl : len ≤ cap) (hz : 0 < sz)
    (hx : ∀ i, i < cap → ∃ cs, w.cells? 0 (a.add (i * sz)) sz = some cs ∧ ∃ y, R y (cs.map (canV w.heap.size)) ∧ Q y) :
    ∃ l : List α, SlR F (h0 w) sz R l [canV w.heap.size (.slice (some a) len cap)] ∧ l.length = len ∧ ∀ x ∈ l, Q x := by
  by_cases hc : cap = 0
  · have : len = 0 := by omega
    subst hc this
    refine ⟨[], .inr ⟨w.heap.size, 0, 0, [], false, none, ?_, Nat.le_refl _, hF _ (Nat.le_refl _), h0_last w, .inl rfl, .inl rfl⟩, rfl, fun _ h => by cases h⟩
    obtain ⟨b, o, sp⟩ := a
    simp [canV]
  · obtain ⟨cs0, h1, _⟩ := hx 0 (by omega)
    obtain ⟨_, g1, g2⟩ := World.cells?_some h1
    have g3 := g2 0 hz
    rw [List.getElem?_eq_getElem (by omega)] at g3
    have ea : (a.add (0 * sz)).add 0 = a := by simp [Addr.add]
    rw [ea] at g3
    obtain ⟨e1, e2, row, e3, e4⟩ := cellX g3
    obtain ⟨b, o, sp⟩ := a
    simp only at e1
    subst e1
    simp only at e2 e3
    have hroom : ∀ k, k ≤ cap → o + k * sz ≤ row.length := by
      intro k hk
      cases k with
      | zero =>
        have := (List.getElem?_eq_some_iff.1 e4).1
        simp only at this
        omega
      | succ k =>
        obtain ⟨cs, hk1, _⟩ := hx k (by omega)
        have hr : (h0 w)[((⟨b, o, none⟩ : Addr).add (k * sz)).block]? = some (.row row false none) := by rw [block_add]; exact e3
        have c1 := cellsX hk1 hr
        rw [addX_off] at c1
        simp only at c1
        rw [Nat.add_mul]; omega
    have hlen := hroom len hl
    obtain ⟨l, k1, k2, k3⟩ := repL_chunks (R := R) (Q := Q) (s := sz) len ((row.drop o).take (len * sz)) (by rw [List.length_take, List.length_drop]; omega) fun i hi => by
      obtain ⟨cs, hk1, y, hy, hq⟩ := hx i (by omega)
      have hr : (h0 w)[((⟨b, o, none⟩ : Addr).add (i * sz)).block]? = some (.row row false none) := by rw [block_add]; exact e3
      have c2 := takeX hk1 hr
      rw [addX_off] at c2
      simp only at c2
      have hm : i * sz + sz ≤ len * sz := by
        have := Nat.mul_le_mul_right sz (show i + 1 ≤ len by omega)
        rw [Nat.add_mul] at this; omega
      rw [drop_take_chunk hm, c2]
      exact ⟨y, hy, hq⟩
    refine ⟨l, .inr ⟨b, o, cap, row, false, none, ?_, by omega, hF _ (by omega), e3, .inl rfl, .inr ⟨by rw [k1]; exact hlen, by rw [k1]; exact k2⟩⟩, k1, k3⟩
    have : ¬ (len = 0 ∧ cap = 0) := fun h => hc h.2
    simp [canV, this, e2, hl, k1]
/-- **What is read of a typed thing's cells.** -/
theorem trod_rep {F : Nat → Prop} (hF : ∀ b, b ≤ w.heap.size → F b) (ty : Ty) :
    (∀ {t : TypeId} {fuel : Nat} {cs : List Value} {x : DataW H × List MemPlace}, TyP P ty t → DataW.trod enc P w 0 (fun _ => true) true fuel t cs = some x → ∃ y : El ty, Rep F (h0 w) ty y (cs.map (canV w.heap.size)) ∧ Rng ty y ∧ cs.length = ty.sz) ∧
    ∀ {fs : List Field} {o n : Nat} {cs : List Value} {xs : List (DataW H × List MemPlace)}, FsP P ty fs o → xs.length = fs.length → o + ty.sz ≤ cs.length → (∀ (i : Nat) (f : Field), fs[i]? = some f → DataW.trod enc P w 0 (fun _ => true) true n f.type ((cs.drop f.offset).take (P.cellsOf f.type)) = xs[i]?) →
      ∃ y : El ty, Rep F (h0 w) ty y (((cs.drop o).take ty.sz).map (canV w.heap.size)) ∧ Rng ty y := by
  induction ty with
  | int k =>
    refine ⟨fun {t fuel cs x} hT h => ?_, fun hT => hT.elim⟩
    obtain ⟨z, rfl, _, hw⟩ := DataW.trod_int hT h
    exact ⟨z, rfl, hw, rfl⟩
  | bool =>
    refine ⟨fun {t fuel cs x} hT h => ?_, fun hT => hT.elim⟩
    obtain ⟨b, rfl, _⟩ := DataW.trod_bool hT h
    exact ⟨b, rfl, trivial, rfl⟩
  | str =>
    refine ⟨fun {t fuel cs x} hT h => ?_, fun hT => hT.elim⟩
    obtain ⟨s, rfl, _, hs⟩ := DataW.trod_string hT h
    exact ⟨s, rfl, hs, rfl⟩
  | sl e ih =>
    refine ⟨fun {t fuel cs x} hT h => ?_, fun hT => hT.elim⟩
    obtain ⟨te, h1, h2, h3, h4⟩ := hT
    rcases open_slice h1 h with ⟨rfl, _⟩ | ⟨a, len, cap, m, n, D, Pl, rfl, _, hl, hm, hmm, _, hx⟩
    · exact ⟨[], .inl ⟨rfl, none, rfl, .inl rfl⟩, ⟨Nat.zero_le _, fun _ h => by cases h⟩, rfl⟩
    · simp only [if_true] at hmm
      subst hmm
      rw [h2] at hx
      obtain ⟨l, k1, k2, k3⟩ := slX hF (R := Rep F (h0 w) e) (Q := Rng e) hl h3 fun i hi => by
        obtain ⟨cs', c1, c2⟩ := hx i hi
        obtain ⟨y, d1, d2, _⟩ := ih.1 h4 c2
        exact ⟨cs', c1, y, d1, d2⟩
      exact ⟨l, k1, ⟨by show List.length (α := El e) l ≤ _; omega, k3⟩, rfl⟩
  | unit =>
    refine ⟨fun hT => hT.elim, fun {fs o n cs xs} hT hxs hl hx => ⟨(), ?_, trivial⟩⟩
    show ((cs.drop o).take 0).map (canV w.heap.size) = []
    simp
  | pair a b iha ihb =>
    refine ⟨fun {t fuel cs x} hT h => ?_, fun {fs o n cs xs} hT hxs hl hx => ?_⟩
    · obtain ⟨fs, h1, h2, f, r, h3, h4, h5, h6, h7⟩ := hT
      obtain ⟨xs, n, _, rfl, hl, hlen, hf⟩ := DataW.trod_struct h1 h
      have hx : ∀ (i : Nat) (g : Field), (f :: r)[i]? = some g → DataW.trod enc P w 0 (fun _ => true) true n g.type ((cs.drop g.offset).take (P.cellsOf g.type)) = xs[i]? := fun i g hg => hf i g (by rw [← Array.getElem?_toList, h3]; exact hg)
      have hxl : xs.length = r.length + 1 := by rw [hlen, ← Array.length_toList, h3]; rfl
      cases xs with
      | nil => simp at hxl
      | cons x0 xs =>
        have e0 := hx 0 f rfl
        rw [h4, h5, List.drop_zero] at e0
        obtain ⟨y1, r1, q1, l1⟩ := iha.1 h6 (x := x0) (by simpa using e0)
        obtain ⟨y2, r2, q2⟩ := ihb.2 (cs := cs) (n := n) (xs := xs) h7 (by simpa using hxl) (by rw [hl, h2]; exact Nat.le_refl _) fun i g hg => by
          have := hx (i + 1) g (by simpa using hg)
          simpa using this
        refine ⟨(y1, y2), ⟨_, _, ?_, r1, r2⟩, ⟨q1, q2⟩, by rw [hl, h2]; rfl⟩
        rw [← List.map_append]
        congr 1
        rw [List.take_of_length_le (l := cs.drop a.sz) (by rw [List.length_drop, hl, h2]; omega), List.take_append_drop]
    · obtain ⟨f, r, rfl, h4, h5, h6, h7⟩ := hT
      have hl : o + (a.sz + b.sz) ≤ cs.length := hl
      cases xs with
      | nil => simp at hxs
      | cons x0 xs =>
        have e0 := hx 0 f rfl
        rw [h4, h5] at e0
        obtain ⟨y1, r1, q1, l1⟩ := iha.1 h6 (x := x0) (by simpa using e0)
        obtain ⟨y2, r2, q2⟩ := ihb.2 (cs := cs) (n := n) (xs := xs) h7 (by simpa using hxs) (by omega) fun i g hg => by
          have := hx (i + 1) g (by simpa using hg)
          simpa using this
        refine ⟨(y1, y2), ⟨_, _, ?_, r1, r2⟩, ⟨q1, q2⟩⟩
        rw [← List.map_append]
        congr 1
        show (cs.drop o).take (a.sz + b.sz) = _
        rw [List.take_add, List.drop_drop]
  | arr n e ih =>
    refine ⟨fun {t fuel cs x} hT h => ?_, fun hT => hT.elim⟩
    obtain ⟨te, h1, h2, h3, h4⟩ := hT
    obtain ⟨xs, m, _, rfl, hl, hlen, hx⟩ := DataW.trod_array h1 h
    rw [h3] at hl
    rw [h2] at hx
    obtain ⟨l, k1, k2, k3⟩ := repL_chunks (R := Rep F (h0 w) e) (Q := Rng e) (s := e.sz) n (cs.map (canV w.heap.size)) (by simpa using hl) fun i hi => by
      have e0 := hx i hi
      rw [List.getElem?_eq_getElem (by omega)] at e0
      obtain ⟨y, d1, d2, _⟩ := ih.1 h4 e0
      refine ⟨y, ?_, d2⟩
      rw [← List.map_drop, ← List.map_take]
      exact d1
    exact ⟨l, ⟨k1, k2⟩, ⟨k1, k3⟩, hl⟩
  | ptr t _ => exact ⟨fun hT => hT.elim, fun hT => hT.elim⟩
  | opt t _ => exact ⟨fun hT => hT.elim, fun hT => hT.elim⟩
  | mp k v _ _ => exact ⟨fun hT => hT.elim, fun hT => hT.elim⟩
/-- One argument. -/
theorem arg_rep {F : Nat → Prop} (hF : ∀ b, b ≤ w.heap.size → F b) {ty : Ty} {t : TypeId} (hT : TyP P ty t) {r : Reach} {base : Nat} {v : Value} {d : DataW H} {ps : List MemPlace} (hv : Value.okWide P w r base t v) (h : DataW.Trod enc P w 0 (fun _ => true) true t v d ps) :
    ∃ y : El ty, ∃ cs, canA w.heap.size v = vals ty cs ∧ Rep F (h0 w) ty y cs ∧ Rng ty y := by
  obtain ⟨fuel, h⟩ := h
  obtain ⟨y, h1, h2, h3⟩ := (trod_rep hF ty).1 hT h
  have one : ∀ {v : Value}, (∀ cs, v ≠ .agg cs) → v.cells.toList = [v] ∧ canA w.heap.size v = canV w.heap.size v := fun {v} hne => by
    cases v <;> first | exact ⟨rfl, rfl⟩ | (rename_i cs; exact (hne cs rfl).elim)
  have flatc : (∀ fs, P.underlying t ≠ some (.struct fs)) → (∀ n e, P.underlying t ≠ some (.array n e)) → ∀ cs, v ≠ .agg cs := fun n1 n2 cs e => by
    subst e
    unfold Value.okWide at hv
    split at hv
    · rename_i fs hh; exact n1 fs hh
    · rename_i n e hh; exact n2 n e hh
    · unfold Cell.okWide at hv
      split at hv <;> first | (rename_i hh; cases hh; done) | skip
      all_goals first | (simp [Cell.ok] at hv; done) | skip
      all_goals (unfold Cell.ok at hv; split at hv <;> first | (rename_i hh; cases hh; done) | cases hv | simp_all)
  refine ⟨y, _, ?_, h1, h2⟩
  cases ty with
  | int k =>
    obtain ⟨a, b⟩ := one (flatc (fun fs e => by have := hT; unfold TyP at this; rw [this] at e; cases e) fun n e' e => by have := hT; unfold TyP at this; rw [this] at e; cases e)
    rw [a, b]; rfl
  | bool =>
    obtain ⟨a, b⟩ := one (flatc (fun fs e => by have := hT; unfold TyP at this; rw [this] at e; cases e) fun n e' e => by have := hT; unfold TyP at this; rw [this] at e; cases e)
    rw [a, b]; rfl
  | str =>
    obtain ⟨a, b⟩ := one (flatc (fun fs e => by have := hT; unfold TyP at this; rw [this] at e; cases e) fun n e' e => by have := hT; unfold TyP at this; rw [this] at e; cases e)
    rw [a, b]; rfl
  | sl u =>
    obtain ⟨te, hu, _⟩ := hT
    obtain ⟨a, b⟩ := one (flatc (fun fs e => by rw [hu] at e; cases e) fun n e' e => by rw [hu] at e; cases e)
    rw [a, b]; rfl
  | unit => exact hT.elim
  | pair a b =>
    obtain ⟨fs, hu, _⟩ := hT
    unfold Value.okWide at hv
    rw [hu] at hv
    obtain ⟨cs, rfl, _⟩ := hv
    show Value.agg (cs.map (canV w.heap.size)) = Value.agg _
    congr 1
    apply Array.ext'
    simp [Value.cells]
  | arr n u =>
    obtain ⟨te, hu, _⟩ := hT
    unfold Value.okWide at hv
    rw [hu] at hv
    obtain ⟨cs, rfl, _⟩ := hv
    show Value.agg (cs.map (canV w.heap.size)) = Value.agg _
    congr 1
    apply Array.ext'
    simp [Value.cells]
  | ptr t => exact hT.elim
  | opt t => exact hT.elim
  | mp k v => exact hT.elim
end
end Go.Canon
namespace Go.Canon
set_option linter.unusedVariables false
set_option linter.unusedSimpArgs false
open Go Go.ChangeShapes Go.WideShapes Go.RowKit
variable {H : Type} {enc : TypeId × Value → H} {P : Program} {w : World}
def TysP (P : Program) : List Ty → List TypeId → Prop
  | [], ts => ts = []
  | t :: l, ts => ∃ u r, ts = u :: r ∧ TyP P t u ∧ TysP P l r
def RngA : (l : List Ty) → El (tys l) → Prop
  | [], _ => True
  | t :: l, x => Rng t x.1 ∧ RngA l x.2
/-- All arguments. -/
theorem args_rep {F : Nat → Prop} (hF : ∀ b, b ≤ w.heap.size → F b) {r : Reach} {base : Nat} : ∀ {l : List Ty} {ts : List TypeId} {vs : List Value} {ds : List (DataW H)} {ps : List MemPlace}, TysP P l ts → (∀ (j : Nat) (t : TypeId) (v : Value), ts[j]? = some t → vs[j]? = some v → Value.okWide P w r base t v) →
    DataW.TrodAll enc P w 0 (fun _ => true) true ts vs ds ps → ∃ x : El (tys l), ArgsR F (h0 w) l x (vs.map (canA w.heap.size)) ∧ RngA l x
  | [], ts, vs, ds, ps, hT, hv, h => by
    cases hT
    obtain ⟨rfl, _⟩ := trodAll_nil h
    exact ⟨(), rfl, trivial⟩
  | t :: l, ts, vs, ds, ps, hT, hv, h => by
    obtain ⟨u, r', rfl, h1, h2⟩ := hT
    obtain ⟨v, vs', d, ds', p, q, rfl, rfl, rfl, h3, h4⟩ := trodAll_cons h
    obtain ⟨y, cs, e, hr, hg⟩ := arg_rep hF h1 (hv 0 u v rfl rfl) h3
    obtain ⟨x, hx, hg2⟩ := args_rep hF h2 (fun j t v a b => hv (j + 1) t v (by simpa using a) (by simpa using b)) h4
    exact ⟨(y, x), ⟨cs, _, by rw [List.map_cons, e], hr, hx⟩, hg, hg2⟩
/-- All blocks of a world. -/
def F0 (w : World) (b : Nat) : Prop := b ≤ w.heap.size
/-- A package's variables are these. -/
def GlOk (G : Nat → List (Sg V)) (w : World) : Prop := ∀ g, g < gN → g < w.heap.size ∧ ∃ cs wr, (h0 w)[g]? = some (.row cs wr none) ∧ SgR ⟨[], F0 w, []⟩ (h0 w) (G g) cs
theorem start_hr {G : Nat → List (Sg V)} (hG : GlOk G w) : HR G ⟨[], F0 w, []⟩ (h0 w) [] where
  len := rfl
  ob := fun id o p h => by simp at h
  inj := fun i j b h1 h2 h3 => by simp [objAt, VO.alive] at h3
  nF := fun b ⟨i, h1, h2⟩ => by simp [objAt, VO.alive] at h2
  lt := fun b ⟨i, h1, h2⟩ => by simp [objAt, VO.alive] at h2
  Fl := fun b hb => by rw [h0_len]; exact Nat.lt_succ_of_le hb
  gl := fun g hg => ⟨Nat.le_of_lt (hG g hg).1, (hG g hg).2⟩
/-- **A law that answers true for all arguments in their range.** -/
theorem law_run (hm : P.follows .mixedOrders = true) {G : Nat → List (Sg V)} (hG : GlOk G w) {f : Nat} {l : List Ty} {m : El (tys l) → Option (El (RS.mk [.s (.h .bool)] []).ty)} (k : ConOk (tab P) G f ⟨l, ⟨[.s (.h .bool)], []⟩, m⟩)
    (pl : ∀ x, RngA l x → m x = some ((true, ()), ())) {ts : List TypeId} (hT : TysP P l ts) {r : Reach} {base : Nat} {args : Array Value} {ds : List (DataW H)} {ps : List MemPlace} (hv : ∀ (j : Nat) (t : TypeId) (v : Value), ts[j]? = some t → args.toList[j]? = some v → Value.okWide P w r base t v)
    (h : DataW.TrodAll enc P w 0 (fun _ => true) true ts args.toList ds ps) : Calls P f args w fun e w' => e = .returned (.bool true) ∧ Below w.heap.size w w' := by
  obtain ⟨x, hx, hg⟩ := args_rep (F := F0 w) (fun b hb => hb) hT hv h
  obtain ⟨u, h', w', hr, _, hu, _⟩ := k (F0 w) (h0 w) x _ ((true, ()), ()) (start_hr hG) hx (pl x hg)
  have hu : VR w' h' (.b true) u := hu
  cases hu
  exact calls_of_ret (by have := (hG 0 (Nat.succ_pos _)).1; exact this) hm hr
/-- Behind the call all arguments read as they did. -/
theorem back_all (hl : laidOutB P = true) {W' : World} (hb : Below w.heap.size w W') : ∀ {ts : List TypeId} {vs : List Value} {ds : List (DataW H)} {ps : List MemPlace}, ts.all (fun t => P.readableRec t && decide (t < P.types.size)) = true →
    DataW.TrodAll enc P w 0 (fun _ => true) true ts vs ds ps → DataW.TrodAll enc P W' 0 (fun b => decide (b < w.heap.size)) true ts vs ds ps
  | [], vs, ds, ps, _, h => by
    obtain ⟨rfl, rfl, rfl⟩ := trodAll_nil h
    exact trodAll_mk0
  | t :: ts, vs, ds, ps, ht, h => by
    obtain ⟨v, vs', d, ds', p, q, rfl, rfl, rfl, h3, h4⟩ := trodAll_cons h
    simp only [List.all_cons, Bool.and_eq_true, decide_eq_true_eq] at ht
    have lt : ∀ x ∈ p, x.block < w.heap.size := by obtain ⟨m, hm⟩ := h3; exact DataW.trod_lt m _ _ _ hm
    exact trodAll_cons_mk (Below.trod hl ht.1.1 ht.1.2 h3 hb lt) (back_all hl hb ht.2 h4)
/-- A package's variable, cell by cell. -/
theorem row_of_var {n : String} {g : Nat} {cs : Array Value} (hg : P.globalNamed n = some g) (h : w.var? P n = some cs) : g < w.heap.size ∧ (h0 w)[g]? = some (.row (cs.toList.map (canV w.heap.size)) false none) := by
  simp only [World.var?, hg, Option.bind_some] at h
  split at h
  · rename_i cs' x y hc
    cases h
    exact ⟨(Array.getElem?_eq_some_iff.1 hc).1, h0_get hc⟩
  · cases h
end Go.Canon
namespace Go.Canon
open Go
set_option maxRecDepth 100000
set_option maxHeartbeats 0
set_option linter.unusedVariables false
noncomputable section
abbrev iT : Ty := .int .i64
abbrev gT : Ty := (.pair iT (.pair (.sl iT) (.pair iT (.pair iT .unit))))
abbrev cT : Ty := (.pair iT (.pair iT (.pair (.sl gT) .unit)))
abbrev kT : Ty := (.pair (.sl iT) (.pair iT (.pair (.sl (.arr 2 iT)) .unit)))
abbrev pT : Ty := (.pair cT (.pair (.arr 14 iT) (.pair iT (.pair (.mp (.arr 2 iT) .bool) .unit))))
def m_spoondriftlaw24_awake : Unit → Option ((Bool × Unit) × Unit) := fun _ => some ((true, ()), ())
def M_spoondriftlaw24_great (C : Cmb) (x : ((List Int) × Int × (List (List Int)) × Unit) × Unit) : Option ((Bool × Unit) × Unit) := (fun (t : El kT) => C.join (fun (x : (Bool × PUnit) × PUnit) => some ((x.fst.fst, ()), ())) fun (kont : (Bool × PUnit) × PUnit → Option ((Bool × PUnit) × PUnit)) => bif gtI (Int.ofNat t.fst.length) (Int.ofNat 20) then kont ((true, ()), ()) else kont ((bif false then true else gtI (Int.ofNat t.snd.snd.fst.length) (Int.ofNat 40), ()), ())) x.1
def m_spoondriftlaw24_great : ((List Int) × Int × (List (List Int)) × Unit) × Unit → Option ((Bool × Unit) × Unit) := M_spoondriftlaw24_great realC
def M_spoondriftkit_Great_1 (C : Cmb) (x : (Int × (List Int) × Int × Int × Unit) × Unit) : Option ((Bool × Unit) × Unit) := (fun (g : El gT) => some ((gtI (Int.ofNat g.snd.fst.length) (Int.ofNat 6), ()), ())) x.1
def m_spoondriftkit_Great_1 : (Int × (List Int) × Int × Int × Unit) × Unit → Option ((Bool × Unit) × Unit) := M_spoondriftkit_Great_1 realC
def M_spoondriftkit_Great (C : Cmb) (x : (Int × Int × (List (Int × (List Int) × Int × Int × Unit)) × Unit) × Unit) : Option ((Bool × Unit) × Unit) := (fun (c : El cT) => C.join (fun (x : (Bool × PUnit) × PUnit) => some ((x.fst.fst, ()), ())) fun (kont : (Bool × PUnit) × PUnit → Option ((Bool × PUnit) × PUnit)) => bif gtI (Int.ofNat c.snd.snd.fst.length) (Int.ofNat 130) then kont ((true, ()), ()) else C.join (fun (x : (Bool × PUnit) × PUnit) => kont ((bif false then true else x.fst.fst, ()), ())) fun (kont : (Bool × PUnit) × PUnit → Option ((Bool × PUnit) × PUnit)) => C.loop (fun (x : (Int × PUnit) × PUnit) (again : (Int × PUnit) × PUnit → Option ((Bool × PUnit) × PUnit)) => bif ltI x.fst.fst (Int.ofNat c.snd.snd.fst.length) then C.grd (inB x.fst.fst c.snd.snd.fst.length) ((m_spoondriftkit_Great_1 (c.snd.snd.fst.getD x.fst.fst.toNat (0, [], 0, 0, ()), ())).elim none fun (val : (Bool × PUnit) × PUnit) => bif val.fst.fst then kont ((geI x.fst.fst (Int.ofNat 0), ()), ()) else again ((IntKind.i64.wrap (x.fst.fst + Int.ofNat 1), ()), ())) else kont ((geI (Int.negSucc 0) (Int.ofNat 0), ()), ())) fuelL ((Int.ofNat 0, ()), ())) x.1
def m_spoondriftkit_Great : (Int × Int × (List (Int × (List Int) × Int × Int × Unit)) × Unit) × Unit → Option ((Bool × Unit) × Unit) := M_spoondriftkit_Great realC
def M_sched_clock_1 (C : Cmb) (x : Int × Unit) : Option ((Bool × Unit) × Unit) := (fun (n : El iT) => C.join (fun (x : (Bool × PUnit) × PUnit) => some ((x.fst.fst, ()), ())) fun (kont : (Bool × PUnit) × PUnit → Option ((Bool × PUnit) × PUnit)) => bif ltI n (Int.ofNat 1) then kont ((true, ()), ()) else kont ((bif false then true else gtI n (Int.ofNat 100), ()), ())) x.1
def m_sched_clock_1 : Int × Unit → Option ((Bool × Unit) × Unit) := M_sched_clock_1 realC
def M_sched_clock (C : Cmb) (x : ((List Int) × Int × (List (List Int)) × Unit) × Unit) : Option ((Int × Unit) × Unit) := (fun (t : El kT) => bif Int.ofNat t.fst.length != Int.ofNat 14 then some ((Int.ofNat 2, ()), ()) else C.join (fun (x : (Bool × PUnit) × PUnit) => bif x.fst.fst then some ((Int.ofNat 3, ()), ()) else some ((Int.ofNat 0, ()), ())) fun (kont : (Bool × PUnit) × PUnit → Option ((Int × PUnit) × PUnit)) => C.join (fun (x : (Bool × PUnit) × PUnit) => bif x.fst.fst then kont ((true, ()), ()) else bif bif false then true else ltI t.snd.fst (Int.ofNat 0) then kont ((true, ()), ()) else kont ((bif false then true else gtI t.snd.fst (Int.ofNat 100), ()), ())) fun (kont : (Bool × PUnit) × PUnit → Option ((Int × PUnit) × PUnit)) => C.loop (fun (x : (Int × PUnit) × PUnit) (again : (Int × PUnit) × PUnit → Option ((Int × PUnit) × PUnit)) => bif ltI x.fst.fst (Int.ofNat t.fst.length) then C.grd (inB x.fst.fst t.fst.length) ((m_sched_clock_1 (t.fst.getD x.fst.fst.toNat 0, ())).elim none fun (val : (Bool × PUnit) × PUnit) => bif val.fst.fst then kont ((geI x.fst.fst (Int.ofNat 0), ()), ()) else again ((IntKind.i64.wrap (x.fst.fst + Int.ofNat 1), ()), ())) else kont ((geI (Int.negSucc 0) (Int.ofNat 0), ()), ())) fuelL ((Int.ofNat 0, ()), ())) x.1
def m_sched_clock : ((List Int) × Int × (List (List Int)) × Unit) × Unit → Option ((Int × Unit) × Unit) := M_sched_clock realC
def M_slices_Index (C : Cmb) (x : (List Int) × Int × Unit) : Option ((Int × Unit) × Unit) := (fun (s : El iT.sl) (v : El iT) => C.loop (fun (x : (Int × PUnit) × PUnit) (again : (Int × PUnit) × PUnit → Option ((Int × PUnit) × PUnit)) => bif ltI x.fst.fst (Int.ofNat (List.length s)) then C.grd (inB x.fst.fst (List.length s)) (bif v == List.getD s x.fst.fst.toNat 0 then some ((x.fst.fst, ()), ()) else again ((IntKind.i64.wrap (x.fst.fst + Int.ofNat 1), ()), ())) else some ((Int.negSucc 0, ()), ())) fuelL ((Int.ofNat 0, ()), ())) x.1 x.2.1
def m_slices_Index : (List Int) × Int × Unit → Option ((Int × Unit) × Unit) := M_slices_Index realC
def M_slices_Contains (C : Cmb) (x : (List Int) × Int × Unit) : Option ((Bool × Unit) × Unit) := (fun (s : El iT.sl) (v : El iT) => (m_slices_Index (s, v, ())).elim none fun (val : (Int × PUnit) × PUnit) => some ((geI val.fst.fst (Int.ofNat 0), ()), ())) x.1 x.2.1
def m_slices_Contains : (List Int) × Int × Unit → Option ((Bool × Unit) × Unit) := M_slices_Contains realC
def M_circ_Arity (C : Cmb) (x : Int × Unit) : Option ((Int × Unit) × Unit) := (fun (kind : El iT) => bif kind == Int.ofNat 12 then some ((Int.ofNat 3, ()), ()) else C.join (fun (x : (Bool × PUnit) × PUnit) => bif x.fst.fst then some ((Int.ofNat 2, ()), ()) else C.join (fun (x : (Bool × PUnit) × PUnit) => bif x.fst.fst then some ((Int.ofNat 1, ()), ()) else some ((Int.ofNat 0, ()), ())) fun (kont : (Bool × PUnit) × PUnit → Option ((Int × PUnit) × PUnit)) => bif geI kind (Int.ofNat 1) then kont ((bif true then leI kind (Int.ofNat 14) else false, ()), ()) else kont ((false, ()), ())) fun (kont : (Bool × PUnit) × PUnit → Option ((Int × PUnit) × PUnit)) => bif geI kind (Int.ofNat 9) then kont ((bif true then leI kind (Int.ofNat 11) else false, ()), ()) else kont ((false, ()), ())) x.1
def m_circ_Arity : Int × Unit → Option ((Int × Unit) × Unit) := M_circ_Arity realC
def M_circ_Check (C : Cmb) (x : (Int × Int × (List (Int × (List Int) × Int × Int × Unit)) × Unit) × Unit) : Option ((Int × Unit) × Unit) := (fun (c : El cT) => C.join (fun (x : (Bool × PUnit) × PUnit) => bif x.fst.fst then some ((Int.ofNat 3, ()), ()) else bif gtI (Int.ofNat c.snd.snd.fst.length) (Int.ofNat 120) then some ((Int.ofNat 2, ()), ()) else C.loop (fun (x : (Int × PUnit) × PUnit) (again : (Int × PUnit) × PUnit → Option ((Int × PUnit) × PUnit)) => bif ltI x.fst.fst (Int.ofNat c.snd.snd.fst.length) then C.grd (inB x.fst.fst c.snd.snd.fst.length) (C.join (fun (x_1 : (Int × PUnit) × PUnit) => bif x_1.fst.fst != Int.ofNat 0 then some ((x_1.fst.fst, ()), ()) else again ((IntKind.i64.wrap (x.fst.fst + Int.ofNat 1), ()), ())) fun (kont : (Int × PUnit) × PUnit → Option ((Int × PUnit) × PUnit)) => (m_circ_Arity ((c.snd.snd.fst.getD x.fst.fst.toNat (0, [], 0, 0, ())).fst, ())).elim none fun (val : (Int × PUnit) × PUnit) => bif val.fst.fst == Int.ofNat 0 then kont ((Int.ofNat 3, ()), ()) else (m_circ_Arity ((c.snd.snd.fst.getD x.fst.fst.toNat (0, [], 0, 0, ())).fst, ())).elim none fun (val : (Int × PUnit) × PUnit) => bif Int.ofNat (c.snd.snd.fst.getD x.fst.fst.toNat (0, [], 0, 0, ())).snd.fst.length != val.fst.fst then kont ((Int.ofNat 2, ()), ()) else C.join (fun (x_1 : (Bool × PUnit) × PUnit) => bif !!x_1.fst.fst then kont ((Int.ofNat 1, ()), ()) else C.loop (fun (x_2 : (Int × PUnit) × PUnit) (again : (Int × PUnit) × PUnit → Option ((Int × PUnit) × PUnit)) => bif ltI x_2.fst.fst (Int.ofNat (c.snd.snd.fst.getD x.fst.fst.toNat (0, [], 0, 0, ())).snd.fst.length) then C.grd (inB x_2.fst.fst (c.snd.snd.fst.getD x.fst.fst.toNat (0, [], 0, 0, ())).snd.fst.length) (C.grd (leI 0 x_2.fst.fst && leI x_2.fst.fst (Int.ofNat (c.snd.snd.fst.getD x.fst.fst.toNat (0, [], 0, 0, ())).snd.fst.length)) ((m_slices_Contains (List.take x_2.fst.fst.toNat (c.snd.snd.fst.getD x.fst.fst.toNat (0, [], 0, 0, ())).snd.fst, (c.snd.snd.fst.getD x.fst.fst.toNat (0, [], 0, 0, ())).snd.fst.getD x_2.fst.fst.toNat 0, ())).elim none fun (val : (Bool × PUnit) × PUnit) => bif val.fst.fst then kont ((Int.ofNat 5, ()), ()) else again ((IntKind.i64.wrap (x_2.fst.fst + Int.ofNat 1), ()), ()))) else C.join (fun (x_3 : (Bool × PUnit) × PUnit) => bif x_3.fst.fst then kont ((Int.ofNat 1, ()), ()) else C.join (fun (x : (Bool × PUnit) × PUnit) => bif x.fst.fst then kont ((Int.ofNat 7, ()), ()) else kont ((Int.ofNat 0, ()), ())) fun (kont : (Bool × PUnit) × PUnit → Option ((Int × PUnit) × PUnit)) => bif (c.snd.snd.fst.getD x.fst.fst.toNat (0, [], 0, 0, ())).fst == Int.ofNat 13 then bif bif true then (c.snd.snd.fst.getD x.fst.fst.toNat (0, [], 0, 0, ())).snd.snd.snd.fst != Int.ofNat 0 else false then kont ((true, ()), ()) else bif !(c.snd.snd.fst.getD x.fst.fst.toNat (0, [], 0, 0, ())).fst == Int.ofNat 13 then kont ((bif false then true else bif true then (c.snd.snd.fst.getD x.fst.fst.toNat (0, [], 0, 0, ())).snd.snd.fst != Int.ofNat 0 else false, ()), ()) else kont ((bif false then true else false, ()), ()) else bif bif false then true else (c.snd.snd.fst.getD x.fst.fst.toNat (0, [], 0, 0, ())).fst == Int.ofNat 14 then bif bif true then (c.snd.snd.fst.getD x.fst.fst.toNat (0, [], 0, 0, ())).snd.snd.snd.fst != Int.ofNat 0 else false then kont ((true, ()), ()) else bif !(c.snd.snd.fst.getD x.fst.fst.toNat (0, [], 0, 0, ())).fst == Int.ofNat 13 then kont ((bif false then true else bif true then (c.snd.snd.fst.getD x.fst.fst.toNat (0, [], 0, 0, ())).snd.snd.fst != Int.ofNat 0 else false, ()), ()) else kont ((bif false then true else false, ()), ()) else bif !(c.snd.snd.fst.getD x.fst.fst.toNat (0, [], 0, 0, ())).fst == Int.ofNat 13 then kont ((bif false then true else bif true then (c.snd.snd.fst.getD x.fst.fst.toNat (0, [], 0, 0, ())).snd.snd.fst != Int.ofNat 0 else false, ()), ()) else kont ((bif false then true else false, ()), ())) fun (kont : (Bool × PUnit) × PUnit → Option ((Int × PUnit) × PUnit)) => bif ltI (c.snd.snd.fst.getD x.fst.fst.toNat (0, [], 0, 0, ())).snd.snd.snd.fst (Int.ofNat 0) then kont ((true, ()), ()) else bif bif false then true else gtI (c.snd.snd.fst.getD x.fst.fst.toNat (0, [], 0, 0, ())).snd.snd.snd.fst c.snd.fst then kont ((true, ()), ()) else bif (c.snd.snd.fst.getD x.fst.fst.toNat (0, [], 0, 0, ())).fst == Int.ofNat 13 then bif ltI (c.snd.snd.fst.getD x.fst.fst.toNat (0, [], 0, 0, ())).snd.snd.fst (Int.ofNat 0) then kont ((bif false then true else bif true then true else false, ()), ()) else kont ((bif false then true else bif true then bif false then true else geI (c.snd.snd.fst.getD x.fst.fst.toNat (0, [], 0, 0, ())).snd.snd.fst c.snd.fst else false, ()), ()) else kont ((bif false then true else false, ()), ())) fuelL ((Int.ofNat 0, ()), ())) fun (kont : (Bool × PUnit) × PUnit → Option ((Int × PUnit) × PUnit)) => C.loop (fun (x_1 : (Int × PUnit) × PUnit) (again : (Int × PUnit) × PUnit → Option ((Int × PUnit) × PUnit)) => bif ltI x_1.fst.fst (Int.ofNat (c.snd.snd.fst.getD x.fst.fst.toNat (0, [], 0, 0, ())).snd.fst.length) then C.grd (inB x_1.fst.fst (c.snd.snd.fst.getD x.fst.fst.toNat (0, [], 0, 0, ())).snd.fst.length) (C.join (fun (x : (Bool × PUnit) × PUnit) => bif !x.fst.fst then kont ((geI x_1.fst.fst (Int.ofNat 0), ()), ()) else again ((IntKind.i64.wrap (x_1.fst.fst + Int.ofNat 1), ()), ())) fun (kont : (Bool × PUnit) × PUnit → Option ((Int × PUnit) × PUnit)) => bif geI ((c.snd.snd.fst.getD x.fst.fst.toNat (0, [], 0, 0, ())).snd.fst.getD x_1.fst.fst.toNat 0) (Int.ofNat 0) then kont ((bif true then ltI ((c.snd.snd.fst.getD x.fst.fst.toNat (0, [], 0, 0, ())).snd.fst.getD x_1.fst.fst.toNat 0) c.fst else false, ()), ()) else kont ((false, ()), ())) else kont ((geI (Int.negSucc 0) (Int.ofNat 0), ()), ())) fuelL ((Int.ofNat 0, ()), ())) else some ((Int.ofNat 0, ()), ())) fuelL ((Int.ofNat 0, ()), ())) fun (kont : (Bool × PUnit) × PUnit → Option ((Int × PUnit) × PUnit)) => bif ltI c.fst (Int.ofNat 1) then kont ((true, ()), ()) else bif bif false then true else gtI c.fst (Int.ofNat 12) then kont ((true, ()), ()) else bif bif false then true else ltI c.snd.fst (Int.ofNat 0) then kont ((true, ()), ()) else kont ((bif false then true else gtI c.snd.fst (Int.ofNat 8), ()), ())) x.1
def m_circ_Check : (Int × Int × (List (Int × (List Int) × Int × Int × Unit)) × Unit) × Unit → Option ((Int × Unit) × Unit) := M_circ_Check realC
def M_sched_opened (C : Cmb) (x : ((List Int) × Int × (List (List Int)) × Unit) × (Int × Int × (List (Int × (List Int) × Int × Int × Unit)) × Unit) × Unit) : Option (((Option ((Int × Int × (List (Int × (List Int) × Int × Int × Unit)) × Unit) × (List Int) × Int × (List ((List Int) × Bool)) × Unit)) × Int × Unit) × Unit) := (fun (t : El kT) (c : El cT) => (m_sched_clock (t, ())).elim none fun (val : (Int × PUnit) × PUnit) => bif val.fst.fst != Int.ofNat 0 then some ((none, val.fst.fst, ()), ()) else (m_circ_Check (c, ())).elim none fun (val : (Int × PUnit) × PUnit) => bif val.fst.fst != Int.ofNat 0 then some ((none, val.fst.fst, ()), ()) else C.grd true (C.loop (fun (x : (Int × PUnit) × List (List Int × Bool) × PUnit) (again : (Int × PUnit) × List (List Int × Bool) × PUnit → Option ((Option ((Int × Int × List (Int × List Int × Int × Int × PUnit) × PUnit) × List Int × Int × List (List Int × Bool) × PUnit) × Int × PUnit) × PUnit)) => bif ltI x.fst.fst (Int.ofNat t.snd.snd.fst.length) then C.grd (inB x.fst.fst t.snd.snd.fst.length) (C.join (fun (x_1 : (Bool × PUnit) × PUnit) => bif x_1.fst.fst then some ((none, Int.ofNat 1, ()), ()) else C.grd true (C.grd (ltB (Int.ofNat 0).toNat 2) (C.grd true (C.grd (ltB (Int.ofNat 1).toNat 2) (bif (t.snd.snd.fst.getD x.fst.fst.toNat (List.replicate 2 0)).getD (Int.ofNat 0).toNat 0 == (t.snd.snd.fst.getD x.fst.fst.toNat (List.replicate 2 0)).getD (Int.ofNat 1).toNat 0 then some ((none, Int.ofNat 4, ()), ()) else C.grd true (C.grd (ltB (Int.ofNat 1).toNat 2) (C.grd true (C.grd (ltB (Int.ofNat 0).toNat 2) (C.grd (inB (Int.ofNat (posMx (Ty.arr 2 iT) Ty.bool (t.snd.snd.fst.getD x.fst.fst.toNat (List.replicate 2 0)) x.snd.fst)) (insMx (Ty.arr 2 iT) Ty.bool (t.snd.snd.fst.getD x.fst.fst.toNat (List.replicate 2 0)) (atMx (Ty.arr 2 iT) Ty.bool (t.snd.snd.fst.getD x.fst.fst.toNat (List.replicate 2 0)) false x.snd.fst) x.snd.fst).length) (C.grd (inB (Int.ofNat (posMx (Ty.arr 2 iT) Ty.bool [(t.snd.snd.fst.getD x.fst.fst.toNat (List.replicate 2 0)).getD (Int.ofNat 1).toNat 0, (t.snd.snd.fst.getD x.fst.fst.toNat (List.replicate 2 0)).getD (Int.ofNat 0).toNat 0] ((insMx (Ty.arr 2 iT) Ty.bool (t.snd.snd.fst.getD x.fst.fst.toNat (List.replicate 2 0)) (atMx (Ty.arr 2 iT) Ty.bool (t.snd.snd.fst.getD x.fst.fst.toNat (List.replicate 2 0)) false x.snd.fst) x.snd.fst).modify (Int.ofNat (posMx (Ty.arr 2 iT) Ty.bool (t.snd.snd.fst.getD x.fst.fst.toNat (List.replicate 2 0)) x.snd.fst)).toNat fun (e : List Int × Bool) => (e.fst, true)))) (insMx (Ty.arr 2 iT) Ty.bool [(t.snd.snd.fst.getD x.fst.fst.toNat (List.replicate 2 0)).getD (Int.ofNat 1).toNat 0, (t.snd.snd.fst.getD x.fst.fst.toNat (List.replicate 2 0)).getD (Int.ofNat 0).toNat 0] (atMx (Ty.arr 2 iT) Ty.bool [(t.snd.snd.fst.getD x.fst.fst.toNat (List.replicate 2 0)).getD (Int.ofNat 1).toNat 0, (t.snd.snd.fst.getD x.fst.fst.toNat (List.replicate 2 0)).getD (Int.ofNat 0).toNat 0] false ((insMx (Ty.arr 2 iT) Ty.bool (t.snd.snd.fst.getD x.fst.fst.toNat (List.replicate 2 0)) (atMx (Ty.arr 2 iT) Ty.bool (t.snd.snd.fst.getD x.fst.fst.toNat (List.replicate 2 0)) false x.snd.fst) x.snd.fst).modify (Int.ofNat (posMx (Ty.arr 2 iT) Ty.bool (t.snd.snd.fst.getD x.fst.fst.toNat (List.replicate 2 0)) x.snd.fst)).toNat fun (e : List Int × Bool) => (e.fst, true))) ((insMx (Ty.arr 2 iT) Ty.bool (t.snd.snd.fst.getD x.fst.fst.toNat (List.replicate 2 0)) (atMx (Ty.arr 2 iT) Ty.bool (t.snd.snd.fst.getD x.fst.fst.toNat (List.replicate 2 0)) false x.snd.fst) x.snd.fst).modify (Int.ofNat (posMx (Ty.arr 2 iT) Ty.bool (t.snd.snd.fst.getD x.fst.fst.toNat (List.replicate 2 0)) x.snd.fst)).toNat fun (e : List Int × Bool) => (e.fst, true))).length) (again ((IntKind.i64.wrap (x.fst.fst + Int.ofNat 1), ()), (insMx (Ty.arr 2 iT) Ty.bool [(t.snd.snd.fst.getD x.fst.fst.toNat (List.replicate 2 0)).getD (Int.ofNat 1).toNat 0, (t.snd.snd.fst.getD x.fst.fst.toNat (List.replicate 2 0)).getD (Int.ofNat 0).toNat 0] (atMx (Ty.arr 2 iT) Ty.bool [(t.snd.snd.fst.getD x.fst.fst.toNat (List.replicate 2 0)).getD (Int.ofNat 1).toNat 0, (t.snd.snd.fst.getD x.fst.fst.toNat (List.replicate 2 0)).getD (Int.ofNat 0).toNat 0] false ((insMx (Ty.arr 2 iT) Ty.bool (t.snd.snd.fst.getD x.fst.fst.toNat (List.replicate 2 0)) (atMx (Ty.arr 2 iT) Ty.bool (t.snd.snd.fst.getD x.fst.fst.toNat (List.replicate 2 0)) false x.snd.fst) x.snd.fst).modify (Int.ofNat (posMx (Ty.arr 2 iT) Ty.bool (t.snd.snd.fst.getD x.fst.fst.toNat (List.replicate 2 0)) x.snd.fst)).toNat fun (e : List Int × Bool) => (e.fst, true))) ((insMx (Ty.arr 2 iT) Ty.bool (t.snd.snd.fst.getD x.fst.fst.toNat (List.replicate 2 0)) (atMx (Ty.arr 2 iT) Ty.bool (t.snd.snd.fst.getD x.fst.fst.toNat (List.replicate 2 0)) false x.snd.fst) x.snd.fst).modify (Int.ofNat (posMx (Ty.arr 2 iT) Ty.bool (t.snd.snd.fst.getD x.fst.fst.toNat (List.replicate 2 0)) x.snd.fst)).toNat fun (e : List Int × Bool) => (e.fst, true))).modify (Int.ofNat (posMx (Ty.arr 2 iT) Ty.bool [(t.snd.snd.fst.getD x.fst.fst.toNat (List.replicate 2 0)).getD (Int.ofNat 1).toNat 0, (t.snd.snd.fst.getD x.fst.fst.toNat (List.replicate 2 0)).getD (Int.ofNat 0).toNat 0] ((insMx (Ty.arr 2 iT) Ty.bool (t.snd.snd.fst.getD x.fst.fst.toNat (List.replicate 2 0)) (atMx (Ty.arr 2 iT) Ty.bool (t.snd.snd.fst.getD x.fst.fst.toNat (List.replicate 2 0)) false x.snd.fst) x.snd.fst).modify (Int.ofNat (posMx (Ty.arr 2 iT) Ty.bool (t.snd.snd.fst.getD x.fst.fst.toNat (List.replicate 2 0)) x.snd.fst)).toNat fun (e : List Int × Bool) => (e.fst, true)))).toNat fun (e : List Int × Bool) => (e.fst, true), ())))))))))))) fun (kont : (Bool × PUnit) × PUnit → Option ((Option ((Int × Int × List (Int × List Int × Int × Int × PUnit) × PUnit) × List Int × Int × List (List Int × Bool) × PUnit) × Int × PUnit) × PUnit)) => C.grd true (C.grd (ltB (Int.ofNat 0).toNat 2) (C.grd true (C.grd (ltB (Int.ofNat 1).toNat 2) (bif ltI (List.foldl mn2 ((t.snd.snd.fst.getD x.fst.fst.toNat (List.replicate 2 0)).getD (Int.ofNat 0).toNat 0) [(t.snd.snd.fst.getD x.fst.fst.toNat (List.replicate 2 0)).getD (Int.ofNat 1).toNat 0]) (Int.ofNat 0) then kont ((true, ()), ()) else C.grd true (C.grd (ltB (Int.ofNat 0).toNat 2) (C.grd true (C.grd (ltB (Int.ofNat 1).toNat 2) (kont ((bif false then true else geI (List.foldl mx2 ((t.snd.snd.fst.getD x.fst.fst.toNat (List.replicate 2 0)).getD (Int.ofNat 0).toNat 0) [(t.snd.snd.fst.getD x.fst.fst.toNat (List.replicate 2 0)).getD (Int.ofNat 1).toNat 0]) c.fst, ()), ())))))))))) else some ((some (c, cpyL [Int.ofNat 0, Int.ofNat 0, Int.ofNat 0, Int.ofNat 0, Int.ofNat 0, Int.ofNat 0, Int.ofNat 0, Int.ofNat 0, Int.ofNat 0, Int.ofNat 0, Int.ofNat 0, Int.ofNat 0, Int.ofNat 0, Int.ofNat 0] (bif Nat.beq 14 0 then 0 else 0) (min t.fst.length (14 - 0)) t.fst, t.snd.fst, x.snd.fst, ()), Int.ofNat 0, ()), ())) fuelL ((Int.ofNat 0, ()), [], ()))) x.1 x.2.1
def m_sched_opened : ((List Int) × Int × (List (List Int)) × Unit) × (Int × Int × (List (Int × (List Int) × Int × Int × Unit)) × Unit) × Unit → Option (((Option ((Int × Int × (List (Int × (List Int) × Int × Int × Unit)) × Unit) × (List Int) × Int × (List ((List Int) × Bool)) × Unit)) × Int × Unit) × Unit) := M_sched_opened realC
def M_sched_reads (C : Cmb) (x : (Int × (List Int) × Int × Int × Unit) × Int × Unit) : Option ((Bool × Unit) × Unit) := (fun (g : El gT) (bit : El iT) => some ((g.snd.snd.snd.fst == IntKind.i64.wrap (bit + Int.ofNat 1), ()), ())) x.1 x.2.1
def m_sched_reads : (Int × (List Int) × Int × Int × Unit) × Int × Unit → Option ((Bool × Unit) × Unit) := M_sched_reads realC
def M_sched_common (C : Cmb) (x : (List Int) × (List Int) × Unit) : Option ((Bool × Unit) × Unit) := (fun (a b : El iT.sl) => C.join (fun (x : (Bool × PUnit) × PUnit) => some ((x.fst.fst, ()), ())) fun (kont : (Bool × PUnit) × PUnit → Option ((Bool × PUnit) × PUnit)) => C.loop (fun (x : (Int × PUnit) × PUnit) (again : (Int × PUnit) × PUnit → Option ((Bool × PUnit) × PUnit)) => bif ltI x.fst.fst (Int.ofNat (List.length a)) then C.grd (inB x.fst.fst (List.length a)) ((m_slices_Contains (b, List.getD a x.fst.fst.toNat 0, ())).elim none fun (val : (Bool × PUnit) × PUnit) => bif val.fst.fst then kont ((geI x.fst.fst (Int.ofNat 0), ()), ()) else again ((IntKind.i64.wrap (x.fst.fst + Int.ofNat 1), ()), ())) else kont ((geI (Int.negSucc 0) (Int.ofNat 0), ()), ())) fuelL ((Int.ofNat 0, ()), ())) x.1 x.2.1
def m_sched_common : (List Int) × (List Int) × Unit → Option ((Bool × Unit) × Unit) := M_sched_common realC
def M_sched_writes (C : Cmb) (x : (Int × (List Int) × Int × Int × Unit) × Int × Unit) : Option ((Bool × Unit) × Unit) := (fun (g : El gT) (bit : El iT) => C.join (fun (x : (Bool × PUnit) × PUnit) => some ((x.fst.fst, ()), ())) fun (kont : (Bool × PUnit) × PUnit → Option ((Bool × PUnit) × PUnit)) => bif g.fst == Int.ofNat 13 then kont ((bif true then g.snd.snd.fst == bit else false, ()), ()) else kont ((false, ()), ())) x.1 x.2.1
def m_sched_writes : (Int × (List Int) × Int × Int × Unit) × Int × Unit → Option ((Bool × Unit) × Unit) := M_sched_writes realC
def M_sched_meet (C : Cmb) (x : (Int × (List Int) × Int × Int × Unit) × (Int × (List Int) × Int × Int × Unit) × Unit) : Option ((Bool × Unit) × Unit) := (fun (g h : El gT) => (m_sched_common (g.snd.fst, h.snd.fst, ())).elim none fun (val : (Bool × PUnit) × PUnit) => bif val.fst.fst then some ((true, ()), ()) else C.join (fun (x : (Bool × PUnit) × PUnit) => some ((x.fst.fst, ()), ())) fun (kont : (Bool × PUnit) × PUnit → Option ((Bool × PUnit) × PUnit)) => bif g.fst == Int.ofNat 13 then (m_sched_writes (h, g.snd.snd.fst, ())).elim none fun (val : (Bool × PUnit) × PUnit) => bif val.fst.fst then kont ((true, ()), ()) else (m_sched_reads (h, g.snd.snd.fst, ())).elim none fun (val : (Bool × PUnit) × PUnit) => bif bif true then bif false then true else val.fst.fst else false then kont ((true, ()), ()) else bif h.fst == Int.ofNat 13 then (m_sched_reads (g, h.snd.snd.fst, ())).elim none fun (val : (Bool × PUnit) × PUnit) => kont ((bif false then true else bif true then val.fst.fst else false, ()), ()) else kont ((bif false then true else false, ()), ()) else bif h.fst == Int.ofNat 13 then (m_sched_reads (g, h.snd.snd.fst, ())).elim none fun (val : (Bool × PUnit) × PUnit) => kont ((bif false then true else bif true then val.fst.fst else false, ()), ()) else kont ((bif false then true else false, ()), ())) x.1 x.2.1
def m_sched_meet : (Int × (List Int) × Int × Int × Unit) × (Int × (List Int) × Int × Int × Unit) × Unit → Option ((Bool × Unit) × Unit) := M_sched_meet realC
def M_sched_plan_disturb (C : Cmb) (x : ((Int × Int × (List (Int × (List Int) × Int × Int × Unit)) × Unit) × (List Int) × Int × (List ((List Int) × Bool)) × Unit) × Int × Int × Unit) : Option ((Bool × Unit) × Unit) := (fun (p : El pT.ptr) (i j : El iT) => C.grd (inB i p.fst.snd.snd.fst.length) (C.grd (inB j p.fst.snd.snd.fst.length) (C.join (fun (x : (Bool × PUnit) × PUnit) => bif x.fst.fst then some ((false, ()), ()) else C.loop (fun (x : (Int × PUnit) × PUnit) (again : (Int × PUnit) × PUnit → Option ((Bool × PUnit) × PUnit)) => bif ltI x.fst.fst (Int.ofNat (p.fst.snd.snd.fst.getD (Int.toNat i) (0, [], 0, 0, ())).snd.fst.length) then C.grd (inB x.fst.fst (p.fst.snd.snd.fst.getD (Int.toNat i) (0, [], 0, 0, ())).snd.fst.length) (C.loop (fun (x_1 : (Int × PUnit) × PUnit) (again_1 : (Int × PUnit) × PUnit → Option ((Bool × PUnit) × PUnit)) => bif ltI x_1.fst.fst (Int.ofNat (p.fst.snd.snd.fst.getD (Int.toNat j) (0, [], 0, 0, ())).snd.fst.length) then C.grd (inB x_1.fst.fst (p.fst.snd.snd.fst.getD (Int.toNat j) (0, [], 0, 0, ())).snd.fst.length) (bif atMx (Ty.arr 2 iT) Ty.bool [(p.fst.snd.snd.fst.getD (Int.toNat i) (0, [], 0, 0, ())).snd.fst.getD x.fst.fst.toNat 0, (p.fst.snd.snd.fst.getD (Int.toNat j) (0, [], 0, 0, ())).snd.fst.getD x_1.fst.fst.toNat 0] false p.snd.snd.snd.fst then some ((true, ()), ()) else again_1 ((IntKind.i64.wrap (x_1.fst.fst + Int.ofNat 1), ()), ())) else again ((IntKind.i64.wrap (x.fst.fst + Int.ofNat 1), ()), ())) fuelL ((Int.ofNat 0, ()), ())) else some ((false, ()), ())) fuelL ((Int.ofNat 0, ()), ())) fun (kont : (Bool × PUnit) × PUnit → Option ((Bool × PUnit) × PUnit)) => bif ltI (Int.ofNat (p.fst.snd.snd.fst.getD (Int.toNat i) (0, [], 0, 0, ())).snd.fst.length) (Int.ofNat 2) then kont ((true, ()), ()) else bif bif false then true else ltI (Int.ofNat (p.fst.snd.snd.fst.getD (Int.toNat j) (0, [], 0, 0, ())).snd.fst.length) (Int.ofNat 2) then kont ((true, ()), ()) else (m_sched_meet (p.fst.snd.snd.fst.getD (Int.toNat i) (0, [], 0, 0, ()), p.fst.snd.snd.fst.getD (Int.toNat j) (0, [], 0, 0, ()), ())).elim none fun (val : (Bool × PUnit) × PUnit) => kont ((bif false then true else val.fst.fst, ()), ())))) x.1 x.2.1 x.2.2.1
def m_sched_plan_disturb : ((Int × Int × (List (Int × (List Int) × Int × Int × Unit)) × Unit) × (List Int) × Int × (List ((List Int) × Bool)) × Unit) × Int × Int × Unit → Option ((Bool × Unit) × Unit) := M_sched_plan_disturb realC
def M_sched_plan_length (C : Cmb) (x : ((Int × Int × (List (Int × (List Int) × Int × Int × Unit)) × Unit) × (List Int) × Int × (List ((List Int) × Bool)) × Unit) × Int × Unit) : Option ((Int × Unit) × Unit) := (fun (p : El pT.ptr) (i : El iT) => C.grd (inB i p.fst.snd.snd.fst.length) (C.grd (inB (IntKind.i64.wrap ((p.fst.snd.snd.fst.getD (Int.toNat i) (0, [], 0, 0, ())).fst - Int.ofNat 1)) 14) (some ((p.snd.fst.getD (IntKind.i64.wrap ((p.fst.snd.snd.fst.getD (Int.toNat i) (0, [], 0, 0, ())).fst - Int.ofNat 1)).toNat 0, ()), ())))) x.1 x.2.1
def m_sched_plan_length : ((Int × Int × (List (Int × (List Int) × Int × Int × Unit)) × Unit) × (List Int) × Int × (List ((List Int) × Bool)) × Unit) × Int × Unit → Option ((Int × Unit) × Unit) := M_sched_plan_length realC
def M_sched_plan_on (C : Cmb) (x : ((Int × Int × (List (Int × (List Int) × Int × Int × Unit)) × Unit) × (List Int) × Int × (List ((List Int) × Bool)) × Unit) × Int × Int × Unit) : Option (((Int × Int × Unit) × Unit) × Unit) := (fun (p : El pT.ptr) (i start : El iT) => (m_sched_plan_length (p, i, ())).elim none fun (val : (Int × PUnit) × PUnit) => some (((start, IntKind.i64.wrap (start + val.fst.fst), ()), ()), ())) x.1 x.2.1 x.2.2.1
def m_sched_plan_on : ((Int × Int × (List (Int × (List Int) × Int × Int × Unit)) × Unit) × (List Int) × Int × (List ((List Int) × Bool)) × Unit) × Int × Int × Unit → Option (((Int × Int × Unit) × Unit) × Unit) := M_sched_plan_on realC
def M_sched_span_overlaps (C : Cmb) (x : (Int × Int × Unit) × (Int × Int × Unit) × Unit) : Option ((Bool × Unit) × Unit) := (fun (s t : El (iT.pair (iT.pair Ty.unit))) => C.join (fun (x : (Bool × PUnit) × PUnit) => some ((x.fst.fst, ()), ())) fun (kont : (Bool × PUnit) × PUnit → Option ((Bool × PUnit) × PUnit)) => bif false != (s.fst == t.fst && (s.snd.fst == t.snd.fst && true)) then kont ((true, ()), ()) else bif ltI s.fst t.snd.fst then kont ((bif false then true else bif true then ltI t.fst s.snd.fst else false, ()), ()) else kont ((bif false then true else false, ()), ())) x.1 x.2.1
def m_sched_span_overlaps : (Int × Int × Unit) × (Int × Int × Unit) × Unit → Option ((Bool × Unit) × Unit) := M_sched_span_overlaps realC
def M_sched_plan_free (C : Cmb) (x : ((Int × Int × (List (Int × (List Int) × Int × Int × Unit)) × Unit) × (List Int) × Int × (List ((List Int) × Bool)) × Unit) × Int × Int × (List Int) × (List Int) × Unit) : Option ((Int × Unit) × Unit) := (fun (p : El pT.ptr) (i from_ : El iT) (others starts : El iT.sl) => C.loop (fun (x : (Int × PUnit) × PUnit) (again : (Int × PUnit) × PUnit → Option ((Int × PUnit) × PUnit)) => C.loop (fun (x : (Int × Int × PUnit) × PUnit) (again_1 : (Int × Int × PUnit) × PUnit → Option ((Int × PUnit) × PUnit)) => bif ltI x.fst.snd.fst (Int.ofNat (List.length others)) then C.grd (inB x.fst.snd.fst (List.length others)) (C.grd (inB (List.getD others x.fst.snd.fst.toNat 0) (List.length starts)) ((m_sched_plan_on (p, List.getD others x.fst.snd.fst.toNat 0, List.getD starts (List.getD others x.fst.snd.fst.toNat 0).toNat 0, ())).elim none fun (val : ((Int × Int × PUnit) × PUnit) × PUnit) => C.join (fun (x_1 : (Bool × PUnit) × PUnit) => bif x_1.fst.fst then again ((val.fst.fst.snd.fst, ()), ()) else again_1 ((x.fst.fst, IntKind.i64.wrap (x.fst.snd.fst + Int.ofNat 1), ()), ())) fun (kont : (Bool × PUnit) × PUnit → Option ((Int × PUnit) × PUnit)) => (m_sched_plan_disturb (p, i, List.getD others x.fst.snd.fst.toNat 0, ())).elim none fun (val_1 : (Bool × PUnit) × PUnit) => bif val_1.fst.fst then (m_sched_plan_on (p, i, x.fst.fst, ())).elim none fun (val_2 : ((Int × Int × PUnit) × PUnit) × PUnit) => (m_sched_span_overlaps (val_2.fst.fst, val.fst.fst, ())).elim none fun (val : (Bool × PUnit) × PUnit) => kont ((bif true then val.fst.fst else false, ()), ()) else kont ((false, ()), ()))) else some ((x.fst.fst, ()), ())) fuelL ((x.fst.fst, Int.ofNat 0, ()), ())) fuelL ((from_, ()), ())) x.1 x.2.1 x.2.2.1 x.2.2.2.1 x.2.2.2.2.1
def m_sched_plan_free : ((Int × Int × (List (Int × (List Int) × Int × Int × Unit)) × Unit) × (List Int) × Int × (List ((List Int) × Bool)) × Unit) × Int × Int × (List Int) × (List Int) × Unit → Option ((Int × Unit) × Unit) := M_sched_plan_free realC
def M_sched_plan_late (C : Cmb) (x : ((Int × Int × (List (Int × (List Int) × Int × Int × Unit)) × Unit) × (List Int) × Int × (List ((List Int) × Bool)) × Unit) × Int × Int × Unit) : Option ((Int × Unit) × Unit) := (fun (p : El pT.ptr) (j i : El iT) => C.grd (inB j p.fst.snd.snd.fst.length) (C.join (fun (x : (Bool × PUnit) × PUnit) => bif x.fst.fst then some ((p.snd.snd.fst, ()), ()) else some ((Int.ofNat 0, ()), ())) fun (kont : (Bool × PUnit) × PUnit → Option ((Int × PUnit) × PUnit)) => bif (p.fst.snd.snd.fst.getD (Int.toNat j) (0, [], 0, 0, ())).fst == Int.ofNat 13 then C.grd (inB i p.fst.snd.snd.fst.length) ((m_sched_reads (p.fst.snd.snd.fst.getD (Int.toNat i) (0, [], 0, 0, ()), (p.fst.snd.snd.fst.getD (Int.toNat j) (0, [], 0, 0, ())).snd.snd.fst, ())).elim none fun (val : (Bool × PUnit) × PUnit) => kont ((bif true then val.fst.fst else false, ()), ())) else kont ((false, ()), ()))) x.1 x.2.1 x.2.2.1
def m_sched_plan_late : ((Int × Int × (List (Int × (List Int) × Int × Int × Unit)) × Unit) × (List Int) × Int × (List ((List Int) × Bool)) × Unit) × Int × Int × Unit → Option ((Int × Unit) × Unit) := M_sched_plan_late realC
def M_slices_Max (C : Cmb) (x : (List Int) × Unit) : Option ((Int × Unit) × Unit) := (fun (x : El iT.sl) => bif ltI (Int.ofNat (List.length x)) (Int.ofNat 1) then none else C.grd (inB (Int.ofNat 0) (List.length x)) (C.loop (fun (x_1 : (Int × Int × PUnit) × PUnit) (again : (Int × Int × PUnit) × PUnit → Option ((Int × PUnit) × PUnit)) => bif ltI x_1.fst.snd.fst (Int.ofNat (List.length x)) then C.grd (inB x_1.fst.snd.fst (List.length x)) (again ((List.foldl mx2 x_1.fst.fst [List.getD x x_1.fst.snd.fst.toNat 0], IntKind.i64.wrap (x_1.fst.snd.fst + Int.ofNat 1), ()), ())) else some ((x_1.fst.fst, ()), ())) fuelL ((List.getD x (Int.ofNat 0).toNat 0, Int.ofNat 1, ()), ()))) x.1
def m_slices_Max : (List Int) × Unit → Option ((Int × Unit) × Unit) := M_slices_Max realC
def M_sched_greatest (C : Cmb) (x : (List Int) × Unit) : Option ((Int × Unit) × Unit) := (fun (l : El iT.sl) => bif Int.ofNat (List.length l) == Int.ofNat 0 then some ((Int.ofNat 0, ()), ()) else (m_slices_Max (l, ())).elim none fun (val : (Int × PUnit) × PUnit) => some ((val.fst.fst, ()), ())) x.1
def m_sched_greatest : (List Int) × Unit → Option ((Int × Unit) × Unit) := M_sched_greatest realC
def M_sched_plan_holds (C : Cmb) (x : ((Int × Int × (List (Int × (List Int) × Int × Int × Unit)) × Unit) × (List Int) × Int × (List ((List Int) × Bool)) × Unit) × Int × Int × Unit) : Option ((Bool × Unit) × Unit) := (fun (p : El pT.ptr) (j i : El iT) => C.grd (inB j p.fst.snd.snd.fst.length) (C.grd (inB i p.fst.snd.snd.fst.length) ((m_sched_meet (p.fst.snd.snd.fst.getD (Int.toNat j) (0, [], 0, 0, ()), p.fst.snd.snd.fst.getD (Int.toNat i) (0, [], 0, 0, ()), ())).elim none fun (val : (Bool × PUnit) × PUnit) => some ((val.fst.fst, ()), ())))) x.1 x.2.1 x.2.2.1
def m_sched_plan_holds : ((Int × Int × (List (Int × (List Int) × Int × Int × Unit)) × Unit) × (List Int) × Int × (List ((List Int) × Bool)) × Unit) × Int × Int × Unit → Option ((Bool × Unit) × Unit) := M_sched_plan_holds realC
def M_sched_plan_after (C : Cmb) (x : ((Int × Int × (List (Int × (List Int) × Int × Int × Unit)) × Unit) × (List Int) × Int × (List ((List Int) × Bool)) × Unit) × Int × (List Int) × Unit) : Option ((Int × Unit) × Unit) := (fun (p : El pT.ptr) (i : El iT) (starts : El iT.sl) => C.loop (fun (x : (Int × PUnit) × (Int × PUnit) × PUnit) (again : (Int × PUnit) × (Int × PUnit) × PUnit → Option ((Int × PUnit) × PUnit)) => bif ltI x.fst.fst i then C.join (fun (x_1 : (Bool × PUnit) × (Int × PUnit) × PUnit) => bif x_1.fst.fst then some ((x_1.snd.fst.fst, ()), ()) else again ((IntKind.i64.wrap (x.fst.fst + Int.ofNat 1), ()), (x_1.snd.fst.fst, ()), ())) fun (kont : (Bool × PUnit) × (Int × PUnit) × PUnit → Option ((Int × PUnit) × PUnit)) => (m_sched_plan_holds (p, x.fst.fst, i, ())).elim none fun (val : (Bool × PUnit) × PUnit) => bif val.fst.fst then C.grd (inB x.fst.fst (List.length starts)) ((m_sched_plan_length (p, x.fst.fst, ())).elim none fun (val : (Int × PUnit) × PUnit) => (m_sched_plan_late (p, x.fst.fst, i, ())).elim none fun (val_1 : (Int × PUnit) × PUnit) => (m_sched_greatest ([x.snd.fst.fst, IntKind.i64.wrap (IntKind.i64.wrap (List.getD starts x.fst.fst.toNat 0 + val.fst.fst) + val_1.fst.fst)], ())).elim none fun (val : (Int × PUnit) × PUnit) => kont ((bif true then !true else false, ()), (val.fst.fst, ()), ())) else kont ((false, ()), (x.snd.fst.fst, ()), ()) else some ((x.snd.fst.fst, ()), ())) fuelL ((Int.ofNat 0, ()), (Int.ofNat 0, ()), ())) x.1 x.2.1 x.2.2.1
def m_sched_plan_after : ((Int × Int × (List (Int × (List Int) × Int × Int × Unit)) × Unit) × (List Int) × Int × (List ((List Int) × Bool)) × Unit) × Int × (List Int) × Unit → Option ((Int × Unit) × Unit) := M_sched_plan_after realC
def M_sched_upto (C : Cmb) (x : Int × Int × Unit) : Option ((Unit × Unit) × ((List Int × Unit) × Unit)) := (fun (from_ to : El iT) => C.loop (fun (x : (PUnit × Int × PUnit) × (List Int × PUnit) × PUnit) (again : (PUnit × Int × PUnit) × (List Int × PUnit) × PUnit → Option ((PUnit × PUnit) × (List Int × PUnit) × PUnit)) => bif ltI x.fst.snd.fst to then C.grd (true && leN ((x.snd.fst.fst.length + [x.fst.snd.fst].length) * 8) roomB) (again (((), IntKind.i64.wrap (x.fst.snd.fst + Int.ofNat 1), ()), (x.snd.fst.fst ++ [x.fst.snd.fst], ()), ())) else some (((), ()), (x.snd.fst.fst, ()), ())) fuelL (((), from_, ()), ([], ()), ())) x.1 x.2.1
def m_sched_upto : Int × Int × Unit → Option ((Unit × Unit) × ((List Int × Unit) × Unit)) := M_sched_upto realC
def M_sched_plan_early (C : Cmb) (x : ((Int × Int × (List (Int × (List Int) × Int × Int × Unit)) × Unit) × (List Int) × Int × (List ((List Int) × Bool)) × Unit) × Unit) : Option ((Unit × Unit) × ((List Int × Unit) × Unit)) := (fun (p : El pT.ptr) => C.loop (fun (x : (PUnit × Int × PUnit) × (List Int × PUnit) × PUnit) (again : (PUnit × Int × PUnit) × (List Int × PUnit) × PUnit → Option ((PUnit × PUnit) × (List Int × PUnit) × PUnit)) => bif ltI x.fst.snd.fst (Int.ofNat p.fst.snd.snd.fst.length) then (m_sched_plan_after (p, x.fst.snd.fst, x.snd.fst.fst, ())).elim none fun (val : (Int × PUnit) × PUnit) => (m_sched_upto (Int.ofNat 0, x.fst.snd.fst, ())).elim none fun (val_1 : (PUnit × PUnit) × (List Int × PUnit) × PUnit) => (m_sched_plan_free (p, x.fst.snd.fst, val.fst.fst, val_1.snd.fst.fst, x.snd.fst.fst, ())).elim none fun (val : (Int × PUnit) × PUnit) => C.grd (true && leN ((x.snd.fst.fst.length + [val.fst.fst].length) * 8) roomB) (again (((), IntKind.i64.wrap (x.fst.snd.fst + Int.ofNat 1), ()), (x.snd.fst.fst ++ [val.fst.fst], ()), ())) else some (((), ()), (x.snd.fst.fst, ()), ())) fuelL (((), Int.ofNat 0, ()), ([], ()), ())) x.1
def m_sched_plan_early : ((Int × Int × (List (Int × (List Int) × Int × Int × Unit)) × Unit) × (List Int) × Int × (List ((List Int) × Bool)) × Unit) × Unit → Option ((Unit × Unit) × ((List Int × Unit) × Unit)) := M_sched_plan_early realC
def M_sched_Early (C : Cmb) (x : ((List Int) × Int × (List (List Int)) × Unit) × (Int × Int × (List (Int × (List Int) × Int × Int × Unit)) × Unit) × Unit) : Option ((Unit × Int × Unit) × ((List Int × Unit) × Unit)) := (fun (t : El kT) (c : El cT) => (m_sched_opened (t, c, ())).elim none fun (val : (Option ((Int × Int × List (Int × List Int × Int × Int × PUnit) × PUnit) × List Int × Int × List (List Int × Bool) × PUnit) × Int × PUnit) × PUnit) => bif val.fst.snd.fst != Int.ofNat 0 then some (((), val.fst.snd.fst, ()), ([], ()), ()) else val.fst.fst.elim none fun (val : (Int × Int × List (Int × List Int × Int × Int × PUnit) × PUnit) × List Int × Int × List (List Int × Bool) × PUnit) => (m_sched_plan_early (val, ())).elim none fun (val : (PUnit × PUnit) × (List Int × PUnit) × PUnit) => some (((), Int.ofNat 0, ()), (val.snd.fst.fst, ()), ())) x.1 x.2.1
def m_sched_Early : ((List Int) × Int × (List (List Int)) × Unit) × (Int × Int × (List (Int × (List Int) × Int × Int × Unit)) × Unit) × Unit → Option ((Unit × Int × Unit) × ((List Int × Unit) × Unit)) := M_sched_Early realC
def M_sched_plan_before (C : Cmb) (x : ((Int × Int × (List (Int × (List Int) × Int × Int × Unit)) × Unit) × (List Int) × Int × (List ((List Int) × Bool)) × Unit) × Int × Int × (List Int) × (List Int) × Unit) : Option ((Int × Unit) × Unit) := (fun (p : El pT.ptr) (i to : El iT) (others starts : El iT.sl) => C.loop (fun (x : (Int × PUnit) × PUnit) (again : (Int × PUnit) × PUnit → Option ((Int × PUnit) × PUnit)) => C.loop (fun (x : (Int × Int × PUnit) × PUnit) (again_1 : (Int × Int × PUnit) × PUnit → Option ((Int × PUnit) × PUnit)) => bif ltI x.fst.snd.fst (Int.ofNat (List.length others)) then C.grd (inB x.fst.snd.fst (List.length others)) (C.grd (inB (List.getD others x.fst.snd.fst.toNat 0) (List.length starts)) ((m_sched_plan_on (p, List.getD others x.fst.snd.fst.toNat 0, List.getD starts (List.getD others x.fst.snd.fst.toNat 0).toNat 0, ())).elim none fun (val : ((Int × Int × PUnit) × PUnit) × PUnit) => C.join (fun (x_1 : (Bool × PUnit) × PUnit) => bif x_1.fst.fst then (m_sched_plan_length (p, i, ())).elim none fun (val_1 : (Int × PUnit) × PUnit) => again ((IntKind.i64.wrap (val.fst.fst.fst - val_1.fst.fst), ()), ()) else again_1 ((x.fst.fst, IntKind.i64.wrap (x.fst.snd.fst + Int.ofNat 1), ()), ())) fun (kont : (Bool × PUnit) × PUnit → Option ((Int × PUnit) × PUnit)) => (m_sched_plan_disturb (p, i, List.getD others x.fst.snd.fst.toNat 0, ())).elim none fun (val_1 : (Bool × PUnit) × PUnit) => bif val_1.fst.fst then (m_sched_plan_on (p, i, x.fst.fst, ())).elim none fun (val_2 : ((Int × Int × PUnit) × PUnit) × PUnit) => (m_sched_span_overlaps (val_2.fst.fst, val.fst.fst, ())).elim none fun (val : (Bool × PUnit) × PUnit) => kont ((bif true then val.fst.fst else false, ()), ()) else kont ((false, ()), ()))) else some ((x.fst.fst, ()), ())) fuelL ((x.fst.fst, Int.ofNat 0, ()), ())) fuelL ((to, ()), ())) x.1 x.2.1 x.2.2.1 x.2.2.2.1 x.2.2.2.2.1
def m_sched_plan_before : ((Int × Int × (List (Int × (List Int) × Int × Int × Unit)) × Unit) × (List Int) × Int × (List ((List Int) × Bool)) × Unit) × Int × Int × (List Int) × (List Int) × Unit → Option ((Int × Unit) × Unit) := M_sched_plan_before realC
def M_sched_plan_latest (C : Cmb) (x : ((Int × Int × (List (Int × (List Int) × Int × Int × Unit)) × Unit) × (List Int) × Int × (List ((List Int) × Bool)) × Unit) × Int × Unit) : Option ((Unit × Bool × Unit) × ((List Int × Unit) × Unit)) := (fun (p : El pT.ptr) (time : El iT) => C.grd (leI 0 (Int.ofNat p.fst.snd.snd.fst.length) && eqI (Int.ofNat p.fst.snd.snd.fst.length) (Int.ofNat p.fst.snd.snd.fst.length) && leN ((Int.ofNat p.fst.snd.snd.fst.length).toNat * 8) roomB) (C.loop (fun (x : (Int × PUnit) × (List Int × PUnit) × PUnit) (again : (Int × PUnit) × (List Int × PUnit) × PUnit → Option ((PUnit × Bool × PUnit) × (List Int × PUnit) × PUnit)) => bif geI x.fst.fst (Int.ofNat 0) then (m_sched_plan_length (p, x.fst.fst, ())).elim none fun (val : (Int × PUnit) × PUnit) => C.loop (fun (x_1 : (Int × Int × PUnit) × PUnit) (again_1 : (Int × Int × PUnit) × PUnit → Option ((PUnit × Bool × PUnit) × (List Int × PUnit) × PUnit)) => bif ltI x_1.fst.snd.fst (Int.ofNat p.fst.snd.snd.fst.length) then (m_sched_plan_holds (p, x.fst.fst, x_1.fst.snd.fst, ())).elim none fun (val : (Bool × PUnit) × PUnit) => C.join (fun (x : (Int × PUnit) × PUnit) => again_1 ((x.fst.fst, IntKind.i64.wrap (x_1.fst.snd.fst + Int.ofNat 1), ()), ())) fun (kont : (Int × PUnit) × PUnit → Option ((PUnit × Bool × PUnit) × (List Int × PUnit) × PUnit)) => bif val.fst.fst then C.grd (inB x_1.fst.snd.fst x.snd.fst.fst.length) (C.grd (ltB x_1.fst.snd.fst.toNat x.snd.fst.fst.length) ((m_sched_plan_late (p, x.fst.fst, x_1.fst.snd.fst, ())).elim none fun (val : (Int × PUnit) × PUnit) => (m_sched_plan_length (p, x.fst.fst, ())).elim none fun (val_1 : (Int × PUnit) × PUnit) => kont ((List.foldl mn2 x_1.fst.fst [IntKind.i64.wrap (IntKind.i64.wrap (x.snd.fst.fst.getD x_1.fst.snd.fst.toNat 0 - val.fst.fst) - val_1.fst.fst)], ()), ()))) else kont ((x_1.fst.fst, ()), ()) else (m_sched_upto (IntKind.i64.wrap (x.fst.fst + Int.ofNat 1), Int.ofNat p.fst.snd.snd.fst.length, ())).elim none fun (val : (PUnit × PUnit) × (List Int × PUnit) × PUnit) => (m_sched_plan_before (p, x.fst.fst, x_1.fst.fst, val.snd.fst.fst, x.snd.fst.fst, ())).elim none fun (val : (Int × PUnit) × PUnit) => C.grd (inB x.fst.fst x.snd.fst.fst.length) (C.grd (ltB x.fst.fst.toNat x.snd.fst.fst.length) (C.grd (inB x.fst.fst x.snd.fst.fst.length) (C.grd (ltB x.fst.fst.toNat x.snd.fst.fst.length) (bif ltI ((x.snd.fst.fst.set x.fst.fst.toNat val.fst.fst).getD x.fst.fst.toNat 0) (Int.ofNat 0) then some (((), false, ()), ([], ()), ()) else again ((IntKind.i64.wrap (x.fst.fst - Int.ofNat 1), ()), (x.snd.fst.fst.set x.fst.fst.toNat val.fst.fst, ()), ())))))) fuelL ((IntKind.i64.wrap (time - val.fst.fst), IntKind.i64.wrap (x.fst.fst + Int.ofNat 1), ()), ()) else some (((), true, ()), (x.snd.fst.fst, ()), ())) fuelL ((IntKind.i64.wrap (Int.ofNat p.fst.snd.snd.fst.length - Int.ofNat 1), ()), (List.replicate (Int.ofNat p.fst.snd.snd.fst.length).toNat (Int.ofNat 0), ()), ()))) x.1 x.2.1
def m_sched_plan_latest : ((Int × Int × (List (Int × (List Int) × Int × Int × Unit)) × Unit) × (List Int) × Int × (List ((List Int) × Bool)) × Unit) × Int × Unit → Option ((Unit × Bool × Unit) × ((List Int × Unit) × Unit)) := M_sched_plan_latest realC
def M_sched_Late (C : Cmb) (x : ((List Int) × Int × (List (List Int)) × Unit) × (Int × Int × (List (Int × (List Int) × Int × Int × Unit)) × Unit) × Int × Unit) : Option ((Unit × Int × Unit) × ((List Int × Unit) × Unit)) := (fun (t : El kT) (c : El cT) (time : El iT) => (m_sched_opened (t, c, ())).elim none fun (val : (Option ((Int × Int × List (Int × List Int × Int × Int × PUnit) × PUnit) × List Int × Int × List (List Int × Bool) × PUnit) × Int × PUnit) × PUnit) => bif val.fst.snd.fst != Int.ofNat 0 then some (((), val.fst.snd.fst, ()), ([], ()), ()) else C.join (fun (x : (Bool × PUnit) × PUnit) => bif x.fst.fst then some (((), Int.ofNat 3, ()), ([], ()), ()) else val.fst.fst.elim none fun (val : (Int × Int × List (Int × List Int × Int × Int × PUnit) × PUnit) × List Int × Int × List (List Int × Bool) × PUnit) => (m_sched_plan_latest (val, time, ())).elim none fun (val : (PUnit × Bool × PUnit) × (List Int × PUnit) × PUnit) => bif !val.fst.snd.fst then some (((), Int.ofNat 13, ()), ([], ()), ()) else some (((), Int.ofNat 0, ()), (val.snd.fst.fst, ()), ())) fun (kont : (Bool × PUnit) × PUnit → Option ((PUnit × Int × PUnit) × (List Int × PUnit) × PUnit)) => bif ltI time (Int.ofNat 0) then kont ((true, ()), ()) else kont ((bif false then true else gtI time (Int.ofNat 100000), ()), ())) x.1 x.2.1 x.2.2.1
def m_sched_Late : ((List Int) × Int × (List (List Int)) × Unit) × (Int × Int × (List (Int × (List Int) × Int × Int × Unit)) × Unit) × Int × Unit → Option ((Unit × Int × Unit) × ((List Int × Unit) × Unit)) := M_sched_Late realC
def M_sched_plan_end (C : Cmb) (x : ((Int × Int × (List (Int × (List Int) × Int × Int × Unit)) × Unit) × (List Int) × Int × (List ((List Int) × Bool)) × Unit) × (List Int) × Unit) : Option ((Int × Unit) × Unit) := (fun (p : El pT.ptr) (starts : El iT.sl) => C.loop (fun (x : (PUnit × Int × PUnit) × (List Int × PUnit) × PUnit) (again : (PUnit × Int × PUnit) × (List Int × PUnit) × PUnit → Option ((Int × PUnit) × PUnit)) => bif ltI x.fst.snd.fst (Int.ofNat (List.length starts)) then C.grd (inB x.fst.snd.fst (List.length starts)) ((m_sched_plan_length (p, x.fst.snd.fst, ())).elim none fun (val : (Int × PUnit) × PUnit) => C.grd (true && leN ((x.snd.fst.fst.length + [IntKind.i64.wrap (List.getD starts x.fst.snd.fst.toNat 0 + val.fst.fst)].length) * 8) roomB) (again (((), IntKind.i64.wrap (x.fst.snd.fst + Int.ofNat 1), ()), (x.snd.fst.fst ++ [IntKind.i64.wrap (List.getD starts x.fst.snd.fst.toNat 0 + val.fst.fst)], ()), ()))) else (m_sched_greatest (x.snd.fst.fst, ())).elim none fun (val : (Int × PUnit) × PUnit) => some ((val.fst.fst, ()), ())) fuelL (((), Int.ofNat 0, ()), ([], ()), ())) x.1 x.2.1
def m_sched_plan_end : ((Int × Int × (List (Int × (List Int) × Int × Int × Unit)) × Unit) × (List Int) × Int × (List ((List Int) × Bool)) × Unit) × (List Int) × Unit → Option ((Int × Unit) × Unit) := M_sched_plan_end realC
def M_sched_Slack (C : Cmb) (x : ((List Int) × Int × (List (List Int)) × Unit) × (Int × Int × (List (Int × (List Int) × Int × Int × Unit)) × Unit) × Unit) : Option ((Unit × Int × Unit) × ((List Int × Unit) × Unit)) := (fun (t : El kT) (c : El cT) => (m_sched_clock (t, ())).elim none fun (val : (Int × PUnit) × PUnit) => bif val.fst.fst != Int.ofNat 0 then bif val.fst.fst != Int.ofNat 0 then some (((), val.fst.fst, ()), ([], ()), ()) else none else (m_circ_Check (c, ())).elim none fun (val : (Int × PUnit) × PUnit) => bif val.fst.fst != Int.ofNat 0 then bif val.fst.fst != Int.ofNat 0 then some (((), val.fst.fst, ()), ([], ()), ()) else none else C.grd true (C.loop (fun (x : (Int × PUnit) × List (List Int × Bool) × PUnit) (again : (Int × PUnit) × List (List Int × Bool) × PUnit → Option ((PUnit × Int × PUnit) × (List Int × PUnit) × PUnit)) => bif ltI x.fst.fst (Int.ofNat t.snd.snd.fst.length) then C.grd (inB x.fst.fst t.snd.snd.fst.length) (C.join (fun (x_1 : (Bool × PUnit) × PUnit) => bif x_1.fst.fst then some (((), Int.ofNat 1, ()), ([], ()), ()) else C.grd true (C.grd (ltB (Int.ofNat 0).toNat 2) (C.grd true (C.grd (ltB (Int.ofNat 1).toNat 2) (bif (t.snd.snd.fst.getD x.fst.fst.toNat (List.replicate 2 0)).getD (Int.ofNat 0).toNat 0 == (t.snd.snd.fst.getD x.fst.fst.toNat (List.replicate 2 0)).getD (Int.ofNat 1).toNat 0 then some (((), Int.ofNat 4, ()), ([], ()), ()) else C.grd true (C.grd (ltB (Int.ofNat 1).toNat 2) (C.grd true (C.grd (ltB (Int.ofNat 0).toNat 2) (C.grd (inB (Int.ofNat (posMx (Ty.arr 2 iT) Ty.bool (t.snd.snd.fst.getD x.fst.fst.toNat (List.replicate 2 0)) x.snd.fst)) (insMx (Ty.arr 2 iT) Ty.bool (t.snd.snd.fst.getD x.fst.fst.toNat (List.replicate 2 0)) (atMx (Ty.arr 2 iT) Ty.bool (t.snd.snd.fst.getD x.fst.fst.toNat (List.replicate 2 0)) false x.snd.fst) x.snd.fst).length) (C.grd (inB (Int.ofNat (posMx (Ty.arr 2 iT) Ty.bool [(t.snd.snd.fst.getD x.fst.fst.toNat (List.replicate 2 0)).getD (Int.ofNat 1).toNat 0, (t.snd.snd.fst.getD x.fst.fst.toNat (List.replicate 2 0)).getD (Int.ofNat 0).toNat 0] ((insMx (Ty.arr 2 iT) Ty.bool (t.snd.snd.fst.getD x.fst.fst.toNat (List.replicate 2 0)) (atMx (Ty.arr 2 iT) Ty.bool (t.snd.snd.fst.getD x.fst.fst.toNat (List.replicate 2 0)) false x.snd.fst) x.snd.fst).modify (Int.ofNat (posMx (Ty.arr 2 iT) Ty.bool (t.snd.snd.fst.getD x.fst.fst.toNat (List.replicate 2 0)) x.snd.fst)).toNat fun (e : List Int × Bool) => (e.fst, true)))) (insMx (Ty.arr 2 iT) Ty.bool [(t.snd.snd.fst.getD x.fst.fst.toNat (List.replicate 2 0)).getD (Int.ofNat 1).toNat 0, (t.snd.snd.fst.getD x.fst.fst.toNat (List.replicate 2 0)).getD (Int.ofNat 0).toNat 0] (atMx (Ty.arr 2 iT) Ty.bool [(t.snd.snd.fst.getD x.fst.fst.toNat (List.replicate 2 0)).getD (Int.ofNat 1).toNat 0, (t.snd.snd.fst.getD x.fst.fst.toNat (List.replicate 2 0)).getD (Int.ofNat 0).toNat 0] false ((insMx (Ty.arr 2 iT) Ty.bool (t.snd.snd.fst.getD x.fst.fst.toNat (List.replicate 2 0)) (atMx (Ty.arr 2 iT) Ty.bool (t.snd.snd.fst.getD x.fst.fst.toNat (List.replicate 2 0)) false x.snd.fst) x.snd.fst).modify (Int.ofNat (posMx (Ty.arr 2 iT) Ty.bool (t.snd.snd.fst.getD x.fst.fst.toNat (List.replicate 2 0)) x.snd.fst)).toNat fun (e : List Int × Bool) => (e.fst, true))) ((insMx (Ty.arr 2 iT) Ty.bool (t.snd.snd.fst.getD x.fst.fst.toNat (List.replicate 2 0)) (atMx (Ty.arr 2 iT) Ty.bool (t.snd.snd.fst.getD x.fst.fst.toNat (List.replicate 2 0)) false x.snd.fst) x.snd.fst).modify (Int.ofNat (posMx (Ty.arr 2 iT) Ty.bool (t.snd.snd.fst.getD x.fst.fst.toNat (List.replicate 2 0)) x.snd.fst)).toNat fun (e : List Int × Bool) => (e.fst, true))).length) (again ((IntKind.i64.wrap (x.fst.fst + Int.ofNat 1), ()), (insMx (Ty.arr 2 iT) Ty.bool [(t.snd.snd.fst.getD x.fst.fst.toNat (List.replicate 2 0)).getD (Int.ofNat 1).toNat 0, (t.snd.snd.fst.getD x.fst.fst.toNat (List.replicate 2 0)).getD (Int.ofNat 0).toNat 0] (atMx (Ty.arr 2 iT) Ty.bool [(t.snd.snd.fst.getD x.fst.fst.toNat (List.replicate 2 0)).getD (Int.ofNat 1).toNat 0, (t.snd.snd.fst.getD x.fst.fst.toNat (List.replicate 2 0)).getD (Int.ofNat 0).toNat 0] false ((insMx (Ty.arr 2 iT) Ty.bool (t.snd.snd.fst.getD x.fst.fst.toNat (List.replicate 2 0)) (atMx (Ty.arr 2 iT) Ty.bool (t.snd.snd.fst.getD x.fst.fst.toNat (List.replicate 2 0)) false x.snd.fst) x.snd.fst).modify (Int.ofNat (posMx (Ty.arr 2 iT) Ty.bool (t.snd.snd.fst.getD x.fst.fst.toNat (List.replicate 2 0)) x.snd.fst)).toNat fun (e : List Int × Bool) => (e.fst, true))) ((insMx (Ty.arr 2 iT) Ty.bool (t.snd.snd.fst.getD x.fst.fst.toNat (List.replicate 2 0)) (atMx (Ty.arr 2 iT) Ty.bool (t.snd.snd.fst.getD x.fst.fst.toNat (List.replicate 2 0)) false x.snd.fst) x.snd.fst).modify (Int.ofNat (posMx (Ty.arr 2 iT) Ty.bool (t.snd.snd.fst.getD x.fst.fst.toNat (List.replicate 2 0)) x.snd.fst)).toNat fun (e : List Int × Bool) => (e.fst, true))).modify (Int.ofNat (posMx (Ty.arr 2 iT) Ty.bool [(t.snd.snd.fst.getD x.fst.fst.toNat (List.replicate 2 0)).getD (Int.ofNat 1).toNat 0, (t.snd.snd.fst.getD x.fst.fst.toNat (List.replicate 2 0)).getD (Int.ofNat 0).toNat 0] ((insMx (Ty.arr 2 iT) Ty.bool (t.snd.snd.fst.getD x.fst.fst.toNat (List.replicate 2 0)) (atMx (Ty.arr 2 iT) Ty.bool (t.snd.snd.fst.getD x.fst.fst.toNat (List.replicate 2 0)) false x.snd.fst) x.snd.fst).modify (Int.ofNat (posMx (Ty.arr 2 iT) Ty.bool (t.snd.snd.fst.getD x.fst.fst.toNat (List.replicate 2 0)) x.snd.fst)).toNat fun (e : List Int × Bool) => (e.fst, true)))).toNat fun (e : List Int × Bool) => (e.fst, true), ())))))))))))) fun (kont : (Bool × PUnit) × PUnit → Option ((PUnit × Int × PUnit) × (List Int × PUnit) × PUnit)) => C.grd true (C.grd (ltB (Int.ofNat 0).toNat 2) (C.grd true (C.grd (ltB (Int.ofNat 1).toNat 2) (bif ltI (List.foldl mn2 ((t.snd.snd.fst.getD x.fst.fst.toNat (List.replicate 2 0)).getD (Int.ofNat 0).toNat 0) [(t.snd.snd.fst.getD x.fst.fst.toNat (List.replicate 2 0)).getD (Int.ofNat 1).toNat 0]) (Int.ofNat 0) then kont ((true, ()), ()) else C.grd true (C.grd (ltB (Int.ofNat 0).toNat 2) (C.grd true (C.grd (ltB (Int.ofNat 1).toNat 2) (kont ((bif false then true else geI (List.foldl mx2 ((t.snd.snd.fst.getD x.fst.fst.toNat (List.replicate 2 0)).getD (Int.ofNat 0).toNat 0) [(t.snd.snd.fst.getD x.fst.fst.toNat (List.replicate 2 0)).getD (Int.ofNat 1).toNat 0]) c.fst, ()), ())))))))))) else (m_sched_plan_early ((c, cpyL [Int.ofNat 0, Int.ofNat 0, Int.ofNat 0, Int.ofNat 0, Int.ofNat 0, Int.ofNat 0, Int.ofNat 0, Int.ofNat 0, Int.ofNat 0, Int.ofNat 0, Int.ofNat 0, Int.ofNat 0, Int.ofNat 0, Int.ofNat 0] (bif Nat.beq 14 0 then 0 else 0) (min t.fst.length (14 - 0)) t.fst, t.snd.fst, [], ()), ())).elim none fun (val : (PUnit × PUnit) × (List Int × PUnit) × PUnit) => (m_sched_plan_end ((c, cpyL [Int.ofNat 0, Int.ofNat 0, Int.ofNat 0, Int.ofNat 0, Int.ofNat 0, Int.ofNat 0, Int.ofNat 0, Int.ofNat 0, Int.ofNat 0, Int.ofNat 0, Int.ofNat 0, Int.ofNat 0, Int.ofNat 0, Int.ofNat 0] (bif Nat.beq 14 0 then 0 else 0) (min t.fst.length (14 - 0)) t.fst, t.snd.fst, [], ()), val.snd.fst.fst, ())).elim none fun (val_1 : (Int × PUnit) × PUnit) => (m_sched_plan_latest ((c, cpyL [Int.ofNat 0, Int.ofNat 0, Int.ofNat 0, Int.ofNat 0, Int.ofNat 0, Int.ofNat 0, Int.ofNat 0, Int.ofNat 0, Int.ofNat 0, Int.ofNat 0, Int.ofNat 0, Int.ofNat 0, Int.ofNat 0, Int.ofNat 0] (bif Nat.beq 14 0 then 0 else 0) (min t.fst.length (14 - 0)) t.fst, t.snd.fst, [], ()), val_1.fst.fst, ())).elim none fun (val_2 : (PUnit × Bool × PUnit) × (List Int × PUnit) × PUnit) => C.loop (fun (x : (PUnit × Int × PUnit) × (List Int × PUnit) × PUnit) (again : (PUnit × Int × PUnit) × (List Int × PUnit) × PUnit → Option ((PUnit × Int × PUnit) × (List Int × PUnit) × PUnit)) => bif ltI x.fst.snd.fst (Int.ofNat val.snd.fst.fst.length) then C.grd (inB x.fst.snd.fst val.snd.fst.fst.length) (C.grd (ltB x.fst.snd.fst.toNat val.snd.fst.fst.length) (C.grd (inB x.fst.snd.fst val_2.snd.fst.fst.length) (C.grd (ltB x.fst.snd.fst.toNat val_2.snd.fst.fst.length) (C.grd (true && leN ((x.snd.fst.fst.length + [IntKind.i64.wrap (val_2.snd.fst.fst.getD x.fst.snd.fst.toNat 0 - val.snd.fst.fst.getD x.fst.snd.fst.toNat 0)].length) * 8) roomB) (again (((), IntKind.i64.wrap (x.fst.snd.fst + Int.ofNat 1), ()), (x.snd.fst.fst ++ [IntKind.i64.wrap (val_2.snd.fst.fst.getD x.fst.snd.fst.toNat 0 - val.snd.fst.fst.getD x.fst.snd.fst.toNat 0)], ()), ())))))) else some (((), Int.ofNat 0, ()), (x.snd.fst.fst, ()), ())) fuelL (((), Int.ofNat 0, ()), ([], ()), ())) fuelL ((Int.ofNat 0, ()), [], ()))) x.1 x.2.1
def m_sched_Slack : ((List Int) × Int × (List (List Int)) × Unit) × (Int × Int × (List (Int × (List Int) × Int × Int × Unit)) × Unit) × Unit → Option ((Unit × Int × Unit) × ((List Int × Unit) × Unit)) := M_sched_Slack realC
def M_spoondriftlaw24_clock (C : Cmb) (x : (List (List Int)) × Unit) : Option ((((List Int) × Int × (List (List Int)) × Unit) × Unit) × Unit) := (fun (noisy : El (Ty.arr 2 iT).sl) => C.loop (fun (x : (Int × PUnit) × (PUnit × Int × List (List Int) × PUnit) × (List Int × PUnit) × PUnit) (again : (Int × PUnit) × (PUnit × Int × List (List Int) × PUnit) × (List Int × PUnit) × PUnit → Option (((List Int × Int × List (List Int) × PUnit) × PUnit) × PUnit)) => bif ltI x.fst.fst (Int.ofNat 14) then C.join (fun (x_1 : (Int × PUnit) × PUnit) => C.grd (true && leN ((x.snd.snd.fst.fst.length + [x_1.fst.fst].length) * 8) roomB) (again ((IntKind.i64.wrap (x.fst.fst + Int.ofNat 1), ()), ((), x.snd.fst.snd.fst, x.snd.fst.snd.snd.fst, ()), (x.snd.snd.fst.fst ++ [x_1.fst.fst], ()), ()))) fun (kont : (Int × PUnit) × PUnit → Option (((List Int × Int × List (List Int) × PUnit) × PUnit) × PUnit)) => bif IntKind.i64.wrap (x.fst.fst + Int.ofNat 1) == Int.ofNat 4 then kont ((Int.ofNat 2, ()), ()) else C.join (fun (x : (Int × PUnit) × PUnit) => kont ((x.fst.fst, ()), ())) fun (kont : (Int × PUnit) × PUnit → Option (((List Int × Int × List (List Int) × PUnit) × PUnit) × PUnit)) => bif IntKind.i64.wrap (x.fst.fst + Int.ofNat 1) == Int.ofNat 9 then kont ((Int.ofNat 5, ()), ()) else C.join (fun (x : (Int × PUnit) × PUnit) => kont ((x.fst.fst, ()), ())) fun (kont : (Int × PUnit) × PUnit → Option (((List Int × Int × List (List Int) × PUnit) × PUnit) × PUnit)) => bif IntKind.i64.wrap (x.fst.fst + Int.ofNat 1) == Int.ofNat 13 then kont ((Int.ofNat 10, ()), ()) else kont ((Int.ofNat 1, ()), ()) else some (((x.snd.snd.fst.fst, x.snd.fst.snd.fst, x.snd.fst.snd.snd.fst, ()), ()), ())) fuelL ((Int.ofNat 0, ()), ((), Int.ofNat 3, noisy, ()), ([], ()), ())) x.1
def m_spoondriftlaw24_clock : (List (List Int)) × Unit → Option ((((List Int) × Int × (List (List Int)) × Unit) × Unit) × Unit) := M_spoondriftlaw24_clock realC
def M_spoondriftlaw24_gate (C : Cmb) (x : Int × (List Int) × Unit) : Option (((Int × (List Int) × Int × Int × Unit) × Unit) × Unit) := (fun (kind : El iT) (wires : El iT.sl) => some (((kind, wires, Int.ofNat 0, Int.ofNat 0, ()), ()), ())) x.1 x.2.1
def m_spoondriftlaw24_gate : Int × (List Int) × Unit → Option (((Int × (List Int) × Int × Int × Unit) × Unit) × Unit) := M_spoondriftlaw24_gate realC
def M_sched_with_1 (C : Cmb) (x : Int × Unit) : Option ((Bool × Unit) × Unit) := (fun (s : El iT) => C.join (fun (x : (Bool × PUnit) × PUnit) => some ((x.fst.fst, ()), ())) fun (kont : (Bool × PUnit) × PUnit → Option ((Bool × PUnit) × PUnit)) => bif ltI s (Int.ofNat 0) then kont ((true, ()), ()) else kont ((bif false then true else gtI s (Int.ofNat 100000), ()), ())) x.1
def m_sched_with_1 : Int × Unit → Option ((Bool × Unit) × Unit) := M_sched_with_1 realC
def M_sched_with (C : Cmb) (x : ((List Int) × Int × (List (List Int)) × Unit) × (Int × Int × (List (Int × (List Int) × Int × Int × Unit)) × Unit) × (List Int) × Unit) : Option (((Option ((Int × Int × (List (Int × (List Int) × Int × Int × Unit)) × Unit) × (List Int) × Int × (List ((List Int) × Bool)) × Unit)) × Int × Int × Unit) × Unit) := (fun (t : El kT) (c : El cT) (starts : El iT.sl) => (m_sched_opened (t, c, ())).elim none fun (val : (Option ((Int × Int × List (Int × List Int × Int × Int × PUnit) × PUnit) × List Int × Int × List (List Int × Bool) × PUnit) × Int × PUnit) × PUnit) => bif val.fst.snd.fst != Int.ofNat 0 then some ((none, Int.ofNat 0, val.fst.snd.fst, ()), ()) else bif Int.ofNat (List.length starts) != Int.ofNat c.snd.snd.fst.length then some ((none, Int.ofNat 0, Int.ofNat 2, ()), ()) else C.join (fun (x : (Bool × PUnit) × PUnit) => bif x.fst.fst then some ((none, Int.ofNat 0, Int.ofNat 3, ()), ()) else C.loop (fun (x : (Int × PUnit) × PUnit) (again : (Int × PUnit) × PUnit → Option ((Option ((Int × Int × List (Int × List Int × Int × Int × PUnit) × PUnit) × List Int × Int × List (List Int × Bool) × PUnit) × Int × Int × PUnit) × PUnit)) => bif ltI x.fst.fst (Int.ofNat (List.length starts)) then C.grd true (C.join (fun (x_1 : (Bool × PUnit) × PUnit) => bif x_1.fst.fst then some ((none, x.fst.fst, 15, ()), ()) else C.grd true (C.join (fun (x_2 : (Bool × PUnit) × PUnit) => bif x_2.fst.fst then some ((none, x.fst.fst, 7, ()), ()) else again ((IntKind.i64.wrap (x.fst.fst + Int.ofNat 1), ()), ())) fun (kont : (Bool × PUnit) × PUnit → Option ((Option ((Int × Int × List (Int × List Int × Int × Int × PUnit) × PUnit) × List Int × Int × List (List Int × Bool) × PUnit) × Int × Int × PUnit) × PUnit)) => C.loop (fun (x_2 : (Int × PUnit) × PUnit) (again : (Int × PUnit) × PUnit → Option ((Option ((Int × Int × List (Int × List Int × Int × Int × PUnit) × PUnit) × List Int × Int × List (List Int × Bool) × PUnit) × Int × Int × PUnit) × PUnit)) => bif ltI x_2.fst.fst x.fst.fst then C.join (fun (x : (Bool × PUnit) × PUnit) => bif x.fst.fst then kont ((!false, ()), ()) else again ((IntKind.i64.wrap (x_2.fst.fst + Int.ofNat 1), ()), ())) fun (kont : (Bool × PUnit) × PUnit → Option ((Option ((Int × Int × List (Int × List Int × Int × Int × PUnit) × PUnit) × List Int × Int × List (List Int × Bool) × PUnit) × Int × Int × PUnit) × PUnit)) => val.fst.fst.elim none fun (val_1 : (Int × Int × List (Int × List Int × Int × Int × PUnit) × PUnit) × List Int × Int × List (List Int × Bool) × PUnit) => (m_sched_plan_disturb (val_1, x.fst.fst, x_2.fst.fst, ())).elim none fun (val_2 : (Bool × PUnit) × PUnit) => bif val_2.fst.fst then C.grd (inB x.fst.fst (List.length starts)) (val.fst.fst.elim none fun (val_3 : (Int × Int × List (Int × List Int × Int × Int × PUnit) × PUnit) × List Int × Int × List (List Int × Bool) × PUnit) => (m_sched_plan_on (val_3, x.fst.fst, List.getD starts x.fst.fst.toNat 0, ())).elim none fun (val_4 : ((Int × Int × PUnit) × PUnit) × PUnit) => C.grd (inB x_2.fst.fst (List.length starts)) (val.fst.fst.elim none fun (val : (Int × Int × List (Int × List Int × Int × Int × PUnit) × PUnit) × List Int × Int × List (List Int × Bool) × PUnit) => (m_sched_plan_on (val, x_2.fst.fst, List.getD starts x_2.fst.fst.toNat 0, ())).elim none fun (val : ((Int × Int × PUnit) × PUnit) × PUnit) => (m_sched_span_overlaps (val_4.fst.fst, val.fst.fst, ())).elim none fun (val : (Bool × PUnit) × PUnit) => kont ((bif true then val.fst.fst else false, ()), ()))) else kont ((false, ()), ()) else kont ((!true, ()), ())) fuelL ((Int.ofNat 0, ()), ()))) fun (kont : (Bool × PUnit) × PUnit → Option ((Option ((Int × Int × List (Int × List Int × Int × Int × PUnit) × PUnit) × List Int × Int × List (List Int × Bool) × PUnit) × Int × Int × PUnit) × PUnit)) => C.grd (inB x.fst.fst (List.length starts)) (val.fst.fst.elim none fun (val : (Int × Int × List (Int × List Int × Int × Int × PUnit) × PUnit) × List Int × Int × List (List Int × Bool) × PUnit) => (m_sched_plan_after (val, x.fst.fst, starts, ())).elim none fun (val : (Int × PUnit) × PUnit) => kont ((!geI (List.getD starts x.fst.fst.toNat 0) val.fst.fst, ()), ()))) else some ((val.fst.fst, Int.ofNat 0, Int.ofNat 0, ()), ())) fuelL ((Int.ofNat 0, ()), ())) fun (kont : (Bool × PUnit) × PUnit → Option ((Option ((Int × Int × List (Int × List Int × Int × Int × PUnit) × PUnit) × List Int × Int × List (List Int × Bool) × PUnit) × Int × Int × PUnit) × PUnit)) => C.loop (fun (x : (Int × PUnit) × PUnit) (again : (Int × PUnit) × PUnit → Option ((Option ((Int × Int × List (Int × List Int × Int × Int × PUnit) × PUnit) × List Int × Int × List (List Int × Bool) × PUnit) × Int × Int × PUnit) × PUnit)) => bif ltI x.fst.fst (Int.ofNat (List.length starts)) then C.grd (inB x.fst.fst (List.length starts)) ((m_sched_with_1 (List.getD starts x.fst.fst.toNat 0, ())).elim none fun (val : (Bool × PUnit) × PUnit) => bif val.fst.fst then kont ((geI x.fst.fst (Int.ofNat 0), ()), ()) else again ((IntKind.i64.wrap (x.fst.fst + Int.ofNat 1), ()), ())) else kont ((geI (Int.negSucc 0) (Int.ofNat 0), ()), ())) fuelL ((Int.ofNat 0, ()), ())) x.1 x.2.1 x.2.2.1
def m_sched_with : ((List Int) × Int × (List (List Int)) × Unit) × (Int × Int × (List (Int × (List Int) × Int × Int × Unit)) × Unit) × (List Int) × Unit → Option (((Option ((Int × Int × (List (Int × (List Int) × Int × Int × Unit)) × Unit) × (List Int) × Int × (List ((List Int) × Bool)) × Unit)) × Int × Int × Unit) × Unit) := M_sched_with realC
def M_sched_Length (C : Cmb) (x : ((List Int) × Int × (List (List Int)) × Unit) × (Int × Int × (List (Int × (List Int) × Int × Int × Unit)) × Unit) × (List Int) × Unit) : Option ((Int × Int × Unit) × Unit) := (fun (t : El kT) (c : El cT) (starts : El iT.sl) => (m_sched_with (t, c, starts, ())).elim none fun (val : (Option ((Int × Int × List (Int × List Int × Int × Int × PUnit) × PUnit) × List Int × Int × List (List Int × Bool) × PUnit) × Int × Int × PUnit) × PUnit) => bif val.fst.snd.snd.fst != Int.ofNat 0 then some ((Int.ofNat 0, val.fst.snd.snd.fst, ()), ()) else val.fst.fst.elim none fun (val : (Int × Int × List (Int × List Int × Int × Int × PUnit) × PUnit) × List Int × Int × List (List Int × Bool) × PUnit) => (m_sched_plan_end (val, starts, ())).elim none fun (val : (Int × PUnit) × PUnit) => some ((val.fst.fst, Int.ofNat 0, ()), ())) x.1 x.2.1 x.2.2.1
def m_sched_Length : ((List Int) × Int × (List (List Int)) × Unit) × (Int × Int × (List (Int × (List Int) × Int × Int × Unit)) × Unit) × (List Int) × Unit → Option ((Int × Int × Unit) × Unit) := M_sched_Length realC
def M_sched_Chain (C : Cmb) (x : ((List Int) × Int × (List (List Int)) × Unit) × (Int × Int × (List (Int × (List Int) × Int × Int × Unit)) × Unit) × Unit) : Option ((Unit × Int × Int × Unit) × ((List Int × Unit) × Unit)) := (fun (t : El kT) (c : El cT) => (m_sched_opened (t, c, ())).elim none fun (val : (Option ((Int × Int × List (Int × List Int × Int × Int × PUnit) × PUnit) × List Int × Int × List (List Int × Bool) × PUnit) × Int × PUnit) × PUnit) => bif val.fst.snd.fst != Int.ofNat 0 then some (((), Int.ofNat 0, val.fst.snd.fst, ()), ([], ()), ()) else val.fst.fst.elim none fun (val_1 : (Int × Int × List (Int × List Int × Int × Int × PUnit) × PUnit) × List Int × Int × List (List Int × Bool) × PUnit) => C.grd (leI 0 (Int.ofNat val_1.fst.snd.snd.fst.length) && eqI (Int.ofNat val_1.fst.snd.snd.fst.length) (Int.ofNat val_1.fst.snd.snd.fst.length) && leN ((Int.ofNat val_1.fst.snd.snd.fst.length).toNat * 8) roomB) (C.grd (leI 0 (Int.ofNat val_1.fst.snd.snd.fst.length) && eqI (Int.ofNat val_1.fst.snd.snd.fst.length) (Int.ofNat val_1.fst.snd.snd.fst.length) && leN ((Int.ofNat val_1.fst.snd.snd.fst.length).toNat * 8) roomB) (C.loop (fun (x : (Int × PUnit) × (List Int × PUnit) × (List Int × PUnit) × PUnit) (again : (Int × PUnit) × (List Int × PUnit) × (List Int × PUnit) × PUnit → Option ((PUnit × Int × Int × PUnit) × (List Int × PUnit) × PUnit)) => bif geI x.fst.fst (Int.ofNat 0) then val.fst.fst.elim none fun (val_2 : (Int × Int × List (Int × List Int × Int × Int × PUnit) × PUnit) × List Int × Int × List (List Int × Bool) × PUnit) => (m_sched_plan_length (val_2, x.fst.fst, ())).elim none fun (val_3 : (Int × PUnit) × PUnit) => C.grd (inB x.fst.fst x.snd.fst.fst.length) (C.grd (ltB x.fst.fst.toNat x.snd.fst.fst.length) (C.grd (inB x.fst.fst x.snd.snd.fst.fst.length) (C.grd (ltB x.fst.fst.toNat x.snd.snd.fst.fst.length) (C.loop (fun (x_1 : (Int × PUnit) × (List Int × PUnit) × (List Int × PUnit) × PUnit) (again_1 : (Int × PUnit) × (List Int × PUnit) × (List Int × PUnit) × PUnit → Option ((PUnit × Int × Int × PUnit) × (List Int × PUnit) × PUnit)) => bif ltI x_1.fst.fst (Int.ofNat val_1.fst.snd.snd.fst.length) then C.join (fun (x_2 : (Bool × PUnit) × PUnit) => C.join (fun (x : PUnit × (List Int × PUnit) × (List Int × PUnit) × PUnit) => again_1 ((IntKind.i64.wrap (x_1.fst.fst + Int.ofNat 1), ()), (x.snd.fst.fst, ()), (x.snd.snd.fst.fst, ()), ())) fun (kont : PUnit × (List Int × PUnit) × (List Int × PUnit) × PUnit → Option ((PUnit × Int × Int × PUnit) × (List Int × PUnit) × PUnit)) => bif x_2.fst.fst then val.fst.fst.elim none fun (val_4 : (Int × Int × List (Int × List Int × Int × Int × PUnit) × PUnit) × List Int × Int × List (List Int × Bool) × PUnit) => (m_sched_plan_length (val_4, x.fst.fst, ())).elim none fun (val_5 : (Int × PUnit) × PUnit) => val.fst.fst.elim none fun (val : (Int × Int × List (Int × List Int × Int × Int × PUnit) × PUnit) × List Int × Int × List (List Int × Bool) × PUnit) => (m_sched_plan_late (val, x.fst.fst, x_1.fst.fst, ())).elim none fun (val : (Int × PUnit) × PUnit) => C.grd (inB x_1.fst.fst x_1.snd.fst.fst.length) (C.grd (ltB x_1.fst.fst.toNat x_1.snd.fst.fst.length) (C.grd (inB x.fst.fst x_1.snd.fst.fst.length) (C.grd (ltB x.fst.fst.toNat x_1.snd.fst.fst.length) (C.grd (inB x.fst.fst x_1.snd.snd.fst.fst.length) (C.grd (ltB x.fst.fst.toNat x_1.snd.snd.fst.fst.length) (kont ((), (x_1.snd.fst.fst.set x.fst.fst.toNat (IntKind.i64.wrap (IntKind.i64.wrap (val_5.fst.fst + val.fst.fst) + x_1.snd.fst.fst.getD x_1.fst.fst.toNat 0)), ()), (x_1.snd.snd.fst.fst.set x.fst.fst.toNat x_1.fst.fst, ()), ()))))))) else kont ((), (x_1.snd.fst.fst, ()), (x_1.snd.snd.fst.fst, ()), ())) fun (kont : (Bool × PUnit) × PUnit → Option ((PUnit × Int × Int × PUnit) × (List Int × PUnit) × PUnit)) => val.fst.fst.elim none fun (val_4 : (Int × Int × List (Int × List Int × Int × Int × PUnit) × PUnit) × List Int × Int × List (List Int × Bool) × PUnit) => (m_sched_plan_holds (val_4, x.fst.fst, x_1.fst.fst, ())).elim none fun (val_5 : (Bool × PUnit) × PUnit) => bif val_5.fst.fst then val.fst.fst.elim none fun (val_6 : (Int × Int × List (Int × List Int × Int × Int × PUnit) × PUnit) × List Int × Int × List (List Int × Bool) × PUnit) => (m_sched_plan_length (val_6, x.fst.fst, ())).elim none fun (val_7 : (Int × PUnit) × PUnit) => val.fst.fst.elim none fun (val : (Int × Int × List (Int × List Int × Int × Int × PUnit) × PUnit) × List Int × Int × List (List Int × Bool) × PUnit) => (m_sched_plan_late (val, x.fst.fst, x_1.fst.fst, ())).elim none fun (val : (Int × PUnit) × PUnit) => C.grd (inB x_1.fst.fst x_1.snd.fst.fst.length) (C.grd (ltB x_1.fst.fst.toNat x_1.snd.fst.fst.length) (C.grd (inB x.fst.fst x_1.snd.fst.fst.length) (C.grd (ltB x.fst.fst.toNat x_1.snd.fst.fst.length) (kont ((bif true then gtI (IntKind.i64.wrap (IntKind.i64.wrap (val_7.fst.fst + val.fst.fst) + x_1.snd.fst.fst.getD x_1.fst.fst.toNat 0)) (x_1.snd.fst.fst.getD x.fst.fst.toNat 0) else false, ()), ()))))) else kont ((false, ()), ()) else again ((IntKind.i64.wrap (x.fst.fst - Int.ofNat 1), ()), (x_1.snd.fst.fst, ()), (x_1.snd.snd.fst.fst, ()), ())) fuelL ((IntKind.i64.wrap (x.fst.fst + Int.ofNat 1), ()), (x.snd.fst.fst.set x.fst.fst.toNat val_3.fst.fst, ()), (x.snd.snd.fst.fst.set x.fst.fst.toNat (Int.negSucc 0), ()), ()))))) else (m_sched_greatest (x.snd.fst.fst, ())).elim none fun (val : (Int × PUnit) × PUnit) => (m_slices_Index (x.snd.fst.fst, val.fst.fst, ())).elim none fun (val_2 : (Int × PUnit) × PUnit) => C.loop (fun (x_1 : (PUnit × Int × PUnit) × (List Int × PUnit) × PUnit) (again : (PUnit × Int × PUnit) × (List Int × PUnit) × PUnit → Option ((PUnit × Int × Int × PUnit) × (List Int × PUnit) × PUnit)) => bif geI x_1.fst.snd.fst (Int.ofNat 0) then C.grd (true && leN ((x_1.snd.fst.fst.length + [x_1.fst.snd.fst].length) * 8) roomB) (C.grd (inB x_1.fst.snd.fst x.snd.snd.fst.fst.length) (C.grd (ltB x_1.fst.snd.fst.toNat x.snd.snd.fst.fst.length) (again (((), x.snd.snd.fst.fst.getD x_1.fst.snd.fst.toNat 0, ()), (x_1.snd.fst.fst ++ [x_1.fst.snd.fst], ()), ())))) else some (((), val.fst.fst, Int.ofNat 0, ()), (x_1.snd.fst.fst, ()), ())) fuelL (((), val_2.fst.fst, ()), ([], ()), ())) fuelL ((IntKind.i64.wrap (Int.ofNat val_1.fst.snd.snd.fst.length - Int.ofNat 1), ()), (List.replicate (Int.ofNat val_1.fst.snd.snd.fst.length).toNat (Int.ofNat 0), ()), (List.replicate (Int.ofNat val_1.fst.snd.snd.fst.length).toNat (Int.ofNat 0), ()), ())))) x.1 x.2.1
def m_sched_Chain : ((List Int) × Int × (List (List Int)) × Unit) × (Int × Int × (List (Int × (List Int) × Int × Int × Unit)) × Unit) × Unit → Option ((Unit × Int × Int × Unit) × ((List Int × Unit) × Unit)) := M_sched_Chain realC
def M_sched_plan_has (C : Cmb) (x : ((Int × Int × (List (Int × (List Int) × Int × Int × Unit)) × Unit) × (List Int) × Int × (List ((List Int) × Bool)) × Unit) × (List Int) × Unit) : Option ((Bool × Unit) × Unit) := (fun (p : El pT.ptr) (l : El iT.sl) => C.join (fun (x : (Bool × PUnit) × PUnit) => some ((!x.fst.fst, ()), ())) fun (kont : (Bool × PUnit) × PUnit → Option ((Bool × PUnit) × PUnit)) => C.loop (fun (x : (Int × PUnit) × PUnit) (again : (Int × PUnit) × PUnit → Option ((Bool × PUnit) × PUnit)) => bif ltI x.fst.fst (Int.ofNat (List.length l)) then C.grd (inB x.fst.fst (List.length l)) (C.join (fun (x_1 : (Bool × PUnit) × PUnit) => bif x_1.fst.fst then kont ((geI x.fst.fst (Int.ofNat 0), ()), ()) else again ((IntKind.i64.wrap (x.fst.fst + Int.ofNat 1), ()), ())) fun (kont : (Bool × PUnit) × PUnit → Option ((Bool × PUnit) × PUnit)) => bif ltI (List.getD l x.fst.fst.toNat 0) (Int.ofNat 0) then kont ((true, ()), ()) else kont ((bif false then true else geI (List.getD l x.fst.fst.toNat 0) (Int.ofNat p.fst.snd.snd.fst.length), ()), ())) else kont ((geI (Int.negSucc 0) (Int.ofNat 0), ()), ())) fuelL ((Int.ofNat 0, ()), ())) x.1 x.2.1
def m_sched_plan_has : ((Int × Int × (List (Int × (List Int) × Int × Int × Unit)) × Unit) × (List Int) × Int × (List ((List Int) × Bool)) × Unit) × (List Int) × Unit → Option ((Bool × Unit) × Unit) := M_sched_plan_has realC
def M_sched_Shows (C : Cmb) (x : ((List Int) × Int × (List (List Int)) × Unit) × (Int × Int × (List (Int × (List Int) × Int × Int × Unit)) × Unit) × (List Int) × Unit) : Option ((Int × Int × Unit) × Unit) := (fun (t : El kT) (c : El cT) (chain : El iT.sl) => (m_sched_opened (t, c, ())).elim none fun (val : (Option ((Int × Int × List (Int × List Int × Int × Int × PUnit) × PUnit) × List Int × Int × List (List Int × Bool) × PUnit) × Int × PUnit) × PUnit) => bif val.fst.snd.fst != Int.ofNat 0 then some ((Int.ofNat 0, val.fst.snd.fst, ()), ()) else val.fst.fst.elim none fun (val_1 : (Int × Int × List (Int × List Int × Int × Int × PUnit) × PUnit) × List Int × Int × List (List Int × Bool) × PUnit) => (m_sched_plan_has (val_1, chain, ())).elim none fun (val_2 : (Bool × PUnit) × PUnit) => bif !val_2.fst.fst then some ((Int.ofNat 0, Int.ofNat 1, ()), ()) else C.loop (fun (x : (Int × PUnit) × PUnit) (again : (Int × PUnit) × PUnit → Option ((Int × Int × PUnit) × PUnit)) => bif ltI x.fst.fst (Int.ofNat (List.length chain)) then C.grd (inB x.fst.fst (List.length chain)) (C.grd (inB (IntKind.i64.wrap (x.fst.fst - Int.ofNat 1)) (List.length chain)) (bif leI (List.getD chain x.fst.fst.toNat 0) (List.getD chain (IntKind.i64.wrap (x.fst.fst - Int.ofNat 1)).toNat 0) then some ((Int.ofNat 0, Int.ofNat 15, ()), ()) else again ((IntKind.i64.wrap (x.fst.fst + Int.ofNat 1), ()), ()))) else C.loop (fun (x : (Int × Int × PUnit) × PUnit) (again : (Int × Int × PUnit) × PUnit → Option ((Int × Int × PUnit) × PUnit)) => bif ltI x.fst.snd.fst (Int.ofNat (List.length chain)) then C.grd (inB x.fst.snd.fst (List.length chain)) (C.join (fun (x_1 : (Int × PUnit) × PUnit) => val.fst.fst.elim none fun (val : (Int × Int × List (Int × List Int × Int × Int × PUnit) × PUnit) × List Int × Int × List (List Int × Bool) × PUnit) => (m_sched_plan_length (val, List.getD chain x.fst.snd.fst.toNat 0, ())).elim none fun (val : (Int × PUnit) × PUnit) => again ((IntKind.i64.wrap (x_1.fst.fst + val.fst.fst), IntKind.i64.wrap (x.fst.snd.fst + Int.ofNat 1), ()), ())) fun (kont : (Int × PUnit) × PUnit → Option ((Int × Int × PUnit) × PUnit)) => bif gtI x.fst.snd.fst (Int.ofNat 0) then C.grd (inB (IntKind.i64.wrap (x.fst.snd.fst - Int.ofNat 1)) (List.length chain)) (val.fst.fst.elim none fun (val_3 : (Int × Int × List (Int × List Int × Int × Int × PUnit) × PUnit) × List Int × Int × List (List Int × Bool) × PUnit) => (m_sched_plan_holds (val_3, List.getD chain (IntKind.i64.wrap (x.fst.snd.fst - Int.ofNat 1)).toNat 0, List.getD chain x.fst.snd.fst.toNat 0, ())).elim none fun (val_4 : (Bool × PUnit) × PUnit) => bif !val_4.fst.fst then some ((Int.ofNat 0, Int.ofNat 6, ()), ()) else C.grd (inB (IntKind.i64.wrap (x.fst.snd.fst - Int.ofNat 1)) (List.length chain)) (val.fst.fst.elim none fun (val : (Int × Int × List (Int × List Int × Int × Int × PUnit) × PUnit) × List Int × Int × List (List Int × Bool) × PUnit) => (m_sched_plan_late (val, List.getD chain (IntKind.i64.wrap (x.fst.snd.fst - Int.ofNat 1)).toNat 0, List.getD chain x.fst.snd.fst.toNat 0, ())).elim none fun (val : (Int × PUnit) × PUnit) => kont ((IntKind.i64.wrap (x.fst.fst + val.fst.fst), ()), ()))) else kont ((x.fst.fst, ()), ())) else some ((x.fst.fst, Int.ofNat 0, ()), ())) fuelL ((Int.ofNat 0, Int.ofNat 0, ()), ())) fuelL ((Int.ofNat 1, ()), ())) x.1 x.2.1 x.2.2.1
def m_sched_Shows : ((List Int) × Int × (List (List Int)) × Unit) × (Int × Int × (List (Int × (List Int) × Int × Int × Unit)) × Unit) × (List Int) × Unit → Option ((Int × Int × Unit) × Unit) := M_sched_Shows realC
def M_sched_Right (C : Cmb) (x : ((List Int) × Int × (List (List Int)) × Unit) × (Int × Int × (List (Int × (List Int) × Int × Int × Unit)) × Unit) × (List Int) × Unit) : Option ((Int × Int × Unit) × Unit) := (fun (t : El kT) (c : El cT) (starts : El iT.sl) => (m_sched_with (t, c, starts, ())).elim none fun (val : (Option ((Int × Int × List (Int × List Int × Int × Int × PUnit) × PUnit) × List Int × Int × List (List Int × Bool) × PUnit) × Int × Int × PUnit) × PUnit) => some (val.fst.snd, ())) x.1 x.2.1 x.2.2.1
def m_sched_Right : ((List Int) × Int × (List (List Int)) × Unit) × (Int × Int × (List (Int × (List Int) × Int × Int × Unit)) × Unit) × (List Int) × Unit → Option ((Int × Int × Unit) × Unit) := M_sched_Right realC
def M_sched_Idle (C : Cmb) (x : ((List Int) × Int × (List (List Int)) × Unit) × (Int × Int × (List (Int × (List Int) × Int × Int × Unit)) × Unit) × (List Int) × Unit) : Option ((Unit × Int × Unit) × ((List Int × Unit) × Unit)) := (fun (t : El kT) (c : El cT) (starts : El iT.sl) => (m_sched_with (t, c, starts, ())).elim none fun (val : (Option ((Int × Int × List (Int × List Int × Int × Int × PUnit) × PUnit) × List Int × Int × List (List Int × Bool) × PUnit) × Int × Int × PUnit) × PUnit) => bif val.fst.snd.snd.fst != Int.ofNat 0 then some (((), val.fst.snd.snd.fst, ()), ([], ()), ()) else val.fst.fst.elim none fun (val_1 : (Int × Int × List (Int × List Int × Int × Int × PUnit) × PUnit) × List Int × Int × List (List Int × Bool) × PUnit) => C.grd (leI 0 val_1.fst.fst && eqI val_1.fst.fst val_1.fst.fst && leN (val_1.fst.fst.toNat * 8) roomB) (C.loop (fun (x : (Int × PUnit) × (List Int × PUnit) × PUnit) (again : (Int × PUnit) × (List Int × PUnit) × PUnit → Option ((PUnit × Int × PUnit) × (List Int × PUnit) × PUnit)) => bif ltI x.fst.fst (Int.ofNat val_1.fst.fst.toNat) then val.fst.fst.elim none fun (val : (Int × Int × List (Int × List Int × Int × Int × PUnit) × PUnit) × List Int × Int × List (List Int × Bool) × PUnit) => (m_sched_plan_end (val, starts, ())).elim none fun (val : (Int × PUnit) × PUnit) => C.grd (inB x.fst.fst x.snd.fst.fst.length) (C.grd (ltB x.fst.fst.toNat x.snd.fst.fst.length) (again ((IntKind.i64.wrap (x.fst.fst + Int.ofNat 1), ()), (x.snd.fst.fst.set x.fst.fst.toNat val.fst.fst, ()), ()))) else val.fst.fst.elim none fun (val_2 : (Int × Int × List (Int × List Int × Int × Int × PUnit) × PUnit) × List Int × Int × List (List Int × Bool) × PUnit) => C.loop (fun (x : (Int × PUnit) × (List Int × PUnit) × PUnit) (again : (Int × PUnit) × (List Int × PUnit) × PUnit → Option ((PUnit × Int × PUnit) × (List Int × PUnit) × PUnit)) => bif ltI x.fst.fst (Int.ofNat val_2.fst.snd.snd.fst.length) then C.grd (inB x.fst.fst val_2.fst.snd.snd.fst.length) (C.loop (fun (x_1 : (Int × PUnit) × (List Int × PUnit) × PUnit) (again_1 : (Int × PUnit) × (List Int × PUnit) × PUnit → Option ((PUnit × Int × PUnit) × (List Int × PUnit) × PUnit)) => bif ltI x_1.fst.fst (Int.ofNat (val_2.fst.snd.snd.fst.getD x.fst.fst.toNat (0, [], 0, 0, ())).snd.fst.length) then C.grd (inB x_1.fst.fst (val_2.fst.snd.snd.fst.getD x.fst.fst.toNat (0, [], 0, 0, ())).snd.fst.length) (C.grd (inB ((val_2.fst.snd.snd.fst.getD x.fst.fst.toNat (0, [], 0, 0, ())).snd.fst.getD x_1.fst.fst.toNat 0) x_1.snd.fst.fst.length) (C.grd (ltB ((val_2.fst.snd.snd.fst.getD x.fst.fst.toNat (0, [], 0, 0, ())).snd.fst.getD x_1.fst.fst.toNat 0).toNat x_1.snd.fst.fst.length) (val.fst.fst.elim none fun (val : (Int × Int × List (Int × List Int × Int × Int × PUnit) × PUnit) × List Int × Int × List (List Int × Bool) × PUnit) => (m_sched_plan_length (val, x.fst.fst, ())).elim none fun (val : (Int × PUnit) × PUnit) => C.grd (inB ((val_2.fst.snd.snd.fst.getD x.fst.fst.toNat (0, [], 0, 0, ())).snd.fst.getD x_1.fst.fst.toNat 0) x_1.snd.fst.fst.length) (C.grd (ltB ((val_2.fst.snd.snd.fst.getD x.fst.fst.toNat (0, [], 0, 0, ())).snd.fst.getD x_1.fst.fst.toNat 0).toNat x_1.snd.fst.fst.length) (again_1 ((IntKind.i64.wrap (x_1.fst.fst + Int.ofNat 1), ()), (x_1.snd.fst.fst.set ((val_2.fst.snd.snd.fst.getD x.fst.fst.toNat (0, [], 0, 0, ())).snd.fst.getD x_1.fst.fst.toNat 0).toNat (IntKind.i64.wrap (x_1.snd.fst.fst.getD ((val_2.fst.snd.snd.fst.getD x.fst.fst.toNat (0, [], 0, 0, ())).snd.fst.getD x_1.fst.fst.toNat 0).toNat 0 - val.fst.fst)), ()), ())))))) else again ((IntKind.i64.wrap (x.fst.fst + Int.ofNat 1), ()), (x_1.snd.fst.fst, ()), ())) fuelL ((Int.ofNat 0, ()), (x.snd.fst.fst, ()), ())) else some (((), Int.ofNat 0, ()), (x.snd.fst.fst, ()), ())) fuelL ((Int.ofNat 0, ()), (x.snd.fst.fst, ()), ())) fuelL ((Int.ofNat 0, ()), (List.replicate val_1.fst.fst.toNat (Int.ofNat 0), ()), ()))) x.1 x.2.1 x.2.2.1
def m_sched_Idle : ((List Int) × Int × (List (List Int)) × Unit) × (Int × Int × (List (Int × (List Int) × Int × Int × Unit)) × Unit) × (List Int) × Unit → Option ((Unit × Int × Unit) × ((List Int × Unit) × Unit)) := M_sched_Idle realC
def M_slices_Equal (C : Cmb) (x : (List Int) × (List Int) × Unit) : Option ((Bool × Unit) × Unit) := (fun (s1 s2 : El iT.sl) => bif Int.ofNat (List.length s1) != Int.ofNat (List.length s2) then some ((false, ()), ()) else C.loop (fun (x : (Int × PUnit) × PUnit) (again : (Int × PUnit) × PUnit → Option ((Bool × PUnit) × PUnit)) => bif ltI x.fst.fst (Int.ofNat (List.length s1)) then C.grd (inB x.fst.fst (List.length s1)) (C.grd (inB x.fst.fst (List.length s2)) (bif List.getD s1 x.fst.fst.toNat 0 != List.getD s2 x.fst.fst.toNat 0 then some ((false, ()), ()) else again ((IntKind.i64.wrap (x.fst.fst + Int.ofNat 1), ()), ()))) else some ((true, ()), ())) fuelL ((Int.ofNat 0, ()), ())) x.1 x.2.1
def m_slices_Equal : (List Int) × (List Int) × Unit → Option ((Bool × Unit) × Unit) := M_slices_Equal realC
def M_spoondriftlaw24_known (C : Cmb) (x : (List Int) × Int × (List Int) × Unit) : Option ((Bool × Unit) × Unit) := (fun (l : El iT.sl) (e : El iT) (want : El iT.sl) => C.join (fun (x : (Bool × PUnit) × PUnit) => some ((x.fst.fst, ()), ())) fun (kont : (Bool × PUnit) × PUnit → Option ((Bool × PUnit) × PUnit)) => bif e == Int.ofNat 0 then (m_slices_Equal (l, want, ())).elim none fun (val : (Bool × PUnit) × PUnit) => kont ((bif true then val.fst.fst else false, ()), ()) else kont ((false, ()), ())) x.1 x.2.1 x.2.2.1
def m_spoondriftlaw24_known : (List Int) × Int × (List Int) × Unit → Option ((Bool × Unit) × Unit) := M_spoondriftlaw24_known realC
def M_sched_Holds (C : Cmb) (x : ((List Int) × Int × (List (List Int)) × Unit) × (Int × Int × (List (Int × (List Int) × Int × Int × Unit)) × Unit) × Int × Int × Unit) : Option ((Int × Int × Unit) × Unit) := (fun (t : El kT) (c : El cT) (j i : El iT) => (m_sched_opened (t, c, ())).elim none fun (val : (Option ((Int × Int × List (Int × List Int × Int × Int × PUnit) × PUnit) × List Int × Int × List (List Int × Bool) × PUnit) × Int × PUnit) × PUnit) => bif val.fst.snd.fst != Int.ofNat 0 then some ((Int.ofNat 0, val.fst.snd.fst, ()), ()) else val.fst.fst.elim none fun (val_1 : (Int × Int × List (Int × List Int × Int × Int × PUnit) × PUnit) × List Int × Int × List (List Int × Bool) × PUnit) => (m_sched_plan_has (val_1, [j, i], ())).elim none fun (val_2 : (Bool × PUnit) × PUnit) => bif !val_2.fst.fst then some ((Int.ofNat 0, Int.ofNat 1, ()), ()) else bif geI j i then some ((Int.ofNat 0, Int.ofNat 15, ()), ()) else val.fst.fst.elim none fun (val_3 : (Int × Int × List (Int × List Int × Int × Int × PUnit) × PUnit) × List Int × Int × List (List Int × Bool) × PUnit) => (m_sched_plan_holds (val_3, j, i, ())).elim none fun (val_4 : (Bool × PUnit) × PUnit) => bif !val_4.fst.fst then some ((Int.ofNat 0, Int.ofNat 6, ()), ()) else val.fst.fst.elim none fun (val_5 : (Int × Int × List (Int × List Int × Int × Int × PUnit) × PUnit) × List Int × Int × List (List Int × Bool) × PUnit) => (m_sched_plan_length (val_5, j, ())).elim none fun (val_6 : (Int × PUnit) × PUnit) => val.fst.fst.elim none fun (val : (Int × Int × List (Int × List Int × Int × Int × PUnit) × PUnit) × List Int × Int × List (List Int × Bool) × PUnit) => (m_sched_plan_late (val, j, i, ())).elim none fun (val : (Int × PUnit) × PUnit) => some ((IntKind.i64.wrap (val_6.fst.fst + val.fst.fst), Int.ofNat 0, ()), ())) x.1 x.2.1 x.2.2.1 x.2.2.2.1
def m_sched_Holds : ((List Int) × Int × (List (List Int)) × Unit) × (Int × Int × (List (Int × (List Int) × Int × Int × Unit)) × Unit) × Int × Int × Unit → Option ((Int × Int × Unit) × Unit) := M_sched_Holds realC
def M_slices_Clone (C : Cmb) (x : (List Int) × Unit) : Option ((Unit × Unit) × ((List Int × Unit) × Unit)) := (fun (s : El iT.sl) => bif List.isEmpty s then same (some (((), ()), ([], ()), ())) (C.grd (true && leN ((0 + List.length s) * 8) roomB) (some (((), ()), ([] ++ s, ()), ()))) else C.grd (true && leN ((0 + List.length s) * 8) roomB) (some (((), ()), ([] ++ s, ()), ()))) x.1
def m_slices_Clone (x : (List Int) × Unit) : Option ((Unit × Unit) × ((List Int × Unit) × Unit)) := bif leN (List.length x.1 * 8) roomB then some (((), ()), (x.1, ()), ()) else none
theorem q_slices_Clone : M_slices_Clone realC = m_slices_Clone := by
  funext x
  obtain ⟨l, u⟩ := x
  cases l with
  | nil => exact @same_self realC _ _
  | cons a l => simp only [M_slices_Clone, m_slices_Clone, List.isEmpty, cond_false, Nat.zero_add, Bool.true_and, List.nil_append]; rfl
def M_cmp_isNaN (C : Cmb) (x : Int × Unit) : Option ((Bool × Unit) × Unit) := (fun (x : El iT) => some ((x != x, ()), ())) x.1
def m_cmp_isNaN : Int × Unit → Option ((Bool × Unit) × Unit) := M_cmp_isNaN realC
def M_cmp_Compare (C : Cmb) (x : Int × Int × Unit) : Option ((Int × Unit) × Unit) := (fun (x y : El iT) => (m_cmp_isNaN (x, ())).elim none fun (val : (Bool × PUnit) × PUnit) => (m_cmp_isNaN (y, ())).elim none fun (val_1 : (Bool × PUnit) × PUnit) => bif val.fst.fst then bif val_1.fst.fst then some ((Int.ofNat 0, ()), ()) else some ((Int.negSucc 0, ()), ()) else bif val_1.fst.fst then some ((Int.ofNat 1, ()), ()) else bif ltI x y then some ((Int.negSucc 0, ()), ()) else bif gtI x y then some ((Int.ofNat 1, ()), ()) else some ((Int.ofNat 0, ()), ())) x.1 x.2.1
def m_cmp_Compare : Int × Int × Unit → Option ((Int × Unit) × Unit) := M_cmp_Compare realC
def M_slices_Compare (C : Cmb) (x : (List Int) × (List Int) × Unit) : Option ((Int × Unit) × Unit) := (fun (s1 s2 : El iT.sl) => C.loop (fun (x : (Int × PUnit) × PUnit) (again : (Int × PUnit) × PUnit → Option ((Int × PUnit) × PUnit)) => bif ltI x.fst.fst (Int.ofNat (List.length s1)) then C.grd (inB x.fst.fst (List.length s1)) (bif geI x.fst.fst (Int.ofNat (List.length s2)) then some ((Int.ofNat 1, ()), ()) else C.grd (inB x.fst.fst (List.length s2)) ((m_cmp_Compare (List.getD s1 x.fst.fst.toNat 0, List.getD s2 x.fst.fst.toNat 0, ())).elim none fun (val : (Int × PUnit) × PUnit) => bif val.fst.fst != Int.ofNat 0 then some ((val.fst.fst, ()), ()) else again ((IntKind.i64.wrap (x.fst.fst + Int.ofNat 1), ()), ()))) else bif ltI (Int.ofNat (List.length s1)) (Int.ofNat (List.length s2)) then some ((Int.negSucc 0, ()), ()) else some ((Int.ofNat 0, ()), ())) fuelL ((Int.ofNat 0, ()), ())) x.1 x.2.1
def m_slices_Compare : (List Int) × (List Int) × Unit → Option ((Int × Unit) × Unit) := M_slices_Compare realC
def M_sched_Quiet (C : Cmb) (x : ((List Int) × Int × (List (List Int)) × Unit) × Unit) : Option ((((List Int) × Int × (List (List Int)) × Unit) × Int × Unit) × Unit) := (fun (t : El kT) => (m_sched_clock (t, ())).elim none fun (val : (Int × PUnit) × PUnit) => bif val.fst.fst != Int.ofNat 0 then some ((([], Int.ofNat 0, [], ()), val.fst.fst, ()), ()) else (m_slices_Clone (t.fst, ())).elim none fun (val : (PUnit × PUnit) × (List Int × PUnit) × PUnit) => some (((val.snd.fst.fst, t.snd.fst, [], ()), Int.ofNat 0, ()), ())) x.1
def m_sched_Quiet : ((List Int) × Int × (List (List Int)) × Unit) × Unit → Option ((((List Int) × Int × (List (List Int)) × Unit) × Int × Unit) × Unit) := M_sched_Quiet realC
def M_sched_Disturb (C : Cmb) (x : ((List Int) × Int × (List (List Int)) × Unit) × (Int × Int × (List (Int × (List Int) × Int × Int × Unit)) × Unit) × Int × Int × Unit) : Option ((Bool × Int × Unit) × Unit) := (fun (t : El kT) (c : El cT) (i j : El iT) => (m_sched_opened (t, c, ())).elim none fun (val : (Option ((Int × Int × List (Int × List Int × Int × Int × PUnit) × PUnit) × List Int × Int × List (List Int × Bool) × PUnit) × Int × PUnit) × PUnit) => bif val.fst.snd.fst != Int.ofNat 0 then some ((false, val.fst.snd.fst, ()), ()) else val.fst.fst.elim none fun (val_1 : (Int × Int × List (Int × List Int × Int × Int × PUnit) × PUnit) × List Int × Int × List (List Int × Bool) × PUnit) => (m_sched_plan_has (val_1, [i, j], ())).elim none fun (val_2 : (Bool × PUnit) × PUnit) => bif !val_2.fst.fst then some ((false, Int.ofNat 1, ()), ()) else bif i == j then some ((false, Int.ofNat 5, ()), ()) else val.fst.fst.elim none fun (val : (Int × Int × List (Int × List Int × Int × Int × PUnit) × PUnit) × List Int × Int × List (List Int × Bool) × PUnit) => (m_sched_plan_disturb (val, i, j, ())).elim none fun (val : (Bool × PUnit) × PUnit) => some ((val.fst.fst, Int.ofNat 0, ()), ())) x.1 x.2.1 x.2.2.1 x.2.2.2.1
def m_sched_Disturb : ((List Int) × Int × (List (List Int)) × Unit) × (Int × Int × (List (Int × (List Int) × Int × Int × Unit)) × Unit) × Int × Int × Unit → Option ((Bool × Int × Unit) × Unit) := M_sched_Disturb realC
def M_spoondriftref24_Own (C : Cmb) (x : ((List Int) × Int × (List (List Int)) × Unit) × Unit) : Option ((((List Int) × Int × (List (List Int)) × Unit) × Unit) × Unit) := (fun (t : El kT) => C.grd (true && leN ((0 + t.fst.length) * 8) roomB) (C.grd (true && leN ((0 + t.snd.snd.fst.length) * 16) roomB) (some ((([] ++ t.fst, t.snd.fst, [] ++ t.snd.snd.fst, ()), ()), ())))) x.1
def m_spoondriftref24_Own : ((List Int) × Int × (List (List Int)) × Unit) × Unit → Option ((((List Int) × Int × (List (List Int)) × Unit) × Unit) × Unit) := M_spoondriftref24_Own realC
def M_spoondriftkit_Own (C : Cmb) (x : (Int × Int × (List (Int × (List Int) × Int × Int × Unit)) × Unit) × Unit) : Option (((Int × Int × (List (Int × (List Int) × Int × Int × Unit)) × Unit) × Unit) × Unit) := (fun (c : El cT) => C.loop (fun (x : (Int × PUnit) × (Int × Int × PUnit × PUnit) × (List (Int × List Int × Int × Int × PUnit) × PUnit) × PUnit) (again : (Int × PUnit) × (Int × Int × PUnit × PUnit) × (List (Int × List Int × Int × Int × PUnit) × PUnit) × PUnit → Option (((Int × Int × List (Int × List Int × Int × Int × PUnit) × PUnit) × PUnit) × PUnit)) => bif ltI x.fst.fst (Int.ofNat c.snd.snd.fst.length) then C.grd (inB x.fst.fst c.snd.snd.fst.length) ((m_slices_Clone ((c.snd.snd.fst.getD x.fst.fst.toNat (0, [], 0, 0, ())).snd.fst, ())).elim none fun (val : (PUnit × PUnit) × (List Int × PUnit) × PUnit) => C.grd (true && leN ((x.snd.snd.fst.fst.length + [((c.snd.snd.fst.getD x.fst.fst.toNat (0, [], 0, 0, ())).fst, val.snd.fst.fst, (c.snd.snd.fst.getD x.fst.fst.toNat (0, [], 0, 0, ())).snd.snd.fst, (c.snd.snd.fst.getD x.fst.fst.toNat (0, [], 0, 0, ())).snd.snd.snd.fst, ())].length) * 48) roomB) (again ((IntKind.i64.wrap (x.fst.fst + Int.ofNat 1), ()), (x.snd.fst.fst, x.snd.fst.snd.fst, (), ()), (x.snd.snd.fst.fst ++ [((c.snd.snd.fst.getD x.fst.fst.toNat (0, [], 0, 0, ())).fst, val.snd.fst.fst, (c.snd.snd.fst.getD x.fst.fst.toNat (0, [], 0, 0, ())).snd.snd.fst, (c.snd.snd.fst.getD x.fst.fst.toNat (0, [], 0, 0, ())).snd.snd.snd.fst, ())], ()), ()))) else some (((x.snd.fst.fst, x.snd.fst.snd.fst, x.snd.snd.fst.fst, ()), ()), ())) fuelL ((Int.ofNat 0, ()), (c.fst, c.snd.fst, (), ()), ([], ()), ())) x.1
def m_spoondriftkit_Own : (Int × Int × (List (Int × (List Int) × Int × Int × Unit)) × Unit) × Unit → Option (((Int × Int × (List (Int × (List Int) × Int × Int × Unit)) × Unit) × Unit) × Unit) := M_spoondriftkit_Own realC
def M_spoondriftref24_Quiet (C : Cmb) (x : ((List Int) × Int × (List (List Int)) × Unit) × Unit) : Option ((((List Int) × Int × (List (List Int)) × Unit) × Int × Unit) × Unit) := (fun (t : El kT) => bif Int.ofNat t.fst.length != Int.ofNat 14 then some ((([], Int.ofNat 0, [], ()), Int.ofNat 2, ()), ()) else C.loop (fun (x : (Int × PUnit) × (PUnit × Int × PUnit × PUnit) × PUnit) (again : (Int × PUnit) × (PUnit × Int × PUnit × PUnit) × PUnit → Option (((List Int × Int × List (List Int) × PUnit) × Int × PUnit) × PUnit)) => bif ltI x.fst.fst (Int.ofNat t.fst.length) then C.grd (inB x.fst.fst t.fst.length) (C.join (fun (x_1 : (Bool × PUnit) × PUnit) => bif x_1.fst.fst then some ((([], Int.ofNat 0, [], ()), Int.ofNat 3, ()), ()) else again ((IntKind.i64.wrap (x.fst.fst + Int.ofNat 1), ()), ((), x.snd.fst.snd.fst, (), ()), ())) fun (kont : (Bool × PUnit) × PUnit → Option (((List Int × Int × List (List Int) × PUnit) × Int × PUnit) × PUnit)) => bif ltI (t.fst.getD x.fst.fst.toNat 0) (Int.ofNat 1) then kont ((true, ()), ()) else kont ((bif false then true else gtI (t.fst.getD x.fst.fst.toNat 0) (Int.ofNat 100), ()), ())) else C.join (fun (x : (Bool × PUnit) × PUnit) => bif x.fst.fst then some ((([], Int.ofNat 0, [], ()), Int.ofNat 3, ()), ()) else C.grd (true && leN ((0 + t.fst.length) * 8) roomB) (some ((([] ++ t.fst, t.snd.fst, [], ()), Int.ofNat 0, ()), ()))) fun (kont : (Bool × PUnit) × PUnit → Option (((List Int × Int × List (List Int) × PUnit) × Int × PUnit) × PUnit)) => bif ltI t.snd.fst (Int.ofNat 0) then kont ((true, ()), ()) else kont ((bif false then true else gtI t.snd.fst (Int.ofNat 100), ()), ())) fuelL ((Int.ofNat 0, ()), ((), Int.ofNat 0, (), ()), ())) x.1
def m_spoondriftref24_Quiet : ((List Int) × Int × (List (List Int)) × Unit) × Unit → Option ((((List Int) × Int × (List (List Int)) × Unit) × Int × Unit) × Unit) := M_spoondriftref24_Quiet realC
def M_spoondriftref04_off (C : Cmb) (x : Int × Int × Int × Unit) : Option ((Bool × Unit) × Unit) := (fun (n lo hi : El iT) => C.join (fun (x : (Bool × PUnit) × PUnit) => some ((x.fst.fst, ()), ())) fun (kont : (Bool × PUnit) × PUnit → Option ((Bool × PUnit) × PUnit)) => bif ltI n lo then kont ((true, ()), ()) else kont ((bif false then true else gtI n hi, ()), ())) x.1 x.2.1 x.2.2.1
def m_spoondriftref04_off : Int × Int × Int × Unit → Option ((Bool × Unit) × Unit) := M_spoondriftref04_off realC
def M_spoondriftref04_Arity (C : Cmb) (x : Int × Unit) : Option ((Int × Unit) × Unit) := (fun (kind : El iT) => C.join (fun (x : (Bool × PUnit) × PUnit) => bif x.fst.fst then some ((Int.ofNat 1, ()), ()) else C.join (fun (x : (Bool × PUnit) × PUnit) => bif x.fst.fst then some ((Int.ofNat 2, ()), ()) else bif kind == Int.ofNat 12 then some ((Int.ofNat 3, ()), ()) else some ((Int.ofNat 0, ()), ())) fun (kont : (Bool × PUnit) × PUnit → Option ((Int × PUnit) × PUnit)) => bif geI kind (Int.ofNat 9) then kont ((bif true then leI kind (Int.ofNat 11) else false, ()), ()) else kont ((false, ()), ())) fun (kont : (Bool × PUnit) × PUnit → Option ((Int × PUnit) × PUnit)) => bif geI kind (Int.ofNat 1) then bif bif true then leI kind (Int.ofNat 8) else false then kont ((true, ()), ()) else bif bif false then true else kind == Int.ofNat 13 then kont ((true, ()), ()) else kont ((bif false then true else kind == Int.ofNat 14, ()), ()) else bif bif false then true else kind == Int.ofNat 13 then kont ((true, ()), ()) else kont ((bif false then true else kind == Int.ofNat 14, ()), ())) x.1
def m_spoondriftref04_Arity : Int × Unit → Option ((Int × Unit) × Unit) := M_spoondriftref04_Arity realC
def M_spoondriftref04_Has (C : Cmb) (x : (List Int) × Int × Unit) : Option ((Bool × Unit) × Unit) := (fun (l : El iT.sl) (n : El iT) => C.loop (fun (x : (Int × PUnit) × PUnit) (again : (Int × PUnit) × PUnit → Option ((Bool × PUnit) × PUnit)) => bif ltI x.fst.fst (Int.ofNat (List.length l)) then C.grd (inB x.fst.fst (List.length l)) (bif List.getD l x.fst.fst.toNat 0 == n then some ((true, ()), ()) else again ((IntKind.i64.wrap (x.fst.fst + Int.ofNat 1), ()), ())) else some ((false, ()), ())) fuelL ((Int.ofNat 0, ()), ())) x.1 x.2.1
def m_spoondriftref04_Has : (List Int) × Int × Unit → Option ((Bool × Unit) × Unit) := M_spoondriftref04_Has realC
def M_spoondriftref04_CheckGate (C : Cmb) (x : (Int × (List Int) × Int × Int × Unit) × Int × Int × Unit) : Option ((Int × Unit) × Unit) := (fun (g : El gT) (wires bits : El iT) => (m_spoondriftref04_Arity (g.fst, ())).elim none fun (val : (Int × PUnit) × PUnit) => bif val.fst.fst == Int.ofNat 0 then some ((Int.ofNat 3, ()), ()) else (m_spoondriftref04_Arity (g.fst, ())).elim none fun (val : (Int × PUnit) × PUnit) => bif Int.ofNat g.snd.fst.length != val.fst.fst then some ((Int.ofNat 2, ()), ()) else C.loop (fun (x : (Int × PUnit) × PUnit) (again : (Int × PUnit) × PUnit → Option ((Int × PUnit) × PUnit)) => bif ltI x.fst.fst (Int.ofNat g.snd.fst.length) then C.grd (inB x.fst.fst g.snd.fst.length) ((m_spoondriftref04_off (g.snd.fst.getD x.fst.fst.toNat 0, Int.ofNat 0, IntKind.i64.wrap (wires - Int.ofNat 1), ())).elim none fun (val : (Bool × PUnit) × PUnit) => bif val.fst.fst then some ((Int.ofNat 1, ()), ()) else again ((IntKind.i64.wrap (x.fst.fst + Int.ofNat 1), ()), ())) else C.loop (fun (x : (Int × PUnit) × PUnit) (again : (Int × PUnit) × PUnit → Option ((Int × PUnit) × PUnit)) => bif ltI x.fst.fst (Int.ofNat g.snd.fst.length) then C.grd (leI 0 x.fst.fst && leI x.fst.fst (Int.ofNat g.snd.fst.length)) (C.grd (inB x.fst.fst g.snd.fst.length) ((m_spoondriftref04_Has (List.take x.fst.fst.toNat g.snd.fst, g.snd.fst.getD x.fst.fst.toNat 0, ())).elim none fun (val : (Bool × PUnit) × PUnit) => bif val.fst.fst then some ((Int.ofNat 5, ()), ()) else again ((IntKind.i64.wrap (x.fst.fst + Int.ofNat 1), ()), ()))) else C.join (fun (x : (Bool × PUnit) × PUnit) => bif x.fst.fst then some ((Int.ofNat 1, ()), ()) else C.join (fun (x : (Bool × PUnit) × PUnit) => bif x.fst.fst then some ((Int.ofNat 7, ()), ()) else some ((Int.ofNat 0, ()), ())) fun (kont : (Bool × PUnit) × PUnit → Option ((Int × PUnit) × PUnit)) => bif geI g.fst (Int.ofNat 13) then bif bif true then g.snd.snd.snd.fst != Int.ofNat 0 else false then kont ((true, ()), ()) else bif g.fst != Int.ofNat 13 then kont ((bif false then true else bif true then g.snd.snd.fst != Int.ofNat 0 else false, ()), ()) else kont ((bif false then true else false, ()), ()) else bif g.fst != Int.ofNat 13 then kont ((bif false then true else bif true then g.snd.snd.fst != Int.ofNat 0 else false, ()), ()) else kont ((bif false then true else false, ()), ())) fun (kont : (Bool × PUnit) × PUnit → Option ((Int × PUnit) × PUnit)) => (m_spoondriftref04_off (g.snd.snd.snd.fst, Int.ofNat 0, bits, ())).elim none fun (val : (Bool × PUnit) × PUnit) => bif val.fst.fst then kont ((true, ()), ()) else bif g.fst == Int.ofNat 13 then (m_spoondriftref04_off (g.snd.snd.fst, Int.ofNat 0, IntKind.i64.wrap (bits - Int.ofNat 1), ())).elim none fun (val : (Bool × PUnit) × PUnit) => kont ((bif false then true else bif true then val.fst.fst else false, ()), ()) else kont ((bif false then true else false, ()), ())) fuelL ((Int.ofNat 0, ()), ())) fuelL ((Int.ofNat 0, ()), ())) x.1 x.2.1 x.2.2.1
def m_spoondriftref04_CheckGate : (Int × (List Int) × Int × Int × Unit) × Int × Int × Unit → Option ((Int × Unit) × Unit) := M_spoondriftref04_CheckGate realC
def M_spoondriftref04_Check (C : Cmb) (x : (Int × Int × (List (Int × (List Int) × Int × Int × Unit)) × Unit) × Unit) : Option ((Int × Unit) × Unit) := (fun (c : El cT) => C.join (fun (x : (Bool × PUnit) × PUnit) => bif x.fst.fst then some ((Int.ofNat 3, ()), ()) else bif gtI (Int.ofNat c.snd.snd.fst.length) (Int.ofNat 120) then some ((Int.ofNat 2, ()), ()) else C.loop (fun (x : (Int × PUnit) × PUnit) (again : (Int × PUnit) × PUnit → Option ((Int × PUnit) × PUnit)) => bif ltI x.fst.fst (Int.ofNat c.snd.snd.fst.length) then C.grd (inB x.fst.fst c.snd.snd.fst.length) ((m_spoondriftref04_CheckGate (c.snd.snd.fst.getD x.fst.fst.toNat (0, [], 0, 0, ()), c.fst, c.snd.fst, ())).elim none fun (val : (Int × PUnit) × PUnit) => bif val.fst.fst != Int.ofNat 0 then some ((val.fst.fst, ()), ()) else again ((IntKind.i64.wrap (x.fst.fst + Int.ofNat 1), ()), ())) else some ((Int.ofNat 0, ()), ())) fuelL ((Int.ofNat 0, ()), ())) fun (kont : (Bool × PUnit) × PUnit → Option ((Int × PUnit) × PUnit)) => (m_spoondriftref04_off (c.fst, Int.ofNat 1, Int.ofNat 12, ())).elim none fun (val : (Bool × PUnit) × PUnit) => bif val.fst.fst then kont ((true, ()), ()) else (m_spoondriftref04_off (c.snd.fst, Int.ofNat 0, Int.ofNat 8, ())).elim none fun (val : (Bool × PUnit) × PUnit) => kont ((bif false then true else val.fst.fst, ()), ())) x.1
def m_spoondriftref04_Check : (Int × Int × (List (Int × (List Int) × Int × Int × Unit)) × Unit) × Unit → Option ((Int × Unit) × Unit) := M_spoondriftref04_Check realC
def M_spoondriftref24_Check (C : Cmb) (x : ((List Int) × Int × (List (List Int)) × Unit) × (Int × Int × (List (Int × (List Int) × Int × Int × Unit)) × Unit) × Unit) : Option ((Int × Unit) × Unit) := (fun (t : El kT) (c : El cT) => (m_spoondriftref24_Quiet (t, ())).elim none fun (val : ((List Int × Int × List (List Int) × PUnit) × Int × PUnit) × PUnit) => bif val.fst.snd.fst != Int.ofNat 0 then some ((val.fst.snd.fst, ()), ()) else (m_spoondriftref04_Check (c, ())).elim none fun (val : (Int × PUnit) × PUnit) => bif val.fst.fst != Int.ofNat 0 then some ((val.fst.fst, ()), ()) else C.loop (fun (x : (Int × PUnit) × PUnit) (again : (Int × PUnit) × PUnit → Option ((Int × PUnit) × PUnit)) => bif ltI x.fst.fst (Int.ofNat t.snd.snd.fst.length) then C.grd (inB x.fst.fst t.snd.snd.fst.length) (C.join (fun (x_1 : (Bool × PUnit) × PUnit) => bif x_1.fst.fst then some ((Int.ofNat 1, ()), ()) else C.grd true (C.grd (ltB (Int.ofNat 0).toNat 2) (C.grd true (C.grd (ltB (Int.ofNat 1).toNat 2) (bif (t.snd.snd.fst.getD x.fst.fst.toNat (List.replicate 2 0)).getD (Int.ofNat 0).toNat 0 == (t.snd.snd.fst.getD x.fst.fst.toNat (List.replicate 2 0)).getD (Int.ofNat 1).toNat 0 then some ((Int.ofNat 4, ()), ()) else again ((IntKind.i64.wrap (x.fst.fst + Int.ofNat 1), ()), ())))))) fun (kont : (Bool × PUnit) × PUnit → Option ((Int × PUnit) × PUnit)) => C.grd true (C.grd (ltB (Int.ofNat 0).toNat 2) (bif ltI ((t.snd.snd.fst.getD x.fst.fst.toNat (List.replicate 2 0)).getD (Int.ofNat 0).toNat 0) (Int.ofNat 0) then kont ((true, ()), ()) else C.grd true (C.grd (ltB (Int.ofNat 0).toNat 2) (bif bif false then true else geI ((t.snd.snd.fst.getD x.fst.fst.toNat (List.replicate 2 0)).getD (Int.ofNat 0).toNat 0) c.fst then kont ((true, ()), ()) else C.grd true (C.grd (ltB (Int.ofNat 1).toNat 2) (bif bif false then true else ltI ((t.snd.snd.fst.getD x.fst.fst.toNat (List.replicate 2 0)).getD (Int.ofNat 1).toNat 0) (Int.ofNat 0) then kont ((true, ()), ()) else C.grd true (C.grd (ltB (Int.ofNat 1).toNat 2) (kont ((bif false then true else geI ((t.snd.snd.fst.getD x.fst.fst.toNat (List.replicate 2 0)).getD (Int.ofNat 1).toNat 0) c.fst, ()), ())))))))))) else some ((Int.ofNat 0, ()), ())) fuelL ((Int.ofNat 0, ()), ())) x.1 x.2.1
def m_spoondriftref24_Check : ((List Int) × Int × (List (List Int)) × Unit) × (Int × Int × (List (Int × (List Int) × Int × Int × Unit)) × Unit) × Unit → Option ((Int × Unit) × Unit) := M_spoondriftref24_Check realC
def M_spoondriftref24_long (C : Cmb) (x : ((List Int) × Int × (List (List Int)) × Unit) × (Int × (List Int) × Int × Int × Unit) × Unit) : Option ((Int × Unit) × Unit) := (fun (t : El kT) (g : El gT) => C.grd (inB (IntKind.i64.wrap (g.fst - Int.ofNat 1)) t.fst.length) (some ((t.fst.getD (IntKind.i64.wrap (g.fst - Int.ofNat 1)).toNat 0, ()), ()))) x.1 x.2.1
def m_spoondriftref24_long : ((List Int) × Int × (List (List Int)) × Unit) × (Int × (List Int) × Int × Int × Unit) × Unit → Option ((Int × Unit) × Unit) := M_spoondriftref24_long realC
def M_spoondriftref04_touches (C : Cmb) (x : (Int × (List Int) × Int × Int × Unit) × (Int × (List Int) × Int × Int × Unit) × Unit) : Option ((Bool × Unit) × Unit) := (fun (g h : El gT) => C.join (fun (x : (Bool × PUnit) × PUnit) => bif x.fst.fst then some ((true, ()), ()) else C.join (fun (x : (Bool × PUnit) × PUnit) => some ((x.fst.fst, ()), ())) fun (kont : (Bool × PUnit) × PUnit → Option ((Bool × PUnit) × PUnit)) => bif h.fst == Int.ofNat 13 then kont ((bif true then g.snd.snd.snd.fst == IntKind.i64.wrap (h.snd.snd.fst + Int.ofNat 1) else false, ()), ()) else kont ((false, ()), ())) fun (kont : (Bool × PUnit) × PUnit → Option ((Bool × PUnit) × PUnit)) => bif g.fst == Int.ofNat 13 then bif h.snd.snd.snd.fst == IntKind.i64.wrap (g.snd.snd.fst + Int.ofNat 1) then kont ((bif true then true else false, ()), ()) else bif h.fst == Int.ofNat 13 then kont ((bif true then bif false then true else bif true then h.snd.snd.fst == g.snd.snd.fst else false else false, ()), ()) else kont ((bif true then bif false then true else false else false, ()), ()) else kont ((false, ()), ())) x.1 x.2.1
def m_spoondriftref04_touches : (Int × (List Int) × Int × Int × Unit) × (Int × (List Int) × Int × Int × Unit) × Unit → Option ((Bool × Unit) × Unit) := M_spoondriftref04_touches realC
def M_spoondriftref04_Meet (C : Cmb) (x : (Int × (List Int) × Int × Int × Unit) × (Int × (List Int) × Int × Int × Unit) × Unit) : Option ((Bool × Unit) × Unit) := (fun (g h : El gT) => C.loop (fun (x : (Int × PUnit) × PUnit) (again : (Int × PUnit) × PUnit → Option ((Bool × PUnit) × PUnit)) => bif ltI x.fst.fst (Int.ofNat g.snd.fst.length) then C.grd (inB x.fst.fst g.snd.fst.length) ((m_spoondriftref04_Has (h.snd.fst, g.snd.fst.getD x.fst.fst.toNat 0, ())).elim none fun (val : (Bool × PUnit) × PUnit) => bif val.fst.fst then some ((true, ()), ()) else again ((IntKind.i64.wrap (x.fst.fst + Int.ofNat 1), ()), ())) else (m_spoondriftref04_touches (g, h, ())).elim none fun (val : (Bool × PUnit) × PUnit) => some ((val.fst.fst, ()), ())) fuelL ((Int.ofNat 0, ()), ())) x.1 x.2.1
def m_spoondriftref04_Meet : (Int × (List Int) × Int × Int × Unit) × (Int × (List Int) × Int × Int × Unit) × Unit → Option ((Bool × Unit) × Unit) := M_spoondriftref04_Meet realC
def M_spoondriftref24_after (C : Cmb) (x : ((List Int) × Int × (List (List Int)) × Unit) × (Int × (List Int) × Int × Int × Unit) × (Int × (List Int) × Int × Int × Unit) × Unit) : Option ((Int × Unit) × Unit) := (fun (t : El kT) (g h : El gT) => (m_spoondriftref04_Meet (g, h, ())).elim none fun (val : (Bool × PUnit) × PUnit) => bif !val.fst.fst then some ((Int.negSucc 0, ()), ()) else (m_spoondriftref24_long (t, g, ())).elim none fun (val : (Int × PUnit) × PUnit) => C.join (fun (x : (Bool × PUnit) × PUnit) => C.join (fun (x : (Int × PUnit) × PUnit) => some ((x.fst.fst, ()), ())) fun (kont : (Int × PUnit) × PUnit → Option ((Int × PUnit) × PUnit)) => bif x.fst.fst then kont ((IntKind.i64.wrap (val.fst.fst + t.snd.fst), ()), ()) else kont ((val.fst.fst, ()), ())) fun (kont : (Bool × PUnit) × PUnit → Option ((Int × PUnit) × PUnit)) => bif g.fst == Int.ofNat 13 then kont ((bif true then h.snd.snd.snd.fst == IntKind.i64.wrap (g.snd.snd.fst + Int.ofNat 1) else false, ()), ()) else kont ((false, ()), ())) x.1 x.2.1 x.2.2.1
def m_spoondriftref24_after : ((List Int) × Int × (List (List Int)) × Unit) × (Int × (List Int) × Int × Int × Unit) × (Int × (List Int) × Int × Int × Unit) × Unit → Option ((Int × Unit) × Unit) := M_spoondriftref24_after realC
def M_spoondriftref24_has (C : Cmb) (x : (List Int) × Int × Unit) : Option ((Bool × Unit) × Unit) := (fun (l : El iT.sl) (n : El iT) => C.loop (fun (x : (Int × PUnit) × PUnit) (again : (Int × PUnit) × PUnit → Option ((Bool × PUnit) × PUnit)) => bif ltI x.fst.fst (Int.ofNat (List.length l)) then C.grd (inB x.fst.fst (List.length l)) (bif List.getD l x.fst.fst.toNat 0 == n then some ((true, ()), ()) else again ((IntKind.i64.wrap (x.fst.fst + Int.ofNat 1), ()), ())) else some ((false, ()), ())) fuelL ((Int.ofNat 0, ()), ())) x.1 x.2.1
def m_spoondriftref24_has : (List Int) × Int × Unit → Option ((Bool × Unit) × Unit) := M_spoondriftref24_has realC
def M_spoondriftref24_Same (C : Cmb) (x : ((List Int) × Int × (List (List Int)) × Unit) × ((List Int) × Int × (List (List Int)) × Unit) × Unit) : Option ((Bool × Unit) × Unit) := (fun (a b : El kT) => C.join (fun (x : (Bool × PUnit) × PUnit) => bif x.fst.fst then some ((false, ()), ()) else C.loop (fun (x : (Int × PUnit) × PUnit) (again : (Int × PUnit) × PUnit → Option ((Bool × PUnit) × PUnit)) => bif ltI x.fst.fst (Int.ofNat a.fst.length) then C.grd (inB x.fst.fst a.fst.length) (C.grd (inB x.fst.fst b.fst.length) (bif a.fst.getD x.fst.fst.toNat 0 != b.fst.getD x.fst.fst.toNat 0 then some ((false, ()), ()) else again ((IntKind.i64.wrap (x.fst.fst + Int.ofNat 1), ()), ()))) else C.loop (fun (x : (Int × PUnit) × PUnit) (again : (Int × PUnit) × PUnit → Option ((Bool × PUnit) × PUnit)) => bif ltI x.fst.fst (Int.ofNat a.snd.snd.fst.length) then C.grd (inB x.fst.fst a.snd.snd.fst.length) (C.grd (inB x.fst.fst b.snd.snd.fst.length) (bif true != ((a.snd.snd.fst.getD x.fst.fst.toNat (List.replicate 2 0)).getD 0 0 == (b.snd.snd.fst.getD x.fst.fst.toNat (List.replicate 2 0)).getD 0 0 && ((a.snd.snd.fst.getD x.fst.fst.toNat (List.replicate 2 0)).getD 1 0 == (b.snd.snd.fst.getD x.fst.fst.toNat (List.replicate 2 0)).getD 1 0 && true)) then some ((false, ()), ()) else again ((IntKind.i64.wrap (x.fst.fst + Int.ofNat 1), ()), ()))) else some ((true, ()), ())) fuelL ((Int.ofNat 0, ()), ())) fuelL ((Int.ofNat 0, ()), ())) fun (kont : (Bool × PUnit) × PUnit → Option ((Bool × PUnit) × PUnit)) => bif a.snd.fst != b.snd.fst then kont ((true, ()), ()) else bif bif false then true else Int.ofNat a.fst.length != Int.ofNat b.fst.length then kont ((true, ()), ()) else kont ((bif false then true else Int.ofNat a.snd.snd.fst.length != Int.ofNat b.snd.snd.fst.length, ()), ())) x.1 x.2.1
def m_spoondriftref24_Same : ((List Int) × Int × (List (List Int)) × Unit) × ((List Int) × Int × (List (List Int)) × Unit) × Unit → Option ((Bool × Unit) × Unit) := M_spoondriftref24_Same realC
def M_spoondriftkit_SameGate (C : Cmb) (x : (Int × (List Int) × Int × Int × Unit) × (Int × (List Int) × Int × Int × Unit) × Unit) : Option ((Bool × Unit) × Unit) := (fun (g h : El gT) => C.join (fun (x : (Bool × PUnit) × PUnit) => some ((x.fst.fst, ()), ())) fun (kont : (Bool × PUnit) × PUnit → Option ((Bool × PUnit) × PUnit)) => bif g.fst == h.fst then bif bif true then g.snd.snd.fst == h.snd.snd.fst else false then bif bif true then g.snd.snd.snd.fst == h.snd.snd.snd.fst else false then (m_slices_Equal (g.snd.fst, h.snd.fst, ())).elim none fun (val : (Bool × PUnit) × PUnit) => kont ((bif true then val.fst.fst else false, ()), ()) else kont ((false, ()), ()) else kont ((false, ()), ()) else kont ((false, ()), ())) x.1 x.2.1
def m_spoondriftkit_SameGate : (Int × (List Int) × Int × Int × Unit) × (Int × (List Int) × Int × Int × Unit) × Unit → Option ((Bool × Unit) × Unit) := M_spoondriftkit_SameGate realC
def M_spoondriftkit_Same (C : Cmb) (x : (Int × Int × (List (Int × (List Int) × Int × Int × Unit)) × Unit) × (Int × Int × (List (Int × (List Int) × Int × Int × Unit)) × Unit) × Unit) : Option ((Bool × Unit) × Unit) := (fun (c d : El cT) => C.join (fun (x : (Bool × PUnit) × PUnit) => some ((x.fst.fst, ()), ())) fun (kont : (Bool × PUnit) × PUnit → Option ((Bool × PUnit) × PUnit)) => bif c.fst == d.fst then bif bif true then c.snd.fst == d.snd.fst else false then bif Int.ofNat c.snd.snd.fst.length != Int.ofNat d.snd.snd.fst.length then kont ((bif true then false else false, ()), ()) else C.loop (fun (x : (Int × PUnit) × PUnit) (again : (Int × PUnit) × PUnit → Option ((Bool × PUnit) × PUnit)) => bif ltI x.fst.fst (Int.ofNat c.snd.snd.fst.length) then C.grd (inB x.fst.fst c.snd.snd.fst.length) (C.grd (inB x.fst.fst d.snd.snd.fst.length) ((m_spoondriftkit_SameGate (c.snd.snd.fst.getD x.fst.fst.toNat (0, [], 0, 0, ()), d.snd.snd.fst.getD x.fst.fst.toNat (0, [], 0, 0, ()), ())).elim none fun (val : (Bool × PUnit) × PUnit) => bif !val.fst.fst then kont ((bif true then false else false, ()), ()) else again ((IntKind.i64.wrap (x.fst.fst + Int.ofNat 1), ()), ()))) else kont ((bif true then true else false, ()), ())) fuelL ((Int.ofNat 0, ()), ()) else kont ((false, ()), ()) else kont ((false, ()), ())) x.1 x.2.1
def m_spoondriftkit_Same : (Int × Int × (List (Int × (List Int) × Int × Int × Unit)) × Unit) × (Int × Int × (List (Int × (List Int) × Int × Int × Unit)) × Unit) × Unit → Option ((Bool × Unit) × Unit) := M_spoondriftkit_Same realC
end
end Go.Canon
namespace Go.Canon
set_option linter.unusedVariables false
set_option linter.unusedSimpArgs false
open Go
variable {α σ β : Type} {C : Cmb} [OC : CmbOk C]
instance : CmbOk realC := ⟨rfl⟩
theorem grd_real {c : Bool} {x : Option α} : @Cmb.grd C α c x = bif c then x else none := by
  have := OC.eq; subst this; rfl
theorem join_real {k : σ → Option α} {b : (σ → Option α) → Option α} : @Cmb.join C σ α k b = b k := by
  have := OC.eq; subst this; rfl
theorem loop_succ {body : σ → (σ → Option α) → Option α} {n : Nat} {x : σ} : @Cmb.loop C σ α body (n + 1) x = body x (@Cmb.loop C σ α body n) := by
  have := OC.eq; subst this; rfl
/-- A loop that goes on m times and then ends. -/
theorem loop_run {body : σ → (σ → Option α) → Option α} {r : Option α} (st : Nat → σ) : ∀ (m n : Nat), m < n → (∀ i, i < m → ∀ again, body (st i) again = again (st (i + 1))) → (∀ again, body (st m) again = r) → @Cmb.loop C σ α body n (st 0) = r
  | m, 0, h, _, _ => by omega
  | 0, n + 1, _, _, h2 => by rw [loop_succ]; exact h2 _
  | m + 1, n + 1, h, h1, h2 => by
    rw [loop_succ, h1 0 (by omega)]
    exact loop_run (fun i => st (i + 1)) m n (by omega) (fun i hi => h1 (i + 1) (by omega)) h2
theorem fuel_big {m : Nat} (h : m < 4294967296) : m < fuelL := h
/-- The same, with as many rounds as are left. -/
theorem loop_meas {body : σ → (σ → Option α) → Option α} {r : Option α} (I : σ → Prop) (μ : σ → Nat) (step : ∀ x, I x → (∀ again, body x again = r) ∨ ∃ y, I y ∧ μ y < μ x ∧ ∀ again, body x again = again y) : ∀ (n : Nat) (x : σ), I x → μ x < n → @Cmb.loop C σ α body n x = r
  | 0, x, _, h => by omega
  | n + 1, x, hi, h => by
    rw [loop_succ]
    rcases step x hi with e | ⟨y, h1, h2, e⟩
    · exact e _
    · rw [e]; exact loop_meas I μ step n y h1 (by omega)
/-- The same, with what is handed back told by a property. -/
theorem loop_ex {body : σ → (σ → Option α) → Option α} (I : σ → Prop) (μ : σ → Nat) (P : σ → α → Prop) (step : ∀ x, I x → (∃ r, P x r ∧ ∀ again, body x again = some r) ∨ ∃ y, I y ∧ μ y < μ x ∧ (∀ r, P y r → P x r) ∧ ∀ again, body x again = again y) :
    ∀ (n : Nat) (x : σ), I x → μ x < n → ∃ r, P x r ∧ @Cmb.loop C σ α body n x = some r
  | 0, x, _, h => by omega
  | n + 1, x, hi, h => by
    rw [loop_succ]
    rcases step x hi with ⟨r, h1, e⟩ | ⟨y, h1, h2, h3, e⟩
    · exact ⟨r, h1, e _⟩
    · obtain ⟨r, h4, h5⟩ := loop_ex I μ P step n y h1 (by omega)
      exact ⟨r, h3 r h4, by rw [e]; exact h5⟩
/-- A loop over a list that looks for something. -/
theorem loop_find {l : List β} {p : β → Bool} {body : σ → (σ → Option α) → Option α} {R : Nat → Option α} {E : Option α} (st : Nat → σ) {n : Nat} (hn : l.length < n)
    (h1 : ∀ k (hk : k < l.length), p l[k] = false → ∀ again, body (st k) again = again (st (k + 1))) (h2 : ∀ k (hk : k < l.length), p l[k] = true → ∀ again, body (st k) again = R k) (h3 : ∀ again, body (st l.length) again = E) :
    @Cmb.loop C σ α body n (st 0) = if l.findIdx p < l.length then R (l.findIdx p) else E := by
  have hle : l.findIdx p ≤ l.length := List.findIdx_le_length
  refine loop_run st (l.findIdx p) n (by omega) (fun i hi again => h1 i (by omega) (by simpa using List.not_of_lt_findIdx hi) again) fun again => ?_
  split
  · rename_i hh; exact h2 _ hh (List.findIdx_getElem (w := hh)) again
  · rename_i hh
    have : l.findIdx p = l.length := by omega
    rw [this]; exact h3 again
/-- The same, both ways at once. -/
theorem loop_find2 {l : List β} {p : β → Bool} {body : σ → (σ → Option α) → Option α} {R : Nat → Option α} {E : Option α} (st : Nat → σ) {n : Nat} (hn : l.length < n)
    (h : ∀ k (hk : k < l.length) again, body (st k) again = bif p l[k] then R k else again (st (k + 1))) (h3 : ∀ again, body (st l.length) again = E) :
    @Cmb.loop C σ α body n (st 0) = if l.findIdx p < l.length then R (l.findIdx p) else E :=
  loop_find st hn (fun k hk e again => by rw [h k hk, e]; rfl) (fun k hk e again => by rw [h k hk, e]; rfl) h3
theorem find_any {l : List β} {p : β → Bool} : (l.findIdx p < l.length) ↔ l.any p = true := by
  rw [List.findIdx_lt_length]
  simp [List.any_eq_true]
/-- The same, where it does not matter which one was found. -/
theorem loop_any {l : List β} {p : β → Bool} {body : σ → (σ → Option α) → Option α} {R E : Option α} (st : Nat → σ) {n : Nat} (hn : l.length < n)
    (h1 : ∀ k (hk : k < l.length), p l[k] = false → ∀ again, body (st k) again = again (st (k + 1))) (h2 : ∀ k (hk : k < l.length), p l[k] = true → ∀ again, body (st k) again = R) (h3 : ∀ again, body (st l.length) again = E) :
    @Cmb.loop C σ α body n (st 0) = bif l.any p then R else E := by
  rw [loop_find (R := fun _ => R) (E := E) st hn h1 h2 h3]
  by_cases h : l.findIdx p < l.length
  · rw [if_pos h, find_any.1 h]; rfl
  · rw [if_neg h]
    have : l.any p = false := by
      cases hh : l.any p with
      | false => rfl
      | true => exact (h (find_any.2 hh)).elim
    rw [this]; rfl
theorem loop_any2 {l : List β} {p : β → Bool} {body : σ → (σ → Option α) → Option α} {R E : Option α} (st : Nat → σ) {n : Nat} (hn : l.length < n)
    (h : ∀ k (hk : k < l.length) again, body (st k) again = bif p l[k] then R else again (st (k + 1))) (h3 : ∀ again, body (st l.length) again = E) :
    @Cmb.loop C σ α body n (st 0) = bif l.any p then R else E :=
  loop_any st hn (fun k hk e again => by rw [h k hk, e]; rfl) (fun k hk e again => by rw [h k hk, e]; rfl) h3
/-- A loop over a list that gathers. -/
theorem loop_fold {γ : Type} {l : List β} {f : γ → β → γ} {body : σ → (σ → Option α) → Option α} {E : γ → Option α} (st : Nat → γ → σ) {c : γ} {n : Nat} (hn : l.length < n)
    (h1 : ∀ k (hk : k < l.length), ∀ again, body (st k ((l.take k).foldl f c)) again = again (st (k + 1) (f ((l.take k).foldl f c) l[k]))) (h3 : ∀ again, body (st l.length (l.foldl f c)) again = E (l.foldl f c)) :
    @Cmb.loop C σ α body n (st 0 c) = E (l.foldl f c) := by
  refine loop_run (fun k => st k ((l.take k).foldl f c)) l.length n hn (fun i hi again => ?_) fun again => ?_
  · show body (st i ((l.take i).foldl f c)) again = again (st (i + 1) ((l.take (i + 1)).foldl f c))
    rw [h1 i hi, List.take_add_one, List.getElem?_eq_getElem hi, List.foldl_append]
    rfl
  · simp only [List.take_length]; exact h3 again
theorem wrap_in {a : Int} (h1 : -9223372036854775808 ≤ a) (h2 : a ≤ 9223372036854775807) : IntKind.wrap .i64 a = a := by
  simp only [IntKind.wrap, IntKind.signed, IntKind.bits, if_true]
  simp only [show (2 : Int) ^ (64 - 1) = 9223372036854775808 from rfl, show (2 : Int) ^ 64 = 18446744073709551616 from rfl, Bool.true_and, decide_eq_true_eq]
  split <;> omega
theorem inB_in {n k : Nat} (h : k < n) : inB (Int.ofNat k) n = true := by simp [inB, h]
theorem inB_cast {n k : Nat} : inB (k : Int) n = decide (k < n) := by simp [inB]
theorem inB_z {n : Nat} {z : Int} (h1 : 0 ≤ z) (h2 : z < n) : inB z n = true := by simp [inB, h1, h2]
theorem wrap_nat {k : Nat} (h : k < 4294967296) : IntKind.wrap .i64 ((k : Int) + ((1 : Nat) : Int)) = ((k + 1 : Nat) : Int) := by
  rw [wrap_in (by omega) (by omega)]; rfl
theorem getD_in {l : List β} {k : Nat} {d : β} (h : k < l.length) : l.getD k d = l[k] := by
  rw [List.getD_eq_getElem?_getD, List.getElem?_eq_getElem h]; rfl
end Go.Canon
namespace Go.Canon
set_option linter.unusedVariables false
set_option linter.unusedSimpArgs false
open Go
abbrev b1 (b : Bool) : (Bool × Unit) × Unit := ((b, ()), ())
abbrev i1 (z : Int) : (Int × Unit) × Unit := ((z, ()), ())
/-- The state of a search: how far it is. -/
abbrev st1 (k : Nat) : (Int × Unit) × Unit := (((k : Int), ()), ())
theorem ofNat_c (n : Nat) : Int.ofNat n = (n : Int) := rfl
theorem cast0 : ((0 : Nat) : Int) = 0 := rfl
theorem cond_tf {b : Bool} : (bif b then true else false) = b := by cases b <;> rfl
theorem lt_cast {a b : Nat} : ltI (a : Int) (b : Int) = decide (a < b) := by simp [ltI]
theorem beq_dec {a b : Int} : (a == b) = decide (a = b) := by
  by_cases h : a = b <;> simp [h]
theorem any_eq {l : List Int} {n : Int} : (bif l.any (fun x => n == x) then some (b1 true) else some (b1 false)) = some (b1 (l.contains n)) := by
  rw [List.contains_eq_any_beq]
  cases h : l.any (fun x => n == x) <;> rfl
theorem has24_eq {l : List Int} {n : Int} (hl : l.length < 4294967296) : m_spoondriftref24_has (l, n, ()) = some (b1 (l.contains n)) := by
  have key : ∀ (C : Cmb) [CmbOk C], M_spoondriftref24_has C (l, n, ()) = some (b1 (l.contains n)) := by
    intro C _
    unfold M_spoondriftref24_has
    dsimp only
    refine (loop_any (l := l) (p := fun x => n == x) (R := some (b1 true)) (E := some (b1 false)) (n := fuelL) st1 (fuel_big hl) (fun k hk h again => ?_) (fun k hk h again => ?_) fun again => ?_).trans any_eq
    · simp only [ofNat_c, lt_cast, decide_true, decide_false, cond_true, cond_false, inB_cast, grd_real, join_real, Int.toNat_natCast, Option.elim_some, Bool.true_and, Bool.false_or, Bool.or_true, Bool.and_true, Bool.or_false, cond_tf, hk, getD_in hk, BEq.comm (a := l[k]), h, wrap_nat (show k < 4294967296 by omega)]
    · simp only [ofNat_c, lt_cast, decide_true, decide_false, cond_true, cond_false, inB_cast, grd_real, join_real, Int.toNat_natCast, Option.elim_some, Bool.true_and, Bool.false_or, Bool.or_true, Bool.and_true, Bool.or_false, cond_tf, hk, getD_in hk, BEq.comm (a := l[k]), h]
    · simp only [ofNat_c, lt_cast, decide_true, decide_false, cond_true, cond_false, inB_cast, grd_real, join_real, Int.toNat_natCast, Option.elim_some, Bool.true_and, Bool.false_or, Bool.or_true, Bool.and_true, Bool.or_false, cond_tf, Nat.lt_irrefl]
  exact key realC
theorem has04_eq {l : List Int} {n : Int} (hl : l.length < 4294967296) : m_spoondriftref04_Has (l, n, ()) = some (b1 (l.contains n)) := has24_eq hl
theorem index_eq {l : List Int} {n : Int} (hl : l.length < 4294967296) : m_slices_Index (l, n, ()) = some (i1 (if l.findIdx (fun x => n == x) < l.length then (l.findIdx (fun x => n == x) : Nat) else -1)) := by
  have key : ∀ (C : Cmb) [CmbOk C], M_slices_Index C (l, n, ()) = some (i1 (if l.findIdx (fun x => n == x) < l.length then (l.findIdx (fun x => n == x) : Nat) else -1)) := by
    intro C _
    unfold M_slices_Index
    dsimp only
    refine (loop_find (l := l) (p := fun x => n == x) (R := fun k => some (i1 k)) (E := some (i1 (-1))) (n := fuelL) st1 (fuel_big hl) (fun k hk h again => ?_) (fun k hk h again => ?_) fun again => ?_).trans ?_
    · simp only [ofNat_c, lt_cast, decide_true, decide_false, cond_true, cond_false, inB_cast, grd_real, join_real, Int.toNat_natCast, Option.elim_some, Bool.true_and, Bool.false_or, Bool.or_true, Bool.and_true, Bool.or_false, cond_tf, hk, getD_in hk, h, wrap_nat (show k < 4294967296 by omega)]
    · simp only [ofNat_c, lt_cast, decide_true, decide_false, cond_true, cond_false, inB_cast, grd_real, join_real, Int.toNat_natCast, Option.elim_some, Bool.true_and, Bool.false_or, Bool.or_true, Bool.and_true, Bool.or_false, cond_tf, hk, getD_in hk, h]
    · simp only [ofNat_c, lt_cast, decide_true, decide_false, cond_true, cond_false, inB_cast, grd_real, join_real, Int.toNat_natCast, Option.elim_some, Bool.true_and, Bool.false_or, Bool.or_true, Bool.and_true, Bool.or_false, cond_tf, Nat.lt_irrefl]; rfl
    · split <;> rfl
  exact key realC
theorem contains_eq {l : List Int} {n : Int} (hl : l.length < 4294967296) : m_slices_Contains (l, n, ()) = some (b1 (l.contains n)) := by
  show (m_slices_Index (l, n, ())).elim none _ = _
  rw [index_eq hl, ← any_eq]
  by_cases h : l.findIdx (fun x => n == x) < l.length
  · rw [if_pos h, find_any.1 h]
    show some (b1 (decide (((l.findIdx (fun x => n == x) : Nat) : Int) ≥ 0))) = some (b1 true)
    simp
  · rw [if_neg h]
    have : l.any (fun x => n == x) = false := by
      cases hh : l.any (fun x => n == x) with
      | false => rfl
      | true => exact (h (find_any.2 hh)).elim
    rw [this]; rfl
/-- How many wires a kind of gates has. -/
def arS (k : Int) : Int := if k = 12 then 3 else if 9 ≤ k ∧ k ≤ 11 then 2 else if 1 ≤ k ∧ k ≤ 14 then 1 else 0
theorem circ_ar {k : Int} : m_circ_Arity (k, ()) = some (i1 (arS k)) := by
  have key : ∀ (C : Cmb) [CmbOk C], M_circ_Arity C (k, ()) = some (i1 (arS k)) := by
    intro C _
    unfold M_circ_Arity arS
    simp only [ofNat_c, lt_cast, decide_true, decide_false, cond_true, cond_false, inB_cast, grd_real, join_real, Int.toNat_natCast, Option.elim_some, Bool.true_and, Bool.false_or, Bool.or_true, Bool.and_true, Bool.or_false, cond_tf, beq_dec, ltI, leI, gtI, geI]
    by_cases h1 : k = 12
    · subst h1; rfl
    · by_cases h2 : 9 ≤ k <;> by_cases h3 : k ≤ 11 <;> by_cases h4 : 1 ≤ k <;> by_cases h5 : k ≤ 14 <;> simp [h1, h2, h3, h4, h5] <;> first | rfl | omega
  exact key realC
theorem ref_ar {k : Int} : m_spoondriftref04_Arity (k, ()) = some (i1 (arS k)) := by
  have key : ∀ (C : Cmb) [CmbOk C], M_spoondriftref04_Arity C (k, ()) = some (i1 (arS k)) := by
    intro C _
    unfold M_spoondriftref04_Arity arS
    simp only [ofNat_c, lt_cast, decide_true, decide_false, cond_true, cond_false, inB_cast, grd_real, join_real, Int.toNat_natCast, Option.elim_some, Bool.true_and, Bool.false_or, Bool.or_true, Bool.and_true, Bool.or_false, cond_tf, beq_dec, ltI, leI, gtI, geI]
    by_cases h1 : k = 12
    · subst h1; rfl
    · by_cases h13 : k = 13
      · subst h13; rfl
      · by_cases h14 : k = 14
        · subst h14; rfl
        · by_cases h2 : 9 ≤ k <;> by_cases h3 : k ≤ 11 <;> by_cases h4 : 1 ≤ k <;> by_cases h5 : k ≤ 14 <;> by_cases h6 : k ≤ 8 <;> simp [h1, h2, h3, h4, h5, h6, h13, h14] <;> first | rfl | omega
  exact key realC
theorem off_eq {n lo hi : Int} : m_spoondriftref04_off (n, lo, hi, ()) = some (b1 (decide (n < lo) || decide (n > hi))) := by
  have key : ∀ (C : Cmb) [CmbOk C], M_spoondriftref04_off C (n, lo, hi, ()) = some (b1 (decide (n < lo) || decide (n > hi))) := by
    intro C _
    unfold M_spoondriftref04_off
    simp only [ofNat_c, lt_cast, decide_true, decide_false, cond_true, cond_false, inB_cast, grd_real, join_real, Int.toNat_natCast, Option.elim_some, Bool.true_and, Bool.false_or, Bool.or_true, Bool.and_true, Bool.or_false, cond_tf, ltI, gtI]
    cases decide (n < lo) <;> rfl
  exact key realC
/-- A measurement writes a bit that another gate reads or writes. -/
def touchB (g h : El gT) : Bool := (g.1 == 13 && (h.2.2.2.1 == IntKind.i64.wrap (g.2.2.1 + 1) || (h.1 == 13 && h.2.2.1 == g.2.2.1))) || (h.1 == 13 && g.2.2.2.1 == IntKind.i64.wrap (h.2.2.1 + 1))
/-- Do two gates meet? -/
def meetB (g h : El gT) : Bool := g.2.1.any (fun w => h.2.1.contains w) || touchB g h
theorem touches_eq {g h : El gT} : m_spoondriftref04_touches (g, h, ()) = some (b1 (touchB g h)) := by
  have key : ∀ (C : Cmb) [CmbOk C], M_spoondriftref04_touches C (g, h, ()) = some (b1 (touchB g h)) := by
    intro C _
    unfold M_spoondriftref04_touches touchB
    simp only [ofNat_c, lt_cast, decide_true, decide_false, cond_true, cond_false, inB_cast, grd_real, join_real, Int.toNat_natCast, Option.elim_some, Bool.true_and, Bool.false_or, Bool.or_true, Bool.and_true, Bool.or_false, cond_tf]
    have e1 : (Int.ofNat 1 : Int) = 1 := rfl
    have e13 : (Int.ofNat 13 : Int) = 13 := rfl
    simp only [← ofNat_c, e1, e13]
    cases g.1 == 13 <;> cases h.1 == 13 <;> cases h.2.2.2.1 == IntKind.i64.wrap (g.2.2.1 + 1) <;> cases h.2.2.1 == g.2.2.1 <;> cases g.2.2.2.1 == IntKind.i64.wrap (h.2.2.1 + 1) <;> rfl
  exact key realC
theorem meet04_eq {g h : El gT} (hg : g.2.1.length < 4294967296) (hh : h.2.1.length < 4294967296) : m_spoondriftref04_Meet (g, h, ()) = some (b1 (meetB g h)) := by
  have key : ∀ (C : Cmb) [CmbOk C], M_spoondriftref04_Meet C (g, h, ()) = some (b1 (meetB g h)) := by
    intro C _
    unfold M_spoondriftref04_Meet meetB
    dsimp only
    refine (loop_any (l := g.2.1) (p := fun w => h.2.1.contains w) (R := some (b1 true)) (E := some (b1 (touchB g h))) (n := fuelL) st1 (fuel_big hg) (fun k hk e again => ?_) (fun k hk e again => ?_) fun again => ?_).trans ?_
    · simp only [ofNat_c, lt_cast, decide_true, decide_false, cond_true, cond_false, inB_cast, grd_real, join_real, Int.toNat_natCast, Option.elim_some, Bool.true_and, Bool.false_or, Bool.or_true, Bool.and_true, Bool.or_false, cond_tf, hk, getD_in hk, has04_eq hh, e, wrap_nat (show k < 4294967296 by omega)]
    · simp only [ofNat_c, lt_cast, decide_true, decide_false, cond_true, cond_false, inB_cast, grd_real, join_real, Int.toNat_natCast, Option.elim_some, Bool.true_and, Bool.false_or, Bool.or_true, Bool.and_true, Bool.or_false, cond_tf, hk, getD_in hk, has04_eq hh, e]
    · simp only [ofNat_c, lt_cast, decide_true, decide_false, cond_true, cond_false, inB_cast, grd_real, join_real, Int.toNat_natCast, Option.elim_some, Bool.true_and, Bool.false_or, Bool.or_true, Bool.and_true, Bool.or_false, cond_tf, Nat.lt_irrefl, touches_eq]
    · cases g.2.1.any (fun w => h.2.1.contains w) <;> rfl
  exact key realC
end Go.Canon
namespace Go.Canon
set_option linter.unusedVariables false
set_option linter.unusedSimpArgs false
open Go
abbrev Gate := Int × List Int × Int × Int × Unit
abbrev Circ := Int × Int × List Gate × Unit
theorem common_eq {a b : List Int} (ha : a.length < 4294967296) (hb : b.length < 4294967296) : m_sched_common (a, b, ()) = some (b1 (a.any fun w => b.contains w)) := by
  have key : ∀ (C : Cmb) [CmbOk C], M_sched_common C (a, b, ()) = some (b1 (a.any fun w => b.contains w)) := by
    intro C _
    unfold M_sched_common
    simp only [join_real]
    refine (loop_any (l := a) (p := fun w => b.contains w) (R := some (b1 true)) (E := some (b1 false)) (n := fuelL) st1 (fuel_big ha) (fun k hk e again => ?_) (fun k hk e again => ?_) fun again => ?_).trans ?_
    · simp only [cast0, ofNat_c, lt_cast, decide_true, decide_false, cond_true, cond_false, inB_cast, grd_real, join_real, Int.toNat_natCast, Option.elim_some, Bool.true_and, Bool.false_or, Bool.or_true, Bool.and_true, Bool.or_false, cond_tf, hk, getD_in hk, contains_eq hb, e, wrap_nat (show k < 4294967296 by omega)]
    · simp only [cast0, ofNat_c, lt_cast, decide_true, decide_false, cond_true, cond_false, inB_cast, grd_real, join_real, Int.toNat_natCast, Option.elim_some, Bool.true_and, Bool.false_or, Bool.or_true, Bool.and_true, Bool.or_false, cond_tf, hk, getD_in hk, contains_eq hb, e]
      simp [geI]
    · simp only [cast0, ofNat_c, lt_cast, decide_true, decide_false, cond_true, cond_false, inB_cast, grd_real, join_real, Int.toNat_natCast, Option.elim_some, Bool.true_and, Bool.false_or, Bool.or_true, Bool.and_true, Bool.or_false, cond_tf, Nat.lt_irrefl]; rfl
    · cases a.any fun w => b.contains w <;> rfl
  exact key realC
theorem writes_eq {g : Gate} {n : Int} : m_sched_writes (g, n, ()) = some (b1 (g.1 == 13 && g.2.2.1 == n)) := by
  have key : ∀ (C : Cmb) [CmbOk C], M_sched_writes C (g, n, ()) = some (b1 (g.1 == 13 && g.2.2.1 == n)) := by
    intro C _
    unfold M_sched_writes
    simp only [join_real]
    have e13 : (Int.ofNat 13 : Int) = 13 := rfl
    rw [e13]
    cases g.1 == 13 <;> rfl
  exact key realC
theorem reads_eq {g : Gate} {n : Int} : m_sched_reads (g, n, ()) = some (b1 (g.2.2.2.1 == IntKind.i64.wrap (n + 1))) := rfl
theorem meet_eq {g h : Gate} (hg : g.2.1.length < 4294967296) (hh : h.2.1.length < 4294967296) : m_sched_meet (g, h, ()) = some (b1 (meetB g h)) := by
  have key : ∀ (C : Cmb) [CmbOk C], M_sched_meet C (g, h, ()) = some (b1 (meetB g h)) := by
    intro C _
    unfold M_sched_meet meetB touchB
    simp only [join_real, common_eq hg hh, writes_eq, reads_eq, Option.elim_some]
    have e13 : (Int.ofNat 13 : Int) = 13 := rfl
    rw [e13]
    cases g.2.1.any fun w => h.2.1.contains w <;> cases g.1 == 13 <;> cases h.1 == 13 <;> cases h.2.2.2.1 == IntKind.i64.wrap (g.2.2.1 + 1) <;> cases h.2.2.1 == g.2.2.1 <;> cases g.2.2.2.1 == IntKind.i64.wrap (h.2.2.1 + 1) <;> rfl
  exact key realC
def dupB (l : List Int) : Bool := (List.range l.length).any fun i => (l.take i).contains (l.getD i 0)
def lateB (g : Gate) (b : Int) : Bool := decide (g.2.2.2.1 < 0) || decide (g.2.2.2.1 > b) || (g.1 == 13 && (decide (g.2.2.1 < 0) || decide (g.2.2.1 ≥ b)))
def formB (g : Gate) : Bool := (decide (g.1 ≥ 13) && g.2.2.2.1 != 0) || (g.1 != 13 && g.2.2.1 != 0)
def ckG (g : Gate) (w b : Int) : Int :=
  if arS g.1 = 0 then 3 else if (g.2.1.length : Int) ≠ arS g.1 then 2 else bif g.2.1.any (fun x => decide (x < 0) || decide (x ≥ w)) then 1 else
  bif dupB g.2.1 then 5 else bif lateB g b then 1 else bif formB g then 7 else 0
theorem getD_range {n k : Nat} (h : k < (List.range n).length) : (List.range n)[k] = k := by simp
theorem gt_pred {x w : Int} : decide (x > w - ((1 : Nat) : Int)) = decide (x ≥ w) := by
  by_cases h : x ≥ w
  · rw [decide_eq_true h, decide_eq_true (by omega)]
  · rw [decide_eq_false h, decide_eq_false (by omega)]
theorem le_cast {a b : Nat} : leI (a : Int) (b : Int) = decide (a ≤ b) := by simp [leI]
theorem nn_cast {a : Nat} : leI 0 (a : Int) = true := by simp [leI]
theorem checkGate_eq {g : Gate} {w b : Int} (hg : g.2.1.length < 4294967296) (hw : -1000 ≤ w ∧ w ≤ 1000) (hb : -1000 ≤ b ∧ b ≤ 1000) : m_spoondriftref04_CheckGate (g, w, b, ()) = some (i1 (ckG g w b)) := by
  have key : ∀ (C : Cmb) [CmbOk C], M_spoondriftref04_CheckGate C (g, w, b, ()) = some (i1 (ckG g w b)) := by
    intro C _
    unfold M_spoondriftref04_CheckGate ckG
    simp only [ref_ar, Option.elim_some, beq_dec, off_eq, join_real]
    have e0 : (Int.ofNat 0 : Int) = 0 := rfl
    have e1 : (Int.ofNat 1 : Int) = 1 := rfl
    by_cases h0 : arS g.1 = 0
    · simp [h0, e0]
    by_cases h1 : ¬ (g.2.1.length : Int) = arS g.1
    · rw [if_neg h0, if_pos h1]
      simp [h0, h1, e0, bne, beq_dec]
    have h1 : (g.2.1.length : Int) = arS g.1 := by simpa using h1
    rw [wrap_in (a := w - Int.ofNat 1) (by rw [e1]; omega) (by rw [e1]; omega), wrap_in (a := b - Int.ofNat 1) (by rw [e1]; omega) (by rw [e1]; omega)]
    have hz : decide (arS g.1 = Int.ofNat 0) = false := decide_eq_false h0
    have hn : (Int.ofNat g.2.1.length != arS g.1) = false := by rw [ofNat_c, h1]; simp
    rw [if_neg h0, if_neg (by simpa using h1), hz, hn, cond_false, cond_false]
    refine (loop_any (l := g.2.1) (p := fun x => decide (x < 0) || decide (x ≥ w)) (R := some (i1 1)) (E := some (i1 (bif dupB g.2.1 then 5 else bif lateB g b then 1 else bif formB g then 7 else 0))) (n := fuelL) st1 (fuel_big hg) (fun k hk e again => ?_) (fun k hk e again => ?_) fun again => ?_).trans ?_
    · simp only [cast0, ofNat_c, lt_cast, decide_true, decide_false, cond_true, cond_false, inB_cast, grd_real, join_real, Int.toNat_natCast, Option.elim_some, Bool.true_and, Bool.false_or, Bool.or_true, Bool.and_true, Bool.or_false, cond_tf, hk, getD_in hk, gt_pred, e, wrap_nat (show k < 4294967296 by omega)]
    · simp only [cast0, ofNat_c, lt_cast, decide_true, decide_false, cond_true, cond_false, inB_cast, grd_real, join_real, Int.toNat_natCast, Option.elim_some, Bool.true_and, Bool.false_or, Bool.or_true, Bool.and_true, Bool.or_false, cond_tf, hk, getD_in hk, gt_pred, e]; rfl
    · simp only [cast0, ofNat_c, lt_cast, decide_true, decide_false, cond_true, cond_false, inB_cast, grd_real, join_real, Int.toNat_natCast, Option.elim_some, Bool.true_and, Bool.false_or, Bool.or_true, Bool.and_true, Bool.or_false, cond_tf, Nat.lt_irrefl]
      have el : (List.range g.2.1.length).length = g.2.1.length := List.length_range
      refine (loop_any (l := List.range g.2.1.length) (p := fun i => (g.2.1.take i).contains (g.2.1.getD i 0)) (R := some (i1 5)) (E := some (i1 (bif lateB g b then 1 else bif formB g then 7 else 0))) (n := fuelL) st1 (fuel_big (by omega)) (fun k hk e again => ?_) (fun k hk e again => ?_) fun again => ?_).trans ?_
      · rw [el] at hk
        rw [getD_range (by rw [el]; exact hk)] at e
        have ht : (g.2.1.take k).length < 4294967296 := by rw [List.length_take]; omega
        simp only [cast0, ofNat_c, lt_cast, decide_true, decide_false, cond_true, cond_false, inB_cast, grd_real, join_real, Int.toNat_natCast, Option.elim_some, Bool.true_and, Bool.false_or, Bool.or_true, Bool.and_true, Bool.or_false, cond_tf, hk, le_cast, Nat.le_of_lt hk, has04_eq ht, e, wrap_nat (show k < 4294967296 by omega), nn_cast]
      · rw [el] at hk
        rw [getD_range (by rw [el]; exact hk)] at e
        have ht : (g.2.1.take k).length < 4294967296 := by rw [List.length_take]; omega
        simp only [cast0, ofNat_c, lt_cast, decide_true, decide_false, cond_true, cond_false, inB_cast, grd_real, join_real, Int.toNat_natCast, Option.elim_some, Bool.true_and, Bool.false_or, Bool.or_true, Bool.and_true, Bool.or_false, cond_tf, hk, le_cast, Nat.le_of_lt hk, has04_eq ht, e, nn_cast]; rfl
      · rw [el]
        simp only [cast0, ofNat_c, lt_cast, decide_true, decide_false, cond_true, cond_false, inB_cast, grd_real, join_real, Int.toNat_natCast, Option.elim_some, Bool.true_and, Bool.false_or, Bool.or_true, Bool.and_true, Bool.or_false, cond_tf, Nat.lt_irrefl, lateB, formB, gt_pred]
        have e13 : (((13 : Nat) : Int)) = 13 := rfl
        have e00 : (((0 : Nat) : Int)) = 0 := rfl
        simp only [e13, e00, bne, beq_dec, geI]
        cases decide (g.2.2.2.1 < 0) <;> cases decide (g.2.2.2.1 > b) <;> cases decide (g.1 = 13) <;> cases decide (g.2.2.1 < 0) <;> cases decide (g.2.2.1 ≥ b) <;> cases decide (g.1 ≥ 13) <;> cases decide (g.2.2.2.1 = 0) <;> cases decide (g.2.2.1 = 0) <;> rfl
      · unfold dupB
        cases (List.range g.2.1.length).any fun i => (g.2.1.take i).contains (g.2.1.getD i 0) <;> rfl
    · cases g.2.1.any (fun x => decide (x < 0) || decide (x ≥ w)) <;> rfl
  exact key realC
end Go.Canon
namespace Go.Canon
set_option linter.unusedVariables false
set_option linter.unusedSimpArgs false
open Go
theorem findM_shift {k v : Ty} {key : El k} : ∀ {es : List (El k × El v)} {i : Nat}, findM key es i = (findM key es 0).map fun p => (p.1 + i, p.2)
  | [], i => rfl
  | e :: es, i => by
    unfold findM
    cases keq k key e.1 with
    | true => simp
    | false =>
      simp only [cond_false]
      rw [findM_shift (i := i + 1), findM_shift (i := 1), Option.map_map]
      congr 1
      funext p
      simp only [Function.comp, Prod.mk.injEq, and_true]
      omega
theorem insM_cons {k v : Ty} {key : El k} {x : El v} {e : El k × El v} {es : List (El k × El v)} : insM key x (e :: es) = bif keq k key e.1 then (key, x) :: es else e :: insM key x es := by
  unfold insM
  rw [findM]
  cases hk : keq k key e.1 with
  | true => rfl
  | false =>
    rw [cond_false, findM_shift, cond_false]
    cases findM key es 0 <;> rfl
theorem atM_cons {k v : Ty} {key : El k} {z : El v} {e : El k × El v} {es : List (El k × El v)} : atM key z (e :: es) = bif keq k key e.1 then e.2 else atM key z es := by
  unfold atM
  rw [findM]
  cases hk : keq k key e.1 with
  | true => rfl
  | false =>
    rw [cond_false, findM_shift, cond_false]
    cases findM key es 0 <;> rfl
theorem posM_cons {k v : Ty} {key : El k} {e : El k × El v} {es : List (El k × El v)} : posM key (e :: es) = bif keq k key e.1 then 0 else posM key es + 1 := by
  unfold posM
  rw [findM]
  cases hk : keq k key e.1 with
  | true => rfl
  | false =>
    rw [cond_false, findM_shift, cond_false]
    cases findM key es 0 <;> rfl
/-- An entry put: made if need be, then written. -/
theorem put_ins {k v : Ty} {key : El k} {z x : El v} : ∀ {es : List (El k × El v)}, (insM key (atM key z es) es).modify (posM key es) (fun e => (e.1, x)) = insM key x es
  | [] => rfl
  | e :: es => by
    rw [insM_cons, atM_cons, posM_cons, insM_cons]
    cases hk : keq k key e.1 with
    | true => rfl
    | false =>
      simp only [cond_false, List.modify_succ_cons]
      rw [put_ins]
theorem pos_in {k v : Ty} {key : El k} {x : El v} : ∀ {es : List (El k × El v)}, posM key es < (insM key x es).length
  | [] => Nat.succ_pos _
  | e :: es => by
    rw [insM_cons, posM_cons]
    cases hk : keq k key e.1 with
    | true => exact Nat.succ_pos _
    | false => exact Nat.succ_lt_succ pos_in
end Go.Canon
namespace Go.Canon
set_option linter.unusedVariables false
set_option linter.unusedSimpArgs false
open Go
/-- The error of a list of gates: the first one's. -/
def gatesE (l : List Gate) (w b : Int) : Int := if l.findIdx (fun g => ckG g w b != 0) < l.length then ckG (l.getD (l.findIdx (fun g => ckG g w b != 0)) (0, [], 0, 0, ())) w b else 0
/-- The error of a circuit. -/
def chk (c : Circ) : Int := bif (decide (c.1 < 1) || decide (c.1 > 12)) || (decide (c.2.1 < 0) || decide (c.2.1 > 8)) then 3 else if c.2.2.1.length > 120 then 2 else gatesE c.2.2.1 c.1 c.2.1
/-- A circuit that the statements look at in full. -/
def Small (c : Circ) : Prop := c.2.2.1.length ≤ 130 ∧ ∀ g ∈ c.2.2.1, g.2.1.length ≤ 6
theorem Small.wires {c : Circ} (h : Small c) {k : Nat} (hk : k < c.2.2.1.length) : (c.2.2.1[k]).2.1.length < 4294967296 := Nat.lt_of_le_of_lt (h.2 _ (List.getElem_mem hk)) (by decide)
theorem bounds_of {c : Circ} (h : ((decide (c.1 < 1) || decide (c.1 > 12)) || (decide (c.2.1 < 0) || decide (c.2.1 > 8))) = false) : (1 ≤ c.1 ∧ c.1 ≤ 12) ∧ 0 ≤ c.2.1 ∧ c.2.1 ≤ 8 := by
  simp only [Bool.or_eq_false_iff, decide_eq_false_iff_not] at h
  omega
theorem gt120 {n : Nat} : gtI (n : Int) ((120 : Nat) : Int) = decide (n > 120) := by
  unfold gtI
  by_cases h : n > 120
  · rw [decide_eq_true h, decide_eq_true (by omega)]
  · rw [decide_eq_false h, decide_eq_false (by omega)]
theorem ref_check {c : Circ} (h : Small c) : m_spoondriftref04_Check (c, ()) = some (i1 (chk c)) := by
  have key : ∀ (C : Cmb) [CmbOk C], M_spoondriftref04_Check C (c, ()) = some (i1 (chk c)) := by
    intro C _
    unfold M_spoondriftref04_Check chk
    simp only [join_real, off_eq, Option.elim_some]
    have e0 : (Int.ofNat 0 : Int) = 0 := rfl
    have e1 : (Int.ofNat 1 : Int) = 1 := rfl
    have e8 : (Int.ofNat 8 : Int) = 8 := rfl
    have e12 : (Int.ofNat 12 : Int) = 12 := rfl
    rw [e12, e8]
    cases hb : (decide (c.1 < 1) || decide (c.1 > 12)) with
    | true => rfl
    | false =>
      cases hb2 : (decide (c.2.1 < 0) || decide (c.2.1 > 8)) with
      | true => rfl
      | false =>
        obtain ⟨w1, w2⟩ := bounds_of (c := c) (by rw [hb, hb2]; rfl)
        simp only [cond_false, Bool.or_false, ofNat_c, gt120]
        by_cases hl : c.2.2.1.length > 120
        · rw [decide_eq_true hl, if_pos hl]; rfl
        · rw [decide_eq_false hl, if_neg hl, cond_false]
          refine (loop_find (l := c.2.2.1) (p := fun g => ckG g c.1 c.2.1 != 0) (R := fun k => some (i1 (ckG (c.2.2.1.getD k (0, [], 0, 0, ())) c.1 c.2.1))) (E := some (i1 0)) (n := fuelL) st1 (fuel_big (by omega)) (fun k hk e again => ?_) (fun k hk e again => ?_) fun again => ?_).trans ?_
          · have e : (ckG c.2.2.1[k] c.1 c.2.1 != ((0 : Nat) : Int)) = false := e
            simp only [ofNat_c, lt_cast, decide_true, decide_false, cond_true, cond_false, inB_cast, grd_real, join_real, Int.toNat_natCast, Option.elim_some, Bool.true_and, Bool.false_or, Bool.or_true, Bool.and_true, Bool.or_false, cond_tf, hk, getD_in hk, checkGate_eq (w := c.1) (b := c.2.1) (h.wires hk) (by omega) (by omega), e, wrap_nat (show k < 4294967296 by omega)]
          · have e : (ckG c.2.2.1[k] c.1 c.2.1 != ((0 : Nat) : Int)) = true := e
            simp only [ofNat_c, lt_cast, decide_true, decide_false, cond_true, cond_false, inB_cast, grd_real, join_real, Int.toNat_natCast, Option.elim_some, Bool.true_and, Bool.false_or, Bool.or_true, Bool.and_true, Bool.or_false, cond_tf, hk, getD_in hk, checkGate_eq (w := c.1) (b := c.2.1) (h.wires hk) (by omega) (by omega), e]
          · simp only [ofNat_c, lt_cast, decide_true, decide_false, cond_true, cond_false, inB_cast, grd_real, join_real, Int.toNat_natCast, Option.elim_some, Bool.true_and, Bool.false_or, Bool.or_true, Bool.and_true, Bool.or_false, cond_tf, Nat.lt_irrefl]; rfl
          · unfold gatesE
            split <;> rfl
  exact key realC
theorem circ_check {c : Circ} (h : Small c) : m_circ_Check (c, ()) = some (i1 (chk c)) := by
  have key : ∀ (C : Cmb) [CmbOk C], M_circ_Check C (c, ()) = some (i1 (chk c)) := by
    intro C _
    unfold M_circ_Check chk
    dsimp only
    rw [join_real]
    have e12 : (Int.ofNat 12 : Int) = 12 := rfl
    cases hb : (decide (c.1 < 1) || decide (c.1 > 12)) || (decide (c.2.1 < 0) || decide (c.2.1 > 8)) with
    | true =>
      simp only [ofNat_c]
      simp only [ltI, gtI, show ((12 : Nat) : Int) = 12 from rfl, show ((8 : Nat) : Int) = 8 from rfl, show ((1 : Nat) : Int) = 1 from rfl, show ((0 : Nat) : Int) = 0 from rfl]
      revert hb
      cases decide (c.1 < 1) <;> cases decide (c.1 > 12) <;> cases decide (c.2.1 < 0) <;> cases decide (c.2.1 > 8) <;> intro hb <;> first | rfl | cases hb
    | false =>
      obtain ⟨w1, w2⟩ := bounds_of hb
      rw [show ltI c.1 (Int.ofNat 1) = false from decide_eq_false (by rw [ofNat_c]; omega), show gtI c.1 (Int.ofNat 12) = false from decide_eq_false (by rw [ofNat_c]; omega), show ltI c.2.1 (Int.ofNat 0) = false from decide_eq_false (by rw [ofNat_c]; omega), show gtI c.2.1 (Int.ofNat 8) = false from decide_eq_false (by rw [ofNat_c]; omega)]
      simp only [cond_false]
      by_cases hl : c.2.2.1.length > 120
      · rw [if_pos hl, show gtI (Int.ofNat c.2.2.1.length) (Int.ofNat 120) = true from decide_eq_true (by rw [ofNat_c, ofNat_c]; omega)]; rfl
      · rw [if_neg hl, show gtI (Int.ofNat c.2.2.1.length) (Int.ofNat 120) = false from decide_eq_false (by rw [ofNat_c, ofNat_c]; omega), cond_false]
        refine (loop_find2 (l := c.2.2.1) (p := fun g => ckG g c.1 c.2.1 != 0) (R := fun k => some (i1 (ckG (c.2.2.1.getD k (0, [], 0, 0, ())) c.1 c.2.1))) (E := some (i1 0)) (n := fuelL) st1 (fuel_big (by omega)) (fun k hk again => ?_) fun again => ?_).trans ?_
        · dsimp only
          rw [show ltI (st1 k).1.1 (Int.ofNat c.2.2.1.length) = true from decide_eq_true (by show (k : Int) < _; rw [ofNat_c]; omega), cond_true, grd_real, show inB (st1 k).1.1 c.2.2.1.length = true from by rw [inB_cast]; exact decide_eq_true hk, cond_true, join_real]
          have hw := h.wires hk
          rw [show (st1 k).1.1.toNat = k from rfl, getD_in hk]
          generalize hK : (fun (x_1 : (Int × Unit) × Unit) => bif x_1.1.1 != Int.ofNat 0 then some ((x_1.1.1, ()), ()) else again ((IntKind.i64.wrap ((k : Int) + Int.ofNat 1), ()), ())) = K
          generalize c.2.2.1[k] = g at hw ⊢
          refine Eq.trans (b := K (i1 (ckG g c.1 c.2.1))) ?_ ?_
          · rw [circ_ar, Option.elim_some, Option.elim_some]
            unfold ckG
            have hl6 : g.2.1.length < 4294967296 := hw
            by_cases h0 : arS g.1 = 0
            · rw [if_pos h0, show ((i1 (arS g.1)).1.1 == Int.ofNat 0) = true from by rw [beq_dec]; exact decide_eq_true h0]; rfl
            rw [if_neg h0, show ((i1 (arS g.1)).1.1 == Int.ofNat 0) = false from by rw [beq_dec]; exact decide_eq_false h0, cond_false]
            by_cases h1 : ¬ (g.2.1.length : Int) = arS g.1
            · rw [if_pos h1, show (Int.ofNat g.2.1.length != (i1 (arS g.1)).1.1) = true from by rw [ofNat_c, bne, beq_dec]; show (!decide ((g.2.1.length : Int) = arS g.1)) = true; rw [decide_eq_false h1]; rfl]; rfl
            rw [if_neg h1, show (Int.ofNat g.2.1.length != (i1 (arS g.1)).1.1) = false from by rw [ofNat_c, bne, beq_dec]; show (!decide ((g.2.1.length : Int) = arS g.1)) = false; rw [decide_eq_true (Decidable.not_not.1 h1)]; rfl, cond_false, join_real]
            refine (loop_any2 (l := g.2.1) (p := fun x => decide (x < 0) || decide (x ≥ c.1)) (R := K (i1 1)) (E := K (i1 (bif dupB g.2.1 then 5 else bif lateB g c.2.1 then 1 else bif formB g then 7 else 0))) (n := fuelL) st1 (fuel_big hl6) (fun k hk again => ?_) fun again => ?_).trans ?_
            · simp only [cast0, ofNat_c, lt_cast, decide_true, decide_false, cond_true, cond_false, inB_cast, grd_real, join_real, Int.toNat_natCast, Option.elim_some, Bool.true_and, Bool.false_or, Bool.or_true, Bool.and_true, Bool.or_false, cond_tf, hk, getD_in hk, wrap_nat (show k < 4294967296 by omega)]; simp only [ltI, geI]
              by_cases a1 : g.2.1[k] < 0
              · rw [decide_eq_true a1, show decide (g.2.1[k] ≥ 0) = false from decide_eq_false (by omega)]; rfl
              · rw [decide_eq_false a1, show decide (g.2.1[k] ≥ 0) = true from decide_eq_true (by omega)]
                by_cases a2 : g.2.1[k] < c.1
                · rw [decide_eq_true a2, show decide (g.2.1[k] ≥ c.1) = false from decide_eq_false (by omega)]; rfl
                · rw [decide_eq_false a2, show decide (g.2.1[k] ≥ c.1) = true from decide_eq_true (by omega)]; rfl
            · rw [show ltI (st1 g.2.1.length).1.1 (Int.ofNat g.2.1.length) = false from decide_eq_false (by show ¬ ((g.2.1.length : Int) < _); rw [ofNat_c]; omega), cond_false]
              show (bif !!geI (Int.negSucc 0) (Int.ofNat 0) then _ else _) = _
              rw [show geI (Int.negSucc 0) (Int.ofNat 0) = false from rfl, Bool.not_false, Bool.not_true, cond_false]
              have el : (List.range g.2.1.length).length = g.2.1.length := List.length_range
              refine (loop_any2 (l := List.range g.2.1.length) (p := fun i => (g.2.1.take i).contains (g.2.1.getD i 0)) (R := K (i1 5)) (E := K (i1 (bif lateB g c.2.1 then 1 else bif formB g then 7 else 0))) (n := fuelL) st1 (fuel_big (by omega)) (fun k hk again => ?_) fun again => ?_).trans ?_
              · rw [el] at hk
                rw [getD_range (by rw [el]; exact hk)]
                have ht : (g.2.1.take k).length < 4294967296 := by rw [List.length_take]; omega
                simp only [cast0, ofNat_c, lt_cast, decide_true, decide_false, cond_true, cond_false, inB_cast, grd_real, join_real, Int.toNat_natCast, Option.elim_some, Bool.true_and, Bool.false_or, Bool.or_true, Bool.and_true, Bool.or_false, cond_tf, hk, le_cast, Nat.le_of_lt hk, contains_eq ht, wrap_nat (show k < 4294967296 by omega), nn_cast]
                rfl
              · rw [el]
                simp only [cast0, ofNat_c, lt_cast, decide_true, decide_false, cond_true, cond_false, inB_cast, grd_real, join_real, Int.toNat_natCast, Option.elim_some, Bool.true_and, Bool.false_or, Bool.or_true, Bool.and_true, Bool.or_false, cond_tf, Nat.lt_irrefl, lateB, formB, bne, beq_dec]; simp only [ltI, gtI, geI]
                have hk : g.1 ≥ 13 ↔ (g.1 = 13 ∨ g.1 = 14) := by
                  have : 1 ≤ g.1 ∧ g.1 ≤ 14 := by
                    unfold arS at h0
                    split at h0
                    · omega
                    · split at h0
                      · omega
                      · split at h0
                        · assumption
                        · exact (h0 rfl).elim
                  omega
                have hk : decide (g.1 ≥ 13) = (decide (g.1 = 13) || decide (g.1 = 14)) := by
                  rw [Bool.eq_iff_iff]; simpa using hk
                rw [hk]
                simp only [show ((13 : Nat) : Int) = 13 from rfl, show ((14 : Nat) : Int) = 14 from rfl, show ((1 : Nat) : Int) = 1 from rfl, show ((7 : Nat) : Int) = 7 from rfl]
                cases decide (g.2.2.2.1 < 0) <;> cases decide (g.2.2.2.1 > c.2.1) <;> cases decide (g.1 = 13) <;> cases decide (g.2.2.1 < 0) <;> cases decide (g.2.2.1 ≥ c.2.1) <;> cases decide (g.1 = 14) <;> cases decide (g.2.2.2.1 = 0) <;> cases decide (g.2.2.1 = 0) <;> rfl
              · unfold dupB
                cases (List.range g.2.1.length).any fun i => (g.2.1.take i).contains (g.2.1.getD i 0) <;> rfl
            · cases g.2.1.any (fun x => decide (x < 0) || decide (x ≥ c.1)) <;> rfl
          · rw [← hK]
            show (bif ckG g c.1 c.2.1 != ((0 : Nat) : Int) then some (i1 (ckG g c.1 c.2.1)) else again ((IntKind.i64.wrap ((k : Int) + ((1 : Nat) : Int)), ()), ())) = _
            rw [wrap_nat (by omega)]
            rfl
        · simp only [ofNat_c, lt_cast, decide_true, decide_false, cond_true, cond_false, inB_cast, grd_real, join_real, Int.toNat_natCast, Option.elim_some, Bool.true_and, Bool.false_or, Bool.or_true, Bool.and_true, Bool.or_false, cond_tf, Nat.lt_irrefl]; rfl
        · unfold gatesE
          split <;> rfl
  exact key realC
end Go.Canon
namespace Go.Canon
set_option linter.unusedVariables false
set_option linter.unusedSimpArgs false
open Go
abbrev Clk := List Int × Int × List (List Int) × Unit
abbrev Plan := Circ × List Int × Int × List (List Int × Bool) × Unit
def offN (n : Int) : Bool := decide (n < 1) || decide (n > 100)
def offW (n : Int) : Bool := decide (n < 0) || decide (n > 100)
/-- The error of a clock, but for its pairs. -/
def clkE (t : Clk) : Int := if t.1.length ≠ 14 then 2 else bif t.1.any offN || offW t.2.1 then 3 else 0
theorem clock1_eq {n : Int} : m_sched_clock_1 (n, ()) = some (b1 (offN n)) := by
  have key : ∀ (C : Cmb) [CmbOk C], M_sched_clock_1 C (n, ()) = some (b1 (offN n)) := by
    intro C _
    unfold M_sched_clock_1 offN
    simp only [join_real]
    show (bif decide (n < 1) then _ else _) = _
    cases decide (n < 1) <;> rfl
  exact key realC
theorem len_ne {n m : Nat} : (Int.ofNat n != Int.ofNat m) = decide (n ≠ m) := by
  by_cases h : n = m
  · subst h; simp
  · rw [decide_eq_true h, bne_iff_ne]
    intro e; exact h (Int.ofNat.inj e)
theorem clock_eq {t : Clk} : m_sched_clock (t, ()) = some (i1 (clkE t)) := by
  have key : ∀ (C : Cmb) [CmbOk C], M_sched_clock C (t, ()) = some (i1 (clkE t)) := by
    intro C _
    unfold M_sched_clock clkE
    dsimp only
    rw [len_ne]
    by_cases h : t.1.length ≠ 14
    · rw [if_pos h, decide_eq_true h]; rfl
    · rw [if_neg h, decide_eq_false h, cond_false, join_real, join_real]
      have h : t.1.length = 14 := Decidable.not_not.1 h
      refine (loop_any2 (l := t.1) (p := offN) (R := some (i1 3)) (E := some (i1 (bif offW t.2.1 then 3 else 0))) (n := fuelL) st1 (fuel_big (by omega)) (fun k hk again => ?_) fun again => ?_).trans ?_
      · simp only [cast0, ofNat_c, lt_cast, decide_true, decide_false, cond_true, cond_false, inB_cast, grd_real, join_real, Int.toNat_natCast, Option.elim_some, Bool.true_and, Bool.false_or, Bool.or_true, Bool.and_true, Bool.or_false, cond_tf, hk, getD_in hk, clock1_eq, wrap_nat (show k < 4294967296 by omega)]
        cases offN t.1[k] with
        | false => rfl
        | true =>
          show (bif geI (k : Int) 0 then _ else _) = _
          rw [show geI (k : Int) 0 = true from decide_eq_true (by omega)]; rfl
      · rw [show ltI (st1 t.1.length).1.1 (Int.ofNat t.1.length) = false from decide_eq_false (by show ¬ ((t.1.length : Int) < _); rw [ofNat_c]; omega), cond_false]
        unfold offW
        show (bif false then _ else bif (bif false then true else decide (t.2.1 < 0)) then _ else _) = _
        simp only [cond_false]
        cases decide (t.2.1 < 0) with
        | true => rfl
        | false =>
          show (bif decide (t.2.1 > 100) then _ else _) = some (i1 (bif decide (t.2.1 > 100) then 3 else 0))
          cases decide (t.2.1 > 100) <;> rfl
      · cases t.1.any offN <;> rfl
  exact key realC
/-- What the reference's Quiet hands back. -/
def quietS (t : Clk) : Clk := if clkE t = 0 then (t.1, t.2.1, [], ()) else ([], 0, [], ())
theorem quiet24_eq {t : Clk} : m_spoondriftref24_Quiet (t, ()) = some ((quietS t, clkE t, ()), ()) := by
  have key : ∀ (C : Cmb) [CmbOk C], M_spoondriftref24_Quiet C (t, ()) = some ((quietS t, clkE t, ()), ()) := by
    intro C _
    unfold M_spoondriftref24_Quiet quietS clkE
    dsimp only
    rw [len_ne]
    by_cases h : t.1.length ≠ 14
    · rw [if_pos h, decide_eq_true h]; rfl
    · rw [if_neg h, decide_eq_false h, cond_false]
      have h : t.1.length = 14 := Decidable.not_not.1 h
      refine (loop_any2 (l := t.1) (p := offN) (R := some ((([], 0, [], ()), 3, ()), ())) (E := some ((if (bif offW t.2.1 then 3 else 0 : Int) = 0 then (t.1, t.2.1, [], ()) else ([], 0, [], ()), (bif offW t.2.1 then 3 else 0), ()), ())) (n := fuelL) (fun k => (((k : Int), ()), ((), (0 : Int), (), ()), ())) (fuel_big (by omega)) (fun k hk again => ?_) fun again => ?_).trans ?_
      · simp only [cast0, ofNat_c, lt_cast, decide_true, decide_false, cond_true, cond_false, inB_cast, grd_real, join_real, Int.toNat_natCast, Option.elim_some, Bool.true_and, Bool.false_or, Bool.or_true, Bool.and_true, Bool.or_false, cond_tf, hk, getD_in hk, wrap_nat (show k < 4294967296 by omega)]
        unfold offN
        show (bif decide (t.1[k] < 1) then _ else _) = _
        cases decide (t.1[k] < 1) with
        | true => rfl
        | false =>
          show (bif decide (t.1[k] > 100) then _ else _) = (bif decide (t.1[k] > 100) then _ else _)
          cases decide (t.1[k] > 100) <;> rfl
      · simp only [ofNat_c, lt_cast, decide_true, decide_false, cond_true, cond_false, inB_cast, grd_real, join_real, Int.toNat_natCast, Option.elim_some, Bool.true_and, Bool.false_or, Bool.or_true, Bool.and_true, Bool.or_false, cond_tf, Nat.lt_irrefl]
        unfold offW
        show (bif decide (t.2.1 < 0) then _ else _) = _
        cases h1 : decide (t.2.1 < 0) with
        | true => rfl
        | false =>
          show (bif decide (t.2.1 > 100) then _ else _) = _
          cases h2 : decide (t.2.1 > 100) with
          | true => rfl
          | false =>
            show (bif leN ((0 + t.1.length) * 8) roomB then _ else _) = _
            rw [h, show leN ((0 + 14) * 8) roomB = true from rfl]; rfl
      · cases t.1.any offN <;> cases offW t.2.1 <;> rfl
  exact key realC
def prB (p : List Int) (w : Int) : Bool := (decide (p.getD 0 0 < 0) || decide (p.getD 0 0 ≥ w)) || (decide (p.getD 1 0 < 0) || decide (p.getD 1 0 ≥ w))
def prE (p : List Int) (w : Int) : Int := bif prB p w then 1 else bif p.getD 0 0 == p.getD 1 0 then 4 else 0
def prsE (l : List (List Int)) (w : Int) : Int := if l.findIdx (fun p => prE p w != 0) < l.length then prE (l.getD (l.findIdx (fun p => prE p w != 0)) []) w else 0
/-- The error of a clock with a circuit. -/
def chk24 (t : Clk) (c : Circ) : Int := if clkE t ≠ 0 then clkE t else if chk c ≠ 0 then chk c else prsE t.2.2.1 c.1
theorem toN0 : Int.toNat 0 = 0 := rfl
theorem ltb0 : ltB 0 2 = true := rfl
theorem ltb1 : ltB 1 2 = true := rfl
theorem check24_eq {t : Clk} {c : Circ} (h : Small c) (ht : t.2.2.1.length ≤ 40) : m_spoondriftref24_Check (t, c, ()) = some (i1 (chk24 t c)) := by
  have key : ∀ (C : Cmb) [CmbOk C], M_spoondriftref24_Check C (t, c, ()) = some (i1 (chk24 t c)) := by
    intro C _
    unfold M_spoondriftref24_Check chk24
    dsimp only
    rw [quiet24_eq, Option.elim_some]
    by_cases h0 : clkE t ≠ 0
    · rw [if_pos h0]
      show (bif (clkE t != 0) then _ else _) = _
      rw [show (clkE t != 0) = true from by simpa using h0]; rfl
    rw [if_neg h0]
    show (bif (clkE t != 0) then _ else _) = _
    rw [show (clkE t != 0) = false from by simpa using h0, cond_false, ref_check h, Option.elim_some]
    by_cases h1 : chk c ≠ 0
    · rw [if_pos h1]
      show (bif (chk c != 0) then _ else _) = _
      rw [show (chk c != 0) = true from by simpa using h1]; rfl
    rw [if_neg h1]
    show (bif (chk c != 0) then _ else _) = _
    rw [show (chk c != 0) = false from by simpa using h1, cond_false]
    refine (loop_find2 (l := t.2.2.1) (p := fun p => prE p c.1 != 0) (R := fun k => some (i1 (prE (t.2.2.1.getD k []) c.1))) (E := some (i1 0)) (n := fuelL) st1 (fuel_big (by omega)) (fun k hk again => ?_) fun again => ?_).trans ?_
    · simp only [cast0, ofNat_c, lt_cast, decide_true, decide_false, cond_true, cond_false, inB_cast, grd_real, join_real, Int.toNat_natCast, Option.elim_some, Bool.true_and, Bool.false_or, Bool.or_true, Bool.and_true, Bool.or_false, cond_tf, hk, getD_in hk, wrap_nat (show k < 4294967296 by omega), toN0, ltb0, ltb1]; simp only [ltI, geI]
      unfold prE prB
      generalize t.2.2.1[k] = p
      cases decide (p.getD 0 0 < 0) <;> cases decide (p.getD 0 0 ≥ c.1) <;> cases decide (p.getD 1 0 < 0) <;> cases decide (p.getD 1 0 ≥ c.1) <;> cases p.getD 0 0 == p.getD 1 0 <;> rfl
    · simp only [ofNat_c, lt_cast, decide_true, decide_false, cond_true, cond_false, inB_cast, grd_real, join_real, Int.toNat_natCast, Option.elim_some, Bool.true_and, Bool.false_or, Bool.or_true, Bool.and_true, Bool.or_false, cond_tf, Nat.lt_irrefl]; rfl
    · unfold prsE
      split <;> rfl
  exact key realC
abbrev nIns (key : List Int) (x : Bool) (m : List (List Int × Bool)) : List (List Int × Bool) := insM (k := .arr 2 (.int .i64)) (v := .bool) key x m
abbrev nAt (key : List Int) (m : List (List Int × Bool)) : Bool := atM (k := .arr 2 (.int .i64)) (v := .bool) key false m
abbrev nPos (key : List Int) (m : List (List Int × Bool)) : Nat := posM (k := .arr 2 (.int .i64)) (v := .bool) key m
theorem put_n {key : List Int} {m : List (List Int × Bool)} : List.modify (nIns key (nAt key m) m) (nPos key m) (fun (e : List Int × Bool) => (e.1, true)) = nIns key true m := put_ins
theorem pos_n {key : List Int} {x : Bool} {m : List (List Int × Bool)} : decide (nPos key m < List.length (nIns key x m)) = true := decide_eq_true pos_in
/-- Which pairs disturb, as a map. -/
def nzS (m : List (List Int × Bool)) (p : List Int) : List (List Int × Bool) := insM (k := .arr 2 (.int .i64)) (v := .bool) [p.getD 1 0, p.getD 0 0] true (insM (k := .arr 2 (.int .i64)) (v := .bool) p true m)
def planS (t : Clk) (c : Circ) : Plan := (c, t.1, t.2.1, t.2.2.1.foldl nzS [], ())
theorem min_eq {a b : Int} : List.foldl mn2 a [b] = if b < a then b else a := rfl
theorem max_eq {a b : Int} : List.foldl mx2 a [b] = if b > a then b else a := rfl
theorem min_lt {a b : Int} : decide ((if b < a then b else a) < 0) = (decide (a < 0) || decide (b < 0)) := by
  split <;> (rw [Bool.eq_iff_iff]; simp; omega)
theorem max_ge {a b w : Int} : decide ((if b > a then b else a) ≥ w) = (decide (a ≥ w) || decide (b ≥ w)) := by
  split <;> (rw [Bool.eq_iff_iff]; simp; omega)
theorem opened_eq {t : Clk} {c : Circ} (h : Small c) (ht : t.2.2.1.length ≤ 40) : m_sched_opened (t, c, ()) = some ((if chk24 t c = 0 then some (planS t c) else none, chk24 t c, ()), ()) := by
  have key : ∀ (C : Cmb) [CmbOk C], M_sched_opened C (t, c, ()) = some ((if chk24 t c = 0 then some (planS t c) else none, chk24 t c, ()), ()) := by
    intro C _
    unfold M_sched_opened
    dsimp only
    rw [clock_eq, Option.elim_some]
    by_cases h0 : clkE t ≠ 0
    · have e : chk24 t c = clkE t := if_pos h0
      rw [e, if_neg h0]
      show (bif (clkE t != 0) then _ else _) = _
      rw [show (clkE t != 0) = true from by simpa using h0]; rfl
    show (bif (clkE t != 0) then _ else _) = _
    rw [show (clkE t != 0) = false from by simpa using h0, cond_false, circ_check h, Option.elim_some]
    by_cases h1 : chk c ≠ 0
    · have e : chk24 t c = chk c := by unfold chk24; rw [if_neg h0, if_pos h1]
      rw [e, if_neg h1]
      show (bif (chk c != 0) then _ else _) = _
      rw [show (chk c != 0) = true from by simpa using h1]; rfl
    show (bif (chk c != 0) then _ else _) = _
    rw [show (chk c != 0) = false from by simpa using h1, cond_false, grd_real, cond_true]
    have hc : t.1.length = 14 := by
      have h0 := Decidable.not_not.1 h0
      unfold clkE at h0
      split at h0
      · cases h0
      · rename_i hh; exact Decidable.not_not.1 hh
    have e : chk24 t c = prsE t.2.2.1 c.1 := by unfold chk24; rw [if_neg h0, if_neg h1]
    rw [e]
    refine (loop_find2 (l := t.2.2.1) (p := fun p => prE p c.1 != 0) (R := fun k => some ((none, prE (t.2.2.1.getD k []) c.1, ()), ())) (E := some ((some (planS t c), 0, ()), ())) (n := fuelL) (fun k => (((k : Int), ()), (t.2.2.1.take k).foldl nzS [], ())) (fuel_big (by omega)) (fun k hk again => ?_) fun again => ?_).trans ?_
    · have et : (t.2.2.1.take (k + 1)).foldl nzS [] = nzS ((t.2.2.1.take k).foldl nzS []) t.2.2.1[k] := by
        rw [List.take_add_one, List.getElem?_eq_getElem hk, List.foldl_append]; rfl
      rw [et]
      generalize (t.2.2.1.take k).foldl nzS [] = m
      simp only [cast0, ofNat_c, lt_cast, decide_true, decide_false, cond_true, cond_false, inB_cast, grd_real, join_real, Int.toNat_natCast, Option.elim_some, Bool.true_and, Bool.false_or, Bool.or_true, Bool.and_true, Bool.or_false, cond_tf, hk, getD_in hk, wrap_nat (show k < 4294967296 by omega), toN0, ltb0, ltb1, insMx, atMx, posMx, put_n, pos_n, min_eq, max_eq]; simp only [ltI, geI, min_lt, max_ge]
      unfold prE prB nzS
      generalize t.2.2.1[k] = p
      cases decide (p.getD 0 0 < 0) <;> cases decide (p.getD 0 0 ≥ c.1) <;> cases decide (p.getD 1 0 < 0) <;> cases decide (p.getD 1 0 ≥ c.1) <;> cases p.getD 0 0 == p.getD 1 0 <;> rfl
    · simp only [ofNat_c, lt_cast, decide_true, decide_false, cond_true, cond_false, inB_cast, grd_real, join_real, Int.toNat_natCast, Option.elim_some, Bool.true_and, Bool.false_or, Bool.or_true, Bool.and_true, Bool.or_false, cond_tf, Nat.lt_irrefl, List.take_length]
      have ec : ∀ z : List Int, z.length = 14 → cpyL z 0 (min t.1.length (14 - 0)) t.1 = t.1 := fun z hz => by
        unfold cpyL
        rw [hc, List.take_zero, List.nil_append, show min 14 (14 - 0) = 14 from rfl, List.take_of_length_le (by omega), List.drop_of_length_le (by omega), List.append_nil]
      unfold planS
      exact congrArg (fun q => some ((some (c, q, t.2.1, t.2.2.1.foldl nzS [], ()), (0 : Int), ()), ())) (ec _ rfl)
    · unfold prsE
      split
      · rename_i hh
        have hp := List.findIdx_getElem (w := hh)
        rw [getD_in hh]
        rw [if_neg (by simpa using hp)]
      · rfl
  exact key realC
end Go.Canon
namespace Go.Canon
set_option linter.unusedVariables false
set_option linter.unusedSimpArgs false
open Go
/-- A right clock and a right circuit. -/
structure Ok (t : Clk) (c : Circ) : Prop where
  sm : Small c
  n40 : t.2.2.1.length ≤ 40
  e : chk24 t c = 0
  two : ∀ p ∈ t.2.2.1, List.length p = 2
variable {t : Clk} {c : Circ}
theorem Ok.clk (H : Ok t c) : clkE t = 0 := by
  have := H.e
  unfold chk24 at this
  by_cases h : clkE t = 0
  · exact h
  · rw [if_pos h] at this; exact this
theorem Ok.chk (H : Ok t c) : chk c = 0 := by
  have := H.e
  unfold chk24 at this
  rw [if_neg (by simpa using H.clk)] at this
  by_cases h : Go.Canon.chk c = 0
  · exact h
  · rw [if_pos h] at this; exact this
theorem Ok.len14 (H : Ok t c) : t.1.length = 14 := by
  have h0 := H.clk
  unfold clkE at h0
  split at h0
  · cases h0
  · rename_i hh; exact Decidable.not_not.1 hh
theorem Ok.bnd (H : Ok t c) : (∀ n ∈ t.1, 1 ≤ n ∧ n ≤ 100) ∧ 0 ≤ t.2.1 ∧ t.2.1 ≤ 100 := by
  have h0 := H.clk
  unfold clkE at h0
  rw [if_neg (by simpa using H.len14)] at h0
  cases h : t.1.any offN || offW t.2.1 with
  | true => rw [h] at h0; cases h0
  | false =>
    simp only [Bool.or_eq_false_iff, List.any_eq_false] at h
    refine ⟨fun n hn => ?_, ?_⟩
    · have := h.1 n hn
      simp only [offN, Bool.or_eq_true, decide_eq_true_eq, not_or] at this
      omega
    · have := h.2
      simp only [offW, Bool.or_eq_false_iff, decide_eq_false_iff_not] at this
      omega
theorem chk_parts {c : Circ} (h0 : chk c = 0) : (1 ≤ c.1 ∧ c.1 ≤ 12 ∧ 0 ≤ c.2.1 ∧ c.2.1 ≤ 8) ∧ c.2.2.1.length ≤ 120 ∧ gatesE c.2.2.1 c.1 c.2.1 = 0 := by
  unfold chk at h0
  cases hb : (decide (c.1 < 1) || decide (c.1 > 12)) || (decide (c.2.1 < 0) || decide (c.2.1 > 8)) with
  | true => rw [hb, cond_true] at h0; cases h0
  | false =>
    rw [hb, cond_false] at h0
    obtain ⟨a, b⟩ := bounds_of hb
    split at h0
    · cases h0
    · exact ⟨⟨a.1, a.2, b.1, b.2⟩, by omega, h0⟩
theorem Ok.n120 (H : Ok t c) : c.2.2.1.length ≤ 120 := by
  exact (chk_parts H.chk).2.1
theorem chk_gate {c : Circ} (h0 : chk c = 0) {g : Gate} (hg : g ∈ c.2.2.1) : ckG g c.1 c.2.1 = 0 := by
  have h1 := (chk_parts h0).2.2
  unfold gatesE at h1
  split at h1
  · rename_i hh
    have hp := List.findIdx_getElem (w := hh)
    rw [getD_in hh] at h1
    rw [h1] at hp
    cases hp
  · rename_i hh
    have hn : c.2.2.1.any (fun g => ckG g c.1 c.2.1 != 0) = false := by
      cases hq : c.2.2.1.any (fun g => ckG g c.1 c.2.1 != 0) with
      | false => rfl
      | true => exact (hh (find_any.2 hq)).elim
    have := List.any_eq_false.1 hn g hg
    simpa using this
theorem ckG_kind {g : Gate} {w b : Int} (h : ckG g w b = 0) : 1 ≤ g.1 ∧ g.1 ≤ 14 := by
  unfold ckG at h
  split at h
  · cases h
  · rename_i h0
    unfold arS at h0
    split at h0
    · omega
    · split at h0
      · omega
      · split at h0
        · assumption
        · exact (h0 rfl).elim
/-- How long a gate is. -/
def lenG (t : Clk) (g : Gate) : Int := t.1.getD (g.1 - 1).toNat 0
def lateG (t : Clk) (g h : Gate) : Int := bif g.1 == 13 && h.2.2.2.1 == IntKind.i64.wrap (g.2.2.1 + 1) then t.2.1 else 0
/-- The gate with a number. -/
def gt (c : Circ) (i : Nat) : Gate := c.2.2.1.getD i (0, [], 0, 0, ())
theorem gt_mem {i : Nat} (hi : i < c.2.2.1.length) : gt c i ∈ c.2.2.1 := by
  unfold gt; rw [getD_in hi]; exact List.getElem_mem hi
theorem Ok.kind (H : Ok t c) {i : Nat} (hi : i < c.2.2.1.length) : 1 ≤ (gt c i).1 ∧ (gt c i).1 ≤ 14 := ckG_kind (chk_gate H.chk (gt_mem hi))
theorem Ok.lenB (H : Ok t c) {i : Nat} (hi : i < c.2.2.1.length) : 1 ≤ lenG t (gt c i) ∧ lenG t (gt c i) ≤ 100 := by
  obtain ⟨k1, k2⟩ := H.kind hi
  unfold lenG
  have hk : ((gt c i).1 - 1).toNat < t.1.length := by rw [H.len14]; omega
  rw [getD_in hk]
  exact H.bnd.1 _ (List.getElem_mem hk)
theorem Ok.wl (H : Ok t c) {i : Nat} (hi : i < c.2.2.1.length) : (gt c i).2.1.length < 4294967296 := Nat.lt_of_le_of_lt (H.sm.2 _ (gt_mem hi)) (by decide)
theorem Ok.lateB (H : Ok t c) {g h : Gate} : 0 ≤ lateG t g h ∧ lateG t g h ≤ 100 := by
  unfold lateG
  cases g.1 == 13 && h.2.2.2.1 == IntKind.i64.wrap (g.2.2.1 + 1) with
  | true => exact H.bnd.2
  | false => exact ⟨by simp, by simp⟩
theorem gt_eq {i : Nat} : c.2.2.1.getD i (0, [], 0, 0, ()) = gt c i := rfl
theorem p_length (H : Ok t c) {i : Nat} (hi : i < c.2.2.1.length) {m : List (List Int × Bool)} : m_sched_plan_length ((c, t.1, t.2.1, m, ()), (i : Int), ()) = some (i1 (lenG t (gt c i))) := by
  obtain ⟨k1, k2⟩ := H.kind hi
  have key : ∀ (C : Cmb) [CmbOk C], M_sched_plan_length C ((c, t.1, t.2.1, m, ()), (i : Int), ()) = some (i1 (lenG t (gt c i))) := by
    intro C _
    unfold M_sched_plan_length
    simp only [ofNat_c, lt_cast, decide_true, decide_false, cond_true, cond_false, inB_cast, grd_real, join_real, Int.toNat_natCast, Option.elim_some, Bool.true_and, Bool.false_or, Bool.or_true, Bool.and_true, Bool.or_false, cond_tf, hi, gt_eq]
    rw [wrap_in (by omega) (by omega), inB_z (by omega) (by omega)]
    rfl
  exact key realC
theorem p_holds (H : Ok t c) {i j : Nat} (hi : i < c.2.2.1.length) (hj : j < c.2.2.1.length) {m : List (List Int × Bool)} : m_sched_plan_holds ((c, t.1, t.2.1, m, ()), (j : Int), (i : Int), ()) = some (b1 (meetB (gt c j) (gt c i))) := by
  have key : ∀ (C : Cmb) [CmbOk C], M_sched_plan_holds C ((c, t.1, t.2.1, m, ()), (j : Int), (i : Int), ()) = some (b1 (meetB (gt c j) (gt c i))) := by
    intro C _
    unfold M_sched_plan_holds
    simp only [ofNat_c, lt_cast, decide_true, decide_false, cond_true, cond_false, inB_cast, grd_real, join_real, Int.toNat_natCast, Option.elim_some, Bool.true_and, Bool.false_or, Bool.or_true, Bool.and_true, Bool.or_false, cond_tf, hi, hj, gt_eq, meet_eq (H.wl hj) (H.wl hi)]
  exact key realC
theorem p_late (H : Ok t c) {i j : Nat} (hi : i < c.2.2.1.length) (hj : j < c.2.2.1.length) {m : List (List Int × Bool)} : m_sched_plan_late ((c, t.1, t.2.1, m, ()), (j : Int), (i : Int), ()) = some (i1 (lateG t (gt c j) (gt c i))) := by
  have key : ∀ (C : Cmb) [CmbOk C], M_sched_plan_late C ((c, t.1, t.2.1, m, ()), (j : Int), (i : Int), ()) = some (i1 (lateG t (gt c j) (gt c i))) := by
    intro C _
    unfold M_sched_plan_late lateG
    simp only [ofNat_c, lt_cast, decide_true, decide_false, cond_true, cond_false, inB_cast, grd_real, join_real, Int.toNat_natCast, Option.elim_some, Bool.true_and, Bool.false_or, Bool.or_true, Bool.and_true, Bool.or_false, cond_tf, hi, hj, gt_eq, reads_eq, show ((13 : Nat) : Int) = 13 from rfl]
    cases (gt c j).1 == 13 with
    | false => rfl
    | true =>
      simp only [cond_true, Bool.true_and]
      cases (gt c i).2.2.2.1 == IntKind.i64.wrap ((gt c j).2.2.1 + 1) <;> rfl
  exact key realC
end Go.Canon
namespace Go.Canon
set_option linter.unusedVariables false
set_option linter.unusedSimpArgs false
open Go
variable {t : Clk} {c : Circ}
theorem r_long (H : Ok t c) {i : Nat} (hi : i < c.2.2.1.length) {q : List (List Int)} : m_spoondriftref24_long ((t.1, t.2.1, q, ()), gt c i, ()) = some (i1 (lenG t (gt c i))) := by
  obtain ⟨k1, k2⟩ := H.kind hi
  have key : ∀ (C : Cmb) [CmbOk C], M_spoondriftref24_long C ((t.1, t.2.1, q, ()), gt c i, ()) = some (i1 (lenG t (gt c i))) := by
    intro C _
    unfold M_spoondriftref24_long
    simp only [grd_real, show (Int.ofNat 1 : Int) = 1 from rfl]
    rw [wrap_in (by omega) (by omega), inB_z (by omega) (by rw [H.len14]; omega)]
    rfl
  exact key realC
def aftS (t : Clk) (g h : Gate) : Int := bif meetB g h then lenG t g + lateG t g h else -1
theorem r_after (H : Ok t c) {i j : Nat} (hi : i < c.2.2.1.length) (hj : j < c.2.2.1.length) {q : List (List Int)} : m_spoondriftref24_after ((t.1, t.2.1, q, ()), gt c j, gt c i, ()) = some (i1 (aftS t (gt c j) (gt c i))) := by
  have hb := H.lenB hj
  have hw := H.bnd.2
  have key : ∀ (C : Cmb) [CmbOk C], M_spoondriftref24_after C ((t.1, t.2.1, q, ()), gt c j, gt c i, ()) = some (i1 (aftS t (gt c j) (gt c i))) := by
    intro C _
    unfold M_spoondriftref24_after aftS lateG
    simp only [meet04_eq (H.wl hj) (H.wl hi), Option.elim_some, r_long H hj, join_real]
    cases meetB (gt c j) (gt c i) with
    | false => rfl
    | true =>
      simp only [Bool.not_true, cond_false, cond_true]
      rw [wrap_in (a := lenG t (gt c j) + t.2.1) (by omega) (by omega)]
      show (bif (gt c j).1 == 13 then _ else _) = _
      cases (gt c j).1 == 13 with
      | false => simp
      | true =>
        show (bif (gt c i).2.2.2.1 == IntKind.i64.wrap ((gt c j).2.2.1 + 1) then _ else _) = _
        cases (gt c i).2.2.2.1 == IntKind.i64.wrap ((gt c j).2.2.1 + 1) <;> simp
  exact key realC
end Go.Canon
namespace Go.Canon
set_option linter.unusedVariables false
set_option linter.unusedSimpArgs false
open Go
variable {t : Clk} {c : Circ}
end Go.Canon
namespace Go.Canon
set_option linter.unusedVariables false
set_option linter.unusedSimpArgs false
open Go
variable {t : Clk} {c : Circ}
/-- The greatest of some numbers; 0 if there is none. -/
def maxS : List Int → Int
  | [] => 0
  | x :: l => l.foldl mx2 x
theorem max_loop {x : Int} {l : List Int} (hl : l.length < 4294967290) : m_slices_Max (x :: l, ()) = some (i1 (l.foldl mx2 x)) := by
  have key : ∀ (C : Cmb) [CmbOk C], M_slices_Max C (x :: l, ()) = some (i1 (l.foldl mx2 x)) := by
    intro C _
    unfold M_slices_Max
    dsimp only
    rw [show ltI (Int.ofNat (x :: l).length) (Int.ofNat 1) = false from decide_eq_false (by simp; omega), cond_false, grd_real, show inB (Int.ofNat 0) (x :: l).length = true from inB_in (by simp), cond_true]
    refine (loop_fold (l := l) (f := mx2) (c := x) (E := fun m => some (i1 m)) (n := fuelL) (fun k m => ((m, ((k + 1 : Nat) : Int), ()), ())) (fuel_big (by omega)) (fun k hk again => ?_) fun again => ?_)
    · have h2 : k + 1 < (x :: l).length := by simp; omega
      simp only [ofNat_c, lt_cast, decide_true, decide_false, cond_true, cond_false, inB_cast, grd_real, join_real, Int.toNat_natCast, Option.elim_some, Bool.true_and, Bool.false_or, Bool.or_true, Bool.and_true, Bool.or_false, cond_tf, h2, getD_in h2, List.getElem_cons_succ, wrap_nat (show k + 1 < 4294967296 by omega)]
      rfl
    · simp only [ofNat_c, lt_cast, decide_true, decide_false, cond_true, cond_false, inB_cast, grd_real, join_real, Int.toNat_natCast, Option.elim_some, Bool.true_and, Bool.false_or, Bool.or_true, Bool.and_true, Bool.or_false, cond_tf, List.length_cons, Nat.lt_irrefl]
  exact key realC
theorem greatest_eq {l : List Int} (hl : l.length < 4294967290) : m_sched_greatest (l, ()) = some (i1 (maxS l)) := by
  cases l with
  | nil => rfl
  | cons x l =>
    show (bif Int.ofNat (x :: l).length == Int.ofNat 0 then some ((Int.ofNat 0, ()), ()) else (m_slices_Max (x :: l, ())).elim none fun v => some ((v.1.1, ()), ())) = _
    rw [show (Int.ofNat (x :: l).length == Int.ofNat 0) = false from by rw [beq_dec]; exact decide_eq_false (by simp; omega), cond_false, max_loop (by simp at hl; omega)]
    rfl
end Go.Canon
namespace Go.Canon
set_option linter.unusedVariables false
set_option linter.unusedSimpArgs false
open Go
variable {t : Clk} {c : Circ}
theorem room_ok {n s : Nat} (hn : n ≤ 1000000) (hs : s ≤ 1000) : leN (n * s) roomB = true := by
  unfold leN roomB
  exact decide_eq_true (Nat.le_trans (Nat.mul_le_mul hn hs) (by decide))
end Go.Canon
namespace Go.Canon
set_option linter.unusedVariables false
set_option linter.unusedSimpArgs false
open Go
variable {t : Clk} {c : Circ}
end Go.Canon
namespace Go.Canon
set_option linter.unusedVariables false
set_option linter.unusedSimpArgs false
open Go
variable {t : Clk} {c : Circ}
theorem foldl_congr2 {α β : Type} {f g : β → α → β} : ∀ {l : List α} {b : β}, (∀ x ∈ l, ∀ b, f b x = g b x) → l.foldl f b = l.foldl g b
  | [], b, _ => rfl
  | x :: l, b, h => by
    rw [List.foldl_cons, List.foldl_cons, h x List.mem_cons_self]
    exact foldl_congr2 fun y hy => h y (List.mem_cons_of_mem _ hy)
theorem getD_last {l : List Int} {x : Int} : (l ++ [x]).getD l.length 0 = x := by
  rw [List.getD_eq_getElem?_getD, List.getElem?_append_right (Nat.le_refl _)]; simp
end Go.Canon
namespace Go.Canon
set_option linter.unusedVariables false
set_option linter.unusedSimpArgs false
open Go
variable {t : Clk} {c : Circ}
end Go.Canon
namespace Go.Canon
set_option linter.unusedVariables false
set_option linter.unusedSimpArgs false
open Go
variable {t : Clk} {c : Circ}
end Go.Canon
namespace Go.Canon
set_option linter.unusedVariables false
set_option linter.unusedSimpArgs false
open Go
variable {t : Clk} {c : Circ}
end Go.Canon
namespace Go.Canon
set_option linter.unusedVariables false
set_option linter.unusedSimpArgs false
open Go
variable {t : Clk} {c : Circ}
end Go.Canon
namespace Go.Canon
set_option linter.unusedVariables false
set_option linter.unusedSimpArgs false
open Go
variable {t : Clk} {c : Circ}
theorem ltb_in {i n : Nat} (h : i < n) : ltB i n = true := decide_eq_true h
theorem aftS_ge {g h : Gate} (H : Ok t c) (hg : 1 ≤ lenG t g) : geI (aftS t g h) 0 = meetB g h := by
  have := H.lateB (g := g) (h := h)
  unfold aftS geI
  cases meetB g h with
  | false => rfl
  | true => rw [cond_true]; exact decide_eq_true (by omega)
theorem set_get {l : List Int} {i j : Nat} {x : Int} (hi : i < l.length) : (l.set i x).getD j 0 = if j = i then x else l.getD j 0 := by
  rw [List.getD_eq_getElem?_getD, List.getD_eq_getElem?_getD, List.getElem?_set]
  by_cases h : i = j
  · subst h; simp [hi]
  · rw [if_neg h, if_neg (fun e => h e.symm)]
end Go.Canon
namespace Go.Canon
set_option linter.unusedVariables false
set_option linter.unusedSimpArgs false
open Go
variable {t : Clk} {c : Circ}
theorem loop_hit {α σ β : Type} {C : Cmb} [CmbOk C] {l : List β} {p : β → Bool} {body : σ → (σ → Option α) → Option α} {R : Nat → Option α} (st : Nat → σ) {n : Nat} (hn : l.length < n) (hy : l.findIdx p < l.length)
    (h : ∀ k (hk : k < l.length) again, body (st k) again = bif p l[k] then R k else again (st (k + 1))) : @Cmb.loop C σ α body n (st 0) = R (l.findIdx p) :=
  loop_run st (l.findIdx p) n (by omega) (fun i hi again => by rw [h i (by omega), show p (l[i]'(by omega)) = false from by simpa using List.not_of_lt_findIdx hi]; rfl) fun again => by rw [h _ hy, List.findIdx_getElem (w := hy)]; rfl
theorem gt_cast {a b : Nat} : gtI (a : Int) (b : Int) = decide (a > b) := by simp [gtI]
theorem ge_nn {a : Nat} : geI (a : Int) (0 : Int) = true := by simp [geI]
theorem great24_eq : m_spoondriftlaw24_great (t, ()) = some (b1 (decide (t.1.length > 20) || decide (t.2.2.1.length > 40))) := by
  have key : ∀ (C : Cmb) [CmbOk C], M_spoondriftlaw24_great C (t, ()) = some (b1 (decide (t.1.length > 20) || decide (t.2.2.1.length > 40))) := by
    intro C _
    unfold M_spoondriftlaw24_great
    simp only [join_real, ofNat_c, gt_cast]
    cases decide (t.1.length > 20) <;> rfl
  exact key realC
def greatC (c : Circ) : Bool := decide (c.2.2.1.length > 130) || c.2.2.1.any fun g => decide (g.2.1.length > 6)
theorem greatC_small (h : greatC c = false) : Small c := by
  simp only [greatC, Bool.or_eq_false_iff, decide_eq_false_iff_not, List.any_eq_false, decide_eq_true_eq] at h
  exact ⟨by omega, fun g hg => by have := h.2 g hg; omega⟩
theorem great_1_eq {g : Gate} : m_spoondriftkit_Great_1 (g, ()) = some (b1 (decide (g.2.1.length > 6))) := by
  show some (b1 (gtI (g.2.1.length : Int) ((6 : Nat) : Int))) = _
  rw [gt_cast]
theorem great_eq : m_spoondriftkit_Great (c, ()) = some (b1 (greatC c)) := by
  have key : ∀ (C : Cmb) [CmbOk C], M_spoondriftkit_Great C (c, ()) = some (b1 (greatC c)) := by
    intro C _
    unfold M_spoondriftkit_Great greatC
    simp only [join_real, ofNat_c, gt_cast]
    by_cases h : c.2.2.1.length > 130
    · rw [decide_eq_true h]; rfl
    · rw [decide_eq_false h, cond_false, Bool.false_or]
      refine (loop_any2 (l := c.2.2.1) (p := fun g => decide (g.2.1.length > 6)) (R := some (b1 true)) (E := some (b1 false)) (n := fuelL) st1 (fuel_big (by omega)) (fun k hk again => ?_) fun again => ?_).trans ?_
      · simp only [cast0, ofNat_c, lt_cast, decide_true, decide_false, cond_true, cond_false, inB_cast, grd_real, join_real, Int.toNat_natCast, Option.elim_some, Bool.true_and, Bool.false_or, Bool.or_true, Bool.and_true, Bool.or_false, cond_tf, hk, getD_in hk, great_1_eq, wrap_nat (show k < 4294967296 by omega), ge_nn]
      · simp only [ofNat_c, lt_cast, decide_true, decide_false, cond_true, cond_false, inB_cast, grd_real, join_real, Int.toNat_natCast, Option.elim_some, Bool.true_and, Bool.false_or, Bool.or_true, Bool.and_true, Bool.or_false, cond_tf, Nat.lt_irrefl]; rfl
      · cases c.2.2.1.any (fun g => decide (g.2.1.length > 6)) <;> rfl
  exact key realC
theorem clone_eq {l : List Int} (h : l.length ≤ 1000000) : m_slices_Clone (l, ()) = some (((), ()), (l, ()), ()) := by
  show (bif leN (l.length * 8) roomB then some (((), ()), (l, ()), ()) else none) = _
  rw [room_ok h (by decide)]; rfl
theorem own24_eq (h1 : t.1.length ≤ 20) (h2 : t.2.2.1.length ≤ 40) : m_spoondriftref24_Own (t, ()) = some ((t, ()), ()) := by
  have key : ∀ (C : Cmb) [CmbOk C], M_spoondriftref24_Own C (t, ()) = some ((t, ()), ()) := by
    intro C _
    unfold M_spoondriftref24_Own
    simp only [grd_real, Bool.true_and, Nat.zero_add]
    rw [room_ok (by omega) (by decide), room_ok (by omega) (by decide)]
    rfl
  exact key realC
theorem own_eq (h : Small c) : m_spoondriftkit_Own (c, ()) = some ((c, ()), ()) := by
  have key : ∀ (C : Cmb) [CmbOk C], M_spoondriftkit_Own C (c, ()) = some ((c, ()), ()) := by
    intro C _
    unfold M_spoondriftkit_Own
    dsimp only
    refine loop_run (C := C) (fun k : Nat => ((((k : Int), ()), (c.1, c.2.1, (), ()), (c.2.2.1.take k, ()), ()) : (Int × Unit) × (Int × Int × Unit × Unit) × (List Gate × Unit) × Unit)) c.2.2.1.length fuelL (fuel_big (by have := h.1; omega)) (fun k hk again => ?_) fun again => ?_
    · have hw := h.2 _ (List.getElem_mem hk)
      have hn := h.1
      have e : c.2.2.1.take (k + 1) = c.2.2.1.take k ++ [c.2.2.1[k]] := by rw [List.take_add_one, List.getElem?_eq_getElem hk]; rfl
      rw [e]
      simp only [ofNat_c, lt_cast, decide_true, decide_false, cond_true, cond_false, inB_cast, grd_real, join_real, Int.toNat_natCast, Option.elim_some, Bool.true_and, Bool.false_or, Bool.or_true, Bool.and_true, Bool.or_false, cond_tf, hk, getD_in hk, clone_eq (show (c.2.2.1[k]).2.1.length ≤ 1000000 by omega), wrap_nat (show k < 4294967296 by omega), List.length_singleton, List.length_take]
      rw [room_ok (by omega) (by decide)]
      rfl
    · simp only [ofNat_c, lt_cast, decide_true, decide_false, cond_true, cond_false, inB_cast, grd_real, join_real, Int.toNat_natCast, Option.elim_some, Bool.true_and, Bool.false_or, Bool.or_true, Bool.and_true, Bool.or_false, cond_tf, Nat.lt_irrefl, List.take_length]
  exact key realC
theorem equal_eq {l : List Int} (h : l.length < 4294967296) : m_slices_Equal (l, l, ()) = some (b1 true) := by
  have key : ∀ (C : Cmb) [CmbOk C], M_slices_Equal C (l, l, ()) = some (b1 true) := by
    intro C _
    unfold M_slices_Equal
    dsimp only
    rw [len_ne, decide_eq_false (by simp), cond_false]
    refine loop_run (C := C) st1 l.length fuelL (fuel_big h) (fun k hk again => ?_) fun again => ?_
    · simp only [cast0, ofNat_c, lt_cast, decide_true, decide_false, cond_true, cond_false, inB_cast, grd_real, join_real, Int.toNat_natCast, Option.elim_some, Bool.true_and, Bool.false_or, Bool.or_true, Bool.and_true, Bool.or_false, cond_tf, hk, wrap_nat (show k < 4294967296 by omega), bne_self_eq_false]
    · simp only [ofNat_c, lt_cast, decide_true, decide_false, cond_true, cond_false, inB_cast, grd_real, join_real, Int.toNat_natCast, Option.elim_some, Bool.true_and, Bool.false_or, Bool.or_true, Bool.and_true, Bool.or_false, cond_tf, Nat.lt_irrefl]
  exact key realC
theorem same24_eq (h1 : t.1.length ≤ 20) (h2 : t.2.2.1.length ≤ 40) : m_spoondriftref24_Same (t, t, ()) = some (b1 true) := by
  have key : ∀ (C : Cmb) [CmbOk C], M_spoondriftref24_Same C (t, t, ()) = some (b1 true) := by
    intro C _
    unfold M_spoondriftref24_Same
    dsimp only
    rw [join_real]
    simp only [len_ne, bne_self_eq_false, cond_false, ne_eq, not_true, decide_false]
    refine loop_run (C := C) st1 t.1.length fuelL (fuel_big (by omega)) (fun k hk again => ?_) fun again => ?_
    · simp only [cast0, ofNat_c, lt_cast, decide_true, decide_false, cond_true, cond_false, inB_cast, grd_real, join_real, Int.toNat_natCast, Option.elim_some, Bool.true_and, Bool.false_or, Bool.or_true, Bool.and_true, Bool.or_false, cond_tf, hk, wrap_nat (show k < 4294967296 by omega), bne_self_eq_false]
    · simp only [ofNat_c, lt_cast, decide_true, decide_false, cond_true, cond_false, inB_cast, grd_real, join_real, Int.toNat_natCast, Option.elim_some, Bool.true_and, Bool.false_or, Bool.or_true, Bool.and_true, Bool.or_false, cond_tf, Nat.lt_irrefl]
      refine loop_run (C := C) st1 t.2.2.1.length fuelL (fuel_big (by omega)) (fun k hk again => ?_) fun again => ?_
      · simp only [cast0, ofNat_c, lt_cast, decide_true, decide_false, cond_true, cond_false, inB_cast, grd_real, join_real, Int.toNat_natCast, Option.elim_some, Bool.true_and, Bool.false_or, Bool.or_true, Bool.and_true, Bool.or_false, cond_tf, hk, wrap_nat (show k < 4294967296 by omega), beq_self_eq_true, bne_self_eq_false]
      · simp only [ofNat_c, lt_cast, decide_true, decide_false, cond_true, cond_false, inB_cast, grd_real, join_real, Int.toNat_natCast, Option.elim_some, Bool.true_and, Bool.false_or, Bool.or_true, Bool.and_true, Bool.or_false, cond_tf, Nat.lt_irrefl]
  exact key realC
theorem sameGate_eq {g : Gate} (h : g.2.1.length < 4294967296) : m_spoondriftkit_SameGate (g, g, ()) = some (b1 true) := by
  have key : ∀ (C : Cmb) [CmbOk C], M_spoondriftkit_SameGate C (g, g, ()) = some (b1 true) := by
    intro C _
    unfold M_spoondriftkit_SameGate
    simp only [join_real, beq_self_eq_true, cond_true, equal_eq h, Option.elim_some]
  exact key realC
theorem same_eq (h : Small c) : m_spoondriftkit_Same (c, c, ()) = some (b1 true) := by
  have key : ∀ (C : Cmb) [CmbOk C], M_spoondriftkit_Same C (c, c, ()) = some (b1 true) := by
    intro C _
    unfold M_spoondriftkit_Same
    dsimp only
    rw [join_real]
    simp only [len_ne, beq_self_eq_true, cond_true, ne_eq, not_true, decide_false, cond_false]
    refine loop_run (C := C) st1 c.2.2.1.length fuelL (fuel_big (by have := h.1; omega)) (fun k hk again => ?_) fun again => ?_
    · have hw := h.2 _ (List.getElem_mem hk)
      have hn := h.1
      simp only [cast0, ofNat_c, lt_cast, decide_true, decide_false, cond_true, cond_false, inB_cast, grd_real, join_real, Int.toNat_natCast, Option.elim_some, Bool.true_and, Bool.false_or, Bool.or_true, Bool.and_true, Bool.or_false, cond_tf, hk, getD_in hk, sameGate_eq (h.wires hk), wrap_nat (show k < 4294967296 by omega), Bool.not_true]
    · simp only [ofNat_c, lt_cast, decide_true, decide_false, cond_true, cond_false, inB_cast, grd_real, join_real, Int.toNat_natCast, Option.elim_some, Bool.true_and, Bool.false_or, Bool.or_true, Bool.and_true, Bool.or_false, cond_tf, Nat.lt_irrefl]
  exact key realC
end Go.Canon
namespace Go.Canon
set_option linter.unusedVariables false
set_option linter.unusedSimpArgs false
open Go
variable {t : Clk} {c : Circ}
theorem ge_nn' {a : Nat} : geI (a : Int) ((0 : Nat) : Int) = true := by simp [geI]
/-- The numbers from a on below n. -/
def aftL (a n : Nat) : List Nat := (List.range (n - a)).map fun k => a + k
theorem aftL_len {a n : Nat} : (aftL a n).length = n - a := by simp [aftL]
theorem aftL_get {a n k : Nat} (h : k < (aftL a n).length) : (aftL a n)[k] = a + k := by simp [aftL]
theorem aftL_mem {a n j : Nat} : j ∈ aftL a n ↔ a ≤ j ∧ j < n := by
  simp only [aftL, List.mem_map, List.mem_range]
  exact ⟨fun ⟨k, h1, h2⟩ => by omega, fun h => ⟨j - a, by omega, by omega⟩⟩
/-- Only the starts behind a gate matter. -/
def SameL (c : Circ) (i : Nat) (a b : List Int) : Prop := ∀ j, i < j → j < c.2.2.1.length → a.getD j 0 = b.getD j 0
end Go.Canon
namespace Go.Canon
set_option linter.unusedVariables false
set_option linter.unusedSimpArgs false
open Go
variable {t : Clk} {c : Circ}
theorem gtI_lt {a b : Int} : gtI a b = ltI b a := rfl
end Go.Canon
namespace Go.Canon
set_option linter.unusedVariables false
set_option linter.unusedSimpArgs false
open Go
variable {t : Clk} {c : Circ}
theorem loop_meas1 {α σ : Type} {C : Cmb} [CmbOk C] {body : σ → (σ → Option α) → Option α} {r : Option α} (I : σ → Prop) (μ : σ → Nat) (step : ∀ x, I x → ∃ d : Option σ, (∀ y, d = some y → I y ∧ μ y < μ x) ∧ ∀ again, body x again = d.elim r again) (n : Nat) (x : σ) (hi : I x) (h : μ x < n) : @Cmb.loop C σ α body n x = r :=
  loop_meas I μ (fun x hx => by
    obtain ⟨d, h1, h2⟩ := step x hx
    cases d with
    | none => exact .inl h2
    | some y => exact .inr ⟨y, (h1 y rfl).1, (h1 y rfl).2, h2⟩) n x hi h
end Go.Canon
namespace Go.Canon
set_option linter.unusedVariables false
set_option linter.unusedSimpArgs false
open Go
variable {t : Clk} {c : Circ}
theorem max_of_fold {l : List Int} (h : ∀ x ∈ l, 0 ≤ x) : maxS l = l.foldl mx2 0 := by
  cases l with
  | nil => rfl
  | cons x l =>
    have := h x List.mem_cons_self
    show l.foldl mx2 x = l.foldl mx2 (mx2 0 x)
    rw [show mx2 0 x = x from by unfold mx2; split <;> omega]
theorem fold_le {B : Int} : ∀ {l : List Int} {m : Int}, m ≤ B → (∀ x ∈ l, x ≤ B) → l.foldl mx2 m ≤ B
  | [], m, h, _ => h
  | x :: l, m, h, hl => fold_le (l := l) (by have := hl x List.mem_cons_self; unfold mx2; split <;> omega) fun y hy => hl y (List.mem_cons_of_mem _ hy)
theorem fold_ge : ∀ {l : List Int} {m : Int}, m ≤ l.foldl mx2 m ∧ ∀ x ∈ l, x ≤ l.foldl mx2 m
  | [], m => ⟨Int.le_refl _, fun _ h => by cases h⟩
  | x :: l, m => by
    obtain ⟨h1, h2⟩ := fold_ge (l := l) (m := mx2 m x)
    have h3 : m ≤ mx2 m x ∧ x ≤ mx2 m x := by unfold mx2; split <;> omega
    rw [List.foldl_cons]
    refine ⟨by omega, fun y hy => ?_⟩
    rcases List.mem_cons.1 hy with rfl | hy
    · omega
    · exact h2 y hy
theorem ne0_t {e : Int} (h : e ≠ 0) : (e != ((0 : Nat) : Int)) = true := by
  show (e != 0) = true
  simpa using h
theorem ne0_f : ((0 : Int) != ((0 : Nat) : Int)) = false := rfl
theorem ok_of (h : Small c) (ht : t.2.2.1.length ≤ 40) (h2 : ∀ p ∈ t.2.2.1, List.length p = 2) (e : chk24 t c = 0) : Ok t c := ⟨h, ht, e, h2⟩
end Go.Canon
