/- SchedEarly, part 4: the canonical machine and the runs of the program's functions on it. No conditions. -/
import Derived.Carry
import Derived.ChangeArms
import Derived.ChangeOld
import Derived.ChangeShapes
import Derived.Deep.Slices
import Derived.FnData
import Derived.OpenShut
import Derived.Test.YtknbjjlaocecdaaDoorEaP3
set_option linter.unusedSectionVars false
set_option linter.unusedVariables false
set_option linter.unusedSimpArgs false
namespace Go.Canon
set_option linter.unusedVariables false
set_option linter.unusedSimpArgs false
open Go
variable [C0 : Cmb] [CmbOk C0]
variable {α : Type}
variable {w w' w2 wE : Wd} {h h' h2 hE : Heap} {vh vh' vh2 vhE : List VO} {fr fr' frE : Nat → Value} {P : Nat → Prop} {tp : Option Nat} {f : Fr} {m m' : List Nat} {hb : Nat}
/-- The pieces tell the thing. -/
theorem segs_inv : ∀ {t : Ty} {x : El t} {cs : List Value}, SgR w h (segs t x) cs → Rep w.F h t x cs := by
  intro t
  induction t with
  | int k => intro x cs H; cases H with | c hv hc H => cases H; cases hv; rfl
  | bool => intro x cs H; cases H with | c hv hc H => cases H; cases hv; rfl
  | str => intro x cs H; cases H with | c hv hc H => cases H; cases hv; rfl
  | sl t ih =>
    intro x cs H
    cases H with
    | c hv hc H =>
      cases H
      cases hv with
      | sl _ _ _ H => exact H
  | unit => intro x cs H; cases H; rfl
  | pair a b iha ihb =>
    intro x cs H
    have key : ∀ {p q : List (Sg V)} {cs : List Value}, SgR w h (p ++ q) cs → ∃ c1 c2, cs = c1 ++ c2 ∧ SgR w h p c1 ∧ SgR w h q c2 := by
      intro p
      induction p with
      | nil => intro q cs H; exact ⟨[], cs, rfl, .nil, H⟩
      | cons s p ihp =>
        intro q cs H
        cases H with
        | c hv hc H => obtain ⟨c1, c2, rfl, h1, h2⟩ := ihp H; exact ⟨_ :: c1, c2, rfl, .c hv hc h1, h2⟩
        | ar hn hx H => obtain ⟨c1, c2, rfl, h1, h2⟩ := ihp H; exact ⟨_ ++ c1, c2, by rw [List.append_assoc], .ar hn hx h1, h2⟩
    obtain ⟨c1, c2, rfl, h1, h2⟩ := key H
    exact ⟨c1, c2, rfl, iha h1, ihb h2⟩
  | arr n t ih => intro x cs H; exact sg_one H
  | ptr t ih =>
    intro x cs H
    cases H with
    | c hv hc H =>
      cases H
      cases hv with
      | fp _ _ _ _ b o row wr gr hF hb hg hl Hr =>
        have := hg rfl
        subst this
        exact ⟨b, o, row, wr, rfl, hF, hb, hl, Hr⟩
  | opt t ih =>
    intro x cs H
    cases H with
    | c hv hc H =>
      cases H
      cases hv with
      | np _ _ _ H => exact H
  | mp k v _ _ =>
    intro x cs H
    cases H with
    | c hv hc H =>
      cases H
      cases hv with
      | mp _ _ _ _ H => exact H
theorem encV_inv {t : Ty} {x : El t} {u : Value} (H : VR w h (encV t x) u) : ∃ cs, u = vals t cs ∧ Rep w.F h t x cs := by
  cases t with
  | unit => cases H with | g _ cs H => cases cs; cases H; exact ⟨[], rfl, rfl⟩
  | pair a b => cases H with | g _ cs H => exact ⟨cs.toList, by simp [vals], segs_inv H⟩
  | arr n t => cases H with | g _ cs H => exact ⟨cs.toList, by simp [vals], segs_inv (t := .arr n t) H⟩
  | sl t => exact ⟨[u], rfl, segs_inv (t := .sl t) (.c H (H.cell rfl) .nil)⟩
  | int k => exact ⟨[u], rfl, segs_inv (t := .int k) (.c H (H.cell rfl) .nil)⟩
  | bool => exact ⟨[u], rfl, segs_inv (t := .bool) (.c H (H.cell rfl) .nil)⟩
  | str => exact ⟨[u], rfl, segs_inv (t := .str) (.c H (H.cell rfl) .nil)⟩
  | ptr t => exact ⟨[u], rfl, segs_inv (t := .ptr t) (.c H (H.cell rfl) .nil)⟩
  | opt t => exact ⟨[u], rfl, segs_inv (t := .opt t) (.c H (H.cell rfl) .nil)⟩
  | mp k v => exact ⟨[u], rfl, segs_inv (t := .mp k v) (.c H (H.cell rfl) .nil)⟩
end Go.Canon
namespace Go.Canon
set_option linter.unusedVariables false
set_option linter.unusedSimpArgs false
open Go
variable [C0 : Cmb] [CmbOk C0]
variable {α : Type}
variable {w w' w2 wE : Wd} {h h' h2 hE : Heap} {vh vh' vh2 vhE : List VO} {fr fr' frE : Nat → Value} {P : Nat → Prop} {tp : Option Nat} {f : Fr} {m m' : List Nat} {hb : Nat}
theorem SgR.split : ∀ {p q : List (Sg V)} {cs : List Value}, SgR w h (p ++ q) cs → ∃ c1 c2, cs = c1 ++ c2 ∧ SgR w h p c1 ∧ SgR w h q c2 := by
  intro p
  induction p with
  | nil => intro q cs H; exact ⟨[], cs, rfl, .nil, H⟩
  | cons s p ihp =>
    intro q cs H
    cases H with
    | c hv hc H => obtain ⟨c1, c2, rfl, h1, h2⟩ := ihp H; exact ⟨_ :: c1, c2, rfl, .c hv hc h1, h2⟩
    | ar hn hx H => obtain ⟨c1, c2, rfl, h1, h2⟩ := ihp H; exact ⟨_ ++ c1, c2, by rw [List.append_assoc], .ar hn hx h1, h2⟩
/-- New objects among others: their names are other ones; pl: what does not change need not be known. -/
structure Shf (pl : Bool) (N n : Nat) (w' w2 : Wd) : Prop where
  ι : ∀ m, m < n → w2.ι[N + m]? = w'.ι[m]?
  F : pl = false → ∀ b, w'.F b → w2.F b
variable {pl : Bool} {N n : Nat}
theorem look_upR : ∀ {n N a : Nat}, lookR (upR N n) a = if a < n then some (N + a) else none
  | 0, N, a => by simp [upR, lookR]
  | n + 1, N, a => by
    simp only [upR, lookR, beq_c]
    by_cases e : n = a
    · subst e; simp
    · rw [if_neg e, look_upR]
      by_cases h : a < n
      · rw [if_pos h, if_pos (by omega)]
      · rw [if_neg h, if_neg (by omega)]
theorem Shf.rep (S : Shf pl N n w' w2) {t : Ty} (hp : pl = true → t.plain = true) {x : El t} {cs : List Value} (H : Rep w'.F h t x cs) : Rep w2.F h t x cs := by
  cases pl with
  | true => exact Rep.plain (hp rfl) H
  | false => exact H.mono (S.F rfl) fun _ _ => rfl
theorem Shf.ren (S : Shf pl N n w' w2) {v : V} (hv : v.okE = true) {u : Value} (H : VR w' h (v.ren (upR 0 n)) u) : VR w2 h (v.ren (upR N n)) u := by
  cases v with
  | gw x =>
    simp only [V.ren, look_upR] at H ⊢
    by_cases hx : x < n
    · rw [if_pos hx] at H ⊢
      simp only [Nat.zero_add] at H
      cases H with
      | gw _ a k hi => exact .gw _ a k (by rw [S.ι x hx]; exact hi)
    · rw [if_neg hx]; exact .un _
  | op x q j =>
    simp only [V.ren, look_upR] at H ⊢
    by_cases hx : x < n
    · rw [if_pos hx] at H ⊢
      simp only [Nat.zero_add] at H
      cases H with
      | op _ _ _ b k hi => exact .op _ _ _ b k (by rw [S.ι x hx]; exact hi)
    · rw [if_neg hx]; exact .un _
  | om x =>
    simp only [V.ren, look_upR] at H ⊢
    by_cases hx : x < n
    · rw [if_pos hx] at H ⊢
      simp only [Nat.zero_add] at H
      cases H with
      | om _ b k hi => exact .om _ b k (by rw [S.ι x hx]; exact hi)
    · rw [if_neg hx]; exact .un _
  | i k z => cases H; exact .i _ _
  | b x => cases H; exact .b _
  | s x => cases H; exact .s _
  | k x => cases H with | k _ hk => exact .k _ hk
  | un => exact .un _
  | gp g j => cases H with | gp _ _ hg => exact .gp _ _ hg
  | e0 => cases H with | e0 a ha => exact .e0 a ha
  | fn g a c =>
    cases a with
    | cons => cases hv
    | nil =>
      cases c with
      | cons => cases hv
      | nil =>
        cases H with
        | fn _ _ _ a' c' h1 h2 =>
          refine .fn _ _ _ a' c' ?_ ?_
          · generalize a'.toList = l at h1; cases h1; exact .nil
          · generalize c'.toList = l at h2; cases h2; exact .nil
  | tup l =>
    cases l with
    | cons => cases hv
    | nil =>
      cases H with
      | tup _ vs h1 =>
        refine .tup _ vs ?_
        generalize vs.toList = l at h1; cases h1; exact .nil
  | _ => cases hv
theorem Shf.s0S (S : Shf pl N n w' w2) {s : S0} (ho : s.okE = true) (hp : pl = true → s.plain = true) {x : El s.ty} {cs : List Value} (H : SgR w' h (s.encSR (upR 0 n) x) cs) : SgR w2 h (s.encSR (upR N n) x) cs := by
  cases s with
  | h t => exact segs_rep (S.rep hp (segs_inv H))
  | e v =>
    simp only [S0.encSR] at H ⊢
    cases H with
    | c hv hc H => cases H; exact .c (S.ren ho hv) hc .nil
theorem Shf.s0 (S : Shf pl N n w' w2) {s : S0} (ho : s.okE = true) (hp : pl = true → s.plain = true) {x : El s.ty} {u : Value} (H : VR w' h (s.encR (upR 0 n) x) u) : VR w2 h (s.encR (upR N n) x) u := by
  cases s with
  | h t =>
    obtain ⟨cs, rfl, hr⟩ := encV_inv (t := t) H
    exact encV_rep (S.rep hp hr)
  | e v => exact S.ren ho H
theorem Shf.l0 (S : Shf pl N n w' w2) : ∀ {l : List S0}, l.all S0.okE = true → (pl = true → l.all S0.plain = true) → ∀ {x : El (tys0 l)} {cs : List Value}, SgR w' h (enc0R (upR 0 n) l x) cs → SgR w2 h (enc0R (upR N n) l x) cs
  | [], _, _, x, cs, H => by cases H; exact .nil
  | s :: l, ho, hp, x, cs, H => by
    simp only [List.all_cons, Bool.and_eq_true] at ho hp
    obtain ⟨c1, c2, rfl, h1, h2⟩ := H.split
    exact (S.s0S ho.1 (fun e => (hp e).1) h1).append (S.l0 ho.2 (fun e => (hp e).2) h2)
theorem Shf.s1 (S : Shf pl N n w' w2) {s : S1} (ho : s.okE = true) (hp : pl = true → s.plain = true) {x : El s.ty} {u : Value} (H : VR w' h (s.encR (upR 0 n) x) u) : VR w2 h (s.encR (upR N n) x) u := by
  cases s with
  | s y => exact S.s0 ho hp H
  | g l => cases H with | g _ cs H => exact .g _ cs (S.l0 ho hp H)
theorem Shf.vs (S : Shf pl N n w' w2) : ∀ {l : List S1}, l.all S1.okE = true → (pl = true → l.all S1.plain = true) → ∀ {x : El (tys1 l)} {us : List Value}, VRs w' h (encVU (upR 0 n) l x) us → VRs w2 h (encVU (upR N n) l x) us
  | [], _, _, x, us, H => by cases H; exact .nil
  | s :: l, ho, hp, x, us, H => by
    simp only [List.all_cons, Bool.and_eq_true] at ho hp
    cases H with
    | cons hv H => exact .cons (S.s1 ho.1 (fun e => (hp e).1) hv) (S.vs ho.2 (fun e => (hp e).2) H)
theorem Shf.one (S : Shf pl N n w' w2) {l : List S1} (ho : l.all S1.okE = true) (hp : pl = true → l.all S1.plain = true) {x : El (tys1 l)} {u : Value} (H : VR w' h (Go.Canon.one (encVU (upR 0 n) l x)) u) : VR w2 h (Go.Canon.one (encVU (upR N n) l x)) u := by
  have tup : ∀ {a b : List V} {u : Value}, (∀ us, VRs w' h a us → VRs w2 h b us) → VR w' h (.tup a) u → VR w2 h (.tup b) u := fun hh hq => by
    cases hq with
    | tup _ vs hr => exact .tup _ vs (hh _ hr)
  match l, x, ho, hp, H with
  | [], x, ho, hp, H => exact tup (fun us H => S.vs (l := []) ho hp (x := x) H) H
  | [s], x, ho, hp, H =>
    simp only [List.all_cons, Bool.and_eq_true] at ho hp
    exact S.s1 ho.1 (fun e => (hp e).1) H
  | s :: s' :: l, x, ho, hp, H => exact tup (fun us H => S.vs (l := s :: s' :: l) ho hp (x := x) H) H
theorem Shf.g1 (S : Shf pl N n w' w2) {s : SgS} (ho : s.okE = true) (hp : pl = true → s.plain = true) {x : El s.ty} {cs : List Value} (H : SgR w' h (s.encR (upR 0 n) x) cs) : SgR w2 h (s.encR (upR N n) x) cs := by
  cases s with
  | c y => exact S.s0S ho hp H
  | ar t k =>
    cases k with
    | none =>
      cases H with
      | ar hn hx H => cases H; exact .ar hn (hx.mono fun _ _ hr => S.rep hp hr) .nil
    | some k =>
      cases H with
      | ar hn hx H => cases H; exact .ar hn (hx.mono fun _ _ hr => S.rep hp hr) .nil
theorem Shf.gs (S : Shf pl N n w' w2) : ∀ {l : List SgS}, l.all SgS.okE = true → (pl = true → l.all SgS.plain = true) → ∀ {x : El (tysG l)} {cs : List Value}, SgR w' h (encGR (upR 0 n) l x) cs → SgR w2 h (encGR (upR N n) l x) cs
  | [], _, _, x, cs, H => by cases H; exact .nil
  | s :: l, ho, hp, x, cs, H => by
    simp only [List.all_cons, Bool.and_eq_true] at ho hp
    obtain ⟨c1, c2, rfl, h1, h2⟩ := H.split
    exact (S.g1 ho.1 (fun e => (hp e).1) h1).append (S.gs ho.2 (fun e => (hp e).2) h2)
end Go.Canon
namespace Go.Canon
set_option linter.unusedVariables false
set_option linter.unusedSimpArgs false
open Go
variable [C0 : Cmb] [CmbOk C0]
variable {α : Type}
variable {w w' w2 wE : Wd} {h h' h2 hE : Heap} {vh vh' vh2 vhE : List VO} {fr fr' frE : Nat → Value} {P : Nat → Prop} {tp : Option Nat} {f : Fr} {m m' : List Nat} {hb : Nat} {pl : Bool} {N n : Nat}
/-- Pieces of the same form. -/
inductive Sim : List (Sg V) → List (Sg V) → Prop
  | nil : Sim [] []
  | c {a b : V} {l l' : List (Sg V)} (H : Sim l l') : Sim (.c a :: l) (.c b :: l')
  | ar {t : Ty} {k : Nat} {x : List (El t)} {l l' : List (Sg V)} (H : Sim l l') : Sim (.ar t k x :: l) (.ar t k x :: l')
theorem Sim.refl : ∀ (l : List (Sg V)), Sim l l
  | [] => .nil
  | .c _ :: l => .c (Sim.refl l)
  | .ar .. :: l => .ar (Sim.refl l)
theorem Sim.app {a a' b b' : List (Sg V)} (H : Sim a a') (H2 : Sim b b') : Sim (a ++ b) (a' ++ b') := by
  induction H with
  | nil => exact H2
  | c _ ih => exact .c ih
  | ar _ ih => exact .ar ih
theorem sim_0 {ρ ρ' : Rn} (s : S0) (x : El s.ty) : Sim (s.encSR ρ x) (s.encSR ρ' x) := by
  cases s with
  | h t => exact .refl _
  | e v => exact .c .nil
theorem sim_g1 {ρ ρ' : Rn} (s : SgS) (x : El s.ty) : Sim (s.encR ρ x) (s.encR ρ' x) := by
  cases s with
  | c y => exact sim_0 y x
  | ar t k => cases k <;> exact .refl _
theorem sim_g {ρ ρ' : Rn} : ∀ (l : List SgS) (x : El (tysG l)), Sim (encGR ρ l x) (encGR ρ' l x)
  | [], _ => .nil
  | s :: l, x => (sim_g1 s x.1).app (sim_g l x.2)
theorem Sim.ar1 {l : List (Sg V)} {t : Ty} {k : Nat} {x : List (El t)} (H : Sim [.ar t k x] l) : l = [.ar t k x] := by
  cases H with
  | ar H => cases H; rfl
theorem Shf.o (S : Shf pl N n w' w2) {s : OSh} (ho : s.okE = true) (hp : pl = true → s.plain = true) {x : El s.ty} {p : Option Addr × Option Nat} (H : OR w' h (s.encR (upR 0 n) x) p) : OR w2 h (s.encR (upR N n) x) p := by
  cases s with
  | r l ng =>
    have sim := sim_g (ρ := upR 0 n) (ρ' := upR N n) l x
    rcases H with ⟨b, cs, gr, e1, e2, e3, e4, e5, e6⟩ | ⟨t, e1, e2, e3, e4⟩
    · refine .inl ⟨b, cs, gr, e1, e2, S.gs ho hp e3, e4, e5.imp (fun x => x) ?_, fun k hk => ?_⟩
      · rintro ⟨t, k, xs, e, eg⟩
        rw [e] at sim
        exact ⟨t, k, xs, sim.ar1, eg⟩
      · obtain ⟨t, xs, e⟩ := e6 k hk
        rw [e] at sim
        exact ⟨t, xs, sim.ar1⟩
    · rw [e1] at sim
      exact .inr ⟨t, sim.ar1, e2, e3, e4⟩
  | mp k v =>
    obtain ⟨b, ms, e1, e2, e3⟩ := H
    refine ⟨b, ms, e1, e2, e3.mono (fun _ _ ⟨cs, e, a⟩ => ⟨cs, e, S.rep (fun e => ?_) a⟩) fun _ _ ⟨cs, e, a⟩ => ⟨cs, e, S.rep (fun e => ?_) a⟩⟩
    · have := hp e
      simp only [OSh.plain, Bool.and_eq_true] at this
      exact this.1
    · have := hp e
      simp only [OSh.plain, Bool.and_eq_true] at this
      exact this.2
theorem encBU_len {ρ : Rn} : ∀ {l : List OSh} {x : El (tysB l)}, (encBU ρ l x).length = l.length
  | [], _ => rfl
  | s :: l, x => by simp [encBU, encBU_len]
theorem encBU_free {ρ : Rn} : ∀ {l : List OSh} {x : El (tysB l)} {o : VO}, o ∈ encBU ρ l x → o.free = true
  | [], _, o, h => by cases h
  | s :: l, x, o, h => by
    rcases List.mem_cons.1 h with rfl | h
    · exact encR_free _ _ _
    · exact encBU_free h
theorem Shf.bs (S : Shf pl N n w' w2) : ∀ {l : List OSh}, l.all OSh.okE = true → (pl = true → l.all OSh.plain = true) → ∀ {x : El (tysB l)} {k : Nat} {o : VO}, (encBU (upR N n) l x)[k]? = some o → ∃ o', (encBU (upR 0 n) l x)[k]? = some o' ∧ ∀ p, OR w' h o' p → OR w2 h o p
  | [], _, _, x, k, o, e => by simp [encBU] at e
  | s :: l, ho, hp, x, k, o, e => by
    simp only [List.all_cons, Bool.and_eq_true] at ho hp
    cases k with
    | zero => simp only [encBU, List.getElem?_cons_zero] at e ⊢; cases e; exact ⟨_, rfl, fun p H => S.o ho.1 (fun e => (hp e).1) H⟩
    | succ k => simp only [encBU, List.getElem?_cons_succ] at e ⊢; exact S.bs ho.2 (fun e => (hp e).2) e
/-- Typed arguments. -/
def ArgsR (F : Nat → Prop) (h : Heap) : (l : List Ty) → El (tys l) → List Value → Prop
  | [], _, us => us = []
  | t :: l, x, us => ∃ cs us', us = vals t cs :: us' ∧ Rep F h t x.1 cs ∧ ArgsR F h l x.2 us'
theorem ArgsR.mono {F F' : Nat → Prop} (hF : ∀ b, F b → F' b) : ∀ {l : List Ty} {x : El (tys l)} {us : List Value}, ArgsR F h l x us → ArgsR F' h l x us
  | [], _, _, H => H
  | t :: l, x, us, ⟨cs, us', e, a, b⟩ => ⟨cs, us', e, a.mono hF fun _ _ => rfl, b.mono hF⟩
theorem lookA_ok {G : Nat → List (Sg V)} (R : HR G w h vh) : ∀ {l : List Ty} {args : List V} {us : List Value} {x : El (tys l)} {i : List Nat}, VRs w h args us → lookA vh l args = some (x, i) → ArgsR (Fz w i) h l x us ∧ Alive vh i
  | [], [], us, x, i, H, e => by cases e; cases H; exact ⟨rfl, .nil⟩
  | [], v :: r, us, x, i, H, e => by simp [lookA] at e
  | t :: l, [], us, x, i, H, e => by simp [lookA] at e
  | t :: l, v :: r, us, x, i, H, e => by
    simp only [lookA] at e
    cases H with
    | cons hv H =>
      split at e
      · rename_i y i1 z i2 e1 e2
        cases e
        obtain ⟨cs, rfl, _, hr, ha⟩ := lookV_rep R.ha hv e1
        obtain ⟨a, b⟩ := lookA_ok R H e2
        exact ⟨⟨cs, _, rfl, hr.mono Fz_mono_l fun _ _ => rfl, a.mono Fz_mono_r⟩, ha.app b⟩
      · cases e
/-- What a contract says of a function. -/
def ConOk (T : Nat → Option KFunc) (G : Nat → List (Sg V)) (g : Nat) (c : Con) : Prop :=
  ∀ (F : Nat → Prop) (h : Heap) (x : El (tys c.ins)) (us : List Value) (r : El c.out.ty), HR G ⟨[], F, []⟩ h [] → ArgsR F h c.ins x us → c.run x = some r →
    ∃ u h' w', Ret T g us h u h' ∧ HR G w' h' (encBU (upR 0 c.out.ob.length) c.out.ob r.2) ∧ VR w' h' (one (encVU (upR 0 c.out.ob.length) c.out.vals r.1)) u ∧ h <+: h' ∧
      (∀ b, F b → w'.F b) ∧ (∀ b, w'.F b → F b ∨ h.length ≤ b) ∧ ∀ b, Own w' (encBU (upR 0 c.out.ob.length) c.out.ob r.2) b → h.length ≤ b
/-- What a contract says of a function that changes an object of its caller's. -/
def MConOk (T : Nat → Option KFunc) (G : Nat → List (Sg V)) (g : Nat) (c : MCon) : Prop :=
  ∀ (F : Nat → Prop) (h : Heap) (b : Nat) (y : El c.sty) (x : El (tys c.ins)) (us : List Value) (r : El (tys c.outs)) (y' : El c.sty), HR G ⟨[(some ⟨b, 0, none⟩, none)], F, []⟩ h [.row (segs c.sty y) true false] → ArgsR F h c.ins x us → c.run (y, x) = some (r, y') →
    ∃ u h' w', Ret T g (.pointer (some ⟨b, 0, none⟩) :: us) h u h' ∧ HR G w' h' [.row (segs c.sty y') true false] ∧ w'.ι = [(some ⟨b, 0, none⟩, none)] ∧ VR w' h' (one (encA c.outs r)) u ∧ h.length ≤ h'.length ∧ (∀ b', b' < h.length → b' ≠ b → h'[b']? = h[b']?) ∧
      (∀ b, F b → w'.F b) ∧ (∀ b, w'.F b → F b ∨ h.length ≤ b)
end Go.Canon
namespace Go.Canon
set_option linter.unusedVariables false
set_option linter.unusedSimpArgs false
open Go
variable [C0 : Cmb] [CmbOk C0]
variable {α : Type}
variable {w w' w2 wE : Wd} {h h' h2 hE : Heap} {vh vh' vh2 vhE : List VO} {fr fr' frE : Nat → Value} {P : Nat → Prop} {tp : Option Nat} {f : Fr} {m m' : List Nat} {hb : Nat} {pl : Bool} {N n : Nat}
variable {T : Nat → Option KFunc} {G : Nat → List (Sg V)}
theorem objAt_appL {l : List VO} {id : Nat} (hid : id < vh.length) : objAt (vh ++ l) id = objAt vh id := by
  unfold objAt; rw [List.getD_eq_getElem?_getD, List.getD_eq_getElem?_getD, List.getElem?_append_left hid]
theorem objAt_appR {l : List VO} {id : Nat} (hid : vh.length ≤ id) : objAt (vh ++ l) id = objAt l (id - vh.length) := by
  unfold objAt; rw [List.getD_eq_getElem?_getD, List.getD_eq_getElem?_getD, List.getElem?_append_right hid]
theorem objAt_encBU {ρ : Rn} {l : List OSh} {x : El (tysB l)} {id : Nat} : (objAt (encBU ρ l x) id).free = true ∨ objAt (encBU ρ l x) id = .gone := by
  unfold objAt
  rw [List.getD_eq_getElem?_getD]
  cases e : (encBU ρ l x)[id]? with
  | none => exact .inr rfl
  | some o => exact .inl (encBU_free (List.mem_of_getElem? e))
theorem HR.none (R : HR G w h vh) {F : Nat → Prop} (hF : ∀ b, w.F b → F b) (hl : ∀ b, F b → b < h.length) : HR G ⟨[], F, []⟩ h [] :=
  ⟨rfl, fun id o p ho => by simp at ho, fun i j b ⟨_, e⟩ => by simp at e, fun b ⟨_, ⟨_, e⟩, _⟩ => by simp at e, fun b ⟨_, ⟨_, e⟩, _⟩ => by simp at e, hl, fun g hg => by
    obtain ⟨a, cs, wr, b, c⟩ := R.gl g hg
    exact ⟨hF _ a, cs, wr, b, SgR.mono (w := ⟨[], w.F, []⟩) (w' := ⟨[], F, []⟩) ⟨fun _ _ e => e, hF, fun _ _ => rfl, fun _ _ e => e⟩ c⟩⟩
/-- What a contract hands back, put to what there is. -/
theorem con_put (R : HR G w h vh) {F0 : Nat → Prop} {out : RS} {x : El out.ty} (ho : out.okE = true) (hpl : pl = true → out.plain = true) (hF0 : pl = false → ∀ b, F0 b → w.F b)
    (R' : HR G w' h' (encBU (upR 0 out.ob.length) out.ob x.2)) {u : Value} (hv : VR w' h' (one (encVU (upR 0 out.ob.length) out.vals x.1)) u) (hp : h <+: h') (h1 : ∀ b, w'.F b → F0 b ∨ h.length ≤ b) (h2 : ∀ b, Own w' (encBU (upR 0 out.ob.length) out.ob x.2) b → h.length ≤ b) :
    ∃ w2, HR G w2 h' (vh ++ encBU (upR vh.length out.ob.length) out.ob x.2) ∧ VR w2 h' (one (encVU (upR vh.length out.ob.length) out.vals x.1)) u ∧ ∀ tp, Le (fun id => id < vh.length) tp w h vh w2 h' (vh ++ encBU (upR vh.length out.ob.length) out.ob x.2) := by
  let w2 : Wd := ⟨w.ι ++ w'.ι, fun b => w.F b ∨ (w'.F b ∧ h.length ≤ b), w.y⟩
  have hlen : h.length ≤ h'.length := hp.length_le
  have S : Shf pl vh.length out.ob.length w' w2 := ⟨fun m _ => by
    show (w.ι ++ w'.ι)[vh.length + m]? = _
    rw [← R.len, List.getElem?_append_right (by omega)]
    congr 1; omega, fun e b hb => by
    rcases h1 b hb with h1 | h1
    · exact .inl (hF0 e b h1)
    · exact .inr ⟨hb, h1⟩⟩
  simp only [RS.okE, RS.plain, Bool.and_eq_true] at ho hpl
  have hl' : w'.ι.length = out.ob.length := by rw [R'.len, encBU_len]
  have L : Wle w h w2 h' := ⟨fun id o e => by
    show (w.ι ++ w'.ι)[id]? = _
    rw [List.getElem?_append_left (List.getElem?_eq_some_iff.1 e).1]; exact e, fun b hb => .inl hb, fun b hb => prefix_at hp (R.Fl b hb), fun _ _ e => e⟩
  have hat : ∀ {id b}, atB w2 id b → (id < vh.length ∧ atB w id b) ∨ (vh.length ≤ id ∧ atB w' (id - vh.length) b) := fun {id b} ⟨mm, e⟩ => by
    have e : (w.ι ++ w'.ι)[id]? = _ := e
    rw [List.getElem?_append, R.len] at e
    split at e
    · rename_i hh; exact .inl ⟨hh, mm, e⟩
    · rename_i hh; exact .inr ⟨by omega, mm, e⟩
  have hal : ∀ {id}, (objAt (encBU (upR vh.length out.ob.length) out.ob x.2) id).alive = true → (objAt (encBU (upR 0 out.ob.length) out.ob x.2) id).alive = true := fun {id} ha => by
    have hid : id < out.ob.length := by
      by_cases hh : id < out.ob.length
      · exact hh
      · rw [objAt_gone (by rw [encBU_len]; omega)] at ha; cases ha
    rcases objAt_encBU (ρ := upR 0 out.ob.length) (l := out.ob) (x := x.2) (id := id) with e | e
    · exact VO.free_alive e
    · exfalso
      have := List.getElem?_eq_getElem (l := encBU (upR 0 out.ob.length) out.ob x.2) (i := id) (by rw [encBU_len]; exact hid)
      have h3 := encBU_free (List.mem_of_getElem? this)
      rw [← getElem_objAt this, e] at h3; cases h3
  have hown : ∀ {b}, Own w2 (vh ++ encBU (upR vh.length out.ob.length) out.ob x.2) b → Own w vh b ∨ Own w' (encBU (upR 0 out.ob.length) out.ob x.2) b := fun {b} ⟨id, e, a⟩ => by
    rcases hat e with ⟨e1, e2⟩ | ⟨e1, e2⟩
    · rw [objAt_appL e1] at a; exact .inl ⟨id, e2, a⟩
    · rw [objAt_appR e1] at a; exact .inr ⟨_, e2, hal a⟩
  refine ⟨w2, ⟨by simp [w2, R.len, hl', encBU_len], fun id o p hx hq => ?_, fun i j b hi hj ai aj => ?_, fun b hb hf => ?_, fun b hb => ?_, fun b hb => ?_, glob_mono L R.gl⟩, S.one ho.1 (fun e => (hpl e).1) hv, fun tp => ?_⟩
  · have hq : (w.ι ++ w'.ι)[id]? = _ := hq
    rw [List.getElem?_append] at hx hq
    rw [R.len] at hq
    split at hx
    · rename_i hh
      rw [if_pos hh] at hq
      exact (R.ob id o p hx hq).mono L fun b e ha => prefix_at hp (R.lt b ⟨id, ⟨p.2, by rw [hq, ← e]⟩, by rw [getElem_objAt hx]; exact ha⟩)
    · rename_i hh
      rw [if_neg hh] at hq
      obtain ⟨o', e1, e2⟩ := S.bs ho.2 (fun e => (hpl e).2) hx
      exact e2 p (R'.ob _ _ _ e1 hq)
  · rcases hat hi with ⟨i1, i2⟩ | ⟨i1, i2⟩ <;> rcases hat hj with ⟨j1, j2⟩ | ⟨j1, j2⟩
    · rw [objAt_appL i1] at ai; rw [objAt_appL j1] at aj
      exact R.inj _ _ _ i2 j2 ai aj
    · rw [objAt_appL i1] at ai; rw [objAt_appR j1] at aj
      have a1 := R.lt b ⟨i, i2, ai⟩
      have a2 := h2 b ⟨_, j2, hal aj⟩
      omega
    · rw [objAt_appR i1] at ai; rw [objAt_appL j1] at aj
      have a1 := R.lt b ⟨j, j2, aj⟩
      have a2 := h2 b ⟨_, i2, hal ai⟩
      omega
    · rw [objAt_appR i1] at ai; rw [objAt_appR j1] at aj
      have := R'.inj _ _ _ i2 j2 (hal ai) (hal aj)
      omega
  · rcases hown hb with hb | hb <;> rcases hf with hf | ⟨hf, hf2⟩
    · exact R.nF b hb hf
    · have := R.lt b hb; omega
    · have := R.Fl b hf; have := h2 b hb; omega
    · exact R'.nF b hb hf
  · rcases hown hb with hb | hb
    · exact Nat.lt_of_lt_of_le (R.lt b hb) hlen
    · exact R'.lt b hb
  · rcases hb with hb | ⟨hb, _⟩
    · exact Nat.lt_of_lt_of_le (R.Fl b hb) hlen
    · exact R'.Fl b hb
  · have hlk : ∀ id, Lk vh id → Lk (vh ++ encBU (upR vh.length out.ob.length) out.ob x.2) id := fun id hh => by
      unfold Lk; rw [objAt_appL hh.lt]; exact hh
    refine ⟨hlen, rfl, fun id _ o e => L.ι id o e, fun id hh => ⟨hlk id hh, ?_⟩, fun b hb => .inl hb, fun b hb => ?_, fun b hb _ _ => prefix_at hp hb, fun b hb => (hown hb).imp (fun x => x) (h2 b), fun b ⟨id, e, a⟩ => ?_, fun id hh => ?_⟩
    · show (w.ι ++ w'.ι)[id]? = _
      rw [List.getElem?_append_left (by rw [R.len]; exact hh.lt)]
    · rcases hb with hb | ⟨_, hb⟩
      · exact .inl hb
      · exact .inr (.inr hb)
    · rcases hat e with ⟨e1, e2⟩ | ⟨e1, e2⟩
      · rw [objAt_appL e1] at a; exact .inl ⟨id, e2, a⟩
      · rw [objAt_appR e1] at a; exact .inr (h2 b ⟨_, e2, hal (VO.free_alive a)⟩)
    · by_cases hid : id < vh.length
      · unfold Lk at hh; rw [objAt_appL hid] at hh; exact hh
      · unfold Lk at hh
        rw [objAt_appR (by omega)] at hh
        rcases objAt_encBU (ρ := upR vh.length out.ob.length) (l := out.ob) (x := x.2) (id := id - vh.length) with e | e
        · rw [e] at hh; cases hh.2
        · rw [e] at hh; cases hh.1
end Go.Canon
namespace Go.Canon
set_option linter.unusedVariables false
set_option linter.unusedSimpArgs false
open Go
variable [C0 : Cmb] [CmbOk C0]
variable {w w' w2 wE : Wd} {h h' h2 hE : Heap} {vh vh' vh2 vhE : List VO}
variable {T : Nat → Option KFunc} {G : Nat → List (Sg V)}
theorem encA_mono {F2 : Nat → Prop} (hF : ∀ b, w'.F b → w2.F b) : ∀ {l : List Ty} {r : El (tys l)} {us : List Value}, VRs w' h (encA l r) us → VRs w2 h (encA l r) us
  | [], _, us, H => by cases H; exact .nil
  | t :: l, r, us, H => by
    cases H with
    | cons hv H =>
      obtain ⟨cs, rfl, hr⟩ := encV_inv (t := t) hv
      exact .cons (encV_rep (hr.mono hF fun _ _ => rfl)) (encA_mono (F2 := F2) hF H)
theorem oneA_mono (hF : ∀ b, w'.F b → w2.F b) {l : List Ty} {r : El (tys l)} {u : Value} (H : VR w' h (one (encA l r)) u) : VR w2 h (one (encA l r)) u := by
  have tup : ∀ {a : List V} {u : Value}, (∀ us, VRs w' h a us → VRs w2 h a us) → VR w' h (.tup a) u → VR w2 h (.tup a) u := fun hh hq => by
    cases hq with
    | tup _ vs hr => exact .tup _ vs (hh _ hr)
  match l, r, H with
  | [], r, H => exact tup (fun us H => encA_mono (F2 := w2.F) (l := []) hF (r := r) H) H
  | [t], r, H =>
    obtain ⟨cs, rfl, hr⟩ := encV_inv (t := t) H
    exact encV_rep (t := t) (hr.mono hF fun _ _ => rfl)
  | t :: t' :: l, r, H => exact tup (fun us H => encA_mono (F2 := w2.F) (l := t :: t' :: l) hF (r := r) H) H
/-- One object among others, alone. -/
theorem solo_hr {sty : Ty} {y : El sty} {id b : Nat} {m : Option Nat} {l : List (Sg V)} (R : HR G w h vh) (hi : w.ι[id]? = some (some ⟨b, 0, none⟩, m)) (ho : objAt vh id = .row l true false) (hl : lookS vh sty l = some (y, [], [])) : HR G ⟨[(some ⟨b, 0, none⟩, none)], w.F, []⟩ h [.row (segs sty y) true false] := by
  obtain ⟨p, hp, hor⟩ := R.at ho rfl
  rw [hi] at hp
  cases hp
  have hown : Own w vh b := ⟨id, ⟨m, hi⟩, by rw [ho]; rfl⟩
  have one : ∀ {i : Nat}, (objAt [VO.row (segs sty y) true false] i).alive = true → i = 0 := fun {i} hh => by
    cases i with
    | zero => rfl
    | succ i => simp [objAt, VO.alive] at hh
  have at0 : ∀ {b' : Nat}, atB ⟨[(some ⟨b, 0, none⟩, none)], w.F, []⟩ 0 b' → b' = b := fun {b'} ⟨mm, e⟩ => by
    simp only [List.getElem?_cons_zero, Option.some.injEq, Prod.mk.injEq, Addr.mk.injEq] at e
    exact e.1.1.symm
  refine ⟨rfl, fun i o p h1 h2 => ?_, fun i j b' _ _ a1 a2 => by rw [one a1, one a2], fun b' ⟨i, e, a⟩ => ?_, fun b' ⟨i, e, a⟩ => ?_, R.Fl, R.gl⟩
  · cases i with
    | succ i => simp at h1
    | zero =>
      simp only [List.getElem?_cons_zero, Option.some.injEq] at h1 h2
      subst h1 h2
      rcases hor with ⟨b1, cs, gr, e1, e2, e3, e4, e5, e6⟩ | ⟨t, _, _, _, e⟩
      · obtain ⟨c1, c2, rfl, hr, hs, _⟩ := lookS_rep R.ha sty l cs y [] [] e3 hl
        cases hs
        rw [List.append_nil] at e2
        have hgr : gr = .none := e4 rfl
        refine .inl ⟨b1, c1, gr, e1, e2, segs_rep (hr.mono (fun b hb => ?_) fun _ _ => rfl), e4, .inl hgr, fun n hn => by cases hn⟩
        rcases hb with hb | ⟨_, hb, _⟩
        · exact hb
        · cases hb
      · cases e
  · obtain rfl := one a
    rw [at0 e]
    exact R.nF b hown
  · obtain rfl := one a
    rw [at0 e]
    exact R.lt b hown
/-- More does not change. -/
theorem solo_fz {sty : Ty} {y : El sty} {b : Nat} {F F2 : Nat → Prop} (R : HR G ⟨[(some ⟨b, 0, none⟩, none)], F, []⟩ h [.row (segs sty y) true false]) (hF : ∀ b, F b → F2 b) (hb : ∀ b', F2 b' → b' ≠ b) (hl : ∀ b, F2 b → b < h.length) : HR G ⟨[(some ⟨b, 0, none⟩, none)], F2, []⟩ h [.row (segs sty y) true false] := by
  have L : Wle ⟨[(some ⟨b, 0, none⟩, none)], F, []⟩ h ⟨[(some ⟨b, 0, none⟩, none)], F2, []⟩ h := ⟨fun _ _ e => e, hF, fun _ _ => rfl, fun _ _ e => e⟩
  have at0 : ∀ {i b' : Nat}, atB ⟨[(some ⟨b, 0, none⟩, none)], F2, []⟩ i b' → b' = b := fun {i b'} ⟨mm, e⟩ => by
    cases i with
    | succ i => simp at e
    | zero =>
      simp only [List.getElem?_cons_zero, Option.some.injEq, Prod.mk.injEq, Addr.mk.injEq] at e
      exact e.1.1.symm
  refine ⟨rfl, fun i o p h1 h2 => (R.ob i o p h1 h2).mono L fun _ _ _ => rfl, R.inj, fun b' ⟨i, e, a⟩ hf => hb b' hf (at0 e), R.lt, hl, glob_mono L R.gl⟩
/-- What a call hands back that has changed an object. -/
theorem mcon_put {sty : Ty} {y' : El sty} {id b : Nat} {m : Option Nat} {l : List (Sg V)} {outs : List Ty} {r : El (tys outs)} {F0 : Nat → Prop} {u : Value} (R : HR G w h vh) (hi : w.ι[id]? = some (some ⟨b, 0, none⟩, m)) (ho : objAt vh id = .row l true false) (hne : oneAr l = false) (hF0 : ∀ b, F0 b → w.F b)
    (R' : HR G w' h' [.row (segs sty y') true false]) (hι : w'.ι = [(some ⟨b, 0, none⟩, none)]) (hv : VR w' h' (one (encA outs r)) u) (hlen : h.length ≤ h'.length) (hh : ∀ b', b' < h.length → b' ≠ b → h'[b']? = h[b']?) (h1 : ∀ b, w'.F b → F0 b ∨ h.length ≤ b) :
    ∃ w2, HR G w2 h' (vh.set id (.row (segs sty y') true false)) ∧ VR w2 h' (one (encA outs r)) u ∧ ∀ P tp, Le P tp w h vh w2 h' (vh.set id (.row (segs sty y') true false)) := by
  let w2 : Wd := ⟨w.ι, fun b => w.F b ∨ (w'.F b ∧ h.length ≤ b), w.y⟩
  have hid : id < vh.length := by rw [← R.len]; exact (List.getElem?_eq_some_iff.1 hi).1
  have hal0 : (objAt vh id).alive = true := by rw [ho]; rfl
  have hU : OwnU w vh b := ⟨id, ⟨m, hi⟩, by rw [ho]; rfl⟩
  have hown0 : Own w vh b := hU.own
  have hF2 : ∀ b, w'.F b → w2.F b := fun b hb => by
    rcases h1 b hb with x | x
    · exact .inl (hF0 b x)
    · exact .inr ⟨hb, x⟩
  have L : Wle w h w2 h' := ⟨fun _ _ e => e, fun _ hb => .inl hb, fun b' hb => hh b' (R.Fl b' hb) fun e => R.nF b hown0 (e ▸ hb), fun _ _ e => e⟩
  have oat : ∀ i, objAt (vh.set id (.row (segs sty y') true false)) i = if i = id then .row (segs sty y') true false else objAt vh i := fun i => by
    rw [objAt_set]
    by_cases e : id = i
    · subst e; rw [if_pos ⟨rfl, hid⟩, if_pos rfl]
    · rw [if_neg (fun x => e x.1), if_neg (fun x => e x.symm)]
  have hal : ∀ i, (objAt (vh.set id (.row (segs sty y') true false)) i).alive = (objAt vh i).alive := fun i => by
    rw [oat]; split
    · rename_i e; rw [e, hal0]; rfl
    · rfl
  have hfr : ∀ i, (objAt (vh.set id (.row (segs sty y') true false)) i).free = (objAt vh i).free := fun i => by
    rw [oat]; split
    · rename_i e; rw [e, ho]; rfl
    · rfl
  have hat : ∀ {i b'}, atB w2 i b' → atB w i b' := fun {i b'} e => e
  have hown : ∀ b', Own w2 (vh.set id (.row (segs sty y') true false)) b' → Own w vh b' := fun b' ⟨i, e, a⟩ => ⟨i, hat e, by rw [← hal]; exact a⟩
  have hownU : ∀ b', OwnU w2 (vh.set id (.row (segs sty y') true false)) b' → OwnU w vh b' := fun b' ⟨i, e, a⟩ => ⟨i, hat e, by rw [← hfr]; exact a⟩
  refine ⟨w2, ⟨by simp [w2, R.len], fun i o p hx hp => ?_, fun i j b' h1 h2 a1 a2 => R.inj i j b' (hat h1) (hat h2) (by rw [← hal]; exact a1) (by rw [← hal]; exact a2), fun b' hb hf => ?_, fun b' hb => Nat.lt_of_lt_of_le (R.lt b' (hown b' hb)) hlen, fun b' hb => ?_, glob_mono L R.gl⟩, oneA_mono hF2 hv, fun P tp => ?_⟩
  · have e0 := getElem_objAt hx
    rw [oat] at e0
    by_cases e : i = id
    · subst e
      rw [if_pos rfl] at e0
      subst e0
      have hp : w.ι[i]? = some p := hp
      rw [hi] at hp
      cases hp
      obtain ⟨q, hq, hor⟩ := R'.at (id := 0) (o := .row (segs sty y') true false) rfl rfl
      rw [hι] at hq
      cases hq
      rcases hor with ⟨b1, cs, gr, e1, e2, e3, e4, e5, e6⟩ | ⟨t, _, _, _, e⟩
      · simp only [Option.some.injEq, Addr.mk.injEq] at e1
        obtain ⟨rfl, _⟩ := e1
        refine .inl ⟨b, cs, gr, rfl, e2, segs_rep ((segs_inv e3).mono hF2 fun _ _ => rfl), e4, .inl (e4 rfl), fun n hn => ?_⟩
        obtain ⟨q, hq, hor⟩ := R.at ho rfl
        rw [hi] at hq
        cases hq
        rcases hor with ⟨_, _, _, _, _, _, _, _, e6⟩ | ⟨t, e, _⟩
        · obtain ⟨t, xs, e⟩ := e6 n hn
          subst e; cases hne
        · subst e; cases hne
      · cases e
    · rw [if_neg e] at e0
      have hx' : vh[i]? = some o := by
        rw [List.getElem?_set_ne (fun x => e x.symm)] at hx; exact hx
      refine (R.ob i o p hx' hp).mono L fun b' hb ha => hh b' (R.lt b' ⟨i, ⟨p.2, by rw [hp, ← hb]⟩, by rw [getElem_objAt hx']; exact ha⟩) fun eb => ?_
      subst eb
      exact e (R.inj i id b' ⟨p.2, by rw [hp, ← hb]⟩ ⟨m, hi⟩ (by rw [getElem_objAt hx']; exact ha) hal0)
  · have ho' := hown b' hb
    rcases hf with hf | ⟨_, hf⟩
    · exact R.nF b' ho' hf
    · have := R.lt b' ho'; omega
  · rcases hb with hb | ⟨hb, _⟩
    · exact Nat.lt_of_lt_of_le (R.Fl b' hb) hlen
    · exact R'.Fl b' hb
  · have hlk : ∀ i, Lk vh i ↔ Lk (vh.set id (.row (segs sty y') true false)) i := fun i => by
      unfold Lk
      rw [oat]
      by_cases e : i = id
      · subst e; rw [if_pos rfl, ho]; simp [VO.free, VO.alive]
      · rw [if_neg e]
    refine ⟨hlen, rfl, fun _ _ _ e => e, fun i hh => ⟨(hlk i).1 hh, rfl⟩, fun _ hb => .inl hb, fun b' hb => ?_, fun b' hb hn _ => hh b' hb fun e => hn (e ▸ hU), fun b' hb => .inl (hown b' hb), fun b' hb => .inl (hownU b' hb), fun i hh => (hlk i).2 hh⟩
    rcases hb with hb | ⟨_, hb⟩
    · exact .inl hb
    · exact .inr (.inr hb)
end Go.Canon
namespace Go.Canon
set_option linter.unusedVariables false
set_option linter.unusedSimpArgs false
open Go
variable [C0 : Cmb] [CmbOk C0]
variable {α : Type}
variable {w w' w2 wE : Wd} {h h' h2 hE : Heap} {vh vh' vh2 vhE : List VO}
variable {T : Nat → Option KFunc} {G : Nat → List (Sg V)} {H : Hs} {R : Vm α} {C : Cx α}
theorem bind_some {α β : Type} {o : Option α} {f : α → Option β} {r : β} (e : o.bind f = some r) : ∃ x, o = some x ∧ f x = some r := by
  cases o with
  | none => cases e
  | some x => exact ⟨x, rfl, e⟩
theorem vArgs_ok {r : α} : ∀ {l : List Ty} {vs : List V} {us : List Value} {K : List V → Option α}, VRs w h vs us → vArgs l vs K = some r → ∃ vs', VRs w h vs' us ∧ K vs' = some r
  | [], vs, us, K, H, e => by cases vs <;> exact ⟨_, H, e⟩
  | t :: l, [], us, K, H, e => ⟨[], H, e⟩
  | t :: l, v :: vs, us, K, H, e => by
    cases H with
    | cons hv Ht =>
      have dflt : ∀ {v : V} {u : Value} {us : List Value}, VR w h v u → VRs w h vs us → (vArgs l vs fun r => K (v :: r)) = some r → ∃ vs', VRs w h vs' (u :: us) ∧ K vs' = some r := fun hv Ht e => by
        obtain ⟨vs', a, b⟩ := vArgs_ok Ht e
        exact ⟨_, .cons hv a, b⟩
      simp only [vArgs] at e
      split at e
      · split at e
        · rename_i t' x
          split at e
          · rename_i y
            cases hv with
            | np _ _ v Hr =>
              obtain ⟨b, o, row, wr, e1, h2, h3, h4, h5⟩ := Hr
              cases e1
              have := VR.fp (w := w) t' y 0 true b o row wr none h2 h3 (fun _ => rfl) h4 h5
              exact dflt this Ht e
          · cases e
        · exact dflt hv Ht e
      · exact dflt hv Ht e
theorem pre_un {l : List Nat} (hp : h <+: h') : h.length ≤ h'.length ∧ ∀ b, b < h.length → (∀ id ∈ l, ¬ atB w id b) → h'[b]? = h[b]? := ⟨hp.length_le, fun b hb _ => prefix_at hp hb⟩
theorem vLook_ok {r : α} {t : Ty} {v : V} {K : El t → List Nat → Option α} (e : vLook vh t v K = some r) : ∃ x i, lookV vh t v = some (x, i) ∧ K x i = some r := by
  unfold vLook at e
  split at e
  · rename_i t id sz o n c K
    split at e
    · rename_i t' m l lk ng ho
      split at e
      · rename_i ht
        obtain ⟨hb, e⟩ := grd_some e
        refine ⟨_, _, ?_, e⟩
        simp only [lookV, isG, Ty.wide, if_true, segV, lookS, lk1, lookSl, ho, dif_pos ht, hb, cond_true]
      · cases e
    · cases e
  · split at e
    · exact ⟨_, _, by assumption, e⟩
    · cases e
theorem vLookA_ok {r : α} : ∀ {l : List Ty} {vs : List V} {K : El (tys l) → List Nat → Option α}, vLookA vh l vs K = some r → ∃ x i, lookA vh l vs = some (x, i) ∧ K x i = some r
  | [], [], K, e => ⟨_, _, rfl, e⟩
  | [], _ :: _, K, e => by cases e
  | _ :: _, [], K, e => by cases e
  | t :: l, v :: vs, K, e => by
    obtain ⟨x, i, h1, e⟩ := vLook_ok e
    obtain ⟨y, i', h2, e⟩ := vLookA_ok e
    exact ⟨(x, y), i ++ i', by simp only [lookA, h1, h2], e⟩
theorem callv_ok (Cal : CallOk (α := α) T G R.call) (Cons : ∀ g c, H.con g = some c → ConOk T G g c) (ConsM : ∀ g c, H.mcon g = some c → MConOk T G g c) (hT : C.T = T) (hG : C.G = G) (ok : C.Ok) : CallVOk C T H R := by
  intro pure g args vh pd k r hc hb w h us S Hv K Z
  subst hG
  have St : ∀ {vh2 : List VO} {w2 : Wd} {h2 : Heap}, HR C.G w2 h2 vh2 → Le (fun id => id < vh.length) none w h vh w2 h2 vh2 → C.St w2 h2 vh2 pd := fun R2 L2 =>
    ⟨R2, ok.st (L2.qst S.hr S.tp fun id hid => Nat.lt_of_lt_of_le hid hb) S.q, S.tp.le L2.none_tp, by rw [L2.y]; exact S.dep⟩
  simp only [vCall] at hc
  split at hc
  · rename_i c hcon
    simp only [vCallM] at hc
    have hpure : True := trivial
    · split at hc
      · rename_i id rest
        split at hc
        · rename_i l ho
          split at hc
          · rename_i y hl
            cases Hv with
            | @cons _ u0 _ us hv0 Hv =>
              cases hv0 with
              | op _ _ _ b m hi =>
                obtain ⟨rest, Hv, hc⟩ := vArgs_ok Hv hc
                obtain ⟨x, i, hla, hc⟩ := vLookA_ok hc
                · split at hc
                  · rename_i hh
                    simp only [Bool.and_eq_true, Bool.not_eq_true'] at hh
                    obtain ⟨hne, hfr, hni⟩ := hh
                    have hnid : id ∉ i := fun hm => by
                      have := List.all_eq_true.1 hni id hm
                      simp at this
                    obtain ⟨a1, a2⟩ := lookA_ok S.hr Hv hla
                    obtain ⟨R1, S1⟩ := S.hr.frz hfr
                    have ho1 : objAt (kill i vh) id = .row l true false := by rw [objAt_kill, if_neg hnid]; exact ho
                    have hl1 : ∃ y1, lookS vh c.sty l = some (y1, [], []) := ⟨y, hl⟩
                    obtain ⟨⟨r1, y'⟩, e1, e2⟩ := bind_some hc
                    have R0 := solo_hr S.hr hi ho hl
                    have R0 : HR C.G ⟨[(some ⟨b, 0, none⟩, none)], (w.fz i).F, []⟩ h [.row (segs c.sty y) true false] := solo_fz R0 (fun b hb => .inl hb) (fun b' hb e => by
                      subst e
                      rcases hb with hb | ⟨j, hj, hb⟩
                      · exact S.hr.nF b' ⟨id, ⟨m, hi⟩, by rw [ho]; rfl⟩ hb
                      · have := S.hr.inj id j b' ⟨m, hi⟩ hb (by rw [ho]; rfl) (a2 j hj)
                        exact hnid (this ▸ hj)) R1.Fl
                    obtain ⟨u, h', w', b1, b2, b3, b4, b5, b6, b7, b8⟩ := ConsM g c hcon (w.fz i).F h b y x us r1 y' R0 a1 e1
                    obtain ⟨w2, c1, c2, c3⟩ := mcon_put R1 hi ho1 hne (fun b hb => hb) b2 b3 b4 b5 b6 b8
                    have L : ∀ tp, Le (fun id => id < vh.length) tp w h vh w2 h' _ := fun tp => (S1.le S.hr).trans (c3 _ tp)
                    have hptr : (Value.pointer (some ⟨b, offQ [] + 0, none⟩)) = .pointer (some ⟨b, 0, none⟩) := rfl
                    rw [hptr]
                    exact b1.call (Z _ _ _ _ w2 _ (St c1 (L none)) (L _) (fun _ => ⟨b5, fun b' hb' hn => b6 b' hb' fun e => hn id (by simp only [chV, hcon]; exact List.mem_singleton.2 rfl) ⟨m, by rw [e]; exact hi⟩⟩) c2 (by simp [kill_len]) e2)
                  · cases hc
          · cases hc
        · cases hc
      · cases hc
  · rename_i hmc
    clear hmc
    split at hc
    · rename_i c hcon
      obtain ⟨args, Hv, hc⟩ := vArgs_ok Hv hc
      obtain ⟨x, i, hla, hc⟩ := vLookA_ok hc
      · split at hc
        · cases hc
        · rename_i hoe
          have hoe : c.out.okE = true := by simpa using hoe
          obtain ⟨a1, a2⟩ := lookA_ok S.hr Hv hla
          have hFz : ∀ b, Fz w i b → b < h.length := fun b hb => by
            rcases hb with hb | ⟨id, hid, e⟩
            · exact S.hr.Fl b hb
            · exact S.hr.lt b ⟨id, e, a2 id hid⟩
          have R0 := S.hr.none (F := Fz w i) (fun b hb => .inl hb) hFz
          split at hc
          · rename_i hpl
            obtain ⟨y, e1, e2⟩ := bind_some hc
            obtain ⟨u, h', w', b1, b2, b3, b4, b5, b6, b7⟩ := Cons g c hcon (Fz w i) h x us y R0 a1 e1
            obtain ⟨w2, c1, c2, c3⟩ := con_put (pl := true) S.hr hoe (fun _ => hpl) (fun e => by cases e) b2 b3 b4 b6 b7
            exact b1.call (Z _ _ _ _ w2 _ (St c1 (c3 none)) (c3 _) (fun _ => pre_un b4) c2 (by simp) e2)
          · split at hc
            · rename_i hfr
              obtain ⟨y, e1, e2⟩ := bind_some hc
              obtain ⟨u, h', w', b1, b2, b3, b4, b5, b6, b7⟩ := Cons g c hcon (Fz w i) h x us y R0 a1 e1
              obtain ⟨R1, S1⟩ := S.hr.frz hfr
              obtain ⟨w2, c1, c2, c3⟩ := con_put (pl := false) R1 hoe (fun e => by cases e) (fun _ b hb => hb) b2 b3 b4 b6 b7
              rw [kill_len] at c1 c2 c3
              have L : ∀ tp, Le (fun id => id < vh.length) tp w h vh w2 h' _ := fun tp => (S1.le S.hr).trans (c3 tp)
              exact b1.call (Z _ _ _ _ w2 _ (St c1 (L none)) (L _) (fun _ => pre_un b4) c2 (by simp [kill_len]) e2)
            · cases hc
    · split at hc
      · rename_i hp
        let C' : Cx α := ⟨T, C.G, none, C.b0, fun _ _ _ => True, fun _ _ _ => none, C.dep⟩
        have ok' : C'.Ok := ⟨fun _ _ => trivial, fun _ _ _ e => by cases e⟩
        have R1 : HR C.G w h (vh.map VO.lock) := S.hr.same (by simp) fun id => .inr (.inl (objAt_map rfl))
        refine Cal C' g args (vh.map VO.lock) none _ r rfl rfl ok' (by simpa using hb) hc w h us ⟨R1, trivial, fun b e => (by cases e), S.dep⟩ Hv K fun v u vh' pd' w' h' S' L' hv hle hk => ?_
        have ha : ∀ id, (objAt (vh.map VO.lock) id).alive = (objAt vh id).alive := fun id => by rw [objAt_map rfl, VO.lock_alive]
        have hf : ∀ id, (objAt (vh.map VO.lock) id).free = true → (objAt vh id).free = true := fun id e => by rw [objAt_map rfl, VO.lock_free] at e; cases e
        obtain ⟨R2, L2⟩ := relock_ok S'.hr L' ha hf
        have L2 : Le (fun id => id < vh.length) none w h vh w' h' (relock vh vh') := L2.weak fun id hid => by simpa using hid
        refine Z v u _ pd w' h' (St R2 L2) L2.none_tp (fun _ => pre_un <| prefix_of L'.hl fun b hb => L'.fr b hb (fun ⟨id, _, e⟩ => ?_) (by simp [C'])) hv (by rw [relock_len]; simpa using hle) hk
        rw [objAt_map rfl, VO.lock_free] at e; cases e
      · exact Cal C g args vh pd k r hT rfl ok hb hc w h us S Hv K fun v u vh' pd' w' h' S' L' hv hle hk => Z v u vh' pd' w' h' S' L' (fun e => absurd e (by assumption)) hv hle hk
end Go.Canon
namespace Go.Canon
set_option linter.unusedVariables false
set_option linter.unusedSimpArgs false
open Go
variable [C0 : Cmb] [CmbOk C0]
open Classical
variable {T : Nat → Option KFunc} {fi : FI} {fr : Nat → Value} {h : Heap} {m : List Nat} {K : Ex → (Nat → Value) → Heap → List Nat → Prop}
def jumpE : Option KJump → Ex
  | none => .normal
  | some .ret => .ret
  | some (.exit id) => .exit id
theorem AX_rf {f : KO} {ps : List Nat} {a b : KC} {g : Nat} {x y : Array Value} (hf : f.ev fr = .func (.func g) x y) (hrd : fi.rd = none)
    (H : ACall T g (x.toList ++ [.func (.yield (h.length + 1)) #[] #[]] ++ y.toList) (h ++ [.mark, .loop { st := .ready, pending := none, fi := { fi with rd := some (h.length + 1) }, fr := fr, params := ps, assign := a, body := b, blk := h.length }])
      fun _ h' => ∃ rr, h'[h.length + 1]? = some (.loop rr) ∧ rr.st ≠ .busy ∧ K (jumpE rr.pending) fr (h'.set (h.length + 1) (.loop { rr with st := .exhausted })) (h.length :: m)) : AX T fi (.rf f ps a b) fr h m K := by
  obtain ⟨n, v, h', e, rr, e1, e2, k⟩ := H
  refine ⟨n + 2, jumpE rr.pending, ⟨fr, h'.set (h.length + 1) (.loop { rr with st := .exhausted }), h.length :: m⟩, ?_, k⟩
  unfold kcode
  simp only [hf, hrd]
  rw [kcall_up (Nat.le_succ n) e]
  unfold kafter
  simp only [e1, if_neg e2]
  cases hp : rr.pending with
  | none => simp [jumpE]
  | some j => cases j <;> simp [jumpE]
theorem ARound_of {l : Nat} {args : List Value} {h : Heap} {r0 : CLoop} {K : Value → Heap → Prop} (hl : h[l]? = some (.loop r0)) (hc : args.length = r0.params.length ∧ r0.st = .ready ∧ r0.fi.rd = some l)
    (H : AX T r0.fi r0.assign (putAll r0.fr r0.params args) h [] fun e fr1 h1 m1 => e = .normal ∧ m1 = [] ∧ ∃ r1, h1[l]? = some (.loop r1) ∧ r1.st = .ready ∧
      AX T r0.fi r0.body fr1 (h1.set l (.loop { r1 with st := .busy })) [] fun e2 fr2 h2 m2 => m2 = [] ∧ ∃ r2, h2[l]? = some (.loop r2) ∧ match e2 with
        | .normal => K (.bool true) (h2.set l (.loop { r2 with st := .ready, pending := none }))
        | .ret => K (.bool false) (h2.set l (.loop { r2 with st := .done, pending := some .ret }))
        | .exit id => K (.bool false) (h2.set l (.loop { r2 with st := .done, pending := some (.exit id) }))) : ARound T l args h K := by
  obtain ⟨n1, e1, s1, x1, rfl, hm1, r1, y1, z1, n2, e2, s2, x2, hm2, r2, y2, k⟩ := H
  have a1 := kcode_up (Nat.le_max_left n1 n2) x1
  have a2 := kcode_up (Nat.le_max_right n1 n2) x2
  have b2 : kcode T (max n1 n2) r0.fi r0.body { s1 with h := s1.h.set l (.loop { r1 with st := .busy }) } = some (e2, s2) := by rw [← a2, hm1]
  cases e2 with
  | normal =>
    refine ⟨max n1 n2 + 1, _, _, ?_, k⟩
    unfold kround
    simp only [hl]
    rw [if_pos hc, a1]
    simp only [y1, hm1]
    rw [if_pos z1, ← hm1, b2]
    simp only [y2, hm2]
  | ret =>
    refine ⟨max n1 n2 + 1, _, _, ?_, k⟩
    unfold kround
    simp only [hl]
    rw [if_pos hc, a1]
    simp only [y1, hm1]
    rw [if_pos z1, ← hm1, b2]
    simp only [y2, hm2]
  | exit id =>
    refine ⟨max n1 n2 + 1, _, _, ?_, k⟩
    unfold kround
    simp only [hl]
    rw [if_pos hc, a1]
    simp only [y1, hm1]
    rw [if_pos z1, ← hm1, b2]
    simp only [y2, hm2]
end Go.Canon
namespace Go.Canon
set_option linter.unusedVariables false
set_option linter.unusedSimpArgs false
open Go
variable [C0 : Cmb] [CmbOk C0]
variable {α : Type}
variable {w w' w2 wE : Wd} {h h' h2 hE : Heap} {vh vh' vh2 vhE : List VO} {fr fr' frE : Nat → Value} {P : Nat → Prop} {tp : Option Nat} {f : Fr} {m m' : List Nat} {hb : Nat}
variable {T : Nat → Option KFunc} {G : Nat → List (Sg V)} {H : Hs} {R : Vm α} {C : Cx α} {fi : Fi} {tag : Nat} {s s1 s' : VS} {k : Ex → VS → Option α} {r : α} {F : FI} {K : Ex → (Nat → Value) → Heap → List Nat → Prop}
/-- A loop's record changes, and nothing else. -/
theorem set_rec (R : HR G w h vh) {l : Nat} (T : TpOk (some l) w h vh) (co : CO) : HR G w (h.set l co) vh ∧ Wle w h w (h.set l co) ∧ Le P (some l) w h vh w (h.set l co) vh := by
  obtain ⟨t1, t2, t3⟩ := T l rfl
  have hne : ∀ b, w.F b ∨ Own w vh b → (h.set l co)[b]? = h[b]? := fun b hb => by
    refine List.getElem?_set_ne fun e => ?_
    subst e
    rcases hb with hb | hb
    · exact t1 hb
    · exact t2 hb
  obtain ⟨a, b⟩ := R.chg (w' := w) rfl rfl (fun _ _ e => e) (Nat.le_of_eq (by simp)) hne
  exact ⟨a, b, ⟨Nat.le_of_eq (by simp), rfl, fun _ _ _ e => e, fun _ h => ⟨h, rfl⟩, fun _ h => h, fun _ h => .inl h, fun b _ _ ht => List.getElem?_set_ne fun e => ht (by rw [e]), fun _ h => .inl h, fun _ h => .inl h, fun _ h => h⟩⟩
theorem TpOk.rec (R : HR G w h vh) {l : Nat} (T : TpOk (some l) w h vh) {co : CO} : TpOk (some l) w (h.set l co) vh := fun b e => by
  obtain ⟨a, c, d⟩ := T b e
  exact ⟨a, c, by simpa using d⟩
theorem putAll_ok : ∀ {ps : List Nat} {args : List V} {us : List Value} {f : Fr} {fr : Nat → Value}, VRs w h args us → FrR w h f fr → FrR w h (putAllF f ps args) (putAll fr ps us)
  | [], args, us, f, fr, H, hf => by cases args <;> cases us <;> exact hf
  | p :: ps, [], us, f, fr, H, hf => by cases H; exact hf
  | p :: ps, v :: args, us, f, fr, H, hf => by
    cases H with
    | cons hv Ht => exact @putAll_ok ps args _ _ _ Ht (hf.put (d := some p) hv)
/-- What a loop's record is, between the rounds. -/
def RecAt (F : FI) (fr : Nat → Value) (ps : List Nat) (a b : KC) (l : Nat) (h : Heap) (pd : Option KJump) : Prop :=
  ∃ rr, h[l]? = some (.loop rr) ∧ rr.fi = { F with rd := some l } ∧ rr.fr = fr ∧ rr.params = ps ∧ rr.assign = a ∧ rr.body = b ∧ rr.pending = pd ∧ rr.st ≠ .busy ∧ (pd = none → rr.st = .ready)
/-- The context of the function that is ranged over. -/
def rfC (C : Cx α) (R : Vm α) (fi : Fi) (s : VS) (w1 : Wd) (h1 : Heap) (F : FI) (fr : Nat → Value) (ps : List Nat) (a b : KC) (l : Nat) : Cx α where
  T := C.T
  G := C.G
  tp := some l
  b0 := s.h.length
  Q := fun w h pd => (∀ (id : Nat) o, w1.ι[id]? = some o → w.ι[id]? = some o) ∧ (∀ b, w1.F b → w.F b) ∧ (∀ b, w1.F b → h[b]? = h1[b]?) ∧ w.y = w1.y ∧ RecAt F fr ps a b l h pd
  Y := fun args vh kk => if args.length != ps.length then none else R.code (fun _ _ _ => none) ⟨fi.fn, true, vh.length, fi.dep + 1, []⟩ 0 a ⟨putAllF s.f ps args, vh, none⟩ fun e s1 => match e with
        | .normal => R.code (fun _ _ _ => none) ⟨fi.fn, true, vh.length, fi.dep + 1, []⟩ 0 b s1 fun e2 s2 => match e2 with
          | .normal => kk (.b true) s2.h none
          | .ret => kk (.b false) s2.h (some .ret)
          | .exit id => kk (.b false) s2.h (some (.exit id))
        | _ => none
  dep := fi.dep + 1
theorem rfC_ok (I : CodeOk T G R.code) (E : Pre C T G fi) {w1 : Wd} {h1 : Heap} {l : Nat} {ps : List Nat} {a b : KC} (hw : w1.ι.length = s.h.length) (hy : w1.y[fi.dep]? = some l) (hyl : w1.y.length = fi.dep + 1) (hf : FrR w1 h1 s.f fr) : (rfC C R fi s w1 h1 F fr ps a b l).Ok := by
  refine ⟨fun {w h w' h' pd} q ⟨a1, a2, a3, a4, a5⟩ => ⟨fun id o e => q.ι id (by show id < s.h.length; rw [← hw]; exact (List.getElem?_eq_some_iff.1 e).1) o (a1 id o e), fun b hb => q.F b (a2 b hb), fun b hb => (q.hF b (a2 b hb)).trans (a3 b hb), q.y.trans a4, ?_⟩, ?_⟩
  · obtain ⟨rr, e, x⟩ := a5
    exact ⟨rr, by rw [q.r l rfl]; exact e, x⟩
  · intro w h vh args us kk r l' S hb0 Hv hc el _ K Z
    obtain ⟨a1, a2, a3, a4, rr, b1, b2, b3, b4, b5, b6, b7, b8, b9⟩ := S.q
    have hl' : l' = l := by
      have el : w.y[fi.dep]? = some l' := el
      rw [a4, hy] at el; cases el; rfl
    subst hl'
    have hb0 : s.h.length ≤ vh.length := hb0
    simp only [rfC] at hc
    split at hc
    · cases hc
    · rename_i hlen
      have hlen : args.length = ps.length := by simpa using hlen
      have Wl : Wle w1 h1 w h := ⟨a1, a2, a3, fun d l e => by rw [a4]; exact e⟩
      let C2 : Cx α := ⟨T, G, none, vh.length, fun _ _ _ => True, fun _ _ _ => none, fi.dep + 1⟩
      have E2 : Pre C2 T G ⟨fi.fn, true, vh.length, fi.dep + 1, []⟩ := ⟨rfl, rfl, ⟨fun _ _ => trivial, fun _ _ _ e => by cases e⟩, rfl, Nat.le_refl _⟩
      have hG : C.G = G := E.G
      have R0 : HR G w h vh := by rw [← hG]; exact S.hr
      have hdep : w.y.length = fi.dep + 1 := by rw [a4]; exact hyl
      have T0 : TpOk (some l') w h vh := S.tp
      have A : At_ C2 ⟨fi.fn, true, vh.length, fi.dep + 1, []⟩ { F with rd := some l' } ⟨putAllF s.f ps args, vh, none⟩ w h (putAll fr ps us) [] h.length :=
        ⟨rfl, Nat.le_refl _, ⟨R0, trivial, fun _ e => (by cases e), hdep⟩, putAll_ok Hv (hf.mono Wl), ⟨Nat.le_refl _, fun x hx => by cases hx⟩⟩
      refine ARound_of b1 ⟨by rw [b4, ← Hv.len]; exact hlen, b9 rfl, by rw [b2]⟩ ?_
      rw [b5, b3, b4]
      generalize hfi : rr.fi = fi0
      rw [b2] at hfi
      subst hfi
      rw [show (rfC C R fi s w1 h1 F fr ps a b l').T = T from E.T]
      refine I.use E2 hc A fun e s' w' h' fr' m' A' hm L hk => ?_
      have hm := hm rfl
      subst hm
      cases e with
      | ret => cases hk
      | exit id => cases hk
      | normal =>
        have L1 : Le (fun id => id < vh.length) (some l') w h vh w' h' s'.h := (L.none_tp).weak fun id hid => .inl hid
        have T1 : TpOk (some l') w' h' s'.h := T0.le L1
        have r1 : h'[l']? = some (.loop rr) := by rw [L.fr l' (T0 l' rfl).2.2 (fun hh => (T0 l' rfl).2.1 hh.own) (by simp [C2])]; exact b1
        refine ⟨rfl, rfl, rr, r1, b9 rfl, ?_⟩
        generalize hco : CO.loop { rr with st := .busy } = co
        rw [b6]
        subst hco
        obtain ⟨R2, W2, L2⟩ := set_rec (P := fun id => id < vh.length) A'.st.hr T1 (.loop { rr with st := .busy })
        have A2 : At_ C2 ⟨fi.fn, true, vh.length, fi.dep + 1, []⟩ { F with rd := some l' } s' w' (h'.set l' (.loop { rr with st := .busy })) fr' [] (h'.set l' (.loop { rr with st := .busy })).length :=
          ⟨rfl, A'.bs, ⟨R2, trivial, fun _ e => (by cases e), A'.st.dep⟩, A'.fr.mono W2, ⟨Nat.le_refl _, fun x hx => by cases hx⟩⟩
        have T2 : TpOk (some l') w' (h'.set l' (.loop { rr with st := .busy })) s'.h := T1.rec A'.st.hr
        refine I.use E2 hk A2 fun e2 s2 w2 h2 fr2 m2 A3 hm2 L3 hk2 => ?_
        have hm2 := hm2 rfl
        subst hm2
        have L4 : Le (fun id => id < vh.length) (some l') w' (h'.set l' (.loop { rr with st := .busy })) s'.h w2 h2 s2.h := (L3.none_tp).weak fun id hid => .inl hid
        have T3 : TpOk (some l') w2 h2 s2.h := T2.le L4
        have r2 : h2[l']? = some (.loop { rr with st := .busy }) := by
          rw [L3.fr l' (T2 l' rfl).2.2 (fun hh => (T2 l' rfl).2.1 hh.own) (by simp [C2]), List.getElem?_set_self (T1 l' rfl).2.2]
        refine ⟨rfl, { rr with st := .busy }, r2, ?_⟩
        have fin : ∀ (v : Bool) (pd : Option KJump) (st : LoopState), st ≠ .busy → (pd = none → st = .ready) → kk (.b v) s2.h pd = some r → K (.bool v) (h2.set l' (.loop { rr with st := st, pending := pd })) := fun v pd st hst hst2 hk => by
          obtain ⟨R5, W5, L5⟩ := set_rec (P := fun id => id < vh.length) A3.st.hr T3 (.loop { rr with st := st, pending := pd })
          have LL : Le (fun id => id < vh.length) (some l') w h vh w2 (h2.set l' (.loop { rr with st := st, pending := pd })) s2.h := L1.trans (L2.trans (L4.trans L5))
          have WW : Wle w h w2 (h2.set l' (.loop { rr with st := st, pending := pd })) := LL.wle R0 T0 fun id hid => by rw [← R0.len]; exact hid
          have W1 := Wl.trans WW
          refine Z (.b v) (.bool v) s2.h pd w2 _ ⟨by show HR C.G _ _ _; rw [hG]; exact R5, ⟨W1.ι, W1.F, W1.hF, ?_, { rr with st := st, pending := pd }, List.getElem?_set_self (T3 l' rfl).2.2, b2, b3, b4, b5, b6, rfl, hst, hst2⟩, T3.rec A3.st.hr, ?_⟩ LL (.b v) ?_ hk
          · rw [LL.y, a4]
          · rw [LL.y]; exact hdep
          · have := A3.bs; exact this
        cases e2 with
        | normal => exact fin true none .ready (by simp) (fun _ => rfl) hk2
        | ret => exact fin false (some .ret) .done (by simp) (fun e => by cases e) hk2
        | exit id => exact fin false (some (.exit id)) .done (by simp) (fun e => by cases e) hk2
end Go.Canon
namespace Go.Canon
set_option linter.unusedVariables false
set_option linter.unusedSimpArgs false
open Go
variable [C0 : Cmb] [CmbOk C0]
variable {α : Type}
variable {w w' w2 wE : Wd} {h h' h2 hE : Heap} {vh vh' vh2 vhE : List VO} {fr fr' frE : Nat → Value} {P : Nat → Prop} {tp : Option Nat} {f : Fr} {m m' : List Nat} {hb : Nat}
variable {T : Nat → Option KFunc} {G : Nat → List (Sg V)} {H : Hs} {R : Vm α} {C : Cx α} {fi : Fi} {tag : Nat} {s s1 s' : VS} {k : Ex → VS → Option α} {r : α} {F : FI} {K : Ex → (Nat → Value) → Heap → List Nat → Prop}
theorem code_rf (I : CodeOk T G R.code) (J : CallOk T G R.call) (E : Pre C T G fi) {fv : KO} {g : Nat} {x y : List V} {ps : List Nat} {a b : KC} (hv : evV s.f fv = .fn g x y) (hrd : fi.rd = false)
    (hc : R.call (fun args vh kk => if args.length != ps.length then none else R.code (fun _ _ _ => none) ⟨fi.fn, true, vh.length, fi.dep + 1, []⟩ 0 a ⟨putAllF s.f ps args, vh, none⟩ fun e s1 => match e with
        | .normal => R.code (fun _ _ _ => none) ⟨fi.fn, true, vh.length, fi.dep + 1, []⟩ 0 b s1 fun e2 s2 => match e2 with
          | .normal => kk (.b true) s2.h none
          | .ret => kk (.b false) s2.h (some .ret)
          | .exit id => kk (.b false) s2.h (some (.exit id))
        | _ => none) (fi.dep + 1) g (x ++ [.yl fi.dep] ++ y) s.h none (fun v vh pd => if !vh.all (VO.off [] fi.dep) then none else match pd with
          | none => k .normal { s with h := vh }
          | some .ret => k .ret { s with h := vh }
          | some (.exit id) => k (.exit id) { s with h := vh }) = some r)
    (A : At_ C fi F s w h fr m hb) (Z : Thn C fi F s w h m hb k r K) : AX T F (.rf fv ps a b) fr h m K := by
  have hx := A.fr.ev fv
  rw [hv] at hx
  generalize hu : fv.ev fr = u at hx
  cases hx with
  | fn _ _ _ x' y' hx1 hx2 =>
    have hF : F.rd = none := by
      have := A.rd
      rw [hrd] at this
      cases hq : F.rd with
      | none => rfl
      | some l => rw [hq] at this; cases this
    refine AX_rf hu hF ?_
    generalize hr0 : CO.loop { st := .ready, pending := none, fi := { F with rd := some (h.length + 1) }, fr := fr, params := ps, assign := a, body := b, blk := h.length } = co
    have hG : C.G = G := E.G
    have hyl : w.y.length = fi.dep := A.st.dep.trans E.dep
    let w1 : Wd := ⟨w.ι, w.F, w.y ++ [h.length + 1]⟩
    let h1 : Heap := h ++ [.mark, co]
    have hl1 : h1.length = h.length + 2 := by simp [h1]
    have hy1 : w1.y[fi.dep]? = some (h.length + 1) := by
      show (w.y ++ [h.length + 1])[fi.dep]? = _
      rw [← hyl]; simp
    obtain ⟨R1, W1⟩ := A.st.hr.chg (w' := w1) (h' := h1) rfl rfl (fun d l e => by
      show (w.y ++ [h.length + 1])[d]? = _
      rw [List.getElem?_append_left (List.getElem?_eq_some_iff.1 e).1]; exact e) (by omega) fun b hb => by
      refine List.getElem?_append_left ?_
      rcases hb with hb | hb
      · exact A.st.hr.Fl b hb
      · exact A.st.hr.lt b hb
    have hown1 : ∀ b, Own w1 s.h b → Own w s.h b := fun b ⟨id, e, a⟩ => ⟨id, e, a⟩
    have hownU1 : ∀ b, OwnU w1 s.h b → OwnU w s.h b := fun b ⟨id, e, a⟩ => ⟨id, e, a⟩
    have at1 : h1[h.length + 1]? = some co := by simp [h1]
    have at0 : h1[h.length]? = some .mark := by simp [h1]
    have T1 : TpOk (some (h.length + 1)) w1 h1 s.h := fun b e => by
      cases e
      refine ⟨fun hf => ?_, fun ho => ?_, by omega⟩
      · have := A.st.hr.Fl _ hf; omega
      · have := A.st.hr.lt _ (hown1 _ ho); omega
    have ok := rfC_ok (R := R) (F := F) (ps := ps) (a := a) (b := b) (s := s) (w1 := w1) (h1 := h1) (fr := fr) I E A.st.hr.len hy1 (by simp [w1, hyl]) (A.fr.mono W1)
    have args : VRs w1 h1 (x ++ [.yl fi.dep] ++ y) (x'.toList ++ [.func (.yield (h.length + 1)) #[] #[]] ++ y'.toList) :=
      ((hx1.mono W1).append (.cons (.yl _ _ hy1) .nil)).append (hx2.mono W1)
    have S1 : (rfC C R fi s w1 h1 F fr ps a b (h.length + 1)).St w1 h1 s.h none := by
      refine ⟨R1, ⟨fun _ _ e => e, fun _ e => e, fun _ _ => rfl, rfl, ?_⟩, T1, by simp [w1, hyl, rfC]⟩
      rw [← hr0] at at1
      exact ⟨_, at1, rfl, rfl, rfl, rfl, rfl, rfl, by simp, fun _ => rfl⟩
    refine J (rfC C R fi s w1 h1 F fr ps a b (h.length + 1)) g _ s.h none _ r E.T E.G ok (Nat.le_refl _) hc w1 h1 _ S1 args _ fun v u vh' pd' w' h' S' L' hv' hle hk => ?_
    have L' : Le (fun id => id < s.h.length) (some (h.length + 1)) w1 h1 s.h w' h' vh' := L'
    split at hk
    · cases hk
    · rename_i hoff
      have hoff : vh'.all (VO.off [] fi.dep) = true := by simpa using hoff
      obtain ⟨_, _, _, _, rr, b1, b2, b3, b4, b5, b6, b7, b8, b9⟩ := S'.q
      refine ⟨rr, b1, b8, ?_⟩
      generalize hco2 : CO.loop { rr with st := .exhausted } = co2
      rw [b7]
      have T2 : TpOk (some (h.length + 1)) w' h' vh' := S'.tp
      have hR' : HR C.G w' h' vh' := S'.hr
      let w2 : Wd := ⟨w'.ι, w'.F, w.y⟩
      let h2 : Heap := h'.set (h.length + 1) co2
      have hne : ∀ b, w'.F b ∨ Own w' vh' b → h2[b]? = h'[b]? := fun b hb => by
        refine List.getElem?_set_ne fun e => ?_
        subst e
        rcases hb with hb | hb
        · exact (T2 _ rfl).1 hb
        · exact (T2 _ rfl).2.1 hb
      have hl2 : h2.length = h'.length := by simp [h2]
      have WO : Woff [] fi.dep w' h' w2 h2 := ⟨fun _ _ _ e => e, fun _ e => e, fun b hb => hne b (.inl hb), fun d l hd e => by
        show w.y[d]? = some l
        rw [L'.y] at e
        have e : (w.y ++ [h.length + 1])[d]? = some l := e
        rw [List.getElem?_append_left (by omega)] at e; exact e⟩
      have hown2 : ∀ b, Own w2 vh' b → Own w' vh' b := fun b ⟨id, e, a⟩ => ⟨id, e, a⟩
      have R2 : HR C.G w2 h2 vh' := by
        refine ⟨hR'.len, fun id o p ho hp => ?_, fun i j b e1 e2 a1 a2 => hR'.inj i j b e1 e2 a1 a2, fun b hb hf => hR'.nF b (hown2 b hb) hf, fun b hb => by rw [hl2]; exact hR'.lt b (hown2 b hb), fun b hb => by rw [hl2]; exact hR'.Fl b hb, fun g hg => ?_⟩
        · refine (hR'.ob id o p ho hp).off WO (List.all_eq_true.1 hoff _ (List.mem_of_getElem? ho)) fun b eb ha => hne b (.inr ⟨id, ⟨p.2, by rw [← eb]; exact hp⟩, by rw [getElem_objAt ho]; exact ha⟩)
        · obtain ⟨a, cs, wr, b, c⟩ := hR'.gl g hg
          exact ⟨a, cs, wr, by rw [hne g (.inl a)]; exact b, SgR.mono (w := ⟨[], w'.F, []⟩) (w' := ⟨[], w'.F, []⟩) ⟨fun _ _ e => e, fun _ e => e, fun b hb => hne b (.inl hb), fun _ _ e => e⟩ c⟩
      have L2 : Le (fun id => id < s.h.length) none w h s.h w2 h2 vh' := by
        refine ⟨by rw [hl2]; have := L'.hl; omega, rfl, fun id hid o e => L'.ι id hid o e, fun id hh => L'.lk id hh, fun b hb => L'.F b hb, fun b hb => ?_, fun b hb hn _ => ?_, fun b hb => ?_, fun b ⟨id, e, a⟩ => ?_, fun id hh => L'.nl id hh⟩
        · rcases L'.F' b hb with c | c | c
          · exact .inl c
          · exact .inr (.inl (hownU1 b c))
          · exact .inr (.inr (by omega))
        · rw [show h2[b]? = h'[b]? from List.getElem?_set_ne (by omega), L'.fr b (by omega) (fun hh => hn (hownU1 b hh)) (fun e => by have := Option.some.inj e; omega)]
          exact List.getElem?_append_left hb
        · rcases L'.own b (hown2 b hb) with c | c
          · exact .inl (hown1 b c)
          · exact .inr (by omega)
        · rcases L'.ownU b ⟨id, e, a⟩ with c | c
          · exact .inl (hownU1 b c)
          · exact .inr (by omega)
      have W2 : Wle w h w2 h2 := L2.wle A.st.hr (fun b e => by cases e) fun id hid => by rw [← A.st.hr.len]; exact hid
      have A2 : At_ C fi F { s with h := vh' } w2 h2 fr (h.length :: m) hb := by
        refine ⟨A.rd, Nat.le_trans A.bs hle, ⟨R2, E.ok.st (L2.qst A.st.hr A.st.tp fun id hid => Nat.lt_of_lt_of_le hid (Nat.le_trans E.b0 A.bs)) A.st.q, A.st.tp.le L2.none_tp, A.st.dep⟩, A.fr.mono W2, ⟨?_, fun q hq => ?_⟩⟩
        · exact (A.mks.le L2.none_tp).le0
        · rcases List.mem_cons.1 hq with rfl | hq
          · have n1 : ¬ OwnU w1 s.h h.length := fun hh => by have := A.st.hr.lt _ (hown1 _ hh.own); omega
            refine ⟨A.mks.le0, ?_, fun hf => ?_, fun ho => ?_, fun e => ?_⟩
            · rw [show h2[h.length]? = h'[h.length]? from List.getElem?_set_ne (by omega), L'.fr _ (by omega) n1 (fun e => by have := Option.some.inj e; omega)]
              exact at0
            · rcases L'.F' _ hf with c | c | c
              · have := A.st.hr.Fl _ c; omega
              · exact n1 c
              · omega
            · rcases L'.own _ (hown2 _ ho) with c | c
              · have := A.st.hr.lt _ (hown1 _ c); omega
              · omega
            · have := (A.st.tp _ e).2.2; omega
          · exact (A.mks.le L2.none_tp).at_ q hq
      have L3 : Le (PF fi) C.tp w h s.h w2 h2 vh' := by
        have := L2.none_tp (tp := C.tp)
        exact { this with ι := fun id _ o e => L2.ι id (by rw [← A.st.hr.len]; exact (List.getElem?_eq_some_iff.1 e).1) o e }
      have fin : ∀ e, k e { s with h := vh' } = some r → K e fr h2 (h.length :: m) := fun e hk => Z e _ w2 h2 fr _ A2 (fun hh => by rw [hrd] at hh; cases hh) L3 hk
      cases pd' with
      | none => exact fin _ hk
      | some j =>
        cases j with
        | ret => exact fin _ hk
        | exit id => exact fin _ hk
theorem look_nil {t : Nat} {b : Bool} : ∀ {l : List (Nat × Ty)} {s : VS}, lookF s.f t = .b b → lookF (nilS l s).f t = .b b
  | [], s, e => e
  | (d, ty) :: l, s, e => by
    simp only [nilS]
    have key : ∀ id, lookF s.f d = .k (.slice none 0 0) ∨ lookF s.f d = .e0 → lookF ((d, V.gw id) :: s.f) t = .b b := fun id hd => by
      simp only [lookF, beq_c]
      split
      · rename_i e2; subst e2; rw [e] at hd; rcases hd with hd | hd <;> cases hd
      · exact e
    split
    · rename_i hd; exact look_nil (key _ (.inl hd))
    · rename_i hd; exact look_nil (key _ (.inr hd))
    · exact look_nil e
theorem nilO_f {base : Nat} : ∀ {l : List (Nat × Nat × Ty)} {s : VS}, (nilO base l s).f = s.f
  | [], s => rfl
  | (a, j, t) :: l, s => by
    simp only [nilO]
    rw [nilO_f]
    split
    · split <;> rfl
    · rfl
theorem ev_nil {ls : LS} {base : Nat} {s s2 : VS} {c : KO} {b : Bool} (hl : ∀ t, lookF s2.f t = lookF (ls.pre base s).f t) (e : evV s.f c = .b b) : evV s2.f c = .b b := by
  cases c with
  | c v => exact e
  | t n => exact (hl n).trans (by unfold LS.pre; rw [nilO_f]; exact look_nil e)
theorem code_ok (I : CodeOk (α := α) T H.gl R.code) (J : CallOk (α := α) T H.gl R.call) (Cons : ∀ g c, H.con g = some c → ConOk T H.gl g c) (ConsM : ∀ g c, H.mcon g = some c → MConOk T H.gl g c) : CodeOk T H.gl (vCode H R) := by
  intro C fi tag c s k r hT hG ok hd hb hc F w h fr m hbm a1 a2 a3 a4 a5 K Z0
  have E : Pre C T H.gl fi := ⟨hT, hG, ok, hd, hb⟩
  have A : At_ C fi F s w h fr m hbm := ⟨a1, a2, a3, a4, a5⟩
  have Z : Thn C fi F s w h m hbm k r K := fun e s' w' h' fr' m' A' => Z0 e s' w' h' fr' m' A'.bs A'.st A'.fr A'.mks
  have V := callv_ok (C := C) J Cons ConsM hT hG ok
  cases c with
  | skip => exact AX_skip (Z.go A hc)
  | ret => exact AX_ret (Z.go A hc)
  | exit id => exact AX_exit (Z.go A hc)
  | seq a b => exact code_seq I E hc A Z
  | block id a => exact code_block I E hc A Z
  | cond c a b =>
    simp only [vCode] at hc
    split at hc
    · rename_i t hv
      split at hc
      · exact code_cond0 I E hv hc A Z
      · rename_i ls hls
        refine code_join E (c := .cond c a b) (a := .seq a b) (by rfl) (fun E hl hc A Z => code_cond0 I E (ev_nil hl hv) hc A Z) hc A Z
    · cases hc
  | loop a =>
    simp only [vCode] at hc
    split at hc
    · exact code_loop0 I E hc A Z
    · rename_i ls hls
      split at hc
      · rename_i x ρ i hd
        split at hc
        · rename_i hok
          exact code_loop I E hd hok hc A Z
        · cases hc
      · cases hc
  | reg ops prs =>
    have key : ∀ {fi : Fi} {s : VS} {k : Ex → VS → Option α} {w h fr} {K : Ex → (Nat → Value) → Heap → List Nat → Prop}, Pre C T H.gl fi → vOps H R C.Y fi prs 0 [] ops s (fun s' => k .normal s') = some r → At_ C fi F s w h fr m hbm → Thn C fi F s w h m hbm k r K → AX T F (.reg ops prs) fr h m K := fun {fi s k w h fr K} E hc A Z =>
      AX_reg (ops_ok V E hG ops 0 [] [] s w h fr A ⟨fun e he => by cases he⟩ hc fun s' w' h' fr' A' L hk => Z _ _ _ _ _ _ A' (fun _ => rfl) L hk)
    simp only [vCode] at hc
    split at hc
    · exact key E hc A Z
    · rename_i ls hls
      exact code_join E (c := .reg ops prs) (a := .reg ops prs) rfl (fun E _ hc A Z => key E hc A Z) hc A Z
  | rf f ps a b =>
    simp only [vCode] at hc
    split at hc
    · rename_i g x y hv
      split at hc
      · cases hc
      · rename_i hrd
        exact code_rf I J E hv (by simpa using hrd) hc A Z
    · cases hc
theorem run_ok (Cons : ∀ g c, H.con g = some c → ConOk T H.gl g c) (ConsM : ∀ g c, H.mcon g = some c → MConOk T H.gl g c) : ∀ n, CodeOk (α := α) T H.gl (Vm.run T H n).code ∧ CallOk (α := α) T H.gl (Vm.run T H n).call
  | 0 => ⟨fun _ _ _ _ _ _ _ _ _ _ _ _ hc => (by cases hc), fun _ _ _ _ _ _ _ _ _ _ _ hc => (by cases hc)⟩
  | n + 1 =>
    have ih := run_ok Cons ConsM n
    ⟨code_ok ih.1 ih.2 Cons ConsM, full_ok ih.1⟩
end Go.Canon
namespace Go.Canon
set_option linter.unusedVariables false
set_option linter.unusedSimpArgs false
open Go
variable [C0 : Cmb] [CmbOk C0]
variable {w w' w2 wE : Wd} {h h' h2 hE : Heap} {vh vh' vh2 vhE : List VO} {fr fr' frE : Nat → Value} {P : Nat → Prop} {tp : Option Nat} {f : Fr} {m m' : List Nat} {hb : Nat}
variable {T : Nat → Option KFunc} {G : Nat → List (Sg V)} {H : Hs}
theorem dec1_ok (R : HA w h vh) : ∀ {l : List S1} {ρ ρ' : Rn} {vs : List V} {us : List Value} {x : El (tys1 l)} {i : List Nat}, VRs w h vs us → dec1 vh ρ l vs = some (x, ρ', i) →
    Alive vh i ∧ ExtR ρ ρ' ∧ (InjR ρ → InjR ρ') ∧ ∀ {ρe w2}, Tr ρ' ρe w w2 (Fz w i) → VRs w2 h (encVU ρe l x) us
  | [], ρ, ρ', [], us, x, i, H, e => by cases e; cases H; exact ⟨Alive.nil, .refl _, id, fun _ => .nil⟩
  | [], ρ, ρ', v :: vs, us, x, i, H, e => by simp [dec1] at e
  | s :: l, ρ, ρ', [], us, x, i, H, e => by simp [dec1] at e
  | s :: l, ρ, ρ', v :: vs, us, x, i, H, e => by
    simp only [dec1] at e
    cases H with
    | cons hv H =>
      split at e
      · rename_i x1 ρ1 i1 h1
        split at e
        · rename_i x2 ρ2 i2 h2
          cases e
          obtain ⟨a2, a3, a4, a5⟩ := mat1_ok R hv h1
          obtain ⟨b2, b3, b4, b5⟩ := dec1_ok R H h2
          exact ⟨a2.app b2, a3.trans b3, fun hi => b4 (a4 hi), fun T => .cons (a5 (T.sub b3 Fz_mono_l)) (b5 (T.sub (.refl _) Fz_mono_r))⟩
        · cases e
      · cases e
theorem decB_ok (R : HR G w h vh) : ∀ {l : List OSh} {a : Nat} {ρ ρ' : Rn} {x : El (tysB l)} {i : List Nat}, decB vh ρ a l = some (x, ρ', i) →
    Alive vh i ∧ ExtR ρ ρ' ∧ (InjR ρ → InjR ρ') ∧ (∀ m, m < l.length → ∃ j, lookR ρ' (a + m) = some j ∧ (objAt vh j).free = true) ∧
      ∀ {ρe w2}, Tr ρ' ρe w w2 (Fz w i) → ∀ (m : Nat) o, (encBU ρe l x)[m]? = some o → ∀ c, lookR ρe (a + m) = some c → ∀ p, w2.ι[c]? = some p → OR w2 h o p
  | [], a, ρ, ρ', x, i, e => by cases e; exact ⟨Alive.nil, .refl _, id, fun _ hm => (by simp at hm), fun _ m o e => by simp [encBU] at e⟩
  | s :: l, a, ρ, ρ', x, i, e => by
    simp only [decB] at e
    split at e
    · rename_i x1 ρ1 i1 h1
      split at e
      · rename_i x2 ρ2 i2 h2
        cases e
        split at h1
        · rename_i j hj
          have hne : (objAt vh j).alive = true := by
            cases ho : objAt vh j with
            | gone => rw [ho] at h1; cases s <;> simp [matO] at h1
            | _ => rfl
          obtain ⟨p, hp, hor⟩ := R.at rfl hne
          obtain ⟨a1, a2, a3, a4, a5⟩ := matO_ok R.ha hor h1
          obtain ⟨b2, b3, b4, b5, b6⟩ := decB_ok R h2
          have hj2 : lookR ρ' a = some j := b3 _ _ (a3 _ _ hj)
          refine ⟨a2.app b2, a3.trans b3, fun hi => b4 (a4 hi), fun m hm => ?_, fun {ρe w2} T m o eo c hc q hq => ?_⟩
          · cases m with
            | zero => exact ⟨j, hj2, a1⟩
            | succ m =>
              obtain ⟨j', c1, c2⟩ := b5 m (by simpa using hm)
              exact ⟨j', by rw [← c1]; congr 1; omega, c2⟩
          · cases m with
            | zero =>
              simp only [encBU, List.getElem?_cons_zero] at eo
              cases eo
              obtain ⟨c', hc', ho⟩ := T.nm _ _ hj2
              rw [Nat.add_zero] at hc
              rw [hc] at hc'; cases hc'
              rw [ho _ hp] at hq
              cases hq
              exact a5 (T.sub b3 Fz_mono_l)
            | succ m =>
              simp only [encBU, List.getElem?_cons_succ] at eo
              exact b6 (T.sub (.refl _) Fz_mono_r) m o eo c (by rw [← hc]; congr 1; omega) q hq
        · cases h1
      · cases e
    · cases e
/-- Results by their shape. -/
theorem RS_put (R : HR G w h vh) {out : RS} {vs : List V} {us : List Value} {r : El out.ty} (Hv : VRs w h vs us) (e : out.dec vs vh = some r) :
    ∃ w2, HR G w2 h (encBU (upR 0 out.ob.length) out.ob r.2) ∧ VRs w2 h (encVU (upR 0 out.ob.length) out.vals r.1) us ∧ (∀ b, w.F b → w2.F b) ∧ (∀ b, w2.F b → w.F b ∨ Own w vh b) ∧ ∀ b, Own w2 (encBU (upR 0 out.ob.length) out.ob r.2) b → Own w vh b := by
  simp only [RS.dec] at e
  split at e
  · rename_i x ρ1 i1 h1
    split at e
    · rename_i y ρ i2 h2
      split at e
      · rename_i hh
        cases e
        simp only [Bool.and_eq_true] at hh
        obtain ⟨⟨g1, g2⟩, g3⟩ := hh
        obtain ⟨a2, a3, a4, a5⟩ := dec1_ok R.ha Hv h1
        obtain ⟨b2, b3, b4, b5, b6⟩ := decB_ok R h2
        have hinj : InjR ρ := b4 (a4 .nil)
        have hdis : ∀ id ∈ i1 ++ i2, ∀ a, lookR ρ a ≠ some id := fun id hid a ha => by
          have := List.all_eq_true.1 g3 id hid
          simp only [Bool.not_eq_true', List.any_eq_false] at this
          exact this _ (lookR_mem ha) (by simp)
        let w2 : Wd := ⟨(List.range out.ob.length).map fun m => w.ι.getD ((lookR ρ m).getD 0) (none, none), Fz w (i1 ++ i2), []⟩
        have at2 : ∀ {m : Nat}, m < out.ob.length → ∃ j, lookR ρ m = some j ∧ (objAt vh j).free = true ∧ w2.ι[m]? = w.ι[j]? := fun {m} hm => by
          obtain ⟨j, c1, c2⟩ := b5 m hm
          rw [Nat.zero_add] at c1
          refine ⟨j, c1, c2, ?_⟩
          show ((List.range out.ob.length).map fun m => w.ι.getD ((lookR ρ m).getD 0) (none, none))[m]? = _
          rw [List.getElem?_map, List.getElem?_range hm, Option.map_some, c1, Option.getD_some, List.getD_eq_getElem?_getD, List.getElem?_eq_getElem (R.free_lt c2), Option.getD_some]
        have hl2 : w2.ι.length = out.ob.length := by simp [w2]
        have T : Tr ρ (upR 0 out.ob.length) w w2 (Fz w (i1 ++ i2)) := ⟨fun a b hb => by
          have ha : a < out.ob.length := by
            have := List.all_eq_true.1 g1 _ (lookR_mem hb)
            exact Nat.lt_of_succ_le (Nat.le_of_ble_eq_true (by simpa [Nat.blt] using this))
          refine ⟨a, by rw [look_upR, if_pos ha, Nat.zero_add], fun o ho => ?_⟩
          obtain ⟨j, c1, _, c3⟩ := at2 ha
          rw [hb] at c1; cases c1
          rw [c3]; exact ho, fun b hb => hb⟩
        have nm : ∀ {id b}, atB w2 id b → ∃ j, lookR ρ id = some j ∧ (objAt vh j).free = true ∧ atB w j b := fun {id b} ⟨m, hm⟩ => by
          have hid : id < out.ob.length := by rw [← hl2]; exact (List.getElem?_eq_some_iff.1 hm).1
          obtain ⟨j, c1, c2, c3⟩ := at2 hid
          exact ⟨j, c1, c2, m, by rw [← c3]; exact hm⟩
        have hOwn : ∀ b, Own w2 (encBU (upR 0 out.ob.length) out.ob y) b → Own w vh b := fun b ⟨id, e, _⟩ => by
          obtain ⟨j, _, c2, c3⟩ := nm e
          exact ⟨j, c3, VO.free_alive c2⟩
        have hFl : ∀ b, w2.F b → w.F b ∨ Own w vh b := fun b hb => by
          rcases hb with hb | ⟨k, hk, hkb⟩
          · exact .inl hb
          · exact .inr ⟨k, hkb, VO.free_alive (freeAll_mem g2 hk)⟩
        refine ⟨w2, ⟨by rw [hl2, encBU_len], fun id o p ho hp => ?_, fun i j b e1 e2 _ _ => ?_, fun b ⟨id, e, _⟩ hb => ?_, fun b hb => R.lt b (hOwn b hb), fun b hb => ?_, fun g hg => ?_⟩, a5 (T.sub b3 Fz_mono_l), fun b hb => .inl hb, hFl, hOwn⟩
        · have hid : id < out.ob.length := by rw [← hl2]; exact (List.getElem?_eq_some_iff.1 hp).1
          exact b6 (T.sub (.refl _) Fz_mono_r) id o ho id (by rw [Nat.zero_add, look_upR, if_pos hid, Nat.zero_add]) p hp
        · obtain ⟨j1, c1, c2, c3⟩ := nm e1
          obtain ⟨j2, d1, d2, d3⟩ := nm e2
          have := R.inj _ _ _ c3 d3 (VO.free_alive c2) (VO.free_alive d2)
          subst this
          exact hinj _ _ _ c1 d1
        · obtain ⟨j1, c1, c2, c3⟩ := nm e
          rcases hb with hb | ⟨k, hk, hkb⟩
          · exact R.nF b ⟨j1, c3, VO.free_alive c2⟩ hb
          · have := R.inj _ _ _ hkb c3 (VO.free_alive (freeAll_mem g2 hk)) (VO.free_alive c2)
            subst this
            exact hdis k hk _ c1
        · rcases hFl b hb with hb | hb
          · exact R.Fl b hb
          · exact R.lt b hb
        · obtain ⟨a, cs, wr, b, c⟩ := R.gl g hg
          exact ⟨.inl a, cs, wr, b, SgR.mono (w := ⟨[], w.F, []⟩) (w' := ⟨[], w2.F, []⟩) ⟨fun _ _ x => x, fun b hb => .inl hb, fun _ _ => rfl, fun _ _ x => x⟩ c⟩
      · cases e
    · cases e
  · cases e
theorem ArgsR.vrs {F : Nat → Prop} : ∀ {l : List Ty} {x : El (tys l)} {us : List Value}, ArgsR F h l x us → VRs ⟨[], F, []⟩ h (encA l x) us
  | [], x, us, H => by cases H; exact .nil
  | t :: l, x, us, ⟨cs, us', e, a, b⟩ => by subst e; exact .cons (encV_rep a) b.vrs
theorem nilR_ok {ob : List OSh} : ∀ {l : List S1} {vs : List V} {vh : List VO} {us : List Value} {w : Wd}, HR G w h vh → VRs w h vs us → ∃ w2, HR G w2 h (nilR ob l vs vh).2 ∧ VRs w2 h (nilR ob l vs vh).1 us ∧ Stp2 w h vh w2 h (nilR ob l vs vh).2
  | [], vs, vh, us, w, R, H => by cases vs <;> exact ⟨w, R, H, .refl⟩
  | x :: l, [], vh, us, w, R, H => ⟨w, R, H, .refl⟩
  | x :: l, v :: vs, vh, us, w, R, H => by
    cases H with
    | @cons _ u _ us hv Ht =>
      have go : ∃ w2, HR G w2 h (nilR ob l vs vh).2 ∧ VRs w2 h (v :: (nilR ob l vs vh).1) (u :: us) ∧ Stp2 w h vh w2 h (nilR ob l vs vh).2 := by
        obtain ⟨w2, a, b, c⟩ := nilR_ok (ob := ob) (l := l) R Ht
        exact ⟨w2, a, .cons (hv.mono (c.wle R)) b, c⟩
      have one : ∀ t a, noRoom a → u = .slice a 0 0 → ∃ w2, HR G w2 h (nilR ob l vs (vh ++ [.row [.ar t 0 []] false false])).2 ∧ VRs w2 h (.gw vh.length :: (nilR ob l vs (vh ++ [.row [.ar t 0 []] false false])).1) (u :: us) ∧ Stp2 w h vh w2 h (nilR ob l vs (vh ++ [.row [.ar t 0 []] false false])).2 := fun t a ha hu => by
        obtain ⟨R1, S1⟩ := R.new0 (o := .row [.ar t 0 []] false false) (p := (a, some 0)) ha (.inr ⟨t, rfl, rfl, ha, rfl⟩)
        obtain ⟨w2, b1, b2, b3⟩ := nilR_ok (ob := ob) (l := l) (vs := vs) R1 (Ht.mono (S1.wle R))
        have hg : VR (w.add (a, some 0)) h (.gw vh.length) u := by rw [hu]; exact .gw _ a 0 (by rw [← R.len]; exact add_new)
        exact ⟨w2, b1, .cons (hg.mono (b3.wle R1)) b2, S1.trans b3⟩
      simp only [nilR]
      split
      · split
        · split
          · cases hv with | k _ _ => exact one _ none (.inl rfl) rfl
          · cases hv with | e0 a ha => exact one _ a ha rfl
          · exact go
        · exact go
      · exact go
/-- **What a function makes of typed arguments is what it does.** -/
theorem vFun_ok (Cons : ∀ g c, H.con g = some c → ConOk T H.gl g c) (ConsM : ∀ g c, H.mcon g = some c → MConOk T H.gl g c) (n g : Nat) (ins : List Ty) (out : RS) : ConOk T H.gl g ⟨ins, out, vFun T H n g ins out⟩ := by
  intro F h x us r R A hc
  simp only [vFun] at hc
  split at hc
  · rename_i kf hkf
    let C : Cx (El out.ty) := ⟨T, H.gl, none, 0, fun _ _ _ => True, fun _ _ _ => none, 0⟩
    have ok : C.Ok := ⟨fun _ _ => trivial, fun _ _ _ e => by cases e⟩
    have S : C.St ⟨[], F, []⟩ h [] none := ⟨R, trivial, fun b e => (by cases e), rfl⟩
    obtain ⟨m, v, h', e, k⟩ := body_ok (C := C) (run_ok Cons ConsM n).1 hkf rfl rfl ok (Nat.le_refl _) hc S A.vrs (K := fun u h' => ∃ w', HR H.gl w' h' (encBU (upR 0 out.ob.length) out.ob r.2) ∧ VR w' h' (one (encVU (upR 0 out.ob.length) out.vals r.1)) u ∧ h <+: h' ∧
      (∀ b, F b → w'.F b) ∧ (∀ b, w'.F b → F b ∨ h.length ≤ b) ∧ ∀ b, Own w' (encBU (upR 0 out.ob.length) out.ob r.2) b → h.length ≤ b) fun vs0 us' u vh0 pd' w0 h' S0 L0 hvs0 eu _ hk => by
      obtain ⟨w', R', hvs, Sn⟩ := nilR_ok (ob := out.ob) (l := out.vals) S0.hr hvs0
      have L' : Le (fun id => id < 0) none (⟨[], F, []⟩ : Wd) h [] w' h' (nilR out.ob out.vals vs0 vh0).2 := Le.trans L0 (Sn.le S0.hr)
      obtain ⟨w2, a1, a2, a3, a4, a5⟩ := RS_put R' hvs hk
      have no : ∀ b, ¬ Own (⟨[], F, []⟩ : Wd) [] b := fun b ⟨id, ⟨_, e⟩, _⟩ => by simp at e
      refine ⟨w2, a1, one_of a2 eu, prefix_of L'.hl fun b hb => L'.fr b hb (fun hh => no b hh.own) (by simp), fun b hb => a3 b (L'.F b hb), fun b hb => ?_, fun b hb => ?_⟩
      · rcases a4 b hb with hb | hb
        · rcases L'.F' b hb with c | c | c
          · exact .inl c
          · exact (no b c.own).elim
          · exact .inr c
        · rcases L'.own b hb with c | c
          · exact (no b c).elim
          · exact .inr c
      · rcases L'.own b (a5 b hb) with c | c
        · exact (no b c).elim
        · exact c
    obtain ⟨w', k⟩ := k
    exact ⟨v, h', w', ⟨m, e⟩, k⟩
  · cases hc
/-- **The same of a function that changes an object of its caller's.** -/
theorem vFunM_ok (Cons : ∀ g c, H.con g = some c → ConOk T H.gl g c) (ConsM : ∀ g c, H.mcon g = some c → MConOk T H.gl g c) (n g : Nat) (sty : Ty) (ins outs : List Ty) : MConOk T H.gl g ⟨sty, ins, outs, vFunM T H n g sty ins outs⟩ := by
  intro F h b y x us r y' R A hc
  simp only [vFunM] at hc
  split at hc
  · rename_i kf hkf
    let w1 : Wd := ⟨[(some ⟨b, 0, none⟩, none)], F, []⟩
    let vh1 : List VO := [.row (segs sty y) true false]
    let C : Cx (El (tys outs) × El sty) := ⟨T, H.gl, none, 0, fun _ _ _ => True, fun _ _ _ => none, 0⟩
    have ok : C.Ok := ⟨fun _ _ => trivial, fun _ _ _ e => by cases e⟩
    have S : C.St w1 h vh1 none := ⟨R, trivial, fun b e => (by cases e), rfl⟩
    have hb0 : b < h.length := R.lt b ⟨0, ⟨none, rfl⟩, rfl⟩
    have Hargs : VRs w1 h (.op 0 [] 0 :: encA ins x) (.pointer (some ⟨b, 0, none⟩) :: us) := by
      refine .cons (.op 0 [] 0 b none rfl) ?_
      exact encA_mono (w' := ⟨[], F, []⟩) (w2 := w1) (F2 := F) (fun _ hb => hb) A.vrs
    obtain ⟨m, v, h', e, k⟩ := body_ok (C := C) (run_ok Cons ConsM n).1 hkf rfl rfl ok (Nat.zero_le _) hc S Hargs (K := fun u h' => ∃ w', HR H.gl w' h' [.row (segs sty y') true false] ∧ w'.ι = [(some ⟨b, 0, none⟩, none)] ∧ VR w' h' (one (encA outs r)) u ∧ h.length ≤ h'.length ∧ (∀ b', b' < h.length → b' ≠ b → h'[b']? = h[b']?) ∧
      (∀ b, F b → w'.F b) ∧ (∀ b, w'.F b → F b ∨ h.length ≤ b)) fun vs0 us' u vh0 pd' w0 h' S0 L0 hvs0 eu _ hk => by
      have own1 : ∀ b', Own w1 vh1 b' → b' = b := fun b' ⟨i, ⟨mm, e⟩, _⟩ => by
        cases i with
        | succ i => simp [w1] at e
        | zero =>
          simp only [w1, List.getElem?_cons_zero, Option.some.injEq, Prod.mk.injEq, Addr.mk.injEq] at e
          exact e.1.1.symm
      split at hk
      · rename_i rr i hla
        split at hk
        · rename_i l ho
          split at hk
          · rename_i yy j hls
            split at hk
            · rename_i hh
              cases hk
              simp only [Bool.and_eq_true] at hh
              obtain ⟨hfr, hnz⟩ := hh
              have hn0 : 0 ∉ i ++ j := fun hm => by
                have := List.all_eq_true.1 hnz 0 hm
                simp at this
              have hi0 : w0.ι[0]? = some (some ⟨b, 0, none⟩, none) := L0.ι 0 (Nat.succ_pos _) _ rfl
              obtain ⟨a1, a2⟩ := lookA_ok S0.hr hvs0 hla
              obtain ⟨R1, S1⟩ := S0.hr.frz hfr
              have hown0 : Own w0 vh0 b := ⟨0, ⟨none, hi0⟩, by rw [ho]; rfl⟩
              -- the object alone
              have hF' : ∀ b', Fz w0 (i ++ j) b' → F b' ∨ h.length ≤ b' := fun b' hb => by
                rcases hb with hb | ⟨q, hq, hb⟩
                · rcases L0.F' b' hb with c | c | c
                  · exact .inl c
                  · exfalso
                    have := own1 b' c.own
                    subst this
                    exact S0.hr.nF b' hown0 hb
                  · exact .inr c
                · have hal : (objAt vh0 q).alive = true := VO.free_alive (freeAll_mem hfr hq)
                  rcases L0.own b' ⟨q, hb, hal⟩ with c | c
                  · exfalso
                    have e := own1 b' c
                    subst e
                    have := S0.hr.inj q 0 b' hb ⟨none, hi0⟩ hal (by rw [ho]; rfl)
                    exact hn0 (this ▸ hq)
                  · exact .inr c
              have hnb : ∀ b', Fz w0 (i ++ j) b' → b' ≠ b := fun b' hb e => by
                subst e
                rcases hF' b' hb with c | c
                · exact R.nF b' ⟨0, ⟨none, rfl⟩, rfl⟩ c
                · omega
              let w' : Wd := ⟨[(some ⟨b, 0, none⟩, none)], Fz w0 (i ++ j), []⟩
              have hrep : ∃ cs, h'[b]? = some (.row cs true none) ∧ Rep (Fz w0 (i ++ j)) h' sty y' cs := by
                obtain ⟨p, hp, hor⟩ := S0.hr.at ho rfl
                rw [hi0] at hp
                cases hp
                rcases hor with ⟨b1, cs, gr, e1, e2, e3, e4, _⟩ | ⟨t, _, _, _, e⟩
                · obtain ⟨c1, c2, rfl, hr, hs, _⟩ := lookS_rep S0.hr.ha sty l cs y' j [] e3 hls
                  cases hs
                  rw [List.append_nil] at e2
                  simp only [Option.some.injEq, Addr.mk.injEq] at e1
                  obtain ⟨rfl, _⟩ := e1
                  have hgr : gr = none := e4 rfl
                  subst hgr
                  exact ⟨c1, e2, hr.mono (fun _ hb => hb.r) fun _ _ => rfl⟩
                · cases e
              obtain ⟨cs, hc1, hc2⟩ := hrep
              have one0 : ∀ {q : Nat}, (objAt [VO.row (segs sty y') true false] q).alive = true → q = 0 := fun {q} hh => by
                cases q with
                | zero => rfl
                | succ q => simp [objAt, VO.alive] at hh
              have at0 : ∀ {b' : Nat}, atB w' 0 b' → b' = b := fun {b'} ⟨mm, e⟩ => by
                simp only [w', List.getElem?_cons_zero, Option.some.injEq, Prod.mk.injEq, Addr.mk.injEq] at e
                exact e.1.1.symm
              refine ⟨w', ⟨rfl, fun q o p h1 h2 => ?_, fun q q' b' _ _ a1 a2 => by rw [one0 a1, one0 a2], fun b' ⟨q, e, a⟩ hf => ?_, fun b' ⟨q, e, a⟩ => ?_, R1.Fl, R1.gl⟩, rfl, ?_, L0.hl, fun b' hb1 hb2 => L0.fr b' hb1 (fun hh => hb2 (own1 b' hh.own)) (by simp), fun b' hb => .inl (L0.F b' hb), hF'⟩
              · cases q with
                | succ q => simp at h1
                | zero =>
                  simp only [w', List.getElem?_cons_zero, Option.some.injEq] at h1 h2
                  subst h1 h2
                  exact .inl ⟨b, cs, none, rfl, hc1, segs_rep (w := w') hc2, fun _ => rfl, .inl rfl, fun n hn => by cases hn⟩
              · obtain rfl := one0 a
                exact hnb b' hf (at0 e)
              · obtain rfl := one0 a
                rw [at0 e]
                exact S0.hr.lt b hown0
              · refine one_of ?_ eu
                exact encA_mono (w' := ⟨[], Fz w0 i, []⟩) (w2 := w') (F2 := Fz w0 i) (fun _ hb => hb.l) a1.vrs
            · cases hk
          · cases hk
        · cases hk
      · cases hk
    obtain ⟨w', k⟩ := k
    exact ⟨v, h', w', ⟨m, e⟩, k⟩
  · cases hc
end Go.Canon
namespace Go.Canon
set_option linter.unusedVariables false
set_option linter.unusedSimpArgs false
open Go
variable {T : Nat → Option KFunc} {G : Nat → List (Sg V)} {H : Hs}
def lookC : List (Nat × Con) → Nat → Option Con
  | [], _ => none
  | (k, c) :: l, g => bif Nat.beq k g then some c else lookC l g
def AllC (T : Nat → Option KFunc) (G : Nat → List (Sg V)) : List (Nat × Con) → Prop
  | [] => True
  | p :: l => ConOk T G p.1 p.2 ∧ AllC T G l
theorem lookC_ok : ∀ {l : List (Nat × Con)}, AllC T G l → ∀ g c, lookC l g = some c → ConOk T G g c
  | [], _, g, c, e => by cases e
  | (k, c') :: l, ⟨h1, h2⟩, g, c, e => by
    simp only [lookC] at e
    rw [@beq_c realC ⟨rfl⟩] at e
    split at e
    · rename_i hk; subst hk; cases e; exact h1
    · exact lookC_ok h2 g c e
def lookM : List (Nat × MCon) → Nat → Option MCon
  | [], _ => none
  | (k, c) :: l, g => bif Nat.beq k g then some c else lookM l g
def AllM (T : Nat → Option KFunc) (G : Nat → List (Sg V)) : List (Nat × MCon) → Prop
  | [] => True
  | p :: l => MConOk T G p.1 p.2 ∧ AllM T G l
theorem lookM_ok : ∀ {l : List (Nat × MCon)}, AllM T G l → ∀ g c, lookM l g = some c → MConOk T G g c
  | [], _, g, c, e => by cases e
  | (k, c') :: l, ⟨h1, h2⟩, g, c, e => by
    simp only [lookM] at e
    rw [@beq_c realC ⟨rfl⟩] at e
    split at e
    · rename_i hk; subst hk; cases e; exact h1
    · exact lookM_ok h2 g c e
theorem con_of (l : List (Nat × Con)) {n g : Nat} {ins : List Ty} {out : RS} {m : Cmb → El (tys ins) → Option (El out.ty)} (e : (fun x => @vFun stuckC T H n g ins out x) = m stuckC) (hl : AllC T H.gl l) (hc : H.con = lookC l := by rfl) (hm : H.mcon = fun _ => none := by rfl) : ConOk T H.gl g ⟨ins, out, m realC⟩ := by
  rw [stuckC_eq] at e
  rw [← e]
  exact @vFun_ok realC ⟨rfl⟩ _ _ (fun g c h => lookC_ok hl g c (by rw [← hc]; exact h)) (fun g c h => by rw [hm] at h; cases h) n g ins out
/-- The same, of what is reckoned outright. -/
theorem con_eq (l : List (Nat × Con)) {n g : Nat} {ins : List Ty} {out : RS} {m : El (tys ins) → Option (El out.ty)} (e : (fun x => @vFun realC T H n g ins out x) = m) (hl : AllC T H.gl l) (hc : H.con = lookC l := by rfl) (hm : H.mcon = fun _ => none := by rfl) : ConOk T H.gl g ⟨ins, out, m⟩ := by
  rw [← e]
  exact @vFun_ok realC ⟨rfl⟩ _ _ (fun g c h => lookC_ok hl g c (by rw [← hc]; exact h)) (fun g c h => by rw [hm] at h; cases h) n g ins out
/-- With functions that change objects. -/
theorem con_ofM (l : List (Nat × Con)) (lm : List (Nat × MCon)) {n g : Nat} {ins : List Ty} {out : RS} {m : Cmb → El (tys ins) → Option (El out.ty)} (e : (fun x => @vFun stuckC T H n g ins out x) = m stuckC) (hl : AllC T H.gl l) (hlm : AllM T H.gl lm) (hc : H.con = lookC l := by rfl) (hm : H.mcon = lookM lm := by rfl) : ConOk T H.gl g ⟨ins, out, m realC⟩ := by
  rw [stuckC_eq] at e
  rw [← e]
  exact @vFun_ok realC ⟨rfl⟩ _ _ (fun g c h => lookC_ok hl g c (by rw [← hc]; exact h)) (fun g c h => lookM_ok hlm g c (by rw [← hm]; exact h)) n g ins out
theorem mcon_of (l : List (Nat × Con)) (lm : List (Nat × MCon)) {n g : Nat} {sty : Ty} {ins outs : List Ty} {m : Cmb → El sty × El (tys ins) → Option (El (tys outs) × El sty)} (e : (fun x => @vFunM stuckC T H n g sty ins outs x) = m stuckC) (hl : AllC T H.gl l) (hlm : AllM T H.gl lm) (hc : H.con = lookC l := by rfl) (hm : H.mcon = lookM lm := by rfl) : MConOk T H.gl g ⟨sty, ins, outs, m realC⟩ := by
  rw [stuckC_eq] at e
  rw [← e]
  exact @vFunM_ok realC ⟨rfl⟩ _ _ (fun g c h => lookC_ok hl g c (by rw [← hc]; exact h)) (fun g c h => lookM_ok hlm g c (by rw [← hm]; exact h)) n g sty ins outs
end Go.Canon
namespace Go.Canon
set_option linter.unusedVariables false
set_option linter.unusedSimpArgs false
open Go Go.ChangeShapes Go.WideShapes Go.Deep
section
variable {H : Type} {enc : TypeId × Value → H} {P : Program} {w : World}
theorem addX_off (a : Addr) (n : Nat) : (a.add n).off = a.off + n := by
  unfold Addr.add; split
  · rename_i h; rw [h]; rfl
  · rfl
theorem cellX {a : Addr} {v : Value} (h : w.cell? a = some v) : a.spot = none ∧ a.block < w.heap.size ∧ ∃ row : List Value, (h0 w)[a.block]? = some (.row row false none) ∧ row[a.off]? = some (canV w.heap.size v) := by
  unfold World.cell? at h
  split at h
  · rename_i c x y hc
    split at h
    · cases h
    · rename_i hs
      refine ⟨by simpa using hs, (Array.getElem?_eq_some_iff.1 hc).1, _, h0_get hc, ?_⟩
      rw [List.getElem?_map, Array.getElem?_toList, h]; rfl
  · cases h
theorem cellsX {a : Addr} {n : Nat} {cs row : List Value} (h : w.cells? 0 a n = some cs) (hrow : (h0 w)[a.block]? = some (.row row false none)) : a.off + n ≤ row.length ∨ n = 0 := by
  obtain ⟨_, hl, hc⟩ := World.cells?_some h
  cases n with
  | zero => exact .inr rfl
  | succ n =>
    have e := hc n (by omega)
    rw [List.getElem?_eq_getElem (by omega)] at e
    obtain ⟨_, _, row', h1, h2⟩ := cellX e
    rw [block_add, hrow] at h1
    injection h1 with h1
    injection h1 with h1
    subst h1
    have := (List.getElem?_eq_some_iff.1 h2).1
    rw [addX_off] at this
    exact .inl (by omega)
theorem takeX {a : Addr} {n : Nat} {cs row : List Value} (h : w.cells? 0 a n = some cs) (hrow : (h0 w)[a.block]? = some (.row row false none)) : (row.drop a.off).take n = cs.map (canV w.heap.size) := by
  obtain ⟨_, hl, hc⟩ := World.cells?_some h
  have hb := cellsX h hrow
  apply List.ext_getElem
  · simp only [List.length_take, List.length_drop, List.length_map]; omega
  · intro i h1 h2
    simp only [List.length_map] at h2
    have e := hc i (by omega)
    rw [List.getElem?_eq_getElem h2] at e
    obtain ⟨_, _, row', e1, e2⟩ := cellX e
    rw [block_add, hrow] at e1
    injection e1 with e1
    injection e1 with e1
    subst e1
    rw [addX_off] at e2
    obtain ⟨e3, e4⟩ := List.getElem?_eq_some_iff.1 e2
    rw [List.getElem_take, List.getElem_drop, List.getElem_map]
    exact e4
mutual
/-- This type of the program is that one. -/
def TyP (P : Program) : Ty → TypeId → Prop
  | .int k, t => P.underlying t = some (.int k)
  | .bool, t => P.underlying t = some .bool
  | .str, t => P.underlying t = some .string
  | .sl e, t => ∃ te, P.underlying t = some (.slice te) ∧ P.cellsOf te = e.sz ∧ 0 < e.sz ∧ TyP P e te
  | .arr n e, t => ∃ te, P.underlying t = some (.array n te) ∧ P.cellsOf te = e.sz ∧ P.cellsOf t = n * e.sz ∧ TyP P e te
  | .pair a b, t => ∃ fs : Array Field, P.underlying t = some (.struct fs) ∧ P.cellsOf t = a.sz + b.sz ∧ ∃ f r, fs.toList = f :: r ∧ f.offset = 0 ∧ P.cellsOf f.type = a.sz ∧ TyP P a f.type ∧ FsP P b r a.sz
  | _, _ => False
def FsP (P : Program) : Ty → List Field → Nat → Prop
  | .unit, fs, _ => fs = []
  | .pair a b, fs, o => ∃ f r, fs = f :: r ∧ f.offset = o ∧ P.cellsOf f.type = a.sz ∧ TyP P a f.type ∧ FsP P b r (o + a.sz)
  | _, _, _ => False
end
/-- Numbers in their range, lists that are not too long. -/
def Rng : (t : Ty) → El t → Prop
  | .int k, z => (Lit.int k z).wf = true
  | .bool, _ => True
  | .str, s => ByteArray.size s ≤ maxLen
  | .sl t, l => List.length (α := El t) l ≤ maxLen ∧ ∀ x ∈ l, Rng t x
  | .unit, _ => True
  | .pair a b, x => Rng a x.1 ∧ Rng b x.2
  | .arr n t, l => List.length (α := El t) l = n ∧ ∀ x ∈ l, Rng t x
  | .ptr _, _ => True
  | .opt _, _ => True
  | .mp _ _, _ => True
/-- A list out of its pieces. -/
theorem repL_chunks {α : Type} {R : α → List Value → Prop} {s : Nat} : ∀ {Q : Nat → α → Prop} (n : Nat) (cs : List Value), cs.length = n * s → (∀ i, i < n → ∃ y, R y ((cs.drop (i * s)).take s) ∧ Q i y) → ∃ l : List α, l.length = n ∧ RepL R l cs ∧ ∀ (i : Nat) x, l[i]? = some x → Q i x
  | Q, 0, cs, hl, _ => ⟨[], rfl, List.eq_nil_of_length_eq_zero (by simpa using hl), fun _ _ h => by cases h⟩
  | Q, n + 1, cs, hl, h => by
    obtain ⟨y, hy, hq⟩ := h 0 (Nat.succ_pos _)
    rw [Nat.zero_mul, List.drop_zero] at hy
    obtain ⟨l, h1, h2, h3⟩ := repL_chunks (s := s) (Q := fun i => Q (i + 1)) n (cs.drop s) (by rw [List.length_drop, hl, Nat.add_mul, Nat.one_mul]; omega) fun i hi => by
      obtain ⟨y, a, b⟩ := h (i + 1) (by omega)
      refine ⟨y, ?_, b⟩
      rw [List.drop_drop]
      rw [show s + i * s = (i + 1) * s by rw [Nat.add_mul]; omega]
      exact a
    exact ⟨y :: l, by simp [h1], ⟨_, _, (List.take_append_drop s cs).symm, hy, h2⟩, fun i x hx => by
      cases i with
      | zero => cases hx; exact hq
      | succ i => exact h3 i x (by simpa using hx)⟩
theorem drop_take_chunk {l : List Value} {o m i s : Nat} (h : i * s + s ≤ m) : (((l.drop o).take m).drop (i * s)).take s = (l.drop (o + i * s)).take s := by
  rw [List.drop_take, List.take_take, List.drop_drop, Nat.min_eq_left (by omega)]
/-- What is read of a slice. -/
theorem slX {F : Nat → Prop} (hF : ∀ b, b ≤ w.heap.size → F b) {α : Type} {R : α → List Value → Prop} {Q : Nat → α → Prop} {a : Addr} {len cap sz : Nat} (hl : len ≤ cap) (hz : 0 < sz)
    (hx : ∀ i, i < cap → ∃ cs, w.cells? 0 (a.add (i * sz)) sz = some cs ∧ ∃ y, R y (cs.map (canV w.heap.size)) ∧ Q i y) :
    ∃ l : List α, SlR F (h0 w) sz R l [canV w.heap.size (.slice (some a) len cap)] ∧ l.length = len ∧ ∀ (i : Nat) x, l[i]? = some x → Q i x := by
  by_cases hc : cap = 0
  · have : len = 0 := by omega
    subst hc this
    refine ⟨[], .inr ⟨w.heap.size, 0, 0, [], false, none, ?_, Nat.le_refl _, hF _ (Nat.le_refl _), h0_last w, .inl rfl, .inl rfl⟩, rfl, fun _ _ h => by cases h⟩
    obtain ⟨b, o, sp⟩ := a
    simp [canV]
  · obtain ⟨cs0, h1, _⟩ := hx 0 (by omega)
    obtain ⟨_, g1, g2⟩ := World.cells?_some h1
    have g3 := g2 0 hz
    rw [List.getElem?_eq_getElem (by omega)] at g3
    have ea : (a.add (0 * sz)).add 0 = a := by simp [Addr.add]
    rw [ea] at g3
    obtain ⟨e1, e2, row, e3, e4⟩ := cellX g3
    obtain ⟨b, o, sp⟩ := a
    simp only at e1
    subst e1
    simp only at e2 e3
    have hroom : ∀ k, k ≤ cap → o + k * sz ≤ row.length := by
      intro k hk
      cases k with
      | zero =>
        have := (List.getElem?_eq_some_iff.1 e4).1
        simp only at this
        omega
      | succ k =>
        obtain ⟨cs, hk1, _⟩ := hx k (by omega)
        have hr : (h0 w)[((⟨b, o, none⟩ : Addr).add (k * sz)).block]? = some (.row row false none) := by rw [block_add]; exact e3
        have c1 := cellsX hk1 hr
        rw [addX_off] at c1
        simp only at c1
        rw [Nat.add_mul]; omega
    have hlen := hroom len hl
    obtain ⟨l, k1, k2, k3⟩ := repL_chunks (R := R) (Q := Q) (s := sz) len ((row.drop o).take (len * sz)) (by rw [List.length_take, List.length_drop]; omega) fun i hi => by
      obtain ⟨cs, hk1, y, hy, hq⟩ := hx i (by omega)
      have hr : (h0 w)[((⟨b, o, none⟩ : Addr).add (i * sz)).block]? = some (.row row false none) := by rw [block_add]; exact e3
      have c2 := takeX hk1 hr
      rw [addX_off] at c2
      simp only at c2
      have hm : i * sz + sz ≤ len * sz := by
        have := Nat.mul_le_mul_right sz (show i + 1 ≤ len by omega)
        rw [Nat.add_mul] at this; omega
      rw [drop_take_chunk hm, c2]
      exact ⟨y, hy, hq⟩
    refine ⟨l, .inr ⟨b, o, cap, row, false, none, ?_, by omega, hF _ (by omega), e3, .inl rfl, .inr ⟨by rw [k1]; exact hlen, by rw [k1]; exact k2⟩⟩, k1, k3⟩
    have : ¬ (len = 0 ∧ cap = 0) := fun h => hc h.2
    simp [canV, this, e2, hl, k1]
/-- **What is read of a typed thing's cells.** -/
theorem trod_rep {F : Nat → Prop} (hF : ∀ b, b ≤ w.heap.size → F b) (ty : Ty) :
    (∀ {t : TypeId} {fuel : Nat} {cs : List Value} {x : DataW H × List MemPlace}, TyP P ty t → DataW.trod enc P w 0 (fun _ => true) true fuel t cs = some x → ∃ y : El ty, Rep F (h0 w) ty y (cs.map (canV w.heap.size)) ∧ Rng ty y ∧ cs.length = ty.sz) ∧
    ∀ {fs : List Field} {o n : Nat} {cs : List Value} {xs : List (DataW H × List MemPlace)}, FsP P ty fs o → xs.length = fs.length → o + ty.sz ≤ cs.length → (∀ (i : Nat) (f : Field), fs[i]? = some f → DataW.trod enc P w 0 (fun _ => true) true n f.type ((cs.drop f.offset).take (P.cellsOf f.type)) = xs[i]?) →
      ∃ y : El ty, Rep F (h0 w) ty y (((cs.drop o).take ty.sz).map (canV w.heap.size)) ∧ Rng ty y := by
  induction ty with
  | int k =>
    refine ⟨fun {t fuel cs x} hT h => ?_, fun hT => hT.elim⟩
    obtain ⟨z, rfl, _, hw⟩ := DataW.trod_int hT h
    exact ⟨z, rfl, hw, rfl⟩
  | bool =>
    refine ⟨fun {t fuel cs x} hT h => ?_, fun hT => hT.elim⟩
    obtain ⟨b, rfl, _⟩ := DataW.trod_bool hT h
    exact ⟨b, rfl, trivial, rfl⟩
  | str =>
    refine ⟨fun {t fuel cs x} hT h => ?_, fun hT => hT.elim⟩
    obtain ⟨s, rfl, _, hs⟩ := DataW.trod_string hT h
    exact ⟨s, rfl, hs, rfl⟩
  | sl e ih =>
    refine ⟨fun {t fuel cs x} hT h => ?_, fun hT => hT.elim⟩
    obtain ⟨te, h1, h2, h3, h4⟩ := hT
    rcases open_slice h1 h with ⟨rfl, _⟩ | ⟨a, len, cap, m, n, D, Pl, rfl, _, hl, hm, hmm, _, hx⟩
    · exact ⟨[], .inl ⟨rfl, none, rfl, .inl rfl⟩, ⟨Nat.zero_le _, fun _ h => by cases h⟩, rfl⟩
    · simp only [if_true] at hmm
      subst hmm
      rw [h2] at hx
      obtain ⟨l, k1, k2, k3⟩ := slX hF (R := Rep F (h0 w) e) (Q := fun _ => Rng e) hl h3 fun i hi => by
        obtain ⟨cs', c1, c2⟩ := hx i hi
        obtain ⟨y, d1, d2, _⟩ := ih.1 h4 c2
        exact ⟨cs', c1, y, d1, d2⟩
      exact ⟨l, k1, ⟨by show List.length (α := El e) l ≤ _; omega, fun x hx => by
        obtain ⟨i, hi, rfl⟩ := List.getElem_of_mem hx
        exact k3 i _ (List.getElem?_eq_getElem hi)⟩, rfl⟩
  | unit =>
    refine ⟨fun hT => hT.elim, fun {fs o n cs xs} hT hxs hl hx => ⟨(), ?_, trivial⟩⟩
    show ((cs.drop o).take 0).map (canV w.heap.size) = []
    simp
  | pair a b iha ihb =>
    refine ⟨fun {t fuel cs x} hT h => ?_, fun {fs o n cs xs} hT hxs hl hx => ?_⟩
    · obtain ⟨fs, h1, h2, f, r, h3, h4, h5, h6, h7⟩ := hT
      obtain ⟨xs, n, _, rfl, hl, hlen, hf⟩ := DataW.trod_struct h1 h
      have hx : ∀ (i : Nat) (g : Field), (f :: r)[i]? = some g → DataW.trod enc P w 0 (fun _ => true) true n g.type ((cs.drop g.offset).take (P.cellsOf g.type)) = xs[i]? := fun i g hg => hf i g (by rw [← Array.getElem?_toList, h3]; exact hg)
      have hxl : xs.length = r.length + 1 := by rw [hlen, ← Array.length_toList, h3]; rfl
      cases xs with
      | nil => simp at hxl
      | cons x0 xs =>
        have e0 := hx 0 f rfl
        rw [h4, h5, List.drop_zero] at e0
        obtain ⟨y1, r1, q1, l1⟩ := iha.1 h6 (x := x0) (by simpa using e0)
        obtain ⟨y2, r2, q2⟩ := ihb.2 (cs := cs) (n := n) (xs := xs) h7 (by simpa using hxl) (by rw [hl, h2]; exact Nat.le_refl _) fun i g hg => by
          have := hx (i + 1) g (by simpa using hg)
          simpa using this
        refine ⟨(y1, y2), ⟨_, _, ?_, r1, r2⟩, ⟨q1, q2⟩, by rw [hl, h2]; rfl⟩
        rw [← List.map_append]
        congr 1
        rw [List.take_of_length_le (l := cs.drop a.sz) (by rw [List.length_drop, hl, h2]; omega), List.take_append_drop]
    · obtain ⟨f, r, rfl, h4, h5, h6, h7⟩ := hT
      have hl : o + (a.sz + b.sz) ≤ cs.length := hl
      cases xs with
      | nil => simp at hxs
      | cons x0 xs =>
        have e0 := hx 0 f rfl
        rw [h4, h5] at e0
        obtain ⟨y1, r1, q1, l1⟩ := iha.1 h6 (x := x0) (by simpa using e0)
        obtain ⟨y2, r2, q2⟩ := ihb.2 (cs := cs) (n := n) (xs := xs) h7 (by simpa using hxs) (by omega) fun i g hg => by
          have := hx (i + 1) g (by simpa using hg)
          simpa using this
        refine ⟨(y1, y2), ⟨_, _, ?_, r1, r2⟩, ⟨q1, q2⟩⟩
        rw [← List.map_append]
        congr 1
        show (cs.drop o).take (a.sz + b.sz) = _
        rw [List.take_add, List.drop_drop]
  | arr n e ih =>
    refine ⟨fun {t fuel cs x} hT h => ?_, fun hT => hT.elim⟩
    obtain ⟨te, h1, h2, h3, h4⟩ := hT
    obtain ⟨xs, m, _, rfl, hl, hlen, hx⟩ := DataW.trod_array h1 h
    rw [h3] at hl
    rw [h2] at hx
    obtain ⟨l, k1, k2, k3⟩ := repL_chunks (R := Rep F (h0 w) e) (Q := fun _ => Rng e) (s := e.sz) n (cs.map (canV w.heap.size)) (by simpa using hl) fun i hi => by
      have e0 := hx i hi
      rw [List.getElem?_eq_getElem (by omega)] at e0
      obtain ⟨y, d1, d2, _⟩ := ih.1 h4 e0
      refine ⟨y, ?_, d2⟩
      rw [← List.map_drop, ← List.map_take]
      exact d1
    exact ⟨l, ⟨k1, k2⟩, ⟨k1, fun x hx => by
      obtain ⟨i, hi, rfl⟩ := List.getElem_of_mem hx
      exact k3 i _ (List.getElem?_eq_getElem hi)⟩, hl⟩
  | ptr t _ => exact ⟨fun hT => hT.elim, fun hT => hT.elim⟩
  | opt t _ => exact ⟨fun hT => hT.elim, fun hT => hT.elim⟩
  | mp k v _ _ => exact ⟨fun hT => hT.elim, fun hT => hT.elim⟩
/-- One argument. -/
theorem arg_rep {F : Nat → Prop} (hF : ∀ b, b ≤ w.heap.size → F b) {ty : Ty} {t : TypeId} (hT : TyP P ty t) {r : Reach} {base : Nat} {v : Value} {d : DataW H} {ps : List MemPlace} (hv : Value.okWide P w r base t v) (h : DataW.Trod enc P w 0 (fun _ => true) true t v d ps) :
    ∃ y : El ty, ∃ cs, canA w.heap.size v = vals ty cs ∧ Rep F (h0 w) ty y cs ∧ Rng ty y := by
  obtain ⟨fuel, h⟩ := h
  obtain ⟨y, h1, h2, h3⟩ := (trod_rep hF ty).1 hT h
  have one : ∀ {v : Value}, (∀ cs, v ≠ .agg cs) → v.cells.toList = [v] ∧ canA w.heap.size v = canV w.heap.size v := fun {v} hne => by
    cases v <;> first | exact ⟨rfl, rfl⟩ | (rename_i cs; exact (hne cs rfl).elim)
  have flatc : (∀ fs, P.underlying t ≠ some (.struct fs)) → (∀ n e, P.underlying t ≠ some (.array n e)) → ∀ cs, v ≠ .agg cs := fun n1 n2 cs e => by
    subst e
    unfold Value.okWide at hv
    split at hv
    · rename_i fs hh; exact n1 fs hh
    · rename_i n e hh; exact n2 n e hh
    · unfold Cell.okWide at hv
      split at hv <;> first | (rename_i hh; cases hh; done) | skip
      all_goals first | (simp [Cell.ok] at hv; done) | skip
      all_goals (unfold Cell.ok at hv; split at hv <;> first | (rename_i hh; cases hh; done) | cases hv | simp_all)
  refine ⟨y, _, ?_, h1, h2⟩
  cases ty with
  | int k =>
    obtain ⟨a, b⟩ := one (flatc (fun fs e => by have := hT; unfold TyP at this; rw [this] at e; cases e) fun n e' e => by have := hT; unfold TyP at this; rw [this] at e; cases e)
    rw [a, b]; rfl
  | bool =>
    obtain ⟨a, b⟩ := one (flatc (fun fs e => by have := hT; unfold TyP at this; rw [this] at e; cases e) fun n e' e => by have := hT; unfold TyP at this; rw [this] at e; cases e)
    rw [a, b]; rfl
  | str =>
    obtain ⟨a, b⟩ := one (flatc (fun fs e => by have := hT; unfold TyP at this; rw [this] at e; cases e) fun n e' e => by have := hT; unfold TyP at this; rw [this] at e; cases e)
    rw [a, b]; rfl
  | sl u =>
    obtain ⟨te, hu, _⟩ := hT
    obtain ⟨a, b⟩ := one (flatc (fun fs e => by rw [hu] at e; cases e) fun n e' e => by rw [hu] at e; cases e)
    rw [a, b]; rfl
  | unit => exact hT.elim
  | pair a b =>
    obtain ⟨fs, hu, _⟩ := hT
    unfold Value.okWide at hv
    rw [hu] at hv
    obtain ⟨cs, rfl, _⟩ := hv
    show Value.agg (cs.map (canV w.heap.size)) = Value.agg _
    congr 1
    apply Array.ext'
    simp [Value.cells]
  | arr n u =>
    obtain ⟨te, hu, _⟩ := hT
    unfold Value.okWide at hv
    rw [hu] at hv
    obtain ⟨cs, rfl, _⟩ := hv
    show Value.agg (cs.map (canV w.heap.size)) = Value.agg _
    congr 1
    apply Array.ext'
    simp [Value.cells]
  | ptr t => exact hT.elim
  | opt t => exact hT.elim
  | mp k v => exact hT.elim
/-- A list of whole numbers, by what is read of it. -/
theorem trod_ints {F : Nat → Prop} (hF : ∀ b, b ≤ w.heap.size → F b) {t te : TypeId} {held : Bool} {fuel : Nat} {cs : List Value} {zs : List Int} {r : List (DataW H)} {p : List MemPlace} (h1 : P.underlying t = some (.slice te)) (h2 : P.cellsOf te = 1) (h3 : P.underlying te = some (.int .i64))
    (h : DataW.trod enc P w 0 (fun _ => true) held fuel t cs = some (.slice (zs.map fun z => .lit (.int .i64 z)) r, p)) : Rep F (h0 w) (.sl (.int .i64)) zs (cs.map (canV w.heap.size)) := by
  rcases open_slice h1 h with ⟨_, e⟩ | ⟨a, len, cap, m, n, D, Pl, rfl, _, hl, hm, hmm, hx0, hx⟩
  · cases e
  · simp only [if_true] at hmm
    subst hmm
    rw [h2] at hx
    obtain ⟨l, k1, k2, k3⟩ := slX hF (R := Rep F (h0 w) (.int .i64)) (Q := fun i (z : Int) => D i = .lit (.int .i64 z)) hl (Nat.succ_pos 0) fun i hi => by
      obtain ⟨cs', c1, c2⟩ := hx i hi
      obtain ⟨z, rfl, e, _⟩ := DataW.trod_int h3 c2
      exact ⟨_, c1, z, rfl, (Prod.mk.inj e).1⟩
    have e1 := (Prod.mk.inj hx0).1
    injection e1 with e1 _
    have : l = zs := by
      apply List.ext_getElem?
      intro i
      by_cases hi : i < len
      · have hl2 : l[i]? = some (l[i]'(by omega)) := List.getElem?_eq_getElem (by omega)
        have q := k3 i _ hl2
        have e2 := congrArg (fun q => q[i]?) e1
        simp only [List.getElem?_map, List.getElem?_range hi, Option.map_some, q] at e2
        rw [hl2]
        cases hz : zs[i]? with
        | none => rw [hz] at e2; cases e2
        | some z => rw [hz] at e2; simp only [Option.map_some, Option.some.injEq] at e2; injection e2 with e2; injection e2 with _ e2; rw [e2]
      · have e3 := congrArg List.length e1
        simp only [List.length_map, List.length_range] at e3
        rw [List.getElem?_eq_none (by omega), List.getElem?_eq_none (by omega)]
    subst this
    exact k1
end
end Go.Canon
namespace Go.Canon
set_option linter.unusedVariables false
set_option linter.unusedSimpArgs false
open Go Go.ChangeShapes Go.WideShapes Go.RowKit
variable {H : Type} {enc : TypeId × Value → H} {P : Program} {w : World}
def TysP (P : Program) : List Ty → List TypeId → Prop
  | [], ts => ts = []
  | t :: l, ts => ∃ u r, ts = u :: r ∧ TyP P t u ∧ TysP P l r
def RngA : (l : List Ty) → El (tys l) → Prop
  | [], _ => True
  | t :: l, x => Rng t x.1 ∧ RngA l x.2
/-- All arguments. -/
theorem args_rep {F : Nat → Prop} (hF : ∀ b, b ≤ w.heap.size → F b) {r : Reach} {base : Nat} : ∀ {l : List Ty} {ts : List TypeId} {vs : List Value} {ds : List (DataW H)} {ps : List MemPlace}, TysP P l ts → (∀ (j : Nat) (t : TypeId) (v : Value), ts[j]? = some t → vs[j]? = some v → Value.okWide P w r base t v) →
    DataW.TrodAll enc P w 0 (fun _ => true) true ts vs ds ps → ∃ x : El (tys l), ArgsR F (h0 w) l x (vs.map (canA w.heap.size)) ∧ RngA l x
  | [], ts, vs, ds, ps, hT, hv, h => by
    cases hT
    obtain ⟨rfl, _⟩ := trodAll_nil h
    exact ⟨(), rfl, trivial⟩
  | t :: l, ts, vs, ds, ps, hT, hv, h => by
    obtain ⟨u, r', rfl, h1, h2⟩ := hT
    obtain ⟨v, vs', d, ds', p, q, rfl, rfl, rfl, h3, h4⟩ := trodAll_cons h
    obtain ⟨y, cs, e, hr, hg⟩ := arg_rep hF h1 (hv 0 u v rfl rfl) h3
    obtain ⟨x, hx, hg2⟩ := args_rep hF h2 (fun j t v a b => hv (j + 1) t v (by simpa using a) (by simpa using b)) h4
    exact ⟨(y, x), ⟨cs, _, by rw [List.map_cons, e], hr, hx⟩, hg, hg2⟩
/-- All blocks of a world. -/
def F0 (w : World) (b : Nat) : Prop := b ≤ w.heap.size
/-- A package's variables are these. -/
def GlOk (G : Nat → List (Sg V)) (w : World) : Prop := ∀ g, g < gN → g < w.heap.size ∧ ∃ cs wr, (h0 w)[g]? = some (.row cs wr none) ∧ SgR ⟨[], F0 w, []⟩ (h0 w) (G g) cs
theorem start_hr {G : Nat → List (Sg V)} (hG : GlOk G w) : HR G ⟨[], F0 w, []⟩ (h0 w) [] where
  len := rfl
  ob := fun id o p h => by simp at h
  inj := fun i j b h1 h2 h3 => by simp [objAt, VO.alive] at h3
  nF := fun b ⟨i, h1, h2⟩ => by simp [objAt, VO.alive] at h2
  lt := fun b ⟨i, h1, h2⟩ => by simp [objAt, VO.alive] at h2
  Fl := fun b hb => by rw [h0_len]; exact Nat.lt_succ_of_le hb
  gl := fun g hg => ⟨Nat.le_of_lt (hG g hg).1, (hG g hg).2⟩
/-- **A law that answers true for all arguments in their range.** -/
theorem law_run (hI : InsOk P) (hm : P.follows .mixedOrders = true) {G : Nat → List (Sg V)} (hG : GlOk G w) {f : Nat} {l : List Ty} {m : El (tys l) → Option (El (RS.mk [.s (.h .bool)] []).ty)} (k : ConOk (tab P) G f ⟨l, ⟨[.s (.h .bool)], []⟩, m⟩)
    (pl : ∀ x, RngA l x → m x = some ((true, ()), ())) {ts : List TypeId} (hT : TysP P l ts) {r : Reach} {base : Nat} {args : Array Value} {ds : List (DataW H)} {ps : List MemPlace} (hv : ∀ (j : Nat) (t : TypeId) (v : Value), ts[j]? = some t → args.toList[j]? = some v → Value.okWide P w r base t v)
    (h : DataW.TrodAll enc P w 0 (fun _ => true) true ts args.toList ds ps) : Calls P f args w fun e w' => e = .returned (.bool true) ∧ Below w.heap.size w w' := by
  obtain ⟨x, hx, hg⟩ := args_rep (F := F0 w) (fun b hb => hb) hT hv h
  obtain ⟨u, h', w', hr, _, hu, _⟩ := k (F0 w) (h0 w) x _ ((true, ()), ()) (start_hr hG) hx (pl x hg)
  have hu : VR w' h' (.b true) u := hu
  cases hu
  exact calls_of_ret hI (by have := (hG (gN - 1) (by decide)).1; have e : gN - 1 + 1 = gN := rfl; omega) hm hr
/-- Behind the call all arguments read as they did. -/
theorem back_all (hl : laidOutB P = true) {W' : World} (hb : Below w.heap.size w W') : ∀ {ts : List TypeId} {vs : List Value} {ds : List (DataW H)} {ps : List MemPlace}, ts.all (fun t => P.readableRec t && decide (t < P.types.size)) = true →
    DataW.TrodAll enc P w 0 (fun _ => true) true ts vs ds ps → DataW.TrodAll enc P W' 0 (fun b => decide (b < w.heap.size)) true ts vs ds ps
  | [], vs, ds, ps, _, h => by
    obtain ⟨rfl, rfl, rfl⟩ := trodAll_nil h
    exact trodAll_mk0
  | t :: ts, vs, ds, ps, ht, h => by
    obtain ⟨v, vs', d, ds', p, q, rfl, rfl, rfl, h3, h4⟩ := trodAll_cons h
    simp only [List.all_cons, Bool.and_eq_true, decide_eq_true_eq] at ht
    have lt : ∀ x ∈ p, x.block < w.heap.size := by obtain ⟨m, hm⟩ := h3; exact DataW.trod_lt m _ _ _ hm
    exact trodAll_cons_mk (Below.trod hl ht.1.1 ht.1.2 h3 hb lt) (back_all hl hb ht.2 h4)
/-- A package's variable, cell by cell. -/
theorem row_of_var {n : String} {g : Nat} {cs : Array Value} (hg : P.globalNamed n = some g) (h : w.var? P n = some cs) : g < w.heap.size ∧ (h0 w)[g]? = some (.row (cs.toList.map (canV w.heap.size)) false none) := by
  simp only [World.var?, hg, Option.bind_some] at h
  split at h
  · rename_i cs' x y hc
    cases h
    exact ⟨(Array.getElem?_eq_some_iff.1 hc).1, h0_get hc⟩
  · cases h
/-- Without slices.Insert there is nothing to ask. -/
theorem insOk_none (h : ((List.range P.funcs.size).all fun f => match P.funcs[f]? with | some fn => !(fn.name == insN) | none => true) = true) : InsOk P := fun f fn hf hn => by
  have hlt : f < P.funcs.size := (Array.getElem?_eq_some_iff.1 hf).1
  have := List.all_eq_true.1 h f (List.mem_range.2 hlt)
  rw [hf] at this
  simp [hn] at this
/-- slices.Insert stands at one place, and is the library's. -/
theorem insOk_one {ρ : Go.Shelf.Ren} {k : Nat} (L : Go.Proofs.Lays2.n21 P ρ) (hk : ρ.f 21 = k) (h : ((List.range P.funcs.size).all fun f => Nat.beq f k || match P.funcs[f]? with | some fn => !(fn.name == insN) | none => true) = true) : InsOk P := fun f fn hf hn => by
  have hlt : f < P.funcs.size := (Array.getElem?_eq_some_iff.1 hf).1
  have := List.all_eq_true.1 h f (List.mem_range.2 hlt)
  rw [hf] at this
  simp [hn] at this
  exact ⟨ρ, L, by rw [hk, this]⟩
end Go.Canon
namespace Go.Canon
open Go
set_option maxRecDepth 100000
set_option maxHeartbeats 0
set_option linter.unusedVariables false
noncomputable section
abbrev iT : Ty := .int .i64
abbrev gT : Ty := (.pair iT (.pair (.sl iT) (.pair iT (.pair iT .unit))))
abbrev cT : Ty := (.pair iT (.pair iT (.pair (.sl gT) .unit)))
abbrev kT : Ty := (.pair (.sl iT) (.pair iT (.pair (.sl (.arr 2 iT)) .unit)))
abbrev pT : Ty := (.pair cT (.pair (.arr 14 iT) (.pair iT (.pair (.mp (.arr 2 iT) .bool) .unit))))
def m_spoondriftlaw24_awake : Unit → Option ((Bool × Unit) × Unit) := fun _ => some ((true, ()), ())
def M_sched_clock_1 (C : Cmb) (x : Int × Unit) : Option ((Bool × Unit) × Unit) := (fun (n : El iT) => C.join (fun (x : (Bool × PUnit) × PUnit) => some ((x.fst.fst, ()), ())) fun (kont : (Bool × PUnit) × PUnit → Option ((Bool × PUnit) × PUnit)) => bif ltI n (Int.ofNat 1) then kont ((true, ()), ()) else kont ((bif false then true else gtI n (Int.ofNat 100), ()), ())) x.1
def m_sched_clock_1 : Int × Unit → Option ((Bool × Unit) × Unit) := M_sched_clock_1 realC
def M_sched_clock (C : Cmb) (x : ((List Int) × Int × (List (List Int)) × Unit) × Unit) : Option ((Int × Unit) × Unit) := (fun (t : El kT) => bif Int.ofNat t.fst.length != Int.ofNat 14 then some ((Int.ofNat 2, ()), ()) else C.join (fun (x : (Bool × PUnit) × PUnit) => bif x.fst.fst then some ((Int.ofNat 3, ()), ()) else some ((Int.ofNat 0, ()), ())) fun (kont : (Bool × PUnit) × PUnit → Option ((Int × PUnit) × PUnit)) => C.join (fun (x : (Bool × PUnit) × PUnit) => bif x.fst.fst then kont ((true, ()), ()) else bif bif false then true else ltI t.snd.fst (Int.ofNat 0) then kont ((true, ()), ()) else kont ((bif false then true else gtI t.snd.fst (Int.ofNat 100), ()), ())) fun (kont : (Bool × PUnit) × PUnit → Option ((Int × PUnit) × PUnit)) => C.loop (fun (x : (Int × PUnit) × PUnit) (again : (Int × PUnit) × PUnit → Option ((Int × PUnit) × PUnit)) => bif ltI x.fst.fst (Int.ofNat t.fst.length) then C.grd (inB x.fst.fst t.fst.length) ((m_sched_clock_1 (t.fst.getD x.fst.fst.toNat 0, ())).elim none fun (val : (Bool × PUnit) × PUnit) => bif val.fst.fst then kont ((geI x.fst.fst (Int.ofNat 0), ()), ()) else again ((IntKind.i64.wrap (x.fst.fst + Int.ofNat 1), ()), ())) else kont ((geI (Int.negSucc 0) (Int.ofNat 0), ()), ())) fuelL ((Int.ofNat 0, ()), ())) x.1
def m_sched_clock : ((List Int) × Int × (List (List Int)) × Unit) × Unit → Option ((Int × Unit) × Unit) := M_sched_clock realC
def M_slices_Index (C : Cmb) (x : (List Int) × Int × Unit) : Option ((Int × Unit) × Unit) := (fun (s : El iT.sl) (v : El iT) => C.loop (fun (x : (Int × PUnit) × PUnit) (again : (Int × PUnit) × PUnit → Option ((Int × PUnit) × PUnit)) => bif ltI x.fst.fst (Int.ofNat (List.length s)) then C.grd (inB x.fst.fst (List.length s)) (bif v == List.getD s x.fst.fst.toNat 0 then some ((x.fst.fst, ()), ()) else again ((IntKind.i64.wrap (x.fst.fst + Int.ofNat 1), ()), ())) else some ((Int.negSucc 0, ()), ())) fuelL ((Int.ofNat 0, ()), ())) x.1 x.2.1
def m_slices_Index : (List Int) × Int × Unit → Option ((Int × Unit) × Unit) := M_slices_Index realC
def M_slices_Contains (C : Cmb) (x : (List Int) × Int × Unit) : Option ((Bool × Unit) × Unit) := (fun (s : El iT.sl) (v : El iT) => (m_slices_Index (s, v, ())).elim none fun (val : (Int × PUnit) × PUnit) => some ((geI val.fst.fst (Int.ofNat 0), ()), ())) x.1 x.2.1
def m_slices_Contains : (List Int) × Int × Unit → Option ((Bool × Unit) × Unit) := M_slices_Contains realC
def M_circ_Arity (C : Cmb) (x : Int × Unit) : Option ((Int × Unit) × Unit) := (fun (kind : El iT) => bif kind == Int.ofNat 12 then some ((Int.ofNat 3, ()), ()) else C.join (fun (x : (Bool × PUnit) × PUnit) => bif x.fst.fst then some ((Int.ofNat 2, ()), ()) else C.join (fun (x : (Bool × PUnit) × PUnit) => bif x.fst.fst then some ((Int.ofNat 1, ()), ()) else some ((Int.ofNat 0, ()), ())) fun (kont : (Bool × PUnit) × PUnit → Option ((Int × PUnit) × PUnit)) => bif geI kind (Int.ofNat 1) then kont ((bif true then leI kind (Int.ofNat 14) else false, ()), ()) else kont ((false, ()), ())) fun (kont : (Bool × PUnit) × PUnit → Option ((Int × PUnit) × PUnit)) => bif geI kind (Int.ofNat 9) then kont ((bif true then leI kind (Int.ofNat 11) else false, ()), ()) else kont ((false, ()), ())) x.1
def m_circ_Arity : Int × Unit → Option ((Int × Unit) × Unit) := M_circ_Arity realC
def M_circ_Check (C : Cmb) (x : (Int × Int × (List (Int × (List Int) × Int × Int × Unit)) × Unit) × Unit) : Option ((Int × Unit) × Unit) := (fun (c : El cT) => C.join (fun (x : (Bool × PUnit) × PUnit) => bif x.fst.fst then some ((Int.ofNat 3, ()), ()) else bif gtI (Int.ofNat c.snd.snd.fst.length) (Int.ofNat 120) then some ((Int.ofNat 2, ()), ()) else C.loop (fun (x : (Int × PUnit) × PUnit) (again : (Int × PUnit) × PUnit → Option ((Int × PUnit) × PUnit)) => bif ltI x.fst.fst (Int.ofNat c.snd.snd.fst.length) then C.grd (inB x.fst.fst c.snd.snd.fst.length) (C.join (fun (x_1 : (Int × PUnit) × PUnit) => bif x_1.fst.fst != Int.ofNat 0 then some ((x_1.fst.fst, ()), ()) else again ((IntKind.i64.wrap (x.fst.fst + Int.ofNat 1), ()), ())) fun (kont : (Int × PUnit) × PUnit → Option ((Int × PUnit) × PUnit)) => (m_circ_Arity ((c.snd.snd.fst.getD x.fst.fst.toNat (0, [], 0, 0, ())).fst, ())).elim none fun (val : (Int × PUnit) × PUnit) => bif val.fst.fst == Int.ofNat 0 then kont ((Int.ofNat 3, ()), ()) else (m_circ_Arity ((c.snd.snd.fst.getD x.fst.fst.toNat (0, [], 0, 0, ())).fst, ())).elim none fun (val : (Int × PUnit) × PUnit) => bif Int.ofNat (c.snd.snd.fst.getD x.fst.fst.toNat (0, [], 0, 0, ())).snd.fst.length != val.fst.fst then kont ((Int.ofNat 2, ()), ()) else C.join (fun (x_1 : (Bool × PUnit) × PUnit) => bif !!x_1.fst.fst then kont ((Int.ofNat 1, ()), ()) else C.loop (fun (x_2 : (Int × PUnit) × PUnit) (again : (Int × PUnit) × PUnit → Option ((Int × PUnit) × PUnit)) => bif ltI x_2.fst.fst (Int.ofNat (c.snd.snd.fst.getD x.fst.fst.toNat (0, [], 0, 0, ())).snd.fst.length) then C.grd (inB x_2.fst.fst (c.snd.snd.fst.getD x.fst.fst.toNat (0, [], 0, 0, ())).snd.fst.length) (C.grd (leI 0 x_2.fst.fst && leI x_2.fst.fst (Int.ofNat (c.snd.snd.fst.getD x.fst.fst.toNat (0, [], 0, 0, ())).snd.fst.length)) ((m_slices_Contains (List.take x_2.fst.fst.toNat (c.snd.snd.fst.getD x.fst.fst.toNat (0, [], 0, 0, ())).snd.fst, (c.snd.snd.fst.getD x.fst.fst.toNat (0, [], 0, 0, ())).snd.fst.getD x_2.fst.fst.toNat 0, ())).elim none fun (val : (Bool × PUnit) × PUnit) => bif val.fst.fst then kont ((Int.ofNat 5, ()), ()) else again ((IntKind.i64.wrap (x_2.fst.fst + Int.ofNat 1), ()), ()))) else C.join (fun (x_3 : (Bool × PUnit) × PUnit) => bif x_3.fst.fst then kont ((Int.ofNat 1, ()), ()) else C.join (fun (x : (Bool × PUnit) × PUnit) => bif x.fst.fst then kont ((Int.ofNat 7, ()), ()) else kont ((Int.ofNat 0, ()), ())) fun (kont : (Bool × PUnit) × PUnit → Option ((Int × PUnit) × PUnit)) => bif (c.snd.snd.fst.getD x.fst.fst.toNat (0, [], 0, 0, ())).fst == Int.ofNat 13 then bif bif true then (c.snd.snd.fst.getD x.fst.fst.toNat (0, [], 0, 0, ())).snd.snd.snd.fst != Int.ofNat 0 else false then kont ((true, ()), ()) else bif !(c.snd.snd.fst.getD x.fst.fst.toNat (0, [], 0, 0, ())).fst == Int.ofNat 13 then kont ((bif false then true else bif true then (c.snd.snd.fst.getD x.fst.fst.toNat (0, [], 0, 0, ())).snd.snd.fst != Int.ofNat 0 else false, ()), ()) else kont ((bif false then true else false, ()), ()) else bif bif false then true else (c.snd.snd.fst.getD x.fst.fst.toNat (0, [], 0, 0, ())).fst == Int.ofNat 14 then bif bif true then (c.snd.snd.fst.getD x.fst.fst.toNat (0, [], 0, 0, ())).snd.snd.snd.fst != Int.ofNat 0 else false then kont ((true, ()), ()) else bif !(c.snd.snd.fst.getD x.fst.fst.toNat (0, [], 0, 0, ())).fst == Int.ofNat 13 then kont ((bif false then true else bif true then (c.snd.snd.fst.getD x.fst.fst.toNat (0, [], 0, 0, ())).snd.snd.fst != Int.ofNat 0 else false, ()), ()) else kont ((bif false then true else false, ()), ()) else bif !(c.snd.snd.fst.getD x.fst.fst.toNat (0, [], 0, 0, ())).fst == Int.ofNat 13 then kont ((bif false then true else bif true then (c.snd.snd.fst.getD x.fst.fst.toNat (0, [], 0, 0, ())).snd.snd.fst != Int.ofNat 0 else false, ()), ()) else kont ((bif false then true else false, ()), ())) fun (kont : (Bool × PUnit) × PUnit → Option ((Int × PUnit) × PUnit)) => bif ltI (c.snd.snd.fst.getD x.fst.fst.toNat (0, [], 0, 0, ())).snd.snd.snd.fst (Int.ofNat 0) then kont ((true, ()), ()) else bif bif false then true else gtI (c.snd.snd.fst.getD x.fst.fst.toNat (0, [], 0, 0, ())).snd.snd.snd.fst c.snd.fst then kont ((true, ()), ()) else bif (c.snd.snd.fst.getD x.fst.fst.toNat (0, [], 0, 0, ())).fst == Int.ofNat 13 then bif ltI (c.snd.snd.fst.getD x.fst.fst.toNat (0, [], 0, 0, ())).snd.snd.fst (Int.ofNat 0) then kont ((bif false then true else bif true then true else false, ()), ()) else kont ((bif false then true else bif true then bif false then true else geI (c.snd.snd.fst.getD x.fst.fst.toNat (0, [], 0, 0, ())).snd.snd.fst c.snd.fst else false, ()), ()) else kont ((bif false then true else false, ()), ())) fuelL ((Int.ofNat 0, ()), ())) fun (kont : (Bool × PUnit) × PUnit → Option ((Int × PUnit) × PUnit)) => C.loop (fun (x_1 : (Int × PUnit) × PUnit) (again : (Int × PUnit) × PUnit → Option ((Int × PUnit) × PUnit)) => bif ltI x_1.fst.fst (Int.ofNat (c.snd.snd.fst.getD x.fst.fst.toNat (0, [], 0, 0, ())).snd.fst.length) then C.grd (inB x_1.fst.fst (c.snd.snd.fst.getD x.fst.fst.toNat (0, [], 0, 0, ())).snd.fst.length) (C.join (fun (x : (Bool × PUnit) × PUnit) => bif !x.fst.fst then kont ((geI x_1.fst.fst (Int.ofNat 0), ()), ()) else again ((IntKind.i64.wrap (x_1.fst.fst + Int.ofNat 1), ()), ())) fun (kont : (Bool × PUnit) × PUnit → Option ((Int × PUnit) × PUnit)) => bif geI ((c.snd.snd.fst.getD x.fst.fst.toNat (0, [], 0, 0, ())).snd.fst.getD x_1.fst.fst.toNat 0) (Int.ofNat 0) then kont ((bif true then ltI ((c.snd.snd.fst.getD x.fst.fst.toNat (0, [], 0, 0, ())).snd.fst.getD x_1.fst.fst.toNat 0) c.fst else false, ()), ()) else kont ((false, ()), ())) else kont ((geI (Int.negSucc 0) (Int.ofNat 0), ()), ())) fuelL ((Int.ofNat 0, ()), ())) else some ((Int.ofNat 0, ()), ())) fuelL ((Int.ofNat 0, ()), ())) fun (kont : (Bool × PUnit) × PUnit → Option ((Int × PUnit) × PUnit)) => bif ltI c.fst (Int.ofNat 1) then kont ((true, ()), ()) else bif bif false then true else gtI c.fst (Int.ofNat 12) then kont ((true, ()), ()) else bif bif false then true else ltI c.snd.fst (Int.ofNat 0) then kont ((true, ()), ()) else kont ((bif false then true else gtI c.snd.fst (Int.ofNat 8), ()), ())) x.1
def m_circ_Check : (Int × Int × (List (Int × (List Int) × Int × Int × Unit)) × Unit) × Unit → Option ((Int × Unit) × Unit) := M_circ_Check realC
def M_sched_opened (C : Cmb) (x : ((List Int) × Int × (List (List Int)) × Unit) × (Int × Int × (List (Int × (List Int) × Int × Int × Unit)) × Unit) × Unit) : Option (((Option ((Int × Int × (List (Int × (List Int) × Int × Int × Unit)) × Unit) × (List Int) × Int × (List ((List Int) × Bool)) × Unit)) × Int × Unit) × Unit) := (fun (t : El kT) (c : El cT) => (m_sched_clock (t, ())).elim none fun (val : (Int × PUnit) × PUnit) => bif val.fst.fst != Int.ofNat 0 then some ((none, val.fst.fst, ()), ()) else (m_circ_Check (c, ())).elim none fun (val : (Int × PUnit) × PUnit) => bif val.fst.fst != Int.ofNat 0 then some ((none, val.fst.fst, ()), ()) else C.grd true (C.loop (fun (x : (Int × PUnit) × List (List Int × Bool) × PUnit) (again : (Int × PUnit) × List (List Int × Bool) × PUnit → Option ((Option ((Int × Int × List (Int × List Int × Int × Int × PUnit) × PUnit) × List Int × Int × List (List Int × Bool) × PUnit) × Int × PUnit) × PUnit)) => bif ltI x.fst.fst (Int.ofNat t.snd.snd.fst.length) then C.grd (inB x.fst.fst t.snd.snd.fst.length) (C.join (fun (x_1 : (Bool × PUnit) × PUnit) => bif x_1.fst.fst then some ((none, Int.ofNat 1, ()), ()) else C.grd true (C.grd (ltB (Int.ofNat 0).toNat 2) (C.grd true (C.grd (ltB (Int.ofNat 1).toNat 2) (bif (t.snd.snd.fst.getD x.fst.fst.toNat (List.replicate 2 0)).getD (Int.ofNat 0).toNat 0 == (t.snd.snd.fst.getD x.fst.fst.toNat (List.replicate 2 0)).getD (Int.ofNat 1).toNat 0 then some ((none, Int.ofNat 4, ()), ()) else C.grd true (C.grd (ltB (Int.ofNat 1).toNat 2) (C.grd true (C.grd (ltB (Int.ofNat 0).toNat 2) (C.grd (inB (Int.ofNat (posMx (Ty.arr 2 iT) Ty.bool (t.snd.snd.fst.getD x.fst.fst.toNat (List.replicate 2 0)) x.snd.fst)) (insMx (Ty.arr 2 iT) Ty.bool (t.snd.snd.fst.getD x.fst.fst.toNat (List.replicate 2 0)) (atMx (Ty.arr 2 iT) Ty.bool (t.snd.snd.fst.getD x.fst.fst.toNat (List.replicate 2 0)) false x.snd.fst) x.snd.fst).length) (C.grd (inB (Int.ofNat (posMx (Ty.arr 2 iT) Ty.bool [(t.snd.snd.fst.getD x.fst.fst.toNat (List.replicate 2 0)).getD (Int.ofNat 1).toNat 0, (t.snd.snd.fst.getD x.fst.fst.toNat (List.replicate 2 0)).getD (Int.ofNat 0).toNat 0] ((insMx (Ty.arr 2 iT) Ty.bool (t.snd.snd.fst.getD x.fst.fst.toNat (List.replicate 2 0)) (atMx (Ty.arr 2 iT) Ty.bool (t.snd.snd.fst.getD x.fst.fst.toNat (List.replicate 2 0)) false x.snd.fst) x.snd.fst).modify (Int.ofNat (posMx (Ty.arr 2 iT) Ty.bool (t.snd.snd.fst.getD x.fst.fst.toNat (List.replicate 2 0)) x.snd.fst)).toNat fun (e : List Int × Bool) => (e.fst, true)))) (insMx (Ty.arr 2 iT) Ty.bool [(t.snd.snd.fst.getD x.fst.fst.toNat (List.replicate 2 0)).getD (Int.ofNat 1).toNat 0, (t.snd.snd.fst.getD x.fst.fst.toNat (List.replicate 2 0)).getD (Int.ofNat 0).toNat 0] (atMx (Ty.arr 2 iT) Ty.bool [(t.snd.snd.fst.getD x.fst.fst.toNat (List.replicate 2 0)).getD (Int.ofNat 1).toNat 0, (t.snd.snd.fst.getD x.fst.fst.toNat (List.replicate 2 0)).getD (Int.ofNat 0).toNat 0] false ((insMx (Ty.arr 2 iT) Ty.bool (t.snd.snd.fst.getD x.fst.fst.toNat (List.replicate 2 0)) (atMx (Ty.arr 2 iT) Ty.bool (t.snd.snd.fst.getD x.fst.fst.toNat (List.replicate 2 0)) false x.snd.fst) x.snd.fst).modify (Int.ofNat (posMx (Ty.arr 2 iT) Ty.bool (t.snd.snd.fst.getD x.fst.fst.toNat (List.replicate 2 0)) x.snd.fst)).toNat fun (e : List Int × Bool) => (e.fst, true))) ((insMx (Ty.arr 2 iT) Ty.bool (t.snd.snd.fst.getD x.fst.fst.toNat (List.replicate 2 0)) (atMx (Ty.arr 2 iT) Ty.bool (t.snd.snd.fst.getD x.fst.fst.toNat (List.replicate 2 0)) false x.snd.fst) x.snd.fst).modify (Int.ofNat (posMx (Ty.arr 2 iT) Ty.bool (t.snd.snd.fst.getD x.fst.fst.toNat (List.replicate 2 0)) x.snd.fst)).toNat fun (e : List Int × Bool) => (e.fst, true))).length) (again ((IntKind.i64.wrap (x.fst.fst + Int.ofNat 1), ()), (insMx (Ty.arr 2 iT) Ty.bool [(t.snd.snd.fst.getD x.fst.fst.toNat (List.replicate 2 0)).getD (Int.ofNat 1).toNat 0, (t.snd.snd.fst.getD x.fst.fst.toNat (List.replicate 2 0)).getD (Int.ofNat 0).toNat 0] (atMx (Ty.arr 2 iT) Ty.bool [(t.snd.snd.fst.getD x.fst.fst.toNat (List.replicate 2 0)).getD (Int.ofNat 1).toNat 0, (t.snd.snd.fst.getD x.fst.fst.toNat (List.replicate 2 0)).getD (Int.ofNat 0).toNat 0] false ((insMx (Ty.arr 2 iT) Ty.bool (t.snd.snd.fst.getD x.fst.fst.toNat (List.replicate 2 0)) (atMx (Ty.arr 2 iT) Ty.bool (t.snd.snd.fst.getD x.fst.fst.toNat (List.replicate 2 0)) false x.snd.fst) x.snd.fst).modify (Int.ofNat (posMx (Ty.arr 2 iT) Ty.bool (t.snd.snd.fst.getD x.fst.fst.toNat (List.replicate 2 0)) x.snd.fst)).toNat fun (e : List Int × Bool) => (e.fst, true))) ((insMx (Ty.arr 2 iT) Ty.bool (t.snd.snd.fst.getD x.fst.fst.toNat (List.replicate 2 0)) (atMx (Ty.arr 2 iT) Ty.bool (t.snd.snd.fst.getD x.fst.fst.toNat (List.replicate 2 0)) false x.snd.fst) x.snd.fst).modify (Int.ofNat (posMx (Ty.arr 2 iT) Ty.bool (t.snd.snd.fst.getD x.fst.fst.toNat (List.replicate 2 0)) x.snd.fst)).toNat fun (e : List Int × Bool) => (e.fst, true))).modify (Int.ofNat (posMx (Ty.arr 2 iT) Ty.bool [(t.snd.snd.fst.getD x.fst.fst.toNat (List.replicate 2 0)).getD (Int.ofNat 1).toNat 0, (t.snd.snd.fst.getD x.fst.fst.toNat (List.replicate 2 0)).getD (Int.ofNat 0).toNat 0] ((insMx (Ty.arr 2 iT) Ty.bool (t.snd.snd.fst.getD x.fst.fst.toNat (List.replicate 2 0)) (atMx (Ty.arr 2 iT) Ty.bool (t.snd.snd.fst.getD x.fst.fst.toNat (List.replicate 2 0)) false x.snd.fst) x.snd.fst).modify (Int.ofNat (posMx (Ty.arr 2 iT) Ty.bool (t.snd.snd.fst.getD x.fst.fst.toNat (List.replicate 2 0)) x.snd.fst)).toNat fun (e : List Int × Bool) => (e.fst, true)))).toNat fun (e : List Int × Bool) => (e.fst, true), ())))))))))))) fun (kont : (Bool × PUnit) × PUnit → Option ((Option ((Int × Int × List (Int × List Int × Int × Int × PUnit) × PUnit) × List Int × Int × List (List Int × Bool) × PUnit) × Int × PUnit) × PUnit)) => C.grd true (C.grd (ltB (Int.ofNat 0).toNat 2) (C.grd true (C.grd (ltB (Int.ofNat 1).toNat 2) (bif ltI (List.foldl mn2 ((t.snd.snd.fst.getD x.fst.fst.toNat (List.replicate 2 0)).getD (Int.ofNat 0).toNat 0) [(t.snd.snd.fst.getD x.fst.fst.toNat (List.replicate 2 0)).getD (Int.ofNat 1).toNat 0]) (Int.ofNat 0) then kont ((true, ()), ()) else C.grd true (C.grd (ltB (Int.ofNat 0).toNat 2) (C.grd true (C.grd (ltB (Int.ofNat 1).toNat 2) (kont ((bif false then true else geI (List.foldl mx2 ((t.snd.snd.fst.getD x.fst.fst.toNat (List.replicate 2 0)).getD (Int.ofNat 0).toNat 0) [(t.snd.snd.fst.getD x.fst.fst.toNat (List.replicate 2 0)).getD (Int.ofNat 1).toNat 0]) c.fst, ()), ())))))))))) else some ((some (c, cpyL [Int.ofNat 0, Int.ofNat 0, Int.ofNat 0, Int.ofNat 0, Int.ofNat 0, Int.ofNat 0, Int.ofNat 0, Int.ofNat 0, Int.ofNat 0, Int.ofNat 0, Int.ofNat 0, Int.ofNat 0, Int.ofNat 0, Int.ofNat 0] (bif Nat.beq 14 0 then 0 else 0) (min t.fst.length (14 - 0)) t.fst, t.snd.fst, x.snd.fst, ()), Int.ofNat 0, ()), ())) fuelL ((Int.ofNat 0, ()), [], ()))) x.1 x.2.1
def m_sched_opened : ((List Int) × Int × (List (List Int)) × Unit) × (Int × Int × (List (Int × (List Int) × Int × Int × Unit)) × Unit) × Unit → Option (((Option ((Int × Int × (List (Int × (List Int) × Int × Int × Unit)) × Unit) × (List Int) × Int × (List ((List Int) × Bool)) × Unit)) × Int × Unit) × Unit) := M_sched_opened realC
def M_sched_reads (C : Cmb) (x : (Int × (List Int) × Int × Int × Unit) × Int × Unit) : Option ((Bool × Unit) × Unit) := (fun (g : El gT) (bit : El iT) => some ((g.snd.snd.snd.fst == IntKind.i64.wrap (bit + Int.ofNat 1), ()), ())) x.1 x.2.1
def m_sched_reads : (Int × (List Int) × Int × Int × Unit) × Int × Unit → Option ((Bool × Unit) × Unit) := M_sched_reads realC
def M_sched_common (C : Cmb) (x : (List Int) × (List Int) × Unit) : Option ((Bool × Unit) × Unit) := (fun (a b : El iT.sl) => C.join (fun (x : (Bool × PUnit) × PUnit) => some ((x.fst.fst, ()), ())) fun (kont : (Bool × PUnit) × PUnit → Option ((Bool × PUnit) × PUnit)) => C.loop (fun (x : (Int × PUnit) × PUnit) (again : (Int × PUnit) × PUnit → Option ((Bool × PUnit) × PUnit)) => bif ltI x.fst.fst (Int.ofNat (List.length a)) then C.grd (inB x.fst.fst (List.length a)) ((m_slices_Contains (b, List.getD a x.fst.fst.toNat 0, ())).elim none fun (val : (Bool × PUnit) × PUnit) => bif val.fst.fst then kont ((geI x.fst.fst (Int.ofNat 0), ()), ()) else again ((IntKind.i64.wrap (x.fst.fst + Int.ofNat 1), ()), ())) else kont ((geI (Int.negSucc 0) (Int.ofNat 0), ()), ())) fuelL ((Int.ofNat 0, ()), ())) x.1 x.2.1
def m_sched_common : (List Int) × (List Int) × Unit → Option ((Bool × Unit) × Unit) := M_sched_common realC
def M_sched_writes (C : Cmb) (x : (Int × (List Int) × Int × Int × Unit) × Int × Unit) : Option ((Bool × Unit) × Unit) := (fun (g : El gT) (bit : El iT) => C.join (fun (x : (Bool × PUnit) × PUnit) => some ((x.fst.fst, ()), ())) fun (kont : (Bool × PUnit) × PUnit → Option ((Bool × PUnit) × PUnit)) => bif g.fst == Int.ofNat 13 then kont ((bif true then g.snd.snd.fst == bit else false, ()), ()) else kont ((false, ()), ())) x.1 x.2.1
def m_sched_writes : (Int × (List Int) × Int × Int × Unit) × Int × Unit → Option ((Bool × Unit) × Unit) := M_sched_writes realC
def M_sched_meet (C : Cmb) (x : (Int × (List Int) × Int × Int × Unit) × (Int × (List Int) × Int × Int × Unit) × Unit) : Option ((Bool × Unit) × Unit) := (fun (g h : El gT) => (m_sched_common (g.snd.fst, h.snd.fst, ())).elim none fun (val : (Bool × PUnit) × PUnit) => bif val.fst.fst then some ((true, ()), ()) else C.join (fun (x : (Bool × PUnit) × PUnit) => some ((x.fst.fst, ()), ())) fun (kont : (Bool × PUnit) × PUnit → Option ((Bool × PUnit) × PUnit)) => bif g.fst == Int.ofNat 13 then (m_sched_writes (h, g.snd.snd.fst, ())).elim none fun (val : (Bool × PUnit) × PUnit) => bif val.fst.fst then kont ((true, ()), ()) else (m_sched_reads (h, g.snd.snd.fst, ())).elim none fun (val : (Bool × PUnit) × PUnit) => bif bif true then bif false then true else val.fst.fst else false then kont ((true, ()), ()) else bif h.fst == Int.ofNat 13 then (m_sched_reads (g, h.snd.snd.fst, ())).elim none fun (val : (Bool × PUnit) × PUnit) => kont ((bif false then true else bif true then val.fst.fst else false, ()), ()) else kont ((bif false then true else false, ()), ()) else bif h.fst == Int.ofNat 13 then (m_sched_reads (g, h.snd.snd.fst, ())).elim none fun (val : (Bool × PUnit) × PUnit) => kont ((bif false then true else bif true then val.fst.fst else false, ()), ()) else kont ((bif false then true else false, ()), ())) x.1 x.2.1
def m_sched_meet : (Int × (List Int) × Int × Int × Unit) × (Int × (List Int) × Int × Int × Unit) × Unit → Option ((Bool × Unit) × Unit) := M_sched_meet realC
def M_sched_plan_disturb (C : Cmb) (x : ((Int × Int × (List (Int × (List Int) × Int × Int × Unit)) × Unit) × (List Int) × Int × (List ((List Int) × Bool)) × Unit) × Int × Int × Unit) : Option ((Bool × Unit) × Unit) := (fun (p : El pT.ptr) (i j : El iT) => C.grd (inB i p.fst.snd.snd.fst.length) (C.grd (inB j p.fst.snd.snd.fst.length) (C.join (fun (x : (Bool × PUnit) × PUnit) => bif x.fst.fst then some ((false, ()), ()) else C.loop (fun (x : (Int × PUnit) × PUnit) (again : (Int × PUnit) × PUnit → Option ((Bool × PUnit) × PUnit)) => bif ltI x.fst.fst (Int.ofNat (p.fst.snd.snd.fst.getD (Int.toNat i) (0, [], 0, 0, ())).snd.fst.length) then C.grd (inB x.fst.fst (p.fst.snd.snd.fst.getD (Int.toNat i) (0, [], 0, 0, ())).snd.fst.length) (C.loop (fun (x_1 : (Int × PUnit) × PUnit) (again_1 : (Int × PUnit) × PUnit → Option ((Bool × PUnit) × PUnit)) => bif ltI x_1.fst.fst (Int.ofNat (p.fst.snd.snd.fst.getD (Int.toNat j) (0, [], 0, 0, ())).snd.fst.length) then C.grd (inB x_1.fst.fst (p.fst.snd.snd.fst.getD (Int.toNat j) (0, [], 0, 0, ())).snd.fst.length) (bif atMx (Ty.arr 2 iT) Ty.bool [(p.fst.snd.snd.fst.getD (Int.toNat i) (0, [], 0, 0, ())).snd.fst.getD x.fst.fst.toNat 0, (p.fst.snd.snd.fst.getD (Int.toNat j) (0, [], 0, 0, ())).snd.fst.getD x_1.fst.fst.toNat 0] false p.snd.snd.snd.fst then some ((true, ()), ()) else again_1 ((IntKind.i64.wrap (x_1.fst.fst + Int.ofNat 1), ()), ())) else again ((IntKind.i64.wrap (x.fst.fst + Int.ofNat 1), ()), ())) fuelL ((Int.ofNat 0, ()), ())) else some ((false, ()), ())) fuelL ((Int.ofNat 0, ()), ())) fun (kont : (Bool × PUnit) × PUnit → Option ((Bool × PUnit) × PUnit)) => bif ltI (Int.ofNat (p.fst.snd.snd.fst.getD (Int.toNat i) (0, [], 0, 0, ())).snd.fst.length) (Int.ofNat 2) then kont ((true, ()), ()) else bif bif false then true else ltI (Int.ofNat (p.fst.snd.snd.fst.getD (Int.toNat j) (0, [], 0, 0, ())).snd.fst.length) (Int.ofNat 2) then kont ((true, ()), ()) else (m_sched_meet (p.fst.snd.snd.fst.getD (Int.toNat i) (0, [], 0, 0, ()), p.fst.snd.snd.fst.getD (Int.toNat j) (0, [], 0, 0, ()), ())).elim none fun (val : (Bool × PUnit) × PUnit) => kont ((bif false then true else val.fst.fst, ()), ())))) x.1 x.2.1 x.2.2.1
def m_sched_plan_disturb : ((Int × Int × (List (Int × (List Int) × Int × Int × Unit)) × Unit) × (List Int) × Int × (List ((List Int) × Bool)) × Unit) × Int × Int × Unit → Option ((Bool × Unit) × Unit) := M_sched_plan_disturb realC
def M_sched_plan_length (C : Cmb) (x : ((Int × Int × (List (Int × (List Int) × Int × Int × Unit)) × Unit) × (List Int) × Int × (List ((List Int) × Bool)) × Unit) × Int × Unit) : Option ((Int × Unit) × Unit) := (fun (p : El pT.ptr) (i : El iT) => C.grd (inB i p.fst.snd.snd.fst.length) (C.grd (inB (IntKind.i64.wrap ((p.fst.snd.snd.fst.getD (Int.toNat i) (0, [], 0, 0, ())).fst - Int.ofNat 1)) 14) (some ((p.snd.fst.getD (IntKind.i64.wrap ((p.fst.snd.snd.fst.getD (Int.toNat i) (0, [], 0, 0, ())).fst - Int.ofNat 1)).toNat 0, ()), ())))) x.1 x.2.1
def m_sched_plan_length : ((Int × Int × (List (Int × (List Int) × Int × Int × Unit)) × Unit) × (List Int) × Int × (List ((List Int) × Bool)) × Unit) × Int × Unit → Option ((Int × Unit) × Unit) := M_sched_plan_length realC
def M_sched_plan_on (C : Cmb) (x : ((Int × Int × (List (Int × (List Int) × Int × Int × Unit)) × Unit) × (List Int) × Int × (List ((List Int) × Bool)) × Unit) × Int × Int × Unit) : Option (((Int × Int × Unit) × Unit) × Unit) := (fun (p : El pT.ptr) (i start : El iT) => (m_sched_plan_length (p, i, ())).elim none fun (val : (Int × PUnit) × PUnit) => some (((start, IntKind.i64.wrap (start + val.fst.fst), ()), ()), ())) x.1 x.2.1 x.2.2.1
def m_sched_plan_on : ((Int × Int × (List (Int × (List Int) × Int × Int × Unit)) × Unit) × (List Int) × Int × (List ((List Int) × Bool)) × Unit) × Int × Int × Unit → Option (((Int × Int × Unit) × Unit) × Unit) := M_sched_plan_on realC
def M_sched_span_overlaps (C : Cmb) (x : (Int × Int × Unit) × (Int × Int × Unit) × Unit) : Option ((Bool × Unit) × Unit) := (fun (s t : El (iT.pair (iT.pair Ty.unit))) => C.join (fun (x : (Bool × PUnit) × PUnit) => some ((x.fst.fst, ()), ())) fun (kont : (Bool × PUnit) × PUnit → Option ((Bool × PUnit) × PUnit)) => bif false != (s.fst == t.fst && (s.snd.fst == t.snd.fst && true)) then kont ((true, ()), ()) else bif ltI s.fst t.snd.fst then kont ((bif false then true else bif true then ltI t.fst s.snd.fst else false, ()), ()) else kont ((bif false then true else false, ()), ())) x.1 x.2.1
def m_sched_span_overlaps : (Int × Int × Unit) × (Int × Int × Unit) × Unit → Option ((Bool × Unit) × Unit) := M_sched_span_overlaps realC
def M_sched_plan_free (C : Cmb) (x : ((Int × Int × (List (Int × (List Int) × Int × Int × Unit)) × Unit) × (List Int) × Int × (List ((List Int) × Bool)) × Unit) × Int × Int × (List Int) × (List Int) × Unit) : Option ((Int × Unit) × Unit) := (fun (p : El pT.ptr) (i from_ : El iT) (others starts : El iT.sl) => C.loop (fun (x : (Int × PUnit) × PUnit) (again : (Int × PUnit) × PUnit → Option ((Int × PUnit) × PUnit)) => C.loop (fun (x : (Int × Int × PUnit) × PUnit) (again_1 : (Int × Int × PUnit) × PUnit → Option ((Int × PUnit) × PUnit)) => bif ltI x.fst.snd.fst (Int.ofNat (List.length others)) then C.grd (inB x.fst.snd.fst (List.length others)) (C.grd (inB (List.getD others x.fst.snd.fst.toNat 0) (List.length starts)) ((m_sched_plan_on (p, List.getD others x.fst.snd.fst.toNat 0, List.getD starts (List.getD others x.fst.snd.fst.toNat 0).toNat 0, ())).elim none fun (val : ((Int × Int × PUnit) × PUnit) × PUnit) => C.join (fun (x_1 : (Bool × PUnit) × PUnit) => bif x_1.fst.fst then again ((val.fst.fst.snd.fst, ()), ()) else again_1 ((x.fst.fst, IntKind.i64.wrap (x.fst.snd.fst + Int.ofNat 1), ()), ())) fun (kont : (Bool × PUnit) × PUnit → Option ((Int × PUnit) × PUnit)) => (m_sched_plan_disturb (p, i, List.getD others x.fst.snd.fst.toNat 0, ())).elim none fun (val_1 : (Bool × PUnit) × PUnit) => bif val_1.fst.fst then (m_sched_plan_on (p, i, x.fst.fst, ())).elim none fun (val_2 : ((Int × Int × PUnit) × PUnit) × PUnit) => (m_sched_span_overlaps (val_2.fst.fst, val.fst.fst, ())).elim none fun (val : (Bool × PUnit) × PUnit) => kont ((bif true then val.fst.fst else false, ()), ()) else kont ((false, ()), ()))) else some ((x.fst.fst, ()), ())) fuelL ((x.fst.fst, Int.ofNat 0, ()), ())) fuelL ((from_, ()), ())) x.1 x.2.1 x.2.2.1 x.2.2.2.1 x.2.2.2.2.1
def m_sched_plan_free : ((Int × Int × (List (Int × (List Int) × Int × Int × Unit)) × Unit) × (List Int) × Int × (List ((List Int) × Bool)) × Unit) × Int × Int × (List Int) × (List Int) × Unit → Option ((Int × Unit) × Unit) := M_sched_plan_free realC
def M_sched_plan_late (C : Cmb) (x : ((Int × Int × (List (Int × (List Int) × Int × Int × Unit)) × Unit) × (List Int) × Int × (List ((List Int) × Bool)) × Unit) × Int × Int × Unit) : Option ((Int × Unit) × Unit) := (fun (p : El pT.ptr) (j i : El iT) => C.grd (inB j p.fst.snd.snd.fst.length) (C.join (fun (x : (Bool × PUnit) × PUnit) => bif x.fst.fst then some ((p.snd.snd.fst, ()), ()) else some ((Int.ofNat 0, ()), ())) fun (kont : (Bool × PUnit) × PUnit → Option ((Int × PUnit) × PUnit)) => bif (p.fst.snd.snd.fst.getD (Int.toNat j) (0, [], 0, 0, ())).fst == Int.ofNat 13 then C.grd (inB i p.fst.snd.snd.fst.length) ((m_sched_reads (p.fst.snd.snd.fst.getD (Int.toNat i) (0, [], 0, 0, ()), (p.fst.snd.snd.fst.getD (Int.toNat j) (0, [], 0, 0, ())).snd.snd.fst, ())).elim none fun (val : (Bool × PUnit) × PUnit) => kont ((bif true then val.fst.fst else false, ()), ())) else kont ((false, ()), ()))) x.1 x.2.1 x.2.2.1
def m_sched_plan_late : ((Int × Int × (List (Int × (List Int) × Int × Int × Unit)) × Unit) × (List Int) × Int × (List ((List Int) × Bool)) × Unit) × Int × Int × Unit → Option ((Int × Unit) × Unit) := M_sched_plan_late realC
def M_slices_Max (C : Cmb) (x : (List Int) × Unit) : Option ((Int × Unit) × Unit) := (fun (x : El iT.sl) => bif ltI (Int.ofNat (List.length x)) (Int.ofNat 1) then none else C.grd (inB (Int.ofNat 0) (List.length x)) (C.loop (fun (x_1 : (Int × Int × PUnit) × PUnit) (again : (Int × Int × PUnit) × PUnit → Option ((Int × PUnit) × PUnit)) => bif ltI x_1.fst.snd.fst (Int.ofNat (List.length x)) then C.grd (inB x_1.fst.snd.fst (List.length x)) (again ((List.foldl mx2 x_1.fst.fst [List.getD x x_1.fst.snd.fst.toNat 0], IntKind.i64.wrap (x_1.fst.snd.fst + Int.ofNat 1), ()), ())) else some ((x_1.fst.fst, ()), ())) fuelL ((List.getD x (Int.ofNat 0).toNat 0, Int.ofNat 1, ()), ()))) x.1
def m_slices_Max : (List Int) × Unit → Option ((Int × Unit) × Unit) := M_slices_Max realC
def M_sched_greatest (C : Cmb) (x : (List Int) × Unit) : Option ((Int × Unit) × Unit) := (fun (l : El iT.sl) => bif Int.ofNat (List.length l) == Int.ofNat 0 then some ((Int.ofNat 0, ()), ()) else (m_slices_Max (l, ())).elim none fun (val : (Int × PUnit) × PUnit) => some ((val.fst.fst, ()), ())) x.1
def m_sched_greatest : (List Int) × Unit → Option ((Int × Unit) × Unit) := M_sched_greatest realC
def M_sched_plan_holds (C : Cmb) (x : ((Int × Int × (List (Int × (List Int) × Int × Int × Unit)) × Unit) × (List Int) × Int × (List ((List Int) × Bool)) × Unit) × Int × Int × Unit) : Option ((Bool × Unit) × Unit) := (fun (p : El pT.ptr) (j i : El iT) => C.grd (inB j p.fst.snd.snd.fst.length) (C.grd (inB i p.fst.snd.snd.fst.length) ((m_sched_meet (p.fst.snd.snd.fst.getD (Int.toNat j) (0, [], 0, 0, ()), p.fst.snd.snd.fst.getD (Int.toNat i) (0, [], 0, 0, ()), ())).elim none fun (val : (Bool × PUnit) × PUnit) => some ((val.fst.fst, ()), ())))) x.1 x.2.1 x.2.2.1
def m_sched_plan_holds : ((Int × Int × (List (Int × (List Int) × Int × Int × Unit)) × Unit) × (List Int) × Int × (List ((List Int) × Bool)) × Unit) × Int × Int × Unit → Option ((Bool × Unit) × Unit) := M_sched_plan_holds realC
def M_sched_plan_after (C : Cmb) (x : ((Int × Int × (List (Int × (List Int) × Int × Int × Unit)) × Unit) × (List Int) × Int × (List ((List Int) × Bool)) × Unit) × Int × (List Int) × Unit) : Option ((Int × Unit) × Unit) := (fun (p : El pT.ptr) (i : El iT) (starts : El iT.sl) => C.loop (fun (x : (Int × PUnit) × (Int × PUnit) × PUnit) (again : (Int × PUnit) × (Int × PUnit) × PUnit → Option ((Int × PUnit) × PUnit)) => bif ltI x.fst.fst i then C.join (fun (x_1 : (Bool × PUnit) × (Int × PUnit) × PUnit) => bif x_1.fst.fst then some ((x_1.snd.fst.fst, ()), ()) else again ((IntKind.i64.wrap (x.fst.fst + Int.ofNat 1), ()), (x_1.snd.fst.fst, ()), ())) fun (kont : (Bool × PUnit) × (Int × PUnit) × PUnit → Option ((Int × PUnit) × PUnit)) => (m_sched_plan_holds (p, x.fst.fst, i, ())).elim none fun (val : (Bool × PUnit) × PUnit) => bif val.fst.fst then C.grd (inB x.fst.fst (List.length starts)) ((m_sched_plan_length (p, x.fst.fst, ())).elim none fun (val : (Int × PUnit) × PUnit) => (m_sched_plan_late (p, x.fst.fst, i, ())).elim none fun (val_1 : (Int × PUnit) × PUnit) => (m_sched_greatest ([x.snd.fst.fst, IntKind.i64.wrap (IntKind.i64.wrap (List.getD starts x.fst.fst.toNat 0 + val.fst.fst) + val_1.fst.fst)], ())).elim none fun (val : (Int × PUnit) × PUnit) => kont ((bif true then !true else false, ()), (val.fst.fst, ()), ())) else kont ((false, ()), (x.snd.fst.fst, ()), ()) else some ((x.snd.fst.fst, ()), ())) fuelL ((Int.ofNat 0, ()), (Int.ofNat 0, ()), ())) x.1 x.2.1 x.2.2.1
def m_sched_plan_after : ((Int × Int × (List (Int × (List Int) × Int × Int × Unit)) × Unit) × (List Int) × Int × (List ((List Int) × Bool)) × Unit) × Int × (List Int) × Unit → Option ((Int × Unit) × Unit) := M_sched_plan_after realC
def M_sched_upto (C : Cmb) (x : Int × Int × Unit) : Option ((Unit × Unit) × ((List Int × Unit) × Unit)) := (fun (from_ to : El iT) => C.loop (fun (x : (PUnit × Int × PUnit) × (List Int × PUnit) × PUnit) (again : (PUnit × Int × PUnit) × (List Int × PUnit) × PUnit → Option ((PUnit × PUnit) × (List Int × PUnit) × PUnit)) => bif ltI x.fst.snd.fst to then C.grd (true && leN ((x.snd.fst.fst.length + [x.fst.snd.fst].length) * 8) roomB) (again (((), IntKind.i64.wrap (x.fst.snd.fst + Int.ofNat 1), ()), (x.snd.fst.fst ++ [x.fst.snd.fst], ()), ())) else some (((), ()), (x.snd.fst.fst, ()), ())) fuelL (((), from_, ()), ([], ()), ())) x.1 x.2.1
def m_sched_upto : Int × Int × Unit → Option ((Unit × Unit) × ((List Int × Unit) × Unit)) := M_sched_upto realC
def M_sched_plan_early (C : Cmb) (x : ((Int × Int × (List (Int × (List Int) × Int × Int × Unit)) × Unit) × (List Int) × Int × (List ((List Int) × Bool)) × Unit) × Unit) : Option ((Unit × Unit) × ((List Int × Unit) × Unit)) := (fun (p : El pT.ptr) => C.loop (fun (x : (PUnit × Int × PUnit) × (List Int × PUnit) × PUnit) (again : (PUnit × Int × PUnit) × (List Int × PUnit) × PUnit → Option ((PUnit × PUnit) × (List Int × PUnit) × PUnit)) => bif ltI x.fst.snd.fst (Int.ofNat p.fst.snd.snd.fst.length) then (m_sched_plan_after (p, x.fst.snd.fst, x.snd.fst.fst, ())).elim none fun (val : (Int × PUnit) × PUnit) => (m_sched_upto (Int.ofNat 0, x.fst.snd.fst, ())).elim none fun (val_1 : (PUnit × PUnit) × (List Int × PUnit) × PUnit) => (m_sched_plan_free (p, x.fst.snd.fst, val.fst.fst, val_1.snd.fst.fst, x.snd.fst.fst, ())).elim none fun (val : (Int × PUnit) × PUnit) => C.grd (true && leN ((x.snd.fst.fst.length + [val.fst.fst].length) * 8) roomB) (again (((), IntKind.i64.wrap (x.fst.snd.fst + Int.ofNat 1), ()), (x.snd.fst.fst ++ [val.fst.fst], ()), ())) else some (((), ()), (x.snd.fst.fst, ()), ())) fuelL (((), Int.ofNat 0, ()), ([], ()), ())) x.1
def m_sched_plan_early : ((Int × Int × (List (Int × (List Int) × Int × Int × Unit)) × Unit) × (List Int) × Int × (List ((List Int) × Bool)) × Unit) × Unit → Option ((Unit × Unit) × ((List Int × Unit) × Unit)) := M_sched_plan_early realC
def M_sched_Early (C : Cmb) (x : ((List Int) × Int × (List (List Int)) × Unit) × (Int × Int × (List (Int × (List Int) × Int × Int × Unit)) × Unit) × Unit) : Option ((Unit × Int × Unit) × ((List Int × Unit) × Unit)) := (fun (t : El kT) (c : El cT) => (m_sched_opened (t, c, ())).elim none fun (val : (Option ((Int × Int × List (Int × List Int × Int × Int × PUnit) × PUnit) × List Int × Int × List (List Int × Bool) × PUnit) × Int × PUnit) × PUnit) => bif val.fst.snd.fst != Int.ofNat 0 then some (((), val.fst.snd.fst, ()), ([], ()), ()) else val.fst.fst.elim none fun (val : (Int × Int × List (Int × List Int × Int × Int × PUnit) × PUnit) × List Int × Int × List (List Int × Bool) × PUnit) => (m_sched_plan_early (val, ())).elim none fun (val : (PUnit × PUnit) × (List Int × PUnit) × PUnit) => some (((), Int.ofNat 0, ()), (val.snd.fst.fst, ()), ())) x.1 x.2.1
def m_sched_Early : ((List Int) × Int × (List (List Int)) × Unit) × (Int × Int × (List (Int × (List Int) × Int × Int × Unit)) × Unit) × Unit → Option ((Unit × Int × Unit) × ((List Int × Unit) × Unit)) := M_sched_Early realC
def M_sched_plan_before (C : Cmb) (x : ((Int × Int × (List (Int × (List Int) × Int × Int × Unit)) × Unit) × (List Int) × Int × (List ((List Int) × Bool)) × Unit) × Int × Int × (List Int) × (List Int) × Unit) : Option ((Int × Unit) × Unit) := (fun (p : El pT.ptr) (i to : El iT) (others starts : El iT.sl) => C.loop (fun (x : (Int × PUnit) × PUnit) (again : (Int × PUnit) × PUnit → Option ((Int × PUnit) × PUnit)) => C.loop (fun (x : (Int × Int × PUnit) × PUnit) (again_1 : (Int × Int × PUnit) × PUnit → Option ((Int × PUnit) × PUnit)) => bif ltI x.fst.snd.fst (Int.ofNat (List.length others)) then C.grd (inB x.fst.snd.fst (List.length others)) (C.grd (inB (List.getD others x.fst.snd.fst.toNat 0) (List.length starts)) ((m_sched_plan_on (p, List.getD others x.fst.snd.fst.toNat 0, List.getD starts (List.getD others x.fst.snd.fst.toNat 0).toNat 0, ())).elim none fun (val : ((Int × Int × PUnit) × PUnit) × PUnit) => C.join (fun (x_1 : (Bool × PUnit) × PUnit) => bif x_1.fst.fst then (m_sched_plan_length (p, i, ())).elim none fun (val_1 : (Int × PUnit) × PUnit) => again ((IntKind.i64.wrap (val.fst.fst.fst - val_1.fst.fst), ()), ()) else again_1 ((x.fst.fst, IntKind.i64.wrap (x.fst.snd.fst + Int.ofNat 1), ()), ())) fun (kont : (Bool × PUnit) × PUnit → Option ((Int × PUnit) × PUnit)) => (m_sched_plan_disturb (p, i, List.getD others x.fst.snd.fst.toNat 0, ())).elim none fun (val_1 : (Bool × PUnit) × PUnit) => bif val_1.fst.fst then (m_sched_plan_on (p, i, x.fst.fst, ())).elim none fun (val_2 : ((Int × Int × PUnit) × PUnit) × PUnit) => (m_sched_span_overlaps (val_2.fst.fst, val.fst.fst, ())).elim none fun (val : (Bool × PUnit) × PUnit) => kont ((bif true then val.fst.fst else false, ()), ()) else kont ((false, ()), ()))) else some ((x.fst.fst, ()), ())) fuelL ((x.fst.fst, Int.ofNat 0, ()), ())) fuelL ((to, ()), ())) x.1 x.2.1 x.2.2.1 x.2.2.2.1 x.2.2.2.2.1
def m_sched_plan_before : ((Int × Int × (List (Int × (List Int) × Int × Int × Unit)) × Unit) × (List Int) × Int × (List ((List Int) × Bool)) × Unit) × Int × Int × (List Int) × (List Int) × Unit → Option ((Int × Unit) × Unit) := M_sched_plan_before realC
def M_sched_plan_latest (C : Cmb) (x : ((Int × Int × (List (Int × (List Int) × Int × Int × Unit)) × Unit) × (List Int) × Int × (List ((List Int) × Bool)) × Unit) × Int × Unit) : Option ((Unit × Bool × Unit) × ((List Int × Unit) × Unit)) := (fun (p : El pT.ptr) (time : El iT) => C.grd (leI 0 (Int.ofNat p.fst.snd.snd.fst.length) && eqI (Int.ofNat p.fst.snd.snd.fst.length) (Int.ofNat p.fst.snd.snd.fst.length) && leN ((Int.ofNat p.fst.snd.snd.fst.length).toNat * 8) roomB) (C.loop (fun (x : (Int × PUnit) × (List Int × PUnit) × PUnit) (again : (Int × PUnit) × (List Int × PUnit) × PUnit → Option ((PUnit × Bool × PUnit) × (List Int × PUnit) × PUnit)) => bif geI x.fst.fst (Int.ofNat 0) then (m_sched_plan_length (p, x.fst.fst, ())).elim none fun (val : (Int × PUnit) × PUnit) => C.loop (fun (x_1 : (Int × Int × PUnit) × PUnit) (again_1 : (Int × Int × PUnit) × PUnit → Option ((PUnit × Bool × PUnit) × (List Int × PUnit) × PUnit)) => bif ltI x_1.fst.snd.fst (Int.ofNat p.fst.snd.snd.fst.length) then (m_sched_plan_holds (p, x.fst.fst, x_1.fst.snd.fst, ())).elim none fun (val : (Bool × PUnit) × PUnit) => C.join (fun (x : (Int × PUnit) × PUnit) => again_1 ((x.fst.fst, IntKind.i64.wrap (x_1.fst.snd.fst + Int.ofNat 1), ()), ())) fun (kont : (Int × PUnit) × PUnit → Option ((PUnit × Bool × PUnit) × (List Int × PUnit) × PUnit)) => bif val.fst.fst then C.grd (inB x_1.fst.snd.fst x.snd.fst.fst.length) (C.grd (ltB x_1.fst.snd.fst.toNat x.snd.fst.fst.length) ((m_sched_plan_late (p, x.fst.fst, x_1.fst.snd.fst, ())).elim none fun (val : (Int × PUnit) × PUnit) => (m_sched_plan_length (p, x.fst.fst, ())).elim none fun (val_1 : (Int × PUnit) × PUnit) => kont ((List.foldl mn2 x_1.fst.fst [IntKind.i64.wrap (IntKind.i64.wrap (x.snd.fst.fst.getD x_1.fst.snd.fst.toNat 0 - val.fst.fst) - val_1.fst.fst)], ()), ()))) else kont ((x_1.fst.fst, ()), ()) else (m_sched_upto (IntKind.i64.wrap (x.fst.fst + Int.ofNat 1), Int.ofNat p.fst.snd.snd.fst.length, ())).elim none fun (val : (PUnit × PUnit) × (List Int × PUnit) × PUnit) => (m_sched_plan_before (p, x.fst.fst, x_1.fst.fst, val.snd.fst.fst, x.snd.fst.fst, ())).elim none fun (val : (Int × PUnit) × PUnit) => C.grd (inB x.fst.fst x.snd.fst.fst.length) (C.grd (ltB x.fst.fst.toNat x.snd.fst.fst.length) (C.grd (inB x.fst.fst x.snd.fst.fst.length) (C.grd (ltB x.fst.fst.toNat x.snd.fst.fst.length) (bif ltI ((x.snd.fst.fst.set x.fst.fst.toNat val.fst.fst).getD x.fst.fst.toNat 0) (Int.ofNat 0) then some (((), false, ()), ([], ()), ()) else again ((IntKind.i64.wrap (x.fst.fst - Int.ofNat 1), ()), (x.snd.fst.fst.set x.fst.fst.toNat val.fst.fst, ()), ())))))) fuelL ((IntKind.i64.wrap (time - val.fst.fst), IntKind.i64.wrap (x.fst.fst + Int.ofNat 1), ()), ()) else some (((), true, ()), (x.snd.fst.fst, ()), ())) fuelL ((IntKind.i64.wrap (Int.ofNat p.fst.snd.snd.fst.length - Int.ofNat 1), ()), (List.replicate (Int.ofNat p.fst.snd.snd.fst.length).toNat (Int.ofNat 0), ()), ()))) x.1 x.2.1
def m_sched_plan_latest : ((Int × Int × (List (Int × (List Int) × Int × Int × Unit)) × Unit) × (List Int) × Int × (List ((List Int) × Bool)) × Unit) × Int × Unit → Option ((Unit × Bool × Unit) × ((List Int × Unit) × Unit)) := M_sched_plan_latest realC
def M_sched_Late (C : Cmb) (x : ((List Int) × Int × (List (List Int)) × Unit) × (Int × Int × (List (Int × (List Int) × Int × Int × Unit)) × Unit) × Int × Unit) : Option ((Unit × Int × Unit) × ((List Int × Unit) × Unit)) := (fun (t : El kT) (c : El cT) (time : El iT) => (m_sched_opened (t, c, ())).elim none fun (val : (Option ((Int × Int × List (Int × List Int × Int × Int × PUnit) × PUnit) × List Int × Int × List (List Int × Bool) × PUnit) × Int × PUnit) × PUnit) => bif val.fst.snd.fst != Int.ofNat 0 then some (((), val.fst.snd.fst, ()), ([], ()), ()) else C.join (fun (x : (Bool × PUnit) × PUnit) => bif x.fst.fst then some (((), Int.ofNat 3, ()), ([], ()), ()) else val.fst.fst.elim none fun (val : (Int × Int × List (Int × List Int × Int × Int × PUnit) × PUnit) × List Int × Int × List (List Int × Bool) × PUnit) => (m_sched_plan_latest (val, time, ())).elim none fun (val : (PUnit × Bool × PUnit) × (List Int × PUnit) × PUnit) => bif !val.fst.snd.fst then some (((), Int.ofNat 13, ()), ([], ()), ()) else some (((), Int.ofNat 0, ()), (val.snd.fst.fst, ()), ())) fun (kont : (Bool × PUnit) × PUnit → Option ((PUnit × Int × PUnit) × (List Int × PUnit) × PUnit)) => bif ltI time (Int.ofNat 0) then kont ((true, ()), ()) else kont ((bif false then true else gtI time (Int.ofNat 100000), ()), ())) x.1 x.2.1 x.2.2.1
def m_sched_Late : ((List Int) × Int × (List (List Int)) × Unit) × (Int × Int × (List (Int × (List Int) × Int × Int × Unit)) × Unit) × Int × Unit → Option ((Unit × Int × Unit) × ((List Int × Unit) × Unit)) := M_sched_Late realC
def M_sched_plan_end (C : Cmb) (x : ((Int × Int × (List (Int × (List Int) × Int × Int × Unit)) × Unit) × (List Int) × Int × (List ((List Int) × Bool)) × Unit) × (List Int) × Unit) : Option ((Int × Unit) × Unit) := (fun (p : El pT.ptr) (starts : El iT.sl) => C.loop (fun (x : (PUnit × Int × PUnit) × (List Int × PUnit) × PUnit) (again : (PUnit × Int × PUnit) × (List Int × PUnit) × PUnit → Option ((Int × PUnit) × PUnit)) => bif ltI x.fst.snd.fst (Int.ofNat (List.length starts)) then C.grd (inB x.fst.snd.fst (List.length starts)) ((m_sched_plan_length (p, x.fst.snd.fst, ())).elim none fun (val : (Int × PUnit) × PUnit) => C.grd (true && leN ((x.snd.fst.fst.length + [IntKind.i64.wrap (List.getD starts x.fst.snd.fst.toNat 0 + val.fst.fst)].length) * 8) roomB) (again (((), IntKind.i64.wrap (x.fst.snd.fst + Int.ofNat 1), ()), (x.snd.fst.fst ++ [IntKind.i64.wrap (List.getD starts x.fst.snd.fst.toNat 0 + val.fst.fst)], ()), ()))) else (m_sched_greatest (x.snd.fst.fst, ())).elim none fun (val : (Int × PUnit) × PUnit) => some ((val.fst.fst, ()), ())) fuelL (((), Int.ofNat 0, ()), ([], ()), ())) x.1 x.2.1
def m_sched_plan_end : ((Int × Int × (List (Int × (List Int) × Int × Int × Unit)) × Unit) × (List Int) × Int × (List ((List Int) × Bool)) × Unit) × (List Int) × Unit → Option ((Int × Unit) × Unit) := M_sched_plan_end realC
def M_sched_Slack (C : Cmb) (x : ((List Int) × Int × (List (List Int)) × Unit) × (Int × Int × (List (Int × (List Int) × Int × Int × Unit)) × Unit) × Unit) : Option ((Unit × Int × Unit) × ((List Int × Unit) × Unit)) := (fun (t : El kT) (c : El cT) => (m_sched_clock (t, ())).elim none fun (val : (Int × PUnit) × PUnit) => bif val.fst.fst != Int.ofNat 0 then bif val.fst.fst != Int.ofNat 0 then some (((), val.fst.fst, ()), ([], ()), ()) else none else (m_circ_Check (c, ())).elim none fun (val : (Int × PUnit) × PUnit) => bif val.fst.fst != Int.ofNat 0 then bif val.fst.fst != Int.ofNat 0 then some (((), val.fst.fst, ()), ([], ()), ()) else none else C.grd true (C.loop (fun (x : (Int × PUnit) × List (List Int × Bool) × PUnit) (again : (Int × PUnit) × List (List Int × Bool) × PUnit → Option ((PUnit × Int × PUnit) × (List Int × PUnit) × PUnit)) => bif ltI x.fst.fst (Int.ofNat t.snd.snd.fst.length) then C.grd (inB x.fst.fst t.snd.snd.fst.length) (C.join (fun (x_1 : (Bool × PUnit) × PUnit) => bif x_1.fst.fst then some (((), Int.ofNat 1, ()), ([], ()), ()) else C.grd true (C.grd (ltB (Int.ofNat 0).toNat 2) (C.grd true (C.grd (ltB (Int.ofNat 1).toNat 2) (bif (t.snd.snd.fst.getD x.fst.fst.toNat (List.replicate 2 0)).getD (Int.ofNat 0).toNat 0 == (t.snd.snd.fst.getD x.fst.fst.toNat (List.replicate 2 0)).getD (Int.ofNat 1).toNat 0 then some (((), Int.ofNat 4, ()), ([], ()), ()) else C.grd true (C.grd (ltB (Int.ofNat 1).toNat 2) (C.grd true (C.grd (ltB (Int.ofNat 0).toNat 2) (C.grd (inB (Int.ofNat (posMx (Ty.arr 2 iT) Ty.bool (t.snd.snd.fst.getD x.fst.fst.toNat (List.replicate 2 0)) x.snd.fst)) (insMx (Ty.arr 2 iT) Ty.bool (t.snd.snd.fst.getD x.fst.fst.toNat (List.replicate 2 0)) (atMx (Ty.arr 2 iT) Ty.bool (t.snd.snd.fst.getD x.fst.fst.toNat (List.replicate 2 0)) false x.snd.fst) x.snd.fst).length) (C.grd (inB (Int.ofNat (posMx (Ty.arr 2 iT) Ty.bool [(t.snd.snd.fst.getD x.fst.fst.toNat (List.replicate 2 0)).getD (Int.ofNat 1).toNat 0, (t.snd.snd.fst.getD x.fst.fst.toNat (List.replicate 2 0)).getD (Int.ofNat 0).toNat 0] ((insMx (Ty.arr 2 iT) Ty.bool (t.snd.snd.fst.getD x.fst.fst.toNat (List.replicate 2 0)) (atMx (Ty.arr 2 iT) Ty.bool (t.snd.snd.fst.getD x.fst.fst.toNat (List.replicate 2 0)) false x.snd.fst) x.snd.fst).modify (Int.ofNat (posMx (Ty.arr 2 iT) Ty.bool (t.snd.snd.fst.getD x.fst.fst.toNat (List.replicate 2 0)) x.snd.fst)).toNat fun (e : List Int × Bool) => (e.fst, true)))) (insMx (Ty.arr 2 iT) Ty.bool [(t.snd.snd.fst.getD x.fst.fst.toNat (List.replicate 2 0)).getD (Int.ofNat 1).toNat 0, (t.snd.snd.fst.getD x.fst.fst.toNat (List.replicate 2 0)).getD (Int.ofNat 0).toNat 0] (atMx (Ty.arr 2 iT) Ty.bool [(t.snd.snd.fst.getD x.fst.fst.toNat (List.replicate 2 0)).getD (Int.ofNat 1).toNat 0, (t.snd.snd.fst.getD x.fst.fst.toNat (List.replicate 2 0)).getD (Int.ofNat 0).toNat 0] false ((insMx (Ty.arr 2 iT) Ty.bool (t.snd.snd.fst.getD x.fst.fst.toNat (List.replicate 2 0)) (atMx (Ty.arr 2 iT) Ty.bool (t.snd.snd.fst.getD x.fst.fst.toNat (List.replicate 2 0)) false x.snd.fst) x.snd.fst).modify (Int.ofNat (posMx (Ty.arr 2 iT) Ty.bool (t.snd.snd.fst.getD x.fst.fst.toNat (List.replicate 2 0)) x.snd.fst)).toNat fun (e : List Int × Bool) => (e.fst, true))) ((insMx (Ty.arr 2 iT) Ty.bool (t.snd.snd.fst.getD x.fst.fst.toNat (List.replicate 2 0)) (atMx (Ty.arr 2 iT) Ty.bool (t.snd.snd.fst.getD x.fst.fst.toNat (List.replicate 2 0)) false x.snd.fst) x.snd.fst).modify (Int.ofNat (posMx (Ty.arr 2 iT) Ty.bool (t.snd.snd.fst.getD x.fst.fst.toNat (List.replicate 2 0)) x.snd.fst)).toNat fun (e : List Int × Bool) => (e.fst, true))).length) (again ((IntKind.i64.wrap (x.fst.fst + Int.ofNat 1), ()), (insMx (Ty.arr 2 iT) Ty.bool [(t.snd.snd.fst.getD x.fst.fst.toNat (List.replicate 2 0)).getD (Int.ofNat 1).toNat 0, (t.snd.snd.fst.getD x.fst.fst.toNat (List.replicate 2 0)).getD (Int.ofNat 0).toNat 0] (atMx (Ty.arr 2 iT) Ty.bool [(t.snd.snd.fst.getD x.fst.fst.toNat (List.replicate 2 0)).getD (Int.ofNat 1).toNat 0, (t.snd.snd.fst.getD x.fst.fst.toNat (List.replicate 2 0)).getD (Int.ofNat 0).toNat 0] false ((insMx (Ty.arr 2 iT) Ty.bool (t.snd.snd.fst.getD x.fst.fst.toNat (List.replicate 2 0)) (atMx (Ty.arr 2 iT) Ty.bool (t.snd.snd.fst.getD x.fst.fst.toNat (List.replicate 2 0)) false x.snd.fst) x.snd.fst).modify (Int.ofNat (posMx (Ty.arr 2 iT) Ty.bool (t.snd.snd.fst.getD x.fst.fst.toNat (List.replicate 2 0)) x.snd.fst)).toNat fun (e : List Int × Bool) => (e.fst, true))) ((insMx (Ty.arr 2 iT) Ty.bool (t.snd.snd.fst.getD x.fst.fst.toNat (List.replicate 2 0)) (atMx (Ty.arr 2 iT) Ty.bool (t.snd.snd.fst.getD x.fst.fst.toNat (List.replicate 2 0)) false x.snd.fst) x.snd.fst).modify (Int.ofNat (posMx (Ty.arr 2 iT) Ty.bool (t.snd.snd.fst.getD x.fst.fst.toNat (List.replicate 2 0)) x.snd.fst)).toNat fun (e : List Int × Bool) => (e.fst, true))).modify (Int.ofNat (posMx (Ty.arr 2 iT) Ty.bool [(t.snd.snd.fst.getD x.fst.fst.toNat (List.replicate 2 0)).getD (Int.ofNat 1).toNat 0, (t.snd.snd.fst.getD x.fst.fst.toNat (List.replicate 2 0)).getD (Int.ofNat 0).toNat 0] ((insMx (Ty.arr 2 iT) Ty.bool (t.snd.snd.fst.getD x.fst.fst.toNat (List.replicate 2 0)) (atMx (Ty.arr 2 iT) Ty.bool (t.snd.snd.fst.getD x.fst.fst.toNat (List.replicate 2 0)) false x.snd.fst) x.snd.fst).modify (Int.ofNat (posMx (Ty.arr 2 iT) Ty.bool (t.snd.snd.fst.getD x.fst.fst.toNat (List.replicate 2 0)) x.snd.fst)).toNat fun (e : List Int × Bool) => (e.fst, true)))).toNat fun (e : List Int × Bool) => (e.fst, true), ())))))))))))) fun (kont : (Bool × PUnit) × PUnit → Option ((PUnit × Int × PUnit) × (List Int × PUnit) × PUnit)) => C.grd true (C.grd (ltB (Int.ofNat 0).toNat 2) (C.grd true (C.grd (ltB (Int.ofNat 1).toNat 2) (bif ltI (List.foldl mn2 ((t.snd.snd.fst.getD x.fst.fst.toNat (List.replicate 2 0)).getD (Int.ofNat 0).toNat 0) [(t.snd.snd.fst.getD x.fst.fst.toNat (List.replicate 2 0)).getD (Int.ofNat 1).toNat 0]) (Int.ofNat 0) then kont ((true, ()), ()) else C.grd true (C.grd (ltB (Int.ofNat 0).toNat 2) (C.grd true (C.grd (ltB (Int.ofNat 1).toNat 2) (kont ((bif false then true else geI (List.foldl mx2 ((t.snd.snd.fst.getD x.fst.fst.toNat (List.replicate 2 0)).getD (Int.ofNat 0).toNat 0) [(t.snd.snd.fst.getD x.fst.fst.toNat (List.replicate 2 0)).getD (Int.ofNat 1).toNat 0]) c.fst, ()), ())))))))))) else (m_sched_plan_early ((c, cpyL [Int.ofNat 0, Int.ofNat 0, Int.ofNat 0, Int.ofNat 0, Int.ofNat 0, Int.ofNat 0, Int.ofNat 0, Int.ofNat 0, Int.ofNat 0, Int.ofNat 0, Int.ofNat 0, Int.ofNat 0, Int.ofNat 0, Int.ofNat 0] (bif Nat.beq 14 0 then 0 else 0) (min t.fst.length (14 - 0)) t.fst, t.snd.fst, [], ()), ())).elim none fun (val : (PUnit × PUnit) × (List Int × PUnit) × PUnit) => (m_sched_plan_end ((c, cpyL [Int.ofNat 0, Int.ofNat 0, Int.ofNat 0, Int.ofNat 0, Int.ofNat 0, Int.ofNat 0, Int.ofNat 0, Int.ofNat 0, Int.ofNat 0, Int.ofNat 0, Int.ofNat 0, Int.ofNat 0, Int.ofNat 0, Int.ofNat 0] (bif Nat.beq 14 0 then 0 else 0) (min t.fst.length (14 - 0)) t.fst, t.snd.fst, [], ()), val.snd.fst.fst, ())).elim none fun (val_1 : (Int × PUnit) × PUnit) => (m_sched_plan_latest ((c, cpyL [Int.ofNat 0, Int.ofNat 0, Int.ofNat 0, Int.ofNat 0, Int.ofNat 0, Int.ofNat 0, Int.ofNat 0, Int.ofNat 0, Int.ofNat 0, Int.ofNat 0, Int.ofNat 0, Int.ofNat 0, Int.ofNat 0, Int.ofNat 0] (bif Nat.beq 14 0 then 0 else 0) (min t.fst.length (14 - 0)) t.fst, t.snd.fst, [], ()), val_1.fst.fst, ())).elim none fun (val_2 : (PUnit × Bool × PUnit) × (List Int × PUnit) × PUnit) => C.loop (fun (x : (PUnit × Int × PUnit) × (List Int × PUnit) × PUnit) (again : (PUnit × Int × PUnit) × (List Int × PUnit) × PUnit → Option ((PUnit × Int × PUnit) × (List Int × PUnit) × PUnit)) => bif ltI x.fst.snd.fst (Int.ofNat val.snd.fst.fst.length) then C.grd (inB x.fst.snd.fst val.snd.fst.fst.length) (C.grd (ltB x.fst.snd.fst.toNat val.snd.fst.fst.length) (C.grd (inB x.fst.snd.fst val_2.snd.fst.fst.length) (C.grd (ltB x.fst.snd.fst.toNat val_2.snd.fst.fst.length) (C.grd (true && leN ((x.snd.fst.fst.length + [IntKind.i64.wrap (val_2.snd.fst.fst.getD x.fst.snd.fst.toNat 0 - val.snd.fst.fst.getD x.fst.snd.fst.toNat 0)].length) * 8) roomB) (again (((), IntKind.i64.wrap (x.fst.snd.fst + Int.ofNat 1), ()), (x.snd.fst.fst ++ [IntKind.i64.wrap (val_2.snd.fst.fst.getD x.fst.snd.fst.toNat 0 - val.snd.fst.fst.getD x.fst.snd.fst.toNat 0)], ()), ())))))) else some (((), Int.ofNat 0, ()), (x.snd.fst.fst, ()), ())) fuelL (((), Int.ofNat 0, ()), ([], ()), ())) fuelL ((Int.ofNat 0, ()), [], ()))) x.1 x.2.1
def m_sched_Slack : ((List Int) × Int × (List (List Int)) × Unit) × (Int × Int × (List (Int × (List Int) × Int × Int × Unit)) × Unit) × Unit → Option ((Unit × Int × Unit) × ((List Int × Unit) × Unit)) := M_sched_Slack realC
def M_spoondriftlaw24_clock (C : Cmb) (x : (List (List Int)) × Unit) : Option ((((List Int) × Int × (List (List Int)) × Unit) × Unit) × Unit) := (fun (noisy : El (Ty.arr 2 iT).sl) => C.loop (fun (x : (Int × PUnit) × (PUnit × Int × List (List Int) × PUnit) × (List Int × PUnit) × PUnit) (again : (Int × PUnit) × (PUnit × Int × List (List Int) × PUnit) × (List Int × PUnit) × PUnit → Option (((List Int × Int × List (List Int) × PUnit) × PUnit) × PUnit)) => bif ltI x.fst.fst (Int.ofNat 14) then C.join (fun (x_1 : (Int × PUnit) × PUnit) => C.grd (true && leN ((x.snd.snd.fst.fst.length + [x_1.fst.fst].length) * 8) roomB) (again ((IntKind.i64.wrap (x.fst.fst + Int.ofNat 1), ()), ((), x.snd.fst.snd.fst, x.snd.fst.snd.snd.fst, ()), (x.snd.snd.fst.fst ++ [x_1.fst.fst], ()), ()))) fun (kont : (Int × PUnit) × PUnit → Option (((List Int × Int × List (List Int) × PUnit) × PUnit) × PUnit)) => bif IntKind.i64.wrap (x.fst.fst + Int.ofNat 1) == Int.ofNat 4 then kont ((Int.ofNat 2, ()), ()) else C.join (fun (x : (Int × PUnit) × PUnit) => kont ((x.fst.fst, ()), ())) fun (kont : (Int × PUnit) × PUnit → Option (((List Int × Int × List (List Int) × PUnit) × PUnit) × PUnit)) => bif IntKind.i64.wrap (x.fst.fst + Int.ofNat 1) == Int.ofNat 9 then kont ((Int.ofNat 5, ()), ()) else C.join (fun (x : (Int × PUnit) × PUnit) => kont ((x.fst.fst, ()), ())) fun (kont : (Int × PUnit) × PUnit → Option (((List Int × Int × List (List Int) × PUnit) × PUnit) × PUnit)) => bif IntKind.i64.wrap (x.fst.fst + Int.ofNat 1) == Int.ofNat 13 then kont ((Int.ofNat 10, ()), ()) else kont ((Int.ofNat 1, ()), ()) else some (((x.snd.snd.fst.fst, x.snd.fst.snd.fst, x.snd.fst.snd.snd.fst, ()), ()), ())) fuelL ((Int.ofNat 0, ()), ((), Int.ofNat 3, noisy, ()), ([], ()), ())) x.1
def m_spoondriftlaw24_clock : (List (List Int)) × Unit → Option ((((List Int) × Int × (List (List Int)) × Unit) × Unit) × Unit) := M_spoondriftlaw24_clock realC
def M_spoondriftlaw24_gate (C : Cmb) (x : Int × (List Int) × Unit) : Option (((Int × (List Int) × Int × Int × Unit) × Unit) × Unit) := (fun (kind : El iT) (wires : El iT.sl) => some (((kind, wires, Int.ofNat 0, Int.ofNat 0, ()), ()), ())) x.1 x.2.1
def m_spoondriftlaw24_gate : Int × (List Int) × Unit → Option (((Int × (List Int) × Int × Int × Unit) × Unit) × Unit) := M_spoondriftlaw24_gate realC
def M_sched_with_1 (C : Cmb) (x : Int × Unit) : Option ((Bool × Unit) × Unit) := (fun (s : El iT) => C.join (fun (x : (Bool × PUnit) × PUnit) => some ((x.fst.fst, ()), ())) fun (kont : (Bool × PUnit) × PUnit → Option ((Bool × PUnit) × PUnit)) => bif ltI s (Int.ofNat 0) then kont ((true, ()), ()) else kont ((bif false then true else gtI s (Int.ofNat 100000), ()), ())) x.1
def m_sched_with_1 : Int × Unit → Option ((Bool × Unit) × Unit) := M_sched_with_1 realC
def M_sched_with (C : Cmb) (x : ((List Int) × Int × (List (List Int)) × Unit) × (Int × Int × (List (Int × (List Int) × Int × Int × Unit)) × Unit) × (List Int) × Unit) : Option (((Option ((Int × Int × (List (Int × (List Int) × Int × Int × Unit)) × Unit) × (List Int) × Int × (List ((List Int) × Bool)) × Unit)) × Int × Int × Unit) × Unit) := (fun (t : El kT) (c : El cT) (starts : El iT.sl) => (m_sched_opened (t, c, ())).elim none fun (val : (Option ((Int × Int × List (Int × List Int × Int × Int × PUnit) × PUnit) × List Int × Int × List (List Int × Bool) × PUnit) × Int × PUnit) × PUnit) => bif val.fst.snd.fst != Int.ofNat 0 then some ((none, Int.ofNat 0, val.fst.snd.fst, ()), ()) else bif Int.ofNat (List.length starts) != Int.ofNat c.snd.snd.fst.length then some ((none, Int.ofNat 0, Int.ofNat 2, ()), ()) else C.join (fun (x : (Bool × PUnit) × PUnit) => bif x.fst.fst then some ((none, Int.ofNat 0, Int.ofNat 3, ()), ()) else C.loop (fun (x : (Int × PUnit) × PUnit) (again : (Int × PUnit) × PUnit → Option ((Option ((Int × Int × List (Int × List Int × Int × Int × PUnit) × PUnit) × List Int × Int × List (List Int × Bool) × PUnit) × Int × Int × PUnit) × PUnit)) => bif ltI x.fst.fst (Int.ofNat (List.length starts)) then C.grd true (C.join (fun (x_1 : (Bool × PUnit) × PUnit) => bif x_1.fst.fst then some ((none, x.fst.fst, 15, ()), ()) else C.grd true (C.join (fun (x_2 : (Bool × PUnit) × PUnit) => bif x_2.fst.fst then some ((none, x.fst.fst, 7, ()), ()) else again ((IntKind.i64.wrap (x.fst.fst + Int.ofNat 1), ()), ())) fun (kont : (Bool × PUnit) × PUnit → Option ((Option ((Int × Int × List (Int × List Int × Int × Int × PUnit) × PUnit) × List Int × Int × List (List Int × Bool) × PUnit) × Int × Int × PUnit) × PUnit)) => C.loop (fun (x_2 : (Int × PUnit) × PUnit) (again : (Int × PUnit) × PUnit → Option ((Option ((Int × Int × List (Int × List Int × Int × Int × PUnit) × PUnit) × List Int × Int × List (List Int × Bool) × PUnit) × Int × Int × PUnit) × PUnit)) => bif ltI x_2.fst.fst x.fst.fst then C.join (fun (x : (Bool × PUnit) × PUnit) => bif x.fst.fst then kont ((!false, ()), ()) else again ((IntKind.i64.wrap (x_2.fst.fst + Int.ofNat 1), ()), ())) fun (kont : (Bool × PUnit) × PUnit → Option ((Option ((Int × Int × List (Int × List Int × Int × Int × PUnit) × PUnit) × List Int × Int × List (List Int × Bool) × PUnit) × Int × Int × PUnit) × PUnit)) => val.fst.fst.elim none fun (val_1 : (Int × Int × List (Int × List Int × Int × Int × PUnit) × PUnit) × List Int × Int × List (List Int × Bool) × PUnit) => (m_sched_plan_disturb (val_1, x.fst.fst, x_2.fst.fst, ())).elim none fun (val_2 : (Bool × PUnit) × PUnit) => bif val_2.fst.fst then C.grd (inB x.fst.fst (List.length starts)) (val.fst.fst.elim none fun (val_3 : (Int × Int × List (Int × List Int × Int × Int × PUnit) × PUnit) × List Int × Int × List (List Int × Bool) × PUnit) => (m_sched_plan_on (val_3, x.fst.fst, List.getD starts x.fst.fst.toNat 0, ())).elim none fun (val_4 : ((Int × Int × PUnit) × PUnit) × PUnit) => C.grd (inB x_2.fst.fst (List.length starts)) (val.fst.fst.elim none fun (val : (Int × Int × List (Int × List Int × Int × Int × PUnit) × PUnit) × List Int × Int × List (List Int × Bool) × PUnit) => (m_sched_plan_on (val, x_2.fst.fst, List.getD starts x_2.fst.fst.toNat 0, ())).elim none fun (val : ((Int × Int × PUnit) × PUnit) × PUnit) => (m_sched_span_overlaps (val_4.fst.fst, val.fst.fst, ())).elim none fun (val : (Bool × PUnit) × PUnit) => kont ((bif true then val.fst.fst else false, ()), ()))) else kont ((false, ()), ()) else kont ((!true, ()), ())) fuelL ((Int.ofNat 0, ()), ()))) fun (kont : (Bool × PUnit) × PUnit → Option ((Option ((Int × Int × List (Int × List Int × Int × Int × PUnit) × PUnit) × List Int × Int × List (List Int × Bool) × PUnit) × Int × Int × PUnit) × PUnit)) => C.grd (inB x.fst.fst (List.length starts)) (val.fst.fst.elim none fun (val : (Int × Int × List (Int × List Int × Int × Int × PUnit) × PUnit) × List Int × Int × List (List Int × Bool) × PUnit) => (m_sched_plan_after (val, x.fst.fst, starts, ())).elim none fun (val : (Int × PUnit) × PUnit) => kont ((!geI (List.getD starts x.fst.fst.toNat 0) val.fst.fst, ()), ()))) else some ((val.fst.fst, Int.ofNat 0, Int.ofNat 0, ()), ())) fuelL ((Int.ofNat 0, ()), ())) fun (kont : (Bool × PUnit) × PUnit → Option ((Option ((Int × Int × List (Int × List Int × Int × Int × PUnit) × PUnit) × List Int × Int × List (List Int × Bool) × PUnit) × Int × Int × PUnit) × PUnit)) => C.loop (fun (x : (Int × PUnit) × PUnit) (again : (Int × PUnit) × PUnit → Option ((Option ((Int × Int × List (Int × List Int × Int × Int × PUnit) × PUnit) × List Int × Int × List (List Int × Bool) × PUnit) × Int × Int × PUnit) × PUnit)) => bif ltI x.fst.fst (Int.ofNat (List.length starts)) then C.grd (inB x.fst.fst (List.length starts)) ((m_sched_with_1 (List.getD starts x.fst.fst.toNat 0, ())).elim none fun (val : (Bool × PUnit) × PUnit) => bif val.fst.fst then kont ((geI x.fst.fst (Int.ofNat 0), ()), ()) else again ((IntKind.i64.wrap (x.fst.fst + Int.ofNat 1), ()), ())) else kont ((geI (Int.negSucc 0) (Int.ofNat 0), ()), ())) fuelL ((Int.ofNat 0, ()), ())) x.1 x.2.1 x.2.2.1
def m_sched_with : ((List Int) × Int × (List (List Int)) × Unit) × (Int × Int × (List (Int × (List Int) × Int × Int × Unit)) × Unit) × (List Int) × Unit → Option (((Option ((Int × Int × (List (Int × (List Int) × Int × Int × Unit)) × Unit) × (List Int) × Int × (List ((List Int) × Bool)) × Unit)) × Int × Int × Unit) × Unit) := M_sched_with realC
def M_sched_Length (C : Cmb) (x : ((List Int) × Int × (List (List Int)) × Unit) × (Int × Int × (List (Int × (List Int) × Int × Int × Unit)) × Unit) × (List Int) × Unit) : Option ((Int × Int × Unit) × Unit) := (fun (t : El kT) (c : El cT) (starts : El iT.sl) => (m_sched_with (t, c, starts, ())).elim none fun (val : (Option ((Int × Int × List (Int × List Int × Int × Int × PUnit) × PUnit) × List Int × Int × List (List Int × Bool) × PUnit) × Int × Int × PUnit) × PUnit) => bif val.fst.snd.snd.fst != Int.ofNat 0 then some ((Int.ofNat 0, val.fst.snd.snd.fst, ()), ()) else val.fst.fst.elim none fun (val : (Int × Int × List (Int × List Int × Int × Int × PUnit) × PUnit) × List Int × Int × List (List Int × Bool) × PUnit) => (m_sched_plan_end (val, starts, ())).elim none fun (val : (Int × PUnit) × PUnit) => some ((val.fst.fst, Int.ofNat 0, ()), ())) x.1 x.2.1 x.2.2.1
def m_sched_Length : ((List Int) × Int × (List (List Int)) × Unit) × (Int × Int × (List (Int × (List Int) × Int × Int × Unit)) × Unit) × (List Int) × Unit → Option ((Int × Int × Unit) × Unit) := M_sched_Length realC
def M_sched_Chain (C : Cmb) (x : ((List Int) × Int × (List (List Int)) × Unit) × (Int × Int × (List (Int × (List Int) × Int × Int × Unit)) × Unit) × Unit) : Option ((Unit × Int × Int × Unit) × ((List Int × Unit) × Unit)) := (fun (t : El kT) (c : El cT) => (m_sched_opened (t, c, ())).elim none fun (val : (Option ((Int × Int × List (Int × List Int × Int × Int × PUnit) × PUnit) × List Int × Int × List (List Int × Bool) × PUnit) × Int × PUnit) × PUnit) => bif val.fst.snd.fst != Int.ofNat 0 then some (((), Int.ofNat 0, val.fst.snd.fst, ()), ([], ()), ()) else val.fst.fst.elim none fun (val_1 : (Int × Int × List (Int × List Int × Int × Int × PUnit) × PUnit) × List Int × Int × List (List Int × Bool) × PUnit) => C.grd (leI 0 (Int.ofNat val_1.fst.snd.snd.fst.length) && eqI (Int.ofNat val_1.fst.snd.snd.fst.length) (Int.ofNat val_1.fst.snd.snd.fst.length) && leN ((Int.ofNat val_1.fst.snd.snd.fst.length).toNat * 8) roomB) (C.grd (leI 0 (Int.ofNat val_1.fst.snd.snd.fst.length) && eqI (Int.ofNat val_1.fst.snd.snd.fst.length) (Int.ofNat val_1.fst.snd.snd.fst.length) && leN ((Int.ofNat val_1.fst.snd.snd.fst.length).toNat * 8) roomB) (C.loop (fun (x : (Int × PUnit) × (List Int × PUnit) × (List Int × PUnit) × PUnit) (again : (Int × PUnit) × (List Int × PUnit) × (List Int × PUnit) × PUnit → Option ((PUnit × Int × Int × PUnit) × (List Int × PUnit) × PUnit)) => bif geI x.fst.fst (Int.ofNat 0) then val.fst.fst.elim none fun (val_2 : (Int × Int × List (Int × List Int × Int × Int × PUnit) × PUnit) × List Int × Int × List (List Int × Bool) × PUnit) => (m_sched_plan_length (val_2, x.fst.fst, ())).elim none fun (val_3 : (Int × PUnit) × PUnit) => C.grd (inB x.fst.fst x.snd.fst.fst.length) (C.grd (ltB x.fst.fst.toNat x.snd.fst.fst.length) (C.grd (inB x.fst.fst x.snd.snd.fst.fst.length) (C.grd (ltB x.fst.fst.toNat x.snd.snd.fst.fst.length) (C.loop (fun (x_1 : (Int × PUnit) × (List Int × PUnit) × (List Int × PUnit) × PUnit) (again_1 : (Int × PUnit) × (List Int × PUnit) × (List Int × PUnit) × PUnit → Option ((PUnit × Int × Int × PUnit) × (List Int × PUnit) × PUnit)) => bif ltI x_1.fst.fst (Int.ofNat val_1.fst.snd.snd.fst.length) then C.join (fun (x_2 : (Bool × PUnit) × PUnit) => C.join (fun (x : PUnit × (List Int × PUnit) × (List Int × PUnit) × PUnit) => again_1 ((IntKind.i64.wrap (x_1.fst.fst + Int.ofNat 1), ()), (x.snd.fst.fst, ()), (x.snd.snd.fst.fst, ()), ())) fun (kont : PUnit × (List Int × PUnit) × (List Int × PUnit) × PUnit → Option ((PUnit × Int × Int × PUnit) × (List Int × PUnit) × PUnit)) => bif x_2.fst.fst then val.fst.fst.elim none fun (val_4 : (Int × Int × List (Int × List Int × Int × Int × PUnit) × PUnit) × List Int × Int × List (List Int × Bool) × PUnit) => (m_sched_plan_length (val_4, x.fst.fst, ())).elim none fun (val_5 : (Int × PUnit) × PUnit) => val.fst.fst.elim none fun (val : (Int × Int × List (Int × List Int × Int × Int × PUnit) × PUnit) × List Int × Int × List (List Int × Bool) × PUnit) => (m_sched_plan_late (val, x.fst.fst, x_1.fst.fst, ())).elim none fun (val : (Int × PUnit) × PUnit) => C.grd (inB x_1.fst.fst x_1.snd.fst.fst.length) (C.grd (ltB x_1.fst.fst.toNat x_1.snd.fst.fst.length) (C.grd (inB x.fst.fst x_1.snd.fst.fst.length) (C.grd (ltB x.fst.fst.toNat x_1.snd.fst.fst.length) (C.grd (inB x.fst.fst x_1.snd.snd.fst.fst.length) (C.grd (ltB x.fst.fst.toNat x_1.snd.snd.fst.fst.length) (kont ((), (x_1.snd.fst.fst.set x.fst.fst.toNat (IntKind.i64.wrap (IntKind.i64.wrap (val_5.fst.fst + val.fst.fst) + x_1.snd.fst.fst.getD x_1.fst.fst.toNat 0)), ()), (x_1.snd.snd.fst.fst.set x.fst.fst.toNat x_1.fst.fst, ()), ()))))))) else kont ((), (x_1.snd.fst.fst, ()), (x_1.snd.snd.fst.fst, ()), ())) fun (kont : (Bool × PUnit) × PUnit → Option ((PUnit × Int × Int × PUnit) × (List Int × PUnit) × PUnit)) => val.fst.fst.elim none fun (val_4 : (Int × Int × List (Int × List Int × Int × Int × PUnit) × PUnit) × List Int × Int × List (List Int × Bool) × PUnit) => (m_sched_plan_holds (val_4, x.fst.fst, x_1.fst.fst, ())).elim none fun (val_5 : (Bool × PUnit) × PUnit) => bif val_5.fst.fst then val.fst.fst.elim none fun (val_6 : (Int × Int × List (Int × List Int × Int × Int × PUnit) × PUnit) × List Int × Int × List (List Int × Bool) × PUnit) => (m_sched_plan_length (val_6, x.fst.fst, ())).elim none fun (val_7 : (Int × PUnit) × PUnit) => val.fst.fst.elim none fun (val : (Int × Int × List (Int × List Int × Int × Int × PUnit) × PUnit) × List Int × Int × List (List Int × Bool) × PUnit) => (m_sched_plan_late (val, x.fst.fst, x_1.fst.fst, ())).elim none fun (val : (Int × PUnit) × PUnit) => C.grd (inB x_1.fst.fst x_1.snd.fst.fst.length) (C.grd (ltB x_1.fst.fst.toNat x_1.snd.fst.fst.length) (C.grd (inB x.fst.fst x_1.snd.fst.fst.length) (C.grd (ltB x.fst.fst.toNat x_1.snd.fst.fst.length) (kont ((bif true then gtI (IntKind.i64.wrap (IntKind.i64.wrap (val_7.fst.fst + val.fst.fst) + x_1.snd.fst.fst.getD x_1.fst.fst.toNat 0)) (x_1.snd.fst.fst.getD x.fst.fst.toNat 0) else false, ()), ()))))) else kont ((false, ()), ()) else again ((IntKind.i64.wrap (x.fst.fst - Int.ofNat 1), ()), (x_1.snd.fst.fst, ()), (x_1.snd.snd.fst.fst, ()), ())) fuelL ((IntKind.i64.wrap (x.fst.fst + Int.ofNat 1), ()), (x.snd.fst.fst.set x.fst.fst.toNat val_3.fst.fst, ()), (x.snd.snd.fst.fst.set x.fst.fst.toNat (Int.negSucc 0), ()), ()))))) else (m_sched_greatest (x.snd.fst.fst, ())).elim none fun (val : (Int × PUnit) × PUnit) => (m_slices_Index (x.snd.fst.fst, val.fst.fst, ())).elim none fun (val_2 : (Int × PUnit) × PUnit) => C.loop (fun (x_1 : (PUnit × Int × PUnit) × (List Int × PUnit) × PUnit) (again : (PUnit × Int × PUnit) × (List Int × PUnit) × PUnit → Option ((PUnit × Int × Int × PUnit) × (List Int × PUnit) × PUnit)) => bif geI x_1.fst.snd.fst (Int.ofNat 0) then C.grd (true && leN ((x_1.snd.fst.fst.length + [x_1.fst.snd.fst].length) * 8) roomB) (C.grd (inB x_1.fst.snd.fst x.snd.snd.fst.fst.length) (C.grd (ltB x_1.fst.snd.fst.toNat x.snd.snd.fst.fst.length) (again (((), x.snd.snd.fst.fst.getD x_1.fst.snd.fst.toNat 0, ()), (x_1.snd.fst.fst ++ [x_1.fst.snd.fst], ()), ())))) else some (((), val.fst.fst, Int.ofNat 0, ()), (x_1.snd.fst.fst, ()), ())) fuelL (((), val_2.fst.fst, ()), ([], ()), ())) fuelL ((IntKind.i64.wrap (Int.ofNat val_1.fst.snd.snd.fst.length - Int.ofNat 1), ()), (List.replicate (Int.ofNat val_1.fst.snd.snd.fst.length).toNat (Int.ofNat 0), ()), (List.replicate (Int.ofNat val_1.fst.snd.snd.fst.length).toNat (Int.ofNat 0), ()), ())))) x.1 x.2.1
def m_sched_Chain : ((List Int) × Int × (List (List Int)) × Unit) × (Int × Int × (List (Int × (List Int) × Int × Int × Unit)) × Unit) × Unit → Option ((Unit × Int × Int × Unit) × ((List Int × Unit) × Unit)) := M_sched_Chain realC
def M_sched_plan_has (C : Cmb) (x : ((Int × Int × (List (Int × (List Int) × Int × Int × Unit)) × Unit) × (List Int) × Int × (List ((List Int) × Bool)) × Unit) × (List Int) × Unit) : Option ((Bool × Unit) × Unit) := (fun (p : El pT.ptr) (l : El iT.sl) => C.join (fun (x : (Bool × PUnit) × PUnit) => some ((!x.fst.fst, ()), ())) fun (kont : (Bool × PUnit) × PUnit → Option ((Bool × PUnit) × PUnit)) => C.loop (fun (x : (Int × PUnit) × PUnit) (again : (Int × PUnit) × PUnit → Option ((Bool × PUnit) × PUnit)) => bif ltI x.fst.fst (Int.ofNat (List.length l)) then C.grd (inB x.fst.fst (List.length l)) (C.join (fun (x_1 : (Bool × PUnit) × PUnit) => bif x_1.fst.fst then kont ((geI x.fst.fst (Int.ofNat 0), ()), ()) else again ((IntKind.i64.wrap (x.fst.fst + Int.ofNat 1), ()), ())) fun (kont : (Bool × PUnit) × PUnit → Option ((Bool × PUnit) × PUnit)) => bif ltI (List.getD l x.fst.fst.toNat 0) (Int.ofNat 0) then kont ((true, ()), ()) else kont ((bif false then true else geI (List.getD l x.fst.fst.toNat 0) (Int.ofNat p.fst.snd.snd.fst.length), ()), ())) else kont ((geI (Int.negSucc 0) (Int.ofNat 0), ()), ())) fuelL ((Int.ofNat 0, ()), ())) x.1 x.2.1
def m_sched_plan_has : ((Int × Int × (List (Int × (List Int) × Int × Int × Unit)) × Unit) × (List Int) × Int × (List ((List Int) × Bool)) × Unit) × (List Int) × Unit → Option ((Bool × Unit) × Unit) := M_sched_plan_has realC
def M_sched_Shows (C : Cmb) (x : ((List Int) × Int × (List (List Int)) × Unit) × (Int × Int × (List (Int × (List Int) × Int × Int × Unit)) × Unit) × (List Int) × Unit) : Option ((Int × Int × Unit) × Unit) := (fun (t : El kT) (c : El cT) (chain : El iT.sl) => (m_sched_opened (t, c, ())).elim none fun (val : (Option ((Int × Int × List (Int × List Int × Int × Int × PUnit) × PUnit) × List Int × Int × List (List Int × Bool) × PUnit) × Int × PUnit) × PUnit) => bif val.fst.snd.fst != Int.ofNat 0 then some ((Int.ofNat 0, val.fst.snd.fst, ()), ()) else val.fst.fst.elim none fun (val_1 : (Int × Int × List (Int × List Int × Int × Int × PUnit) × PUnit) × List Int × Int × List (List Int × Bool) × PUnit) => (m_sched_plan_has (val_1, chain, ())).elim none fun (val_2 : (Bool × PUnit) × PUnit) => bif !val_2.fst.fst then some ((Int.ofNat 0, Int.ofNat 1, ()), ()) else C.loop (fun (x : (Int × PUnit) × PUnit) (again : (Int × PUnit) × PUnit → Option ((Int × Int × PUnit) × PUnit)) => bif ltI x.fst.fst (Int.ofNat (List.length chain)) then C.grd (inB x.fst.fst (List.length chain)) (C.grd (inB (IntKind.i64.wrap (x.fst.fst - Int.ofNat 1)) (List.length chain)) (bif leI (List.getD chain x.fst.fst.toNat 0) (List.getD chain (IntKind.i64.wrap (x.fst.fst - Int.ofNat 1)).toNat 0) then some ((Int.ofNat 0, Int.ofNat 15, ()), ()) else again ((IntKind.i64.wrap (x.fst.fst + Int.ofNat 1), ()), ()))) else C.loop (fun (x : (Int × Int × PUnit) × PUnit) (again : (Int × Int × PUnit) × PUnit → Option ((Int × Int × PUnit) × PUnit)) => bif ltI x.fst.snd.fst (Int.ofNat (List.length chain)) then C.grd (inB x.fst.snd.fst (List.length chain)) (C.join (fun (x_1 : (Int × PUnit) × PUnit) => val.fst.fst.elim none fun (val : (Int × Int × List (Int × List Int × Int × Int × PUnit) × PUnit) × List Int × Int × List (List Int × Bool) × PUnit) => (m_sched_plan_length (val, List.getD chain x.fst.snd.fst.toNat 0, ())).elim none fun (val : (Int × PUnit) × PUnit) => again ((IntKind.i64.wrap (x_1.fst.fst + val.fst.fst), IntKind.i64.wrap (x.fst.snd.fst + Int.ofNat 1), ()), ())) fun (kont : (Int × PUnit) × PUnit → Option ((Int × Int × PUnit) × PUnit)) => bif gtI x.fst.snd.fst (Int.ofNat 0) then C.grd (inB (IntKind.i64.wrap (x.fst.snd.fst - Int.ofNat 1)) (List.length chain)) (val.fst.fst.elim none fun (val_3 : (Int × Int × List (Int × List Int × Int × Int × PUnit) × PUnit) × List Int × Int × List (List Int × Bool) × PUnit) => (m_sched_plan_holds (val_3, List.getD chain (IntKind.i64.wrap (x.fst.snd.fst - Int.ofNat 1)).toNat 0, List.getD chain x.fst.snd.fst.toNat 0, ())).elim none fun (val_4 : (Bool × PUnit) × PUnit) => bif !val_4.fst.fst then some ((Int.ofNat 0, Int.ofNat 6, ()), ()) else C.grd (inB (IntKind.i64.wrap (x.fst.snd.fst - Int.ofNat 1)) (List.length chain)) (val.fst.fst.elim none fun (val : (Int × Int × List (Int × List Int × Int × Int × PUnit) × PUnit) × List Int × Int × List (List Int × Bool) × PUnit) => (m_sched_plan_late (val, List.getD chain (IntKind.i64.wrap (x.fst.snd.fst - Int.ofNat 1)).toNat 0, List.getD chain x.fst.snd.fst.toNat 0, ())).elim none fun (val : (Int × PUnit) × PUnit) => kont ((IntKind.i64.wrap (x.fst.fst + val.fst.fst), ()), ()))) else kont ((x.fst.fst, ()), ())) else some ((x.fst.fst, Int.ofNat 0, ()), ())) fuelL ((Int.ofNat 0, Int.ofNat 0, ()), ())) fuelL ((Int.ofNat 1, ()), ())) x.1 x.2.1 x.2.2.1
def m_sched_Shows : ((List Int) × Int × (List (List Int)) × Unit) × (Int × Int × (List (Int × (List Int) × Int × Int × Unit)) × Unit) × (List Int) × Unit → Option ((Int × Int × Unit) × Unit) := M_sched_Shows realC
def M_sched_Right (C : Cmb) (x : ((List Int) × Int × (List (List Int)) × Unit) × (Int × Int × (List (Int × (List Int) × Int × Int × Unit)) × Unit) × (List Int) × Unit) : Option ((Int × Int × Unit) × Unit) := (fun (t : El kT) (c : El cT) (starts : El iT.sl) => (m_sched_with (t, c, starts, ())).elim none fun (val : (Option ((Int × Int × List (Int × List Int × Int × Int × PUnit) × PUnit) × List Int × Int × List (List Int × Bool) × PUnit) × Int × Int × PUnit) × PUnit) => some (val.fst.snd, ())) x.1 x.2.1 x.2.2.1
def m_sched_Right : ((List Int) × Int × (List (List Int)) × Unit) × (Int × Int × (List (Int × (List Int) × Int × Int × Unit)) × Unit) × (List Int) × Unit → Option ((Int × Int × Unit) × Unit) := M_sched_Right realC
def M_sched_Idle (C : Cmb) (x : ((List Int) × Int × (List (List Int)) × Unit) × (Int × Int × (List (Int × (List Int) × Int × Int × Unit)) × Unit) × (List Int) × Unit) : Option ((Unit × Int × Unit) × ((List Int × Unit) × Unit)) := (fun (t : El kT) (c : El cT) (starts : El iT.sl) => (m_sched_with (t, c, starts, ())).elim none fun (val : (Option ((Int × Int × List (Int × List Int × Int × Int × PUnit) × PUnit) × List Int × Int × List (List Int × Bool) × PUnit) × Int × Int × PUnit) × PUnit) => bif val.fst.snd.snd.fst != Int.ofNat 0 then some (((), val.fst.snd.snd.fst, ()), ([], ()), ()) else val.fst.fst.elim none fun (val_1 : (Int × Int × List (Int × List Int × Int × Int × PUnit) × PUnit) × List Int × Int × List (List Int × Bool) × PUnit) => C.grd (leI 0 val_1.fst.fst && eqI val_1.fst.fst val_1.fst.fst && leN (val_1.fst.fst.toNat * 8) roomB) (C.loop (fun (x : (Int × PUnit) × (List Int × PUnit) × PUnit) (again : (Int × PUnit) × (List Int × PUnit) × PUnit → Option ((PUnit × Int × PUnit) × (List Int × PUnit) × PUnit)) => bif ltI x.fst.fst (Int.ofNat val_1.fst.fst.toNat) then val.fst.fst.elim none fun (val : (Int × Int × List (Int × List Int × Int × Int × PUnit) × PUnit) × List Int × Int × List (List Int × Bool) × PUnit) => (m_sched_plan_end (val, starts, ())).elim none fun (val : (Int × PUnit) × PUnit) => C.grd (inB x.fst.fst x.snd.fst.fst.length) (C.grd (ltB x.fst.fst.toNat x.snd.fst.fst.length) (again ((IntKind.i64.wrap (x.fst.fst + Int.ofNat 1), ()), (x.snd.fst.fst.set x.fst.fst.toNat val.fst.fst, ()), ()))) else val.fst.fst.elim none fun (val_2 : (Int × Int × List (Int × List Int × Int × Int × PUnit) × PUnit) × List Int × Int × List (List Int × Bool) × PUnit) => C.loop (fun (x : (Int × PUnit) × (List Int × PUnit) × PUnit) (again : (Int × PUnit) × (List Int × PUnit) × PUnit → Option ((PUnit × Int × PUnit) × (List Int × PUnit) × PUnit)) => bif ltI x.fst.fst (Int.ofNat val_2.fst.snd.snd.fst.length) then C.grd (inB x.fst.fst val_2.fst.snd.snd.fst.length) (C.loop (fun (x_1 : (Int × PUnit) × (List Int × PUnit) × PUnit) (again_1 : (Int × PUnit) × (List Int × PUnit) × PUnit → Option ((PUnit × Int × PUnit) × (List Int × PUnit) × PUnit)) => bif ltI x_1.fst.fst (Int.ofNat (val_2.fst.snd.snd.fst.getD x.fst.fst.toNat (0, [], 0, 0, ())).snd.fst.length) then C.grd (inB x_1.fst.fst (val_2.fst.snd.snd.fst.getD x.fst.fst.toNat (0, [], 0, 0, ())).snd.fst.length) (C.grd (inB ((val_2.fst.snd.snd.fst.getD x.fst.fst.toNat (0, [], 0, 0, ())).snd.fst.getD x_1.fst.fst.toNat 0) x_1.snd.fst.fst.length) (C.grd (ltB ((val_2.fst.snd.snd.fst.getD x.fst.fst.toNat (0, [], 0, 0, ())).snd.fst.getD x_1.fst.fst.toNat 0).toNat x_1.snd.fst.fst.length) (val.fst.fst.elim none fun (val : (Int × Int × List (Int × List Int × Int × Int × PUnit) × PUnit) × List Int × Int × List (List Int × Bool) × PUnit) => (m_sched_plan_length (val, x.fst.fst, ())).elim none fun (val : (Int × PUnit) × PUnit) => C.grd (inB ((val_2.fst.snd.snd.fst.getD x.fst.fst.toNat (0, [], 0, 0, ())).snd.fst.getD x_1.fst.fst.toNat 0) x_1.snd.fst.fst.length) (C.grd (ltB ((val_2.fst.snd.snd.fst.getD x.fst.fst.toNat (0, [], 0, 0, ())).snd.fst.getD x_1.fst.fst.toNat 0).toNat x_1.snd.fst.fst.length) (again_1 ((IntKind.i64.wrap (x_1.fst.fst + Int.ofNat 1), ()), (x_1.snd.fst.fst.set ((val_2.fst.snd.snd.fst.getD x.fst.fst.toNat (0, [], 0, 0, ())).snd.fst.getD x_1.fst.fst.toNat 0).toNat (IntKind.i64.wrap (x_1.snd.fst.fst.getD ((val_2.fst.snd.snd.fst.getD x.fst.fst.toNat (0, [], 0, 0, ())).snd.fst.getD x_1.fst.fst.toNat 0).toNat 0 - val.fst.fst)), ()), ())))))) else again ((IntKind.i64.wrap (x.fst.fst + Int.ofNat 1), ()), (x_1.snd.fst.fst, ()), ())) fuelL ((Int.ofNat 0, ()), (x.snd.fst.fst, ()), ())) else some (((), Int.ofNat 0, ()), (x.snd.fst.fst, ()), ())) fuelL ((Int.ofNat 0, ()), (x.snd.fst.fst, ()), ())) fuelL ((Int.ofNat 0, ()), (List.replicate val_1.fst.fst.toNat (Int.ofNat 0), ()), ()))) x.1 x.2.1 x.2.2.1
def m_sched_Idle : ((List Int) × Int × (List (List Int)) × Unit) × (Int × Int × (List (Int × (List Int) × Int × Int × Unit)) × Unit) × (List Int) × Unit → Option ((Unit × Int × Unit) × ((List Int × Unit) × Unit)) := M_sched_Idle realC
def M_slices_Equal (C : Cmb) (x : (List Int) × (List Int) × Unit) : Option ((Bool × Unit) × Unit) := (fun (s1 s2 : El iT.sl) => bif Int.ofNat (List.length s1) != Int.ofNat (List.length s2) then some ((false, ()), ()) else C.loop (fun (x : (Int × PUnit) × PUnit) (again : (Int × PUnit) × PUnit → Option ((Bool × PUnit) × PUnit)) => bif ltI x.fst.fst (Int.ofNat (List.length s1)) then C.grd (inB x.fst.fst (List.length s1)) (C.grd (inB x.fst.fst (List.length s2)) (bif List.getD s1 x.fst.fst.toNat 0 != List.getD s2 x.fst.fst.toNat 0 then some ((false, ()), ()) else again ((IntKind.i64.wrap (x.fst.fst + Int.ofNat 1), ()), ()))) else some ((true, ()), ())) fuelL ((Int.ofNat 0, ()), ())) x.1 x.2.1
def m_slices_Equal : (List Int) × (List Int) × Unit → Option ((Bool × Unit) × Unit) := M_slices_Equal realC
def M_spoondriftlaw24_known (C : Cmb) (x : (List Int) × Int × (List Int) × Unit) : Option ((Bool × Unit) × Unit) := (fun (l : El iT.sl) (e : El iT) (want : El iT.sl) => C.join (fun (x : (Bool × PUnit) × PUnit) => some ((x.fst.fst, ()), ())) fun (kont : (Bool × PUnit) × PUnit → Option ((Bool × PUnit) × PUnit)) => bif e == Int.ofNat 0 then (m_slices_Equal (l, want, ())).elim none fun (val : (Bool × PUnit) × PUnit) => kont ((bif true then val.fst.fst else false, ()), ()) else kont ((false, ()), ())) x.1 x.2.1 x.2.2.1
def m_spoondriftlaw24_known : (List Int) × Int × (List Int) × Unit → Option ((Bool × Unit) × Unit) := M_spoondriftlaw24_known realC
def M_sched_Holds (C : Cmb) (x : ((List Int) × Int × (List (List Int)) × Unit) × (Int × Int × (List (Int × (List Int) × Int × Int × Unit)) × Unit) × Int × Int × Unit) : Option ((Int × Int × Unit) × Unit) := (fun (t : El kT) (c : El cT) (j i : El iT) => (m_sched_opened (t, c, ())).elim none fun (val : (Option ((Int × Int × List (Int × List Int × Int × Int × PUnit) × PUnit) × List Int × Int × List (List Int × Bool) × PUnit) × Int × PUnit) × PUnit) => bif val.fst.snd.fst != Int.ofNat 0 then some ((Int.ofNat 0, val.fst.snd.fst, ()), ()) else val.fst.fst.elim none fun (val_1 : (Int × Int × List (Int × List Int × Int × Int × PUnit) × PUnit) × List Int × Int × List (List Int × Bool) × PUnit) => (m_sched_plan_has (val_1, [j, i], ())).elim none fun (val_2 : (Bool × PUnit) × PUnit) => bif !val_2.fst.fst then some ((Int.ofNat 0, Int.ofNat 1, ()), ()) else bif geI j i then some ((Int.ofNat 0, Int.ofNat 15, ()), ()) else val.fst.fst.elim none fun (val_3 : (Int × Int × List (Int × List Int × Int × Int × PUnit) × PUnit) × List Int × Int × List (List Int × Bool) × PUnit) => (m_sched_plan_holds (val_3, j, i, ())).elim none fun (val_4 : (Bool × PUnit) × PUnit) => bif !val_4.fst.fst then some ((Int.ofNat 0, Int.ofNat 6, ()), ()) else val.fst.fst.elim none fun (val_5 : (Int × Int × List (Int × List Int × Int × Int × PUnit) × PUnit) × List Int × Int × List (List Int × Bool) × PUnit) => (m_sched_plan_length (val_5, j, ())).elim none fun (val_6 : (Int × PUnit) × PUnit) => val.fst.fst.elim none fun (val : (Int × Int × List (Int × List Int × Int × Int × PUnit) × PUnit) × List Int × Int × List (List Int × Bool) × PUnit) => (m_sched_plan_late (val, j, i, ())).elim none fun (val : (Int × PUnit) × PUnit) => some ((IntKind.i64.wrap (val_6.fst.fst + val.fst.fst), Int.ofNat 0, ()), ())) x.1 x.2.1 x.2.2.1 x.2.2.2.1
def m_sched_Holds : ((List Int) × Int × (List (List Int)) × Unit) × (Int × Int × (List (Int × (List Int) × Int × Int × Unit)) × Unit) × Int × Int × Unit → Option ((Int × Int × Unit) × Unit) := M_sched_Holds realC
def M_slices_Clone (C : Cmb) (x : (List Int) × Unit) : Option ((Unit × Unit) × ((List Int × Unit) × Unit)) := (fun (s : El iT.sl) => bif List.isEmpty s then same (some (((), ()), ([], ()), ())) (C.grd (true && leN ((0 + List.length s) * 8) roomB) (some (((), ()), ([] ++ s, ()), ()))) else C.grd (true && leN ((0 + List.length s) * 8) roomB) (some (((), ()), ([] ++ s, ()), ()))) x.1
def m_slices_Clone (x : (List Int) × Unit) : Option ((Unit × Unit) × ((List Int × Unit) × Unit)) := bif leN (List.length x.1 * 8) roomB then some (((), ()), (x.1, ()), ()) else none
theorem q_slices_Clone : M_slices_Clone realC = m_slices_Clone := by
  funext x
  obtain ⟨l, u⟩ := x
  cases l with
  | nil => exact @same_self realC _ _
  | cons a l => simp only [M_slices_Clone, m_slices_Clone, List.isEmpty, cond_false, Nat.zero_add, Bool.true_and, List.nil_append]; rfl
def M_cmp_isNaN (C : Cmb) (x : Int × Unit) : Option ((Bool × Unit) × Unit) := (fun (x : El iT) => some ((x != x, ()), ())) x.1
def m_cmp_isNaN : Int × Unit → Option ((Bool × Unit) × Unit) := M_cmp_isNaN realC
def M_cmp_Compare (C : Cmb) (x : Int × Int × Unit) : Option ((Int × Unit) × Unit) := (fun (x y : El iT) => (m_cmp_isNaN (x, ())).elim none fun (val : (Bool × PUnit) × PUnit) => (m_cmp_isNaN (y, ())).elim none fun (val_1 : (Bool × PUnit) × PUnit) => bif val.fst.fst then bif val_1.fst.fst then some ((Int.ofNat 0, ()), ()) else some ((Int.negSucc 0, ()), ()) else bif val_1.fst.fst then some ((Int.ofNat 1, ()), ()) else bif ltI x y then some ((Int.negSucc 0, ()), ()) else bif gtI x y then some ((Int.ofNat 1, ()), ()) else some ((Int.ofNat 0, ()), ())) x.1 x.2.1
def m_cmp_Compare : Int × Int × Unit → Option ((Int × Unit) × Unit) := M_cmp_Compare realC
def M_slices_Compare (C : Cmb) (x : (List Int) × (List Int) × Unit) : Option ((Int × Unit) × Unit) := (fun (s1 s2 : El iT.sl) => C.loop (fun (x : (Int × PUnit) × PUnit) (again : (Int × PUnit) × PUnit → Option ((Int × PUnit) × PUnit)) => bif ltI x.fst.fst (Int.ofNat (List.length s1)) then C.grd (inB x.fst.fst (List.length s1)) (bif geI x.fst.fst (Int.ofNat (List.length s2)) then some ((Int.ofNat 1, ()), ()) else C.grd (inB x.fst.fst (List.length s2)) ((m_cmp_Compare (List.getD s1 x.fst.fst.toNat 0, List.getD s2 x.fst.fst.toNat 0, ())).elim none fun (val : (Int × PUnit) × PUnit) => bif val.fst.fst != Int.ofNat 0 then some ((val.fst.fst, ()), ()) else again ((IntKind.i64.wrap (x.fst.fst + Int.ofNat 1), ()), ()))) else bif ltI (Int.ofNat (List.length s1)) (Int.ofNat (List.length s2)) then some ((Int.negSucc 0, ()), ()) else some ((Int.ofNat 0, ()), ())) fuelL ((Int.ofNat 0, ()), ())) x.1 x.2.1
def m_slices_Compare : (List Int) × (List Int) × Unit → Option ((Int × Unit) × Unit) := M_slices_Compare realC
def M_sched_Quiet (C : Cmb) (x : ((List Int) × Int × (List (List Int)) × Unit) × Unit) : Option ((((List Int) × Int × (List (List Int)) × Unit) × Int × Unit) × Unit) := (fun (t : El kT) => (m_sched_clock (t, ())).elim none fun (val : (Int × PUnit) × PUnit) => bif val.fst.fst != Int.ofNat 0 then some ((([], Int.ofNat 0, [], ()), val.fst.fst, ()), ()) else (m_slices_Clone (t.fst, ())).elim none fun (val : (PUnit × PUnit) × (List Int × PUnit) × PUnit) => some (((val.snd.fst.fst, t.snd.fst, [], ()), Int.ofNat 0, ()), ())) x.1
def m_sched_Quiet : ((List Int) × Int × (List (List Int)) × Unit) × Unit → Option ((((List Int) × Int × (List (List Int)) × Unit) × Int × Unit) × Unit) := M_sched_Quiet realC
def M_sched_Disturb (C : Cmb) (x : ((List Int) × Int × (List (List Int)) × Unit) × (Int × Int × (List (Int × (List Int) × Int × Int × Unit)) × Unit) × Int × Int × Unit) : Option ((Bool × Int × Unit) × Unit) := (fun (t : El kT) (c : El cT) (i j : El iT) => (m_sched_opened (t, c, ())).elim none fun (val : (Option ((Int × Int × List (Int × List Int × Int × Int × PUnit) × PUnit) × List Int × Int × List (List Int × Bool) × PUnit) × Int × PUnit) × PUnit) => bif val.fst.snd.fst != Int.ofNat 0 then some ((false, val.fst.snd.fst, ()), ()) else val.fst.fst.elim none fun (val_1 : (Int × Int × List (Int × List Int × Int × Int × PUnit) × PUnit) × List Int × Int × List (List Int × Bool) × PUnit) => (m_sched_plan_has (val_1, [i, j], ())).elim none fun (val_2 : (Bool × PUnit) × PUnit) => bif !val_2.fst.fst then some ((false, Int.ofNat 1, ()), ()) else bif i == j then some ((false, Int.ofNat 5, ()), ()) else val.fst.fst.elim none fun (val : (Int × Int × List (Int × List Int × Int × Int × PUnit) × PUnit) × List Int × Int × List (List Int × Bool) × PUnit) => (m_sched_plan_disturb (val, i, j, ())).elim none fun (val : (Bool × PUnit) × PUnit) => some ((val.fst.fst, Int.ofNat 0, ()), ())) x.1 x.2.1 x.2.2.1 x.2.2.2.1
def m_sched_Disturb : ((List Int) × Int × (List (List Int)) × Unit) × (Int × Int × (List (Int × (List Int) × Int × Int × Unit)) × Unit) × Int × Int × Unit → Option ((Bool × Int × Unit) × Unit) := M_sched_Disturb realC
def M_spoondriftref24_Quiet (C : Cmb) (x : ((List Int) × Int × (List (List Int)) × Unit) × Unit) : Option ((((List Int) × Int × (List (List Int)) × Unit) × Int × Unit) × Unit) := (fun (t : El kT) => bif Int.ofNat t.fst.length != Int.ofNat 14 then some ((([], Int.ofNat 0, [], ()), Int.ofNat 2, ()), ()) else C.loop (fun (x : (Int × PUnit) × (PUnit × Int × PUnit × PUnit) × PUnit) (again : (Int × PUnit) × (PUnit × Int × PUnit × PUnit) × PUnit → Option (((List Int × Int × List (List Int) × PUnit) × Int × PUnit) × PUnit)) => bif ltI x.fst.fst (Int.ofNat t.fst.length) then C.grd (inB x.fst.fst t.fst.length) (C.join (fun (x_1 : (Bool × PUnit) × PUnit) => bif x_1.fst.fst then some ((([], Int.ofNat 0, [], ()), Int.ofNat 3, ()), ()) else again ((IntKind.i64.wrap (x.fst.fst + Int.ofNat 1), ()), ((), x.snd.fst.snd.fst, (), ()), ())) fun (kont : (Bool × PUnit) × PUnit → Option (((List Int × Int × List (List Int) × PUnit) × Int × PUnit) × PUnit)) => bif ltI (t.fst.getD x.fst.fst.toNat 0) (Int.ofNat 1) then kont ((true, ()), ()) else kont ((bif false then true else gtI (t.fst.getD x.fst.fst.toNat 0) (Int.ofNat 100), ()), ())) else C.join (fun (x : (Bool × PUnit) × PUnit) => bif x.fst.fst then some ((([], Int.ofNat 0, [], ()), Int.ofNat 3, ()), ()) else C.grd (true && leN ((0 + t.fst.length) * 8) roomB) (some ((([] ++ t.fst, t.snd.fst, [], ()), Int.ofNat 0, ()), ()))) fun (kont : (Bool × PUnit) × PUnit → Option (((List Int × Int × List (List Int) × PUnit) × Int × PUnit) × PUnit)) => bif ltI t.snd.fst (Int.ofNat 0) then kont ((true, ()), ()) else kont ((bif false then true else gtI t.snd.fst (Int.ofNat 100), ()), ())) fuelL ((Int.ofNat 0, ()), ((), Int.ofNat 0, (), ()), ())) x.1
def m_spoondriftref24_Quiet : ((List Int) × Int × (List (List Int)) × Unit) × Unit → Option ((((List Int) × Int × (List (List Int)) × Unit) × Int × Unit) × Unit) := M_spoondriftref24_Quiet realC
def M_spoondriftref04_off (C : Cmb) (x : Int × Int × Int × Unit) : Option ((Bool × Unit) × Unit) := (fun (n lo hi : El iT) => C.join (fun (x : (Bool × PUnit) × PUnit) => some ((x.fst.fst, ()), ())) fun (kont : (Bool × PUnit) × PUnit → Option ((Bool × PUnit) × PUnit)) => bif ltI n lo then kont ((true, ()), ()) else kont ((bif false then true else gtI n hi, ()), ())) x.1 x.2.1 x.2.2.1
def m_spoondriftref04_off : Int × Int × Int × Unit → Option ((Bool × Unit) × Unit) := M_spoondriftref04_off realC
def M_spoondriftref04_Arity (C : Cmb) (x : Int × Unit) : Option ((Int × Unit) × Unit) := (fun (kind : El iT) => C.join (fun (x : (Bool × PUnit) × PUnit) => bif x.fst.fst then some ((Int.ofNat 1, ()), ()) else C.join (fun (x : (Bool × PUnit) × PUnit) => bif x.fst.fst then some ((Int.ofNat 2, ()), ()) else bif kind == Int.ofNat 12 then some ((Int.ofNat 3, ()), ()) else some ((Int.ofNat 0, ()), ())) fun (kont : (Bool × PUnit) × PUnit → Option ((Int × PUnit) × PUnit)) => bif geI kind (Int.ofNat 9) then kont ((bif true then leI kind (Int.ofNat 11) else false, ()), ()) else kont ((false, ()), ())) fun (kont : (Bool × PUnit) × PUnit → Option ((Int × PUnit) × PUnit)) => bif geI kind (Int.ofNat 1) then bif bif true then leI kind (Int.ofNat 8) else false then kont ((true, ()), ()) else bif bif false then true else kind == Int.ofNat 13 then kont ((true, ()), ()) else kont ((bif false then true else kind == Int.ofNat 14, ()), ()) else bif bif false then true else kind == Int.ofNat 13 then kont ((true, ()), ()) else kont ((bif false then true else kind == Int.ofNat 14, ()), ())) x.1
def m_spoondriftref04_Arity : Int × Unit → Option ((Int × Unit) × Unit) := M_spoondriftref04_Arity realC
def M_spoondriftref04_Has (C : Cmb) (x : (List Int) × Int × Unit) : Option ((Bool × Unit) × Unit) := (fun (l : El iT.sl) (n : El iT) => C.loop (fun (x : (Int × PUnit) × PUnit) (again : (Int × PUnit) × PUnit → Option ((Bool × PUnit) × PUnit)) => bif ltI x.fst.fst (Int.ofNat (List.length l)) then C.grd (inB x.fst.fst (List.length l)) (bif List.getD l x.fst.fst.toNat 0 == n then some ((true, ()), ()) else again ((IntKind.i64.wrap (x.fst.fst + Int.ofNat 1), ()), ())) else some ((false, ()), ())) fuelL ((Int.ofNat 0, ()), ())) x.1 x.2.1
def m_spoondriftref04_Has : (List Int) × Int × Unit → Option ((Bool × Unit) × Unit) := M_spoondriftref04_Has realC
def M_spoondriftref04_CheckGate (C : Cmb) (x : (Int × (List Int) × Int × Int × Unit) × Int × Int × Unit) : Option ((Int × Unit) × Unit) := (fun (g : El gT) (wires bits : El iT) => (m_spoondriftref04_Arity (g.fst, ())).elim none fun (val : (Int × PUnit) × PUnit) => bif val.fst.fst == Int.ofNat 0 then some ((Int.ofNat 3, ()), ()) else (m_spoondriftref04_Arity (g.fst, ())).elim none fun (val : (Int × PUnit) × PUnit) => bif Int.ofNat g.snd.fst.length != val.fst.fst then some ((Int.ofNat 2, ()), ()) else C.loop (fun (x : (Int × PUnit) × PUnit) (again : (Int × PUnit) × PUnit → Option ((Int × PUnit) × PUnit)) => bif ltI x.fst.fst (Int.ofNat g.snd.fst.length) then C.grd (inB x.fst.fst g.snd.fst.length) ((m_spoondriftref04_off (g.snd.fst.getD x.fst.fst.toNat 0, Int.ofNat 0, IntKind.i64.wrap (wires - Int.ofNat 1), ())).elim none fun (val : (Bool × PUnit) × PUnit) => bif val.fst.fst then some ((Int.ofNat 1, ()), ()) else again ((IntKind.i64.wrap (x.fst.fst + Int.ofNat 1), ()), ())) else C.loop (fun (x : (Int × PUnit) × PUnit) (again : (Int × PUnit) × PUnit → Option ((Int × PUnit) × PUnit)) => bif ltI x.fst.fst (Int.ofNat g.snd.fst.length) then C.grd (leI 0 x.fst.fst && leI x.fst.fst (Int.ofNat g.snd.fst.length)) (C.grd (inB x.fst.fst g.snd.fst.length) ((m_spoondriftref04_Has (List.take x.fst.fst.toNat g.snd.fst, g.snd.fst.getD x.fst.fst.toNat 0, ())).elim none fun (val : (Bool × PUnit) × PUnit) => bif val.fst.fst then some ((Int.ofNat 5, ()), ()) else again ((IntKind.i64.wrap (x.fst.fst + Int.ofNat 1), ()), ()))) else C.join (fun (x : (Bool × PUnit) × PUnit) => bif x.fst.fst then some ((Int.ofNat 1, ()), ()) else C.join (fun (x : (Bool × PUnit) × PUnit) => bif x.fst.fst then some ((Int.ofNat 7, ()), ()) else some ((Int.ofNat 0, ()), ())) fun (kont : (Bool × PUnit) × PUnit → Option ((Int × PUnit) × PUnit)) => bif geI g.fst (Int.ofNat 13) then bif bif true then g.snd.snd.snd.fst != Int.ofNat 0 else false then kont ((true, ()), ()) else bif g.fst != Int.ofNat 13 then kont ((bif false then true else bif true then g.snd.snd.fst != Int.ofNat 0 else false, ()), ()) else kont ((bif false then true else false, ()), ()) else bif g.fst != Int.ofNat 13 then kont ((bif false then true else bif true then g.snd.snd.fst != Int.ofNat 0 else false, ()), ()) else kont ((bif false then true else false, ()), ())) fun (kont : (Bool × PUnit) × PUnit → Option ((Int × PUnit) × PUnit)) => (m_spoondriftref04_off (g.snd.snd.snd.fst, Int.ofNat 0, bits, ())).elim none fun (val : (Bool × PUnit) × PUnit) => bif val.fst.fst then kont ((true, ()), ()) else bif g.fst == Int.ofNat 13 then (m_spoondriftref04_off (g.snd.snd.fst, Int.ofNat 0, IntKind.i64.wrap (bits - Int.ofNat 1), ())).elim none fun (val : (Bool × PUnit) × PUnit) => kont ((bif false then true else bif true then val.fst.fst else false, ()), ()) else kont ((bif false then true else false, ()), ())) fuelL ((Int.ofNat 0, ()), ())) fuelL ((Int.ofNat 0, ()), ())) x.1 x.2.1 x.2.2.1
def m_spoondriftref04_CheckGate : (Int × (List Int) × Int × Int × Unit) × Int × Int × Unit → Option ((Int × Unit) × Unit) := M_spoondriftref04_CheckGate realC
def M_spoondriftref04_Check (C : Cmb) (x : (Int × Int × (List (Int × (List Int) × Int × Int × Unit)) × Unit) × Unit) : Option ((Int × Unit) × Unit) := (fun (c : El cT) => C.join (fun (x : (Bool × PUnit) × PUnit) => bif x.fst.fst then some ((Int.ofNat 3, ()), ()) else bif gtI (Int.ofNat c.snd.snd.fst.length) (Int.ofNat 120) then some ((Int.ofNat 2, ()), ()) else C.loop (fun (x : (Int × PUnit) × PUnit) (again : (Int × PUnit) × PUnit → Option ((Int × PUnit) × PUnit)) => bif ltI x.fst.fst (Int.ofNat c.snd.snd.fst.length) then C.grd (inB x.fst.fst c.snd.snd.fst.length) ((m_spoondriftref04_CheckGate (c.snd.snd.fst.getD x.fst.fst.toNat (0, [], 0, 0, ()), c.fst, c.snd.fst, ())).elim none fun (val : (Int × PUnit) × PUnit) => bif val.fst.fst != Int.ofNat 0 then some ((val.fst.fst, ()), ()) else again ((IntKind.i64.wrap (x.fst.fst + Int.ofNat 1), ()), ())) else some ((Int.ofNat 0, ()), ())) fuelL ((Int.ofNat 0, ()), ())) fun (kont : (Bool × PUnit) × PUnit → Option ((Int × PUnit) × PUnit)) => (m_spoondriftref04_off (c.fst, Int.ofNat 1, Int.ofNat 12, ())).elim none fun (val : (Bool × PUnit) × PUnit) => bif val.fst.fst then kont ((true, ()), ()) else (m_spoondriftref04_off (c.snd.fst, Int.ofNat 0, Int.ofNat 8, ())).elim none fun (val : (Bool × PUnit) × PUnit) => kont ((bif false then true else val.fst.fst, ()), ())) x.1
def m_spoondriftref04_Check : (Int × Int × (List (Int × (List Int) × Int × Int × Unit)) × Unit) × Unit → Option ((Int × Unit) × Unit) := M_spoondriftref04_Check realC
def M_spoondriftref24_Check (C : Cmb) (x : ((List Int) × Int × (List (List Int)) × Unit) × (Int × Int × (List (Int × (List Int) × Int × Int × Unit)) × Unit) × Unit) : Option ((Int × Unit) × Unit) := (fun (t : El kT) (c : El cT) => (m_spoondriftref24_Quiet (t, ())).elim none fun (val : ((List Int × Int × List (List Int) × PUnit) × Int × PUnit) × PUnit) => bif val.fst.snd.fst != Int.ofNat 0 then some ((val.fst.snd.fst, ()), ()) else (m_spoondriftref04_Check (c, ())).elim none fun (val : (Int × PUnit) × PUnit) => bif val.fst.fst != Int.ofNat 0 then some ((val.fst.fst, ()), ()) else C.loop (fun (x : (Int × PUnit) × PUnit) (again : (Int × PUnit) × PUnit → Option ((Int × PUnit) × PUnit)) => bif ltI x.fst.fst (Int.ofNat t.snd.snd.fst.length) then C.grd (inB x.fst.fst t.snd.snd.fst.length) (C.join (fun (x_1 : (Bool × PUnit) × PUnit) => bif x_1.fst.fst then some ((Int.ofNat 1, ()), ()) else C.grd true (C.grd (ltB (Int.ofNat 0).toNat 2) (C.grd true (C.grd (ltB (Int.ofNat 1).toNat 2) (bif (t.snd.snd.fst.getD x.fst.fst.toNat (List.replicate 2 0)).getD (Int.ofNat 0).toNat 0 == (t.snd.snd.fst.getD x.fst.fst.toNat (List.replicate 2 0)).getD (Int.ofNat 1).toNat 0 then some ((Int.ofNat 4, ()), ()) else again ((IntKind.i64.wrap (x.fst.fst + Int.ofNat 1), ()), ())))))) fun (kont : (Bool × PUnit) × PUnit → Option ((Int × PUnit) × PUnit)) => C.grd true (C.grd (ltB (Int.ofNat 0).toNat 2) (bif ltI ((t.snd.snd.fst.getD x.fst.fst.toNat (List.replicate 2 0)).getD (Int.ofNat 0).toNat 0) (Int.ofNat 0) then kont ((true, ()), ()) else C.grd true (C.grd (ltB (Int.ofNat 0).toNat 2) (bif bif false then true else geI ((t.snd.snd.fst.getD x.fst.fst.toNat (List.replicate 2 0)).getD (Int.ofNat 0).toNat 0) c.fst then kont ((true, ()), ()) else C.grd true (C.grd (ltB (Int.ofNat 1).toNat 2) (bif bif false then true else ltI ((t.snd.snd.fst.getD x.fst.fst.toNat (List.replicate 2 0)).getD (Int.ofNat 1).toNat 0) (Int.ofNat 0) then kont ((true, ()), ()) else C.grd true (C.grd (ltB (Int.ofNat 1).toNat 2) (kont ((bif false then true else geI ((t.snd.snd.fst.getD x.fst.fst.toNat (List.replicate 2 0)).getD (Int.ofNat 1).toNat 0) c.fst, ()), ())))))))))) else some ((Int.ofNat 0, ()), ())) fuelL ((Int.ofNat 0, ()), ())) x.1 x.2.1
def m_spoondriftref24_Check : ((List Int) × Int × (List (List Int)) × Unit) × (Int × Int × (List (Int × (List Int) × Int × Int × Unit)) × Unit) × Unit → Option ((Int × Unit) × Unit) := M_spoondriftref24_Check realC
def M_spoondriftref24_has (C : Cmb) (x : (List Int) × Int × Unit) : Option ((Bool × Unit) × Unit) := (fun (l : El iT.sl) (n : El iT) => C.loop (fun (x : (Int × PUnit) × PUnit) (again : (Int × PUnit) × PUnit → Option ((Bool × PUnit) × PUnit)) => bif ltI x.fst.fst (Int.ofNat (List.length l)) then C.grd (inB x.fst.fst (List.length l)) (bif List.getD l x.fst.fst.toNat 0 == n then some ((true, ()), ()) else again ((IntKind.i64.wrap (x.fst.fst + Int.ofNat 1), ()), ())) else some ((false, ()), ())) fuelL ((Int.ofNat 0, ()), ())) x.1 x.2.1
def m_spoondriftref24_has : (List Int) × Int × Unit → Option ((Bool × Unit) × Unit) := M_spoondriftref24_has realC
end
end Go.Canon
namespace Go.Canon
open Go
set_option maxRecDepth 100000
set_option maxHeartbeats 0
set_option linter.unusedVariables false
noncomputable section
end
end Go.Canon
namespace Go.Canon
open Go
set_option maxRecDepth 100000
set_option maxHeartbeats 0
set_option linter.unusedVariables false
noncomputable section
end
end Go.Canon
