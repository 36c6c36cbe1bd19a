/- SchedEarly, part 1: the canonical machine and the runs of the program's functions on it. No conditions. -/
import Derived.RangeFuncRecord
import Derived.Shelf.Spec.SlicesInsert
import Derived.Shelf.Spec.SlicesInsertGrow
import Derived.Test.YtknbjjlaocecdaaDoorEaP0
set_option linter.unusedSectionVars false
set_option linter.unusedVariables false
set_option linter.unusedSimpArgs false
namespace Go.Canon
set_option linter.unusedVariables false
set_option linter.unusedSimpArgs false
open Go
variable {P : Program} {w : World} {μ : M} {n : Nat} {ρ : Operand → Value} {o : Oper} {fr : Nat → Value} {h : Heap} {v : Value} {e : Eff} {k : KOp}
theorem sim_slA {t : TypeId} {x : Operand} {lo hi mx : Option Operand} {a : KO} {kl kh km : Option KO} {s len : Nat} {el : TypeId} (ho : o.op = .slice t x lo hi mx) (hρ : Rho μ o.op fr ρ) (hrd : Rds P μ (.slA a kl kh km len s) fr h w)
    (hu : P.underlying t = some (.array len el) ∨ ∃ r, P.underlying t = some (.pointer r) ∧ P.underlying r = some (.array len el)) (hs : tySize P el = some s) (ha : cO x = some a) (hl : optO lo = some kl) (hh : optO hi = some kh) (hm : optO mx = some km)
    (hk : kop (.slA a kl kh km len s) fr h = some (.val v e)) : Out P μ n ρ o w v e := by
  rw [ho] at hρ
  have rx := hρ x (by simp [Op.operands]) a ha
  have r1 := optO_rel (μ := μ) (fr := fr) (ρ := ρ) hl (fun y hy ky hk => hρ y (by simp [Op.operands, hy]) ky hk)
  have r2 := optO_rel (μ := μ) (fr := fr) (ρ := ρ) hh (fun y hy ky hk => hρ y (by simp [Op.operands, hy]) ky hk)
  have r3 := optO_rel (μ := μ) (fr := fr) (ρ := ρ) hm (fun y hy ky hk => hρ y (by simp [Op.operands, hy]) ky hk)
  simp only [kop] at hk
  split at hk
  · rename_i ad h1
    split at hk
    · rename_i hgr
      split at hk
      · rename_i l j m hb
        cases hk
        rw [h1] at rx
        obtain ⟨e1, e2, e3⟩ := bnds_same hb r1 r2 r3
        obtain ⟨hsp, hV, hρx⟩ := vrel_ptr rx
        obtain ⟨hrun, hmc, q1, q2, q3⟩ := sliceBounds_run (P := P) (w := w) (isS := false) (Nat.le_refl len) (Nat.le_refl len) hb
        have hm2 : (if ((mx.map ρ)).isSome then m else len) = m := by
          cases hmx : mx.map ρ with
          | some q => simp
          | none => simp [hmc (by rw [← e3, hmx])]
        obtain ⟨bb, off, sp⟩ := ad
        simp only at hsp hV hρx; subst hsp
        have hZ : μ.Z bb = none := by
          unfold noGr at hgr
          split at hgr
          · rename_i cs wr hob
            obtain ⟨o2, _, c2, T2, fz, _, _, _, hzr⟩ := hrd bb (by simp [rds, h1, blkOf]) hV _ hob
            simpa using hzr
          · cases hgr
        refine out_pure (v' := .slice (some (if m = l then ⟨(μ.f bb).1, (μ.f bb).2 + off, none⟩ else (⟨(μ.f bb).1, (μ.f bb).2 + off, none⟩ : Addr).add (l * s))) (j - l) (m - l)) ?_ ?_
        · rw [e3] at hm2
          rcases hu with hu | ⟨r, hu, hr⟩
          · simp only [execOp, ho, hρx, e1, e2, e3, Instr.sliceAt, Sem.run_bind, run_underlying hu, Result.andThen_ok, Instr.sureAddr, Sem.run_pure, hrun, hm2, r_sizeOf hs]
          · simp only [execOp, ho, hρx, e1, e2, e3, Instr.sliceAt, Instr.slice, Sem.run_bind, run_underlying hu, run_underlying hr, Result.andThen_ok, asAddr, Sem.run_pure, hrun, hm2, r_sizeOf hs]
        · by_cases hml : m = l
          · subst hml
            obtain rfl : j = m := by omega
            simp only [if_true, Nat.sub_self]
            exact .sl bb off 0 0 ((μ.f bb).2 + off) 0 hV (Nat.le_refl 0) (Nat.le_refl 0) (fun h => absurd rfl h) (fun z S hz => by rw [hZ] at hz; cases hz) (fun _ => ⟨rfl, rfl⟩)
          · rw [if_neg hml, if_neg hml, add_pl, add_pl]
            have := VRel.sl (μ := μ) bb (off + l * s) (j - l) (m - l) ((μ.f bb).2 + off + l * s) (m - l) hV (by omega) (Nat.le_refl _) (fun _ => by omega) (fun z S hz => by rw [hZ] at hz; cases hz) (fun _ => ⟨rfl, by omega⟩)
            exact this
      · cases hk
    · cases hk
  · cases hk
theorem sim_mkM {t : TypeId} (hn : e.lays = true → ¬ μ.V h.length) (ho : o.op = .makeMap t none) (hk : kop .mkM fr h = some (.val v e)) : Out P μ h.length ρ o w v e := by
  simp only [kop] at hk
  cases hk
  have hrun : (execOp ρ o).run P w = .ok (.value (.map (some w.heap.size))) { w with heap := w.heap.push (.map #[] 0) } := by
    simp only [execOp, ho, Option.map_none, Instr.makeMap, Sem.run_bind, run_newObj, Result.andThen_ok, Sem.run_pure, World.alloc_eq]
  refine ⟨.map (some w.heap.size), _, _, .inl hrun, .new _ (.map #[] 0) none _ ⟨rfl, rfl, rfl⟩ rfl ⟨#[], rfl, rfl, fun i e e' x y => by simp at x, by simp, by simp⟩, ?_⟩
  have := VRel.mp (μ := μ.add h.length (w.heap.size, 0) none) h.length M.add_V (by simp)
  simpa using this
abbrev KT (P : Program) (kt : TypeId) (kd : Nat) : Prop := (kd = 0 ∧ P.underlying kt = some .bool) ∨ (kd = 1 ∧ ∃ i, P.underlying kt = some (.int i)) ∨ (kd = 2 ∧ P.underlying kt = some .string) ∨ (3 ≤ kd ∧ tyAgg P kt = true ∧ plainKinds P 40 kt = some (ksOf kd))
theorem isKey_agg {kd : Nat} {x : Value} (h : 3 ≤ kd) (hx : isKey kd x = true) : ∃ cs : Array Value, x = .agg cs ∧ cs.size = (ksOf kd).length ∧ cs.toList.all flat0 = true := by
  unfold isKey at hx
  split at hx
  · omega
  · omega
  · omega
  · rename_i cs
    simp only [Bool.and_eq_true, beq_iff_eq] at hx
    exact ⟨cs, rfl, hx.2.1, hx.2.2⟩
  · cases hx
/-- A key's type. -/
theorem plainKey_inv {t : TypeId} {kd : Nat} (h : plainKey P t = some kd) : ∃ kt et, P.underlying t = some (.map kt et) ∧ KT P kt kd := by
  unfold plainKey at h
  split at h
  · rename_i kt et hu
    refine ⟨kt, et, hu, ?_⟩
    split at h
    · rename_i hk; cases h; exact .inl ⟨rfl, hk⟩
    · rename_i i hk; cases h; exact .inr (.inl ⟨rfl, i, hk⟩)
    · rename_i hk; cases h; exact .inr (.inr (.inl ⟨rfl, hk⟩))
    · split at h
      · rename_i ha
        split at h
        · rename_i ks hks
          split at h
          · rename_i hc
            cases h
            exact .inr (.inr (.inr ⟨by unfold codeK; omega, ha, by rw [hc]; exact hks⟩))
          · cases h
        · cases h
      · cases h
  · cases h
theorem checkKey_run {b : Bool} {kt : TypeId} {kd : Nat} {x : Value} (hkt : KT P kt kd) (hx : isKey kd x = true) : (Instr.checkKey b 10000 kt x).run P w = .ok () w := by
  by_cases h3 : 3 ≤ kd
  · rcases hkt with ⟨h, _⟩ | ⟨h, _⟩ | ⟨h, _⟩ | ⟨_, ha, hk⟩
    · omega
    · omega
    · omega
    · obtain ⟨cs, rfl, hs, _⟩ := isKey_agg h3 hx
      exact (checkKey_kinds 40 kt _ hk 10000 (by omega) cs).2 ha (by omega)
  have key : ∀ m, (Instr.checkKey b (m + 1) kt x).run P w = .ok () w := by
    intro m
    rcases hkt with ⟨_, hu⟩ | ⟨_, i, hu⟩ | ⟨_, hu⟩ | ⟨h, _⟩ <;> first | omega | simp only [Instr.checkKey, Sem.run_bind, run_underlying hu, Result.andThen_ok] <;> rfl
  exact key 9999
theorem findNow_rel {kt : TypeId} {kd : Nat} {d : TypeDesc} {x : Value} (hd : (kd = 0 ∧ d = .bool) ∨ (kd = 1 ∧ ∃ i, d = .int i) ∨ (kd = 2 ∧ d = .string)) : ∀ (es es' : List MapEntry) (i : Nat) (r : Option (Nat × Value)), es.length = es'.length → (∀ (i : Nat) e e', es[i]? = some e → es'[i]? = some e' → ERel μ e e') →
    findK kd x es i = some r → ∃ r', Instr.findNow d x es' i = some r' ∧ ((r = none ∧ r' = none) ∨ ∃ j u u', r = some (j, u) ∧ r' = some (j, u') ∧ VRel μ u u' ∧ i ≤ j ∧ ∃ e', es'[j - i]? = some e' ∧ keyEq kd x e'.key = some true)
  | [], es', i, r, hl, _, hf => by
    have : es' = [] := List.length_eq_zero_iff.1 hl.symm
    subst this
    simp only [findK] at hf; cases hf
    exact ⟨none, rfl, .inl ⟨rfl, rfl⟩⟩
  | e :: es, [], i, r, hl, _, _ => by simp at hl
  | e :: es, e' :: es', i, r, hl, he, hf => by
    obtain ⟨k1, k2, k3, k4⟩ := he 0 e e' rfl rfl
    have hsame : Instr.sameNow d x e'.key = keyEq kd x e.key := by
      rw [k1]
      rcases hd with ⟨rfl, rfl⟩ | ⟨rfl, i, rfl⟩ | ⟨rfl, rfl⟩ <;> (cases x <;> cases e.key <;> rfl)
    simp only [findK] at hf
    simp only [Instr.findNow, hsame]
    split at hf
    · rename_i hc
      cases hf
      rw [hc]
      exact ⟨_, rfl, .inr ⟨i, e.val, e'.val, rfl, rfl, k4, Nat.le_refl _, e', by simp, by rw [k1]; exact hc⟩⟩
    · rename_i hc
      rw [hc]
      obtain ⟨r', h1, h2⟩ := findNow_rel (kt := kt) hd es es' (i + 1) r (by simpa using hl) (fun j a b x y => he (j + 1) a b (by simpa using x) (by simpa using y)) hf
      refine ⟨r', h1, ?_⟩
      rcases h2 with h2 | ⟨j, u, u', a, b, c, d, e2, f, g⟩
      · exact .inl h2
      · refine .inr ⟨j, u, u', a, b, c, by omega, e2, ?_, g⟩
        have : j - i = (j - (i + 1)) + 1 := by omega
        rw [this]; simpa using f
    · cases hf
/-- The search among keys of many cells. -/
theorem findAsking_rel {kt : TypeId} {kd : Nat} {x : Value} (h3 : 3 ≤ kd) (ha : tyAgg P kt = true) (hk : plainKinds P 40 kt = some (ksOf kd)) : ∀ (es es' : List MapEntry) (i : Nat) (r : Option (Nat × Value)), es.length = es'.length → (∀ (i : Nat) e e', es[i]? = some e → es'[i]? = some e' → ERel μ e e') →
    findK kd x es i = some r → ∃ r', (Instr.findAsking kt x es' i).run P w = .ok r' w ∧ ((r = none ∧ r' = none) ∨ ∃ j u u', r = some (j, u) ∧ r' = some (j, u') ∧ VRel μ u u' ∧ i ≤ j ∧ ∃ e', es'[j - i]? = some e' ∧ keyEq kd x e'.key = some true)
  | [], es', i, r, hl, _, hf => by
    have : es' = [] := List.length_eq_zero_iff.1 hl.symm
    subst this
    simp only [findK] at hf; cases hf
    exact ⟨none, rfl, .inl ⟨rfl, rfl⟩⟩
  | e :: es, [], i, r, hl, _, _ => by simp at hl
  | e :: es, e' :: es', i, r, hl, he, hf => by
    obtain ⟨k1, k2, k3, k4⟩ := he 0 e e' rfl rfl
    have heq : ∀ q, keyEq kd x e.key = some q → (Op.equal kt x e'.key).run P w = .ok q w := by
      intro q hq
      rw [k1]
      unfold keyEq at hq
      rw [if_neg (by omega)] at hq
      split at hq
      · rename_i a b hy
        rw [hy]
        split at hq
        · exact (equalIn_plain (P := P) (w := w) 40 kt _ hk 10000 (by omega) a b q).2 ha hq
        · cases hq
      · cases hq
    simp only [findK] at hf
    simp only [Instr.findAsking, Sem.run_bind]
    split at hf
    · rename_i hc
      cases hf
      rw [heq _ hc]
      exact ⟨_, rfl, .inr ⟨i, e.val, e'.val, rfl, rfl, k4, Nat.le_refl _, e', by simp, by rw [k1]; exact hc⟩⟩
    · rename_i hc
      rw [heq _ hc]
      obtain ⟨r', h1, h2⟩ := findAsking_rel h3 ha hk es es' (i + 1) r (by simpa using hl) (fun j a b x y => he (j + 1) a b (by simpa using x) (by simpa using y)) hf
      refine ⟨r', by simpa using h1, ?_⟩
      rcases h2 with h2 | ⟨j, u, u', a, b, c, d, e2, f, g⟩
      · exact .inl h2
      · refine .inr ⟨j, u, u', a, b, c, by omega, e2, ?_, g⟩
        have : j - i = (j - (i + 1)) + 1 := by omega
        rw [this]; simpa using f
    · cases hf
def FK (μ : M) (kd : Nat) (x : Value) (es' : List MapEntry) (r r' : Option (Nat × Value)) : Prop :=
  (r = none ∧ r' = none) ∨ ∃ j u u', r = some (j, u) ∧ r' = some (j, u') ∧ VRel μ u u' ∧ ∃ e', es'[j]? = some e' ∧ keyEq kd x e'.key = some true
theorem findKey_run {kt : TypeId} {kd : Nat} {x : Value} {es es' : List MapEntry} {r : Option (Nat × Value)} (hkt : KT P kt kd) (hl : es.length = es'.length) (he : ∀ (i : Nat) e e', es[i]? = some e → es'[i]? = some e' → ERel μ e e')
    (hf : findK kd x es 0 = some r) : ∃ r', (Instr.findKey kt x es').run P w = .ok r' w ∧ FK μ kd x es' r r' := by
  have fin : ∀ d, ((kd = 0 ∧ d = .bool) ∨ (kd = 1 ∧ ∃ i, d = .int i) ∨ (kd = 2 ∧ d = .string)) → P.underlying kt = some d → ∃ r', (Instr.findKey kt x es').run P w = .ok r' w ∧ FK μ kd x es' r r' := by
    intro d hd hu
    obtain ⟨r', h1, h2⟩ := findNow_rel (kt := kt) hd es es' 0 r hl he hf
    refine ⟨r', ?_, ?_⟩
    · simp only [Instr.findKey, Sem.run_bind, run_underlying hu, Result.andThen_ok, h1, Sem.run_pure]
    · rcases h2 with h2 | ⟨j, u, u', a, b, c, _, e2, f, g⟩
      · exact .inl h2
      · exact .inr ⟨j, u, u', a, b, c, e2, by simpa using f, g⟩
  rcases hkt with ⟨a, hu⟩ | ⟨a, i, hu⟩ | ⟨a, hu⟩ | ⟨h3, ha, hk⟩
  · exact fin _ (.inl ⟨a, rfl⟩) hu
  · exact fin _ (.inr (.inl ⟨a, i, rfl⟩)) hu
  · exact fin _ (.inr (.inr ⟨a, rfl⟩)) hu
  · obtain ⟨r', h1, h2⟩ := findAsking_rel (P := P) (w := w) h3 ha hk es es' 0 r hl he hf
    refine ⟨r', ?_, ?_⟩
    · rw [run_findKey_eq (P := P) w (by unfold tyAgg at ha; split at ha <;> simp_all)]
      exact h1
    · rcases h2 with h2 | ⟨j, u, u', a, b, c, _, e2, f, g⟩
      · exact .inl h2
      · exact .inr ⟨j, u, u', a, b, c, e2, by simpa using f, g⟩
theorem vrel_flat0 {v v' : Value} (h : VRel μ v v') (hv : flat0 v = true) : v' = v := by
  cases h with
  | flat v h => rfl
  | veil v => simp [veil, flat0] at hv
  | fn g p q p' q' hp hq h1 h2 =>
    simp only [flat0, Bool.and_eq_true, Array.isEmpty_iff_size_eq_zero] at hv
    have e1 : p = #[] := Array.size_eq_zero_iff.1 hv.1
    have e2 : q = #[] := Array.size_eq_zero_iff.1 hv.2
    subst e1 e2
    have : p' = #[] := Array.size_eq_zero_iff.1 (by simpa using hp.symm)
    have : q' = #[] := Array.size_eq_zero_iff.1 (by simpa using hq.symm)
    simp_all
  | _ => simp [flat0] at hv
theorem isKey_rel {kd : Nat} {x x' : Value} (hx : VRel μ x x') (hk : isKey kd x = true) : x' = x ∧ flat1 x = true := by
  unfold isKey at hk
  split at hk
  · exact ⟨vrel_bool hx, rfl⟩
  · exact ⟨vrel_int hx, rfl⟩
  · exact ⟨vrel_str hx, rfl⟩
  · rename_i cs
    simp only [Bool.and_eq_true] at hk
    obtain ⟨cs', rfl, hs, hh⟩ := vrel_agg hx
    refine ⟨?_, hk.2.2⟩
    congr 1
    have hs : cs.size = cs'.size := by simpa using hs
    apply Array.ext hs.symm
    intro i h1 h2
    exact vrel_flat0 (hh i cs[i] cs'[i] (by simp [h2]) (by simp [h1])) (List.all_eq_true.1 hk.2.2 _ (by simp))
  · cases hk
theorem run_getMap {r : Nat} {es : Array MapEntry} {clk : Nat} (hb : w.heap[r]? = some (.map es clk)) : (getObj r).run P w = .ok (.map es clk) w := by simp [getObj, Sem.run, hb]
theorem run_setMap {r : Nat} {es : Array MapEntry} {clk : Nat} (o : Obj) (hb : w.heap[r]? = some (.map es clk)) : (setObj r o).run P w = .ok () { w with heap := w.heap.setIfInBounds r o } := by simp [setObj, Sem.run, hb]
theorem lookup_none {t : TypeId} {ok : Bool} {kd : Nat} {kt et : TypeId} {x z : Value} (hut : P.underlying t = some (.map kt et)) (hz : tyZero P et = some z) (hkt : KT P kt kd) (hik : isKey kd x = true) :
    (Instr.lookup t (.map none) x ok).run P w = .ok (if ok then .tuple #[z, .bool false] else z) w := by
  obtain ⟨r', h1, h2⟩ := findKey_run (P := P) (w := w) (μ := ⟨fun _ => (0, 0), fun _ => True, fun _ => none, 0, fun _ _ _ h => by cases h⟩) (x := x) (kt := kt) (es := []) (es' := []) hkt rfl (fun i e e' p q => by simp at p) rfl
  rcases h2 with ⟨_, rfl⟩ | ⟨_, _, _, h, _⟩
  · simp only [Instr.lookup, Sem.run_bind, run_underlying hut, Result.andThen_ok, Sem.run_pure, checkKey_run hkt hik, Array.toList_empty, h1, r_zeroValue hz]
  · cases h
theorem lookup_some {t : TypeId} {ok : Bool} {kd : Nat} {kt et : TypeId} {x z : Value} {r clk : Nat} {es : List MapEntry} {es' : Array MapEntry} {u : Option (Nat × Value)} (hut : P.underlying t = some (.map kt et)) (hz : tyZero P et = some z) (hzf : flat1 z = true) (hkt : KT P kt kd) (hik : isKey kd x = true)
    (ho : w.heap[r]? = some (.map es' clk)) (hl : es.length = es'.size) (he : ∀ (i : Nat) e e', es[i]? = some e → es'[i]? = some e' → ERel μ e e') (hf : findK kd x es 0 = some u) :
    ∃ v' b, (Instr.lookup t (.map (some r)) x ok).run P w = .ok (if ok then .tuple #[v', .bool b] else v') w ∧ ((u = none ∧ b = false ∧ v' = z) ∨ ∃ j v, u = some (j, v) ∧ b = true ∧ VRel μ v v') := by
  obtain ⟨r', h1, h2⟩ := findKey_run (P := P) (w := w) (kt := kt) (es' := es'.toList) hkt (by simpa using hl) (fun i e e' p q => he i e e' p (by simpa using q)) hf
  rcases h2 with ⟨rfl, rfl⟩ | ⟨j, v, v', rfl, rfl, hv, _⟩
  · refine ⟨z, false, ?_, .inl ⟨rfl, rfl, rfl⟩⟩
    simp only [Instr.lookup, Sem.run_bind, run_underlying hut, Result.andThen_ok, Sem.run_pure, checkKey_run hkt hik, run_getMap ho, h1, r_zeroValue hz]
  · refine ⟨v', true, ?_, .inr ⟨j, v, rfl, rfl, hv⟩⟩
    simp only [Instr.lookup, Sem.run_bind, run_underlying hut, Result.andThen_ok, Sem.run_pure, checkKey_run hkt hik, run_getMap ho, h1, r_zeroValue hz]
theorem sim_lk {t : TypeId} {x y : Operand} {ok : Bool} {kd : Nat} {et kt : TypeId} {a b : KO} {z : Value} (ho : o.op = .lookup t x y ok) (hρ : Rho μ o.op fr ρ) (hpk : plainKey P t = some kd) (hut : P.underlying t = some (.map kt et)) (hz : tyZero P et = some z) (hzf : flat1 z = true)
    (ha : cO x = some a) (hb : cO y = some b) (hrd : Rds P μ (.lk kd a b z ok) fr h w) (hk : kop (.lk kd a b z ok) fr h = some (.val v e)) : Out P μ n ρ o w v e := by
  rw [ho] at hρ
  have rx := hρ x (by simp [Op.operands]) a ha
  have ry := hρ y (by simp [Op.operands]) b hb
  obtain ⟨kt2, et2, hu2, hkt⟩ := plainKey_inv hpk
  rw [hut] at hu2; cases hu2
  simp only [kop] at hk
  split at hk
  · rename_i hik
    obtain ⟨hy, _⟩ := isKey_rel ry hik
    have hres : ∀ (q : Bool) (u u' : Value), VRel μ u u' → VRel μ (if ok then .tuple #[u, .bool q] else u) (if ok then .tuple #[u', .bool q] else u') := fun q u u' hu => by
      cases ok
      · exact hu
      · exact (VRels.cons hu (.cons (.flat _ rfl) (.nil μ))).tup
    split at hk
    · rename_i hm
      cases hk
      rw [hm] at rx
      have hρx : ρ x = .map none := by generalize ρ x = q at rx; cases rx; rfl
      refine out_pure ?_ (hres false z z (vrel_flat1 hzf))
      simp only [execOp, ho, hρx, hy, Sem.run_bind, lookup_none hut hz hkt hik, Result.andThen_ok, Sem.run_pure]
    · rename_i r hm
      rw [hm] at rx
      obtain ⟨hV, hs, hρx⟩ : μ.V r ∧ (μ.f r).2 = 0 ∧ ρ x = .map (some (μ.f r).1) := by
        generalize ρ x = q at rx
        cases rx with
        | flat _ h => simp [flat0] at h
        | mp _ hV hs => exact ⟨hV, hs, rfl⟩
      split at hk
      · rename_i es clk hob
        obtain ⟨o', hw, es', rfl, hl, he, _⟩ := hrd r (by simp [rds, hm, blkOf]) hV _ hob
        split at hk
        · rename_i hf
          cases hk
          obtain ⟨v', q, hr, hc⟩ := lookup_some (ok := ok) (x := b.ev fr) hut hz hzf hkt hik hw hl he hf
          rcases hc with ⟨_, rfl, rfl⟩ | ⟨_, _, hc, _⟩
          · refine out_pure ?_ (hres false v' v' (vrel_flat1 hzf))
            simp only [execOp, ho, hρx, hy, Sem.run_bind, hr, Result.andThen_ok, Sem.run_pure]
          · cases hc
        · rename_i u hf
          cases hk
          obtain ⟨v', q, hr, hc⟩ := lookup_some (ok := ok) (x := b.ev fr) hut hz hzf hkt hik hw hl he hf
          rcases hc with ⟨hc, _⟩ | ⟨_, _, hc, rfl, hv⟩
          · cases hc
          · cases hc
            refine out_pure ?_ (hres true _ v' hv)
            simp only [execOp, ho, hρx, hy, Sem.run_bind, hr, Result.andThen_ok, Sem.run_pure]
        · cases hk
      · cases hk
    · cases hk
  · cases hk
theorem bytes_same (a b : ByteArray) : (a == b) = true ↔ a = b := by
  obtain ⟨x⟩ := a
  obtain ⟨y⟩ := b
  constructor
  · intro h
    have e : x = y := by simpa using (show (x == y) = true from h)
    rw [e]
  · intro h
    cases h
    show (x == x) = true
    simp
theorem sameBits_cell {kd n : Nat} {x y : Value} (h : cellEq kd x y = some true) : Instr.sameBits n y x = true := by
  unfold cellEq at h
  split at h
  · simp only [Option.some.injEq, beq_iff_eq] at h; subst h; simp [Instr.sameBits]
  · split at h
    · rename_i hk; simp only [Option.some.injEq, beq_iff_eq] at h; subst h; subst hk; simp [Instr.sameBits]
    · cases h
  · rename_i a b
    simp only [Option.some.injEq] at h
    have e : a = b := (bytes_same a b).1 h
    subst e
    cases n <;> exact h
  · cases h
theorem sameBits_cells {n : Nat} : ∀ {ks : List Nat} {l m : List Value}, l.length = ks.length → m.length = ks.length → cellsEq ks l m = some true → (m.zip l).all (fun p => Instr.sameBits n p.1 p.2) = true
  | [], l, m, hl, hm, _ => by rw [List.length_eq_zero_iff.1 hl]; simp
  | k :: ks, [], m, hl, _, _ => by simp at hl
  | k :: ks, x :: l, [], _, hm, _ => by simp at hm
  | k :: ks, x :: l, y :: m, hl, hm, h => by
    simp only [cellsEq] at h
    split at h
    · rename_i p q hp hq
      simp only [Option.some.injEq, Bool.and_eq_true] at h
      obtain ⟨rfl, rfl⟩ := h
      simp only [List.zip_cons_cons, List.all_cons, Bool.and_eq_true]
      exact ⟨sameBits_cell hp, sameBits_cells (by simpa using hl) (by simpa using hm) hq⟩
    · cases h
theorem sameBits_key {kd : Nat} {x y : Value} (h : keyEq kd x y = some true) : Instr.sameBits 10000 y x = true := by
  unfold keyEq at h
  split at h
  · exact sameBits_cell h
  · split at h
    · rename_i a b
      split at h
      · rename_i hs
        simp only [Instr.sameBits, Bool.and_eq_true, beq_iff_eq]
        exact ⟨by omega, sameBits_cells (by simpa using hs.1) (by simpa using hs.2) h⟩
      · cases h
    · cases h
theorem sim_ins {t : TypeId} {m x y : Operand} {kd : Nat} {a b c : KO} (ho : o.op = .mapUpdate t m x y ∨ o.op = .insert t m x y) (hρ : Rho μ o.op fr ρ) (hpk : plainKey P t = some kd)
    (ha : cO m = some a) (hb : cO x = some b) (hc : cO y = some c) (hrd : Rds P μ (.ins kd a b c) fr h w) (hk : kop (.ins kd a b c) fr h = some (.val v e)) : Out P μ n ρ o w v e := by
  have rm := hρ m (by rcases ho with h | h <;> rw [h] <;> simp [Op.operands]) a ha
  have rx := hρ x (by rcases ho with h | h <;> rw [h] <;> simp [Op.operands]) b hb
  have ry := hρ y (by rcases ho with h | h <;> rw [h] <;> simp [Op.operands]) c hc
  obtain ⟨kt, et, hut, hkt⟩ := plainKey_inv hpk
  simp only [kop] at hk
  split at hk
  · rename_i r hm
    rw [hm] at rm
    obtain ⟨hV, hs, hρm⟩ : μ.V r ∧ (μ.f r).2 = 0 ∧ ρ m = .map (some (μ.f r).1) := by
      generalize ρ m = q at rm
      cases rm with
      | flat _ h => simp [flat0] at h
      | mp _ hV hs => exact ⟨hV, hs, rfl⟩
    split at hk
    · rename_i es clk hob
      obtain ⟨o', hw, es', rfl, hl, he, _, hzn⟩ := hrd r (by simp [rds, hm, blkOf]) hV _ hob
      split at hk
      · rename_i hik
        obtain ⟨hx, hxf⟩ := isKey_rel rx hik
        split at hk
        · rename_i hf
          cases hk
          obtain ⟨r', h1, h2⟩ := findKey_run (P := P) (w := w) (kt := kt) (es' := es'.toList) hkt (by simpa using hl) (fun i e e' p q => he i e e' p (by simpa using q)) hf
          rcases h2 with ⟨_, rfl⟩ | ⟨_, _, _, h, _⟩
          · have hlt : (μ.f r).1 < w.heap.size := (Array.getElem?_eq_some_iff.1 hw).1
            have hrun : (Instr.mapUpdate t (ρ m) (ρ x) (ρ y)).run P w = .ok () { w with heap := w.heap.setIfInBounds (μ.f r).1 (.map (es'.push { key := b.ev fr, val := ρ y, born := clk }) (clk + 1)) } := by
              simp only [Instr.mapUpdate, hρm, hx, Sem.run_bind, run_underlying hut, Result.andThen_ok, run_getMap hw, checkKey_run hkt hik, h1, run_setMap _ hw]
            refine ⟨undef, { w with heap := w.heap.setIfInBounds (μ.f r).1 (.map (es'.push { key := b.ev fr, val := ρ y, born := clk }) (clk + 1)) }, μ, ?_, .upd r _ _ _ hV ⟨rfl, rfl, rfl⟩ rfl ⟨es'.push { key := b.ev fr, val := ρ y, born := clk }, rfl, by simp [hl], ?_, hs, hzn⟩, vrel_undef μ⟩
            · rcases ho with ho | ho
              · refine .inr ⟨rfl, ?_⟩
                simp only [execOp, ho, Sem.run_bind, hrun, Result.andThen_ok, Sem.run_pure]
              · refine .inr ⟨rfl, ?_⟩
                simp only [execOp, ho, Sem.run_bind, hrun, Result.andThen_ok, Sem.run_pure]
            · intro i e e' p q
              rw [Array.getElem?_push] at q
              rw [List.getElem?_append] at p
              split at p
              · rename_i hi
                rw [if_neg (by omega)] at q
                exact he i e e' p q
              · rename_i hi
                split at q
                · cases q
                  rw [show i - es.length = 0 by omega] at p
                  simp only [List.getElem?_cons_zero, Option.some.injEq] at p; subst p
                  exact ⟨rfl, rfl, hxf, ry⟩
                · rename_i hne
                  have : i < es'.size := (Array.getElem?_eq_some_iff.1 q).1
                  omega
          · cases h
        · rename_i i u hf
          cases hk
          obtain ⟨r', h1, h2⟩ := findKey_run (P := P) (w := w) (kt := kt) (es' := es'.toList) hkt (by simpa using hl) (fun i e e' p q => he i e e' p (by simpa using q)) hf
          rcases h2 with ⟨h, _⟩ | ⟨j, _, v', h, rfl, hv, e', hj, hce⟩
          · cases h
          · cases h
            have hold : Instr.sameBits 10000 (((es'[i]?).map (·.key)).getD (b.ev fr)) (b.ev fr) = true := by
              have : es'[i]? = some e' := by simpa using hj
              rw [this]; exact sameBits_key hce
            have hrun : (Instr.mapUpdate t (ρ m) (ρ x) (ρ y)).run P w = .ok () { w with heap := w.heap.setIfInBounds (μ.f r).1 (.map (es'.modify i fun e => { e with key := b.ev fr, val := ρ y }) clk) } := by
              simp only [Instr.mapUpdate, hρm, hx, Sem.run_bind, run_underlying hut, Result.andThen_ok, run_getMap hw, checkKey_run hkt hik, h1, Instr.keyThatStays, hold, if_true, Sem.run_pure, run_setMap _ hw]
            refine ⟨undef, { w with heap := w.heap.setIfInBounds (μ.f r).1 (.map (es'.modify i fun e => { e with key := b.ev fr, val := ρ y }) clk) }, μ, ?_, .upd r _ _ _ hV ⟨rfl, rfl, rfl⟩ rfl ⟨es'.modify i fun e => { e with key := b.ev fr, val := ρ y }, rfl, by simp [hl], ?_, hs, hzn⟩, vrel_undef μ⟩
            · rcases ho with ho | ho
              · refine .inr ⟨rfl, ?_⟩
                simp only [execOp, ho, Sem.run_bind, hrun, Result.andThen_ok, Sem.run_pure]
              · refine .inr ⟨rfl, ?_⟩
                simp only [execOp, ho, Sem.run_bind, hrun, Result.andThen_ok, Sem.run_pure]
            · intro k e e' p q
              rw [Array.getElem?_modify] at q
              rw [List.getElem?_modify] at p
              split at q
              · rename_i hi; subst hi
                cases hp : es[i]? with
                | none => rw [hp] at p; simp at p
                | some e1 => cases hq : es'[i]? with
                  | none => rw [hq] at q; simp at q
                  | some e2 =>
                    rw [hp] at p
                    rw [hq] at q
                    simp only [Option.map_some, if_true, Option.some.injEq, Functor.map] at p q
                    obtain ⟨_, k2, _, _⟩ := he _ _ _ hp hq
                    subst p; subst q
                    exact ⟨rfl, k2, hxf, ry⟩
              · rename_i hi
                cases hp : es[k]? with
                | none => rw [hp] at p; simp at p
                | some e1 =>
                  rw [hp] at p
                  simp only [hi, if_false, Option.map_some, Functor.map, Option.some.injEq, id_eq] at p
                  subst p
                  exact he k _ e' hp q
        · cases hk
      · cases hk
    · cases hk
  · cases hk
theorem sim_ment {t : TypeId} {m x : Operand} {kd : Nat} {kt et : TypeId} {a b : KO} {z : Value} (ho : o.op = .mapEntry t m x) (hρ : Rho μ o.op fr ρ) (hpk : plainKey P t = some kd) (hut0 : P.underlying t = some (.map kt et)) (hz : tyZero P et = some z) (hzf : flat1 z = true)
    (ha : cO m = some a) (hb : cO x = some b) (hrd : Rds P μ (.ment kd a b z) fr h w) (hk : kop (.ment kd a b z) fr h = some (.val v e)) : Out P μ n ρ o w v e := by
  have rm := hρ m (by rw [ho]; simp [Op.operands]) a ha
  have rx := hρ x (by rw [ho]; simp [Op.operands]) b hb
  obtain ⟨kt', et', hut, hkt⟩ := plainKey_inv hpk
  rw [hut0] at hut; cases hut
  have hut := hut0
  have htup : ∀ (u u' : Value) (c : Int), VRel μ u u' → VRel μ (.tuple #[u, .int .i64 c]) (.tuple #[u', goInt c]) := fun u u' c hu => (VRels.cons hu (.cons (.flat _ rfl) (.nil μ))).tup
  simp only [kop] at hk
  split at hk
  · rename_i hik
    obtain ⟨hx, hxf⟩ := isKey_rel rx hik
    split at hk
    · rename_i r hm
      rw [hm] at rm
      obtain ⟨hV, hs, hρm⟩ : μ.V r ∧ (μ.f r).2 = 0 ∧ ρ m = .map (some (μ.f r).1) := by
        generalize ρ m = q at rm
        cases rm with
        | flat _ h => simp [flat0] at h
        | mp _ hV hs => exact ⟨hV, hs, rfl⟩
      split at hk
      · rename_i es clk hob
        obtain ⟨o', hw, es', rfl, hl, he, _, hzn⟩ := hrd r (by simp [rds, hm, blkOf]) hV _ hob
        split at hk
        · rename_i hf
          cases hk
          obtain ⟨r', h1, h2⟩ := findKey_run (P := P) (w := w) (kt := kt) (es' := es'.toList) hkt (by simpa using hl) (fun i e e' p q => he i e e' p (by simpa using q)) hf
          rcases h2 with ⟨_, rfl⟩ | ⟨_, _, _, h, _⟩
          · have hrun : (Instr.mapEntry t (ρ m) (ρ x)).run P w = .ok (.tuple #[z, goInt clk]) { w with heap := w.heap.setIfInBounds (μ.f r).1 (.map (es'.push { key := b.ev fr, val := z, born := clk }) (clk + 1)) } := by
              simp only [Instr.mapEntry, hρm, hx, Sem.run_bind, run_underlying hut, Result.andThen_ok, run_getMap hw, checkKey_run hkt hik, h1, r_zeroValue hz, run_setMap _ hw, Sem.run_pure]
            refine ⟨.tuple #[z, goInt clk], { w with heap := w.heap.setIfInBounds (μ.f r).1 (.map (es'.push { key := b.ev fr, val := z, born := clk }) (clk + 1)) }, μ, .inl (by simp only [execOp, ho, Sem.run_bind, hrun, Result.andThen_ok, Sem.run_pure]), .upd r _ _ _ hV ⟨rfl, rfl, rfl⟩ rfl ⟨es'.push { key := b.ev fr, val := z, born := clk }, rfl, by simp [hl], ?_, hs, hzn⟩, htup _ _ _ (vrel_flat1 hzf)⟩
            intro i e e' p q
            rw [Array.getElem?_push] at q
            rw [List.getElem?_append] at p
            split at p
            · rename_i hi
              rw [if_neg (by omega)] at q
              exact he i e e' p q
            · rename_i hi
              split at q
              · cases q
                rw [show i - es.length = 0 by omega] at p
                simp only [List.getElem?_cons_zero, Option.some.injEq] at p; subst p
                exact ⟨rfl, rfl, hxf, vrel_flat1 hzf⟩
              · rename_i hne
                have : i < es'.size := (Array.getElem?_eq_some_iff.1 q).1
                omega
          · cases h
        · rename_i i u hf
          cases hk
          obtain ⟨r', h1, h2⟩ := findKey_run (P := P) (w := w) (kt := kt) (es' := es'.toList) hkt (by simpa using hl) (fun i e e' p q => he i e e' p (by simpa using q)) hf
          rcases h2 with ⟨h, _⟩ | ⟨j, _, v', h, rfl, hv, e', hj, hce⟩
          · cases h
          · cases h
            have hj2 : es'[i]? = some e' := by simpa using hj
            have hil : i < es.length := by have := (Array.getElem?_eq_some_iff.1 hj2).1; omega
            have hei := he i es[i] e' (List.getElem?_eq_getElem hil) hj2
            have hold : Instr.sameBits 10000 (((es'[i]?).map (·.key)).getD (b.ev fr)) (b.ev fr) = true := by
              rw [hj2]; exact sameBits_key hce
            have hbo : ((es'[i]?).map (fun x => (x.born : Int))).getD 0 = ((es[i]?).map (fun x => (x.born : Int))).getD 0 := by rw [hj2, List.getElem?_eq_getElem hil]; simp only [Option.map_some, Option.getD_some]; rw [hei.2.1]
            have hrun : (Instr.mapEntry t (ρ m) (ρ x)).run P w = .ok (.tuple #[v', goInt (((es[i]?).map (·.born)).getD 0)]) { w with heap := w.heap.setIfInBounds (μ.f r).1 (.map (es'.modify i fun e => { e with key := b.ev fr }) clk) } := by
              simp only [Instr.mapEntry, hρm, hx, Sem.run_bind, run_underlying hut, Result.andThen_ok, run_getMap hw, checkKey_run hkt hik, h1, Instr.keyThatStays, hold, if_true, Sem.run_pure, run_setMap _ hw, hbo]
            refine ⟨.tuple #[v', goInt (((es[i]?).map (fun x => (x.born : Int))).getD 0)], { w with heap := w.heap.setIfInBounds (μ.f r).1 (.map (es'.modify i fun e => { e with key := b.ev fr }) clk) }, μ, .inl (by simp only [execOp, ho, Sem.run_bind, hrun, Result.andThen_ok, Sem.run_pure]), .upd r _ _ _ hV ⟨rfl, rfl, rfl⟩ rfl ⟨es'.modify i fun e => { e with key := b.ev fr }, rfl, by simp [hl], ?_, hs, hzn⟩, htup _ _ _ hv⟩
            intro k e e' p q
            rw [Array.getElem?_modify] at q
            rw [List.getElem?_modify] at p
            have hkl : k < es.length := by
              obtain ⟨e1, he1, _⟩ := Option.map_eq_some_iff.1 p
              exact (List.getElem?_eq_some_iff.1 he1).1
            have hk2 : k < es'.size := by omega
            rw [List.getElem?_eq_getElem hkl] at p
            rw [Array.getElem?_eq_getElem hk2] at q
            have hee := he k es[k] es'[k] (List.getElem?_eq_getElem hkl) (Array.getElem?_eq_getElem hk2)
            simp only [Option.map_some, Functor.map, Option.some.injEq] at p
            by_cases hq : i = k
            · rw [if_pos hq] at p q
              simp only [Option.map_some, Option.some.injEq] at q
              subst p q
              exact ⟨rfl, hee.2.1, hxf, hee.2.2.2⟩
            · rw [if_neg hq] at p q
              simp only [Option.some.injEq] at q
              subst p q
              exact hee
        · cases hk
      · cases hk
    · cases hk
  · cases hk
theorem find_born {b : Int} : ∀ {es es' : List MapEntry}, es.length = es'.length → (∀ (i : Nat) e e', es[i]? = some e → es'[i]? = some e' → ERel μ e e') → es'.findIdx? (fun e => (e.born : Int) == b) = es.findIdx? (fun e => (e.born : Int) == b)
  | [], [], _, _ => rfl
  | e :: es, e' :: es', hl, he => by
    have h0 := (he 0 e e' rfl rfl).2.1
    rw [List.findIdx?_cons, List.findIdx?_cons, h0, find_born (by simpa using hl) fun i a b x y => he (i + 1) a b (by simpa using x) (by simpa using y)]
theorem sim_mset {t : TypeId} {m x y : Operand} {a b c : KO} (ho : o.op = .entryStore t m x y) (hρ : Rho μ o.op fr ρ)
    (ha : cO m = some a) (hb : cO x = some b) (hc : cO y = some c) (hrd : Rds P μ (.mset a b c) fr h w) (hk : kop (.mset a b c) fr h = some (.val v e)) : Out P μ n ρ o w v e := by
  have rm := hρ m (by rw [ho]; simp [Op.operands]) a ha
  have rx := hρ x (by rw [ho]; simp [Op.operands]) b hb
  have ry := hρ y (by rw [ho]; simp [Op.operands]) c hc
  simp only [kop] at hk
  split at hk
  · rename_i r k bo hm hx
    rw [hm] at rm
    rw [hx] at rx
    have hρx := vrel_int rx
    obtain ⟨hV, hs, hρm⟩ : μ.V r ∧ (μ.f r).2 = 0 ∧ ρ m = .map (some (μ.f r).1) := by
      generalize ρ m = q at rm
      cases rm with
      | flat _ h => simp [flat0] at h
      | mp _ hV hs => exact ⟨hV, hs, rfl⟩
    split at hk
    · rename_i es clk hob
      obtain ⟨o', hw, es', rfl, hl, he, _, hzn⟩ := hrd r (by simp [rds, hm, blkOf]) hV _ hob
      split at hk
      · rename_i i hf
        cases hk
        have hf' : es'.findIdx? (fun e => (e.born : Int) == bo) = some i := by
          rw [show es' = es'.toList.toArray from rfl, List.findIdx?_toArray, find_born (es := es) (by simpa using hl) fun i e e' p q => he i e e' p (by simpa using q)]
          exact hf
        have hrun : (Instr.entryStore t (ρ m) (ρ x) (ρ y)).run P w = .ok () { w with heap := w.heap.setIfInBounds (μ.f r).1 (.map (es'.modify i fun e => { e with val := ρ y }) clk) } := by
          simp only [Instr.entryStore, hρm, hρx, asInt, asIntOf, Sem.run_bind, run_getMap hw, Result.andThen_ok, Sem.run_pure, hf', run_setMap _ hw]
        refine ⟨undef, { w with heap := w.heap.setIfInBounds (μ.f r).1 (.map (es'.modify i fun e => { e with val := ρ y }) clk) }, μ, .inr ⟨rfl, by simp only [execOp, ho, Sem.run_bind, hrun, Result.andThen_ok, Sem.run_pure]⟩, .upd r _ _ _ hV ⟨rfl, rfl, rfl⟩ rfl ⟨es'.modify i fun e => { e with val := ρ y }, rfl, by simp [hl], ?_, hs, hzn⟩, vrel_undef μ⟩
        intro k e e' p q
        rw [Array.getElem?_modify] at q
        rw [List.getElem?_modify] at p
        have hkl : k < es.length := by
          obtain ⟨e1, he1, _⟩ := Option.map_eq_some_iff.1 p
          exact (List.getElem?_eq_some_iff.1 he1).1
        have hk2 : k < es'.size := by omega
        rw [List.getElem?_eq_getElem hkl] at p
        rw [Array.getElem?_eq_getElem hk2] at q
        have hee := he k es[k] es'[k] (List.getElem?_eq_getElem hkl) (Array.getElem?_eq_getElem hk2)
        simp only [Option.map_some, Functor.map, Option.some.injEq] at p
        by_cases hq : i = k
        · rw [if_pos hq] at p q
          simp only [Option.map_some, Option.some.injEq] at q
          subst p q
          exact ⟨hee.1, hee.2.1, hee.2.2.1, ry⟩
        · rw [if_neg hq] at p q
          simp only [Option.some.injEq] at q
          subst p q
          exact hee
      · cases hk
    · cases hk
  · cases hk
end Go.Canon
namespace Go.Canon
set_option linter.unusedVariables false
set_option linter.unusedSimpArgs false
open Go
variable {P : Program} {w : World} {μ : M} {ρ : Operand → Value} {o : Oper} {fr : Nat → Value} {h : Heap} {v : Value} {e : Eff} {k : KOp}
theorem cCall_sim {c : Call} (hn : e.lays = true → ¬ μ.V h.length) (hd : ∀ cs wr z, h[μ.d]? ≠ some (.row cs wr (some z))) (hop : o.op = .call c) (hc : cCall P c = some k) (hρ : Rho μ o.op fr ρ) (hrd : Rds P μ k fr h w) (hk : kop k fr h = some (.val v e)) : Out P μ h.length ρ o w v e := by
  obtain ⟨callee, args, argTypes⟩ := c
  have hc0 : cOp P o.op = some k := by rw [hop]; exact hc
  unfold cCall at hc
  dsimp only at hc
  split at hc
  · split at hc
    · cases hc
      simp only [kop] at hk
      split at hk
      · cases hk
      · split at hk <;> cases hk
      · cases hk
    · cases hc
  · cases hc
  · split at hc
    · rename_i x t hx ht
      obtain ⟨args⟩ := args
      obtain ⟨argTypes⟩ := argTypes
      simp only at hx ht; subst hx; subst ht
      split at hc
      · rename_i el hu
        rw [Option.map_eq_some_iff] at hc
        obtain ⟨kx, hcx, rfl⟩ := hc
        exact sim_len hop hρ hu hcx hk
      · rename_i hu
        rw [Option.map_eq_some_iff] at hc
        obtain ⟨kx, hcx, rfl⟩ := hc
        exact sim_lenS hop hρ hu hcx hk
      · rename_i m el hu
        cases hc
        exact sim_lenA hop (.inl hu) hk
      · rename_i r hu
        split at hc
        · rename_i m el hr
          cases hc
          exact sim_lenA hop (.inr ⟨r, hu, hr⟩) hk
        · cases hc
      · cases hc
    · rename_i s x t u hx ht
      obtain ⟨args⟩ := args
      obtain ⟨argTypes⟩ := argTypes
      simp only at hx ht; subst hx; subst ht
      split at hc
      · rename_i el hu
        split at hc
        · rename_i i a b U hi ha hb huu
          split at hc
          · rename_i hcond
            cases hc
            simp only [Bool.and_eq_true, decide_eq_true_eq] at hcond
            exact sim_app (ty := t) hn hd hop hρ hu hi huu hcond.1.1.2 hcond.1.2 hcond.2 hcond.1.1.1 ha hb hrd hk
          · cases hc
        · cases hc
      · cases hc
    · rename_i d s t u hx ht
      obtain ⟨args⟩ := args
      obtain ⟨argTypes⟩ := argTypes
      simp only at hx ht; subst hx; subst ht
      split at hc
      · rename_i el eu hu huu
        split at hc
        · rename_i z a b hz ha hb
          cases hc
          exact sim_cpy (ty := t) (eu := eu) hop hρ hu hz ha hb hrd hk
        · cases hc
      · cases hc
    · rename_i x t hx ht
      exact sim_clr (ty := t) hop hx ht hρ hc0 hrd hk
    · rename_i x r hx
      rw [Option.map_eq_some_iff] at hc
      obtain ⟨kl, hcl, rfl⟩ := hc
      exact sim_mx hop hρ (by rw [hx]; exact hcl) hk
    · rename_i x r hx
      rw [Option.map_eq_some_iff] at hc
      obtain ⟨kl, hcl, rfl⟩ := hc
      exact sim_mn hop hρ (by rw [hx]; exact hcl) hk
    · cases hc
theorem kop_sim (hn : e.lays = true → ¬ μ.V h.length) (hd : ∀ cs wr z, h[μ.d]? ≠ some (.row cs wr (some z))) (hc : cOp P o.op = some k) (hρ : Rho μ o.op fr ρ) (hrd : Rds P μ k fr h w) (hk : kop k fr h = some (.val v e)) : Out P μ h.length ρ o w v e := by
  have hc0 := hc
  generalize hop : o.op = op at hc
  cases op
  case move x => exact sim_move (.inl hop) hρ hc0 hk
  case assign x => exact sim_move (.inr hop) hρ hc0 hk
  case pick c a b => exact sim_pick hop hρ hc0 hk
  case alloc t => exact sim_new hn hop hc0 hk
  case box t x => exact sim_box hn hop hρ hc0 hk
  case build t ps => exact sim_mk hop hρ hc0 hk
  case buildSlice t len ps => exact sim_mkS hn hop hρ hc0 hk
  case load t x => exact sim_ld hop hρ hc0 hrd hk
  case store t x y => exact sim_st hop hρ hc0 hrd hk
  case nilCheck x => exact sim_nilc hop hρ hc0 hk
  case binOp op t x y yt => exact sim_bin hop hρ hc0 hk
  case unOp op t x =>
    cases op
    case not => exact sim_not hop hρ hc0 hk
    case neg => exact sim_neg hop hρ hc0 hk
    all_goals simp [cOp] at hc
  case convert s d x => exact sim_cv hop hρ hc0 hk
  case makeFunc t p q =>
    cases t
    case func f => exact sim_fn hop hρ hc0 hk
    all_goals simp [cOp] at hc
  case makeMap t r =>
    cases r
    case none =>
      simp only [cOp] at hc
      split at hc
      · cases hc; exact sim_mkM hn hop hk
      · cases hc
    case some => simp [cOp] at hc
  case makeSlice t l c => exact sim_mkSl hn hop hρ hc0 hk
  case slice t x lo hi mx =>
    simp only [cOp] at hc
    split at hc
    · rename_i a l h' m ha hl hh hm
      split at hc
      · rename_i el hu
        rw [Option.map_eq_some_iff] at hc
        obtain ⟨s, hs, rfl⟩ := hc
        exact sim_slS hop hρ hrd hu hs ha hl hh hm hk
      · rename_i len el hu
        rw [Option.map_eq_some_iff] at hc
        obtain ⟨s, hs, rfl⟩ := hc
        exact sim_slA hop hρ hrd (.inl hu) hs ha hl hh hm hk
      · rename_i r hu
        split at hc
        · rename_i len el hr
          rw [Option.map_eq_some_iff] at hc
          obtain ⟨s, hs, rfl⟩ := hc
          exact sim_slA hop hρ hrd (.inr ⟨r, hu, hr⟩) hs ha hl hh hm hk
        · cases hc
      · cases hc
    · cases hc
  case fieldAddr s x f => exact sim_fa hop hρ hc0 hk
  case field s x f => exact sim_fld hop hρ hc0 hk
  case indexAddr t x i =>
    simp only [cOp] at hc
    split at hc
    · rename_i el a b hu ha hb
      rw [Option.map_eq_some_iff] at hc
      obtain ⟨s, hs, rfl⟩ := hc
      exact sim_iaS hop hρ hu hs ha hb hk
    · rename_i len el a b hu ha hb
      rw [Option.map_eq_some_iff] at hc
      obtain ⟨s, hs, rfl⟩ := hc
      exact sim_iaA hop hρ hu hs ha hb hk
    · cases hc
  case index t x i =>
    simp only [cOp] at hc
    split at hc
    · rename_i len el a b hu ha hb
      split at hc
      · rename_i s f hs hf
        cases hc
        exact sim_ixA hop hρ hu hs hf ha hb hk
      · cases hc
    · cases hc
  case lookup t x i ok =>
    simp only [cOp] at hc
    split at hc
    · rename_i kd kt el a b hp hu ha hb
      split at hc
      · rename_i z hz
        split at hc
        · rename_i hf
          cases hc
          exact sim_lk hop hρ hp hu hz hf ha hb hrd hk
        · cases hc
      · cases hc
    · cases hc
  case mapUpdate t m x y =>
    simp only [cOp] at hc
    split at hc
    · rename_i kd a b c hp ha hb hcc
      cases hc
      exact sim_ins (.inl hop) hρ hp ha hb hcc hrd hk
    · cases hc
  case insert t m x y =>
    simp only [cOp] at hc
    split at hc
    · rename_i kd a b c hp ha hb hcc
      cases hc
      exact sim_ins (.inr hop) hρ hp ha hb hcc hrd hk
    · cases hc
  case mapEntry t m x =>
    simp only [cOp] at hc
    split at hc
    · rename_i kd kt el a b hp hu ha hb
      split at hc
      · rename_i z hz
        split at hc
        · rename_i hf
          cases hc
          exact sim_ment hop hρ hp hu hz hf ha hb hrd hk
        · cases hc
      · cases hc
    · cases hc
  case entryStore t m s x =>
    simp only [cOp] at hc
    split at hc
    · rename_i a b c ha hb hcc
      cases hc
      exact sim_mset hop hρ ha hb hcc hrd hk
    · cases hc
  case panic x => simp only [cOp] at hc; cases hc; exact absurd hk (by simp [stuckK, kop, KO.ev])
  case makeInterface => simp only [cOp] at hc; cases hc; exact absurd hk (by simp [stuckK, kop, KO.ev])
  case extract x i => exact sim_ext hop hρ hc0 hk
  case call c => exact cCall_sim hn hd hop hc hρ hrd hk
  all_goals simp [cOp] at hc
end Go.Canon
namespace Go.Canon
set_option linter.unusedVariables false
set_option linter.unusedSimpArgs false
open Go
variable {P : Program} {w : World} {μ : M} {ρ : Operand → Value} {o : Oper} {fr : Nat → Value} {h : Heap} {v : Value} {e : Eff} {k : KOp}
/-- What an effect may be. -/
def EffOk (k : KOp) (fr : Nat → Value) (h : Heap) : Eff → Prop
  | .upd b _ | .kill b _ => b ∈ rds k fr ∧ k.mem = true ∧ k.looks = false ∧ ∃ ob, h[b]? = some ob ∧ chg ob = true
  | _ => True
theorem rowSet_inv {h : Heap} {a : Addr} {vs : List Value} {o : CO} (hs : rowSet h a vs = some o) : ∃ ob, h[a.block]? = some ob ∧ chg ob = true ∧ chg o = true := by
  unfold rowSet at hs
  split at hs
  · rename_i cs g hh
    split at hs
    · cases hs; exact ⟨_, hh, rfl, rfl⟩
    · cases hs
  · cases hs
theorem blkOf_add {a : Addr} {n : Nat} : (a.add n).block = a.block := by unfold Addr.add; split <;> rfl
theorem kop_eff (hk : kop k fr h = some (.val v e)) : EffOk k fr h e := by
  cases k
  case st x y n =>
    simp only [kop] at hk
    repeat' split at hk
    all_goals first | (cases hk; done) | skip
    rename_i ob hs
    cases hk
    obtain ⟨q, h1, h2, _⟩ := rowSet_inv hs
    exact ⟨by simp [rds, *, blkOf], rfl, rfl, q, h1, h2⟩
  case app s x sz bytes =>
    simp only [kop, kapp] at hk
    repeat' split at hk
    all_goals first | (cases hk; trivial) | (cases hk; done) | skip
    · rename_i ob hset
      cases hk
      obtain ⟨q, h3, h4, _⟩ := rowSet_inv hset
      rw [blkOf_add] at h3
      exact ⟨by simp [rds, *, blkOf], rfl, rfl, q, h3, h4⟩
    · rename_i hb hz
      cases hk
      exact ⟨by simp [rds, *, blkOf], rfl, rfl, _, hb, rfl⟩
  case cpy d s sz =>
    simp only [kop, kcpy] at hk
    repeat' split at hk
    all_goals first | (cases hk; trivial) | (cases hk; done) | skip
    rename_i ob hset
    cases hk
    obtain ⟨q, h3, h4, _⟩ := rowSet_inv hset
    refine ⟨?_, rfl, rfl, q, h3, h4⟩
    simp only [rds, List.mem_append]
    left
    simp [*, blkOf]
  case clr x z =>
    simp only [kop] at hk
    repeat' split at hk
    all_goals first | (cases hk; trivial) | (cases hk; done) | skip
    rename_i ob hset
    cases hk
    obtain ⟨q, h3, h4, _⟩ := rowSet_inv hset
    exact ⟨by simp [rds, *, blkOf], rfl, rfl, q, h3, h4⟩
  case ins kd m kk vv =>
    simp only [kop] at hk
    repeat' split at hk
    all_goals first | (cases hk; trivial) | (cases hk; done) | skip
    all_goals
      cases hk
      exact ⟨by simp [rds, *, blkOf], rfl, rfl, _, by assumption, rfl⟩
  case ment kd m kk z =>
    simp only [kop] at hk
    repeat' split at hk
    all_goals first | (cases hk; trivial) | (cases hk; done) | skip
    all_goals
      cases hk
      exact ⟨by simp [rds, *, blkOf], rfl, rfl, _, by assumption, rfl⟩
  case mset m ss vv =>
    simp only [kop] at hk
    repeat' split at hk
    all_goals first | (cases hk; trivial) | (cases hk; done) | skip
    all_goals
      cases hk
      exact ⟨by simp [rds, *, blkOf], rfl, rfl, _, by assumption, rfl⟩
  all_goals
    simp only [kop] at hk
    first
      | (cases hk; trivial)
      | (rw [Option.map_eq_some_iff] at hk; obtain ⟨_, _, hk⟩ := hk; cases hk; trivial)
      | (repeat' split at hk
         all_goals first
           | (cases hk; trivial)
           | (cases hk; done)
           | (rw [Option.map_eq_some_iff] at hk; obtain ⟨_, _, hk⟩ := hk; cases hk; trivial))
theorem on_len : h.length ≤ (e.on h).length := by
  cases e <;> simp [Eff.on]
theorem on_len_eq : (e.on h).length = if e.lays then h.length + 1 else h.length := by
  cases e <;> simp [Eff.on, Eff.lays]
/-- The objects that an effect changes. -/
def Eff.at : Eff → Nat → Prop
  | .upd b _, c | .kill b _, c => c = b
  | _, _ => False
theorem on_get {b : Nat} (hb : b < h.length) (hne : ¬ e.at b) : (e.on h)[b]? = h[b]? := by
  cases e with
  | no => rfl
  | new o => exact List.getElem?_append_left hb
  | upd c o => simp only [Eff.at] at hne; simp [Eff.on, List.getElem?_set, Ne.symm hne]
  | kill c o =>
    simp only [Eff.at] at hne
    simp only [Eff.on]
    rw [List.getElem?_append_left (by simpa using hb), List.getElem?_set]
    simp [Ne.symm hne]
theorem on_upd {b : Nat} {ob : CO} (hb : b < h.length) : ((Eff.upd b ob).on h)[b]? = some ob := by simp [Eff.on, hb]
theorem on_kill {b : Nat} {ob : CO} (hb : b < h.length) : ((Eff.kill b ob).on h)[b]? = some .gone := by
  simp only [Eff.on]
  rw [List.getElem?_append_left (by simpa using hb)]
  simp [hb]
theorem on_new {ob : CO} : ((Eff.new ob).on h)[h.length]? = some ob := by simp [Eff.on]
theorem on_kill_new {b : Nat} {ob : CO} : ((Eff.kill b ob).on h)[h.length]? = some ob := by simp [Eff.on]
theorem eff_chg {b : Nat} (he : EffOk k fr h e) (hb : b < h.length) (hc : (e.on h)[b]? ≠ h[b]?) : e.at b ∧ b ∈ rds k fr ∧ k.mem = true ∧ k.looks = false := by
  have hat : e.at b := by
    false_or_by_contra
    rename_i hne
    exact hc (on_get hb hne)
  cases e with
  | no => cases hat
  | new o => cases hat
  | upd c o => cases hat; exact ⟨rfl, he.1, he.2.1, he.2.2.1⟩
  | kill c o => cases hat; exact ⟨rfl, he.1, he.2.1, he.2.2.1⟩
theorem eff_fro {b : Nat} {ob : CO} (he : EffOk k fr h e) (hb : h[b]? = some ob) (hc : chg ob = false) : (e.on h)[b]? = some ob := by
  rw [on_get (List.getElem?_eq_some_iff.1 hb).1, hb]
  intro hat
  cases e with
  | no => cases hat
  | new o => cases hat
  | upd c o => cases hat; obtain ⟨_, _, _, q, h1, h2⟩ := he; rw [hb] at h1; cases h1; rw [hc] at h2; cases h2
  | kill c o => cases hat; obtain ⟨_, _, _, q, h1, h2⟩ := he; rw [hb] at h1; cases h1; rw [hc] at h2; cases h2
/-- What has become of the world: of its blocks only one that an object's is may have changed. -/
structure Wrl (P : Program) (μ : M) (n : Nat) (w : World) (e : Eff) (w' : World) (μ' : M) : Prop where
  le : μ.le μ'
  kin : Kin w w'
  sz : w.heap.size ≤ w'.heap.size
  V : ∀ b, μ'.V b ↔ μ.V b ∨ (e.lays = true ∧ b = n)
  atV : ∀ b, e.at b → μ.V b
  keep : ∀ c, c < w.heap.size → (∀ b, e.at b → c ≠ (μ.f b).1) → w'.heap[c]? = w.heap[c]?
  upd : ∀ b ob, e = .upd b ob → ∃ o', ((μ.f b).1 < w.heap.size → w'.heap[(μ.f b).1]? = some o') ∧ ObR P μ b ob o'
  nw : ∀ ob, (e = .new ob ∨ ∃ b, e = .kill b ob) → ∃ o', ObR P μ' n ob o' ∧
    ((w'.heap[w.heap.size]? = some o' ∧ (μ'.f n).1 = w.heap.size ∧ w.heap.size < w'.heap.size) ∨ ∃ b, e = .kill b ob ∧ (μ'.f n).1 = (μ.f b).1 ∧ ((μ.f b).1 < w.heap.size → w'.heap[(μ.f b).1]? = some o'))
theorem Did.wrl {n : Nat} {w' : World} {μ' : M} (hd : Did P μ n w e w' μ') (hn : e.lays = true → ¬ μ.V n) : Wrl P μ n w e w' μ' := by
  cases hd with
  | no w' hk hh => exact ⟨.refl _, hk, by rw [hh]; exact Nat.le_refl _, by simp [Eff.lays], by simp [Eff.at], fun c _ _ => by rw [hh], by simp, by simp⟩
  | new ob o' z w' hk hh hr =>
    refine ⟨M.le_add (hn rfl), hk, by simp [hh], fun b => by simp [M.add, Eff.lays]; exact or_comm, by simp [Eff.at], fun c hc _ => ?_, by simp, ?_⟩
    · rw [hh, Array.getElem?_push]; simp [Nat.ne_of_lt hc]
    · rintro ob' (h | ⟨b, h⟩)
      · cases h; exact ⟨o', hr, .inl ⟨by simp [hh], by simp, by simp [hh]⟩⟩
      · cases h
  | upd b ob o' w' hV hk hh hr =>
    refine ⟨.refl _, hk, by simp [hh], by simp [Eff.lays], fun c hc => by cases hc; exact hV, fun c hc hne => ?_, ?_, by simp⟩
    · rw [hh, Array.getElem?_setIfInBounds_ne]; exact fun h => hne b rfl h.symm
    · intro b' ob' h; cases h; exact ⟨o', fun hlt => by simp [hh, hlt], hr⟩
  | killN b ob o' z w' hV hk hh hr =>
    refine ⟨M.le_add (hn rfl), hk, by simp [hh], fun b => by simp [M.add, Eff.lays]; exact or_comm, fun c hc => by cases hc; exact hV, fun c hc _ => ?_, by simp, ?_⟩
    · rw [hh, Array.getElem?_push]; simp [Nat.ne_of_lt hc]
    · rintro ob' (h | ⟨b, h⟩)
      · cases h
      · cases h; exact ⟨o', hr, .inl ⟨by simp [hh], by simp, by simp [hh]⟩⟩
  | killI b ob o' s z w' hV hk hh hr =>
    refine ⟨M.le_add (hn rfl), hk, by simp [hh], fun b => by simp [M.add, Eff.lays]; exact or_comm, fun c hc => by cases hc; exact hV, fun c hc hne => ?_, by simp, ?_⟩
    · rw [hh, Array.getElem?_setIfInBounds_ne]; exact fun h => hne b rfl h.symm
    · rintro ob' (h | ⟨b', h⟩)
      · cases h
      · cases h; exact ⟨o', hr, .inr ⟨b, rfl, by simp, fun hlt => by simp [hh, hlt]⟩⟩
structure Stp (μ : M) (h : Heap) (w : World) (μ' : M) (h' : Heap) (w' : World) : Prop where
  le : μ.le μ'
  len : h.length ≤ h'.length
  V : ∀ b : Nat, μ'.V b ↔ μ.V b ∨ (h.length ≤ b ∧ b < h'.length)
  same : ∀ b : Nat, b < h.length → ¬ μ.V b → h'[b]? = h[b]?
  fro : ∀ (b : Nat) o, h[b]? = some o → chg o = false → h'[b]? = some o
  nw : ∀ b : Nat, μ'.V b → ¬ μ.V b → w.heap.size ≤ (μ'.f b).1 ∨ ∃ (c : Nat) (o : CO), μ.V c ∧ h[c]? = some o ∧ chg o = true ∧ (μ'.f b).1 = (μ.f c).1
  frm : Frm μ h w w'
  kin : Kin w w'
theorem Stp.refl (μ : M) (h : Heap) (w : World) : Stp μ h w μ h w :=
  ⟨.refl _, Nat.le_refl _, fun b => ⟨.inl, fun h => h.resolve_right (by omega)⟩, fun _ _ _ => rfl, fun _ _ h _ => h, fun b h h' => absurd h h', ⟨Nat.le_refl _, fun _ _ _ => rfl⟩, .refl _⟩
theorem Stp.trans {μ μ' μ'' : M} {h h' h'' : Heap} {w w' w'' : World} (hlt : ∀ b, μ.V b → b < h.length) (a : Stp μ h w μ' h' w') (b : Stp μ' h' w' μ'' h'' w'') : Stp μ h w μ'' h'' w'' := by
  have hnw : ∀ x, μ''.V x → ¬ μ.V x → w.heap.size ≤ (μ''.f x).1 ∨ ∃ (c : Nat) (o : CO), μ.V c ∧ h[c]? = some o ∧ chg o = true ∧ (μ''.f x).1 = (μ.f c).1 := by
    have old : ∀ x, μ'.V x → ¬ μ.V x → w.heap.size ≤ (μ''.f x).1 ∨ ∃ (c : Nat) (o : CO), μ.V c ∧ h[c]? = some o ∧ chg o = true ∧ (μ''.f x).1 = (μ.f c).1 := fun x hx hx0 => by
      rw [b.le.f x hx]; exact a.nw x hx hx0
    intro x hx hx0
    by_cases hx1 : μ'.V x
    · exact old x hx1 hx0
    · rcases b.nw x hx hx1 with hh | ⟨c, o, hc, ho, hch, hf⟩
      · exact .inl (Nat.le_trans a.frm.1 hh)
      · by_cases hc0 : μ.V c
        · refine .inr ⟨c, ?_⟩
          cases hq : h[c]? with
          | none => have := hlt c hc0; simp at hq; omega
          | some q =>
            refine ⟨q, hc0, rfl, ?_, by rw [hf, a.le.f c hc0]⟩
            cases hcq : chg q with
            | true => rfl
            | false => have := a.fro c q hq hcq; rw [ho] at this; cases this; rw [hcq] at hch; cases hch
        · rw [hf]; rw [← b.le.f c hc]; exact old c hc hc0
  refine ⟨a.le.trans b.le, Nat.le_trans a.len b.len, fun x => ?_, fun x hx hV => ?_, fun x o ho hc => b.fro x o (a.fro x o ho hc) hc, hnw, ⟨Nat.le_trans a.frm.1 b.frm.1, fun c hc hfr => ?_⟩, a.kin.trans b.kin⟩
  · rw [b.V, a.V]
    have := a.len; have := b.len
    constructor
    · rintro ((hh | hh) | hh)
      · exact .inl hh
      · exact .inr (by omega)
      · exact .inr (by omega)
    · rintro (hh | hh)
      · exact .inl (.inl hh)
      · by_cases hx : x < h'.length
        · exact .inl (.inr ⟨hh.1, hx⟩)
        · exact .inr (by omega)
  · have hV' : ¬ μ'.V x := by rw [a.V]; rintro (hh | hh); exact hV hh; omega
    rw [b.same x (Nat.lt_of_lt_of_le hx a.len) hV', a.same x hx hV]
  · rw [b.frm.2 c (Nat.lt_of_lt_of_le hc a.frm.1) ?_, a.frm.2 c hc hfr]
    intro x o hx ho hf
    cases hch : chg o with
    | false => rfl
    | true =>
      by_cases hx0 : μ.V x
      · cases hq : h[x]? with
        | none => have := hlt x hx0; simp at hq; omega
        | some q =>
          have hcq := hfr x q hx0 hq (by rw [← a.le.f x hx0]; exact hf)
          have := a.fro x q hq hcq
          rw [ho] at this; cases this; rw [hch] at hcq; cases hcq
      · rcases a.nw x hx hx0 with hh | ⟨c', q, hc', hq, hcq, hf'⟩
        · rw [hf] at hh; omega
        · have := hfr c' q hc' hq (by rw [← hf', hf]); rw [hcq] at this; cases this
end Go.Canon
namespace Go.Canon
set_option linter.unusedVariables false
set_option linter.unusedSimpArgs false
open Go
variable {P : Program} {w w' : World} {μ μ' : M} {fr : Nat → Value} {h : Heap} {e : Eff} {k : KOp}
theorem chg_live {o : CO} (hc : chg o = true) : live o = true := by cases o <;> first | rfl | (simp [chg] at hc; done)
/-- An object that an effect changes was live. -/
theorem at_chg {b : Nat} (he : EffOk k fr h e) (hat : e.at b) : ∃ ob, h[b]? = some ob ∧ chg ob = true := by
  cases e with
  | no => cases hat
  | new o => cases hat
  | upd c o => cases hat; obtain ⟨_, _, _, q, h1, h2⟩ := he; exact ⟨q, h1, h2⟩
  | kill c o => cases hat; obtain ⟨_, _, _, q, h1, h2⟩ := he; exact ⟨q, h1, h2⟩
theorem on_live {b : Nat} {o : CO} (he : EffOk k fr h e) (hb : b < h.length) (ho : (e.on h)[b]? = some o) (hl : live o = true) : ∃ q, h[b]? = some q ∧ live q = true ∧ ∀ o2, e ≠ .kill b o2 := by
  have hk : ∀ o2, e ≠ .kill b o2 := fun o2 hh => by
    subst hh
    rw [on_kill hb] at ho; cases ho; cases hl
  by_cases hat : e.at b
  · obtain ⟨q, hq, hc⟩ := at_chg he hat
    exact ⟨q, hq, chg_live hc, hk⟩
  · rw [on_get hb hat] at ho; exact ⟨o, ho, hl, hk⟩
theorem lays_new {h : Heap} {b : Nat} {o : CO} (hb : ¬ b < h.length) (ho : (e.on h)[b]? = some o) : b = h.length ∧ (e = .new o ∨ ∃ c, e = .kill c o) := by
  have hlt : b < (e.on h).length := (List.getElem?_eq_some_iff.1 ho).1
  rw [on_len_eq] at hlt
  cases e with
  | no => simp [Eff.lays] at hlt; omega
  | upd => simp [Eff.lays] at hlt; omega
  | new ob =>
    simp [Eff.lays] at hlt
    obtain rfl : b = h.length := by omega
    rw [on_new] at ho; cases ho
    exact ⟨rfl, .inl rfl⟩
  | kill c ob =>
    simp [Eff.lays] at hlt
    obtain rfl : b = h.length := by omega
    rw [on_kill_new] at ho; cases ho
    exact ⟨rfl, .inr ⟨c, rfl⟩⟩
theorem lays_at {h : Heap} (hl : e.lays = true) : ∃ o, (e.on h)[h.length]? = some o ∧ (e = .new o ∨ ∃ c, e = .kill c o) := by
  cases e with
  | no => cases hl
  | upd => cases hl
  | new ob => exact ⟨ob, on_new, .inl rfl⟩
  | kill c ob => exact ⟨ob, on_kill_new, .inr ⟨c, rfl⟩⟩
theorem some_of_lt {w : World} {i : Nat} (hi : i < w.heap.size) : ∃ o, w.heap[i]? = some o := ⟨w.heap[i], Array.getElem?_eq_getElem hi⟩
theorem wrl_stp (hwr : WR P μ h w) (hr : Wrl P μ h.length w e w' μ') (he : EffOk k fr h e) : Stp μ h w μ' (e.on h) w' where
  le := hr.le
  len := on_len
  V := fun b => by
    rw [hr.V, on_len_eq]
    cases hl : e.lays
    · simp only [Bool.false_eq_true, false_and, if_false]
      exact or_congr_right ⟨fun h => h.elim, fun h => by omega⟩
    · simp only [true_and, if_true]
      exact or_congr_right ⟨fun h => by omega, fun h => by omega⟩
  same := fun b hb hV => on_get hb (fun hat => hV (hr.atV b hat))
  fro := fun b o ho hc => eff_fro he ho hc
  nw := fun b hb hb0 => by
    rw [hr.V] at hb
    obtain ⟨hl, rfl⟩ := hb.resolve_left hb0
    obtain ⟨o, ho, hk⟩ := lays_at (h := h) hl
    obtain ⟨o', _, hh⟩ := hr.nw o hk
    rcases hh with ⟨_, hf, _⟩ | ⟨c, hc, hf, _⟩
    · exact .inl (by rw [hf]; exact Nat.le_refl _)
    · obtain ⟨q, hq, hch⟩ := at_chg (b := c) he (by rw [hc]; rfl)
      exact .inr ⟨c, q, hr.atV c (by rw [hc]; rfl), hq, hch, hf⟩
  frm := ⟨hr.sz, fun c hc hfr => hr.keep c hc fun b hat hcb => by
    obtain ⟨q, hq, hch⟩ := at_chg he hat
    have := hfr b q (hr.atV b hat) hq hcb.symm
    rw [hch] at this; cases this⟩
  kin := hr.kin
theorem wrl_wr (hwr : WR P μ h w) (hr : Wrl P μ h.length w e w' μ') (he : EffOk k fr h e) : WR P μ' (e.on h) w' := by
  have hS := wrl_stp hwr hr he
  have hVlt : ∀ b, b < h.length → μ'.V b → μ.V b := fun b hb hV => ((hr.V b).1 hV).resolve_right (fun ⟨_, hh⟩ => by omega)
  have hbd : ∀ b, μ'.V b → (μ'.f b).1 < w'.heap.size := fun b hV => by
    by_cases hb0 : μ.V b
    · rw [hr.le.f b hb0]; exact Nat.lt_of_lt_of_le (hwr.bd b hb0) hr.sz
    · obtain ⟨hl, rfl⟩ := ((hr.V b).1 hV).resolve_left hb0
      obtain ⟨o, ho, hk⟩ := lays_at (h := h) hl
      obtain ⟨o', _, hh⟩ := hr.nw o hk
      rcases hh with ⟨_, hf, hlt⟩ | ⟨c, hc, hf, _⟩
      · rw [hf]; exact hlt
      · rw [hf]; exact Nat.lt_of_lt_of_le (hwr.bd c (hr.atV c (by rw [hc]; rfl))) hr.sz
  have hddl : μ.d < h.length := (List.getElem?_eq_some_iff.1 hwr.dd).1
  refine ⟨fun b o hV ho => ?_, ?_, hbd, fun b hV => ?_, ?_, ?_, fun g hg => ⟨hr.le.V g (hwr.gl g hg).1, (hr.le.f g (hwr.gl g hg).1).trans (hwr.gl g hg).2⟩⟩
  · by_cases hb : b < h.length
    · have hV0 := hVlt b hb hV
      rw [hr.le.f b hV0]
      by_cases hat : e.at b
      · cases e with
        | no => cases hat
        | new o => cases hat
        | upd c ob =>
          cases hat
          rw [on_upd hb] at ho; cases ho
          obtain ⟨o', h1, h2⟩ := hr.upd b o rfl
          exact ⟨o', h1 (hwr.bd b hV0), h2.mono hr.le hV0⟩
        | kill c ob =>
          cases hat
          rw [on_kill hb] at ho; cases ho
          obtain ⟨o', h1⟩ := some_of_lt (Nat.lt_of_lt_of_le (hwr.bd b hV0) hr.sz)
          exact ⟨o', h1, trivial⟩
      · rw [on_get hb hat] at ho
        cases hl : live o with
        | false =>
          have : o = .gone := by cases o <;> first | rfl | cases hl
          subst this
          obtain ⟨o', h1⟩ := some_of_lt (Nat.lt_of_lt_of_le (hwr.bd b hV0) hr.sz)
          exact ⟨o', h1, trivial⟩
        | true =>
          obtain ⟨o', h1, h2⟩ := hwr.ob b o hV0 ho
          refine ⟨o', ?_, h2.mono hr.le hV0⟩
          rw [hr.keep _ (hwr.bd b hV0) ?_, h1]
          intro c hc hfc
          obtain ⟨q, hq, hch⟩ := at_chg he hc
          have := hwr.inj b c o q hV0 (hr.atV c hc) ho hq hl (chg_live hch) hfc
          exact hat (this ▸ hc)
    · obtain ⟨rfl, hk⟩ := lays_new hb ho
      obtain ⟨o', hor, hh⟩ := hr.nw o hk
      refine ⟨o', ?_, hor⟩
      rcases hh with ⟨h1, hf, hlt⟩ | ⟨c, hc, hf, h1⟩
      · rw [hf]; exact h1
      · rw [hf]; exact h1 (hwr.bd c (hr.atV c (by rw [hc]; rfl)))
  · -- none that lives shares its block
    have mixed : ∀ (b c : Nat) (o q : CO), μ'.V b → μ'.V c → (e.on h)[b]? = some o → (e.on h)[c]? = some q → live o = true → live q = true → (μ'.f b).1 = (μ'.f c).1 → b < h.length → ¬ c < h.length → False := by
      intro b c o q hVb hVc ho hq hlo hlq hf hb hc
      have hV0 := hVlt b hb hVb
      obtain ⟨rfl, hk⟩ := lays_new hc hq
      obtain ⟨o', hor, hh⟩ := hr.nw q hk
      rw [hr.le.f b hV0] at hf
      obtain ⟨q0, hq0, hl0, hnk⟩ := on_live he hb ho hlo
      rcases hh with ⟨h1, hf2, hlt⟩ | ⟨c, hc, hf2, h1⟩
      · have := hwr.bd b hV0; rw [hf, hf2] at this; omega
      · obtain ⟨q1, hq1, hch⟩ := at_chg (b := c) he (by rw [hc]; rfl)
        have := hwr.inj b c q0 q1 hV0 (hr.atV c (by rw [hc]; rfl)) hq0 hq1 hl0 (chg_live hch) (by rw [hf, hf2])
        subst this
        exact hnk _ hc
    intro b c o q hVb hVc ho hq hlo hlq hf
    by_cases hb : b < h.length
    · by_cases hc : c < h.length
      · have hV0 := hVlt b hb hVb
        have hV1 := hVlt c hc hVc
        obtain ⟨o1, h1, h2, _⟩ := on_live he hb ho hlo
        obtain ⟨q1, h3, h4, _⟩ := on_live he hc hq hlq
        rw [hr.le.f b hV0, hr.le.f c hV1] at hf
        exact hwr.inj b c o1 q1 hV0 hV1 h1 h3 h2 h4 hf
      · exact (mixed b c o q hVb hVc ho hq hlo hlq hf hb hc).elim
    · by_cases hc : c < h.length
      · exact (mixed c b q o hVc hVb hq ho hlq hlo hf.symm hc hb).elim
      · rw [(lays_new hb ho).1, (lays_new hc hq).1]
  · rw [hS.V] at hV
    rcases hV with hV | hV
    · exact Nat.lt_of_lt_of_le (hwr.lt b hV) on_len
    · exact hV.2
  · rw [hr.le.d, hr.V]
    rintro (hh | ⟨_, hh⟩)
    · exact hwr.nd hh
    · omega
  · rw [hr.le.d]; exact hS.fro _ _ hwr.dd rfl
end Go.Canon
namespace Go.Canon
set_option linter.unusedVariables false
set_option linter.unusedSimpArgs false
open Go
variable {P : Program} {w w' : World} {μ μ' : M} {fr : Nat → Value} {h h' : Heap} {e : Eff} {k : KOp}
theorem wr_upd {b : Nat} {ob o : CO} {o' : Obj} (hw : WR P μ h w) (hV : μ.V b) (hb : h[b]? = some ob) (hc : chg ob = true) (hr : ObR P μ b o o') :
    WR P μ (h.set b o) (w.putObj (μ.f b).1 o') ∧ Stp μ h w μ (h.set b o) (w.putObj (μ.f b).1 o') := by
  have he : EffOk (.clr (.c (.map (some b))) []) (fun _ => undef) h (.upd b o) := ⟨by simp [rds, KO.ev, blkOf], rfl, rfl, ob, hb, hc⟩
  have hd : Did P μ h.length w (.upd b o) (w.putObj (μ.f b).1 o') μ := .upd b o o' _ hV ⟨rfl, rfl, rfl⟩ rfl hr
  have hl := hd.wrl (fun h => by cases h)
  exact ⟨wrl_wr hw hl he, wrl_stp hw hl he⟩
theorem wr_new {o : CO} {o' : Obj} {z : Option (Nat × Nat)} (hw : WR P μ h w) (hr : ObR P (μ.add h.length (w.heap.size, 0) z) h.length o o') :
    WR P (μ.add h.length (w.heap.size, 0) z) (h ++ [o]) (w.alloc o') ∧ Stp μ h w (μ.add h.length (w.heap.size, 0) z) (h ++ [o]) (w.alloc o') := by
  have he : EffOk (.mv (.c undef)) (fun _ => undef) h (.new o) := trivial
  have hd : Did P μ h.length w (.new o) (w.alloc o') (μ.add h.length (w.heap.size, 0) z) := .new o o' z _ ⟨rfl, rfl, rfl⟩ rfl hr
  have hl := hd.wrl (fun _ hV => Nat.lt_irrefl _ (hw.lt _ hV))
  exact ⟨wrl_wr hw hl he, wrl_stp hw hl he⟩
/-- The world's counter alone. -/
theorem wr_drew (hw : WR P μ h w) (k : Nat) : WR P μ h { w with drawn := k } ∧ Stp μ h w μ h { w with drawn := k } :=
  ⟨⟨hw.ob, hw.inj, hw.bd, hw.lt, hw.nd, hw.dd, hw.gl⟩, ⟨.refl _, Nat.le_refl _, fun b => ⟨.inl, fun h => h.resolve_right (by omega)⟩, fun _ _ _ => rfl, fun _ _ h _ => h, fun b h h' => absurd h h', ⟨Nat.le_refl _, fun _ _ _ => rfl⟩, ⟨rfl, rfl, rfl⟩⟩⟩
theorem frel_put {nt : Nat} {a : Act} {v v' : Value} {dst : Option Tmp} (hf : FRel μ nt fr a.tmps) (hv : VRel μ v v') (hd : ∀ d, dst = some d → d < nt) : FRel μ nt (put fr dst v) (a.put dst v').tmps := by
  cases dst with
  | none => exact hf
  | some d =>
    refine ⟨by simp [Act.put, hf.1], fun t => ?_⟩
    have hdl := hd d rfl
    simp only [put, Act.put]
    by_cases ht : t = d
    · subst ht
      rw [if_pos rfl]
      have : (a.tmps.setIfInBounds t v').getD t undef = v' := by
        simp [Array.getD_eq_getD_getElem?, hf.1, hdl]
      rw [this]; exact hv
    · rw [if_neg ht]
      have : (a.tmps.setIfInBounds d v').getD t undef = a.tmps.getD t undef := by
        simp [Array.getD_eq_getD_getElem?, Array.getElem?_setIfInBounds_ne (Ne.symm ht)]
      rw [this]; exact hf.2 t
theorem put_defers {a : Act} {v : Value} {dst : Option Tmp} : (a.put dst v).defers = a.defers := by cases dst <;> rfl
theorem frel_operand {nt : Nat} {a : Act} (hG : ∀ g, g < gN → μ.V g ∧ μ.f g = (g, 0)) (hf : FRel μ nt fr a.tmps) {x : Operand} {kx : KO} (hx : cO x = some kx) : VRel μ (kx.ev fr) (a.eval x) := by
  unfold cO at hx
  split at hx
  · cases hx; exact hf.2 _
  · split at hx
    · rename_i hfl; cases hx; exact vrel_flat2 hfl
    · cases hx
  · cases hx; exact .flat _ (by rfl)
  · split at hx
    · rename_i g hg
      cases hx
      have := VRel.ptr (μ := μ) g 0 (hG g hg).1
      rw [(hG g hg).2] at this
      exact this
    · cases hx
theorem frel_rho {nt : Nat} {a : Act} (hG : ∀ g, g < gN → μ.V g ∧ μ.f g = (g, 0)) (hf : FRel μ nt fr a.tmps) (op : Op) : Rho μ op fr a.eval := fun x _ kx hx => frel_operand hG hf hx
theorem frel_enter {np nt : Nat} {args : List Value} {args' : Array Value} (hl : args.length = np) (hle : np ≤ nt) (hv : VRels μ args args'.toList) :
    FRel μ nt (frOf args) (args' ++ Array.replicate (nt - args'.size) undef) := by
  have hs : args'.size = args.length := by have := hv.1; simpa using this.symm
  refine ⟨by simp; omega, fun t => ?_⟩
  simp only [frOf]
  by_cases ht : t < args.length
  · have h1 : args.getD t undef = args[t] := by simp [List.getD_eq_getElem?_getD, ht]
    have h2 : (args' ++ Array.replicate (nt - args'.size) undef).getD t undef = args'[t]'(by omega) := by
      simp [Array.getD_eq_getD_getElem?, Array.getElem?_append, hs, ht]
    rw [h1, h2]
    exact hv.2 t _ _ (List.getElem?_eq_getElem ht) (by simp [hs, ht])
  · have h1 : args.getD t undef = undef := by simp [List.getD_eq_getElem?_getD, Nat.le_of_not_lt ht]
    have h2 : (args' ++ Array.replicate (nt - args'.size) undef).getD t undef = undef := by
      simp only [Array.getD_eq_getD_getElem?, Array.getElem?_append, hs, ht, if_false, Array.getElem?_replicate]
      split <;> rfl
    rw [h1, h2]
    exact vrel_undef μ
end Go.Canon
namespace Go.Canon
set_option linter.unusedVariables false
set_option linter.unusedSimpArgs false
open Go
open Classical
variable {P : Program} {w w' : World} {μ μ' : M} {fr : Nat → Value} {h h' : Heap} {e : Eff} {k : KOp} {n : Nat}
/-- How a call is to end. -/
def Res (P : Program) (μ : M) (h : Heap) (w : World) (v : Value) (h' : Heap) : Ending → World → Prop :=
  fun e w' => ∃ v' μ', e = .returned v' ∧ Stp μ h w μ' h' w' ∧ WR P μ' h' w' ∧ VRel μ' v v'
def OKCall (P : Program) (n : Nat) : Prop := ∀ f args h v h', kcall (tab P) n f args h = some (v, h') →
  ∀ (μ : M) (w : World) (args' : Array Value) (N : Nat), WR P μ h w → VRels μ args args'.toList → CallsIn Fence.wide N P f args' w (Res P μ h w v h')
def OKRound (P : Program) (n : Nat) : Prop := ∀ l args h v h', kround (tab P) n l args h = some (v, h') →
  ∀ (μ : M) (w : World) (args' : Array Value) (N : Nat), WR P μ h w → μ.V l → VRels μ args args'.toList →
    ∃ r : Loop, w.heap[(μ.f l).1]? = some (.loop r) ∧ args'.size = r.params.size ∧
      RoundIn Fence.wide N P (μ.f l).1 r.fn ((r.params.zip args').foldl (fun tmps (t, a) => tmps.setIfInBounds t a) r.tmps) r.assign r.body w (Res P μ h w v h')
/-- The fences in which code runs: a function's, a round's. -/
def IsF (F : Fence) : Prop := F = Fence.wide ∨ ∃ l, F = Fence.wide.inRound l
theorem IsF.fn {F : Fence} (h : IsF F) (f : FuncId) : F.fn f := by rcases h with rfl | ⟨l, rfl⟩ <;> trivial
theorem IsF.depth {F : Fence} (h : IsF F) : F.depth = none := by rcases h with rfl | ⟨l, rfl⟩ <;> rfl
theorem IsF.calls {F : Fence} (h : IsF F) {N : Nat} {f : FuncId} {args : Array Value} {R : Ending → World → Prop} (hc : CallsIn Fence.wide N P f args w R) : CallsIn F N P f args w R := by
  rcases h with rfl | ⟨l, rfl⟩
  · exact hc
  · exact hc
theorem IsF.round {F : Fence} (h : IsF F) {N l : Nat} {f : FuncId} {tmps : Array Value} {A B : Code} {R : Ending → World → Prop} (hc : RoundIn Fence.wide N P l f tmps A B w R) : RoundIn F N P l f tmps A B w R := by
  rcases h with rfl | ⟨l, rfl⟩
  · exact hc
  · exact hc
theorem tab_inv {f : Nat} {k : KFunc} (h : tab P f = some k) (hi : ¬ isIns k.body = true) : ∃ fn c, P.funcs[f]? = some fn ∧ fn.body = some c ∧ cC P fn.ntmps c = some k.body ∧ fn.results.toList.mapM (cRes P) = some k.res ∧ k.nt = fn.ntmps ∧ k.np ≤ fn.ntmps ∧ (fn.name == "runtime.NumGoroutine") = false := by
  unfold tab at h
  cases hf : P.funcs[f]? with
  | none => rw [hf] at h; cases h
  | some fn =>
    rw [hf] at h
    simp only [Option.bind_some] at h
    split at h
    · split at h
      · cases h; exact (hi rfl).elim
      · cases h
    have h2 : cF P fn = some k := by
      split at h
      · rename_i k' hk
        split at h
        · cases h
        · cases h; exact hk
      · cases h
    replace h := h2
    clear h2
    simp only [cF] at h
    split at h
    · cases h
    · rename_i c hb
      split at h
      · rename_i kc r hc hr
        split at h
        · rename_i hcond
          cases h
          simp only [Bool.and_eq_true, decide_eq_true_eq, Bool.not_eq_true'] at hcond
          exact ⟨fn, c, rfl, hb, hc, hr, rfl, hcond.1, hcond.2⟩
        · cases h
      · cases h
/-- The one function that is told of as one piece. -/
theorem tab_ins {f : Nat} {k : KFunc} (h : tab P f = some k) (hi : isIns k.body = true) : k = insK ∧ ∃ fn, P.funcs[f]? = some fn ∧ fn.name = insN ∧ insOkF fn = true := by
  unfold tab at h
  cases hf : P.funcs[f]? with
  | none => rw [hf] at h; cases h
  | some fn =>
    rw [hf] at h
    simp only [Option.bind_some] at h
    split at h
    · rename_i hn
      split at h
      · rename_i ho
        cases h
        exact ⟨rfl, fn, rfl, by simpa using hn, ho⟩
      · cases h
    · split at h
      · split at h
        · cases h
        · rename_i hn; cases h; exact (hn hi).elim
      · cases h
theorem run_enterFn {f : Nat} {k : KFunc} {args : Array Value} (h : tab P f = some k) : (callFunc f args).run P w = .ok (.enter f args) w := by
  by_cases hi : isIns k.body = true
  · obtain ⟨_, fn, hf, _, ho⟩ := tab_ins h hi
    simp only [insOkF, Bool.and_eq_true, Bool.not_eq_true'] at ho
    obtain ⟨c, hb⟩ := Option.isSome_iff_exists.1 ho.1
    simp only [callFunc, Sem.run_bind, run_program, Result.andThen_ok, hf, ho.2, hb, Option.isNone_some, Bool.false_eq_true, if_false, Sem.run_pure]
  · obtain ⟨fn, c, hf, hb, _, _, _, _, hn⟩ := tab_inv h hi
    simp only [callFunc, Sem.run_bind, run_program, Result.andThen_ok, hf, hn, hb, Option.isNone_some, Bool.false_eq_true, if_false, Sem.run_pure]
theorem cOp_call {op : Op} {g : KO} {l : List KO} (hc : cOp P op = some (.call g l)) : ∃ c f, op = .call c ∧ c.callee = .value f ∧ cO f = some g ∧ cOs c.args.toList = some l := by
  have hno : ∀ {x : Option KO} {f : KO → KOp}, x.map f = some (.call g l) → (∀ a, f a ≠ .call g l) → False := fun hx hf => by
    rw [Option.map_eq_some_iff] at hx
    obtain ⟨a, _, ha⟩ := hx
    exact hf a ha
  cases op
  case call c =>
    simp only [cOp, cCall] at hc
    split at hc
    · rename_i f hcal
      split at hc
      · rename_i a b ha hb
        cases hc
        exact ⟨c, f, rfl, hcal, ha, hb⟩
      · cases hc
    · cases hc
    · repeat' split at hc
      all_goals first
        | (cases hc; done)
        | exact (hno hc (fun a => by simp)).elim
        | (rw [Option.map_eq_some_iff] at hc; obtain ⟨_, _, hc⟩ := hc; cases hc)
  case unOp op _ _ =>
    cases op <;> first
      | (simp only [cOp] at hc; exact (hno hc (fun a => by simp)).elim)
      | (simp [cOp] at hc)
  case makeFunc t p q =>
    cases t <;> simp only [cOp] at hc <;> first | (cases hc; done) | (split at hc <;> cases hc)
  case makeMap t r => cases r <;> simp only [cOp] at hc <;> first | (cases hc; done) | (split at hc <;> cases hc)
  case binOp op t x y yt =>
    simp only [cOp, cBin] at hc
    repeat' split at hc
    all_goals first | (cases hc; done) | skip
    all_goals
      simp only [cNil] at hc
      repeat' split at hc
      all_goals cases hc
  all_goals
    simp only [cOp] at hc
    first
      | (cases hc; done)
      | exact (hno hc (fun a => by simp)).elim
      | (rw [Option.map_eq_some_iff] at hc; obtain ⟨_, _, hc⟩ := hc; cases hc; done)
      | (repeat' split at hc
         all_goals first
           | (cases hc; done)
           | (rw [Option.map_eq_some_iff] at hc; obtain ⟨_, _, hc⟩ := hc; cases hc))
theorem kop_call_inv {f : Nat} {args : List Value} (hk : kop k fr h = some (.call f args)) : ∃ g l a b, k = .call g l ∧ g.ev fr = .func (.func f) a b ∧ args = a.toList ++ l.map (·.ev fr) ++ b.toList := by
  cases k
  case call g l =>
    simp only [kop] at hk
    split at hk
    · rename_i g' a b hg
      cases hk
      exact ⟨g, l, a, b, rfl, hg, rfl⟩
    · split at hk <;> cases hk
    · cases hk
  all_goals
    simp only [kop, kapp, kcpy] at hk
    first
      | (cases hk; done)
      | (rw [Option.map_eq_some_iff] at hk; obtain ⟨_, _, hk⟩ := hk; cases hk; done)
      | (repeat' split at hk
         all_goals first
           | (cases hk; done)
           | (rw [Option.map_eq_some_iff] at hk; obtain ⟨_, _, hk⟩ := hk; cases hk))
theorem kop_yield_inv {f : Nat} {args : List Value} (hk : kop k fr h = some (.yield f args)) : ∃ g l a b, k = .call g l ∧ g.ev fr = .func (.yield f) a b ∧ a.isEmpty = true ∧ args = l.map (·.ev fr) := by
  cases k
  case call g l =>
    simp only [kop] at hk
    split at hk
    · cases hk
    · rename_i g' a b hg
      split at hk
      · rename_i ha
        cases hk
        exact ⟨g, l, a, _, rfl, hg, ha, rfl⟩
      · cases hk
    · cases hk
  all_goals
    simp only [kop, kapp, kcpy] at hk
    first
      | (cases hk; done)
      | (rw [Option.map_eq_some_iff] at hk; obtain ⟨_, _, hk⟩ := hk; cases hk; done)
      | (repeat' split at hk
         all_goals first
           | (cases hk; done)
           | (rw [Option.map_eq_some_iff] at hk; obtain ⟨_, _, hk⟩ := hk; cases hk))
theorem vrel_func {g : Nat} {p q : Array Value} {v' : Value} (h : VRel μ (.func (.func g) p q) v') : ∃ p' q', v' = .func (.func g) p' q' ∧ VRels μ p.toList p'.toList ∧ VRels μ q.toList q'.toList := by
  cases h with
  | flat _ h =>
    simp only [flat0, Bool.and_eq_true, Array.isEmpty_iff] at h
    obtain ⟨rfl, rfl⟩ := h
    exact ⟨#[], #[], rfl, .nil μ, .nil μ⟩
  | fn g p q p' q' hp hq h1 h2 => exact ⟨p', q', rfl, vrels_of_arr hp h1, vrels_of_arr hq h2⟩
theorem vrel_yield {l : Nat} {p q : Array Value} {v' : Value} (h : VRel μ (.func (.yield l) p q) v') : p = #[] ∧ q = #[] ∧ μ.V l ∧ (μ.f l).2 = 0 ∧ v' = .func (.yield (μ.f l).1) #[] #[] := by
  cases h with
  | flat _ h => simp [flat0] at h
  | yl l hV hs => exact ⟨rfl, rfl, hV, hs, rfl⟩
theorem no_defer {op : Op} (hc : cOp P op = some k) : ∀ c, op ≠ .defer c := fun c hop => by subst hop; simp [cOp] at hc
/-- What a call comes to, as an operation. -/
theorem call_op {o : Oper} {a : Act} {f : Nat} {args : List Value} {N : Nat} {F : Fence} {v : Value} (hF : IsF F) (hC : OKCall P n) (hc : cOp P o.op = some k) (hk : kop k fr h = some (.call f args)) (hkc : kcall (tab P) n f args h = some (v, h'))
    (hw : WR P μ h w) (hρ : Rho μ o.op fr a.eval) {K : Act → World → Prop} {Q : Exit → Act → World → Prop}
    (next : ∀ μ' w' v', Stp μ h w μ' h' w' → WR P μ' h' w' → VRel μ' v v' → K (a.put o.dst v') w') : o.wpIn F N P a w K Q := by
  obtain ⟨g, l, p, q, rfl, hg, rfl⟩ := kop_call_inv hk
  obtain ⟨c, fo, hop, hcal, hgo, hlo⟩ := cOp_call hc
  refine ⟨fun f _ => hF.fn f, ?_⟩
  rw [Oper.semAt_eq _ _ _ (no_defer hc)]
  have hgv := hρ fo (by rw [hop]; simp [Op.operands, Call.operands, hcal]) g hgo
  rw [hg] at hgv
  obtain ⟨p', q', hgv', hp, hq⟩ := vrel_func hgv
  have hl := vrels_ops (μ := μ) (fr := fr) (ρ := a.eval) hlo (fun x hx kx hkx => hρ x (by rw [hop]; simp only [Op.operands, Call.operands, hcal]; first | (simp; exact .inr (by simpa using hx)) | (simp; exact .inl (by simpa using hx))) kx hkx)
  obtain ⟨kf, hkf⟩ : ∃ kf, tab P f = some kf := by
    cases n with
    | zero => simp [kcall] at hkc
    | succ n =>
      unfold kcall at hkc
      cases ht : tab P f with
      | none => rw [ht] at hkc; cases hkc
      | some kf => exact ⟨kf, rfl⟩
  have hrun : (execOp a.eval o).run P w = .ok (.enter f (p' ++ c.args.map a.eval ++ q')) w := by
    simp only [execOp, hop, resolve, hcal, hgv', Deferred.ofValue, invoke, Sem.run_bind, Sem.run_pure, Result.andThen_ok, run_enterFn hkf]
  rw [hrun, Oper.uponIn_enter]
  refine ⟨fun hh => (by rw [hF.depth] at hh; cases hh), (hF.calls (hC f _ h v h' hkc μ w _ (N - 1) hw ?_)).mono ?_⟩
  · have := (hp.append hl).append hq
    simpa using this
  · rintro e w'' ⟨v', μ', rfl, hs, hw', hv⟩
    exact next μ' w'' v' hs hw' hv
/-- What a round that is asked for comes to, as an operation. -/
theorem yield_op {o : Oper} {a : Act} {f : Nat} {args : List Value} {N : Nat} {F : Fence} {v : Value} (hF : IsF F) (hC : OKRound P n) (hc : cOp P o.op = some k) (hk : kop k fr h = some (.yield f args)) (hkc : kround (tab P) n f args h = some (v, h'))
    (hw : WR P μ h w) (hρ : Rho μ o.op fr a.eval) {K : Act → World → Prop} {Q : Exit → Act → World → Prop}
    (next : ∀ μ' w' v', Stp μ h w μ' h' w' → WR P μ' h' w' → VRel μ' v v' → K (a.put o.dst v') w') : o.wpIn F N P a w K Q := by
  obtain ⟨g, l, p, q, rfl, hg, hpe, rfl⟩ := kop_yield_inv hk
  obtain ⟨c, fo, hop, hcal, hgo, hlo⟩ := cOp_call hc
  refine ⟨fun f _ => hF.fn f, ?_⟩
  rw [Oper.semAt_eq _ _ _ (no_defer hc)]
  have hgv := hρ fo (by rw [hop]; simp [Op.operands, Call.operands, hcal]) g hgo
  rw [hg] at hgv
  obtain ⟨rfl, rfl, hV, hs0, hgv'⟩ := vrel_yield hgv
  have hl := vrels_ops (μ := μ) (fr := fr) (ρ := a.eval) hlo (fun x hx kx hkx => hρ x (by rw [hop]; simp only [Op.operands, Call.operands, hcal]; first | (simp; exact .inr (by simpa using hx)) | (simp; exact .inl (by simpa using hx))) kx hkx)
  obtain ⟨r, hr, hsz, hround⟩ := hC f _ h v h' hkc μ w (c.args.map a.eval) (N - 1) hw hV (by simpa using hl)
  have hrun : (execOp a.eval o).run P w = .ok (.round (μ.f f).1 r.fn ((r.params.zip (c.args.map a.eval)).foldl (fun tmps (t, a) => tmps.setIfInBounds t a) r.tmps) r.assign r.body) w := by
    simp only [execOp, hop, resolve, hcal, hgv', Deferred.ofValue, invoke, Sem.run_bind, Sem.run_pure, Result.andThen_ok, Array.empty_append, run_yield hr hsz]
  rw [hrun, Oper.uponIn_round]
  refine ⟨fun hh => (by rw [hF.depth] at hh; cases hh), (hF.round hround).mono ?_⟩
  rintro e w'' ⟨v', μ', rfl, hs, hw', hv⟩
  exact next μ' w'' v' hs hw' hv
end Go.Canon
namespace Go.Canon
set_option linter.unusedVariables false
set_option linter.unusedSimpArgs false
open Go
open Classical
variable {P : Program} {w w' : World} {μ μ' : M} {fr : Nat → Value} {h h' : Heap} {e : Eff} {k : KOp} {n : Nat}
/-- A frame, its objects, its marks: beside an activation. -/
structure SR (P : Program) (μ : M) (fi : FI) (s : St) (w : World) (a : Act) : Prop where
  wr : WR P μ s.h w
  fr : FRel μ fi.nt s.fr a.tmps
  de : a.defers = s.mks.map fun m => { target := .collected (μ.f m).1, args := #[] }
  nd : s.mks.Nodup
  mV : ∀ m ∈ s.mks, μ.V m
  rl : ∀ l, fi.rd = some l → μ.V l
theorem SR.step {fi : FI} {s : St} {a : Act} {v v' : Value} {dst : Option Tmp} (hs : SR P μ fi s w a) (hst : Stp μ s.h w μ' h' w') (hw : WR P μ' h' w') (hv : VRel μ' v v') (hd : ∀ d, dst = some d → d < fi.nt) :
    SR P μ' fi { s with fr := put s.fr dst v, h := h' } w' (a.put dst v') where
  wr := hw
  fr := frel_put (hs.fr.mono hst.le) hv hd
  de := by
    rw [put_defers, hs.de]
    exact List.map_congr_left fun m hm => by rw [hst.le.f m (hs.mV m hm)]
  nd := hs.nd
  mV := fun m hm => hst.le.V m (hs.mV m hm)
  rl := fun l hl => hst.le.V l (hs.rl l hl)
theorem wr_rds {fr : Nat → Value} {h : Heap} (hw : WR P μ h w) : Rds P μ k fr h w := fun b _ hV ob hob => hw.ob b ob hV hob
theorem wr_hd {h : Heap} (hw : WR P μ h w) : ∀ cs wr z, h[μ.d]? ≠ some (.row cs wr (some z)) := fun cs wr z hh => by rw [hw.dd] at hh; cases hh
theorem wr_hn {h : Heap} (hw : WR P μ h w) : ¬ μ.V h.length := fun hV => Nat.lt_irrefl _ (hw.lt _ hV)
/-- An operation, wherever it stands, all objects told. -/
theorem op_step {fi : FI} {s : St} {o : Oper} {a : Act} {N : Nat} {F : Fence} {v : Value} (hF : IsF F) (hC : OKCall P n) (hR : OKRound P n) (hc : cOp P o.op = some k) (hk : kstep (tab P) (n + 1) fi k s = some (v, h'))
    (hw : WR P μ s.h w) (hρ : Rho μ o.op s.fr a.eval) {K : Act → World → Prop} {Q : Exit → Act → World → Prop}
    (next : ∀ μ' w' v', Stp μ s.h w μ' h' w' → WR P μ' h' w' → VRel μ' v v' → K (a.put o.dst v') w') : o.wpIn F N P a w K Q := by
  unfold kstep at hk
  split at hk
  · rename_i v1 e1 hop
    cases hk
    obtain ⟨v', w', μ', hrun, hd, hv⟩ := kop_sim (fun _ => wr_hn hw) (wr_hd hw) hc hρ (wr_rds hw) hop
    have hl := hd.wrl (fun _ => wr_hn hw)
    have he := kop_eff hop
    have := next μ' w' v' (wrl_stp hw hl he) (wrl_wr hw hl he) hv
    refine ⟨fun f _ => hF.fn f, ?_⟩
    rw [Oper.semAt_eq _ _ _ (no_defer hc)]
    rcases hrun with hrun | ⟨rfl, hrun⟩
    · rw [hrun]; exact this
    · rw [hrun]; exact this
  · rename_i f args hop
    exact call_op hF hC hc hop hk hw hρ next
  · rename_i f args hop
    exact yield_op hF hR hc hop hk hw hρ next
  · cases hk
/-- The same, as a thing that is so: the world that comes. -/
theorem op_reach {fi : FI} {s : St} {o : Oper} {a : Act} {v : Value} (hC : OKCall P n) (hR : OKRound P n) (hc : cOp P o.op = some k) (hk : kstep (tab P) (n + 1) fi k s = some (v, h'))
    (hw : WR P μ s.h w) (hρ : Rho μ o.op s.fr a.eval) : ∃ μ' w' v', Stp μ s.h w μ' h' w' ∧ WR P μ' h' w' ∧ VRel μ' v v' := by
  have key := op_step (N := 0) (F := Fence.wide) (K := fun _ _ => ∃ μ' w' v', Stp μ s.h w μ' h' w' ∧ WR P μ' h' w' ∧ VRel μ' v v') (Q := fun _ _ _ => False) (a := a) (.inl rfl) hC hR hc hk hw hρ (fun μ' w' v' h1 h2 h3 => ⟨μ', w', v', h1, h2, h3⟩)
  have key := key.2
  generalize (o.semAt Fence.wide.round a.eval).run P w = r at key
  cases r with
  | ok x w1 =>
    cases x <;> simp only [Oper.uponIn] at key <;> first
      | exact key
      | exact key.elim
      | (obtain ⟨_, _, hc⟩ := key
         obtain ⟨e, w', fr, hR, _⟩ := hc [] (room_wide _)
         cases e with
         | returned v => exact hR
         | panicked c => exact hR.elim
         | outgrown => obtain ⟨_, _, hh⟩ := hR; exact hh.elim)
      | (obtain ⟨_, _, hc⟩ := key
         obtain ⟨e, w', hR, _⟩ := hc default [] (room_wide _)
         cases e with
         | returned v => exact hR
         | panicked c => exact hR.elim
         | outgrown => obtain ⟨_, _, hh⟩ := hR; exact hh.elim)
      | (obtain ⟨_, hc⟩ := key
         obtain ⟨v, w', hR, _⟩ := hc default [] (room_wide _)
         exact hR)
  | halt x w1 => cases x <;> simp only [Oper.uponIn] at key
/-- A guard. -/
theorem guard_rel {ops : Array Oper} {o : Oper} {ko : KOper} {a : Act} (hc : cOper P ops o = some ko) (hf : ∀ d b, ko.guard = some (d, b) → VRel μ (fr d) (a.tmps.getD d undef)) (ht : wantedK ko.guard fr = true ∨ toldK ko.guard fr = true) : Region.wanted o (yielded ops a.tmps) = wantedK ko.guard fr := by
  unfold cOper at hc
  split at hc
  · cases hc
  · rename_i kk hkk
    split at hc
    · rename_i hg
      cases hc
      simp [Region.wanted, hg, wantedK]
    · rename_i j b hg
      split at hc
      · rename_i d hd
        cases hc
        simp only [Region.wanted, hg, wantedK, yielded, hd, Option.bind_some]
        have hr := hf d b rfl
        simp only [wantedK, toldK] at ht
        rw [Array.getD_eq_getD_getElem?] at hr
        cases hq : fr d with
        | bool c =>
          rw [hq] at hr
          have := vrel_bool hr
          have h2 : a.tmps[d]? = some (.bool c) := by
            cases hx : a.tmps[d]? with
            | none => rw [hx] at this; simp [undef] at this
            | some y => rw [hx] at this; simpa using this
          simp [h2]
        | tuple q =>
          rw [hq] at hr
          cases hx : a.tmps[d]? with
          | none => simp
          | some y =>
            rw [hx] at hr
            simp only [Option.getD_some] at hr
            cases hr with
            | flat _ h => simp [flat0] at h
            | tup => simp
        | _ => simp [hq] at ht
      · cases hc
theorem cOper_inv {ops : Array Oper} {o : Oper} {ko : KOper} (hc : cOper P ops o = some ko) : cOp P o.op = some ko.op ∧ ko.dst = o.dst := by
  unfold cOper at hc
  split at hc
  · cases hc
  · rename_i kk hkk
    split at hc
    · cases hc; exact ⟨hkk, rfl⟩
    · split at hc
      · cases hc; exact ⟨hkk, rfl⟩
      · cases hc
/-- A region whose order is the text's. -/
theorem ops_sound {fi : FI} {ops : Array Oper} {ks : List KOper} {prs : List (Nat × Nat)} {N : Nat} {F : Fence} (hF : IsF F) (hks : ops.toList.mapM (cOper P ops) = some ks) (hdst : ops.toList.all (dstOk fi.nt) = true) {s' : St} {Q : Exit → Act → World → Prop} :
    ∀ (j i n : Nat) (log : List LogE) (s : St) (μ : M) (w : World) (a : Act), i + j = ops.size → kops (tab P) n fi prs i log (ks.drop i) s = some s' → (∀ m, m < n → OKCall P m ∧ OKRound P m) → SR P μ fi s w a →
      (∀ μ' w' a', Stp μ s.h w μ' s'.h w' → SR P μ' fi s' w' a' → Q .normal a' w') → wpOpsIn F N P ops Q (List.range' i j) a w := by
  intro j
  obtain ⟨hlen, hget⟩ := mapM_some hks
  simp only [Array.length_toList] at hlen
  induction j with
  | zero =>
    intro i n log s μ w a hi hk hIH hs next
    have : ks.drop i = [] := List.drop_eq_nil_of_le (by omega)
    rw [this] at hk
    cases n with
    | zero => simp [kops] at hk
    | succ n =>
      simp only [kops] at hk
      cases hk
      exact next μ w a (.refl _ _ _) hs
  | succ j ih =>
    intro i n log s μ w a hi hk hIH hs next
    have hil : i < ops.size := by omega
    obtain ⟨ko, hko, hkget⟩ := hget i ops[i] (by simp [hil])
    obtain ⟨hil', hkget'⟩ := List.getElem?_eq_some_iff.1 hkget
    have hdrop : ks.drop i = ko :: ks.drop (i + 1) := by rw [List.drop_eq_getElem_cons hil', hkget']
    rw [hdrop] at hk
    obtain ⟨hc, hdk⟩ := cOper_inv hko
    have hdn : ∀ d, ko.dst = some d → d < fi.nt := fun d hd => by
      have := List.all_eq_true.1 hdst ops[i] (by simp)
      rw [hdk] at hd
      simpa [dstOk, hd] using this
    simp only [List.range'_succ, wpOpsIn]
    rw [Array.getElem?_eq_getElem hil]
    simp only
    cases n with
    | zero => simp [kops] at hk
    | succ n =>
      have hIH' : ∀ m, m < n → OKCall P m ∧ OKRound P m := fun m hm => hIH m (by omega)
      unfold kops at hk
      dsimp only at hk
      split at hk
      · rename_i hw
        rw [guard_rel hko (fun d _ _ => hs.fr.2 d) (.inl hw), if_pos hw]
        split at hk
        · rename_i v h' hst
          cases n with
          | zero => simp [kstep] at hst
          | succ n =>
            refine op_step hF (hIH n (by omega)).1 (hIH n (by omega)).2 hc hst hs.wr (frel_rho hs.wr.gl hs.fr _) ?_
            intro μ' w' v' h1 h2 h3
            have hs' := hs.step h1 h2 h3 (dst := ko.dst) hdn
            rw [← hdk]
            have next' : ∀ μ'' w'' a'', Stp μ' h' w' μ'' s'.h w'' → SR P μ'' fi s' w'' a'' → Q .normal a'' w'' := fun μ'' w'' a'' g1 g2 => next μ'' w'' a'' (h1.trans hs.wr.lt g1) g2
            split at hk
            · split at hk
              · exact ih (i + 1) _ _ _ μ' w' _ (by omega) hk hIH' hs' next'
              · cases hk
            · exact ih (i + 1) _ _ _ μ' w' _ (by omega) hk hIH' hs' next'
        · cases hk
      · rename_i hw
        split at hk
        · rename_i ht
          rw [guard_rel hko (fun d _ _ => hs.fr.2 d) (.inr ht), if_neg hw]
          refine ⟨fun f _ => hF.fn f, ?_⟩
          have hs' := hs.step (.refl _ _ _) hs.wr (vrel_undef μ) (dst := ko.dst) hdn
          rw [← hdk]
          exact ih (i + 1) _ _ _ μ w _ (by omega) hk hIH' hs' next
        · cases hk
end Go.Canon
namespace Go.Canon
set_option linter.unusedVariables false
set_option linter.unusedSimpArgs false
open Go
open Classical
variable {P : Program} {w w' : World} {μ μ' : M} {fr : Nat → Value} {h h' : Heap} {e : Eff} {k : KOp} {n : Nat}
/-- The entry of the log at an operation. -/
def LE (S : Nat → St) (i : Nat) (k : KOper) : LogE := ⟨i, isCall k.op, rds k.op (S i).fr, (S i).h, (S (i + 1)).h⟩
/-- The run in the text's order. -/
structure Sq (P : Program) (n : Nat) (fi : FI) (prs : List (Nat × Nat)) (ks : List KOper) (S : Nat → St) : Prop where
  on : ∀ j ko, ks[j]? = some ko → wantedK ko.guard (S j).fr = true → ∃ v h' m, m < n ∧ kstep (tab P) (m + 1) fi ko.op (S j) = some (v, h') ∧ S (j + 1) = { S j with fr := put (S j).fr ko.dst v, h := h' }
  off : ∀ j ko, ks[j]? = some ko → wantedK ko.guard (S j).fr = false → toldK ko.guard (S j).fr = true ∧ S (j + 1) = { S j with fr := put (S j).fr ko.dst undef }
  ap : ∀ i j ki kj, i < j → ks[i]? = some ki → ks[j]? = some kj → wantedK ki.guard (S i).fr = true → wantedK kj.guard (S j).fr = true → (i, j) ∈ prs → apart (LE S i ki) (LE S j kj)
theorem kops_seq_from {fi : FI} {prs : List (Nat × Nat)} {s' : St} : ∀ (rest : List KOper) (n i : Nat) (log : List LogE) (s : St), kops (tab P) n fi prs i log rest s = some s' →
    ∃ S : Nat → St, S i = s ∧ S (i + rest.length) = s' ∧
      (∀ j ko, rest[j]? = some ko → wantedK ko.guard (S (i + j)).fr = true → ∃ v h' m, m < n ∧ kstep (tab P) (m + 1) fi ko.op (S (i + j)) = some (v, h') ∧ S (i + j + 1) = { S (i + j) with fr := put (S (i + j)).fr ko.dst v, h := h' }) ∧
      (∀ j ko, rest[j]? = some ko → wantedK ko.guard (S (i + j)).fr = false → toldK ko.guard (S (i + j)).fr = true ∧ S (i + j + 1) = { S (i + j) with fr := put (S (i + j)).fr ko.dst undef }) ∧
      (∀ a b ka kb, a < b → rest[a]? = some ka → rest[b]? = some kb → wantedK ka.guard (S (i + a)).fr = true → wantedK kb.guard (S (i + b)).fr = true → (i + a, i + b) ∈ prs → apart (LE S (i + a) ka) (LE S (i + b) kb)) ∧
      (∀ e ∈ log, ∀ b kb, rest[b]? = some kb → wantedK kb.guard (S (i + b)).fr = true → (e.ix, i + b) ∈ prs → apart e (LE S (i + b) kb))
  | [], n, i, log, s, hk => by
    cases n with
    | zero => simp [kops] at hk
    | succ n =>
      simp only [kops] at hk
      obtain rfl : s = s' := by simpa using hk
      exact ⟨fun _ => s, rfl, rfl, fun j ko hj => by simp at hj, fun j ko hj => by simp at hj, fun a b ka kb _ hj => by simp at hj, fun e _ b kb hj => by simp at hj⟩
  | o :: r, n, i, log, s, hk => by
    cases n with
    | zero => simp [kops] at hk
    | succ n =>
      unfold kops at hk
      dsimp only at hk
      -- a step at the head, and what comes behind it
      have join : ∀ (s1 : St) (log1 : List LogE), kops (tab P) n fi prs (i + 1) log1 r s1 = some s' →
          (wantedK o.guard s.fr = true → ∃ v h' m, m < n + 1 ∧ kstep (tab P) (m + 1) fi o.op s = some (v, h') ∧ s1 = { s with fr := put s.fr o.dst v, h := h' }) →
          (wantedK o.guard s.fr = false → toldK o.guard s.fr = true ∧ s1 = { s with fr := put s.fr o.dst undef }) →
          (∀ e ∈ log, e ∈ log1) →
          (wantedK o.guard s.fr = true → (∀ b, (i, b) ∈ prs → (⟨i, isCall o.op, rds o.op s.fr, s.h, s1.h⟩ : LogE) ∈ log1) ∧ (∀ e ∈ log, (e.ix, i) ∈ prs → apart e ⟨i, isCall o.op, rds o.op s.fr, s.h, s1.h⟩)) →
          ∃ S : Nat → St, S i = s ∧ S (i + (o :: r).length) = s' ∧
      (∀ j ko, (o :: r)[j]? = some ko → wantedK ko.guard (S (i + j)).fr = true → ∃ v h' m, m < n + 1 ∧ kstep (tab P) (m + 1) fi ko.op (S (i + j)) = some (v, h') ∧ S (i + j + 1) = { S (i + j) with fr := put (S (i + j)).fr ko.dst v, h := h' }) ∧
      (∀ j ko, (o :: r)[j]? = some ko → wantedK ko.guard (S (i + j)).fr = false → toldK ko.guard (S (i + j)).fr = true ∧ S (i + j + 1) = { S (i + j) with fr := put (S (i + j)).fr ko.dst undef }) ∧
      (∀ a b ka kb, a < b → (o :: r)[a]? = some ka → (o :: r)[b]? = some kb → wantedK ka.guard (S (i + a)).fr = true → wantedK kb.guard (S (i + b)).fr = true → (i + a, i + b) ∈ prs → apart (LE S (i + a) ka) (LE S (i + b) kb)) ∧
      (∀ e ∈ log, ∀ b kb, (o :: r)[b]? = some kb → wantedK kb.guard (S (i + b)).fr = true → (e.ix, i + b) ∈ prs → apart e (LE S (i + b) kb)) := by
        intro s1 log1 hk1 hon hoff hsub hlog
        obtain ⟨S1, h0, h1, h2, h3, h4, h5⟩ := kops_seq_from r n (i + 1) log1 s1 hk1
        let S : Nat → St := fun j => if j ≤ i then s else S1 j
        have e0 : S i = s := by simp [S]
        have e1 : ∀ j, S (i + 1 + j) = S1 (i + 1 + j) := fun j => by simp only [S]; rw [if_neg (by omega)]
        have e1' : S (i + 1) = s1 := by have := e1 0; simp only [Nat.add_zero] at this; rw [this, h0]
        have ei : ∀ j, i + (j + 1) = i + 1 + j := fun j => by omega
        have hLE : ∀ b kb, LE S (i + 1 + b) kb = LE S1 (i + 1 + b) kb := fun b kb => by
          simp only [LE]
          rw [e1 b, show i + 1 + b + 1 = i + 1 + (b + 1) by omega, e1 (b + 1)]
        have hLE0 : LE S i o = ⟨i, isCall o.op, rds o.op s.fr, s.h, s1.h⟩ := by simp only [LE]; rw [e0, e1']
        refine ⟨S, e0, ?_, ?_, ?_, ?_, ?_⟩
        · rw [List.length_cons, ei, e1]; exact h1
        · intro j ko hj hw
          cases j with
          | zero =>
            simp only [List.getElem?_cons_zero, Option.some.injEq] at hj; subst hj
            simp only [Nat.add_zero, e0, e1'] at hw ⊢
            exact hon hw
          | succ j =>
            simp only [List.getElem?_cons_succ] at hj
            rw [ei, e1] at hw ⊢
            rw [show i + 1 + j + 1 = i + 1 + (j + 1) by omega, e1]
            obtain ⟨v, h', m, hm, x, y⟩ := h2 j ko hj hw
            exact ⟨v, h', m, by omega, x, y⟩
        · intro j ko hj hw
          cases j with
          | zero =>
            simp only [List.getElem?_cons_zero, Option.some.injEq] at hj; subst hj
            simp only [Nat.add_zero, e0, e1'] at hw ⊢
            exact hoff hw
          | succ j =>
            simp only [List.getElem?_cons_succ] at hj
            rw [ei, e1] at hw ⊢
            rw [show i + 1 + j + 1 = i + 1 + (j + 1) by omega, e1]
            exact h3 j ko hj hw
        · intro a b ka kb hab ha hb hwa hwb hp
          cases b with
          | zero => omega
          | succ b =>
            simp only [List.getElem?_cons_succ] at hb
            rw [ei] at hwb hp ⊢
            rw [e1] at hwb
            rw [hLE]
            cases a with
            | zero =>
              simp only [List.getElem?_cons_zero, Option.some.injEq] at ha; subst ha
              simp only [Nat.add_zero] at hwa hp ⊢
              rw [e0] at hwa
              rw [hLE0]
              exact h5 _ ((hlog hwa).1 _ hp) b kb hb hwb hp
            | succ a =>
              simp only [List.getElem?_cons_succ] at ha
              rw [ei] at hwa hp ⊢
              rw [e1] at hwa
              rw [hLE]
              exact h4 a b ka kb (by omega) ha hb hwa hwb hp
        · intro e he b kb hb hwb hp
          cases b with
          | zero =>
            simp only [List.getElem?_cons_zero, Option.some.injEq] at hb; subst hb
            simp only [Nat.add_zero] at hwb hp ⊢
            rw [e0] at hwb
            rw [hLE0]
            exact (hlog hwb).2 e he hp
          | succ b =>
            simp only [List.getElem?_cons_succ] at hb
            rw [ei] at hwb hp ⊢
            rw [e1] at hwb
            rw [hLE]
            exact h5 e (hsub e he) b kb hb hwb hp
      split at hk
      · rename_i hw
        split at hk
        · rename_i v h' hst
          cases n with
          | zero => simp [kstep] at hst
          | succ n =>
            have hon : wantedK o.guard s.fr = true → ∃ v' h2 m, m < n + 1 + 1 ∧ kstep (tab P) (m + 1) fi o.op s = some (v', h2) ∧ ({ s with fr := put s.fr o.dst v, h := h' } : St) = { s with fr := put s.fr o.dst v', h := h2 } := fun _ => ⟨v, h', n, by omega, hst, rfl⟩
            have hoff : wantedK o.guard s.fr = false → toldK o.guard s.fr = true ∧ ({ s with fr := put s.fr o.dst v, h := h' } : St) = { s with fr := put s.fr o.dst undef } := fun hf => by rw [hw] at hf; cases hf
            split at hk
            · rename_i hp
              split at hk
              · rename_i hap
                exact join _ _ hk hon hoff (fun e he => List.mem_cons_of_mem _ he) (fun _ => ⟨fun b _ => by simp, hap⟩)
              · cases hk
            · rename_i hp
              have hno : ∀ p ∈ prs, ¬ (p.1 = i ∨ p.2 = i) := fun p hpp hh => hp (List.any_eq_true.2 ⟨p, hpp, by simpa using hh⟩)
              exact join _ _ hk hon hoff (fun e he => he) (fun _ => ⟨fun b hb => absurd (.inl rfl) (hno _ hb), fun e _ hb => absurd (.inr rfl) (hno _ hb)⟩)
        · cases hk
      · rename_i hw
        split at hk
        · rename_i ht
          exact join _ _ hk (fun hh => absurd hh hw) (fun _ => ⟨ht, rfl⟩) (fun e he => he) (fun hh => absurd hh hw)
        · cases hk
theorem kops_seq {fi : FI} {prs : List (Nat × Nat)} {ks : List KOper} {s s' : St} (hk : kops (tab P) n fi prs 0 [] ks s = some s') : ∃ S : Nat → St, S 0 = s ∧ S ks.length = s' ∧ Sq P n fi prs ks S := by
  obtain ⟨S, h0, h1, h2, h3, h4, _⟩ := kops_seq_from ks n 0 [] s hk
  simp only [Nat.zero_add] at h1 h2 h3 h4
  exact ⟨S, h0, h1, ⟨h2, h3, h4⟩⟩
/-- The text's run, beside some world at each point. -/
theorem text_pass {fi : FI} {prs : List (Nat × Nat)} {ops : Array Oper} {ks : List KOper} {S : Nat → St} {μ0 : M} {w0 : World} {a0 : Act} (hks : ops.toList.mapM (cOper P ops) = some ks) (hdst : ops.toList.all (dstOk fi.nt) = true)
    (hS : Sq P n fi prs ks S) (hIH : ∀ m, m < n → OKCall P m ∧ OKRound P m) (h0 : SR P μ0 fi (S 0) w0 a0) : ∀ j, j ≤ ks.length → ∃ μ w a, SR P μ fi (S j) w a ∧ Stp μ0 (S 0).h w0 μ (S j).h w := by
  obtain ⟨hlen, hget⟩ := mapM_some hks
  simp only [Array.length_toList] at hlen
  intro j
  induction j with
  | zero => exact fun _ => ⟨μ0, w0, a0, h0, .refl _ _ _⟩
  | succ j ih =>
    intro hj
    obtain ⟨μ, w, a, hs, hst⟩ := ih (by omega)
    have hjl : j < ops.size := by omega
    obtain ⟨ko, hko, hkget⟩ := hget j ops[j] (by simp [hjl])
    obtain ⟨hc, hdk⟩ := cOper_inv hko
    have hdn : ∀ d, ko.dst = some d → d < fi.nt := fun d hd => by
      have := List.all_eq_true.1 hdst ops[j] (by simp)
      rw [hdk] at hd
      simpa [dstOk, hd] using this
    cases hw : wantedK ko.guard (S j).fr with
    | true =>
      obtain ⟨v, h', m, hm, hkst, hS1⟩ := hS.on j ko hkget hw
      obtain ⟨μ', w', v', h1, h2, h3⟩ := op_reach (a := a) (hIH m hm).1 (hIH m hm).2 hc hkst hs.wr (frel_rho hs.wr.gl hs.fr _)
      have := hs.step h1 h2 h3 (dst := ko.dst) hdn
      rw [← hS1] at this
      refine ⟨μ', w', _, this, hst.trans h0.wr.lt ?_⟩
      rw [hS1]; exact h1
    | false =>
      obtain ⟨ht, hS1⟩ := hS.off j ko hkget hw
      have := hs.step (.refl _ _ _) hs.wr (vrel_undef μ) (dst := ko.dst) hdn
      rw [show ({ S j with fr := put (S j).fr ko.dst undef, h := (S j).h } : St) = S (j + 1) by rw [hS1]] at this
      refine ⟨μ, w, _, this, ?_⟩
      rw [hS1]; exact hst
theorem foldl_bits {i : Nat} (B : Nat → Nat) : ∀ (l : List Edge) (s : Nat), (l.foldl (fun s e => if Region.binds .any e then s ||| 2 ^ e.on ||| B e.on else s) s).testBit i = true →
    s.testBit i = true ∨ ∃ e ∈ l, Region.binds .any e = true ∧ (i = e.on ∨ (B e.on).testBit i = true)
  | [], s, h => .inl h
  | e :: l, s, h => by
    simp only [List.foldl_cons] at h
    rcases foldl_bits B l _ h with h | ⟨e', he', hb, hh⟩
    · split at h
      · rename_i hb
        simp only [Nat.testBit_or, Bool.or_eq_true, Nat.testBit_two_pow, decide_eq_true_eq] at h
        rcases h with (h | h) | h
        · exact .inl h
        · exact .inr ⟨e, by simp, hb, .inl h.symm⟩
        · exact .inr ⟨e, by simp, hb, .inr h⟩
      · exact .inl h
    · exact .inr ⟨e', by simp [he'], hb, hh⟩
/-- The list's reading of what stands before. -/
def bStep (acc : Array Nat) (o : Oper) : Array Nat := acc.push (o.after.foldl (fun s e => if Region.binds .any e then s ||| 2 ^ e.on ||| acc.getD e.on 0 else s) 0)
theorem bStep_size {acc : Array Nat} {o : Oper} : (bStep acc o).size = acc.size + 1 := by simp [bStep]
theorem bStep_old {acc : Array Nat} {o : Oper} {j : Nat} (hj : j < acc.size) : (bStep acc o).getD j 0 = acc.getD j 0 := by
  simp only [bStep, Array.getD_eq_getD_getElem?, Array.getElem?_push, Nat.ne_of_lt hj, if_false]
theorem before_list : ∀ (n : Nat) (l : List Oper), l.length = n → (l.foldl bStep #[]).size = n ∧ ∀ j o, l[j]? = some o → ∀ i, ((l.foldl bStep #[]).getD j 0).testBit i = true →
    ∃ e ∈ o.after.toList, Region.binds .any e = true ∧ (i = e.on ∨ (e.on < j ∧ ((l.foldl bStep #[]).getD e.on 0).testBit i = true))
  | 0, l, hl => by
    have : l = [] := List.length_eq_zero_iff.1 hl
    subst this
    exact ⟨rfl, fun j o h => by simp at h⟩
  | n + 1, l, hl => by
    rcases List.eq_nil_or_concat l with rfl | ⟨l', x, rfl⟩
    · simp at hl
    · have hl' : l'.length = n := by simpa using hl
      obtain ⟨hs, hp⟩ := before_list n l' hl'
      simp only [List.concat_eq_append, List.foldl_append, List.foldl_cons, List.foldl_nil]
      refine ⟨by rw [bStep_size, hs], fun j o hj i hb => ?_⟩
      rw [List.getElem?_append] at hj
      split at hj
      · rename_i hjl
        rw [bStep_old (by omega)] at hb
        obtain ⟨e, he, hbe, hh⟩ := hp j o hj i hb
        refine ⟨e, he, hbe, hh.imp id fun ⟨h1, h2⟩ => ⟨h1, ?_⟩⟩
        rw [bStep_old (by omega)]; exact h2
      · rename_i hjl
        have hj0 : j = l'.length := by
          have := (List.getElem?_eq_some_iff.1 hj).1
          simp at this; omega
        subst hj0
        simp at hj; subst hj
        have hg : (bStep (l'.foldl bStep #[]) x).getD l'.length 0 = x.after.foldl (fun s e => if Region.binds .any e then s ||| 2 ^ e.on ||| (l'.foldl bStep #[]).getD e.on 0 else s) 0 := by
          simp only [bStep, Array.getD_eq_getD_getElem?, Array.getElem?_push]
          rw [if_pos (by omega)]; rfl
        rw [hg, ← Array.foldl_toList] at hb
        rcases foldl_bits (fun y => (l'.foldl bStep #[]).getD y 0) _ _ hb with h | ⟨e, he, hbe, hh⟩
        · simp at h
        · refine ⟨e, he, hbe, hh.imp id fun h2 => ?_⟩
          have hlt : e.on < l'.length := by
            false_or_by_contra
            rename_i hge
            rw [Array.getD_eq_getD_getElem?, Array.getElem?_eq_none (by omega)] at h2
            simp at h2
          exact ⟨hlt, by rw [bStep_old (by omega)]; exact h2⟩
theorem before_bits {ops : Array Oper} {j i : Nat} {o : Oper} (ho : ops[j]? = some o) (hb : ((Region.before ops).getD j 0).testBit i = true) :
    ∃ e ∈ o.after.toList, Region.binds .any e = true ∧ (i = e.on ∨ (e.on < j ∧ ((Region.before ops).getD e.on 0).testBit i = true)) := by
  have heq : Region.before ops = ops.toList.foldl bStep #[] := by
    unfold Region.before
    rw [← Array.foldl_toList]
    rfl
  rw [heq] at hb ⊢
  exact (before_list _ ops.toList rfl).2 j o (by simpa using ho) i hb
/-- What is done is done with all that stands before it. -/
def EClosed (ops : Array Oper) (D : Nat → Prop) : Prop := ∀ j o, D j → ops[j]? = some o → ∀ e ∈ o.after.toList, Region.binds .any e = true → D e.on
theorem before_done {ops : Array Oper} {D : Nat → Prop} (hD : EClosed ops D) : ∀ (j i : Nat) (o : Oper), ops[j]? = some o → (∀ e ∈ o.after.toList, Region.binds .any e = true → D e.on) → ((Region.before ops).getD j 0).testBit i = true → D i := by
  intro j
  induction j using Nat.strongRecOn with
  | _ j ih =>
    intro i o ho hall hb
    obtain ⟨e, he, hbe, hh⟩ := before_bits ho hb
    rcases hh with rfl | ⟨hlt, hh⟩
    · exact hall e he hbe
    · cases hoe : ops[e.on]? with
      | none =>
        have : ops.size ≤ e.on := by simpa using hoe
        have := (Array.getElem?_eq_some_iff.1 ho).1
        omega
      | some oe => exact ih e.on hlt i oe hoe (fun e' he' hb' => hD e.on oe (hall e he hbe) hoe e' he' hb') hh
end Go.Canon
namespace Go.Canon
set_option linter.unusedVariables false
set_option linter.unusedSimpArgs false
open Go
open Classical
/-- The i-th operation changes the object b. -/
def Chg (S : Nat → St) (i b : Nat) : Prop := (S (i + 1)).h[b]? ≠ (S i).h[b]?
/-- With D done, the object b is as it was before the k-th operation. -/
def At (S : Nat → St) (m : Nat) (D : Nat → Prop) (b k : Nat) : Prop := k ≤ m ∧ ∀ i, i < m → Chg S i b → (D i ↔ i < k)
/-- The same of the slot t. -/
def AtT (ks : List KOper) (m : Nat) (D : Nat → Prop) (t k : Nat) : Prop := k ≤ m ∧ ∀ i ko, i < m → ks[i]? = some ko → ko.dst = some t → (D i ↔ i < k)
theorem const_on {α : Type} (f : Nat → α) {k l : Nat} (hkl : k ≤ l) (h : ∀ i, k ≤ i → i < l → f (i + 1) = f i) : f l = f k := by
  obtain ⟨d, rfl⟩ : ∃ d, l = k + d := ⟨l - k, by omega⟩
  clear hkl
  induction d with
  | zero => rfl
  | succ d ih =>
    rw [show k + (d + 1) = k + d + 1 by omega, h (k + d) (by omega) (by omega)]
    exact ih (fun i h1 h2 => h i h1 (by omega))
theorem At.same {S : Nat → St} {m : Nat} {D : Nat → Prop} {b k l : Nat} (h1 : At S m D b k) (h2 : At S m D b l) : (S k).h[b]? = (S l).h[b]? := by
  have key : ∀ k l, k ≤ l → At S m D b k → At S m D b l → (S k).h[b]? = (S l).h[b]? := by
    intro k l hkl h1 h2
    refine (const_on (fun i => (S i).h[b]?) hkl fun i hk hl => ?_).symm
    false_or_by_contra
    rename_i hne
    have a := h1.2 i (by have := h2.1; omega) hne
    have b := h2.2 i (by have := h2.1; omega) hne
    have := a.1 (b.2 hl)
    omega
  rcases Nat.le_total k l with h | h
  · exact key k l h h1 h2
  · exact (key l k h h2 h1).symm
/-- What is known of the region and of its run in the text's order. -/
structure RG (P : Program) (n : Nat) (fi : FI) (ops : Array Oper) (ks : List KOper) (prs : List (Nat × Nat)) (S : Nat → St) (μ0 : M) (w0 : World) (a0 : Act) (m : Nat) : Prop where
  hks : ops.toList.mapM (cOper P ops) = some ks
  hdst : ops.toList.all (dstOk fi.nt) = true
  kl : ks.length = m
  ol : ops.size = m
  sq : Sq P n fi prs ks S
  pr : prs = openPairs ops ks
  eok : edgesOk ops = true
  tok : tmpsOk ops = true
  tp : ∀ j, j ≤ m → ∃ μ w a, SR P μ fi (S j) w a ∧ Stp μ0 (S 0).h w0 μ (S j).h w
  st : ∀ j, j < m → (S j).h.length ≤ (S (j + 1)).h.length ∧ ∀ (b : Nat) o, (S j).h[b]? = some o → chg o = false → (S (j + 1)).h[b]? = some o
  sr : SR P μ0 fi (S 0) w0 a0
section
variable {P : Program} {n : Nat} {fi : FI} {ops : Array Oper} {ks : List KOper} {prs : List (Nat × Nat)} {S : Nat → St} {μ0 : M} {w0 : World} {a0 : Act} {m : Nat}
theorem RG.ko (R : RG P n fi ops ks prs S μ0 w0 a0 m) {j : Nat} (hj : j < m) : ∃ o ko, ops[j]? = some o ∧ ks[j]? = some ko ∧ cOper P ops o = some ko ∧ cOp P o.op = some ko.op ∧ ko.dst = o.dst ∧ ∀ d, ko.dst = some d → d < fi.nt := by
  obtain ⟨hlen, hget⟩ := mapM_some R.hks
  have hjl : j < ops.size := by rw [R.ol]; exact hj
  obtain ⟨ko, hko, hkget⟩ := hget j ops[j] (by simp [hjl])
  obtain ⟨hc, hdk⟩ := cOper_inv hko
  refine ⟨ops[j], ko, by simp [hjl], hkget, hko, hc, hdk, fun d hd => ?_⟩
  have := List.all_eq_true.1 R.hdst ops[j] (by simp)
  rw [hdk] at hd
  simpa [dstOk, hd] using this
theorem RG.mono (R : RG P n fi ops ks prs S μ0 w0 a0 m) {i j : Nat} (hij : i ≤ j) (hj : j ≤ m) : (S i).h.length ≤ (S j).h.length := by
  obtain ⟨d, rfl⟩ : ∃ d, j = i + d := ⟨j - i, by omega⟩
  clear hij
  induction d with
  | zero => exact Nat.le_refl _
  | succ d ih => exact Nat.le_trans (ih (by omega)) (R.st (i + d) (by omega)).1
theorem RG.fro (R : RG P n fi ops ks prs S μ0 w0 a0 m) {i j b : Nat} {o : CO} (hij : i ≤ j) (hj : j ≤ m) (ho : (S i).h[b]? = some o) (hc : chg o = false) : (S j).h[b]? = some o := by
  obtain ⟨d, rfl⟩ : ∃ d, j = i + d := ⟨j - i, by omega⟩
  clear hij
  induction d with
  | zero => exact ho
  | succ d ih => exact (R.st (i + d) (by omega)).2 b o (ih (by omega)) hc
/-- Who lays the object b. -/
def Lays (S : Nat → St) (i b : Nat) : Prop := (S i).h.length ≤ b ∧ b < (S (i + 1)).h.length
theorem RG.lays_one (R : RG P n fi ops ks prs S μ0 w0 a0 m) {i j b : Nat} (hi : i < m) (hj : j < m) (h1 : Lays S i b) (h2 : Lays S j b) : i = j := by
  rcases Nat.lt_trichotomy i j with h | h | h
  · have := R.mono (i := i + 1) (j := j) (by omega) (by omega)
    have := h1.2; have := h2.1; omega
  · exact h
  · have := R.mono (i := j + 1) (j := i) (by omega) (by omega)
    have := h2.2; have := h1.1; omega
theorem RG.laid (R : RG P n fi ops ks prs S μ0 w0 a0 m) {b j : Nat} (hj : j ≤ m) (h0 : (S 0).h.length ≤ b) (h1 : b < (S j).h.length) : ∃ i, i < j ∧ Lays S i b := by
  induction j with
  | zero => omega
  | succ j ih =>
    by_cases hb : b < (S j).h.length
    · obtain ⟨i, hi, hl⟩ := ih (by omega) hb
      exact ⟨i, by omega, hl⟩
    · exact ⟨j, by omega, by omega, h1⟩
/-- What is so when D is done. -/
structure DI (P : Program) (fi : FI) (ks : List KOper) (S : Nat → St) (μ0 : M) (w0 : World) (a0 : Act) (m : Nat) (D : Nat → Prop) (μ : M) (w : World) (a : Act) : Prop where
  le : μ0.le μ
  V : ∀ b, μ.V b ↔ μ0.V b ∨ ∃ i, i < m ∧ D i ∧ Lays S i b
  ob : ∀ b, μ.V b → ∃ k, At S m D b k ∧ ∀ o, (S k).h[b]? = some o → ∃ o', w.heap[(μ.f b).1]? = some o' ∧ ObR P μ b o o'
  inj : ∀ b c k l o q, μ.V b → μ.V c → At S m D b k → At S m D c l → (S k).h[b]? = some o → (S l).h[c]? = some q → live o = true → live q = true → (μ.f b).1 = (μ.f c).1 → b = c
  bd : ∀ b, μ.V b → (μ.f b).1 < w.heap.size
  nc : ∀ i b, i < m → D i → Chg S i b → μ.V b
  sz : a.tmps.size = fi.nt
  tm : ∀ t, ∃ k, AtT ks m D t k ∧ VRel μ ((S k).fr t) (a.tmps.getD t undef)
  de : a.defers = a0.defers
  frm : Frm μ0 (S 0).h w0 w
  nw : ∀ b, μ.V b → ¬ μ0.V b → w0.heap.size ≤ (μ.f b).1 ∨ ∃ (c : Nat) (o : CO), μ0.V c ∧ (S 0).h[c]? = some o ∧ chg o = true ∧ (μ.f b).1 = (μ0.f c).1
  kin : Kin w0 w
/-- What the j-th operation does, seen from D done. -/
structure Loc (P : Program) (S : Nat → St) (j : Nat) (tch : Nat → Prop) (μ : M) (w : World) (μ' : M) (w' : World) : Prop where
  le : μ.le μ'
  V : ∀ b, μ'.V b ↔ μ.V b ∨ Lays S j b
  kin : Kin w w'
  sz : w.heap.size ≤ w'.heap.size
  chV : ∀ b, b < (S j).h.length → Chg S j b → μ.V b ∧ tch b
  tl : ∀ b, tch b → b < (S j).h.length
  ob : ∀ b o, μ'.V b → (tch b ∨ Lays S j b) → (S (j + 1)).h[b]? = some o → ∃ o', w'.heap[(μ'.f b).1]? = some o' ∧ ObR P μ' b o o'
  keep : ∀ c, c < w.heap.size → (∀ (b : Nat) o, μ.V b → tch b → (S j).h[b]? = some o → chg o = true → (μ.f b).1 ≠ c) → w'.heap[c]? = w.heap[c]?
  nw : ∀ b, Lays S j b → w.heap.size ≤ (μ'.f b).1 ∨ ∃ (c : Nat) (o : CO), μ.V c ∧ tch c ∧ (S j).h[c]? = some o ∧ chg o = true ∧ (μ'.f b).1 = (μ.f c).1
  inj : ∀ b c o q, μ'.V b → μ'.V c → (tch b ∨ Lays S j b) → (tch c ∨ Lays S j c) → (S (j + 1)).h[b]? = some o → (S (j + 1)).h[c]? = some q → live o = true → live q = true → (μ'.f b).1 = (μ'.f c).1 → b = c
  bd : ∀ b, Lays S j b → (μ'.f b).1 < w'.heap.size
theorem DI.nojV (R : RG P n fi ops ks prs S μ0 w0 a0 m) {D : Nat → Prop} {μ : M} {w : World} {a : Act} (H : DI P fi ks S μ0 w0 a0 m D μ w a) {j b : Nat} (hj : j < m) (hD : ¬ D j) (hl : Lays S j b) : ¬ μ.V b := fun hV => by
  rcases (H.V b).1 hV with h0 | ⟨i, hi, hDi, hli⟩
  · have := R.sr.wr.lt b h0
    have := R.mono (i := 0) (j := j) (by omega) (by omega)
    have := hl.1; omega
  · have := R.lays_one hi hj hli hl
    subst this; exact hD hDi
theorem live_back {S : Nat → St} {m : Nat} (R : RG P n fi ops ks prs S μ0 w0 a0 m) {j b : Nat} {o : CO} (hj : j < m) (hb : b < (S j).h.length) (ho : (S (j + 1)).h[b]? = some o) (hl : live o = true) : ∃ q, (S j).h[b]? = some q ∧ live q = true := by
  have hq : (S j).h[b]? = some (S j).h[b] := List.getElem?_eq_getElem hb
  refine ⟨_, hq, ?_⟩
  cases hl2 : live (S j).h[b] with
  | true => rfl
  | false =>
    have hg : (S j).h[b] = .gone := by
      generalize (S j).h[b] = x at hl2
      cases x <;> first | rfl | cases hl2
    rw [hg] at hq
    have := (R.st j hj).2 b .gone hq rfl
    rw [ho] at this; cases this; cases hl
theorem DI.step (R : RG P n fi ops ks prs S μ0 w0 a0 m) {D : Nat → Prop} {μ μ' : M} {w w' : World} {a : Act} (H : DI P fi ks S μ0 w0 a0 m D μ w a) {j : Nat} (hj : j < m) (hD : ¬ D j) {tch : Nat → Prop} (L : Loc P S j tch μ w μ' w')
    (hA : ∀ b, μ.V b → tch b → At S m D b j) {ko : KOper} (hko : ks[j]? = some ko) (hT : ∀ i ki t, i < m → i ≠ j → ks[i]? = some ki → ki.dst = some t → ko.dst = some t → (D i ↔ i < j)) (hdn : ∀ d, ko.dst = some d → d < fi.nt)
    {v v' : Value} (hfr : (S (j + 1)).fr = put (S j).fr ko.dst v) (hv : VRel μ' v v') : DI P fi ks S μ0 w0 a0 m (fun i => D i ∨ i = j) μ' w' (a.put ko.dst v') := by
  have hnV : ∀ b, Lays S j b → ¬ μ.V b := fun b => H.nojV R hj hD
  have hsame : ∀ b, ¬ tch b → ¬ Lays S j b → ¬ Chg S j b := fun b ht hl hc => by
    by_cases hb : b < (S j).h.length
    · exact ht (L.chV b hb hc).2
    · have h1 : (S j).h[b]? = none := by simp; omega
      have h2 : (S (j + 1)).h[b]? = none := by
        have : ¬ b < (S (j + 1)).h.length := fun hh => hl ⟨by omega, hh⟩
        simp; omega
      exact hc (h1.trans h2.symm |>.symm)
  -- an object that is not touched
  have atKeep : ∀ b k, ¬ tch b → ¬ Lays S j b → At S m D b k → At S m (fun i => D i ∨ i = j) b k := fun b k ht hl hk => ⟨hk.1, fun i hi hc => by
    have hne : i ≠ j := fun hh => hsame b ht hl (hh ▸ hc)
    exact ⟨fun hh => (hk.2 i hi hc).1 (hh.resolve_right hne), fun hh => .inl ((hk.2 i hi hc).2 hh)⟩⟩
  have atKeep' : ∀ b k, ¬ tch b → ¬ Lays S j b → At S m (fun i => D i ∨ i = j) b k → At S m D b k := fun b k ht hl hk => ⟨hk.1, fun i hi hc => by
    have hne : i ≠ j := fun hh => hsame b ht hl (hh ▸ hc)
    exact ⟨fun hh => (hk.2 i hi hc).1 (.inl hh), fun hh => ((hk.2 i hi hc).2 hh).resolve_right hne⟩⟩
  -- one that is touched
  have atTch : ∀ b, μ.V b → tch b → At S m (fun i => D i ∨ i = j) b (j + 1) := fun b hV ht => ⟨hj, fun i hi hc => by
    have hk := hA b hV ht
    by_cases hne : i = j
    · subst hne; exact ⟨fun _ => by omega, fun _ => .inr rfl⟩
    · exact ⟨fun hh => by have := (hk.2 i hi hc).1 (hh.resolve_right hne); omega, fun hh => .inl ((hk.2 i hi hc).2 (by omega))⟩⟩
  have atNew : ∀ b, Lays S j b → At S m (fun i => D i ∨ i = j) b (j + 1) := fun b hl => ⟨hj, fun i hi hc => by
    by_cases hne : i = j
    · subst hne; exact ⟨fun _ => by omega, fun _ => .inr rfl⟩
    · constructor
      · intro hh
        exact (hnV b hl (H.nc i b hi (hh.resolve_right hne) hc)).elim
      · intro hh
        have hlt : i < j := by omega
        have := R.mono (i := i + 1) (j := j) (by omega) (by omega)
        have := R.mono (i := i) (j := j) (by omega) (by omega)
        have h1 : (S i).h[b]? = none := by have := hl.1; simp; omega
        have h2 : (S (i + 1)).h[b]? = none := by have := hl.1; simp; omega
        exact (hc (h2.trans h1.symm)).elim⟩
  have hVcase : ∀ b, μ'.V b → μ.V b ∨ Lays S j b := fun b hV => (L.V b).1 hV
  have hfold : ∀ b, μ.V b → μ'.f b = μ.f b := fun b hV => L.le.f b hV
  have hatOf : ∀ b, μ'.V b → (tch b ∨ Lays S j b) → At S m (fun i => D i ∨ i = j) b (j + 1) := fun b hV hh => by
    rcases hh with ht | hl
    · refine atTch b ((hVcase b hV).resolve_right fun hl => ?_) ht
      have := L.tl b ht; have := hl.1; omega
    · exact atNew b hl
  have hbd : ∀ b, μ'.V b → (μ'.f b).1 < w'.heap.size := fun b hV => by
    rcases hVcase b hV with h | h
    · rw [hfold b h]; exact Nat.lt_of_lt_of_le (H.bd b h) L.sz
    · exact L.bd b h
  -- a touched or new one and another one
  have mixed : ∀ b c l o q, μ'.V b → μ.V c → ¬ tch c → ¬ Lays S j c → (tch b ∨ Lays S j b) → At S m D c l → (S (j + 1)).h[b]? = some o → (S l).h[c]? = some q → live o = true → live q = true → (μ'.f b).1 = (μ.f c).1 → False := by
    intro b c l o q hVb hVc htc hlc hb hAc ho hq hlo hlq hf
    rcases hb with ht | hl
    · have hVb0 : μ.V b := (hVcase b hVb).resolve_right fun hl => by have := L.tl b ht; have := hl.1; omega
      obtain ⟨q1, hq1, hl1⟩ := live_back R hj (L.tl b ht) ho hlo
      rw [hfold b hVb0] at hf
      have := H.inj b c j l q1 q hVb0 hVc (hA b hVb0 ht) hAc hq1 hq hl1 hlq hf
      subst this; exact htc ht
    · rcases L.nw b hl with hh | ⟨c', o', hV', ht', ho', hch', hf'⟩
      · have := H.bd c hVc; omega
      · have := H.inj c' c j l o' q hV' hVc (hA c' hV' ht') hAc ho' hq (chg_live hch') hlq (by rw [← hf', hf])
        subst this; exact htc ht'
  refine ⟨H.le.trans L.le, fun b => ?_, fun b hV => ?_, ?_, hbd, fun i b hi hDi hc => ?_, ?_, fun t => ?_, ?_, ⟨Nat.le_trans H.frm.1 L.sz, fun c hc hfr => ?_⟩, fun b hV h0 => ?_, H.kin.trans L.kin⟩
  · rw [L.V, H.V]
    constructor
    · rintro ((h | ⟨i, hi, hDi, hl⟩) | h)
      · exact .inl h
      · exact .inr ⟨i, hi, .inl hDi, hl⟩
      · exact .inr ⟨j, hj, .inr rfl, h⟩
    · rintro (h | ⟨i, hi, hDi | rfl, hl⟩)
      · exact .inl (.inl h)
      · exact .inl (.inr ⟨i, hi, hDi, hl⟩)
      · exact .inr hl
  · by_cases hb : tch b ∨ Lays S j b
    · exact ⟨j + 1, hatOf b hV hb, fun o ho => L.ob b o hV hb ho⟩
    · have ht : ¬ tch b := fun h => hb (.inl h)
      have hl : ¬ Lays S j b := fun h => hb (.inr h)
      have hV0 := (hVcase b hV).resolve_right hl
      obtain ⟨k, hk, hob⟩ := H.ob b hV0
      refine ⟨k, atKeep b k ht hl hk, fun o ho => ?_⟩
      cases hlo : live o with
      | false =>
        have : o = .gone := by cases o <;> first | rfl | cases hlo
        subst this
        obtain ⟨o', h1⟩ := some_of_lt (hbd b hV)
        exact ⟨o', h1, trivial⟩
      | true =>
        obtain ⟨o', h1, h2⟩ := hob o ho
        refine ⟨o', ?_, h2.mono L.le hV0⟩
        rw [hfold b hV0, L.keep _ (H.bd b hV0) ?_, h1]
        intro c q hVc htc hq hch hf
        have := H.inj c b j k q o hVc hV0 (hA c hVc htc) hk hq ho (chg_live hch) hlo hf
        subst this; exact ht htc
  · intro b c k l o q hVb hVc hAb hAc ho hq hlo hlq hf
    by_cases hb : tch b ∨ Lays S j b
    · rw [hAb.same (hatOf b hVb hb)] at ho
      by_cases hc : tch c ∨ Lays S j c
      · rw [hAc.same (hatOf c hVc hc)] at hq
        exact L.inj b c o q hVb hVc hb hc ho hq hlo hlq hf
      · have htc : ¬ tch c := fun h => hc (.inl h)
        have hlc : ¬ Lays S j c := fun h => hc (.inr h)
        have hV0 := (hVcase c hVc).resolve_right hlc
        rw [hfold c hV0] at hf
        exact (mixed b c l o q hVb hV0 htc hlc hb (atKeep' c l htc hlc hAc) ho hq hlo hlq hf).elim
    · have htb : ¬ tch b := fun h => hb (.inl h)
      have hlb : ¬ Lays S j b := fun h => hb (.inr h)
      have hVb0 := (hVcase b hVb).resolve_right hlb
      rw [hfold b hVb0] at hf
      by_cases hc : tch c ∨ Lays S j c
      · rw [hAc.same (hatOf c hVc hc)] at hq
        exact (mixed c b k q o hVc hVb0 htb hlb hc (atKeep' b k htb hlb hAb) hq ho hlq hlo hf.symm).elim
      · have htc : ¬ tch c := fun h => hc (.inl h)
        have hlc : ¬ Lays S j c := fun h => hc (.inr h)
        have hVc0 := (hVcase c hVc).resolve_right hlc
        rw [hfold c hVc0] at hf
        exact H.inj b c k l o q hVb0 hVc0 (atKeep' b k htb hlb hAb) (atKeep' c l htc hlc hAc) ho hq hlo hlq hf
  · rcases hDi with h | rfl
    · exact L.le.V b (H.nc i b hi h hc)
    · by_cases hb : b < (S i).h.length
      · exact L.le.V b (L.chV b hb hc).1
      · refine (L.V b).2 (.inr ⟨by omega, ?_⟩)
        false_or_by_contra
        rename_i hge
        have h1 : (S i).h[b]? = none := by simp; omega
        have h2 : (S (i + 1)).h[b]? = none := by simp; omega
        exact hc (h2.trans h1.symm)
  · cases hd : ko.dst with
    | none => exact H.sz
    | some d => simp [Act.put, H.sz]
  · by_cases ht : ko.dst = some t
    · refine ⟨j + 1, ⟨hj, fun i ki hi hki hdi => ?_⟩, ?_⟩
      · by_cases hne : i = j
        · subst hne; exact ⟨fun _ => by omega, fun _ => .inr rfl⟩
        · have := hT i ki t hi hne hki hdi ht
          exact ⟨fun hh => by have := this.1 (hh.resolve_right hne); omega, fun hh => .inl (this.2 (by omega))⟩
      · rw [hfr, ht]
        have htl := hdn t ht
        have : (a.put (some t) v').tmps.getD t undef = v' := by simp [Act.put, Array.getD_eq_getD_getElem?, H.sz, htl]
        rw [this]
        simpa [put] using hv
    · obtain ⟨k, hk, hr⟩ := H.tm t
      refine ⟨k, ⟨hk.1, fun i ki hi hki hdi => ?_⟩, ?_⟩
      · have hne : i ≠ j := fun hh => by subst hh; rw [hko] at hki; cases hki; exact ht hdi
        exact ⟨fun hh => (hk.2 i ki hi hki hdi).1 (hh.resolve_right hne), fun hh => .inl ((hk.2 i ki hi hki hdi).2 hh)⟩
      · have : (a.put ko.dst v').tmps.getD t undef = a.tmps.getD t undef := by
          cases hd : ko.dst with
          | none => rfl
          | some d =>
            have hne : d ≠ t := fun hh => ht (by rw [hd, hh])
            simp [Act.put, Array.getD_eq_getD_getElem?, Array.getElem?_setIfInBounds_ne hne]
        rw [this]; exact hr.mono L.le
  · rw [put_defers]; exact H.de
  · rw [L.keep c (Nat.lt_of_lt_of_le hc H.frm.1) ?_, H.frm.2 c hc hfr]
    intro b o hV htb ho hch hf
    by_cases h0 : μ0.V b
    · have hlt := R.sr.wr.lt b h0
      have hq : (S 0).h[b]? = some (S 0).h[b] := List.getElem?_eq_getElem hlt
      have hcq := hfr b _ h0 hq (by rw [← H.le.f b h0]; exact hf)
      have := R.fro (i := 0) (j := j) (by omega) (by omega) hq hcq
      rw [ho] at this; cases this; rw [hch] at hcq; cases hcq
    · rcases H.nw b hV h0 with hh | ⟨c', q, hc', hq, hcq, hf'⟩
      · rw [hf] at hh; omega
      · have := hfr c' q hc' hq (by rw [← hf', hf]); rw [hcq] at this; cases this
  · rcases hVcase b hV with h | h
    · rw [hfold b h]; exact H.nw b h h0
    · rcases L.nw b h with hh | ⟨c, o, hVc, htc, ho, hch, hf⟩
      · exact .inl (Nat.le_trans H.frm.1 hh)
      · by_cases hc0 : μ0.V c
        · have hlt := R.sr.wr.lt c hc0
          have hq : (S 0).h[c]? = some (S 0).h[c] := List.getElem?_eq_getElem hlt
          refine .inr ⟨c, _, hc0, hq, ?_, by rw [hf, H.le.f c hc0]⟩
          cases hcq : chg (S 0).h[c] with
          | true => rfl
          | false =>
            have := R.fro (i := 0) (j := j) (by omega) (by omega) hq hcq
            rw [ho] at this; cases this; rw [hch] at hcq; cases hcq
        · rw [hf]; exact H.nw c hVc hc0
end
end Go.Canon
namespace Go.Canon
set_option linter.unusedVariables false
set_option linter.unusedSimpArgs false
open Go
open Classical
def M.cut (μ : M) (n : Nat) : M := { μ with V := fun b => μ.V b ∧ b < n }
theorem vrel_map {μ : M} {b : Nat} {v' : Value} (h : VRel μ (.map (some b)) v') : μ.V b ∧ (μ.f b).2 = 0 ∧ v' = .map (some (μ.f b).1) := by
  cases h with
  | flat _ h => simp [flat0] at h
  | mp _ hV hs => exact ⟨hV, hs, rfl⟩
theorem VRel.cut {μ ν : M} {n : Nat} (hν : ∀ b, ν.V b → b < n) (hd : ν.d < n) {v u u2 : Value} (h1 : VRel μ v u) (h2 : VRel ν v u2) : VRel (μ.cut n) v u := by
  induction h1 generalizing u2 with
  | flat v h => exact .flat v h
  | veil v => exact .veil v
  | ptr b o hV => exact .ptr (μ := μ.cut n) b o ⟨hV, hν b (vrel_ptr h2).2.1⟩
  | sl b o k c o' c' hV hn hc ho hz hz' =>
    have hb : b < n := by
      rcases vrel_dd h2 rfl with h | h
      · exact hν b h
      · simp only at h; omega
    exact .sl (μ := μ.cut n) b o k c o' c' ⟨hV, hb⟩ hn hc ho hz hz'
  | sl0 a' => exact .sl0 (μ := μ.cut n) a'
  | sl2 b o sp a' => exact .sl2 (μ := μ.cut n) b o sp a'
  | mp b hV hs => exact .mp (μ := μ.cut n) b ⟨hV, hν b (vrel_map h2).1⟩ hs
  | fn g p q p' q' hp hq _ _ i1 i2 =>
    obtain ⟨p2, q2, rfl, hp2, hq2⟩ := vrel_func h2
    refine .fn g p q p' q' hp hq (fun i v v' x y => ?_) (fun i v v' x y => ?_)
    · obtain ⟨z, hz, hr⟩ := hp2.get (i := i) (v := v) (by simpa using x)
      exact i1 i v v' x y hr
    · obtain ⟨z, hz, hr⟩ := hq2.get (i := i) (v := v) (by simpa using x)
      exact i2 i v v' x y hr
  | yl l hV hs => exact .yl (μ := μ.cut n) l ⟨hV, hν l (vrel_yield h2).2.2.1⟩ hs
  | agg cs cs' hs _ ih =>
    obtain ⟨c2, rfl, hh⟩ := vrel_agg h2
    refine .agg cs cs' hs fun i v v' x y => ?_
    obtain ⟨z, hz, hr⟩ := VRels.get hh (i := i) (v := v) (by simpa using x)
    exact ih i v v' x y hr
  | tup cs cs' hs _ ih =>
    cases h2 with
    | flat _ h => simp [flat0] at h
    | tup cs c2 hs2 j =>
      refine .tup cs cs' hs fun i v v' x y => ?_
      obtain ⟨z, hz⟩ : ∃ z, c2[i]? = some z := ⟨_, Array.getElem?_eq_getElem (hs2 ▸ (Array.getElem?_eq_some_iff.1 x).1)⟩
      exact ih i v v' x y (j i v z x hz)
theorem ObR.cut {P : Program} {μ ν : M} {n : Nat} (hν : ∀ b, ν.V b → b < n) (hd : ν.d < n) {b : Nat} {o : CO} {u u2 : Obj} (h1 : ObR P μ b o u) (h2 : ObR P ν b o u2) : ObR P (μ.cut n) b o u := by
  cases o with
  | row cs wr gr =>
    obtain ⟨c1, T1, fz1, rfl, hf1, hc1, hz1⟩ := h1
    obtain ⟨c2, T2, fz2, rfl, hf2, hc2, hz2⟩ := h2
    refine ⟨c1, T1, fz1, rfl, hf1, fun i v x => ?_, hz1⟩
    obtain ⟨v', y, r1⟩ := hc1 i v x
    obtain ⟨_, _, r2⟩ := hc2 i v x
    exact ⟨v', y, r1.cut hν hd r2⟩
  | map es clock =>
    obtain ⟨es1, rfl, hl1, he1, hs1, hz1⟩ := h1
    obtain ⟨es2, rfl, hl2, he2, hs2, hz2⟩ := h2
    refine ⟨es1, rfl, hl1, fun i e e' x y => ?_, hs1, hz1⟩
    obtain ⟨z, hz⟩ : ∃ z, es2[i]? = some z := ⟨_, Array.getElem?_eq_getElem (hl2 ▸ (List.getElem?_eq_some_iff.1 x).1)⟩
    obtain ⟨a, b, c, d⟩ := he1 i e e' x y
    obtain ⟨_, _, _, d1⟩ := he2 i e z x hz
    exact ⟨a, b, c, d.cut hν hd d1⟩
  | loop r =>
    obtain ⟨fn1, tmps1, A1, B1, rfl, hfr1, hA1, hB1, hp1, hrd1, hs1, hV1, hz1⟩ := h1
    obtain ⟨fn2, tmps2, A2, B2, rfl, hfr2, hA2, hB2, hp2, hrd2, hs2, hV2, hz2⟩ := h2
    exact ⟨fn1, tmps1, A1, B1, rfl, ⟨hfr1.1, fun t => (hfr1.2 t).cut hν hd (hfr2.2 t)⟩, hA1, hB1, hp1, hrd1, hs1, ⟨hV1, hν _ hV2⟩, hz1⟩
  | mark => exact h1
  | gone => trivial
  | other => exact h1
theorem rds_mem {k : KOp} {fr : Nat → Value} {b : Nat} (h : b ∈ rds k fr) : k.mem = true := by cases k <;> first | rfl | (simp [rds] at h; done)
theorem isCall_mem {k : KOp} (h : isCall k = true) : k.mem = true := by cases k <;> first | rfl | (simp [isCall] at h; done)
theorem mem_openPairs {ops : Array Oper} {ks : List KOper} {i j : Nat} {x y : KOper} (hij : i < j) (hi : ks[i]? = some x) (hj : ks[j]? = some y) (hx : x.op.mem = true) (hy : y.op.mem = true) (hl : x.op.looks = false ∨ y.op.looks = false)
    (hb : ¬ ((Region.before ops).getD j 0).testBit i = true) : (i, j) ∈ openPairs ops ks := by
  have hjl : j < ks.length := (List.getElem?_eq_some_iff.1 hj).1
  unfold openPairs
  simp only [List.mem_flatten, List.mem_map, List.mem_range]
  refine ⟨_, ⟨j, hjl, rfl⟩, ?_⟩
  simp only [List.mem_filterMap, List.mem_range]
  refine ⟨i, hij, ?_⟩
  rw [hi, hj]
  simp only [hx, hy, Bool.true_and]
  rw [if_pos]
  have : ((Region.before ops).getD j 0).testBit i = false := by simpa using hb
  rw [this]
  rcases hl with h | h <;> simp [h]
theorem tmpsOk_inv {ops : Array Oper} (h : tmpsOk ops = true) {i j : Nat} {x y : Oper} (hij : i < j) (hi : ops[i]? = some x) (hj : ops[j]? = some y) : x.apart ops y = true ∨ ((Region.before ops).getD j 0).testBit i = true := by
  have hjl : j < ops.size := (Array.getElem?_eq_some_iff.1 hj).1
  unfold tmpsOk at h
  have h1 := List.all_eq_true.1 h j (by simp [hjl])
  have h2 := List.all_eq_true.1 h1 i (by simp [hij])
  rw [hi, hj] at h2
  simpa using h2
section
variable {P : Program} {n : Nat} {fi : FI} {ops : Array Oper} {ks : List KOper} {prs : List (Nat × Nat)} {S : Nat → St} {μ0 : M} {w0 : World} {a0 : Act} {m : Nat}
theorem AtT.same (R : RG P n fi ops ks prs S μ0 w0 a0 m) {D : Nat → Prop} {t k l : Nat} (h1 : AtT ks m D t k) (h2 : AtT ks m D t l) : (S k).fr t = (S l).fr t := by
  have step : ∀ i, i < m → (∀ ko, ks[i]? = some ko → ko.dst ≠ some t) → (S (i + 1)).fr t = (S i).fr t := by
    intro i hi hne
    obtain ⟨o, ko, _, hko, _, _, _, _⟩ := R.ko hi
    have hd := hne ko hko
    have hput : ∀ v, put (S i).fr ko.dst v t = (S i).fr t := fun v => by
      cases hh : ko.dst with
      | none => rfl
      | some d => simp only [put]; rw [if_neg]; exact fun h => hd (by rw [hh, h])
    cases hw : wantedK ko.guard (S i).fr with
    | true => obtain ⟨v, h', _, _, _, hS⟩ := R.sq.on i ko hko hw; rw [hS]; exact hput v
    | false => obtain ⟨_, hS⟩ := R.sq.off i ko hko hw; rw [hS]; exact hput undef
  have key : ∀ k l, k ≤ l → AtT ks m D t k → AtT ks m D t l → (S k).fr t = (S l).fr t := by
    intro k l hkl h1 h2
    refine (const_on (fun i => (S i).fr t) hkl fun i hk hl => step i (by have := h2.1; omega) ?_).symm
    intro ko hko hd
    have a := h1.2 i ko (by have := h2.1; omega) hko hd
    have b := h2.2 i ko (by have := h2.1; omega) hko hd
    have := a.1 (b.2 hl)
    omega
  rcases Nat.le_total k l with h | h
  · exact key k l h h1 h2
  · exact (key l k h h2 h1).symm
/-- What changes an object that was there before is a memory operation that does more than look. -/
theorem chg_mem (R : RG P n fi ops ks prs S μ0 w0 a0 m) {i b : Nat} (hi : i < m) (hb : b < (S i).h.length) (hc : Chg S i b) : ∃ ko, ks[i]? = some ko ∧ wantedK ko.guard (S i).fr = true ∧ ko.op.mem = true ∧ ko.op.looks = false := by
  obtain ⟨o, ko, _, hko, _, _, _, _⟩ := R.ko hi
  refine ⟨ko, hko, ?_⟩
  cases hw : wantedK ko.guard (S i).fr with
  | false => obtain ⟨_, hS⟩ := R.sq.off i ko hko hw; exact (hc (by rw [hS])).elim
  | true =>
    obtain ⟨v, h', q, _, hk, hS⟩ := R.sq.on i ko hko hw
    refine ⟨rfl, ?_⟩
    unfold kstep at hk
    split at hk
    · rename_i v1 e1 hop
      cases hk
      have hc' : (e1.on (S i).h)[b]? ≠ (S i).h[b]? := by have := hc; unfold Chg at this; rw [hS] at this; exact this
      exact (eff_chg (kop_eff hop) hb hc').2.2
    · rename_i f args hop
      obtain ⟨g, l, _, _, hh, _⟩ := kop_call_inv hop
      rw [hh]; exact ⟨rfl, rfl⟩
    · rename_i f args hop
      obtain ⟨g, l, _, _, hh, _⟩ := kop_yield_inv hop
      rw [hh]; exact ⟨rfl, rfl⟩
    · cases hk
/-- An object that the j-th operation sees is, when it comes up, as the text's run has it there. -/
theorem quiet (R : RG P n fi ops ks prs S μ0 w0 a0 m) {D : Nat → Prop} {μ : M} {w : World} {a : Act} (H : DI P fi ks S μ0 w0 a0 m D μ w a) (hE : EClosed ops D) {j : Nat} (hj : j < m) (hD : ¬ D j) {o : Oper} {ko : KOper} (ho : ops[j]? = some o) (hko : ks[j]? = some ko)
    (hready : ∀ e ∈ o.after.toList, Region.binds .any e = true → D e.on) (hw : wantedK ko.guard (S j).fr = true) {b : Nat} (hseen : isCall ko.op = true ∨ b ∈ rds ko.op (S j).fr) (hV : μ.V b) (hb : b < (S j).h.length) : At S m D b j := by
  refine ⟨by omega, fun i hi hc => ?_⟩
  have hjm : ko.op.mem = true := hseen.elim isCall_mem rds_mem
  -- the entry of j at b
  have clash : ∀ (x : LogE), x.hb = (S i).h → x.ha = (S (i + 1)).h → b < (S i).h.length → clean x.hb x.ha (LE S j ko) → False := by
    intro x h1 h2 hbi hcl
    unfold clean at hcl
    rw [h1, h2] at hcl
    split at hcl
    · obtain ⟨t, ht⟩ := hcl
      exact hc (by rw [← ht]; exact List.getElem?_append_left hbi)
    · rename_i hall
      rcases hseen with h | h
      · exact hall h
      · exact hc (hcl b h hbi)
  constructor
  · intro hDi
    false_or_by_contra
    rename_i hge
    have hne : i ≠ j := fun h => by subst h; exact hD hDi
    have hlt : j < i := by omega
    have hbi : b < (S i).h.length := Nat.lt_of_lt_of_le hb (R.mono (by omega) (by omega))
    obtain ⟨ki, hki, hwi, hm, hlk⟩ := chg_mem R hi hbi hc
    obtain ⟨oi, _, hoi, _⟩ := R.ko hi
    by_cases hbit : ((Region.before ops).getD i 0).testBit j = true
    · exact hD (before_done hE i j oi hoi (fun e he hbe => hE i oi hDi hoi e he hbe) hbit)
    · have hp := mem_openPairs hlt hko hki hjm hm (.inr hlk) hbit
      rw [← R.pr] at hp
      have := R.sq.ap j i ko ki hlt hko hki hw hwi hp
      exact clash (LE S i ki) rfl rfl hbi this.2
  · intro hlt
    by_cases hbi : b < (S i).h.length
    · obtain ⟨ki, hki, hwi, hm, hlk⟩ := chg_mem R hi hbi hc
      by_cases hbit : ((Region.before ops).getD j 0).testBit i = true
      · exact before_done hE j i o ho hready hbit
      · have hp := mem_openPairs hlt hki hko hm hjm (.inl hlk) hbit
        rw [← R.pr] at hp
        have := R.sq.ap i j ki ko hlt hki hko hwi hw hp
        exact (clash (LE S i ki) rfl rfl hbi this.1).elim
    · -- i lays it
      have hl : Lays S i b := by
        refine ⟨by omega, ?_⟩
        false_or_by_contra
        rename_i hge
        have h1 : (S i).h[b]? = none := by simp; omega
        have h2 : (S (i + 1)).h[b]? = none := by simp; omega
        exact hc (h2.trans h1.symm)
      rcases (H.V b).1 hV with h0 | ⟨i', hi', hDi', hl'⟩
      · have := R.sr.wr.lt b h0
        have := R.mono (i := 0) (j := i) (by omega) (by omega)
        have := hl.1; omega
      · have := R.lays_one hi hi' hl hl'
        subst this; exact hDi'
theorem looks_done (R : RG P n fi ops ks prs S μ0 w0 a0 m) {D : Nat → Prop} (hE : EClosed ops D) {j : Nat} (hj : j < m) (hD : ¬ D j) {o : Oper} (ho : ops[j]? = some o) (hready : ∀ e ∈ o.after.toList, Region.binds .any e = true → D e.on)
    {t : Nat} (ht : t ∈ o.looksAt ops ∨ o.dst = some t) {i : Nat} (hi : i < m) (hne : i ≠ j) {ki : KOper} (hki : ks[i]? = some ki) (hd : ki.dst = some t) : D i ↔ i < j := by
  obtain ⟨oi, ki', hoi, hki', _, _, hdi, _⟩ := R.ko hi
  rw [hki] at hki'; cases hki'
  rw [hdi] at hd
  constructor
  · intro hDi
    false_or_by_contra
    rename_i hge
    have hlt : j < i := by omega
    rcases tmpsOk_inv R.tok hlt ho hoi with h | h
    · obtain ⟨h1, h2, h3⟩ := Oper.apart_spec h
      rcases ht with ht | ht
      · exact h3 t hd ht
      · exact h2 t ht hd
    · exact hD (before_done hE i j oi hoi (fun e he hbe => hE i oi hDi hoi e he hbe) h)
  · intro hlt
    rcases tmpsOk_inv R.tok hlt hoi ho with h | h
    · obtain ⟨h1, h2, h3⟩ := Oper.apart_spec h
      rcases ht with ht | ht
      · exact (h1 t hd ht).elim
      · exact (h2 t hd ht).elim
    · exact before_done hE j i o ho hready h
theorem slot_rel (R : RG P n fi ops ks prs S μ0 w0 a0 m) {D : Nat → Prop} {μ : M} {w : World} {a : Act} (H : DI P fi ks S μ0 w0 a0 m D μ w a) (hE : EClosed ops D) {j : Nat} (hj : j < m) (hD : ¬ D j) {o : Oper} (ho : ops[j]? = some o) (hready : ∀ e ∈ o.after.toList, Region.binds .any e = true → D e.on)
    {t : Nat} (ht : t ∈ o.looksAt ops) : VRel μ ((S j).fr t) (a.tmps.getD t undef) := by
  obtain ⟨k, hk, hr⟩ := H.tm t
  have hjt : AtT ks m D t j := ⟨by omega, fun i ki hi hki hd => by
    by_cases hne : i = j
    · subst hne; exact ⟨fun h => (hD h).elim, fun h => by omega⟩
    · exact looks_done R hE hj hD ho hready (.inl ht) hi hne hki hd⟩
  rw [← hk.same R hjt]; exact hr
theorem slot_rho (R : RG P n fi ops ks prs S μ0 w0 a0 m) {D : Nat → Prop} {μ : M} {w : World} {a : Act} (H : DI P fi ks S μ0 w0 a0 m D μ w a) (hE : EClosed ops D) {j : Nat} (hj : j < m) (hD : ¬ D j) {o : Oper} (ho : ops[j]? = some o) (hready : ∀ e ∈ o.after.toList, Region.binds .any e = true → D e.on) :
    Rho μ o.op (S j).fr a.eval := by
  intro x hx kx hkx
  unfold cO at hkx
  split at hkx
  · cases hkx
    exact slot_rel R H hE hj hD ho hready (List.mem_append_left _ (List.mem_filterMap.2 ⟨_, by simpa using hx, rfl⟩))
  · split at hkx
    · rename_i hfl; cases hkx; exact vrel_flat2 hfl
    · cases hkx
  · cases hkx; exact .flat _ (by rfl)
  · split at hkx
    · rename_i g hg
      cases hkx
      have h0 := R.sr.wr.gl g hg
      have := VRel.ptr (μ := μ) g 0 (H.le.V g h0.1)
      rw [(H.le.f g h0.1).trans h0.2] at this
      exact this
    · cases hkx
theorem slot_guard (R : RG P n fi ops ks prs S μ0 w0 a0 m) {D : Nat → Prop} {μ : M} {w : World} {a : Act} (H : DI P fi ks S μ0 w0 a0 m D μ w a) (hE : EClosed ops D) {j : Nat} (hj : j < m) (hD : ¬ D j) {o : Oper} {ko : KOper} (ho : ops[j]? = some o) (hc : cOper P ops o = some ko) (hready : ∀ e ∈ o.after.toList, Region.binds .any e = true → D e.on) :
    ∀ d b, ko.guard = some (d, b) → VRel μ ((S j).fr d) (a.tmps.getD d undef) := by
  intro d b hg
  refine slot_rel R H hE hj hD ho hready (List.mem_append_right _ ?_)
  unfold cOper at hc
  split at hc
  · cases hc
  · split at hc
    · cases hc; cases hg
    · rename_i j' b' hog
      split at hc
      · rename_i d' hd'
        cases hc
        cases hg
        rw [hog]
        simp [hd']
      · cases hc
end
end Go.Canon
namespace Go.Canon
set_option linter.unusedVariables false
set_option linter.unusedSimpArgs false
open Go
open Classical
section
variable {P : Program} {n : Nat} {fi : FI} {ops : Array Oper} {ks : List KOper} {prs : List (Nat × Nat)} {S : Nat → St} {μ0 : M} {w0 : World} {a0 : Act} {m : Nat}
theorem loc_off {μ : M} {w : World} {j : Nat} (hS : (S (j + 1)).h = (S j).h) : Loc P S j (fun _ => False) μ w μ w := by
  have hno : ∀ b, ¬ Lays S j b := fun b hl => by have h1 := hl.1; have h2 := hl.2; rw [hS] at h2; omega
  exact ⟨.refl _, fun b => ⟨.inl, fun h => h.resolve_right (hno b)⟩, .refl _, Nat.le_refl _, fun b hb hc => (hc (by rw [hS])).elim, fun b h => h.elim, fun b o _ h => (h.elim id (hno b)).elim, fun _ _ _ => rfl, fun b h => (hno b h).elim, fun b c o q _ _ h => (h.elim id (hno b)).elim, fun b h => (hno b h).elim⟩
theorem loc_val {μ μ' : M} {w w' : World} {j : Nat} {e : Eff} {k : KOp} {fr : Nat → Value} (hS : (S (j + 1)).h = e.on (S j).h) (hr : Wrl P μ (S j).h.length w e w' μ') (he : EffOk k fr (S j).h e) (hbd : ∀ b, μ.V b → (μ.f b).1 < w.heap.size)
    (hVn : e.lays = true → ¬ μ.V (S j).h.length) : Loc P S j e.at μ w μ' w' := by
  have hlays : ∀ b, Lays S j b ↔ (e.lays = true ∧ b = (S j).h.length) := fun b => by
    unfold Lays
    rw [hS, on_len_eq]
    cases hl : e.lays
    · simp only [Bool.false_eq_true, false_and, if_false, iff_false]; omega
    · simp only [if_true, true_and]; omega
  have htl : ∀ b, e.at b → b < (S j).h.length := fun b hat => by
    obtain ⟨q, hq, _⟩ := at_chg he hat
    exact (List.getElem?_eq_some_iff.1 hq).1
  have hbdn : ∀ b, Lays S j b → (μ'.f b).1 < w'.heap.size := fun b hl => by
    obtain ⟨hly, rfl⟩ := (hlays b).1 hl
    obtain ⟨o, ho, hk⟩ := lays_at (h := (S j).h) hly
    obtain ⟨o', _, hh⟩ := hr.nw o hk
    rcases hh with ⟨_, hf, hlt⟩ | ⟨c, hc, hf, _⟩
    · rw [hf]; exact hlt
    · rw [hf]; exact Nat.lt_of_lt_of_le (hbd c (hr.atV c (by rw [hc]; rfl))) hr.sz
  refine ⟨hr.le, fun b => by rw [hr.V, hlays], hr.kin, hr.sz, fun b hb hc => ?_, htl, fun b o hV hb ho => ?_, fun c hc hfr => hr.keep c hc fun b hat hcb => ?_, fun b hl => ?_, fun b c o q hVb hVc hb hc ho hq hlo hlq hf => ?_, hbdn⟩
  · have hc' : (e.on (S j).h)[b]? ≠ (S j).h[b]? := by unfold Chg at hc; rw [hS] at hc; exact hc
    have := (eff_chg he hb hc').1
    exact ⟨hr.atV b this, this⟩
  · rw [hS] at ho
    rcases hb with hat | hl
    · have hV0 := hr.atV b hat
      rw [hr.le.f b hV0]
      cases e with
      | no => cases hat
      | new o => cases hat
      | upd c ob =>
        cases hat
        rw [on_upd (htl _ rfl)] at ho; cases ho
        obtain ⟨o', h1, h2⟩ := hr.upd b o rfl
        exact ⟨o', h1 (hbd b hV0), h2.mono hr.le hV0⟩
      | kill c ob =>
        cases hat
        rw [on_kill (htl _ rfl)] at ho; cases ho
        obtain ⟨o', h1⟩ := some_of_lt (Nat.lt_of_lt_of_le (hbd b hV0) hr.sz)
        exact ⟨o', h1, trivial⟩
    · obtain ⟨hl, rfl⟩ := (hlays b).1 hl
      obtain ⟨_, hk⟩ := lays_new (by omega) ho
      obtain ⟨o', hor, hh⟩ := hr.nw o hk
      refine ⟨o', ?_, hor⟩
      rcases hh with ⟨h1, hf, hlt⟩ | ⟨c, hc, hf, h1⟩
      · rw [hf]; exact h1
      · rw [hf]; exact h1 (hbd c (hr.atV c (by rw [hc]; rfl)))
  · obtain ⟨q, hq, hch⟩ := at_chg he hat
    exact hfr b q (hr.atV b hat) hat hq hch hcb.symm
  · obtain ⟨hly, rfl⟩ := (hlays b).1 hl
    obtain ⟨o, ho, hk⟩ := lays_at (h := (S j).h) hly
    obtain ⟨o', _, hh⟩ := hr.nw o hk
    rcases hh with ⟨_, hf, _⟩ | ⟨c, hc, hf, _⟩
    · exact .inl (by rw [hf]; exact Nat.le_refl _)
    · obtain ⟨q, hq, hch⟩ := at_chg (b := c) he (by rw [hc]; rfl)
      exact .inr ⟨c, q, hr.atV c (by rw [hc]; rfl), by rw [hc]; rfl, hq, hch, hf⟩
  · rw [hS] at ho hq
    have one : ∀ b c o q, (e.on (S j).h)[b]? = some o → (e.on (S j).h)[c]? = some q → live o = true → live q = true → e.at b → Lays S j c → False := fun b c o q ho hq hlo hlq hat hl => by
      obtain ⟨hl, rfl⟩ := (hlays c).1 hl
      cases e with
      | no => cases hat
      | new o => cases hat
      | upd c ob => cases hl
      | kill c ob =>
        cases hat
        rw [on_kill (htl _ rfl)] at ho; cases ho; cases hlo
    rcases hb with hb | hb <;> rcases hc with hc | hc
    · cases e with
      | no => cases hb
      | new o => cases hb
      | upd x ob => cases hb; cases hc; rfl
      | kill x ob => cases hb; cases hc; rfl
    · exact (one b c o q ho hq hlo hlq hb hc).elim
    · exact (one c b q o hq ho hlq hlo hc hb).elim
    · rw [((hlays b).1 hb).2, ((hlays c).1 hc).2]
/-- What an operation that is a call has told of, put to what was told of. -/
noncomputable def M.join (μ μc : M) (n : Nat) : M := { f := fun b => if b < n then μc.f b else μ.f b, V := fun b => μ.V b ∨ μc.V b, Z := fun b => if b < n then μc.Z b else μ.Z b, d := μ.d, hZ := fun b z S h => by split at h <;> exact M.hZ _ _ _ _ h }
theorem wr_cut (R : RG P n fi ops ks prs S μ0 w0 a0 m) {D : Nat → Prop} {μ : M} {w : World} {a : Act} (H : DI P fi ks S μ0 w0 a0 m D μ w a) {j : Nat} (hj : j < m) (hA : ∀ b, μ.V b → b < (S j).h.length → At S m D b j) : WR P (μ.cut (S j).h.length) (S j).h w := by
  obtain ⟨ν, wν, aν, hsν, hstν⟩ := R.tp j (by omega)
  have hd : ν.d = μ.d := hstν.le.d.trans H.le.d.symm
  have hdl : ν.d < (S j).h.length := (List.getElem?_eq_some_iff.1 hsν.wr.dd).1
  refine ⟨fun b o hV ho => ?_, fun b c o q hVb hVc ho hq hlo hlq hf => ?_, fun b hV => H.bd b hV.1, fun b hV => hV.2, fun hV => ?_, ?_, fun g hg => ⟨⟨H.le.V g (R.sr.wr.gl g hg).1, hsν.wr.lt g (hsν.wr.gl g hg).1⟩, (H.le.f g (R.sr.wr.gl g hg).1).trans (R.sr.wr.gl g hg).2⟩⟩
  · obtain ⟨k, hk, hob⟩ := H.ob b hV.1
    rw [← hk.same (hA b hV.1 hV.2)] at ho
    obtain ⟨o', h1, h2⟩ := hob o ho
    rw [hk.same (hA b hV.1 hV.2)] at ho
    have hVν : ν.V b := by
      rw [hstν.V]
      rcases (H.V b).1 hV.1 with h | ⟨i, hi, _, hl⟩
      · exact .inl h
      · exact .inr ⟨Nat.le_trans (R.mono (i := 0) (j := i) (by omega) (by omega)) hl.1, hV.2⟩
    obtain ⟨u2, _, h3⟩ := hsν.wr.ob b o hVν ho
    exact ⟨o', h1, h2.cut hsν.wr.lt hdl h3⟩
  · exact H.inj b c j j o q hVb.1 hVc.1 (hA b hVb.1 hVb.2) (hA c hVc.1 hVc.2) ho hq hlo hlq hf
  · have h1 : μ.V μ.d := hV.1
    rw [← hd] at h1
    rcases (H.V _).1 h1 with h | ⟨i, hi, _, hl⟩
    · rw [hstν.le.d] at h; exact R.sr.wr.nd h
    · have h0 : μ0.d < (S 0).h.length := (List.getElem?_eq_some_iff.1 R.sr.wr.dd).1
      have := R.mono (i := 0) (j := i) (by omega) (by omega)
      have := hl.1
      rw [hstν.le.d] at this; omega
  · show (S j).h[μ.d]? = _
    rw [← hd]; exact hsν.wr.dd
theorem loc_call (R : RG P n fi ops ks prs S μ0 w0 a0 m) {D : Nat → Prop} {μ μc : M} {w w' : World} {a : Act} (H : DI P fi ks S μ0 w0 a0 m D μ w a) {j : Nat} (hj : j < m) (hD : ¬ D j)
    (hst : Stp (μ.cut (S j).h.length) (S j).h w μc (S (j + 1)).h w') (hwr : WR P μc (S (j + 1)).h w') :
    Loc P S j (fun b => μ.V b ∧ b < (S j).h.length) μ w (μ.join μc (S (j + 1)).h.length) w' ∧ μc.le (μ.join μc (S (j + 1)).h.length) := by
  have hlen := hst.len
  have hold : ∀ b, μ.V b → b < (S (j + 1)).h.length → b < (S j).h.length := fun b hV hb => by
    false_or_by_contra
    rename_i hge
    exact H.nojV R hj hD ⟨by omega, hb⟩ hV
  have hc1 : ∀ b, μc.V b ↔ ((μ.V b ∧ b < (S j).h.length) ∨ Lays S j b) := fun b => hst.V b
  have hclt : ∀ b, μc.V b → b < (S (j + 1)).h.length := hwr.lt
  have hle2 : μc.le (μ.join μc (S (j + 1)).h.length) := ⟨fun b hV => .inr hV, fun b hV => by simp [M.join, hclt b hV], fun b hV => by simp [M.join, hclt b hV], by show μ.d = μc.d; exact hst.le.d.symm⟩
  have hfold : ∀ b, μ.V b → (μ.join μc (S (j + 1)).h.length).f b = μ.f b := fun b hV => by
    simp only [M.join]
    split
    · rename_i hb; exact hst.le.f b ⟨hV, hold b hV hb⟩
    · rfl
  have hZold : ∀ b, μ.V b → (μ.join μc (S (j + 1)).h.length).Z b = μ.Z b := fun b hV => by
    simp only [M.join]
    split
    · rename_i hb; exact hst.le.Z b ⟨hV, hold b hV hb⟩
    · rfl
  have hfnew : ∀ b, b < (S (j + 1)).h.length → (μ.join μc (S (j + 1)).h.length).f b = μc.f b := fun b hb => by simp [M.join, hb]
  have hside : ∀ b, (μ.join μc (S (j + 1)).h.length).V b → ((μ.V b ∧ b < (S j).h.length) ∨ Lays S j b) → μc.V b ∧ b < (S (j + 1)).h.length := fun b _ hb => by
    have := (hc1 b).2 hb
    exact ⟨this, hclt b this⟩
  refine ⟨⟨⟨fun b hV => .inl hV, hfold, hZold, rfl⟩, fun b => ?_, hst.kin, hst.frm.1, fun b hb hc => ?_, fun b h => h.2, fun b o hV hb ho => ?_, fun c hc hfr => ?_, fun b hl => ?_, fun b c o q hVb hVc hb hc ho hq hlo hlq hf => ?_, fun b hl => ?_⟩, hle2⟩
  · show μ.V b ∨ μc.V b ↔ _
    rw [hc1]
    constructor
    · rintro (h | h | h)
      · exact .inl h
      · exact .inl h.1
      · exact .inr h
    · rintro (h | h)
      · exact .inl h
      · exact .inr (.inr h)
  · have : μ.V b := by
      false_or_by_contra
      rename_i hV
      exact hc (hst.same b hb fun h => hV h.1)
    exact ⟨this, this, hb⟩
  · obtain ⟨h1, h2⟩ := hside b hV hb
    obtain ⟨o', h3, h4⟩ := hwr.ob b o h1 ho
    exact ⟨o', by rw [hfnew b h2]; exact h3, h4.mono hle2 h1⟩
  · refine hst.frm.2 c hc fun b o hV ho hf => ?_
    cases hch : chg o with
    | false => rfl
    | true => exact (hfr b o hV.1 hV ho hch hf).elim
  · have h1 := (hc1 b).2 (.inr hl)
    have h2 := hclt b h1
    rw [hfnew b h2]
    rcases hst.nw b h1 (fun h => by have := hl.1; have := h.2; omega) with h | ⟨c, o, hVc, ho, hch, hf⟩
    · exact .inl h
    · exact .inr ⟨c, o, hVc.1, hVc, ho, hch, hf⟩
  · obtain ⟨h1, h2⟩ := hside b hVb hb
    obtain ⟨h3, h4⟩ := hside c hVc hc
    rw [hfnew b h2, hfnew c h4] at hf
    exact hwr.inj b c o q h1 h3 ho hq hlo hlq hf
  · have h1 := (hc1 b).2 (.inr hl)
    rw [hfnew b (hclt b h1)]
    exact hwr.bd b h1
/-- All is done. -/
theorem DI.final (R : RG P n fi ops ks prs S μ0 w0 a0 m) {D : Nat → Prop} {μ : M} {w : World} {a : Act} (H : DI P fi ks S μ0 w0 a0 m D μ w a) (hall : ∀ i, i < m → D i) : SR P μ fi (S m) w a ∧ Stp μ0 (S 0).h w0 μ (S m).h w := by
  obtain ⟨ν, wν, aν, hsν, hstν⟩ := R.tp m (Nat.le_refl _)
  have hat : ∀ b, At S m D b m := fun b => ⟨Nat.le_refl _, fun i hi _ => ⟨fun _ => hi, fun _ => hall i hi⟩⟩
  have hatT : ∀ t, AtT ks m D t m := fun b => ⟨Nat.le_refl _, fun i _ hi _ _ => ⟨fun _ => hi, fun _ => hall i hi⟩⟩
  have hmks : ∀ j, j ≤ m → (S j).mks = (S 0).mks := fun j => by
    induction j with
    | zero => exact fun _ => rfl
    | succ j ih =>
      intro hj
      obtain ⟨o, ko, _, hko, _⟩ := R.ko (j := j) (by omega)
      rw [← ih (by omega)]
      cases hw : wantedK ko.guard (S j).fr with
      | true => obtain ⟨v, h', _, _, _, hS⟩ := R.sq.on j ko hko hw; rw [hS]
      | false => obtain ⟨_, hS⟩ := R.sq.off j ko hko hw; rw [hS]
  have hdl : μ0.d < (S 0).h.length := (List.getElem?_eq_some_iff.1 R.sr.wr.dd).1
  refine ⟨⟨⟨fun b o hV ho => ?_, fun b c o q hVb hVc ho hq hlo hlq hf => H.inj b c m m o q hVb hVc (hat b) (hat c) ho hq hlo hlq hf, H.bd, fun b hV => ?_, fun hV => ?_, ?_, fun g hg => ⟨H.le.V g (R.sr.wr.gl g hg).1, (H.le.f g (R.sr.wr.gl g hg).1).trans (R.sr.wr.gl g hg).2⟩⟩, ⟨H.sz, fun t => ?_⟩, ?_, ?_, ?_, fun l hl => H.le.V l (R.sr.rl l hl)⟩, ⟨H.le, hstν.len, fun b => ?_, hstν.same, hstν.fro, H.nw, H.frm, H.kin⟩⟩
  · obtain ⟨k, hk, hob⟩ := H.ob b hV
    exact hob o (by rw [hk.same (hat b)]; exact ho)
  · rcases (H.V b).1 hV with h | ⟨i, hi, _, hl⟩
    · exact Nat.lt_of_lt_of_le (R.sr.wr.lt b h) (R.mono (by omega) (Nat.le_refl _))
    · exact Nat.lt_of_lt_of_le hl.2 (R.mono (by omega) (Nat.le_refl _))
  · rw [H.le.d] at hV
    rcases (H.V _).1 hV with h | ⟨i, hi, _, hl⟩
    · exact R.sr.wr.nd h
    · have := R.mono (i := 0) (j := i) (by omega) (by omega)
      have := hl.1; omega
  · rw [H.le.d, ← hstν.le.d]; exact hsν.wr.dd
  · obtain ⟨k, hk, hr⟩ := H.tm t
    rw [← hk.same R (hatT t)]; exact hr
  · rw [H.de, R.sr.de, hmks m (Nat.le_refl _)]
    exact List.map_congr_left fun q hq => by rw [H.le.f q (R.sr.mV q hq)]
  · rw [hmks m (Nat.le_refl _)]; exact R.sr.nd
  · rw [hmks m (Nat.le_refl _)]; exact fun q hq => H.le.V q (R.sr.mV q hq)
  · rw [H.V]
    refine or_congr_right ⟨fun ⟨i, hi, _, hl⟩ => ⟨Nat.le_trans (R.mono (i := 0) (j := i) (by omega) (by omega)) hl.1, Nat.lt_of_lt_of_le hl.2 (R.mono (by omega) (Nat.le_refl _))⟩, fun ⟨h1, h2⟩ => ?_⟩
    obtain ⟨i, hi, hl⟩ := R.laid (Nat.le_refl _) h1 h2
    exact ⟨i, hi, hall i hi, hl⟩
theorem DI.start (R : RG P n fi ops ks prs S μ0 w0 a0 m) : DI P fi ks S μ0 w0 a0 m (fun _ => False) μ0 w0 a0 where
  le := .refl _
  V := fun b => ⟨.inl, fun h => h.elim id fun ⟨_, _, h, _⟩ => h.elim⟩
  ob := fun b hV => ⟨0, ⟨Nat.zero_le _, fun i _ _ => ⟨fun h => h.elim, fun h => by omega⟩⟩, fun o ho => R.sr.wr.ob b o hV ho⟩
  inj := fun b c k l o q hVb hVc hAb hAc ho hq hlo hlq hf => by
    have h0 : ∀ b, At S m (fun _ => False) b 0 := fun b => ⟨Nat.zero_le _, fun i _ _ => ⟨fun h => h.elim, fun h => by omega⟩⟩
    rw [hAb.same (h0 b)] at ho
    rw [hAc.same (h0 c)] at hq
    exact R.sr.wr.inj b c o q hVb hVc ho hq hlo hlq hf
  bd := R.sr.wr.bd
  nc := fun _ _ _ h _ => h.elim
  sz := R.sr.fr.1
  tm := fun t => ⟨0, ⟨Nat.zero_le _, fun i _ _ _ _ => ⟨fun h => h.elim, fun h => by omega⟩⟩, R.sr.fr.2 t⟩
  de := rfl
  frm := ⟨Nat.le_refl _, fun _ _ _ => rfl⟩
  nw := fun b h h' => absurd h h'
  kin := .refl _
end
end Go.Canon
namespace Go.Canon
set_option linter.unusedVariables false
set_option linter.unusedSimpArgs false
open Go
open Classical
section
variable {P : Program} {n : Nat} {fi : FI} {ops : Array Oper} {ks : List KOper} {prs : List (Nat × Nat)} {S : Nat → St} {μ0 : M} {w0 : World} {a0 : Act} {m : Nat}
/-- An operation that comes up. -/
theorem any_step {N : Nat} {F : Fence} (hF : IsF F) (R : RG P n fi ops ks prs S μ0 w0 a0 m) (hIH : ∀ q, q < n → OKCall P q ∧ OKRound P q) {D : Nat → Prop} {μ : M} {w : World} {a : Act} (H : DI P fi ks S μ0 w0 a0 m D μ w a) (hE : EClosed ops D) {j : Nat} (hj : j < m) (hD : ¬ D j) {o : Oper} (ho : ops[j]? = some o)
    (hready : ∀ e ∈ o.after.toList, Region.binds .any e = true → D e.on) {K : Act → World → Prop} {Q : Exit → Act → World → Prop} (next : ∀ μ' w' a', DI P fi ks S μ0 w0 a0 m (fun i => D i ∨ i = j) μ' w' a' → K a' w') : wpOpIn F N P ops Q j K a w := by
  obtain ⟨o', ko, ho', hko, hco, hc, hdk, hdn⟩ := R.ko hj
  rw [ho] at ho'; cases ho'
  have hT : ∀ i ki t, i < m → i ≠ j → ks[i]? = some ki → ki.dst = some t → ko.dst = some t → (D i ↔ i < j) := fun i ki t hi hne hki hd hd2 => looks_done R hE hj hD ho hready (.inr (hdk ▸ hd2)) hi hne hki hd
  have hρ := slot_rho R H hE hj hD ho hready
  have hgd := slot_guard R H hE hj hD ho hco hready
  unfold wpOpIn
  simp only [ho]
  cases hw : wantedK ko.guard (S j).fr with
  | false =>
    obtain ⟨ht, hS⟩ := R.sq.off j ko hko hw
    rw [guard_rel hco hgd (.inr ht), hw]
    simp only [Bool.false_eq_true, if_false]
    refine ⟨fun f _ => hF.fn f, ?_⟩
    rw [← hdk]
    exact next μ w _ (H.step R hj hD (loc_off (by rw [hS])) (fun b _ h => h.elim) hko hT hdn (v := undef) (by rw [hS]) (vrel_undef μ))
  | true =>
    rw [guard_rel hco hgd (.inl hw), hw]
    simp only [if_true]
    obtain ⟨v, h', q, hq, hk, hS⟩ := R.sq.on j ko hko hw
    have hSh : (S (j + 1)).h = h' := by rw [hS]
    have hSf : (S (j + 1)).fr = put (S j).fr ko.dst v := by rw [hS]
    have hk0 := hk
    unfold kstep at hk
    split at hk
    · rename_i v1 e1 hop
      cases hk
      have hlaysV : e1.lays = true → ¬ μ.V (S j).h.length := fun hl => H.nojV R hj hD ⟨Nat.le_refl _, by rw [hSh, on_len_eq, hl]; simp⟩
      obtain ⟨ν, wν, aν, hsν, hstν⟩ := R.tp j (by omega)
      have hd : ν.d = μ.d := hstν.le.d.trans H.le.d.symm
      have hdd : ∀ cs wr z, (S j).h[μ.d]? ≠ some (.row cs wr (some z)) := by rw [← hd]; exact wr_hd hsν.wr
      have hrd : Rds P μ ko.op (S j).fr (S j).h w := by
        intro b hb hV ob hob
        have hbl := (List.getElem?_eq_some_iff.1 hob).1
        have hat := quiet R H hE hj hD ho hko hready hw (.inr hb) hV hbl
        obtain ⟨k, hk, hobk⟩ := H.ob b hV
        exact hobk ob (by rw [hk.same hat]; exact hob)
      obtain ⟨v', w', μ', hrun, hdid, hv⟩ := kop_sim hlaysV hdd hc hρ hrd hop
      have hl := hdid.wrl hlaysV
      have he := kop_eff hop
      have L := loc_val (P := P) (S := S) (j := j) hSh hl he H.bd hlaysV
      have hA : ∀ b, μ.V b → e1.at b → At S m D b j := fun b hV hat => by
        obtain ⟨q, hq, _⟩ := at_chg he hat
        have hb : b ∈ rds ko.op (S j).fr := by
          cases e1 with
          | no => cases hat
          | new o => cases hat
          | upd c o => cases hat; exact he.1
          | kill c o => cases hat; exact he.1
        exact quiet R H hE hj hD ho hko hready hw (.inr hb) hV (List.getElem?_eq_some_iff.1 hq).1
      have hn := next μ' w' _ (H.step R hj hD L hA hko hT hdn hSf hv)
      refine ⟨fun f _ => hF.fn f, ?_⟩
      rw [Oper.semAt_eq _ _ _ (no_defer hc)]
      rcases hrun with hrun | ⟨rfl, hrun⟩
      · rw [hrun, Oper.uponIn_value, ← hdk]; exact hn
      · rw [hrun, Oper.uponIn_skip, ← hdk]; exact hn
    all_goals first | (cases hk; done) | skip
    all_goals
      rename_i f args hop
      have hcall : isCall ko.op = true := by
        first
          | (obtain ⟨_, _, _, _, hh, _⟩ := kop_call_inv hop; rw [hh]; rfl)
          | (obtain ⟨_, _, _, _, hh, _⟩ := kop_yield_inv hop; rw [hh]; rfl)
      have hA : ∀ b, μ.V b → b < (S j).h.length → At S m D b j := fun b hV hb => quiet R H hE hj hD ho hko hready hw (.inl hcall) hV hb
      have hwc := wr_cut R H hj hA
      obtain ⟨ν, wν, aν, hsν, hstν⟩ := R.tp j (by omega)
      have hdl : ν.d < (S j).h.length := (List.getElem?_eq_some_iff.1 hsν.wr.dd).1
      have hρc : Rho (μ.cut (S j).h.length) o.op (S j).fr a.eval := fun x hx kx hkx => (hρ x hx kx hkx).cut hsν.wr.lt hdl (frel_operand hsν.wr.gl hsν.fr hkx)
      have hnext : ∀ μc w' v', Stp (μ.cut (S j).h.length) (S j).h w μc h' w' → WR P μc h' w' → VRel μc v v' → K (a.put o.dst v') w' := by
        intro μc w' v' h1 h2 h3
        rw [← hSh] at h1 h2
        obtain ⟨L, hle⟩ := loc_call R H hj hD h1 h2
        rw [← hdk]
        exact next _ w' _ (H.step R hj hD L (fun b _ h => hA b h.1 h.2) hko hT hdn hSf (h3.mono hle))
      first
        | exact call_op hF (hIH q hq).1 hc hop hk hwc hρc hnext
        | exact yield_op hF (hIH q hq).2 hc hop hk hwc hρc hnext
/-- What is listed. -/
def Dl (listed : Array Bool) (i : Nat) : Prop := listed.getD i false = true
theorem Dl_set {listed : Array Bool} {j : Nat} (hj : j < listed.size) : Dl (listed.setIfInBounds j true) = fun i => Dl listed i ∨ i = j := by
  funext i
  apply propext
  unfold Dl
  by_cases h : i = j
  · subst h; simp [hj]
  · rw [getD_set_ne false (Ne.symm h)]; simp [h]
theorem count_set {listed : Array Bool} {j : Nat} (hj : listed[j]? = some false) : (listed.setIfInBounds j true).toList.count false + 1 = listed.toList.count false := by
  have hlt : j < listed.size := (Array.getElem?_eq_some_iff.1 hj).1
  have hv : listed.toList[j]'(by simpa using hlt) = false := by
    have := (Array.getElem?_eq_some_iff.1 hj).2; simpa using this
  rw [Array.toList_setIfInBounds, List.count_set (by simpa using hlt), hv]
  have hp : 0 < listed.toList.count false := List.count_pos_iff.2 (hv ▸ List.getElem_mem _)
  generalize listed.toList.count false = c at hp ⊢
  simp
  omega
theorem any_sound {N : Nat} {F : Fence} (hF : IsF F) (R : RG P n fi ops ks prs S μ0 w0 a0 m) (hIH : ∀ q, q < n → OKCall P q ∧ OKRound P q) {Q : Exit → Act → World → Prop} (next : ∀ μ' w' a', Stp μ0 (S 0).h w0 μ' (S m).h w' → SR P μ' fi (S m) w' a' → Q .normal a' w') :
    ∀ (fuel : Nat) (listed : Array Bool) (μ : M) (w : World) (a : Act), listed.size = m → listed.toList.count false = fuel → DI P fi ks S μ0 w0 a0 m (Dl listed) μ w a → EClosed ops (Dl listed) →
      wpAnyIn F N P .any ops Q fuel listed a w := by
  -- what is not listed is ready, once all before it is
  have least : ∀ listed : Array Bool, listed.size = m → Region.ready .any ops listed = [] → ∀ i, i < m → Dl listed i := by
    intro listed hs hr i
    induction i using Nat.strongRecOn with
    | _ i ih =>
      intro hi
      false_or_by_contra
      rename_i hD
      obtain ⟨o, ko, ho, _⟩ := R.ko hi
      have : i ∈ Region.ready .any ops listed := by
        rw [mem_ready]
        refine ⟨?_, o, ho, fun e he hb => ?_⟩
        · unfold Dl at hD
          have hi' : i < listed.size := by omega
          rw [Array.getD_eq_getD_getElem?, Array.getElem?_eq_getElem hi'] at hD ⊢
          simpa using hD
        · have hilt : i < ops.size := by rw [R.ol]; exact hi
          have h1 := List.all_eq_true.1 R.eok i (by simpa using hilt)
          rw [ho] at h1
          simp only [Bool.and_eq_true] at h1
          obtain ⟨q, hq, rfl⟩ := Array.getElem_of_mem he
          have h2 := Array.all_eq_true.1 h1.1 q hq
          simp only [hb, Bool.not_true, Bool.false_or, decide_eq_true_eq] at h2
          exact ih _ h2 (by omega)
      rw [hr] at this; cases this
  intro fuel
  induction fuel with
  | zero =>
    intro listed μ w a hs hc H hE
    have hall : ∀ i, i < m → Dl listed i := fun i hi => by
      unfold Dl
      have hi' : i < listed.size := by omega
      rw [Array.getD_eq_getD_getElem?, Array.getElem?_eq_getElem hi']
      cases hb : listed[i] with
      | true => rfl
      | false =>
        have : false ∈ listed.toList := by rw [← hb]; simp
        have := List.count_pos_iff.2 this
        omega
    obtain ⟨h1, h2⟩ := H.final R hall
    refine ⟨?_, next μ w a h2 h1⟩
    rw [List.eq_nil_iff_forall_not_mem]
    intro i hi
    rw [mem_ready] at hi
    obtain ⟨h0, o, ho, _⟩ := hi
    have him : i < m := by rw [← R.ol]; exact (Array.getElem?_eq_some_iff.1 ho).1
    have := hall i him
    unfold Dl at this
    have hi' : i < listed.size := by omega
    rw [Array.getD_eq_getD_getElem?, Array.getElem?_eq_getElem hi'] at this h0
    simp at this h0
    rw [this] at h0; cases h0
  | succ fuel ih =>
    intro listed μ w a hs hc H hE
    refine ⟨fun hr => ?_, fun j hj => ?_⟩
    · obtain ⟨h1, h2⟩ := H.final R (least listed hs hr)
      exact next μ w a h2 h1
    · rw [mem_ready] at hj
      obtain ⟨h0, o, ho, hall⟩ := hj
      have hjm : j < m := by rw [← R.ol]; exact (Array.getElem?_eq_some_iff.1 ho).1
      have hj' : j < listed.size := by omega
      have hf : listed[j]? = some false := by
        rw [Array.getD_eq_getD_getElem?, Array.getElem?_eq_getElem hj'] at h0
        rw [Array.getElem?_eq_getElem hj']
        simp at h0 ⊢; exact h0
      have hD : ¬ Dl listed j := by unfold Dl; rw [Array.getD_eq_getD_getElem?, hf]; simp
      have hready : ∀ e ∈ o.after.toList, Region.binds .any e = true → Dl listed e.on := fun e he hb => hall e (by simpa using he) hb
      refine any_step hF R hIH H hE hjm hD ho hready fun μ' w' a' H' => ?_
      rw [← Dl_set hj'] at H'
      refine ih _ μ' w' a' (by simp [hs]) (by have := count_set hf; omega) H' ?_
      intro i oi hi hoi e he hb
      rw [Dl_set hj'] at hi ⊢
      rcases hi with hi | rfl
      · exact .inl (hE i oi hi hoi e he hb)
      · rw [ho] at hoi; cases hoi
        exact .inl (hready e he hb)
end
/-- A region. -/
theorem region_sound {P : Program} {n : Nat} {fi : FI} {id : Nat} {ops : Array Oper} {draw : Bool} {ks : List KOper} {prs : List (Nat × Nat)} {N : Nat} {F : Fence} {s s' : St} {μ : M} {w : World} {a : Act} {Q : Exit → Act → World → Prop} (hm : P.follows .mixedOrders = true) (hF : IsF F)
    (hc : cC P fi.nt (.region id ops draw) = some (.reg ks prs)) (hIH : ∀ q, q < n → OKCall P q ∧ OKRound P q) (hk : kops (tab P) n fi prs 0 [] ks s = some s') (hs : SR P μ fi s w a)
    (next : ∀ μ' w' a', Stp μ s.h w μ' s'.h w' → SR P μ' fi s' w' a' → Q .normal a' w') : (Code.region id ops draw).wpIn F N P Q a w := by
  simp only [cC] at hc
  split at hc
  · rename_i ks' hks
    split at hc
    · rename_i hcond
      cases hc
      simp only [Bool.and_eq_true] at hcond
      obtain ⟨hdst, hdr⟩ := hcond
      cases draw with
      | false =>
        refine wpIn_region ?_
        rw [List.range_eq_range']
        exact ops_sound hF hks hdst ops.size 0 n [] s μ w a (by omega) (by simpa using hk) hIH hs next
      | true =>
        simp only [Bool.not_true, Bool.false_or, Bool.and_eq_true, if_true] at hdr hk
        refine wpIn_region_any hm ?_
        obtain ⟨hwd, hstd⟩ := wr_drew hs.wr (w.drawn + 1)
        have hs0 : SR P μ fi s { w with drawn := w.drawn + 1 } a := ⟨hwd, hs.fr, hs.de, hs.nd, hs.mV, hs.rl⟩
        obtain ⟨S, hS0, hSm, hSq⟩ := kops_seq hk
        subst hS0
        have hlen : ks.length = ops.size := by have := (mapM_some hks).1; simpa using this.symm
        have htp := text_pass hks hdst hSq hIH hs0
        have R : RG P n fi ops ks (openPairs ops ks) S μ { w with drawn := w.drawn + 1 } a ops.size := by
          refine ⟨hks, hdst, hlen, rfl, hSq, rfl, hdr.1, hdr.2, fun j hj => htp j (by omega), fun j hj => ?_, hs0⟩
          obtain ⟨ν, wν, aν, h1, h2⟩ := htp j (by omega)
          obtain ⟨hln, hget⟩ := mapM_some hks
          obtain ⟨ko, hko, hkget⟩ := hget j ops[j] (by simp [hj])
          obtain ⟨hcj, hdk⟩ := cOper_inv hko
          cases hw : wantedK ko.guard (S j).fr with
          | false => obtain ⟨_, hS⟩ := hSq.off j ko hkget hw; rw [hS]; exact ⟨Nat.le_refl _, fun _ _ h _ => h⟩
          | true =>
            obtain ⟨v, h', q, hq, hkst, hS⟩ := hSq.on j ko hkget hw
            obtain ⟨μ', w', v', g1, _, _⟩ := op_reach (a := aν) (hIH q hq).1 (hIH q hq).2 hcj hkst h1.wr (frel_rho h1.wr.gl h1.fr _)
            rw [hS]
            exact ⟨g1.len, g1.fro⟩
        refine any_sound hF R hIH ?_ ops.size (Array.replicate ops.size false) μ _ a (by simp) (by simp) ?_ ?_
        · intro μ' w' a' h1 h2
          rw [← hlen, hSm] at h1 h2
          exact next μ' w' a' (hstd.trans hs.wr.lt h1) h2
        · have : Dl (Array.replicate ops.size false) = fun _ => False := by
            funext i
            apply propext
            unfold Dl
            simp [Array.getD_eq_getD_getElem?, Array.getElem?_replicate]
            split <;> simp
          rw [this]
          exact DI.start R
        · intro i o hi
          exfalso
          unfold Dl at hi
          simp only [Array.getD_eq_getD_getElem?, Array.getElem?_replicate] at hi
          split at hi <;> simp at hi
    · cases hc
  · cases hc
end Go.Canon
namespace Go.Canon
set_option linter.unusedVariables false
set_option linter.unusedSimpArgs false
open Go
open Classical
variable {P : Program} {w w' : World} {μ μ' : M} {fr : Nat → Value} {h h' : Heap} {n : Nat}
/-- One result, as it is handed back. -/
def resSem (tmps : Array Value) : ResultVar → Sem Value
  | .tmp t => pure (tmps.getD t undef)
  | .cell a t => do loadVar t (← asAddr (tmps.getD a undef))
theorem results_eq (fn : Func) (tmps : Array Value) : results fn tmps = (do
    let vs ← fn.results.mapM (resSem tmps)
    pure (if h : vs.size = 1 then vs[0] else .tuple vs)) := by
  unfold results
  congr 1
theorem resOf_run {nt : Nat} {tmps : Array Value} {r : ResultVar} {kr : KRes} {v : Value} (hr : cRes P r = some kr) (hf : FRel μ nt fr tmps) (hw : WR P μ h w) (hv : resOf h fr kr = some v) : ∃ v', (resSem tmps r).run P w = .ok v' w ∧ VRel μ v v' := by
  cases r with
  | tmp t =>
    simp only [cRes] at hr; cases hr
    simp only [resOf] at hv; cases hv
    exact ⟨_, rfl, hf.2 t⟩
  | cell t T =>
    simp only [cRes, Option.map_eq_some_iff] at hr
    obtain ⟨f, hf', rfl⟩ := hr
    simp only [resOf] at hv
    split at hv
    · rename_i a ha
      have hr := hf.2 t
      rw [ha] at hr
      obtain ⟨hsp, hV, hρx⟩ := vrel_ptr hr
      obtain ⟨b, off, sp⟩ := a
      simp only at hsp hV hρx; subst hsp
      have hob : ∀ ob, h[b]? = some ob → ∃ o', w.heap[(μ.f b).1]? = some o' ∧ ObR P μ b ob o' := fun ob hb => hw.ob b ob hV hb
      obtain ⟨d, hd, ⟨hag, m, rfl, hs⟩ | ⟨hag, rfl, hs⟩⟩ := tyForm_cases hf'
      · dsimp only at hv
        rw [Option.map_eq_some_iff] at hv
        obtain ⟨cs, hcs, rfl⟩ := hv
        obtain ⟨l', hl, hlen, hcell⟩ := rowGet_rel (P := P) (w := w) hcs hob
        refine ⟨.agg l'.toArray, ?_, hl.agg⟩
        simp only [resSem, hρx, asAddr, Sem.run_bind, Sem.run_pure, Result.andThen_ok, loadVar, r_isAgg hd, hag, if_true, r_sizeOf hs, run_loadCells_at hlen hcell]
      · dsimp only at hv
        split at hv
        · rename_i u rest hcs
          cases hv
          obtain ⟨l', hl, hlen, hcell⟩ := rowGet_rel (P := P) (w := w) hcs hob
          obtain ⟨u', hu', hru⟩ := hl.get (i := 0) (v := v) rfl
          refine ⟨u', ?_, hru⟩
          have hc1 := hcell 0 u' hu'
          simp only [resSem, hρx, asAddr, Sem.run_bind, Sem.run_pure, Result.andThen_ok, loadVar, r_isAgg hd, hag, Bool.false_eq_true, if_false, run_load]
          simp only [Nat.add_zero] at hc1
          rw [hc1]
        · cases hv
    · cases hv
theorem resList_run {nt : Nat} {tmps : Array Value} (hf : FRel μ nt fr tmps) (hw : WR P μ h w) : ∀ (l : List ResultVar) (ks : List KRes) (vs : List Value), l.mapM (cRes P) = some ks → ks.mapM (resOf h fr) = some vs →
    ∃ vs', (l.mapM (resSem tmps)).run P w = .ok vs' w ∧ VRels μ vs vs'
  | [], ks, vs, h1, h2 => by
    simp at h1; subst h1
    simp at h2; subst h2
    exact ⟨[], rfl, .nil μ⟩
  | r :: l, ks, vs, h1, h2 => by
    rw [List.mapM_cons] at h1
    cases hr : cRes P r with
    | none => rw [hr] at h1; cases h1
    | some kr =>
      rw [hr] at h1
      cases hl : l.mapM (cRes P) with
      | none => rw [hl] at h1; cases h1
      | some kl =>
        rw [hl] at h1; cases h1
        rw [List.mapM_cons] at h2
        cases hv : resOf h fr kr with
        | none => rw [hv] at h2; cases h2
        | some v =>
          rw [hv] at h2
          cases hvl : kl.mapM (resOf h fr) with
          | none => rw [hvl] at h2; cases h2
          | some vl =>
            rw [hvl] at h2; cases h2
            obtain ⟨v', e1, r1⟩ := resOf_run hr hf hw hv
            obtain ⟨vl', e2, r2⟩ := resList_run hf hw l kl vl hl hvl
            refine ⟨v' :: vl', ?_, .cons r1 r2⟩
            simp only [List.mapM_cons, Sem.run_bind, e1, e2, Result.andThen_ok, Sem.run_pure]
theorem results_run {nt : Nat} {tmps : Array Value} {fn : Func} {ks : List KRes} {v : Value} (hf : FRel μ nt fr tmps) (hw : WR P μ h w) (h1 : fn.results.toList.mapM (cRes P) = some ks) (h2 : resultsK h fr ks = some v) :
    ∃ v', (results fn tmps).run P w = .ok v' w ∧ VRel μ v v' := by
  unfold resultsK at h2
  have hmap : ∀ vs, ks.mapM (resOf h fr) = some vs → ∃ vs', (fn.results.mapM (resSem tmps)).run P w = .ok vs'.toArray w ∧ VRels μ vs vs' := by
    intro vs hvs
    obtain ⟨vs', e, r⟩ := resList_run hf hw _ _ _ h1 hvs
    refine ⟨vs', ?_, r⟩
    have : fn.results.mapM (resSem tmps) = List.toArray <$> fn.results.toList.mapM (resSem tmps) := by
      conv => lhs; rw [← Array.toArray_toList (xs := fn.results)]
      exact List.mapM_toArray
    rw [this, Sem.run_map, e]; rfl
  rw [results_eq]
  split at h2
  · rename_i u hu
    cases h2
    obtain ⟨vs', e, r⟩ := hmap _ hu
    match vs', r, e with
    | [], r, _ => have := r.1; simp at this
    | [v'], r, e => exact ⟨v', by simp only [Sem.run_bind, e, Result.andThen_ok, Sem.run_pure]; simp, r.head⟩
    | _ :: _ :: _, r, _ => have := r.1; simp at this
  · rename_i vs hne hu
    cases h2
    obtain ⟨vs', e, r⟩ := hmap _ hu
    refine ⟨.tuple vs'.toArray, ?_, r.tup⟩
    simp only [Sem.run_bind, e, Result.andThen_ok, Sem.run_pure]
    rw [dif_neg]
    intro h
    match vs, vs', r, h with
    | [], [_], r, _ => have := r.1; simp at this
    | [x], _, _, _ => exact hne x rfl
    | _ :: _ :: _, [_], r, _ => have := r.1; simp at this
    | _, [], _, h => simp at h
    | _, _ :: _ :: _, _, h => simp at h
  · cases h2
/-- The marks, closed. -/
def closed (h : Heap) (ms : List Nat) : Heap := ms.foldl (fun h m => h.set m .gone) h
theorem closed_get {b : Nat} : ∀ (ms : List Nat) (h : Heap), b ∉ ms → (closed h ms)[b]? = h[b]?
  | [], h, _ => rfl
  | m :: ms, h, hb => by
    simp only [List.mem_cons, not_or] at hb
    show (closed (h.set m .gone) ms)[b]? = _
    rw [closed_get ms _ hb.2, List.getElem?_set_ne (Ne.symm hb.1)]
theorem rowGet_closed {a : Addr} {k : Nat} {l : List Value} {ms : List Nat} (hm : ∀ m ∈ ms, h[m]? = some .mark) (hg : rowGet h a k = some l) : rowGet (closed h ms) a k = some l := by
  have : (closed h ms)[a.block]? = h[a.block]? := closed_get ms h fun hh => by
    have := hm _ hh
    unfold rowGet at hg
    rw [this] at hg; cases hg
  unfold rowGet at hg ⊢
  rw [this]; exact hg
theorem resOf_closed {kr : KRes} {v : Value} {ms : List Nat} (hm : ∀ m ∈ ms, h[m]? = some .mark) (hv : resOf h fr kr = some v) : resOf (closed h ms) fr kr = some v := by
  cases kr with
  | tmp t => exact hv
  | cell t f =>
    simp only [resOf] at hv ⊢
    split at hv
    · rename_i a ha
      cases f with
      | none =>
        dsimp only at hv ⊢
        split at hv
        · rename_i u rest hg; rw [rowGet_closed hm hg]; exact hv
        · cases hv
      | some k =>
        dsimp only at hv ⊢
        rw [Option.map_eq_some_iff] at hv
        obtain ⟨cs, hcs, hh⟩ := hv
        rw [rowGet_closed hm hcs]; simp [hh]
    · cases hv
theorem results_closed {ks : List KRes} {v : Value} {ms : List Nat} (hm : ∀ m ∈ ms, h[m]? = some .mark) (hv : resultsK h fr ks = some v) : resultsK (closed h ms) fr ks = some v := by
  have key : ∀ (ks : List KRes) vs, ks.mapM (resOf h fr) = some vs → ks.mapM (resOf (closed h ms) fr) = some vs := by
    intro ks
    induction ks with
    | nil => exact fun vs h => h
    | cons k ks ih =>
      intro vs hvs
      rw [List.mapM_cons] at hvs ⊢
      cases h1 : resOf h fr k with
      | none => rw [h1] at hvs; cases hvs
      | some v =>
        rw [h1] at hvs
        cases h2 : ks.mapM (resOf h fr) with
        | none => rw [h2] at hvs; cases hvs
        | some vl => rw [h2] at hvs; rw [resOf_closed hm h1, ih vl h2]; exact hvs
  unfold resultsK at hv ⊢
  cases hk : ks.mapM (resOf h fr) with
  | none => rw [hk] at hv; cases hv
  | some vs => rw [key ks vs hk]; rw [hk] at hv; exact hv
/-- Leaving: the marks are come to, one by one; the results. -/
theorem leaves {fn : Func} {F : Fence} {N nt : Nat} {tmps : Array Value} {ks : List KRes} {v : Value} {R : Ending → World → Prop} (h1 : fn.results.toList.mapM (cRes P) = some ks) :
    ∀ (ms : List Nat) (h : Heap) (w : World), ms.Nodup → (∀ m ∈ ms, μ.V m) → (∀ m ∈ ms, h[m]? = some .mark) → WR P μ h w → FRel μ nt fr tmps → resultsK (closed h ms) fr ks = some v →
      (∀ w' v', Stp μ h w μ (closed h ms) w' → WR P μ (closed h ms) w' → VRel μ v v' → R (.returned v') w') →
      LeavesInM F N P fn tmps R (ms.map fun m => { target := .collected (μ.f m).1, args := #[] }) .returning w
  | [], h, w, _, _, _, hw, hf, hv, next => by
    obtain ⟨v', e, r⟩ := results_run hf hw h1 hv
    exact ⟨v', e, next w v' (.refl _ _ _) hw r⟩
  | m :: ms, h, w, hnd, hV, hm, hw, hf, hv, next => by
    obtain ⟨o', ho', hor⟩ := hw.ob m .mark (hV m (by simp)) (hm m (by simp))
    obtain ⟨rfl, _, _⟩ := hor
    obtain ⟨hw2, hst⟩ := wr_upd (o := .gone) (o' := .deferred none) hw (hV m (by simp)) (hm m (by simp)) rfl trivial
    rw [List.nodup_cons] at hnd
    refine ⟨by simp, .inl ⟨(μ.f m).1, _, rfl, run_takeDeferred ho', ?_⟩⟩
    refine leaves h1 ms (h.set m .gone) _ hnd.2 (fun q hq => hV q (by simp [hq])) (fun q hq => ?_) hw2 hf hv fun w' v' g1 g2 g3 => next w' v' (hst.trans hw.lt g1) g2 g3
    have hne : m ≠ q := fun h => hnd.1 (h ▸ hq)
    rw [List.getElem?_set_ne hne]; exact hm q (by simp [hq])
end Go.Canon
namespace Go.Canon
set_option linter.unusedVariables false
set_option linter.unusedSimpArgs false
open Go
open Classical
variable {P : Program} {w w' : World} {μ μ' : M} {fr : Nat → Value} {h h' : Heap} {n : Nat}
def exE : Ex → Exit
  | .normal => .normal
  | .exit id => .exit id
  | .ret => .ret
/-- The fence of a frame. -/
def FF (μ : M) (fi : FI) : Fence := match fi.rd with
  | none => Fence.wide
  | some l => Fence.wide.inRound (μ.f l).1
theorem FF_is {fi : FI} : IsF (FF μ fi) := by
  unfold FF
  cases fi.rd with
  | none => exact .inl rfl
  | some l => exact .inr ⟨_, rfl⟩
theorem FF_le {fi : FI} (hle : μ.le μ') (hrl : ∀ l, fi.rd = some l → μ.V l) : FF μ' fi = FF μ fi := by
  unfold FF
  cases hr : fi.rd with
  | none => rfl
  | some l => simp only [hle.f l (hrl l hr)]
/-- A loop, by so many rounds more. -/
theorem wpIn_loop_n {F : Fence} {N : Nat} {c : Code} {Q : Exit → Act → World → Prop} {a : Act} {w : World} (J : Nat → Act → World → Prop) {n0 : Nat} (h0 : J n0 a w)
    (round : ∀ k a w, J k a w → c.wpIn F N P (Exit.then (fun a' w' => ∃ k', k' < k ∧ J k' a' w') Q) a w) : (Code.loop c).wpIn F N P Q a w := by
  have least : ∀ (p : Nat → Prop), (∃ k, p k) → ∃ k, p k ∧ ∀ k', p k' → k ≤ k' := by
    intro p ⟨k, hk⟩
    induction k using Nat.strongRecOn with
    | _ k ih =>
      by_cases hh : ∃ k', k' < k ∧ p k'
      · obtain ⟨k', hlt, hp⟩ := hh; exact ih k' hlt hp
      · exact ⟨k, hk, fun k' hp => by false_or_by_contra; exact hh ⟨k', by omega, hp⟩⟩
  let f : Act → World → Nat := fun a w => if hh : ∃ k, J k a w then Classical.choose (least _ hh) else 0
  refine wpIn_loop (fun a w => ∃ k, J k a w) f ⟨n0, h0⟩ fun a w hI => ?_
  have hf : f a w = Classical.choose (least _ hI) := by simp only [f]; rw [dif_pos hI]
  have hsp := Classical.choose_spec (least _ hI)
  refine wpIn_mono (round _ a w hsp.1) fun e a' w' hq => ?_
  cases e with
  | normal =>
    obtain ⟨k', hlt, hj⟩ := hq
    have hI' : ∃ k, J k a' w' := ⟨k', hj⟩
    refine ⟨hI', ?_⟩
    have hf' : f a' w' = Classical.choose (least _ hI') := by simp only [f]; rw [dif_pos hI']
    have := (Classical.choose_spec (least _ hI')).2 k' hj
    show f a' w' < f a w
    rw [hf, hf']
    omega
  | _ => exact hq
theorem wpIn_scope_s {F : Fence} {N : Nat} {c : Code} {Q : Exit → Act → World → Prop} {a : Act} {w : World} (h : c.wpIn F N P (fun e a w => (∀ l, e ≠ .goto l) ∧ Q e a w) a w) : (Code.scope c).wpIn F N P Q a w := by
  intro b k cs hro hb hr
  have s1 : step P (lone (b.atR a (.code (.scope c) :: k)) cs w) = .next (lone (b.atR a (.code c :: .inScope c :: k)) cs w) := step_lone_go (by simp [stepG, stepG.exec, Frame.atR])
  have h0 : (lone (b.atR a (.code (.scope c) :: k)) cs w).fenced P F := fenced_calm hb hr rfl
  obtain ⟨e, a₁, w₁, ⟨hng, hq⟩, harr⟩ := h b (.inScope c :: k) cs hro hb hr
  have hx : ∀ id, exitTo id (.inScope c :: k) = exitTo id k := fun id => by simp [exitTo]
  cases e with
  | normal =>
    have s2 : step P (lone (b.atR a₁ (.inScope c :: k)) cs w₁) = .next (lone (b.atR a₁ k) cs w₁) := step_lone_go (by simp [stepG, stepG.exec, Frame.atR])
    exact ⟨.normal, a₁, w₁, hq, .head h0 s1 (StepsIn.trans harr (.one (fenced_calm hb hr rfl) s2))⟩
  | exit id => exact ⟨.exit id, a₁, w₁, hq, fun k' hk => .head h0 s1 (harr.1 k' (by rw [hx]; exact hk)),
        fun hr' hk => let ⟨k₁, h1, h2⟩ := harr.2 hr' (by rw [hx]; exact hk); ⟨k₁, h1, .head h0 s1 h2⟩⟩
  | goto l => exact absurd rfl (hng l)
  | ret => exact ⟨_, a₁, w₁, hq, .of_steps (.one h0 s1) harr⟩
  | panic ch => exact ⟨_, a₁, w₁, hq, .of_steps (.one h0 s1) harr⟩
  | outgrown => exact ⟨_, a₁, w₁, hq, .of_steps (.one h0 s1) harr⟩
theorem run_enterLoop_inner {l : Nat} {r : Loop} (hl : w.heap[l]? = some (.loop r)) (fn : FuncId) (tmps : Array Value) (ps : Array Tmp) (assign body : Code) :
    (Instr.enterLoop fn tmps ps assign body (some l)).run P w =
      .ok (w.heap.size, []) (w.alloc (.loop { state := .ready, pending := none, fn, tmps, params := ps, assign, body, defers := r.defers })) := by
  unfold Instr.enterLoop
  simp only [Sem.run_bind, run_getLoop hl, run_newObj_alloc, Result.andThen, Sem.run_pure]
theorem frel_putAll {nt : Nat} : ∀ (ps : List Nat) (args : List Value) (fr : Nat → Value) (tmps : Array Value) (args' : List Value), (∀ p ∈ ps, p < nt) → FRel μ nt fr tmps → VRels μ args args' →
    FRel μ nt (putAll fr ps args) ((ps.zip args').foldl (fun tmps (p : Nat × Value) => tmps.setIfInBounds p.1 p.2) tmps)
  | [], args, fr, tmps, args', _, hf, _ => by simpa [putAll] using hf
  | p :: ps, [], fr, tmps, args', _, hf, hv => by
    have : args' = [] := List.length_eq_zero_iff.1 (by have := hv.1; simpa using this.symm)
    subst this
    simpa [putAll] using hf
  | p :: ps, v :: args, fr, tmps, [], _, hf, hv => by have := hv.1; simp at this
  | p :: ps, v :: args, fr, tmps, v' :: args', hp, hf, hv => by
    simp only [putAll, List.zip_cons_cons, List.foldl_cons]
    refine frel_putAll ps args _ _ args' (fun q hq => hp q (by simp [hq])) ?_ hv.tail
    exact frel_put (a := { tmps := tmps, defers := [] }) (dst := some p) hf hv.head (fun d hd => by cases hd; exact hp p (by simp))
def OKCode (P : Program) (n : Nat) : Prop := ∀ fi c s e s', kcode (tab P) n fi c s = some (e, s') →
  ∀ (C : Code) (μ : M) (w : World) (a : Act) (N : Nat) (Q : Exit → Act → World → Prop), cC P fi.nt C = some c → SR P μ fi s w a →
    (∀ μ' w' a', Stp μ s.h w μ' s'.h w' → SR P μ' fi s' w' a' → Q (exE e) a' w') → C.wpIn (FF μ fi) N P Q a w
/-- A range over a function. -/
theorem rf_sound {fi : FI} {kf : KO} {f : Operand} {ps : Array Tmp} {A B : Code} {x y : KC} {s s' : St} {e : Ex} {a : Act} {N : Nat} {Q : Exit → Act → World → Prop} (hC : OKCall P n)
    (hk : kcode (tab P) (n + 1) fi (.rf kf ps.toList x y) s = some (e, s')) (hf : cO f = some kf) (hA : cC P fi.nt A = some x) (hB : cC P fi.nt B = some y) (hps : ∀ p ∈ ps.toList, p < fi.nt) (hs : SR P μ fi s w a)
    (next : ∀ μ' w' a', Stp μ s.h w μ' s'.h w' → SR P μ' fi s' w' a' → Q (exE e) a' w') : (Code.rangeFunc f ps A B).wpIn (FF μ fi) N P Q a w := by
  have hfv := frel_operand hs.wr.gl hs.fr hf
  unfold kcode at hk
  dsimp only at hk
  split at hk
  · rename_i g p q hg
    rw [hg] at hfv
    obtain ⟨p', q', hfv', hp, hq⟩ := vrel_func hfv
    -- the call and what stands behind it: for a record laid somewhere
    have main : ∀ (mk : List Deferred) (mks : List Nat) (l : Nat) (h1 : Heap) (μ1 : M) (w1 : World) (r : CLoop), WR P μ1 h1 w1 → Stp μ s.h w μ1 h1 w1 → μ1.V l → (μ1.f l).2 = 0 → h1[l]? = some (.loop r) →
        kafter (tab P) n l { s with mks := mks } (kcall (tab P) n g (p.toList ++ [.func (.yield l) #[] #[]] ++ q.toList) h1) = some (e, s') →
        (∀ μ3, μ1.le μ3 → (mk ++ a.defers = mks.map fun m => { target := .collected (μ3.f m).1, args := #[] }) ∧ mks.Nodup ∧ ∀ m ∈ mks, μ3.V m) →
        ∃ kfn, tab P g = some kfn ∧ CallsIn (FF μ fi) (N - 1) P g (p' ++ #[.func (.yield (μ1.f l).1) #[] #[]] ++ q') w1 (rangePost (FF μ fi) N P (μ1.f l).1 Q { a with defers := mk ++ a.defers }) := by
      intro mk mks l h1 μ1 w1 r hw1 hst1 hVl hl0 hr hka hmk
      cases hkc : kcall (tab P) n g (p.toList ++ [.func (.yield l) #[] #[]] ++ q.toList) h1 with
      | none => rw [hkc] at hka; cases n <;> simp [kafter] at hka
      | some vh =>
        obtain ⟨v, h3⟩ := vh
        rw [hkc] at hka
        obtain ⟨kfn, hkfn⟩ : ∃ kfn, tab P g = some kfn := by
          cases n with
          | zero => simp [kcall] at hkc
          | succ n =>
            unfold kcall at hkc
            cases ht : tab P g with
            | none => rw [ht] at hkc; cases hkc
            | some kfn => exact ⟨kfn, rfl⟩
        refine ⟨kfn, hkfn, (FF_is.calls (hC g _ h1 v h3 hkc μ1 w1 _ (N - 1) hw1 ?_)).mono ?_⟩
        · have hy : VRel μ1 (.func (.yield l) #[] #[]) (.func (.yield (μ1.f l).1) #[] #[]) := .yl l hVl hl0
          have := ((hp.mono hst1.le).append (VRels.cons hy (.nil μ1))).append (hq.mono hst1.le)
          simpa using this
        · rintro en w3 ⟨v', μ3, rfl, hst3, hw3, _⟩
          cases n with
          | zero => simp [kafter] at hka
          | succ n =>
          simp only [kafter] at hka
          split at hka
          · rename_i r3 hr3
            split at hka
            · cases hka
            · rename_i hbusy
              have hV3 : μ3.V l := hst3.le.V l hVl
              obtain ⟨o', ho', hor⟩ := hw3.ob l _ hV3 hr3
              rw [hst3.le.f l hVl] at ho'
              obtain ⟨fn3, tmps3, A3, B3, rfl, hfr3, hA3, hB3, hp3, hrd3, hs3, hVb3, hz3⟩ := hor
              have hend := run_endLoop (P := P) ho' (by simpa using hbusy)
              obtain ⟨hw4, hst4⟩ := wr_upd (o := .loop { r3 with st := .exhausted }) (o' := .loop { state := .exhausted, pending := r3.pending.map jmp, fn := fn3, tmps := tmps3, params := r3.params.toArray, assign := A3, body := B3, defers := (μ3.f r3.blk).1 }) hw3 hV3 hr3 rfl
                ⟨fn3, tmps3, A3, B3, rfl, hfr3, hA3, hB3, hp3, hrd3, hs3, hVb3, hz3⟩
              rw [hst3.le.f l hVl] at hw4 hst4
              have hst : Stp μ s.h w μ3 (h3.set l (.loop { r3 with st := .exhausted })) _ := (hst1.trans hs.wr.lt hst3).trans hs.wr.lt hst4
              obtain ⟨m1, m2, m3⟩ := hmk μ3 hst3.le
              have hsr : SR P μ3 fi { s with mks := mks, h := h3.set l (.loop { r3 with st := .exhausted }) } _ { a with defers := mk ++ a.defers } :=
                ⟨hw4, hs.fr.mono hst.le, m1, m2, m3, fun l hl => hst.le.V l (hs.rl l hl)⟩
              refine ⟨_, _, hend, ?_⟩
              cases hpd : r3.pending with
              | none =>
                rw [hpd] at hka
                simp only [Option.some.injEq, Prod.mk.injEq] at hka
                obtain ⟨rfl, rfl⟩ := hka
                simp only [hpd, Option.map_none] at hst hsr ⊢
                exact next μ3 _ _ hst hsr
              | some j =>
                cases j with
                | ret =>
                  rw [hpd] at hka
                  simp only [Option.some.injEq, Prod.mk.injEq] at hka
                  obtain ⟨rfl, rfl⟩ := hka
                  simp only [hpd, Option.map_some, jmp] at hst hsr ⊢
                  exact wpIn_ret (next μ3 _ _ hst hsr)
                | exit id =>
                  rw [hpd] at hka
                  simp only [Option.some.injEq, Prod.mk.injEq] at hka
                  obtain ⟨rfl, rfl⟩ := hka
                  simp only [hpd, Option.map_some, jmp] at hst hsr ⊢
                  exact wpIn_exit (next μ3 _ _ hst hsr)
          · cases hka
    have fin : ∀ (l : Nat) (w1 : World) (kfn : KFunc) (args : Array Value), tab P g = some kfn → args = p' ++ #[.func (.yield l) #[] #[]] →
        (resolve a.eval (rangeCall f l) 0).run P w1 = .ok { target := .fn (.func g) q', args } w1 ∧ (invoke (.fn (.func g) q') args).run P w1 = .ok (.enter g (args ++ q')) w1 := by
      intro l w1 kfn args hkfn ha
      subst ha
      constructor
      · simp only [resolve, rangeCall, hfv', Deferred.ofValue, Sem.run_bind, Sem.run_pure, Result.andThen_ok]
        simp [Act.eval]
      · simp only [invoke]; exact run_enterFn hkfn
    split at hk
    · rename_i hrd
      -- outermost
      have hn1 : ¬ μ.V s.h.length := wr_hn hs.wr
      obtain ⟨hwA, hstA⟩ := wr_new (z := none) (o := .mark) (o' := .deferred (some [])) hs.wr ⟨rfl, by simp, by simp⟩
      have hlenA : (s.h ++ [CO.mark]).length = s.h.length + 1 := by simp
      have hszA : (w.alloc (.deferred (some []))).heap.size = w.heap.size + 1 := by simp
      refine wpIn_rangeFunc fun fn _ => ?_
      have hFr : (FF μ fi).round = none := by unfold FF; rw [hrd]; rfl
      rw [hFr]
      generalize hμ1 : μ.add s.h.length (w.heap.size, 0) none = μ1 at hwA hstA
      have hf1 : μ1.f s.h.length = (w.heap.size, 0) := by rw [← hμ1]; simp
      have hV1 : μ1.V s.h.length := by rw [← hμ1]; exact M.add_V
      have hn2 : ¬ μ1.V (s.h ++ [CO.mark]).length := wr_hn hwA
      obtain ⟨hwB, hstB⟩ := wr_new (P := P) (z := none) (o := .loop { st := .ready, pending := none, fi := { fi with rd := some (s.h.length + 1) }, fr := s.fr, params := ps.toList, assign := x, body := y, blk := s.h.length })
        (o' := .loop { state := .ready, pending := none, fn, tmps := a.tmps, params := ps, assign := A, body := B, defers := w.heap.size }) hwA
        (by
          have hle := M.le_add (μ := μ1) (n := (s.h ++ [CO.mark]).length) (loc := ((w.alloc (.deferred (some []))).heap.size, 0)) (z := none) hn2
          refine ⟨fn, a.tmps, A, B, ?_, (hs.fr.mono hstA.le).mono hle, hA, hB, hps, by simp, by simp, hle.V _ hV1, by simp⟩
          rw [hle.f _ hV1, hf1]; simp)
      rw [List.append_assoc] at hwB hstB
      generalize hμ2 : μ1.add (s.h ++ [CO.mark]).length ((w.alloc (.deferred (some []))).heap.size, 0) none = μ2 at hwB hstB
      have hf2 : μ2.f (s.h.length + 1) = (w.heap.size + 1, 0) := by rw [← hμ2, hlenA, hszA]; simp
      have hV2 : μ2.V (s.h.length + 1) := by rw [← hμ2, hlenA]; exact M.add_V
      have hst2 := hstA.trans hs.wr.lt hstB
      obtain ⟨kfn, hkfn, hcalls⟩ := main [{ target := .collected w.heap.size, args := #[] }] (s.h.length :: s.mks) (s.h.length + 1) _ μ2 _ { st := .ready, pending := none, fi := { fi with rd := some (s.h.length + 1) }, fr := s.fr, params := ps.toList, assign := x, body := y, blk := s.h.length } hwB hst2 hV2 (by rw [hf2]) (by simp) hk (fun μ3 hle3 => by
        have hle13 : μ1.le μ3 := hstB.le.trans hle3
        refine ⟨?_, ?_, ?_⟩
        · simp only [List.map_cons, List.singleton_append, List.cons.injEq]
          refine ⟨by rw [hle13.f _ hV1, hf1], ?_⟩
          rw [hs.de]
          exact List.map_congr_left fun m hm => by rw [(hst2.le.trans hle3).f m (hs.mV m hm)]
        · rw [List.nodup_cons]
          exact ⟨fun hm => hn1 (hs.mV _ hm), hs.nd⟩
        · intro m hm
          rcases List.mem_cons.1 hm with rfl | hm
          · exact hle13.V _ hV1
          · exact (hst2.le.trans hle3).V m (hs.mV m hm))
      rw [hf2] at hcalls
      obtain ⟨h1, h2⟩ := fin (w.heap.size + 1) ((w.alloc (.deferred (some []))).alloc (.loop { state := .ready, pending := none, fn, tmps := a.tmps, params := ps, assign := A, body := B, defers := w.heap.size })) kfn _ hkfn rfl
      exact ⟨w.heap.size + 1, _, _, _, _, g, _, _, run_enterLoop_outer fn a.tmps ps A B, h1, fun _ _ => FF_is.fn _, h2, fun hh => (by rw [FF_is.depth] at hh; cases hh), hcalls⟩
    · rename_i l0 hrd
      split at hk
      · rename_i r0 hr0
        have hVl0 := hs.rl l0 hrd
        obtain ⟨o', ho', hor⟩ := hs.wr.ob l0 _ hVl0 hr0
        obtain ⟨fn0, tmps0, A0, B0, rfl, hfr0, hA0, hB0, hp0, hrd0, hs0, hVb0, hz0⟩ := hor
        refine wpIn_rangeFunc fun fn _ => ?_
        have hFr : (FF μ fi).round = some (μ.f l0).1 := by unfold FF; rw [hrd]; rfl
        rw [hFr]
        have hn2 : ¬ μ.V s.h.length := wr_hn hs.wr
        obtain ⟨hwB, hstB⟩ := wr_new (P := P) (z := none) (o := .loop { st := .ready, pending := none, fi := { fi with rd := some s.h.length }, fr := s.fr, params := ps.toList, assign := x, body := y, blk := r0.blk })
          (o' := .loop { state := .ready, pending := none, fn, tmps := a.tmps, params := ps, assign := A, body := B, defers := (μ.f r0.blk).1 }) hs.wr
          (by
            have hle := M.le_add (μ := μ) (n := s.h.length) (loc := (w.heap.size, 0)) (z := none) hn2
            refine ⟨fn, a.tmps, A, B, ?_, hs.fr.mono hle, hA, hB, hps, rfl, by simp, hle.V _ hVb0, by simp⟩
            rw [hle.f _ hVb0]; simp)
        generalize hμ2 : μ.add s.h.length (w.heap.size, 0) none = μ2 at hwB hstB
        have hf2 : μ2.f s.h.length = (w.heap.size, 0) := by rw [← hμ2]; simp
        have hV2 : μ2.V s.h.length := by rw [← hμ2]; exact M.add_V
        obtain ⟨kfn, hkfn, hcalls⟩ := main [] s.mks s.h.length _ μ2 _ { st := .ready, pending := none, fi := { fi with rd := some s.h.length }, fr := s.fr, params := ps.toList, assign := x, body := y, blk := r0.blk } hwB hstB hV2 (by rw [hf2]) (by simp) hk (fun μ3 hle3 => by
          refine ⟨?_, hs.nd, fun m hm => (hstB.le.trans hle3).V m (hs.mV m hm)⟩
          rw [List.nil_append, hs.de]
          exact List.map_congr_left fun m hm => by rw [(hstB.le.trans hle3).f m (hs.mV m hm)])
        rw [hf2] at hcalls
        obtain ⟨h1, h2⟩ := fin w.heap.size (w.alloc (.loop { state := .ready, pending := none, fn, tmps := a.tmps, params := ps, assign := A, body := B, defers := (μ.f r0.blk).1 })) kfn _ hkfn rfl
        exact ⟨w.heap.size, _, _, _, _, g, _, _, run_enterLoop_inner ho' fn a.tmps ps A B, h1, fun _ _ => FF_is.fn _, h2, fun hh => (by rw [FF_is.depth] at hh; cases hh), hcalls⟩
      · cases hk
  · cases hk
end Go.Canon
namespace Go.Canon
set_option linter.unusedVariables false
set_option linter.unusedSimpArgs false
open Go Go.Proofs
open Classical
variable {P : Program} {w w' : World} {μ : M} {h : Heap}
theorem isI64_inv {v : Value} (h : isI64 v = true) : ∃ z, v = .int .i64 z := by
  cases v with
  | int k z => cases k <;> simp [isI64] at h; exact ⟨z, rfl⟩
  | _ => simp [isI64] at h
/-- The cells of a row of whole numbers, beside the block's. -/
theorem row_real (hw : WR P μ h w) {b o n : Nat} {cells : List Value} (hV : μ.V b) (hg : rowGet h ⟨b, o, none⟩ n = some cells) (hi : cells.all isI64 = true) :
    ∃ cs wr gr c T fz, h[b]? = some (.row cs wr gr) ∧ w.heap[(μ.f b).1]? = some (.cells c T fz) ∧ (wr = true → fz = (0, 0)) ∧ μ.Z b = gr.map (fun z => (z, c.size)) ∧ cells.length = n ∧ ∀ (j : Nat) v, cells[j]? = some v → c[(μ.f b).2 + o + j]? = some v := by
  unfold rowGet at hg
  split at hg
  · rename_i cs wr gr hrow
    split at hg
    · rename_i hc
      cases hg
      obtain ⟨o', ho', c, T, fz, rfl, hfz, hcell, hz⟩ := hw.ob b _ hV hrow
      refine ⟨cs, wr, gr, c, T, fz, hrow, ho', hfz, hz, ?_, fun j v hj => ?_⟩
      · have : o + n ≤ cs.length := by simp at hc; omega
        simp; omega
      have hv := List.all_eq_true.1 hi v (List.mem_of_getElem? hj)
      obtain ⟨z, rfl⟩ := isI64_inv hv
      rw [List.getElem?_take] at hj
      split at hj
      · rw [List.getElem?_drop] at hj
        obtain ⟨v', h1, h2⟩ := hcell _ _ hj
        rw [vrel_int h2] at h1
        rw [← h1]; congr 1; simp only; omega
      · cases hj
    · cases hg
  · cases hg
theorem aset_same {b : Nat} {o : Obj} {a : Array Obj} (h : a[b]? = some o) : a.setIfInBounds b o = a := by
  apply Array.ext_getElem?
  intro i
  rw [Array.getElem?_setIfInBounds]
  split
  · rename_i e; subst e; rw [if_pos (Array.getElem?_eq_some_iff.1 h).1, h]
  · rfl
theorem setCell_real {b o : Nat} {v : Value} {c : Array Value} {T : TypeId} {fz : Nat × Nat} (hb : w.heap[b]? = some (.cells c T fz)) : (w.setCell ⟨b, o, none⟩ v).heap = w.heap.setIfInBounds b (.cells (c.setIfInBounds o v) T fz) := by
  have hbl := (Array.getElem?_eq_some_iff.1 hb).1
  apply Array.ext_getElem?
  intro i
  simp only [World.setCell]
  rw [Array.getElem?_modify, Array.getElem?_setIfInBounds]
  by_cases e : b = i
  · subst e
    rw [if_pos rfl, if_pos rfl, if_pos hbl, hb]
    simp
  · rw [if_neg e, if_neg e]
theorem setCells_real {b : Nat} {T : TypeId} {fz : Nat × Nat} : ∀ (vs : List Value) (o : Nat) (w : World) (c : Array Value), w.heap[b]? = some (.cells c T fz) → o + vs.length ≤ c.size →
    ∃ c', (w.setCells b o vs).heap = w.heap.setIfInBounds b (.cells c' T fz) ∧ c'.size = c.size ∧ (∀ j, c'[j]? = if o ≤ j ∧ j < o + vs.length then vs[j - o]? else c[j]?) ∧ Kin w (w.setCells b o vs)
  | [], o, w, c, hb, _ => ⟨c, (aset_same hb).symm, rfl, fun j => by rw [if_neg (by simp)], ⟨rfl, rfl, rfl⟩⟩
  | v :: vs, o, w, c, hb, hl => by
    have hbl := (Array.getElem?_eq_some_iff.1 hb).1
    have h1 := setCell_real (o := o) (v := v) hb
    obtain ⟨c', e1, e2, e3, e4⟩ := setCells_real vs (o + 1) (w.setCell ⟨b, o, none⟩ v) (c.setIfInBounds o v) (by rw [h1, Array.getElem?_setIfInBounds_self_of_lt hbl]) (by simp at hl ⊢; omega)
    refine ⟨c', ?_, by rw [e2]; simp, fun j => ?_, ⟨e4.os, e4.tape, e4.output⟩⟩
    · show (World.setCells (w.setCell ⟨b, o, none⟩ v) b (o + 1) vs).heap = _
      rw [e1, h1, Array.setIfInBounds_setIfInBounds]
    · simp only [List.length_cons] at hl
      rw [e3 j, Array.getElem?_setIfInBounds]
      by_cases hj : o = j
      · subst hj
        rw [if_neg (by omega), if_pos rfl, if_pos (by omega), if_pos (by simp), Nat.sub_self]; rfl
      · rw [if_neg hj]
        by_cases h2 : o + 1 ≤ j ∧ j < o + 1 + vs.length
        · rw [if_pos h2, if_pos (by simp; omega), show j - o = (j - (o + 1)) + 1 by omega, List.getElem?_cons_succ]
        · rw [if_neg h2, if_neg (by simp; omega)]
theorem ins_get {old new : List Value} {i : Nat} (hi : i ≤ old.length) (k : Nat) : (old.take i ++ new ++ old.drop i)[k]? = if k < i then old[k]? else if k < i + new.length then new[k - i]? else old[k - new.length]? := by
  have ht : (old.take i).length = i := by simp; omega
  by_cases h1 : k < i
  · rw [if_pos h1, List.append_assoc, List.getElem?_append_left (by omega), List.getElem?_take_of_lt h1]
  · rw [if_neg h1, List.append_assoc, List.getElem?_append_right (by omega), ht]
    by_cases h2 : k < i + new.length
    · rw [if_pos h2, List.getElem?_append_left (by omega)]
    · rw [if_neg h2, List.getElem?_append_right (by omega), List.getElem?_drop]
      congr 1; omega
section
variable {v v' : Value} {ob : CO} {o' : Obj} {z : Option (Nat × Nat)}
theorem res_new (hw : WR P μ h w) (hk : Kin w w') (hh : w'.heap = w.heap.push o') (hr : ObR P (μ.add h.length (w.heap.size, 0) z) h.length ob o') (hv : VRel (μ.add h.length (w.heap.size, 0) z) v v') : Res P μ h w v ((Eff.new ob).on h) (.returned v') w' := by
  have he : EffOk (.mv (.c undef)) (fun _ => undef) h (.new ob) := trivial
  have hd : Did P μ h.length w (.new ob) w' (μ.add h.length (w.heap.size, 0) z) := .new ob o' z _ hk hh hr
  have hl := hd.wrl (fun _ hV => Nat.lt_irrefl _ (hw.lt _ hV))
  exact ⟨v', _, rfl, wrl_stp hw hl he, wrl_wr hw hl he, hv⟩
theorem res_killN {b : Nat} {cs : List Value} {gr : Option Nat} (hw : WR P μ h w) (hV : μ.V b) (hb : h[b]? = some (.row cs true gr)) (hk : Kin w w') (hh : w'.heap = w.heap.push o') (hr : ObR P (μ.add h.length (w.heap.size, 0) z) h.length ob o') (hv : VRel (μ.add h.length (w.heap.size, 0) z) v v') : Res P μ h w v ((Eff.kill b ob).on h) (.returned v') w' := by
  have he : EffOk (.clr (.c (.map (some b))) []) (fun _ => undef) h (.kill b ob) := ⟨by simp [rds, KO.ev, blkOf], rfl, rfl, _, hb, rfl⟩
  have hd : Did P μ h.length w (.kill b ob) w' (μ.add h.length (w.heap.size, 0) z) := .killN b ob o' z _ hV hk hh hr
  have hl := hd.wrl (fun _ hV => Nat.lt_irrefl _ (hw.lt _ hV))
  exact ⟨v', _, rfl, wrl_stp hw hl he, wrl_wr hw hl he, hv⟩
theorem res_killI {b s : Nat} {cs : List Value} {gr : Option Nat} (hw : WR P μ h w) (hV : μ.V b) (hb : h[b]? = some (.row cs true gr)) (hk : Kin w w') (hh : w'.heap = w.heap.setIfInBounds (μ.f b).1 o') (hr : ObR P (μ.add h.length ((μ.f b).1, s) z) h.length ob o') (hv : VRel (μ.add h.length ((μ.f b).1, s) z) v v') : Res P μ h w v ((Eff.kill b ob).on h) (.returned v') w' := by
  have he : EffOk (.clr (.c (.map (some b))) []) (fun _ => undef) h (.kill b ob) := ⟨by simp [rds, KO.ev, blkOf], rfl, rfl, _, hb, rfl⟩
  have hd : Did P μ h.length w (.kill b ob) w' (μ.add h.length ((μ.f b).1, s) z) := .killI b ob o' s z _ hV hk hh hr
  have hl := hd.wrl (fun _ hV => Nat.lt_irrefl _ (hw.lt _ hV))
  exact ⟨v', _, rfl, wrl_stp hw hl he, wrl_wr hw hl he, hv⟩
end
/-- What stands beside a row of whole numbers that is laid. -/
theorem or_ints {n s : Nat} {blk : Nat} {cs : List Value} {c : Array Value} {T : TypeId} (hS : c.size ≤ mxL) (hi : ∀ v ∈ cs, isI64 v = true) (hc : ∀ (k : Nat) v, cs[k]? = some v → c[s + k]? = some v) : ObR P (μ.add n (blk, s) (some (1, c.size))) n (.row cs true (some 1)) (.cells c T (0, 0)) := by
  refine ⟨c, T, (0, 0), rfl, fun _ => rfl, fun k v x => ⟨v, by simpa using hc k v x, ?_⟩, M.add_Zs (by simpa using hS)⟩
  obtain ⟨z, rfl⟩ := isI64_inv (hi v (List.mem_of_getElem? x))
  exact .flat _ rfl
theorem vrel_ints {n s blk k c S : Nat} (hM : S ≤ mxL) (hc : k ≤ c) (hS : s + c ≤ S) : VRel (μ.add n (blk, s) (some (1, S))) (.slice (some ⟨n, 0, none⟩) k k) (.slice (some ⟨blk, s, none⟩) k c) := by
  have := VRel.sl (μ := μ.add n (blk, s) (some (1, S))) n 0 k k s c M.add_V (Nat.le_refl _) hc (fun _ => by simp) (fun z S' hz => by have hz := M.add_Zi hz; simp at hz; obtain ⟨rfl, rfl⟩ := hz; omega) (fun hz => by rw [M.add_Zs (by simpa using hM)] at hz; cases hz)
  simpa using this
theorem zero_size (k : Nat) : (Builtin.zeroCells (Value.int .i64 0).cells k).size = k := by simp [Builtin.zeroCells, Value.cells]
theorem int_one {v : Value} (h : isI64 v = true) : v.oneCell' = true := by obtain ⟨z, rfl⟩ := isI64_inv h; rfl
/-- The first cells of a slice of whole numbers, beside the block's. -/
theorem first_real {b o n k s : Nat} {cs cells : List Value} {wr : Bool} {gr : Option Nat} {c : Array Value} (hfc : firstC h 1 n (.slice (some ⟨b, o, none⟩) n k) = some cells) (hrow : h[b]? = some (.row cs wr gr)) (hi : cells.all isI64 = true)
    (hcell : ∀ (i : Nat) v, cs[i]? = some v → ∃ v', c[s + i]? = some v' ∧ VRel μ v v') : cells.length = n ∧ ∀ (j : Nat) v, cells[j]? = some v → c[s + o + j]? = some v := by
  simp only [firstC, Nat.mul_one] at hfc
  split at hfc
  · rename_i h0; cases hfc; exact ⟨h0.symm, fun j v hj => by simp at hj⟩
  · unfold rowGet at hfc
    rw [hrow] at hfc
    dsimp only at hfc
    split at hfc
    · rename_i hc
      cases hfc
      refine ⟨by have : o + n ≤ cs.length := by simpa using hc
                 simp; omega, fun j v hj => ?_⟩
      have hv := List.all_eq_true.1 hi v (List.mem_of_getElem? hj)
      obtain ⟨z, rfl⟩ := isI64_inv hv
      rw [List.getElem?_take] at hj
      split at hj
      · rw [List.getElem?_drop] at hj
        obtain ⟨v', h1, h2⟩ := hcell _ _ hj
        rw [vrel_int h2] at h1
        rw [← h1]; congr 1; omega
      · cases hj
    · cases hfc
theorem cell_at {B k : Nat} {c : Array Value} {T : TypeId} {fz : Nat × Nat} (hb : w.heap[B]? = some (.cells c T fz)) : w.cell? ⟨B, k, none⟩ = c[k]? := by simp [World.cell?, hb]
theorem froz_at {B k : Nat} {c : Array Value} {T : TypeId} (hb : w.heap[B]? = some (.cells c T (0, 0))) : w.frozen? ⟨B, k, none⟩ = false := by simp [World.frozen?, hb]
theorem shape_at {B : Nat} {c : Array Value} {T : TypeId} {fz : Nat × Nat} (hb : w.heap[B]? = some (.cells c T fz)) : w.shape? B = some (T, c.size) := by simp [World.shape?, hb]
theorem args3 {a b c : Value} {args' : Array Value} (hv : VRels μ [a, b, c] args'.toList) : ∃ a' b' c', args' = #[a', b', c'] ∧ VRel μ a a' ∧ VRel μ b b' ∧ VRel μ c c' := by
  obtain ⟨hl, hv⟩ := hv
  obtain ⟨l⟩ := args'
  match l, hl, hv with
  | [a', b', c'], _, hv => exact ⟨a', b', c', rfl, hv 0 _ _ rfl rfl, hv 1 _ _ rfl rfl, hv 2 _ _ rfl rfl⟩
theorem ins_all {old new : List Value} {i : Nat} (h1 : old.all isI64 = true) (h2 : new.all isI64 = true) : ∀ v ∈ old.take i ++ new ++ old.drop i, isI64 v = true := by
  intro v hv
  simp only [List.mem_append] at hv
  rcases hv with (hv | hv) | hv
  · exact List.all_eq_true.1 h1 v (List.mem_of_mem_take hv)
  · exact List.all_eq_true.1 h2 v hv
  · exact List.all_eq_true.1 h1 v (List.mem_of_mem_drop hv)
/-- How what is laid anew ends a call. -/
def Lays1 (P : Program) (μ : M) (h : Heap) (w : World) (e : Eff) (cs : List Value) (N : Nat) : Prop :=
  ∀ (o' : Obj) (z : Option (Nat × Nat)) (w' : World) (v' : Value), Kin w w' → w'.heap = w.heap.push o' → ObR P (μ.add h.length (w.heap.size, 0) z) h.length (.row cs true (some 1)) o' → VRel (μ.add h.length (w.heap.size, 0) z) (.slice (some ⟨h.length, 0, none⟩) N N) v' → Res P μ h w (.slice (some ⟨h.length, 0, none⟩) N N) (e.on h) (.returned v') w'
theorem ins_end {ρ : Go.Shelf.Ren} (L : Lays2.n21 P ρ) (hw : WR P μ h w) {e : Eff} {base : Option Addr} {n m C xB xO xc' : Nat} {old new : List Value} (lay : Lays1 P μ h w e (old ++ new) (n + m)) (hm : 0 < m) (hcC : n ≤ C) (hC : C < n + m) (hroom : (n + m) * 8 ≤ 1099511627776) (hao : old.all isI64 = true) (han : new.all isI64 = true) (hol : old.length = n) (hnl : new.length = m) (hbn : base = none → n = 0)
    (hcs : ∀ a, base = some a → ∀ (j : Nat) v, old[j]? = some v → w.cell? (a.add j) = some v) (hvs : ∀ (j : Nat) v, new[j]? = some v → w.cell? ⟨xB, xO + j, none⟩ = some v) (h1v : ∀ v ∈ new, v.oneCell' = true) :
    Calls P (ρ.f 21) #[.slice base n C, .int .i64 n, .slice (some ⟨xB, xO, none⟩) m xc'] w (Res P μ h w (.slice (some ⟨h.length, 0, none⟩) (n + m) (n + m)) (e.on h)) := by
  have hG := grownCap_ge w (n + m) C (ρ.t 3)
  have hG2 := grownCap_le_maxLen w (n + m) C (ρ.t 3) (by simp only [Go.maxLen, maxLen]; omega)
  refine (Any2.slices_Insert_int_end_grow L base n C _ _ m xc' old new w hm hcC (by omega) (by omega) hol hnl hbn hcs hvs h1v).mono ?_
  rintro e' w' ⟨rfl, rfl⟩
  generalize grownCap w (n + m) C (ρ.t 3) = G at hG hG2 ⊢
  have hsz : ((old ++ new).toArray ++ Builtin.zeroCells (Value.int .i64 0).cells (G - (n + m))).size = G := by
    rw [Array.size_append, zero_size]; simp [hnl, hol]; omega
  refine lay (.cells ((old ++ new).toArray ++ Builtin.zeroCells (Value.int .i64 0).cells (G - (n + m))) (ρ.t 3) (0, 0)) (some (1, _)) _ _ ⟨rfl, rfl, rfl⟩ rfl (or_ints (by rw [hsz]; exact hG2) (fun v hv => ?_) fun k v hk => ?_) (by rw [hsz]; exact vrel_ints hG2 hG (by omega))
  · rw [List.mem_append] at hv
    exact hv.elim (List.all_eq_true.1 hao v) (List.all_eq_true.1 han v)
  · rw [Nat.zero_add, Array.getElem?_append_left (by simpa using (List.getElem?_eq_some_iff.1 hk).1)]
    simpa using hk
theorem ins_mid {ρ : Go.Shelf.Ren} (L : Lays2.n21 P ρ) (hw : WR P μ h w) {e : Eff} {B O k m c C xB xO xc' : Nat} {old new : List Value} (lay : Lays1 P μ h w e (old.take k ++ new ++ old.drop k) (c + m)) (hkc : k < c) (hm : 0 < m) (hcC : c ≤ C) (hC : C < c + m) (hroom : (c + m) * 8 ≤ 1099511627776) (hao : old.all isI64 = true) (han : new.all isI64 = true) (hol : old.length = c) (hnl : new.length = m)
    (hcs : ∀ (j : Nat) v, old[j]? = some v → w.cell? ⟨B, O + j, none⟩ = some v) (hvs : ∀ (j : Nat) v, new[j]? = some v → w.cell? ⟨xB, xO + j, none⟩ = some v) (h1c : ∀ v ∈ old, v.oneCell' = true) (h1v : ∀ v ∈ new, v.oneCell' = true) :
    Calls P (ρ.f 21) #[.slice (some ⟨B, O, none⟩) c C, .int .i64 k, .slice (some ⟨xB, xO, none⟩) m xc'] w (Res P μ h w (.slice (some ⟨h.length, 0, none⟩) (c + m) (c + m)) (e.on h)) := by
  have hG := grownCap_ge w (c + m) C (ρ.t 3)
  have hG2 := grownCap_le_maxLen w (c + m) C (ρ.t 3) (by simp only [Go.maxLen, maxLen]; omega)
  have hiall := ins_all (i := k) hao han
  refine (Any2.slices_Insert_int_grow L B O c C k _ _ m xc' old new w hkc hm hcC (by omega) (by omega) hol hnl hcs hvs h1c h1v).mono ?_
  rintro e' w' ⟨rfl, rfl⟩
  generalize hGG : grownCap w (c + m) C (ρ.t 3) = G at hG hG2 ⊢
  generalize hA : (old.take k).toArray ++ Builtin.zeroCells (Value.int .i64 0).cells (c + m - k) ++ Builtin.zeroCells (Value.int .i64 0).cells (G - (c + m)) = A
  have hAs : A.size = G := by rw [← hA, Array.size_append, Array.size_append, zero_size, zero_size]; simp; omega
  have hAk : ∀ (j : Nat), j < k → A[j]? = old[j]? := fun j hj => by
    rw [← hA, Array.getElem?_append_left (by rw [Array.size_append, zero_size]; simp; omega), Array.getElem?_append_left (by simp; omega)]
    simp [List.getElem?_take_of_lt hj]
  have hp : (w.heap.push (.cells A (ρ.t 3)))[w.heap.size]? = some (.cells A (ρ.t 3) (0, 0)) := by simp
  obtain ⟨c1, e1, e2, e3, e4⟩ := setCells_real (b := w.heap.size) new k (w.alloc (.cells A (ρ.t 3))).drew A hp (by omega)
  obtain ⟨c2, f1, f2, f3, f4⟩ := setCells_real (b := w.heap.size) (old.drop k) (k + m) ((w.alloc (.cells A (ρ.t 3))).drew.setCells w.heap.size k new).drew c1 (by show (World.setCells _ _ _ _).heap[_]? = _; rw [e1]; exact Array.getElem?_setIfInBounds_self_of_lt (by show _ < (w.heap.push _).size; simp)) (by simp [hol]; omega)
  refine lay (.cells c2 (ρ.t 3) (0, 0)) (some (1, c2.size)) _ _ ⟨f4.os.trans e4.os, f4.tape.trans e4.tape, f4.output.trans e4.output⟩ ?_ (or_ints (by rw [f2, e2, hAs]; exact hG2) hiall fun j v hj => ?_) (vrel_ints (by rw [f2, e2, hAs]; exact hG2) hG (by omega))
  · rw [f1]
    show (World.setCells _ _ _ _).heap.setIfInBounds _ _ = _
    rw [e1, Array.setIfInBounds_setIfInBounds]
    show (w.heap.push _).setIfInBounds _ _ = _
    apply Array.ext_getElem?
    intro i
    rw [Array.getElem?_setIfInBounds, Array.getElem?_push, Array.getElem?_push]
    by_cases hi : w.heap.size = i
    · subst hi; simp
    · rw [if_neg hi, if_neg (fun hh => hi hh.symm), if_neg (fun hh => hi hh.symm)]
  · rw [ins_get (by omega)] at hj
    rw [Nat.zero_add, f3, e3]
    by_cases h1 : j < k
    · rw [if_pos h1] at hj
      rw [if_neg (by omega), if_neg (by omega), hAk j h1]; exact hj
    · rw [if_neg h1] at hj
      by_cases h2 : j < k + new.length
      · rw [if_pos h2] at hj
        rw [if_neg (by omega), if_pos (by omega)]; exact hj
      · rw [if_neg h2] at hj
        have := (List.getElem?_eq_some_iff.1 hj).1
        rw [if_pos (by simp; omega), List.getElem?_drop, show k + (j - (k + m)) = j - new.length by omega]; exact hj
/-- Where slices.Insert stands, its text is the library's. -/
def InsOk (P : Program) : Prop := ∀ f fn, P.funcs[f]? = some fn → fn.name = insN → ∃ ρ, Lays2.n21 P ρ ∧ ρ.f 21 = f
theorem ins_sim {ρ : Go.Shelf.Ren} (L : Lays2.n21 P ρ) {args : List Value} {v : Value} {e : Eff} (hk : kins args h = some (v, e)) (hw : WR P μ h w) {args' : Array Value} (hv : VRels μ args args'.toList) : Calls P (ρ.f 21) args' w (Res P μ h w v (e.on h)) := by
  unfold kins at hk
  split at hk
  · rename_i base n c i x m xc
    split at hk
    · rename_i hc
      obtain ⟨rfl, hm, hi0, hin, hroom⟩ := hc
      have hroomB : roomB = 1099511627776 := rfl
      rw [hroomB] at hroom
      split at hk
      · rename_i old new ho hn
        split at hk
        · rename_i hall
          obtain ⟨hao, han⟩ := hall
          obtain ⟨a0, a1, a2, rfl, r0, r1, r2⟩ := args3 hv
          obtain ⟨k, rfl⟩ : ∃ k : Nat, i = k := ⟨i.toNat, by omega⟩
          rw [vrel_int r1]
          have hkn : k ≤ c := by omega
          simp only [Int.toNat_natCast] at hk
          rcases vrel_slice r2 with ⟨hh, _⟩ | ⟨_, _, _, hh, _⟩ | ⟨y, xo, xc', hy, hsp, hVx, hxn, hxc, hxo, _, _, rfl⟩
          · cases hh
          · omega
          cases hy
          obtain ⟨xb, xo0, xs⟩ := x
          simp only at hsp hVx hxo; subst hsp
          have hxo := hxo (by omega)
          subst hxo
          simp only [firstC, Nat.mul_one, if_neg (show ¬ m = 0 by omega)] at hn
          obtain ⟨csx, wrx, grx, cx, Tx, fzx, hrx, hox, hfzx, _, hnl, hnc⟩ := row_real hw hVx hn han
          have hvs : ∀ (j : Nat) v, new[j]? = some v → w.cell? ⟨(μ.f xb).1, (μ.f xb).2 + xo0 + j, none⟩ = some v := fun j v hj => by rw [cell_at hox]; exact hnc j v hj
          have h1v : ∀ v ∈ new, v.oneCell' = true := fun v hv => int_one (List.all_eq_true.1 han v hv)
          have h1c : ∀ v ∈ old, v.oneCell' = true := fun v hv => int_one (List.all_eq_true.1 hao v hv)
          have hiall := ins_all (i := k) hao han
          cases base with
          | none =>
            simp only [firstC] at ho
            split at ho
            · rename_i h0; subst h0
              cases ho
              dsimp only at hk
              cases hk
              rcases vrel_slice r0 with ⟨_, _, _, rfl⟩ | ⟨_, _, hh, _⟩ | ⟨_, _, _, hh, _⟩
              · obtain rfl : k = 0 := by omega
                have hG := grownCap_ge w (0 + m) 0 (ρ.t 3)
                have hG2 := grownCap_le_maxLen w (0 + m) 0 (ρ.t 3) (by simp only [Go.maxLen, maxLen]; omega)
                refine (Any2.slices_Insert_int_end_grow L none 0 0 _ _ m xc' [] new w hm (Nat.le_refl _) (by omega) (by omega) rfl hnl (fun _ => rfl) (fun a ha => by cases ha) hvs h1v).mono ?_
                rintro e' w' ⟨rfl, rfl⟩
                generalize grownCap w (0 + m) 0 (ρ.t 3) = G at hG hG2 ⊢
                have hsz : (([] ++ new).toArray ++ Builtin.zeroCells (Value.int .i64 0).cells (G - (0 + m))).size = G := by
                  rw [Array.size_append, zero_size]; simp [hnl]; omega
                refine res_new (o' := .cells (([] ++ new).toArray ++ Builtin.zeroCells (Value.int .i64 0).cells (G - (0 + m))) (ρ.t 3) (0, 0)) (z := some (1, _)) hw ⟨rfl, rfl, rfl⟩ rfl (or_ints (by rw [hsz]; exact hG2) hiall fun k v hk => ?_) (by rw [hsz]; exact vrel_ints hG2 hG (by omega))
                simp only [List.take_nil, List.drop_nil, List.append_nil, List.nil_append] at hk ⊢
                rw [Nat.zero_add, Array.getElem?_append_left (by simpa using (List.getElem?_eq_some_iff.1 hk).1)]
                simpa using hk
              · cases hh
              · cases hh
            · cases ho
          | some a =>
            dsimp only at hk
            have lnew : ∀ {cs : List Value} {N : Nat}, Lays1 P μ h w (.new (.row cs true (some 1))) cs N := fun o' z w' v' a1 a2 a3 a4 => res_new hw a1 a2 a3 a4
            -- nothing there yet
            have nil : ∀ {a' : Addr} {e : Eff}, c = 0 → Lays1 P μ h w e ([] ++ new) (0 + m) → Calls P (ρ.f 21) #[.slice (some a') 0 0, .int .i64 ((0 : Nat) : Int), .slice (some ⟨(μ.f xb).1, (μ.f xb).2 + xo0, none⟩) m xc'] w (Res P μ h w (.slice (some ⟨h.length, 0, none⟩) (0 + m) (0 + m)) (e.on h)) := fun {a' e} h0 lay =>
              ins_end L hw (n := 0) (C := 0) (old := []) lay hm (Nat.le_refl _) (by omega) (by omega) rfl han rfl hnl (fun hh => by cases hh) (fun a ha j v hj => by simp at hj) hvs h1v
            by_cases hsp0 : a.spot.isSome = true
            · rw [if_pos hsp0] at hk
              split at hk
              · rename_i h0
                subst h0
                cases hk
                obtain rfl : k = 0 := by omega
                have hold : old = [] := by simp [firstC] at ho; exact ho
                subst hold
                rcases vrel_slice r0 with ⟨hh, _⟩ | ⟨y, y', hy, hc0, _, rfl⟩ | ⟨y, O, C, hy, hsp, _⟩
                · cases hh
                · have := nil (a' := y') rfl lnew
                  simpa using this
                · cases hy; rw [hsp] at hsp0; cases hsp0
              · cases hk
            rw [if_neg hsp0] at hk
            split at hk
            · rename_i csb wrb _ hrb
              cases hk
              rcases vrel_slice r0 with ⟨hh, _⟩ | ⟨y, y', hy, hc0, _, rfl⟩ | ⟨y, O, C, hy, hsp, hVb, _, hcC, hO, hS, hZ0, rfl⟩
              · cases hh
              · cases hy
                subst hc0
                obtain rfl : k = 0 := by omega
                have hold : old = [] := by simp [firstC] at ho; exact ho
                subst hold
                have := nil (a' := y') rfl lnew
                simpa using this
              · cases hy
                obtain ⟨b, o, sp⟩ := a
                simp only at hsp hVb hO hS hrb hZ0; subst hsp
                obtain ⟨ob', hob, cb, Tb, fzb, rfl, hfzb, hcb, hZb⟩ := hw.ob b _ hVb hrb
                obtain ⟨rfl, hO0⟩ := hZ0 (by simpa using hZb)
                obtain ⟨hol, hoc⟩ := first_real ho hrb hao hcb
                have hcs : ∀ (j : Nat) v, old[j]? = some v → w.cell? ⟨(μ.f b).1, O + j, none⟩ = some v := fun j v hj => by rw [cell_at hob, hO0]; exact hoc j v hj
                by_cases hkc : k < C
                · exact ins_mid L hw lnew hkc hm (Nat.le_refl _) (by omega) (by omega) hao han hol hnl hcs hvs h1c h1v
                · obtain rfl : k = C := by omega
                  have := ins_end L hw (base := some ⟨(μ.f b).1, O, none⟩) (xc' := xc') (n := k) (C := k) (old := old) (e := .new (.row (old ++ new) true (some 1))) lnew hm (Nat.le_refl _) (by omega) (by omega) hao han hol hnl (fun hh => by cases hh) (fun a ha j v hj => by cases ha; rw [Addr.add_lit]; exact hcs j v hj) hvs h1v
                  rwa [List.take_of_length_le (by omega), List.drop_of_length_le (by omega), List.append_nil]
            · rename_i csb csx2 hrb hrx2
              cases hk
              rcases vrel_slice r0 with ⟨hh, _⟩ | ⟨y, y', hy, hc0, _, rfl⟩ | ⟨y, O, C, hy, hsp, hVb, _, hcC, hO, hS, _, rfl⟩
              · cases hh
              · cases hy
                have hVb : μ.V a.block := (vrel_dd r0 (by cases hq : a.spot with | none => rfl | some _ => rw [hq] at hsp0; exact (hsp0 rfl).elim)).resolve_right fun hh => by rw [hh, hw.dd] at hrb; cases hrb
                subst hc0
                obtain rfl : k = 0 := by omega
                have hold : old = [] := by simp [firstC] at ho; exact ho
                subst hold
                have := nil (a' := y') rfl (fun o' z w' v' a1 a2 a3 a4 => res_killN hw hVb hrb a1 a2 a3 a4)
                simpa using this
              · cases hy
                obtain ⟨b, o, sp⟩ := a
                simp only at hsp hVb hO hS hrb; subst hsp
                obtain ⟨ob', hob, cb, Tb, fzb, rfl, hfzb, hcb, hZb⟩ := hw.ob b _ hVb hrb
                obtain rfl := hfzb rfl
                have hS := hS 1 cb.size (by simpa using hZb)
                have hSm := μ.hZ b 1 cb.size (by simpa using hZb)
                obtain ⟨hol, hoc⟩ := first_real ho hrb hao hcb
                have hoc' : ∀ (j : Nat) v, old[j]? = some v → cb[O + j]? = some v := fun j v hj => by
                  have := (List.getElem?_eq_some_iff.1 hj).1
                  rw [hO (by omega)]; exact hoc j v hj
                have hcs : ∀ (j : Nat) v, old[j]? = some v → w.cell? ⟨(μ.f b).1, O + j, none⟩ = some v := fun j v hj => by rw [cell_at hob]; exact hoc' j v hj
                by_cases hroom2 : c + m ≤ C
                · have hne : (μ.f xb).1 ≠ (μ.f b).1 := fun hh => by
                    have := hw.inj xb b _ _ hVx hVb hrx2 hrb rfl rfl hh
                    subst this; rw [hrx2] at hrb; cases hrb
                  have hsome : ∀ j, j < C → (w.cell? ⟨(μ.f b).1, O + j, none⟩).isSome = true := fun j hj => by
                    rw [cell_at hob, Array.getElem?_eq_getElem (by omega)]; rfl
                  by_cases hkc : k < c
                  · obtain rfl : wrx = true := by rw [hrx] at hrx2; cases hrx2; rfl
                    obtain rfl := hfzx rfl
                    refine (Any2.slices_Insert_int_shift L (μ.f b).1 O c C k _ _ m xc' old new w hkc hm hroom2 (by simp only [mxL] at hSm; omega) hne hol hnl hcs (fun j hj => hsome j (by omega)) (fun j hj => froz_at hob) hvs h1c h1v _ _ _ _ (shape_at hox) (shape_at hob) (by omega) (froz_at hox) (froz_at hox)).mono ?_
                    rintro e' w' ⟨rfl, rfl⟩
                    obtain ⟨c1, e1, e2, e3, e4⟩ := setCells_real (old.drop k) (O + (k + m)) w.drew cb hob (by simp [hol]; omega)
                    obtain ⟨c2, f1, f2, f3, f4⟩ := setCells_real new (O + k) (w.drew.setCells (μ.f b).1 (O + (k + m)) (old.drop k)) c1 (by rw [e1]; exact Array.getElem?_setIfInBounds_self_of_lt (hw.bd b hVb)) (by omega)
                    refine res_killI (o' := .cells c2 Tb (0, 0)) (s := O) (z := some (1, c2.size)) hw hVb hrb ⟨f4.os.trans e4.os, f4.tape.trans e4.tape, f4.output.trans e4.output⟩ ?_ (or_ints (by omega) hiall fun j v hj => ?_) (vrel_ints (by omega) hroom2 (by omega))
                    · rw [f1, e1, Array.setIfInBounds_setIfInBounds]; rfl
                    · rw [ins_get (by omega)] at hj
                      rw [f3, e3]
                      by_cases h1 : j < k
                      · rw [if_pos h1] at hj
                        rw [if_neg (by omega), if_neg (by omega)]; exact hoc' j v hj
                      · rw [if_neg h1] at hj
                        by_cases h2 : j < k + new.length
                        · rw [if_pos h2] at hj
                          rw [if_pos (by omega), show O + j - (O + k) = j - k by omega]; exact hj
                        · rw [if_neg h2] at hj
                          have := (List.getElem?_eq_some_iff.1 hj).1
                          rw [if_neg (by omega), if_pos (by simp; omega), List.getElem?_drop, show k + (O + j - (O + (k + m))) = j - new.length by omega]; exact hj
                  · obtain rfl : k = c := by omega
                    refine (Any2.slices_Insert_int_end_room L (μ.f b).1 O k C _ _ m xc' new w hm hroom2 (by simp only [mxL] at hSm; omega) hnl (fun j hj => by rw [Nat.add_assoc]; exact hsome _ (by omega)) (fun j hj => froz_at hob) hvs h1v).mono ?_
                    rintro e' w' ⟨rfl, rfl⟩
                    obtain ⟨c2, f1, f2, f3, f4⟩ := setCells_real new (O + k) w cb hob (by omega)
                    refine res_killI (o' := .cells c2 Tb (0, 0)) (s := O) (z := some (1, c2.size)) hw hVb hrb f4 f1 (or_ints (by omega) hiall fun j v hj => ?_) (vrel_ints (by omega) hroom2 (by omega))
                    rw [ins_get (by omega)] at hj
                    rw [f3]
                    by_cases h1 : j < k
                    · rw [if_pos h1] at hj
                      rw [if_neg (by omega)]; exact hoc' j v hj
                    · rw [if_neg h1] at hj
                      by_cases h2 : j < k + new.length
                      · rw [if_pos h2] at hj
                        rw [if_pos (by omega), show O + j - (O + k) = j - k by omega]; exact hj
                      · rw [if_neg h2] at hj
                        have := (List.getElem?_eq_some_iff.1 hj).1
                        omega
                · have lk : ∀ {cs : List Value} {N : Nat}, Lays1 P μ h w (.kill b (.row cs true (some 1))) cs N := fun o' z w' v' a1 a2 a3 a4 => res_killN hw hVb hrb a1 a2 a3 a4
                  by_cases hkc : k < c
                  · exact ins_mid L hw lk hkc hm hcC (by omega) (by omega) hao han hol hnl hcs hvs h1c h1v
                  · obtain rfl : k = c := by omega
                    have := ins_end L hw (base := some ⟨(μ.f b).1, O, none⟩) (xc' := xc') (n := k) (C := C) (old := old) (e := .kill b (.row (old ++ new) true (some 1))) lk hm hcC (by omega) (by omega) hao han hol hnl (fun hh => by cases hh) (fun a ha j v hj => by cases ha; rw [Addr.add_lit]; exact hcs j v hj) hvs h1v
                    rwa [List.take_of_length_le (by omega), List.drop_of_length_le (by omega), List.append_nil]
            · cases hk
        · cases hk
      · cases hk
    · cases hk
  · cases hk
end Go.Canon
