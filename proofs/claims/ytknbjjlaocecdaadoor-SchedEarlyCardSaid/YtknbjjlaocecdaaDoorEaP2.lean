/- SchedEarly, part 2: the canonical machine and the runs of the program's functions on it. No conditions. -/
import Derived.Below
import Derived.Test.YtknbjjlaocecdaaDoorEaP1
set_option linter.unusedSectionVars false
set_option linter.unusedVariables false
set_option linter.unusedSimpArgs false
namespace Go.Canon
set_option linter.unusedVariables false
set_option linter.unusedSimpArgs false
open Go
open Classical
variable {P : Program} {w w' : World} {μ μ' : M} {fr : Nat → Value} {h h' : Heap} {n : Nat}
theorem cC_inv {nt : Nat} {C : Code} {c : KC} (hc : cC P nt C = some c) :
    (∃ (hh : C = .skip ∨ ∃ l, C = .label l), c = .skip) ∨ (∃ id ops d ks prs, C = .region id ops d ∧ c = .reg ks prs) ∨ (∃ A B x y, C = .seq A B ∧ c = .seq x y ∧ cC P nt A = some x ∧ cC P nt B = some y) ∨
    (∃ f A B k x y, C = .cond f A B ∧ c = .cond k x y ∧ cO f = some k ∧ cC P nt A = some x ∧ cC P nt B = some y) ∨ (∃ id A x, C = .block id A ∧ c = .block id x ∧ cC P nt A = some x) ∨ (∃ A x, C = .loop A ∧ c = .loop x ∧ cC P nt A = some x) ∨
    (∃ A x, C = .scope A ∧ c = .seq .skip x ∧ cC P nt A = some x) ∨ (∃ f ps A B k x y, C = .rangeFunc f ps A B ∧ c = .rf k ps.toList x y ∧ cO f = some k ∧ cC P nt A = some x ∧ cC P nt B = some y ∧ ∀ p ∈ ps.toList, p < nt) ∨
    (∃ id, C = .exit id ∧ c = .exit id) ∨ (C = .ret ∧ c = .ret) := by
  cases C with
  | skip => simp only [cC] at hc; cases hc; exact .inl ⟨.inl rfl, rfl⟩
  | label l => simp only [cC] at hc; cases hc; exact .inl ⟨.inr ⟨l, rfl⟩, rfl⟩
  | region id ops d =>
    refine .inr (.inl ?_)
    simp only [cC] at hc
    split at hc
    · split at hc
      · cases hc; exact ⟨id, ops, d, _, _, rfl, rfl⟩
      · cases hc
    · cases hc
  | seq A B =>
    refine .inr (.inr (.inl ?_))
    simp only [cC] at hc
    split at hc
    · rename_i x y hA hB; cases hc; exact ⟨A, B, x, y, rfl, rfl, hA, hB⟩
    · cases hc
  | cond f A B =>
    refine .inr (.inr (.inr (.inl ?_)))
    simp only [cC] at hc
    split at hc
    · rename_i k x y hf hA hB; cases hc; exact ⟨f, A, B, k, x, y, rfl, rfl, hf, hA, hB⟩
    · cases hc
  | block id A =>
    refine .inr (.inr (.inr (.inr (.inl ?_))))
    simp only [cC, Option.map_eq_some_iff] at hc
    obtain ⟨x, hA, rfl⟩ := hc
    exact ⟨id, A, x, rfl, rfl, hA⟩
  | loop A =>
    refine .inr (.inr (.inr (.inr (.inr (.inl ?_)))))
    simp only [cC, Option.map_eq_some_iff] at hc
    obtain ⟨x, hA, rfl⟩ := hc
    exact ⟨A, x, rfl, rfl, hA⟩
  | scope A =>
    refine .inr (.inr (.inr (.inr (.inr (.inr (.inl ?_))))))
    simp only [cC, Option.map_eq_some_iff] at hc
    obtain ⟨x, hA, rfl⟩ := hc
    exact ⟨A, x, rfl, rfl, hA⟩
  | rangeFunc f ps A B =>
    refine .inr (.inr (.inr (.inr (.inr (.inr (.inr (.inl ?_)))))))
    simp only [cC] at hc
    split at hc
    · rename_i k x y hf hA hB
      split at hc
      · rename_i hp
        cases hc
        exact ⟨f, ps, A, B, k, x, y, rfl, rfl, hf, hA, hB, fun p hpm => by simpa using List.all_eq_true.1 hp p hpm⟩
      · cases hc
    · cases hc
  | exit id => simp only [cC] at hc; cases hc; exact .inr (.inr (.inr (.inr (.inr (.inr (.inr (.inr (.inl ⟨id, rfl, rfl⟩))))))))
  | ret => simp only [cC] at hc; cases hc; exact .inr (.inr (.inr (.inr (.inr (.inr (.inr (.inr (.inr ⟨rfl, rfl⟩))))))))
  | goto l => simp [cC] at hc
  | refuse s => simp [cC] at hc
theorem code_step (hm : P.follows .mixedOrders = true) (hIH : ∀ q, q < n + 1 → OKCall P q ∧ OKRound P q ∧ OKCode P q) : OKCode P (n + 1) := by
  intro fi c s e s' hk C μ w a N Q hc hs next
  have hIH2 : ∀ q, q < n → OKCall P q ∧ OKRound P q := fun q hq => ⟨(hIH q (by omega)).1, (hIH q (by omega)).2.1⟩
  have hn := hIH n (by omega)
  rcases cC_inv hc with ⟨hC, rfl⟩ | ⟨id, ops, d, ks, prs, rfl, rfl⟩ | ⟨A, B, x, y, rfl, rfl, hA, hB⟩ | ⟨f, A, B, k, x, y, rfl, rfl, hf, hA, hB⟩ | ⟨id, A, x, rfl, rfl, hA⟩ | ⟨A, x, rfl, rfl, hA⟩ | ⟨A, x, rfl, rfl, hA⟩ | ⟨f, ps, A, B, k, x, y, rfl, rfl, hf, hA, hB, hp⟩ | ⟨id, rfl, rfl⟩ | ⟨rfl, rfl⟩
  · simp only [kcode, Option.some.injEq, Prod.mk.injEq] at hk
    obtain ⟨rfl, rfl⟩ := hk
    rcases hC with rfl | ⟨l, rfl⟩
    · exact wpIn_skip (next μ w a (.refl _ _ _) hs)
    · exact wpIn_label (next μ w a (.refl _ _ _) hs)
  · unfold kcode at hk
    dsimp only at hk
    split at hk
    · rename_i s1 hk1
      simp only [Option.some.injEq, Prod.mk.injEq] at hk
      obtain ⟨rfl, rfl⟩ := hk
      exact region_sound hm FF_is hc hIH2 hk1 hs next
    · cases hk
  · unfold kcode at hk
    dsimp only at hk
    refine wpIn_seq ?_
    cases hka : kcode (tab P) n fi x s with
    | none => rw [hka] at hk; cases hk
    | some r =>
      obtain ⟨e1, s1⟩ := r
      rw [hka] at hk
      refine hn.2.2 fi x s e1 s1 hka A μ w a N _ hA hs fun μ' w' a' h1 h2 => ?_
      cases e1 with
      | normal =>
        simp only [exE, Exit.then]
        rw [← FF_le h1.le hs.rl]
        exact hn.2.2 fi y s1 e s' hk B μ' w' a' N _ hB h2 fun μ'' w'' a'' g1 g2 => next μ'' w'' a'' (h1.trans hs.wr.lt g1) g2
      | exit id =>
        simp only [Option.some.injEq, Prod.mk.injEq] at hk
        obtain ⟨rfl, rfl⟩ := hk
        exact next μ' w' a' h1 h2
      | ret =>
        simp only [Option.some.injEq, Prod.mk.injEq] at hk
        obtain ⟨rfl, rfl⟩ := hk
        exact next μ' w' a' h1 h2
  · unfold kcode at hk
    dsimp only at hk
    split at hk
    · rename_i t ht
      have hfv := frel_operand hs.wr.gl hs.fr hf
      rw [ht] at hfv
      refine wpIn_cond (t := t) (vrel_bool hfv) ?_
      cases t
      · exact hn.2.2 fi y s e s' hk B μ w a N _ hB hs next
      · exact hn.2.2 fi x s e s' hk A μ w a N _ hA hs next
    · cases hk
  · unfold kcode at hk
    dsimp only at hk
    refine wpIn_block ?_
    cases hka : kcode (tab P) n fi x s with
    | none => rw [hka] at hk; cases hk
    | some r =>
      obtain ⟨e1, s1⟩ := r
      rw [hka] at hk
      refine hn.2.2 fi x s e1 s1 hka A μ w a N _ hA hs fun μ' w' a' h1 h2 => ?_
      cases e1 with
      | exit id' =>
        simp only [exE, Exit.inBlock]
        dsimp only at hk
        split at hk
        · rename_i hid
          simp only [Option.some.injEq, Prod.mk.injEq] at hk
          obtain ⟨rfl, rfl⟩ := hk
          rw [if_pos hid]; exact next μ' w' a' h1 h2
        · rename_i hid
          simp only [Option.some.injEq, Prod.mk.injEq] at hk
          obtain ⟨rfl, rfl⟩ := hk
          rw [if_neg hid]; exact next μ' w' a' h1 h2
      | normal =>
        simp only [Option.some.injEq, Prod.mk.injEq] at hk
        obtain ⟨rfl, rfl⟩ := hk
        exact next μ' w' a' h1 h2
      | ret =>
        simp only [Option.some.injEq, Prod.mk.injEq] at hk
        obtain ⟨rfl, rfl⟩ := hk
        exact next μ' w' a' h1 h2
  · refine wpIn_loop_n (fun q a' w' => q ≤ n + 1 ∧ ∃ μ' s1, Stp μ s.h w μ' s1.h w' ∧ SR P μ' fi s1 w' a' ∧ kcode (tab P) q fi (.loop x) s1 = some (e, s')) (n0 := n + 1) ⟨Nat.le_refl _, μ, s, .refl _ _ _, hs, hk⟩ ?_
    rintro q a1 w1 ⟨hq, μ1, s1, hst1, hs1, hk1⟩
    cases q with
    | zero => simp [kcode] at hk1
    | succ q =>
      unfold kcode at hk1
      dsimp only at hk1
      cases hka : kcode (tab P) q fi x s1 with
      | none => rw [hka] at hk1; cases hk1
      | some r =>
        obtain ⟨e2, s2⟩ := r
        rw [hka] at hk1
        rw [← FF_le hst1.le hs.rl]
        refine (hIH q (by omega)).2.2 fi x s1 e2 s2 hka A μ1 w1 a1 N _ hA hs1 fun μ' w' a' g1 g2 => ?_
        cases e2 with
        | normal => exact ⟨q, by omega, by omega, μ', s2, hst1.trans hs.wr.lt g1, g2, hk1⟩
        | exit id =>
          simp only [Option.some.injEq, Prod.mk.injEq] at hk1
          obtain ⟨rfl, rfl⟩ := hk1
          exact next μ' w' a' (hst1.trans hs.wr.lt g1) g2
        | ret =>
          simp only [Option.some.injEq, Prod.mk.injEq] at hk1
          obtain ⟨rfl, rfl⟩ := hk1
          exact next μ' w' a' (hst1.trans hs.wr.lt g1) g2
  · unfold kcode at hk
    dsimp only at hk
    refine wpIn_scope_s ?_
    cases hka : kcode (tab P) n fi .skip s with
    | none => rw [hka] at hk; cases hk
    | some r =>
      obtain ⟨e1, s1⟩ := r
      cases n with
      | zero => simp [kcode] at hka
      | succ n =>
        simp only [kcode, Option.some.injEq, Prod.mk.injEq] at hka
        obtain ⟨rfl, rfl⟩ := hka
        simp only [kcode] at hk
        refine hn.2.2 fi x s e s' hk A μ w a N _ hA hs fun μ' w' a' h1 h2 => ⟨fun l => ?_, next μ' w' a' h1 h2⟩
        cases e <;> simp [exE]
  · exact rf_sound hn.1 hk hf hA hB hp hs next
  · simp only [kcode, Option.some.injEq, Prod.mk.injEq] at hk
    obtain ⟨rfl, rfl⟩ := hk
    exact wpIn_exit (next μ w a (.refl _ _ _) hs)
  · simp only [kcode, Option.some.injEq, Prod.mk.injEq] at hk
    obtain ⟨rfl, rfl⟩ := hk
    exact wpIn_ret (next μ w a (.refl _ _ _) hs)
theorem call_step (hI : InsOk P) (hIH : ∀ q, q < n + 1 → OKCall P q ∧ OKRound P q ∧ OKCode P q) : OKCall P (n + 1) := by
  intro f args h v h' hk μ w args' N hw hv
  have hn := hIH n (by omega)
  unfold kcall at hk
  split at hk
  · rename_i k hT
    split at hk
    · rename_i hi
      split at hk
      · rename_i v1 e1 hki
        cases hk
        obtain ⟨rfl, fn, hf, hn, _⟩ := tab_ins hT hi
        obtain ⟨ρ, L, rfl⟩ := hI _ _ hf hn
        exact callsIn_wide.2 (ins_sim L hki hw hv)
      · cases hk
    rename_i hi
    obtain ⟨fn, c, hf, hb, hcb, hres, hnt, hnp, _⟩ := tab_inv hT hi
    split at hk
    · rename_i hlen
      have hs0 : SR P μ ⟨f, k.nt, none⟩ ⟨frOf args, h, []⟩ w { tmps := args' ++ Array.replicate (fn.ntmps - args'.size) undef, defers := [] } :=
        ⟨hw, by rw [hnt]; exact frel_enter hlen hnp hv, rfl, List.nodup_nil, fun _ h => by simp at h, fun _ h => by cases h⟩
      refine callsIn_of_wp_marks hf hb trivial ?_
      have hend : ∀ (s : St), (∃ e, kcode (tab P) n ⟨f, k.nt, none⟩ k.body ⟨frOf args, h, []⟩ = some (e, s) ∧ (e = .normal ∨ e = .ret)) → (match resultsK s.h s.fr k.res with
          | some v => if ∀ m ∈ s.mks, s.h[m]? = some .mark then some (v, s.mks.foldl (fun h m => h.set m .gone) s.h) else none
          | none => none) = some (v, h') → c.wpIn Fence.wide N P (bodyPostM Fence.wide N P fn (Res P μ h w v h')) { tmps := args' ++ Array.replicate (fn.ntmps - args'.size) undef, defers := [] } w := by
        rintro s ⟨e, hkb, he⟩ hk
        split at hk
        · rename_i v1 hv1
          split at hk
          · rename_i hmk
            simp only [Option.some.injEq, Prod.mk.injEq] at hk
            obtain ⟨rfl, rfl⟩ := hk
            refine hn.2.2 ⟨f, k.nt, none⟩ k.body ⟨frOf args, h, []⟩ e s hkb c μ w _ N _ (by rw [hnt]; exact hcb) hs0 fun μ' w' a' h1 h2 => ?_
            have hleave : LeavesInM Fence.wide N P fn a'.tmps (Res P μ h w v1 (s.mks.foldl (fun h m => h.set m .gone) s.h)) a'.defers .returning w' := by
              rw [h2.de]
              refine leaves hres s.mks s.h w' h2.nd h2.mV hmk h2.wr h2.fr (results_closed hmk hv1) fun w'' v'' g1 g2 g3 => ?_
              have hst := h1.trans hw.lt g1
              exact ⟨v'', μ', rfl, hst, g2, g3⟩
            rcases he with rfl | rfl
            · exact hleave
            · exact hleave
          · cases hk
        · cases hk
      split at hk
      · rename_i s hs; exact hend s ⟨_, hs, .inl rfl⟩ hk
      · rename_i s hs; exact hend s ⟨_, hs, .inr rfl⟩ hk
      · cases hk
    · cases hk
  · cases hk
theorem round_step (hIH : ∀ q, q < n + 1 → OKCall P q ∧ OKRound P q ∧ OKCode P q) : OKRound P (n + 1) := by
  intro l args h v h' hk μ w args' N hw hVl hv
  have hn := hIH n (by omega)
  unfold kround at hk
  split at hk
  · rename_i r hr
    split at hk
    · rename_i hcond
      obtain ⟨hlen, hst, hrd⟩ := hcond
      obtain ⟨o', ho', hor⟩ := hw.ob l _ hVl hr
      obtain ⟨fn, tmps, A, B, rfl, hfr, hA, hB, hp, hrd', hs0, hVb, hz⟩ := hor
      refine ⟨_, ho', by have := hv.1; simp at this ⊢; omega, ?_⟩
      have hFr : Fence.wide.inRound (μ.f l).1 = FF μ r.fi := by unfold FF; rw [hrd]
      have hfold : ((r.params.toArray.zip args').foldl (fun tmps (x : Tmp × Value) => tmps.setIfInBounds x.1 x.2) tmps) = ((r.params.zip args'.toList).foldl (fun tmps (p : Nat × Value) => tmps.setIfInBounds p.1 p.2) tmps) := by
        rw [← Array.foldl_toList, Array.toList_zip]
      have hsr0 : SR P μ r.fi ⟨putAll r.fr r.params args, h, []⟩ w { tmps := (r.params.toArray.zip args').foldl (fun tmps (x : Tmp × Value) => tmps.setIfInBounds x.1 x.2) tmps, defers := [] } := by
        refine ⟨hw, ?_, rfl, List.nodup_nil, fun _ h => by simp at h, fun l' hl' => by rw [hrd] at hl'; cases hl'; exact hVl⟩
        rw [hfold]
        exact frel_putAll r.params args r.fr tmps args'.toList hp hfr hv
      split at hk
      · rename_i s1 hk1
        split at hk
        · rename_i r1 hr1 hmks1
          split at hk
          · rename_i hready
            split at hk
            · rename_i e s2 hk2
              split at hk
              · rename_i r2 hr2 hmks2
                refine roundIn_of_wpIn trivial ?_
                rw [hFr]
                refine hn.2.2 r.fi r.assign _ .normal s1 hk1 A μ w _ N _ hA hsr0 fun μ1 w1 a1 h1 h2 => ?_
                have hV1 := h1.le.V l hVl
                obtain ⟨o1, ho1, hor1⟩ := h2.wr.ob l _ hV1 hr1
                rw [h1.le.f l hVl] at ho1
                obtain ⟨fn1, tmps1, A1, B1, rfl, hfr1, hA1, hB1, hp1, hrd1, hs1, hVb1, hz1⟩ := hor1
                obtain ⟨hwB, hstB⟩ := wr_upd (o := .loop { r1 with st := .busy }) (o' := .loop { state := .busy, pending := r1.pending.map jmp, fn := fn1, tmps := tmps1, params := r1.params.toArray, assign := A1, body := B1, defers := (μ1.f r1.blk).1 }) h2.wr hV1 hr1 rfl
                  ⟨fn1, tmps1, A1, B1, rfl, hfr1, hA1, hB1, hp1, hrd1, hs1, hVb1, hz1⟩
                rw [h1.le.f l hVl] at hwB hstB
                refine ⟨_, run_beginRound ho1 hready, ?_⟩
                have hsB : SR P μ1 r.fi { s1 with h := s1.h.set l (.loop { r1 with st := .busy }) } _ a1 := ⟨hwB, h2.fr, h2.de, h2.nd, h2.mV, h2.rl⟩
                have hst1 := h1.trans hw.lt hstB
                rw [← FF_le h1.le hsr0.rl]
                refine hn.2.2 r.fi r.body _ e s2 hk2 B μ1 _ a1 N _ hB hsB fun μ2 w2 a2 g1 g2 => ?_
                have hst2 := hst1.trans hw.lt g1
                have hV2 := hst2.le.V l hVl
                obtain ⟨o2, ho2, hor2⟩ := g2.wr.ob l _ hV2 hr2
                rw [hst2.le.f l hVl] at ho2
                obtain ⟨fn2, tmps2, A2, B2, rfl, hfr2, hA2, hB2, hp2, hrd2, hs2, hVb2, hz2⟩ := hor2
                have fin : ∀ (j : Option KJump) (st : LoopState) (b : Bool), some (Value.bool b, s2.h.set l (.loop { r2 with st := st, pending := j })) = some (v, h') → st = (if (j.map jmp).isNone then LoopState.ready else .done) → b = (j.map jmp).isNone →
                    ∃ v' w', (Instr.endRound (μ.f l).1 (j.map jmp)).run P w2 = .ok v' w' ∧ Res P μ h w v h' (.returned v') w' := by
                  intro j st b hjk hst hb
                  simp only [Option.some.injEq, Prod.mk.injEq] at hjk
                  obtain ⟨rfl, rfl⟩ := hjk
                  obtain ⟨hwE, hstE⟩ := wr_upd (o := .loop { r2 with st := st, pending := j }) (o' := .loop { state := st, pending := j.map jmp, fn := fn2, tmps := tmps2, params := r2.params.toArray, assign := A2, body := B2, defers := (μ2.f r2.blk).1 }) g2.wr hV2 hr2 rfl
                    ⟨fn2, tmps2, A2, B2, rfl, hfr2, hA2, hB2, hp2, hrd2, hs2, hVb2, hz2⟩
                  rw [hst2.le.f l hVl] at hwE hstE
                  have hrun := run_endRound (P := P) (j.map jmp) ho2
                  rw [← hst] at hrun
                  exact ⟨_, _, hrun, _, μ2, rfl, hst2.trans hw.lt hstE, hwE, by rw [hb]; exact .flat _ rfl⟩
                cases e with
                | normal => exact fin none .ready true hk rfl rfl
                | ret => exact fin (some .ret) .done false hk rfl rfl
                | exit id => exact fin (some (.exit id)) .done false hk rfl rfl
              · cases hk
            · cases hk
          · cases hk
        · cases hk
      · cases hk
    · cases hk
  · cases hk
theorem all_sound (hI : InsOk P) (hm : P.follows .mixedOrders = true) : ∀ n, OKCall P n ∧ OKRound P n ∧ OKCode P n := by
  intro n
  induction n using Nat.strongRecOn with
  | _ n ih =>
    cases n with
    | zero => exact ⟨fun f args h v h' hk => by simp [kcall] at hk, fun f args h v h' hk => by simp [kround] at hk, fun fi c s e s' hk => by simp [kcode] at hk⟩
    | succ n => exact ⟨call_step hI ih, round_step ih, code_step hm ih⟩
/-- **THE LAW.** A call that the canonical machine reckons out. -/
theorem sound (hI : InsOk P) (hm : P.follows .mixedOrders = true) {f : Nat} {args : List Value} {args' : Array Value} {v : Value} (hr : Ret (tab P) f args h v h') (hw : WR P μ h w) (hv : VRels μ args args'.toList) : Calls P f args' w (Res P μ h w v h') :=
  let ⟨n, hk⟩ := hr
  callsIn_wide.1 ((all_sound hI hm n).1 f args h v h' hk μ w args' 0 hw hv)
#print axioms sound
end Go.Canon
namespace Go.Canon
set_option linter.unusedVariables false
set_option linter.unusedSimpArgs false
open Go
variable {P : Program} {w : World}
/-- A cell as the canonical machine is told of it: n blocks; the block n stands for all that has no room. -/
def canV (n : Nat) (v : Value) : Value :=
  match v with
  | .pointer (some ⟨b, o, none⟩) => if b < n then .pointer (some ⟨b, o, none⟩) else veil
  | .slice (some ⟨b, o, sp⟩) k c => if k = 0 ∧ c = 0 then .slice (some ⟨n, 0, none⟩) 0 0 else if sp = none ∧ b < n ∧ k ≤ c then .slice (some ⟨b, o, none⟩) k c else veil
  | v => if flat0 v then v else veil
/-- The same of an argument. -/
def canA (n : Nat) (v : Value) : Value :=
  match v with
  | .agg cs => .agg (cs.map (canV n))
  | v => canV n v
def canO (n : Nat) : Obj → CO
  | .cells c _ _ => .row (c.toList.map (canV n)) false none
  | _ => .other
/-- The objects of a world. -/
def h0 (w : World) : Heap := w.heap.toList.map (canO w.heap.size) ++ [.row [] false none]
def M.start (n : Nat) : M := { f := fun b => (b, 0), V := fun b => b < n, Z := fun _ => none, d := n, hZ := fun _ _ _ h => by cases h }
theorem canV_rel {n : Nat} {v : Value} : VRel (M.start n) (canV n v) v := by
  unfold canV
  split
  · rename_i b o
    split
    · rename_i hb
      have := VRel.ptr (μ := M.start n) b o hb
      simpa [M.start] using this
    · exact .veil _
  · rename_i b o sp k c
    split
    · rename_i h; obtain ⟨rfl, rfl⟩ := h
      exact .sl0 (μ := M.start n) _
    · split
      · rename_i h
        obtain ⟨rfl, hb, hk⟩ := h
        have := VRel.sl (μ := M.start n) b o k c o c hb hk (Nat.le_refl _) (fun _ => by simp [M.start]) (fun z S h => by simp [M.start] at h) (fun _ => by simp [M.start])
        simpa [M.start] using this
      · exact .veil _
  · split
    · rename_i h; exact .flat _ h
    · exact .veil _
theorem canA_rel {n : Nat} {v : Value} : VRel (M.start n) (canA n v) v := by
  unfold canA
  split
  · rename_i cs
    refine .agg _ _ (by simp) fun i v v' x y => ?_
    rw [Array.getElem?_map, y] at x
    simp only [Option.map_some, Option.some.injEq] at x
    subst x; exact canV_rel
  · exact canV_rel
theorem canA_rels {n : Nat} {args : List Value} : VRels (M.start n) (args.map (canA n)) args :=
  ⟨by simp, fun i v v' x y => by
    rw [List.getElem?_map, y] at x
    simp only [Option.map_some, Option.some.injEq] at x
    subst x; exact canA_rel⟩
theorem h0_len (w : World) : (h0 w).length = w.heap.size + 1 := by simp [h0]
theorem h0_get {w : World} {b : Nat} {o : Obj} (h : w.heap[b]? = some o) : (h0 w)[b]? = some (canO w.heap.size o) := by
  have hb := (Array.getElem?_eq_some_iff.1 h).1
  unfold h0
  rw [List.getElem?_append_left (by simpa using hb), List.getElem?_map, Array.getElem?_toList, h]; rfl
theorem h0_last (w : World) : (h0 w)[w.heap.size]? = some (.row [] false none) := by
  have : (w.heap.toList.map (canO w.heap.size)).length = w.heap.size := by simp
  unfold h0
  rw [List.getElem?_append_right (by omega), this, Nat.sub_self]; rfl
theorem start_wr (w : World) (hN : gN ≤ w.heap.size) : WR P (M.start w.heap.size) (h0 w) w where
  ob := fun b o hV ho => by
    obtain ⟨o', ho'⟩ := some_of_lt (w := w) (i := b) hV
    rw [h0_get ho'] at ho
    cases ho
    refine ⟨o', ho', ?_⟩
    cases o' with
    | cells c T fz =>
      refine ⟨c, T, fz, rfl, fun h => (by cases h), fun i v x => ?_, rfl⟩
      rw [List.getElem?_map, Option.map_eq_some_iff] at x
      obtain ⟨u, hu, rfl⟩ := x
      exact ⟨u, by simpa [M.start] using hu, canV_rel⟩
    | _ => exact rfl
  inj := fun b c o q _ _ _ _ _ _ h => h
  bd := fun b h => h
  lt := fun b h => by rw [h0_len]; exact Nat.lt_succ_of_lt h
  nd := Nat.lt_irrefl _
  gl := fun g hg => ⟨Nat.lt_of_lt_of_le hg hN, rfl⟩
  dd := by
    have : (w.heap.toList.map (canO w.heap.size)).length = w.heap.size := by simp
    show (h0 w)[w.heap.size]? = _
    unfold h0
    rw [List.getElem?_append_right (by omega), this, Nat.sub_self]; rfl
theorem h0_still {w : World} {b : Nat} {o : CO} (h : (h0 w)[b]? = some o) : chg o = false := by
  have : o ∈ h0 w := List.mem_of_getElem? h
  simp only [h0, List.mem_append, List.mem_map, List.mem_singleton] at this
  rcases this with ⟨x, _, rfl⟩ | rfl
  · cases x <;> rfl
  · rfl
/-- **A call that the canonical machine reckons out, from whatever world**: what it hands back; nothing that was there is touched. -/
theorem calls_of_ret (hI : InsOk P) (hN : gN ≤ w.heap.size) (hm : P.follows .mixedOrders = true) {f : Nat} {args : Array Value} {v : Bool} {h' : Heap} (hr : Ret (tab P) f (args.toList.map (canA w.heap.size)) (h0 w) (.bool v) h') :
    Calls P f args w fun e w' => e = .returned (.bool v) ∧ RowKit.Below w.heap.size w w' := by
  intro cs
  obtain ⟨e, w', fr, ⟨v', μ', rfl, hst, hw', hrel⟩, rest⟩ := sound hI hm hr (start_wr w hN) canA_rels cs
  refine ⟨.returned v', w', fr, ⟨?_, hst.kin.os, hst.kin.tape, hst.kin.output, hst.frm.1, fun k hk => hst.frm.2 k hk fun b o _ ho _ => h0_still ho⟩, rest⟩
  rw [vrel_bool hrel]
end Go.Canon
namespace Go.Canon
set_option linter.unusedVariables false
set_option linter.unusedSimpArgs false
open Go
/-- Types of what does not change any more. -/
inductive Ty where
  | int (k : IntKind)
  | bool
  | str
  | sl (t : Ty)
  | unit
  | pair (a b : Ty)
  | arr (n : Nat) (t : Ty)
  | ptr (t : Ty)
  | opt (t : Ty)
  | mp (k v : Ty)
  deriving DecidableEq, Inhabited
/-- How many cells. -/
def Ty.sz : Ty → Nat
  | .unit => 0
  | .pair a b => a.sz + b.sz
  | .arr n t => n * t.sz
  | _ => 1
@[reducible] def El : Ty → Type
  | .int _ => Int
  | .bool => Bool
  | .str => ByteArray
  | .sl t => List (El t)
  | .unit => Unit
  | .pair a b => El a × El b
  | .arr _ t => List (El t)
  | .ptr t => El t
  | .opt t => Option (El t)
  | .mp k v => List (El k × El v)
def dfl : (t : Ty) → El t
  | .int _ => (0 : Int)
  | .bool => false
  | .str => ByteArray.empty
  | .sl _ => []
  | .unit => ()
  | .pair a b => (dfl a, dfl b)
  | .arr n t => List.replicate n (dfl t)
  | .ptr t => dfl t
  | .opt _ => none
  | .mp _ _ => []
/-- Types without an address. -/
def Ty.plain : Ty → Bool
  | .int _ | .bool | .str | .unit => true
  | .pair a b => a.plain && b.plain
  | .arr _ t => t.plain
  | _ => false
/-- Types of a map's keys. -/
def Ty.key : Ty → Bool
  | .int _ | .bool | .str | .unit => true
  | .pair a b => a.key && b.key
  | .arr _ t => t.key
  | _ => false
def RepL {α : Type} (R : α → List Value → Prop) : List α → List Value → Prop
  | [], cs => cs = []
  | x :: l, cs => ∃ c1 c2, cs = c1 ++ c2 ∧ R x c1 ∧ RepL R l c2
/-- A list in a row that F lets in. -/
def SlR {α : Type} (F : Nat → Prop) (h : Heap) (sz : Nat) (R : α → List Value → Prop) (l : List α) (cs : List Value) : Prop :=
  (l = [] ∧ ∃ a, cs = [.slice a 0 0] ∧ (a = none ∨ ∃ x, a = some x ∧ x.spot.isSome = true)) ∨
  ∃ b o c row wr gr, cs = [.slice (some ⟨b, o, none⟩) l.length c] ∧ l.length ≤ c ∧ F b ∧ h[b]? = some (.row row wr gr) ∧ (gr = none ∨ gr = some sz) ∧
    (l = [] ∨ o + l.length * sz ≤ row.length ∧ RepL R l ((row.drop o).take (l.length * sz)))
/-- Cells that do not change any more. -/
def PtR (F : Nat → Prop) (h : Heap) (sz : Nat) (R : List Value → Prop) (cs : List Value) : Prop :=
  ∃ b o row wr, cs = [.pointer (some ⟨b, o, none⟩)] ∧ F b ∧ h[b]? = some (.row row wr none) ∧ o + sz ≤ row.length ∧ R ((row.drop o).take sz)
/-- A value of so many cells. -/
def vals (t : Ty) (cs : List Value) : Value :=
  match t with
  | .unit | .pair .. | .arr .. => .agg cs.toArray
  | _ => cs.headD undef
/-- A map's entries: the one with the number i was the i-th that came. -/
def EnR {α β : Type} (K : α → Value → Prop) (R : β → Value → Prop) : Nat → List (α × β) → List MapEntry → Prop
  | _, [], ms => ms = []
  | i, x :: l, ms => ∃ m ms', ms = m :: ms' ∧ m.born = i ∧ K x.1 m.key ∧ R x.2 m.val ∧ EnR K R (i + 1) l ms'
/-- What a typed thing is, cell by cell. -/
def Rep (F : Nat → Prop) (h : Heap) : (t : Ty) → El t → List Value → Prop
  | .int k, z, cs => cs = [.int k z]
  | .bool, b, cs => cs = [.bool b]
  | .str, s, cs => cs = [.string s]
  | .sl t, l, cs => SlR F h t.sz (Rep F h t) l cs
  | .unit, _, cs => cs = []
  | .pair a b, x, cs => ∃ c1 c2, cs = c1 ++ c2 ∧ Rep F h a x.1 c1 ∧ Rep F h b x.2 c2
  | .arr n t, l, cs => l.length = n ∧ RepL (Rep F h t) l cs
  | .ptr t, x, cs => PtR F h t.sz (Rep F h t x) cs
  | .opt _, none, cs => cs = [.pointer none]
  | .opt t, some x, cs => PtR F h t.sz (Rep F h t x) cs
  | .mp k v, l, cs => (l = [] ∧ cs = [.map none]) ∨ ∃ b ms, cs = [.map (some b)] ∧ F b ∧ h[b]? = some (.map ms l.length) ∧
      EnR (fun x u => ∃ cs, u = vals k cs ∧ Rep F h k x cs) (fun x u => ∃ cs, u = vals v cs ∧ Rep F h v x cs) 0 l ms
/-- A piece of a row: a cell, or so many elements of one type. -/
inductive Sg (V : Type) where
  | c (v : V)
  | ar (t : Ty) (n : Nat) (l : List (El t))
/-- Values. -/
inductive V where
  | i (k : IntKind) (z : Int)
  | b (x : Bool)
  | s (x : ByteArray)
  | k (v : Value)                                    -- a constant without an address
  | sl (t : Ty) (l : List (El t))                    -- a list that does not change
  | fp (t : Ty) (x : El t) (j : Nat) (ng : Bool)     -- where cell j of what does not change lies
  | np (t : Ty) (x : Option (El t))                  -- the same, or nil
  | mp (k v : Ty) (l : List (El k × El v))           -- a map that does not change
  | gp (g j : Nat)                                   -- a package's variable
  | e0                                               -- an empty list without room
  | gw (id : Nat)                                    -- a list of one's own, whole
  | gl (id : Nat) (q : List (Nat × Nat × Nat)) (j sz o n c : Nat)  -- a part of it
  | op (id : Nat) (q : List (Nat × Nat × Nat)) (j : Nat)           -- where a cell of one's own lies
  | om (id : Nat)                                    -- a map of one's own
  | fn (f : Nat) (a c : List V)
  | g (l : List (Sg V))
  | tup (l : List V)
  | yl (d : Nat)
  | un
  deriving Inhabited
/-- Objects of one's own; lk: they may not be written now. -/
inductive VO where
  | row (l : List (Sg V)) (ng : Bool) (lk : Bool)
  | mp (k v : Ty) (l : List (El k × El v)) (lk : Bool)
  | gone
  deriving Inhabited
/-- The pieces of a typed thing. -/
def segs : (t : Ty) → El t → List (Sg V)
  | .int k, z => [.c (.i k z)]
  | .bool, b => [.c (.b b)]
  | .str, s => [.c (.s s)]
  | .sl t, l => [.c (.sl t l)]
  | .unit, _ => []
  | .pair a b, x => segs a x.1 ++ segs b x.2
  | .arr n t, l => [.ar t n l]
  | .ptr t, x => [.c (.fp t x 0 true)]
  | .opt t, x => [.c (.np t x)]
  | .mp k v, l => [.c (.mp k v l)]
/-- A typed thing as a value. -/
def encV : (t : Ty) → El t → V
  | .int k, z => .i k z
  | .bool, b => .b b
  | .str, s => .s s
  | .sl t, l => .sl t l
  | .unit, _ => .g []
  | .pair a b, x => .g (segs (.pair a b) x)
  | .arr n t, l => .g [.ar t n l]
  | .ptr t, x => .fp t x 0 true
  | .opt t, x => .np t x
  | .mp k v, l => .mp k v l
end Go.Canon
namespace Go.Canon
set_option linter.unusedVariables false
set_option linter.unusedSimpArgs false
open Go
/-- How code goes on: if this is so; where ways meet; loops. -/
class Cmb where
  grd : {α : Type} → Bool → Option α → Option α
  join : {σ α : Type} → (σ → Option α) → ((σ → Option α) → Option α) → Option α
  loop : {σ α : Type} → (σ → (σ → Option α) → Option α) → Nat → σ → Option α
@[reducible] def realC : Cmb where
  grd c x := bif c then x else none
  join k body := body k
  loop body n := Nat.rec (fun _ => none) (fun _ ih x => body x ih) n
/-- The same, but nothing is reckoned with it. -/
@[reducible] noncomputable def stuckC : Cmb := Classical.choose (⟨realC, rfl⟩ : ∃ c, c = realC)
theorem stuckC_eq : stuckC = realC := Classical.choose_spec (⟨realC, rfl⟩ : ∃ c, c = realC)
class CmbOk (C : Cmb) : Prop where
  eq : C = realC
/-- Go on if this is so. -/
def grd [C : Cmb] {α : Type} (c : Bool) (x : Option α) : Option α := C.grd c x
theorem grd_eq [C : Cmb] [O : CmbOk C] {α : Type} {c : Bool} {x : Option α} : grd c x = bif c then x else none := by
  have := O.eq; subst this; rfl
abbrev Fr := List (Nat × V)
def lookF : Fr → Nat → V
  | [], _ => .un
  | (d, v) :: r, t => bif Nat.beq d t then v else lookF r t
def constC (v : Value) : V :=
  if flat0 v then match v with
    | .int k z => .i k z
    | .bool b => .b b
    | .string s => .s s
    | .func (.func f) _ _ => .fn f [] []
    | v => .k v
  else .un
def const1 : Value → V
  | .agg cs => if cs.toList.all flat0 then .g (cs.toList.map fun c => .c (constC c)) else .un
  | v => constC v
def constV : Value → V
  | .tuple vs => .tup (vs.toList.map const1)
  | .pointer (some ⟨g, 0, none⟩) => if g < gN then .gp g 0 else .un
  | v => const1 v
def evV (f : Fr) : KO → V
  | .t n => lookF f n
  | .c v => constV v
def putF (f : Fr) (d : Option Nat) (v : V) : Fr :=
  match d with
  | some d => (d, v) :: f
  | none => f
def objAt (vh : List VO) (id : Nat) : VO := vh.getD id .gone
structure Arr where
  t : Ty
  n : Nat
  l : List (El t)
def Sg.len : Sg V → Nat
  | .c _ => 1
  | .ar t n _ => n * t.sz
def dropSg : List (Sg V) → Nat → Option (List (Sg V))
  | l, 0 => some l
  | [], _ + 1 => none
  | s :: r, j + 1 => bif Nat.ble s.len (j + 1) then dropSg r (j + 1 - s.len) else none
def takeSg : List (Sg V) → Nat → Option (List (Sg V))
  | _, 0 => some []
  | [], _ + 1 => none
  | s :: r, j + 1 => bif Nat.ble s.len (j + 1) then (takeSg r (j + 1 - s.len)).map (s :: ·) else none
/-- The cells from j on, so many. -/
def partSg (l : List (Sg V)) (j n : Nat) : Option (List (Sg V)) := (dropSg l j).bind fun r => takeSg r n
/-- Are these so many cells? -/
def lenSg (l : List (Sg V)) (n : Nat) : Bool :=
  match dropSg l n with
  | some [] => true
  | _ => false
def cellSg (l : List (Sg V)) (j : Nat) : Option V :=
  match dropSg l j with
  | some (.c v :: _) => some v
  | _ => none
def setSg (l : List (Sg V)) (j n : Nat) (new : List (Sg V)) : Option (List (Sg V)) :=
  match takeSg l j, dropSg l (j + n) with
  | some a, some b => some (a ++ new ++ b)
  | _, _ => none
/-- Another piece instead of the one at j. -/
def repSg (new : Sg V) : List (Sg V) → Nat → Option (List (Sg V))
  | [], _ => none
  | _ :: r, 0 => some (new :: r)
  | s :: r, j + 1 => bif Nat.ble s.len (j + 1) then (repSg new r (j + 1 - s.len)).map (s :: ·) else none
def arSg (l : List (Sg V)) (j : Nat) : Option Arr :=
  match dropSg l j with
  | some (.ar t n l :: _) => some ⟨t, n, l⟩
  | _ => none
def castL {t t' : Ty} (h : t' = t) (l : List (El t')) : List (El t) := h ▸ l
def castE {t t' : Ty} (h : t' = t) (l : El t') : El t := h ▸ l
def lookN {α : Type} (f : List (Sg V) → Option (α × List Nat × List (Sg V))) : Nat → List (Sg V) → Option (List α × List Nat × List (Sg V))
  | 0, r => some ([], [], r)
  | n + 1, r => match f r with
    | some (x, i, r') => match lookN f n r' with
      | some (l, i', r2) => some (x :: l, i ++ i', r2)
      | none => none
    | none => none
def lookSl (t : Ty) (vh : List VO) : V → Option (List (El t) × List Nat)
  | .sl t' l => if h : t' = t then some (castL h l, []) else none
  | .gw id => match objAt vh id with
    | .row [.ar t' _ l] _ _ => if h : t' = t then some (castL h l, [id]) else none
    | _ => none
  | .gl id [] 0 sz o n _ => match objAt vh id with
    | .row [.ar t' m l] _ _ => if h : t' = t then (bif Nat.ble (o + n) m && Nat.beq sz t.sz then some (((castL h l).drop o).take n, [id]) else none) else none
    | _ => none
  | .k (.slice none 0 0) => some ([], [])
  | .e0 => some ([], [])
  | _ => none
def lookMp (k v : Ty) (vh : List VO) : V → Option (List (El k × El v) × List Nat)
  | .mp k' v' l => if h : k' = k ∧ v' = v then some (h.1 ▸ h.2 ▸ l, []) else none
  | .om id => match objAt vh id with
    | .mp k' v' l _ => if h : k' = k ∧ v' = v then some (h.1 ▸ h.2 ▸ l, [id]) else none
    | _ => none
  | .k (.map none) => some ([], [])
  | _ => none
def lookP {α : Type} (t : Ty) (fx : El t → α) (vh : List VO) (rec : List (Sg V) → Option (El t × List Nat × List (Sg V))) : V → Option (α × List Nat)
  | .fp t' x 0 true => if h : t' = t then some (fx (castE h x), []) else none
  | .op id [] 0 => match objAt vh id with
    | .row l true _ => match rec l with
      | some (x, i, []) => some (fx x, id :: i)
      | _ => none
    | _ => none
  | _ => none
/-- One cell. -/
def lk1 {α : Type} (f : V → Option (α × List Nat)) : List (Sg V) → Option (α × List Nat × List (Sg V))
  | .c v :: r => match f v with
    | some (x, i) => some (x, i, r)
    | none => none
  | _ => none
def lkI (k : IntKind) : V → Option (Int × List Nat)
  | .i k' z => if k' = k then some (z, []) else none
  | _ => none
def lkB : V → Option (Bool × List Nat)
  | .b b => some (b, [])
  | _ => none
def lkS : V → Option (ByteArray × List Nat)
  | .s s => some (s, [])
  | _ => none
def lkO (t : Ty) (vh : List VO) (rec : List (Sg V) → Option (El t × List Nat × List (Sg V))) : V → Option (Option (El t) × List Nat)
  | .np t' x => if h : t' = t then some (h ▸ x, []) else none
  | .k (.pointer none) => some (none, [])
  | v => lookP t some vh rec v
def lkA (n : Nat) (t : Ty) (rec : List (Sg V) → Option (El t × List Nat × List (Sg V))) : List (Sg V) → Option (List (El t) × List Nat × List (Sg V))
  | .ar t' n' l :: r => if h : t' = t ∧ n' = n then some (castL h.1 l, [], r) else lookN rec n (.ar t' n' l :: r)
  | r => lookN rec n r
def lookS (vh : List VO) : (t : Ty) → List (Sg V) → Option (El t × List Nat × List (Sg V))
  | .int k => lk1 (lkI k)
  | .bool => lk1 lkB
  | .str => lk1 lkS
  | .sl t => lk1 (lookSl t vh)
  | .unit => fun r => some ((), [], r)
  | .pair a b => fun r => match lookS vh a r with
    | some (x, i, r') => match lookS vh b r' with
      | some (y, i', r2) => some ((x, y), i ++ i', r2)
      | none => none
    | none => none
  | .arr n t => lkA n t (lookS vh t)
  | .ptr t => lk1 (lookP t id vh (lookS vh t))
  | .opt t => lk1 (lkO t vh (lookS vh t))
  | .mp k v => lk1 (lookMp k v vh)
/-- A value's pieces. -/
def segV : V → Option (List (Sg V))
  | .g l => some l
  | .un | .tup _ => none
  | v => some [.c v]
/-- Is it a value of many cells? -/
def Ty.wide : Ty → Bool
  | .unit | .pair .. | .arr .. => true
  | _ => false
def isG : V → Bool
  | .g _ => true
  | _ => false
def lookV (vh : List VO) (t : Ty) (v : V) : Option (El t × List Nat) :=
  if isG v = t.wide then
    match segV v with
    | some l => match lookS vh t l with
      | some (x, i, []) => some (x, i)
      | _ => none
    | none => none
  else none
/-- The objects of one's own that may not change any more. -/
def kill : List Nat → List VO → List VO
  | [], vh => vh
  | i :: r, vh => kill r (vh.set i .gone)
/-- None of these is locked. -/
def VO.free : VO → Bool
  | .row _ _ lk => !lk
  | .mp _ _ _ lk => !lk
  | .gone => false
def freeAll (vh : List VO) (l : List Nat) : Bool := l.all fun i => (objAt vh i).free
/-- A typed thing that does not change any more. -/
def frz (vh : List VO) (t : Ty) (v : V) : Option (El t × List VO) :=
  match lookV vh t v with
  | some (x, i) => if freeAll vh i then some (x, kill i vh) else none
  | none => none
def frzS (vh : List VO) (t : Ty) (l : List (Sg V)) : Option (El t × List VO) :=
  match lookS vh t l with
  | some (x, i, []) => if freeAll vh i then some (x, kill i vh) else none
  | _ => none
def getQ : List (Sg V) → List (Nat × Nat × Nat) → Option (List (Sg V))
  | l, [] => some l
  | l, (j, sz, i) :: q => match arSg l j with
    | some a => if a.t.sz = sz then getQ (segs a.t (a.l.getD i (dfl a.t))) q else none
    | none => none
def ltB (i n : Nat) : Bool := decide (i < n)
/-- The way stays inside. -/
def qB : List (Sg V) → List (Nat × Nat × Nat) → Bool
  | _, [] => true
  | l, (j, sz, i) :: q => match arSg l j with
    | some a => match q with
      | [] => ltB i a.n
      | q => ltB i a.n && qB (segs a.t (a.l.getD i (dfl a.t))) q
    | none => false
def setQ (f : List (Sg V) → Option (List (Sg V))) : List (Nat × Nat × Nat) → List (Sg V) → Option (List (Sg V))
  | [], l => f l
  | (j, sz, i) :: q, l => match arSg l j with
    | some a => if a.t.sz = sz then
        match setQ f q (segs a.t (a.l.getD i (dfl a.t))) with
        | some e => match lookS [] a.t e with
          | some (y, [], []) => repSg (.ar a.t a.n (a.l.set i y)) l j
          | _ => none
        | none => none
      else none
    | none => none
def arrAt (vh : List VO) (id : Nat) (q : List (Nat × Nat × Nat)) (j : Nat) : Option Arr :=
  match objAt vh id with
  | .row l _ _ => (getQ l q).bind fun l => arSg l j
  | _ => none
/-- What a slice is: its elements' type, which of them, how many, the room. -/
structure Sl where
  t : Ty
  l : List (El t)
  o : Nat
  n : Nat
def slOf (vh : List VO) : V → Option Sl
  | .sl t l => some ⟨t, l, 0, l.length⟩
  | .gw id => match objAt vh id with
    | .row [.ar t n l] _ _ => some ⟨t, l, 0, n⟩
    | _ => none
  | .gl id q j sz o n c => (arrAt vh id q j).bind fun a => if a.t.sz = sz then some ⟨a.t, a.l, o, n⟩ else none
  | _ => none
def lenV (vh : List VO) : V → Option Nat
  | .sl _ l => some l.length
  | .gw id => match objAt vh id with
    | .row [.ar _ n _] _ _ => some n
    | _ => none
  | .gl _ _ _ _ _ n _ => some n
  | .k (.slice none 0 0) => some 0
  | .e0 => some 0
  | _ => none
/-- A list stays a list. -/
def shOk (q : List (Nat × Nat × Nat)) (l l' : List (Sg V)) : Bool :=
  match q, l with
  | [], [.ar t n _] => match l' with
    | [.ar t' n' _] => decide (t' = t) && Nat.beq n' n
    | _ => false
  | _, _ => true
def setObj (vh : List VO) (id : Nat) (q : List (Nat × Nat × Nat)) (f : List (Sg V) → Option (List (Sg V))) : Option (List VO) :=
  match objAt vh id with
  | .row l ng false => match setQ f q l with
    | some l' => if shOk q l l' then some (vh.set id (.row l' ng false)) else none
    | none => none
  | _ => none
def keq : (t : Ty) → El t → El t → Bool
  | .int _, a, b => (a : Int) == b
  | .bool, a, b => (a : Bool) == b
  | .str, a, b => (a : ByteArray) == b
  | .unit, _, _ => true
  | .pair a b, x, y => keq a x.1 y.1 && keq b x.2 y.2
  | .arr _ t, x, y => keqL (keq t) x y
  | _, _, _ => false
where keqL {α : Type} (f : α → α → Bool) : List α → List α → Bool
  | [], [] => true
  | x :: xs, y :: ys => f x y && keqL f xs ys
  | _, _ => false
def kinds : Ty → Option (List Nat)
  | .int _ => some [1]
  | .bool => some [0]
  | .str => some [2]
  | .unit => some []
  | .pair a b => match kinds a, kinds b with
    | some x, some y => some (x ++ y)
    | _, _ => none
  | .arr n t => (kinds t).map fun x => (List.replicate n x).flatten
  | _ => none
def kdOf (t : Ty) : Option Nat :=
  match t with
  | .int _ => some 1
  | .bool => some 0
  | .str => some 2
  | _ => (kinds t).bind fun ks => if ksOf (codeK ks) = ks then some (codeK ks) else none
def findM {k v : Ty} (key : El k) : List (El k × El v) → Nat → Option (Nat × El v)
  | [], _ => none
  | e :: es, i => bif keq k key e.1 then some (i, e.2) else findM key es (i + 1)
def insM {k v : Ty} (key : El k) (x : El v) (es : List (El k × El v)) : List (El k × El v) :=
  match findM key es 0 with
  | some (i, _) => es.set i (key, x)
  | none => es ++ [(key, x)]
def atM {k v : Ty} (key : El k) (z : El v) (es : List (El k × El v)) : El v := ((findM key es 0).map (·.2)).getD z
def hasM {k v : Ty} (key : El k) (es : List (El k × El v)) : Bool := (findM key es 0).isSome
abbrev insMx (k v : Ty) (key : El k) (x : El v) (es : List (El k × El v)) : List (El k × El v) := insM key x es
abbrev atMx (k v : Ty) (key : El k) (z : El v) (es : List (El k × El v)) : El v := atM key z es
/-- Comparing numbers. -/
def ltI (a b : Int) : Bool := decide (a < b)
def leI (a b : Int) : Bool := decide (a ≤ b)
def gtI (a b : Int) : Bool := decide (a > b)
def geI (a b : Int) : Bool := decide (a ≥ b)
def eqI (a b : Int) : Bool := decide (a = b)
def leN (a b : Nat) : Bool := decide (a ≤ b)
end Go.Canon
namespace Go.Canon
noncomputable section
variable [Cmb]
set_option linter.unusedVariables false
set_option linter.unusedSimpArgs false
open Go
/-- What is told of an operation beforehand: the type of what it lays; arrays in it. -/
structure OpH where
  t : Option Ty := none
  v : Ty := .unit
  ars : List (Nat × Nat × Ty) := []
/-- Cells as an array. -/
def arfy (l : List (Sg V)) : List (Nat × Nat × Ty) → Option (List (Sg V))
  | [] => some l
  | (j, n, t) :: r => match partSg l j (n * t.sz) with
    | some p => match lookS [] (.arr n t) p with
      | some (x, [], []) => (setSg l j (n * t.sz) [.ar t n x]).bind fun l' => arfy l' r
      | _ => none
    | none => none
def overlayV (l : List (Sg V)) : List (Nat × Nat × V) → Option (List (Sg V))
  | [] => some l
  | (o, s, v) :: r => match segV v with
    | some p => if lenSg p s then (setSg l o s p).bind fun l' => overlayV l' r else none
    | none => none
def consts (z : List Value) : List (Sg V) := z.map fun c => .c (constC c)
/-- Zeros alone. -/
def zok {α : Type} (z : List Value) (x : Option α) : Option α := if z.all flat0 then x else none
def grdQ {α : Type} (l : List (Sg V)) (q : List (Nat × Nat × Nat)) (x : Option α) : Option α :=
  match q with
  | [] => x
  | q => grd (qB l q) x
def inB (z : Int) (n : Nat) : Bool := decide (0 ≤ z) && decide (z < n)
def mx2 (a y : Int) : Int := if y > a then y else a
def mn2 (a y : Int) : Int := if y < a then y else a
def intsV : List V → Option (List Int)
  | [] => some []
  | .i .i64 z :: r => (intsV r).map (z :: ·)
  | _ => none
section
variable {α : Type}
def vInt (op : BinOp) (k : IntKind) (a b : Int) (K : V → Option α) : Option α :=
  match op with
  | .add => K (.i k (k.wrap (a + b)))
  | .sub => K (.i k (k.wrap (a - b)))
  | .mul => K (.i k (k.wrap (a * b)))
  | .quo => grd (b != 0) (K (.i k (k.wrap (a.tdiv b))))
  | .rem => grd (b != 0) (K (.i k (a.tmod b)))
  | .and | .or | .xor | .andNot => K (.i k ((kbits op k a b).getD 0))
  | .eql => K (.b (a == b))
  | .neq => K (.b (a != b))
  | .lss => K (.b (decide (a < b)))
  | .leq => K (.b (decide (a ≤ b)))
  | .gtr => K (.b (decide (a > b)))
  | .geq => K (.b (decide (a ≥ b)))
  | _ => none
def vStr (op : BinOp) (x y : ByteArray) (K : V → Option α) : Option α :=
  match op with
  | .add => grd (decide (((x.size + y.size : Nat) : Int) ≤ IntKind.i64.max)) (K (.s (x ++ y)))
  | .eql => K (.b (x.toList == y.toList))
  | .neq => K (.b (!(x.toList == y.toList)))
  | .lss => K (.b (Op.bytesLess x.toList y.toList))
  | .leq => K (.b (Op.bytesLess x.toList y.toList || x.toList == y.toList))
  | .gtr => K (.b (!(Op.bytesLess x.toList y.toList || x.toList == y.toList)))
  | .geq => K (.b (!Op.bytesLess x.toList y.toList))
  | _ => none
def vBin (op : BinOp) (x y : V) (K : V → Option α) : Option α :=
  match op, x, y with
  | .shl, .i k a, .i _ b => grd (decide (0 ≤ b)) (K (.i k (k.wrap (a * 2 ^ (min b.toNat k.bits)))))
  | .shr, .i k a, .i _ b => grd (decide (0 ≤ b)) (K (.i k (a.fdiv (2 ^ (min b.toNat k.bits)))))
  | op, .i k a, .i k' b => if k = k' then vInt op k a b K else none
  | op, .s a, .s b => vStr op a b K
  | _, _, _ => none
def eqC : Nat → V → V → Option Bool
  | 0, .b a, .b b => some (a == b)
  | 1, .i k a, .i k' b => if k = k' then some (a == b) else none
  | 2, .s a, .s b => some (a == b)
  | _, _, _ => none
def eqSg : List Nat → List (Sg V) → List (Sg V) → Option Bool
  | [], [], [] => some true
  | k :: ks, .c x :: xs, .c y :: ys => match eqC k x y, eqSg ks xs ys with
    | some a, some b => some (a && b)
    | _, _ => none
  | _, _, _ => none
def isNilV : Nat → V → Option Bool
  | 0, .k (.slice none 0 0) => some true
  | 1, .k .nilFunc => some true
  | 1, .fn .. => some false
  | 2, .k (.map none) => some true
  | 2, .om _ => some false
  | 3, .k (.pointer none) => some true
  | 3, .fp .. => some false
  | 3, .op .. => some false
  | 3, .gp .. => some false
  | 3, .np _ x => some x.isNone
  | _, _ => none
open Classical in
/-- Both, which must be the same. -/
def same {β : Type} (a b : Option β) : Option β := if a = b then a else none
theorem same_self {β : Type} (a : Option β) : same a a = a := if_pos rfl
theorem same_some {β : Type} {a b : Option β} {r : β} (e : same a b = some r) : a = some r ∧ b = some r := by
  unfold same at e
  split at e
  · rename_i h; exact ⟨e, h ▸ e⟩
  · cases e
/-- May a list be nil, for all that is known? -/
def nilU (vh : List VO) : V → Option Bool
  | .sl _ l => some l.isEmpty
  | .gw id => match objAt vh id with
    | .row [.ar _ n _] ng _ => some (!ng && Nat.beq n 0)
    | _ => none
  | .e0 => some true
  | _ => none
/-- Cells that are all looked at one by one: a short array as cells. -/
def flatSg : List (Sg V) → List (Sg V)
  | [] => []
  | .c v :: r => .c v :: flatSg r
  | .ar t n l :: r => ((List.range n).map fun i => segs t (l.getD i (dfl t))).flatten ++ flatSg r
def rdK (l : List (Sg V)) (j : Nat) (n : Option Nat) (K : V → Option α) : Option α :=
  match n with
  | none => match cellSg l j with
    | some v => K v
    | none => none
  | some m => match partSg l j m with
    | some p => K (.g p)
    | none => none
def vBnd (o : Option V) (d m : Nat) (K : Nat → Option α) : Option α :=
  match o with
  | none => K d
  | some (.i _ z) => grd (decide (0 ≤ z) && decide (z ≤ m)) (K z.toNat)
  | _ => none
def zeroI : Option V → Bool
  | some (.i _ (.ofNat 0)) => true
  | _ => false
def cutL {β : Type} (l : List β) (lo hi : Option V) (a b : Nat) : List β :=
  match lo, hi with
  | none, none => l
  | none, some _ => l.take b
  | some _, none => l.drop a
  | some _, some _ => (l.take b).drop a
variable (G : Nat → List (Sg V)) (H : Option OpH) (f : Fr) (vh : List VO) (K : V → List VO → Option α)
/-- What lies where a pointer leads. -/
def vLd (p : V) (n : Option Nat) : Option α :=
  match p with
  | .fp t x j _ => rdK (segs t x) j n (K · vh)
  | .np t x => match x with
    | some y => rdK (segs t y) 0 n (K · vh)
    | none => none
  | .op id q j => match objAt vh id with
    | .row l _ _ => match getQ l q with
      | some l' => grdQ l q (rdK l' j n (K · vh))
      | none => none
    | _ => none
  | .gp g j => rdK (G g) j n (K · vh)
  | _ => none
def vSt (p v : V) (n : Nat) : Option α :=
  match p, segV v with
  | .op id q j, some new => if lenSg new n then
      match objAt vh id, setObj vh id q (fun l => setSg l j n new) with
      | .row l _ _, some vh' => grdQ l q (K (.tup []) vh')
      | _, _ => none
    else none
  | _, _ => none
def vIaS (x i : V) (sz : Nat) : Option α :=
  match x, i with
  | .sl t l, .i _ z => if t.sz = sz then grd (inB z l.length) (K (.fp t (l.getD z.toNat (dfl t)) 0 false) vh) else none
  | .gw id, .i _ z => match objAt vh id with
    | .row [.ar t n l] _ _ => if t.sz = sz then grd (inB z n) (K (.op id [(0, sz, z.toNat)] 0) vh) else none
    | _ => none
  | .gl id q j sz' o n c, .i _ z => if sz' = sz then grd (inB z n) (K (.op id (q ++ [(j, sz, o + z.toNat)]) 0) vh) else none
  | _, _ => none
def vIaA (x i : V) (len sz : Nat) : Option α :=
  match x, i with
  | .fp t x j ng, .i _ z => match arSg (segs t x) j with
    | some a => if a.n = len ∧ a.t.sz = sz then grd (inB z len) (K (.fp a.t (a.l.getD z.toNat (dfl a.t)) 0 ng) vh) else none
    | none => none
  | .np t x, .i _ z => match x with
    | some x => match arSg (segs t x) 0 with
      | some a => if a.n = len ∧ a.t.sz = sz then grd (inB z len) (K (.fp a.t (a.l.getD z.toNat (dfl a.t)) 0 true) vh) else none
      | none => none
    | none => none
  | .op id q j, .i _ z => match arrAt vh id q j with
    | some a => if a.n = len ∧ a.t.sz = sz then grd (inB z len) (K (.op id (q ++ [(j, sz, z.toNat)]) 0) vh) else none
    | none => none
  | .gp g j, .i _ z => grd (inB z len) (K (.gp g (j + z.toNat * sz)) vh)
  | _, _ => none
def vIxA (x i : V) (len sz : Nat) (n : Option Nat) : Option α :=
  match x, i with
  | .g l, .i _ z => match arSg l 0 with
    | some a => if a.n = len ∧ a.t.sz = sz then grd (inB z len) (rdK (segs a.t (a.l.getD z.toNat (dfl a.t))) 0 n (K · vh)) else none
    | none => grd (inB z len) (rdK l (z.toNat * sz) n (K · vh))
  | _, _ => none
/-- Elements of this size, if it is a list. -/
def okSz (l : List (Sg V)) (sz : Nat) : Bool :=
  match l with
  | [.ar t _ _] => Nat.beq t.sz sz
  | _ => true
def vSlS (x : V) (lo hi mx : Option V) (sz : Nat) : Option α :=
  match mx with
  | some _ => if zeroI lo && zeroI hi && zeroI mx then
      match x with
      | .sl t _ => if t.sz = sz then K .e0 vh else none
      | .gw id | .gl id _ _ _ _ _ _ => match objAt vh id with
        | .row l _ _ => if okSz l sz then K .e0 vh else none
        | _ => none
      | .e0 => K .e0 vh
      | .k (.slice none 0 0) => K .e0 vh
      | _ => none
    else none
  | none => match x with
    | .sl t l => if t.sz = sz then vBnd hi l.length l.length fun b => vBnd lo 0 b fun a => K (.sl t (cutL l lo hi a b)) vh else none
    | .gw id => match objAt vh id with
      | .row [.ar t n l] _ _ => if t.sz = sz then vBnd hi n n fun b => vBnd lo 0 b fun a => K (.gl id [] 0 sz (bif Nat.beq n a then 0 else a) (b - a) (n - a)) vh else none
      | _ => none
    | .gl id q j sz' o n c => match objAt vh id with
      | .row l _ _ => if sz' = sz ∧ okSz l sz = true then vBnd hi n c fun b => vBnd lo 0 b fun a => K (.gl id q j sz (bif Nat.beq c a then o else o + a) (b - a) (c - a)) vh else none
      | _ => none
    | .k (.slice none 0 0) => vBnd hi 0 0 fun b => vBnd lo 0 b fun a => K (.k (.slice none 0 0)) vh
    | _ => none
def vSlA (x : V) (lo hi mx : Option V) (len sz : Nat) : Option α :=
  match mx with
  | some _ => none
  | none => match x with
    | .op id q j => match objAt vh id with
      | .row l true _ => match (getQ l q).bind fun l => arSg l j with
        | some a => if a.n = len ∧ a.t.sz = sz then vBnd hi len len fun b => vBnd lo 0 b fun i => K (.gl id q j sz (bif Nat.beq len i then 0 else i) (b - i) (len - i)) vh else none
        | none => none
      | _ => none
    | .fp t x j true => match arSg (segs t x) j with
      | some a => if a.n = len ∧ a.t.sz = sz then vBnd hi len len fun b => vBnd lo 0 b fun i => K (.sl a.t (cutL a.l lo hi i b)) vh else none
      | none => none
    | _ => none
/-- What is appended; whether it is all there. -/
def srcL (t : Ty) (x : V) : Option (Bool × List (El t)) :=
  match x with
  | .k (.slice none 0 0) | .e0 => some (true, [])
  | .sl t' l => if h : t' = t then some (true, castL h l) else none
  | .gw id => match objAt vh id with
    | .row [.ar t' n l] _ _ => if h : t' = t then some (true, castL h l) else none
    | _ => none
  | .gl id q j sz o n c => match objAt vh id with
    | .row l _ _ => match (getQ l q).bind fun l => arSg l j with
      | some a => if h : a.t = t ∧ sz = t.sz then some (qB l q && decide (o + n ≤ a.n), ((castL h.1 a.l).drop o).take n) else none
      | none => none
    | _ => none
  | _ => none
def tyOf (x : V) : Option Ty := (slOf vh x).map (·.t)
def vApp (s x : V) (sz bytes : Nat) : Option α :=
  match s with
  | .k (.slice none 0 0) | .e0 => match (match tyOf vh x with | some t => some t | none => H.bind (·.t)) with
    | some t => if t.sz = sz then match srcL vh t x with
      | some (b, l') => grd (b && decide (l'.length * bytes ≤ roomB)) (K (.gw vh.length) (vh ++ [.row [.ar t l'.length l'] false false]))
      | none => none
      else none
    | none => none
  | .gw id => match objAt vh id with
    | .row [.ar t n l] _ false => if t.sz = sz then match srcL vh t x with
      | some (b, l') => grd (b && decide ((n + l'.length) * bytes ≤ roomB)) (K (.gw vh.length) (vh.set id .gone ++ [.row [.ar t (n + l'.length) (l ++ l')] false false]))
      | none => none
      else none
    | _ => none
  | _ => none
def cpyL {β : Type} (l : List β) (o m : Nat) (src : List β) : List β := l.take o ++ src.take m ++ l.drop (o + m)
/-- A list of one's own changed: its elements from o on, n of them. -/
def onArr (x : V) (sz : Nat) (fu : (a : Arr) → Nat → Nat → Option (Bool × List (El a.t))) : Option (Bool × List VO) :=
  match x with
  | .gw id => match objAt vh id with
    | .row [.ar t n l] ng false => if t.sz = sz then match fu ⟨t, n, l⟩ 0 n with
      | some (b, l') => some (b, vh.set id (.row [.ar t n l'] ng false))
      | none => none
      else none
    | _ => none
  | .gl id q j sz' o n c => match objAt vh id with
    | .row l ng false => match (getQ l q).bind fun l => arSg l j with
      | some a => if a.t.sz = sz ∧ sz' = sz then match fu a o n with
        | some (b, l') => match setQ (repSg (.ar a.t a.n l') · j) q l with
          | some l2 => some (b && (qB l q && decide (o + n ≤ a.n)), vh.set id (.row l2 ng false))
          | none => none
        | none => none
        else none
      | none => none
    | _ => none
  | _ => none
def vCpy (d s : V) (sz : Nat) : Option α :=
  match lenV vh d, lenV vh s with
  | some nd, some ns =>
    match onArr vh d sz (fun a o n => match srcL vh a.t s with
      | some (b, l') => some (b, cpyL a.l o (min ns n) l')
      | none => none) with
    | some (b, vh') => grd b (K (.i .i64 (min ns nd : Nat)) vh')
    | none => none
  | _, _ => none
def vClr (x : V) (z : List Value) : Option α :=
  match x with
  | .k (.slice none 0 0) | .e0 => K (.tup []) vh
  | x => zok z <| match onArr vh x z.length (fun a o n => match lookS [] a.t (consts z) with
      | some (y, [], []) => some (true, cpyL a.l o n (List.replicate n y))
      | _ => none) with
    | some (b, vh') => grd b (K (.tup []) vh')
    | none => none
/-- A map, whether it may be written. -/
def vLk (kd : Nat) (m key : V) (z : Value) (ok : Bool) : Option α :=
  match m with
  | .mp k v l => go k v l
  | .om id => match objAt vh id with
    | .mp k v l _ => go k v l
    | _ => none
  | _ => none
where go (k v : Ty) (l : List (El k × El v)) : Option α :=
  if kdOf k = some kd ∧ k.key = true then
    match lookV [] k key, lookV [] v (const1 z) with
    | some (x, _), some (y, _) => K (if ok then .tup [encV v (atM x y l), .b (hasM x l)] else encV v (atM x y l)) vh
    | _, _ => none
  else none
def vIns (kd : Nat) (m key u : V) : Option α :=
  match m with
  | .om id => match objAt vh id with
    | .mp k v l false => if kdOf k = some kd ∧ k.key = true then
      match lookV [] k key, frz vh v u with
      | some (x, _), some (y, vh') => match objAt vh' id with
        | .mp .. => K (.tup []) (vh'.set id (.mp k v (insM x y l) false))
        | _ => none
      | _, _ => none
      else none
    | _ => none
  | _ => none
def posM {k v : Ty} (key : El k) (es : List (El k × El v)) : Nat := match findM key es 0 with
  | some (i, _) => i
  | none => es.length
def vMent (kd : Nat) (m key : V) (z : Value) : Option α :=
  match m with
  | .om id => match objAt vh id with
    | .mp k v l false => if kdOf k = some kd ∧ k.key = true then
      match lookV [] k key, lookV [] v (const1 z) with
      | some (x, _), some (y, _) => K (.tup [encV v (atM x y l), .i .i64 (posM x l)]) (vh.set id (.mp k v (insM x (atM x y l) l) false))
      | _, _ => none
      else none
    | _ => none
  | _ => none
def vMset (m s u : V) : Option α :=
  match m, s with
  | .om id, .i _ z => match objAt vh id with
    | .mp k v l false => match frz vh v u with
      | some (y, vh') => match objAt vh' id with
        | .mp .. => grd (inB z l.length) (K (.tup []) (vh'.set id (.mp k v (l.modify z.toNat fun e => (e.1, y)) false)))
        | _ => none
      | none => none
    | _ => none
  | _, _ => none
abbrev posMx (k v : Ty) (key : El k) (es : List (El k × El v)) : Nat := posM key es
/-- An operation that is no call. -/
def vop (op : KOp) : Option α :=
  match op with
  | .mv x => K (evV f x) vh
  | .pick c a b => match evV f c, evV f a, evV f b with
    | .b t, .b x, .b y => K (.b (bif t then x else y)) vh
    | .b t, x, y => bif t then K x vh else K y vh
    | _, _, _ => none
  | .new z => zok z <| match arfy (consts z) (match H with | some h => h.ars | none => []) with
    | some l => K (.op vh.length [] 0) (vh ++ [.row l true false])
    | none => none
  | .box x => match segV (evV f x) with
    | some l => match arfy l (match H with | some h => h.ars | none => []) with
      | some l => K (.op vh.length [] 0) (vh ++ [.row l true false])
      | none => none
    | none => none
  | .mk z ps => zok z <| match overlayV (consts z) (ps.map fun (o, s, x) => (o, s, evV f x)) with
    | some l => match arfy l (match H with | some h => h.ars | none => []) with
      | some l => K (.g l) vh
      | none => none
    | none => none
  | .mkS z n ps => zok z <| match H.bind (·.t), overlayV (consts z) (ps.map fun (o, s, x) => (o, s, evV f x)) with
    | some t, some l => match frzS vh (.arr n t) l with
      | some (x, vh') => K (.gw vh'.length) (vh' ++ [.row [.ar t n x] true false])
      | none => none
    | _, _ => none
  | .ld x n => vLd G vh K (evV f x) n
  | .st x v n => vSt vh K (evV f x) (evV f v) n
  | .bin op x y => vBin op (evV f x) (evV f y) (K · vh)
  | .eqB neg x y => match evV f x, evV f y with
    | .b a, .b b => K (.b (neg != (a == b))) vh
    | _, _ => none
  | .eqN neg kd x => match isNilV kd (evV f x) with
    | some b => K (.b (neg != b)) vh
    | none => match kd with
      | 0 => match nilU vh (evV f x) with
        | some u => bif u then same (K (.b (neg != true)) vh) (K (.b (neg != false)) vh) else K (.b (neg != false)) vh
        | none => none
      | _ => none
  | .eqA neg ks x y => match evV f x, evV f y with
    | .g a, .g b => match eqSg ks (flatSg a) (flatSg b) with
      | some t => K (.b (neg != t)) vh
      | none => none
    | _, _ => none
  | .not x => match evV f x with
    | .b t => K (.b (!t)) vh
    | _ => none
  | .neg x => match evV f x with
    | .i k n => K (.i k (k.wrap (0 - n))) vh
    | _ => none
  | .cv k x => match evV f x with
    | .i _ n => K (.i k (k.wrap n)) vh
    | _ => none
  | .fn g a b => K (.fn g (a.map (evV f)) (b.map (evV f))) vh
  | .fa x off => match evV f x with
    | .fp t y j ng => K (.fp t y (j + off) ng) vh
    | .np t y => match y with
      | some y => K (.fp t y off true) vh
      | none => none
    | .op id q j => K (.op id q (j + off)) vh
    | .gp g j => K (.gp g (j + off)) vh
    | _ => none
  | .fld x off n => match evV f x with
    | .g l => rdK l off n (K · vh)
    | _ => none
  | .iaS x i sz => vIaS vh K (evV f x) (evV f i) sz
  | .iaA x i len sz => vIaA vh K (evV f x) (evV f i) len sz
  | .ixA x i len sz n => vIxA vh K (evV f x) (evV f i) len sz n
  | .slS x lo hi mx sz => vSlS vh K (evV f x) (lo.map (evV f)) (hi.map (evV f)) (mx.map (evV f)) sz
  | .slA x lo hi mx len sz => vSlA vh K (evV f x) (lo.map (evV f)) (hi.map (evV f)) (mx.map (evV f)) len sz
  | .ext x i => match evV f x with
    | .tup l => match l[i]? with
      | some v => K v vh
      | none => none
    | _ => none
  | .len x => match lenV vh (evV f x) with
    | some n => K (.i .i64 n) vh
    | none => none
  | .lenS x => match evV f x with
    | .s y => K (.i .i64 y.size) vh
    | _ => none
  | .app s x sz bytes => vApp H vh K (evV f s) (evV f x) sz bytes
  | .cpy d s sz => vCpy vh K (evV f d) (evV f s) sz
  | .clr x z => vClr vh K (evV f x) z
  | .mkSl l c z bytes => zok z <| match evV f l, evV f c, H.bind (·.t) with
    | .i .i64 l, .i .i64 c, some t => match lookS [] t (consts z) with
      | some (y, [], []) => grd (decide (0 ≤ l) && decide (l = c) && decide (c.toNat * bytes ≤ roomB)) (K (.gw vh.length) (vh ++ [.row [.ar t c.toNat (List.replicate c.toNat y)] true false]))
      | _ => none
    | _, _, _ => none
  | .mx l => match intsV (l.map (evV f)) with
    | some (x :: r) => K (.i .i64 (r.foldl mx2 x)) vh
    | _ => none
  | .mn l => match intsV (l.map (evV f)) with
    | some (x :: r) => K (.i .i64 (r.foldl mn2 x)) vh
    | _ => none
  | .mkM => match H with
    | some ⟨some k, v, _⟩ => K (.om vh.length) (vh ++ [.mp k v [] false])
    | _ => none
  | .ins kd m k v => vIns vh K kd (evV f m) (evV f k) (evV f v)
  | .lk kd m k z ok => vLk vh K kd (evV f m) (evV f k) z ok
  | .nilc x => match evV f x with
    | .np t y => match y with
      | some y => K (.fp t y 0 true) vh
      | none => none
    | .fp t y j ng => K (.fp t y j ng) vh
    | .op id q j => K (.op id q j) vh
    | .gp g j => K (.gp g j) vh
    | .fn g a b => K (.fn g a b) vh
    | .yl d => K (.yl d) vh
    | _ => none
  | .ment kd m k z => vMent vh K kd (evV f m) (evV f k) z
  | .mset m s v => vMset vh K (evV f m) (evV f s) (evV f v)
  | .call .. => none
/-- May something be put in here? -/
def insG (i : Int) (n m : Nat) : Bool := decide (0 < m) && decide (0 ≤ i) && decide (i ≤ n) && decide ((n + m) * 8 ≤ roomB)
/-- A list with others put in. -/
def insL (i : Int) (l l' : List Int) : List Int := l.take i.toNat ++ l' ++ l.drop i.toNat
/-- The object of what is put in. -/
def insI : V → Option Nat
  | .gl id _ _ _ _ _ _ | .gw id => some id
  | _ => none
/-- slices.Insert at whole numbers. -/
def vInsert (args : List V) : Option α :=
  match args with
  | [s, .i .i64 i, x] => match insI x with
    | none => none
    | some xid => match objAt vh xid with
    | .row _ true _ => match srcL vh (.int .i64) x with
      | some (b, l') => match s with
        | .k (.slice none 0 0) | .e0 => grd (b && insG i 0 (List.length (α := Int) l')) (K (.gw vh.length) (vh ++ [.row [.ar (.int .i64) (List.length (α := Int) l') l'] false false]))
        | .gw id => match objAt vh id with
          | .row [.ar _ _ _] _ false => match srcL vh (.int .i64) (.gw id) with
            | some (b2, l) => if Nat.beq id xid = true then none else
              grd (b && b2 && insG i (List.length (α := Int) l) (List.length (α := Int) l')) (K (.gw vh.length) (vh.set id .gone ++ [.row [.ar (.int .i64) (List.length (insL i l l')) (insL i l l')] false false]))
            | none => none
          | _ => none
        | _ => none
      | none => none
    | _ => none
  | _ => none
end
end
end Go.Canon
namespace Go.Canon
noncomputable section
variable [Cmb]
set_option linter.unusedVariables false
set_option linter.unusedSimpArgs false
open Go
/-- A cell: a typed thing, or just this. -/
inductive S0 where
  | h (t : Ty)
  | e (v : V)
/-- A value: a cell, or cells. -/
inductive S1 where
  | s (x : S0)
  | g (l : List S0)
inductive SgS where
  | c (x : S0)
  | ar (t : Ty) (n : Option Nat)
inductive OSh where
  | r (l : List SgS) (ng : Bool)
  | mp (k v : Ty)
def tys : List Ty → Ty
  | [] => .unit
  | t :: r => .pair t (tys r)
def S0.ty : S0 → Ty
  | .h t => t
  | .e _ => .unit
def tys0 : List S0 → Ty
  | [] => .unit
  | x :: r => .pair x.ty (tys0 r)
def S1.ty : S1 → Ty
  | .s x => x.ty
  | .g l => tys0 l
def SgS.ty : SgS → Ty
  | .c x => x.ty
  | .ar t _ => .sl t
def tysG : List SgS → Ty
  | [] => .unit
  | x :: r => .pair x.ty (tysG r)
def OSh.ty : OSh → Ty
  | .r l _ => tysG l
  | .mp k v => .mp k v
abbrev Rn := List (Nat × Nat)
def lookR : Rn → Nat → Option Nat
  | [], _ => none
  | (a, b) :: r, x => bif Nat.beq a x then some b else lookR r x
/-- A value with names, as it is here. -/
def V.ren (ρ : Rn) : V → V
  | .gw x => match lookR ρ x with | some y => .gw y | none => .un
  | .op x q j => match lookR ρ x with | some y => .op y q j | none => .un
  | .om x => match lookR ρ x with | some y => .om y | none => .un
  | v => v
def S0.encR (ρ : Rn) : (s : S0) → El s.ty → V
  | .h t, x => encV t x
  | .e v, _ => v.ren ρ
def S0.encSR (ρ : Rn) : (s : S0) → El s.ty → List (Sg V)
  | .h t, x => segs t x
  | .e v, _ => [.c (v.ren ρ)]
def enc0R (ρ : Rn) : (l : List S0) → El (tys0 l) → List (Sg V)
  | [], _ => []
  | s :: r, x => s.encSR ρ x.1 ++ enc0R ρ r x.2
def S1.encR (ρ : Rn) : (s : S1) → El s.ty → V
  | .s x, y => x.encR ρ y
  | .g l, y => .g (enc0R ρ l y)
def SgS.encR (ρ : Rn) : (s : SgS) → El s.ty → List (Sg V)
  | .c x, y => x.encSR ρ y
  | .ar t (some n), l => [.ar t n l]
  | .ar t none, l => [.ar t (List.length (α := El t) l) l]
def encGR (ρ : Rn) : (l : List SgS) → El (tysG l) → List (Sg V)
  | [], _ => []
  | s :: r, x => s.encR ρ x.1 ++ encGR ρ r x.2
def OSh.encR (ρ : Rn) : (s : OSh) → El s.ty → VO
  | .r l ng, x => .row (encGR ρ l x) ng false
  | .mp k v, x => .mp k v x false
/-- The name a stands for b. -/
def bindR (ρ : Rn) (a b : Nat) : Option Rn :=
  match lookR ρ a with
  | some c => if c = b then some ρ else none
  | none => if ρ.any (fun p => Nat.beq p.2 b) then none else some ((a, b) :: ρ)
def matE (ρ : Rn) : V → V → Option Rn
  | .gw a, .gw b => bindR ρ a b
  | .op a [] j, .op b [] j' => if j = j' then bindR ρ a b else none
  | .om a, .om b => bindR ρ a b
  | .k (.slice none 0 0), .k (.slice none 0 0) => some ρ
  | .k (.map none), .k (.map none) => some ρ
  | .k (.pointer none), .k (.pointer none) => some ρ
  | .k .nilFunc, .k .nilFunc => some ρ
  | .fn f [] [], .fn g [] [] => if f = g then some ρ else none
  | .tup [], .tup [] => some ρ
  | .un, _ => some ρ
  | _, _ => none
section
variable (vh : List VO)
/-- What is matched: the thing, the names, what may not change any more. -/
def mat0 (ρ : Rn) : (s : S0) → V → Option (El s.ty × Rn × List Nat)
  | .h t, v => match lookV vh t v with
    | some (x, i) => some (x, ρ, i)
    | none => none
  | .e v, u => match matE ρ v u with
    | some ρ => some ((), ρ, [])
    | none => none
def mat0S (ρ : Rn) : (s : S0) → List (Sg V) → Option (El s.ty × Rn × List Nat × List (Sg V))
  | .h t, l => match lookS vh t l with
    | some (x, i, r) => some (x, ρ, i, r)
    | none => none
  | .e v, .c u :: r => match matE ρ v u with
    | some ρ => some ((), ρ, [], r)
    | none => none
  | .e _, _ => none
def matL (ρ : Rn) : (l : List S0) → List (Sg V) → Option (El (tys0 l) × Rn × List Nat × List (Sg V))
  | [], r => some ((), ρ, [], r)
  | s :: l, r => match mat0S vh ρ s r with
    | some (x, ρ, i, r) => match matL ρ l r with
      | some (y, ρ, i', r) => some ((x, y), ρ, i ++ i', r)
      | none => none
    | none => none
def mat1 (ρ : Rn) : (s : S1) → V → Option (El s.ty × Rn × List Nat)
  | .s x, v => mat0 vh ρ x v
  | .g l, .g r => match matL vh ρ l r with
    | some (x, ρ, i, []) => some (x, ρ, i)
    | _ => none
  | .g _, _ => none
def matG1 (ρ : Rn) : (s : SgS) → List (Sg V) → Option (El s.ty × Rn × List Nat × List (Sg V))
  | .c x, r => mat0S vh ρ x r
  | .ar t (some n), .ar t' n' l :: r => if h : t' = t ∧ n' = n then some (castL h.1 l, ρ, [], r) else none
  | .ar t none, .ar t' _ l :: r => if h : t' = t then some (castL h l, ρ, [], r) else none
  | .ar .., _ => none
def matG (ρ : Rn) : (l : List SgS) → List (Sg V) → Option (El (tysG l) × Rn × List Nat × List (Sg V))
  | [], r => some ((), ρ, [], r)
  | s :: l, r => match matG1 vh ρ s r with
    | some (x, ρ, i, r) => match matG ρ l r with
      | some (y, ρ, i', r) => some ((x, y), ρ, i ++ i', r)
      | none => none
    | none => none
/-- A list is matched as a list. -/
def shB (l : List SgS) (r : List (Sg V)) : Bool :=
  match r with
  | [.ar ..] => match l with
    | [.ar ..] => true
    | _ => false
  | _ => true
def matO (ρ : Rn) : (s : OSh) → VO → Option (El s.ty × Rn × List Nat)
  | .r l ng, .row r ng' false => if (!ng || ng') && shB l r then match matG vh ρ l r with
    | some (x, ρ, i, []) => some (x, ρ, i)
    | _ => none
    else none
  | .mp k v, .mp k' v' l false => if h : k' = k ∧ v' = v then some (h.1 ▸ h.2 ▸ l, ρ, []) else none
  | _, _ => none
end
/-- Slots that stay, slots, objects (by names; whether the object itself stays), slots that hold no list yet. -/
structure LS where
  keep : List Nat
  sl : List (Nat × S1)
  ob : List (Nat × Bool × OSh) := []
  nils : List (Nat × Ty) := []
  nilo : List (Nat × Nat × Ty) := []
def tysS : List (Nat × S1) → Ty
  | [] => .unit
  | x :: r => .pair x.2.ty (tysS r)
def tysO : List (Nat × Bool × OSh) → Ty
  | [] => .unit
  | x :: r => .pair x.2.2.ty (tysO r)
def LS.ty (s : LS) : Ty := .pair (tysS s.sl) (tysO s.ob)
structure VS where
  f : Fr
  h : List VO
  pd : Option KJump
def VO.lock : VO → VO
  | .row l ng _ => .row l ng true
  | .mp k v l _ => .mp k v l true
  | .gone => .gone
def VO.unlock : VO → VO
  | .row l ng _ => .row l ng false
  | .mp k v l _ => .mp k v l false
  | .gone => .gone
/-- The locks as they were. -/
def relock : List VO → List VO → List VO
  | o :: r, o' :: r' => (if o.free then o'.unlock else o') :: relock r r'
  | _, l => l
def encS (ρ : Rn) : (l : List (Nat × S1)) → El (tysS l) → Fr
  | [], _ => []
  | (d, s) :: r, x => (d, s.encR ρ x.1) :: encS ρ r x.2
def encO (ρ : Rn) : (l : List (Nat × Bool × OSh)) → El (tysO l) → List VO → List VO
  | [], _, vh => vh
  | (a, _, s) :: r, x, vh => encO ρ r x.2 (match lookR ρ a with | some j => vh.set j (s.encR ρ x.1) | none => vh)
def keepF (f : Fr) : List Nat → Fr
  | [] => []
  | t :: r => (t, lookF f t) :: keepF f r
def LS.enc (ls : LS) (ρ : Rn) (s : VS) (x : El ls.ty) : VS :=
  { f := encS ρ ls.sl x.1 ++ keepF s.f ls.keep, h := encO ρ ls.ob x.2 (s.h.map VO.lock), pd := none }
def decS (vh : List VO) (f : Fr) (ρ : Rn) : (l : List (Nat × S1)) → Option (El (tysS l) × Rn × List Nat)
  | [] => some ((), ρ, [])
  | (d, s) :: r => match mat1 vh ρ s (lookF f d) with
    | some (x, ρ, i) => match decS vh f ρ r with
      | some (y, ρ, i') => some ((x, y), ρ, i ++ i')
      | none => none
    | none => none
/-- Which object a name means that no slot names: from 1000 on, of all objects. -/
def nameI (base a : Nat) : Nat := bif Nat.ble 1000 a then a - 1000 else base + a
def decO (base : Nat) (vh : List VO) (ρ : Rn) : (l : List (Nat × Bool × OSh)) → Option (El (tysO l) × Rn × List Nat)
  | [] => some ((), ρ, [])
  | (a, _, s) :: r => match (match lookR ρ a with | some _ => some ρ | none => bindR ρ a (nameI base a)) with
    | some ρ => match (match lookR ρ a with | some j => matO vh ρ s (objAt vh j) | none => none) with
      | some (x, ρ, i) => match decO base vh ρ r with
        | some (y, ρ, i') => some ((x, y), ρ, i ++ i')
        | none => none
      | none => none
    | none => none
/-- Objects that a shape names, and no others, may be meant by names. -/
def namesOk (ob : List (Nat × Bool × OSh)) (ρ : Rn) : Bool := ρ.all fun p => ob.any fun o => Nat.beq o.1 p.1
/-- What stays, of names. -/
def fixR (ob : List (Nat × Bool × OSh)) (ρ : Rn) : Rn := ρ.filter fun p => ob.any fun o => Nat.beq o.1 p.1 && o.2.1
def LS.dec (ls : LS) (base : Nat) (ρ : Rn) (s : VS) : Option (El ls.ty × Rn × List Nat) :=
  if s.pd.isSome then none else
  match decS s.h s.f ρ ls.sl with
  | some (x, ρ, i) => match decO base s.h ρ ls.ob with
    | some (y, ρ, i') => if namesOk ls.ob ρ && freeAll s.h (i ++ i') && (i ++ i').all (fun a => !ρ.any fun p => Nat.beq p.2 a) then some ((x, y), ρ, i ++ i') else none
    | none => none
  | none => none
/-- Slots without a list: an empty one. -/
def nilS : List (Nat × Ty) → VS → VS
  | [], s => s
  | (d, t) :: r, s => nilS r (match lookF s.f d with
    | .k (.slice none 0 0) | .e0 => { s with f := (d, .gw s.h.length) :: s.f, h := s.h ++ [.row [.ar t 0 []] false false] }
    | _ => s)
/-- Cells of objects without a list: an empty one. -/
def nilO (base : Nat) : List (Nat × Nat × Ty) → VS → VS
  | [], s => s
  | (a, j, t) :: r, s => nilO base r (match objAt s.h (nameI base a) with
    | .row l ng false => match cellSg l j, setSg l j 1 [.c (.gw s.h.length)] with
      | some (.k (.slice none 0 0)), some l' => { s with h := (s.h ++ [VO.row [.ar t 0 []] false false]).set (nameI base a) (.row l' ng false) }
      | some .e0, some l' => { s with h := (s.h ++ [VO.row [.ar t 0 []] false false]).set (nameI base a) (.row l' ng false) }
      | _, _ => s
    | _ => s)
/-- What lacks a list has an empty one. -/
def LS.pre (ls : LS) (base : Nat) (s : VS) : VS := nilO base ls.nilo (nilS ls.nils s)
/-- Does a value lead to none of these objects? -/
def V.off (l : List Nat) (d : Nat) : Nat → V → Bool
  | 0, _ => false
  | n + 1, v => match v with
    | .gw x | .gl x _ _ _ _ _ _ | .op x _ _ | .om x => !l.contains x
    | .fn _ a c => a.all (V.off l d n) && c.all (V.off l d n)
    | .g r => r.all fun s => match s with | .c v => V.off l d n v | .ar .. => true
    | .tup r => r.all (V.off l d n)
    | .yl e => Nat.blt e d
    | _ => true
def VO.off (l : List Nat) (d : Nat) : VO → Bool
  | .row r _ _ => r.all fun s => match s with | .c v => v.off l d 4 | .ar .. => true
  | _ => true
/-- The slots that some code may write. -/
def wrK : KC → List Nat
  | .seq a b | .cond _ a b => wrK a ++ wrK b
  | .block _ a | .loop a => wrK a
  | .reg ops _ => ops.filterMap (·.dst)
  | _ => []
/-- May a shape stand here? base: what lies below is looked at from elsewhere. -/
def LS.ok (ls : LS) (base : Nat) (prot : List Nat) (ρ : Rn) (s : VS) (c : KC) : Bool :=
  let nf := (ls.ob.filter fun o => !o.2.1).filterMap fun o => lookR ρ o.1
  let w := wrK c
  ls.ob.all (fun o => match lookR ρ o.1 with | some j => (o.2.1 || Nat.ble base j && !prot.contains j) && Nat.blt j s.h.length && (objAt s.h j).free | none => false) &&
  ls.keep.all (fun t => !w.contains t && (lookF s.f t).off nf 1000 4) &&
  (List.range s.h.length).all (fun i => ls.ob.any (fun o => match lookR ρ o.1 with | some j => Nat.beq j i | none => false) || (objAt s.h i).off nf 1000) &&
  ρ.all (fun p => ρ.all fun q => Nat.beq p.1 q.1 || !Nat.beq p.2 q.2)
def idR (base : Nat) (ob : List (Nat × Bool × OSh)) : Rn := ob.map fun o => (o.1, nameI base o.1)
/-- What a function hands back. -/
structure RS where
  vals : List S1
  ob : List OSh := []
def tys1 : List S1 → Ty
  | [] => .unit
  | x :: r => .pair x.ty (tys1 r)
def tysB : List OSh → Ty
  | [] => .unit
  | x :: r => .pair x.ty (tysB r)
def RS.ty (r : RS) : Ty := .pair (tys1 r.vals) (tysB r.ob)
/-- Names of new objects. -/
def upR (n : Nat) : Nat → Rn
  | 0 => []
  | m + 1 => (m, n + m) :: upR n m
def encVU (ρ : Rn) : (l : List S1) → El (tys1 l) → List V
  | [], _ => []
  | s :: r, x => s.encR ρ x.1 :: encVU ρ r x.2
def encBU (ρ : Rn) : (l : List OSh) → El (tysB l) → List VO
  | [], _ => []
  | s :: r, x => s.encR ρ x.1 :: encBU ρ r x.2
def one : List V → V
  | [v] => v
  | l => .tup l
/-- Typed arguments. -/
def lookA (vh : List VO) : (l : List Ty) → List V → Option (El (tys l) × List Nat)
  | [], [] => some ((), [])
  | t :: l, v :: r => match lookV vh t v, lookA vh l r with
    | some (x, i), some (y, i') => some ((x, y), i ++ i')
    | _, _ => none
  | _, _ => none
def encA : (l : List Ty) → El (tys l) → List V
  | [], _ => []
  | t :: r, x => encV t x.1 :: encA r x.2
/-- Results. -/
def dec1 (vh : List VO) (ρ : Rn) : (l : List S1) → List V → Option (El (tys1 l) × Rn × List Nat)
  | [], [] => some ((), ρ, [])
  | s :: l, v :: r => match mat1 vh ρ s v with
    | some (x, ρ, i) => match dec1 vh ρ l r with
      | some (y, ρ, i') => some ((x, y), ρ, i ++ i')
      | none => none
    | none => none
  | _, _ => none
def decB (vh : List VO) (ρ : Rn) : Nat → (l : List OSh) → Option (El (tysB l) × Rn × List Nat)
  | _, [] => some ((), ρ, [])
  | a, s :: l => match (match lookR ρ a with | some j => matO vh ρ s (objAt vh j) | none => none) with
    | some (x, ρ, i) => match decB vh ρ (a + 1) l with
      | some (y, ρ, i') => some ((x, y), ρ, i ++ i')
      | none => none
    | none => none
def RS.dec (r : RS) (vs : List V) (vh : List VO) : Option (El r.ty) :=
  match dec1 vh [] r.vals vs with
  | some (x, ρ, i) => match decB vh ρ 0 r.ob with
    | some (y, ρ, i') => if ρ.all (fun p => Nat.blt p.1 r.ob.length) && freeAll vh (i ++ i') && (i ++ i').all (fun a => !ρ.any fun p => Nat.beq p.2 a) then some (x, y) else none
    | none => none
  | none => none
/-- A value that means the same wherever its names do. -/
def V.okE : V → Bool
  | .i .. | .b _ | .s _ | .k _ | .gw _ | .op _ [] _ | .om _ | .un | .fn _ [] [] | .tup [] | .e0 | .gp .. => true
  | _ => false
def S0.okE : S0 → Bool
  | .h _ => true
  | .e v => v.okE
def S1.okE : S1 → Bool
  | .s x => x.okE
  | .g l => l.all S0.okE
def SgS.okE : SgS → Bool
  | .c x => x.okE
  | .ar .. => true
def OSh.okE : OSh → Bool
  | .r l _ => l.all SgS.okE
  | .mp .. => true
def RS.okE (r : RS) : Bool := r.vals.all S1.okE && r.ob.all OSh.okE
def S0.plain : S0 → Bool
  | .h t => t.plain
  | .e _ => true
def S1.plain : S1 → Bool
  | .s x => x.plain
  | .g l => l.all S0.plain
def SgS.plain : SgS → Bool
  | .c x => x.plain
  | .ar t _ => t.plain
def OSh.plain : OSh → Bool
  | .r l _ => l.all SgS.plain
  | .mp k v => k.plain && v.plain
/-- No address in what is handed back but of objects of one's own. -/
def RS.plain (r : RS) : Bool := r.vals.all S1.plain && r.ob.all OSh.plain
structure Con where
  ins : List Ty
  out : RS
  run : El (tys ins) → Option (El out.ty)
/-- What a function makes of an object of its caller's, and of typed arguments. -/
structure MCon where
  sty : Ty
  ins : List Ty
  outs : List Ty
  run : El sty × El (tys ins) → Option (El (tys outs) × El sty)
structure Hs where
  oh : Nat → Nat → Option OpH := fun _ _ => none
  lp : Nat → Nat → Option LS := fun _ _ => none
  jn : Nat → Nat → Option LS := fun _ _ => none
  jr : Nat → Nat → Option LS := fun _ _ => none
  gl : Nat → List (Sg V) := fun _ => []
  con : Nat → Option Con := fun _ => none
  mcon : Nat → Option MCon := fun _ => none
structure Fi where
  fn : Nat
  rd : Bool
  base : Nat
  dep : Nat
  prot : List Nat := []
abbrev Yh (α : Type) := List V → List VO → (V → List VO → Option KJump → Option α) → Option α
structure Vm (α : Type) where
  code : Yh α → Fi → Nat → KC → VS → (Ex → VS → Option α) → Option α
  call : Yh α → Nat → Nat → List V → List VO → Option KJump → (V → List VO → Option KJump → Option α) → Option α
def Vm.zero {α : Type} : Vm α := ⟨fun _ _ _ _ _ _ => none, fun _ _ _ _ _ _ _ => none⟩
def loopK {σ α : Type} (body : σ → (σ → Option α) → Option α) (n : Nat) : σ → Option α := Cmb.loop body n
def joinK {σ α : Type} (k : σ → Option α) (body : (σ → Option α) → Option α) : Option α := Cmb.join k body
theorem loopK_zero [C : Cmb] [O : CmbOk C] {σ α : Type} {body : σ → (σ → Option α) → Option α} {x : σ} : loopK body 0 x = none := by
  have := O.eq; subst this; rfl
theorem loopK_succ [C : Cmb] [O : CmbOk C] {σ α : Type} {body : σ → (σ → Option α) → Option α} {n : Nat} {x : σ} : loopK body (n + 1) x = body x (loopK body n) := by
  have := O.eq; subst this; rfl
theorem joinK_eq [C : Cmb] [O : CmbOk C] {σ α : Type} {k : σ → Option α} {body : (σ → Option α) → Option α} : joinK k body = body k := by
  have := O.eq; subst this; rfl
def fuelL : Nat := 4294967296
/-- The slot on which a piece of code last branches. -/
def lastC : KC → Option Nat
  | .seq a b => match lastC b with
    | some t => some t
    | none => lastC a
  | .block _ a => lastC a
  | .cond (.t n) _ _ => some n
  | _ => none
def lastD : List KOper → Option Nat
  | [] => none
  | [o] => o.dst
  | _ :: r => lastD r
/-- A region's name. -/
def keyD (ops : List KOper) : Option Nat :=
  match lastD ops with
  | some l => some (4096 * (match ops with | o :: _ => (match o.dst with | some d => d | none => 4095) | [] => 0) + l)
  | none => none
/-- The object to which a value leads. -/
def idV : V → List Nat
  | .gw x | .gl x _ _ _ _ _ _ | .op x _ _ | .om x => [x]
  | _ => []
/-- The objects that an operation looks at. -/
def rdV (f : Fr) : KOp → List Nat
  | .ld x _ | .slS x _ _ _ _ | .slA x _ _ _ _ _ | .lk _ x _ _ _ => idV (evV f x)
  | .app s x _ _ => idV (evV f s) ++ idV (evV f x)
  | _ => []
/-- The object that an operation changes. -/
def wrV (vh : List VO) (f : Fr) : KOp → Option (List Nat)
  | .st x _ _ | .clr x _ | .ins _ x _ _ | .ment _ x _ _ | .mset x _ _ => some (idV (evV f x))
  | .cpy d _ _ => some (idV (evV f d))
  | .app s _ _ _ => match evV f s with
    | .gw x => match objAt vh x with
      | .row _ true _ => none
      | _ => some [x]
    | _ => none
  | _ => none
/-- Is it told which block a value leads to? -/
def V.sure : V → Bool
  | .op .. | .om _ | .fp .. | .mp .. | .np .. | .gp .. | .k _ => true
  | _ => false
def rdSure (f : Fr) : KOp → Bool
  | .ld x _ | .slS x _ _ _ _ | .slA x _ _ _ _ _ | .lk _ x _ _ _ => (evV f x).sure
  | .app s x _ _ => (evV f s).sure && (evV f x).sure
  | _ => true
/-- What was done in open pairs; call: it may have looked at all; ch: a call that has changed these. -/
structure Lg where
  ix : Nat
  call : Bool
  ids : List Nat
  ch : Bool
/-- May this operation stand here, in open pairs? -/
def pairOk (vh : List VO) (prs : List (Nat × Nat)) (i : Nat) (lg : List Lg) (w : Option (List Nat)) (sure : Bool) (rd : List Nat) : Bool :=
  match w with
  | none => lg.all fun e => !(prs.any fun p => Nat.beq p.1 e.ix && Nat.beq p.2 i) || (!e.ch || (sure && e.ids.all (fun x => (objAt vh x).free) && rd.all fun x => (objAt vh x).free && !e.ids.contains x))
  | some l => prs.all (fun p => !Nat.beq p.1 i) && l.all (fun x => (objAt vh x).free) && lg.all fun e => !(prs.any fun p => Nat.beq p.1 e.ix && Nat.beq p.2 i) || (!e.ch && !e.call && e.ids.all (fun x => (objAt vh x).free) && l.all fun x => !e.ids.contains x)
/-- May a call that changes these stand here? -/
def callOk (vh : List VO) (prs : List (Nat × Nat)) (i : Nat) (lg : List Lg) (l : List Nat) : Bool :=
  lg.all fun e => !(prs.any fun p => Nat.beq p.1 e.ix && Nat.beq p.2 i) || (!e.ch && (l.isEmpty || (!e.call && e.ids.all (fun x => (objAt vh x).free) && l.all fun x => (objAt vh x).free && !e.ids.contains x)))
def inPrs (prs : List (Nat × Nat)) (i : Nat) : Bool := prs.any fun p => Nat.beq p.1 i || Nat.beq p.2 i
/-- What a branch tells of its slot. -/
def told (s : VS) (c : KO) (b : Bool) : VS :=
  match c with
  | .t n => { s with f := (n, .b b) :: s.f }
  | _ => s
def putAllF (f : Fr) : List Nat → List V → Fr
  | d :: ds, v :: vs => putAllF ((d, v) :: f) ds vs
  | _, _ => f
def frA : Nat → List V → Fr
  | _, [] => []
  | n, v :: r => (n, v) :: frA (n + 1) r
def vRes (f : Fr) (vh : List VO) : List KRes → Option (List V)
  | [] => some []
  | .tmp t :: r => (vRes f vh r).map (lookF f t :: ·)
  | .cell t n :: r => match lookF f t, vRes f vh r with
    | .op id [] j, some l => match objAt vh id with
      | .row s _ _ => match n with
        | none => (cellSg s j).map (· :: l)
        | some m => (partSg s j m).map (V.g · :: l)
      | _ => none
    | _, _ => none
/-- Results without a list: an empty one. -/
def nilR (ob : List OSh) : List S1 → List V → List VO → List V × List VO
  | x :: l, v :: vs, vh =>
    let go := fun v vh => let r := nilR ob l vs vh; (v :: r.1, r.2)
    match x with
    | .s (.e (.gw a)) => match ob[a]? with
      | some (.r [.ar t none] false) => match v with
        | .k (.slice none 0 0) | .e0 => go (.gw vh.length) (vh ++ [.row [.ar t 0 []] false false])
        | v => go v vh
      | _ => go v vh
    | _ => go v vh
  | _, vs, vh => (vs, vh)
/-- Pointers that may be nil and must not. -/
def vArgs {α : Type} : List Ty → List V → (List V → Option α) → Option α
  | t :: l, v :: vs, K => match t with
    | .ptr _ => match v with
      | .np t' x => match x with
        | some y => vArgs l vs fun r => K (.fp t' y 0 true :: r)
        | none => none
      | v => vArgs l vs fun r => K (v :: r)
    | _ => vArgs l vs fun r => K (v :: r)
  | _, vs, K => K vs
section
variable {α : Type} (T : Nat → Option KFunc) (H : Hs) (R : Vm α)
/-- Is a row one list? -/
def oneAr (l : List (Sg V)) : Bool :=
  match l with
  | [.ar ..] => true
  | _ => false
/-- A typed thing; a part of a list of one's own, where it is told to be one. -/
def vLook (vh : List VO) : (t : Ty) → V → (El t → List Nat → Option α) → Option α
  | .sl t, .gl id [] 0 sz o n _, K => match objAt vh id with
    | .row [.ar t' m l] _ _ => if h : t' = t then grd (Nat.ble (o + n) m && Nat.beq sz t.sz) (K (((castL h l).drop o).take n) [id]) else none
    | _ => none
  | t, v, K => match lookV vh t v with
    | some (x, i) => K x i
    | none => none
def vLookA (vh : List VO) : (l : List Ty) → List V → (El (tys l) → List Nat → Option α) → Option α
  | [], [], K => K () []
  | t :: l, v :: r, K => vLook vh t v fun x i => vLookA vh l r fun y i' => K (x, y) (i ++ i')
  | _, _, _ => none
/-- A call of a function that changes an object of the caller's. -/
def vCallM (c : MCon) (args : List V) (vh : List VO) (pd : Option KJump) (k : V → List VO → Option KJump → Option α) : Option α :=
  match args with
  | .op id [] 0 :: rest => match objAt vh id with
    | .row l true false => match lookS vh c.sty l with
      | some (y, [], []) => vArgs c.ins rest fun rest => vLookA vh c.ins rest fun x i => if !oneAr l && (freeAll vh i && i.all (fun j => !Nat.beq j id)) then (c.run (y, x)).bind fun r => k (one (encA c.outs r.1)) ((kill i vh).set id (.row (segs c.sty r.2) true false)) pd else none
      | _ => none
    | _ => none
  | _ => none
/-- The objects that a call changes. -/
def chV (g : Nat) (args : List V) : List Nat :=
  match H.mcon g with
  | some _ => match args with
    | .op id [] 0 :: _ => [id]
    | _ => []
  | none => []
/-- A call: of a function with a contract, or in full. -/
def vCall (Y : Yh α) (dep : Nat) (pure : Bool) (f : Nat) (args : List V) (vh : List VO) (pd : Option KJump) (k : V → List VO → Option KJump → Option α) : Option α :=
  match H.mcon f with
  | some c => vCallM c args vh pd k
  | none =>
  match H.con f with
  | some c => vArgs c.ins args fun args => vLookA vh c.ins args fun x i =>
      let ρ := upR vh.length c.out.ob.length
      if !c.out.okE then none
      else if c.out.plain then (c.run x).bind fun r => k (one (encVU ρ c.out.vals r.1)) (vh ++ encBU ρ c.out.ob r.2) pd
      else if freeAll vh i then (c.run x).bind fun r => k (one (encVU ρ c.out.vals r.1)) (kill i vh ++ encBU ρ c.out.ob r.2) pd
      else none
  | none => if pure then R.call (fun _ _ _ => none) dep f args (vh.map VO.lock) none fun v vh' _ => k v (relock vh vh') pd else R.call Y dep f args vh pd k
def vOps (Y : Yh α) (fi : Fi) (prs : List (Nat × Nat)) : Nat → List Lg → List KOper → VS → (VS → Option α) → Option α
  | _, _, [], s, k => k s
  | i, lg, o :: r, s, k =>
    let off := fun f => vOps Y fi prs (i + 1) lg r { s with f := putF f o.dst (.tup []) } k
    let on := fun f => match o.op with
      | .call g args =>
        match evV f g with
        | .fn g a c => if inPrs prs i && !callOk s.h prs i lg (chV H g (a ++ args.map (evV f) ++ c)) then none else vCall H R Y fi.dep (inPrs prs i) g (a ++ args.map (evV f) ++ c) s.h s.pd fun v vh pd => vOps Y fi prs (i + 1) (if inPrs prs i then ⟨i, true, chV H g (a ++ args.map (evV f) ++ c), !(chV H g (a ++ args.map (evV f) ++ c)).isEmpty⟩ :: lg else lg) r { f := putF f o.dst v, h := vh, pd := pd } k
        | .yl d => if inPrs prs i || s.pd.isSome || !(Nat.beq (d + 1) fi.dep) then none else Y (args.map (evV f)) s.h fun v vh pd => vOps Y fi prs (i + 1) lg r { f := putF f o.dst v, h := vh, pd := pd } k
        | _ => none
      | op => if inPrs prs i && !pairOk s.h prs i lg (wrV s.h f op) (rdSure f op) (rdV f op) then none else
        vop H.gl (o.dst.bind (H.oh fi.fn)) f s.h (fun v vh => vOps Y fi prs (i + 1) (if inPrs prs i && (wrV s.h f op).isNone then ⟨i, !rdSure f op, rdV f op, false⟩ :: lg else lg) r { s with f := putF f o.dst v, h := vh } k) op
    match o.guard with
    | none => on s.f
    | some (t, b) => match lookF s.f t with
      | .b c => bif b then (bif c then on ((t, .b true) :: s.f) else off ((t, .b false) :: s.f)) else (bif c then off ((t, .b true) :: s.f) else on ((t, .b false) :: s.f))
      | .tup [] => off s.f
      | _ => none
/-- Locked but for these. -/
def lockB (ρ : Rn) (vh : List VO) : List VO := ρ.foldl (fun l p => l.set p.2 (objAt vh p.2)) (vh.map VO.lock)
/-- What may not be renamed in a piece of code. -/
def Fi.guard (fi : Fi) (ls : LS) (ρ : Rn) : Fi := { fi with prot := (fixR ls.ob ρ).map (·.2) ++ fi.prot }
/-- Ways that meet behind a piece of code. -/
def vJoin (fi : Fi) (ls : LS) (a : KC) (s : VS) (run : Fi → VS → (Ex → VS → Option α) → Option α) (k : Ex → VS → Option α) : Option α :=
  let s := ls.pre fi.base s
  let ρ := idR fi.base ls.ob
  if ls.ok fi.base fi.prot ρ s a then
    joinK (fun x => k .normal { ls.enc ρ s x with h := relock s.h (ls.enc ρ s x).h }) fun kont => run (fi.guard ls ρ) { s with h := lockB ρ s.h } fun e s' => match e with
      | .normal => match ls.dec fi.base (fixR ls.ob ρ) s' with
        | some (x, _) => kont x
        | none => none
      | e => k e { s' with h := relock s.h s'.h }
  else none
def vCode (Y : Yh α) (fi : Fi) (tag : Nat) (c : KC) (s : VS) (k : Ex → VS → Option α) : Option α :=
  match c with
  | .skip => k .normal s
  | .ret => k .ret s
  | .exit id => k (.exit id) s
  | .seq a b => R.code Y fi tag a s fun e s' => match e with
    | .normal => R.code Y fi tag b s' k
    | e => k e s'
  | .cond c a b => match evV s.f c with
    | .b t => match (match c with | .t n => H.jn fi.fn n | _ => none) with
      | none => bif t then R.code Y fi tag a (told s c true) k else R.code Y fi tag b (told s c false) k
      | some ls => vJoin fi ls (.seq a b) s (fun fi s k => bif t then R.code Y fi tag a (told s c true) k else R.code Y fi tag b (told s c false) k) k
    | _ => none
  | .block id a => R.code Y fi id a s fun e s' => k (match e with | .exit id' => if id' = id then .normal else .exit id' | e => e) s'
  | .loop a => match H.lp fi.fn tag with
    | none => R.code Y fi tag a s fun e s' => match e with
      | .normal => R.code Y fi tag (.loop a) s' k
      | e => k e s'
    | some ls =>
      let s := ls.pre fi.base s
      match ls.dec fi.base [] s with
      | some (x, ρ, i) =>
        if ls.ok fi.base fi.prot ρ s a then
          loopK (fun x again => R.code Y (fi.guard ls ρ) tag a (ls.enc ρ { s with h := kill i s.h } x) fun e s' => match e with
            | .normal => match ls.dec fi.base (fixR ls.ob ρ) s' with
              | some (x, _) => again x
              | none => none
            | e => k e { s' with h := relock (kill i s.h) s'.h }) fuelL x
        else none
      | none => none
  | .reg ops prs => match (keyD ops).bind (H.jr fi.fn) with
    | none => vOps H R Y fi prs 0 [] ops s fun s' => k .normal s'
    | some ls => vJoin fi ls c s (fun fi s k => vOps H R Y fi prs 0 [] ops s fun s' => k .normal s') k
  | .rf f ps a b => match evV s.f f with
    | .fn g x y => if fi.rd then none else
      R.call (fun args vh kk => if args.length != ps.length then none else R.code (fun _ _ _ => none) ⟨fi.fn, true, vh.length, fi.dep + 1, []⟩ 0 a ⟨putAllF s.f ps args, vh, none⟩ fun e s1 => match e with
        | .normal => R.code (fun _ _ _ => none) ⟨fi.fn, true, vh.length, fi.dep + 1, []⟩ 0 b s1 fun e2 s2 => match e2 with
          | .normal => kk (.b true) s2.h none
          | .ret => kk (.b false) s2.h (some .ret)
          | .exit id => kk (.b false) s2.h (some (.exit id))
        | _ => none) (fi.dep + 1) g (x ++ [.yl fi.dep] ++ y) s.h none fun v vh pd => if !vh.all (VO.off [] fi.dep) then none else match pd with
          | none => k .normal { s with h := vh }
          | some .ret => k .ret { s with h := vh }
          | some (.exit id) => k (.exit id) { s with h := vh }
    | _ => none
/-- A function's code, from its arguments to its results. -/
def vBody (Y : Yh α) (dep : Nat) (g : Nat) (kf : KFunc) (args : List V) (vh : List VO) (pd : Option KJump) (k : List V → List VO → Option KJump → Option α) : Option α :=
  if args.length = kf.np then if isIns kf.body = true then none else
    R.code Y ⟨g, false, vh.length, dep, []⟩ 0 kf.body ⟨frA 0 args, vh, pd⟩ fun e s' => match e with
      | .exit _ => none
      | _ => match vRes s'.f s'.h kf.res with
        | some vs => k vs s'.h s'.pd
        | none => none
  else none
def vFull (Y : Yh α) (dep : Nat) (g : Nat) (args : List V) (vh : List VO) (pd : Option KJump) (k : V → List VO → Option KJump → Option α) : Option α :=
  match T g with
  | some kf => if isIns kf.body = true then vInsert vh (fun v vh => k v vh pd) args else vBody R Y dep g kf args vh pd fun vs vh pd => k (one vs) vh pd
  | none => none
def Vm.next : Vm α := ⟨vCode H R, vFull T R⟩
def Vm.run (n : Nat) : Vm α := Nat.rec Vm.zero (fun _ R => Vm.next T H R) n
end
/-- What a function makes of typed arguments. -/
def vFun (T : Nat → Option KFunc) (H : Hs) (n g : Nat) (ins : List Ty) (out : RS) (x : El (tys ins)) : Option (El out.ty) :=
  match T g with
  | some kf => vBody (Vm.run T H n) (fun _ _ _ => none) 0 g kf (encA ins x) [] none fun vs vh _ => out.dec (nilR out.ob out.vals vs vh).1 (nilR out.ob out.vals vs vh).2
  | none => none
/-- What a function makes of an object of its caller's, and of typed arguments. -/
def vFunM (T : Nat → Option KFunc) (H : Hs) (n g : Nat) (sty : Ty) (ins outs : List Ty) (x : El sty × El (tys ins)) : Option (El (tys outs) × El sty) :=
  match T g with
  | some kf => vBody (Vm.run T H n) (fun _ _ _ => none) 0 g kf (.op 0 [] 0 :: encA ins x.2) [.row (segs sty x.1) true false] none fun vs vh _ =>
    match lookA vh outs vs with
    | some (r, i) => match objAt vh 0 with
      | .row l true false => match lookS vh sty l with
        | some (y, j, []) => if freeAll vh (i ++ j) && (i ++ j).all (fun a => !Nat.beq a 0) then some (r, y) else none
        | _ => none
      | _ => none
    | none => none
  | none => none
end
end Go.Canon
namespace Go.Canon
set_option linter.unusedVariables false
set_option linter.unusedSimpArgs false
open Go
variable [C0 : Cmb] [CmbOk C0]
theorem RepL.mono {α : Type} {R R' : α → List Value → Prop} (H : ∀ x cs, R x cs → R' x cs) : ∀ {l : List α} {cs : List Value}, RepL R l cs → RepL R' l cs
  | [], _, h => h
  | x :: l, _, ⟨c1, c2, e, a, b⟩ => ⟨c1, c2, e, H _ _ a, RepL.mono H b⟩
theorem SlR.mono {α : Type} {F F' : Nat → Prop} {h h' : Heap} {sz : Nat} {R R' : α → List Value → Prop} {l : List α} {cs : List Value} (hF : ∀ b, F b → F' b) (hh : ∀ b, F b → h'[b]? = h[b]?) (HR : ∀ x cs, R x cs → R' x cs)
    (H : SlR F h sz R l cs) : SlR F' h' sz R' l cs := by
  rcases H with H | ⟨b, o, c, row, wr, gr, e, h1, h2, h3, h4, h5⟩
  · exact .inl H
  · exact .inr ⟨b, o, c, row, wr, gr, e, h1, hF _ h2, by rw [hh _ h2]; exact h3, h4, h5.imp id fun ⟨a, b⟩ => ⟨a, b.mono HR⟩⟩
theorem PtR.mono {F F' : Nat → Prop} {h h' : Heap} {sz : Nat} {R R' : List Value → Prop} {cs : List Value} (hF : ∀ b, F b → F' b) (hh : ∀ b, F b → h'[b]? = h[b]?) (HR : ∀ cs, R cs → R' cs)
    (H : PtR F h sz R cs) : PtR F' h' sz R' cs := by
  obtain ⟨b, o, row, wr, e, h2, h3, h4, h5⟩ := H
  exact ⟨b, o, row, wr, e, hF _ h2, by rw [hh _ h2]; exact h3, h4, HR _ h5⟩
theorem EnR.mono {α β : Type} {K K' : α → Value → Prop} {R R' : β → Value → Prop} (HK : ∀ x u, K x u → K' x u) (HR : ∀ x u, R x u → R' x u) : ∀ {i : Nat} {l : List (α × β)} {ms : List MapEntry}, EnR K R i l ms → EnR K' R' i l ms
  | _, [], _, h => h
  | i, x :: l, _, ⟨m, ms', e, a, b, c, d⟩ => ⟨m, ms', e, a, HK _ _ b, HR _ _ c, EnR.mono HK HR d⟩
theorem Rep.mono {F F' : Nat → Prop} {h h' : Heap} (hF : ∀ b, F b → F' b) (hh : ∀ b, F b → h'[b]? = h[b]?) : ∀ {t : Ty} {x : El t} {cs : List Value}, Rep F h t x cs → Rep F' h' t x cs := by
  intro t
  induction t with
  | int k => exact fun h => h
  | bool => exact fun h => h
  | str => exact fun h => h
  | sl t ih => exact fun H => SlR.mono hF hh (fun _ _ => ih) H
  | unit => exact fun h => h
  | pair a b iha ihb => rintro x cs ⟨c1, c2, e, h1, h2⟩; exact ⟨c1, c2, e, iha h1, ihb h2⟩
  | arr n t ih => rintro x cs ⟨e, H⟩; exact ⟨e, H.mono fun _ _ => ih⟩
  | ptr t ih => exact fun H => PtR.mono hF hh (fun _ => ih) H
  | opt t ih =>
    intro x cs H
    cases x with
    | none => exact H
    | some x => exact PtR.mono hF hh (fun _ => ih) H
  | mp k v ihk ihv =>
    rintro x cs (H | ⟨b, ms, e, h1, h2, h3⟩)
    · exact .inl H
    · exact .inr ⟨b, ms, e, hF _ h1, by rw [hh _ h1]; exact h2, h3.mono (fun _ _ ⟨cs, e, a⟩ => ⟨cs, e, ihk a⟩) fun _ _ ⟨cs, e, a⟩ => ⟨cs, e, ihv a⟩⟩
theorem RepL.len {α : Type} {R : α → List Value → Prop} {sz : Nat} (H : ∀ x cs, R x cs → cs.length = sz) : ∀ {l : List α} {cs : List Value}, RepL R l cs → cs.length = l.length * sz
  | [], _, h => by cases h; simp
  | x :: l, _, ⟨c1, c2, e, a, b⟩ => by rw [e, List.length_append, H _ _ a, RepL.len H b, List.length_cons, Nat.add_mul]; omega
theorem Rep.len {F : Nat → Prop} {h : Heap} : ∀ {t : Ty} {x : El t} {cs : List Value}, Rep F h t x cs → cs.length = t.sz := by
  intro t
  induction t with
  | int k => intro x cs H; cases H; rfl
  | bool => intro x cs H; cases H; rfl
  | str => intro x cs H; cases H; rfl
  | sl t ih => rintro x cs (⟨_, a, e, _⟩ | ⟨b, o, c, row, wr, gr, e, _⟩) <;> (rw [e]; rfl)
  | unit => intro x cs H; cases H; rfl
  | pair a b iha ihb => rintro x cs ⟨c1, c2, e, h1, h2⟩; rw [e, List.length_append, iha h1, ihb h2]; rfl
  | arr n t ih => rintro x cs ⟨e, H⟩; rw [H.len fun _ _ => ih, e]; rfl
  | ptr t ih => rintro x cs ⟨b, o, row, wr, e, _⟩; rw [e]; rfl
  | opt t ih =>
    intro x cs H
    cases x with
    | none => cases H; rfl
    | some x => obtain ⟨b, o, row, wr, e, _⟩ := H; rw [e]; rfl
  | mp k v _ _ => rintro x cs (⟨_, e⟩ | ⟨b, ms, e, _⟩) <;> (rw [e]; rfl)
theorem RepL.cells {α : Type} {R : α → List Value → Prop} (H : ∀ x cs, R x cs → cs.all isCell = true) : ∀ {l : List α} {cs : List Value}, RepL R l cs → cs.all isCell = true
  | [], _, h => by cases h; rfl
  | x :: l, _, ⟨c1, c2, e, a, b⟩ => by rw [e, List.all_append, H _ _ a, RepL.cells H b]; rfl
theorem Rep.cells {F : Nat → Prop} {h : Heap} : ∀ {t : Ty} {x : El t} {cs : List Value}, Rep F h t x cs → cs.all isCell = true := by
  intro t
  induction t with
  | int k => intro x cs H; cases H; rfl
  | bool => intro x cs H; cases H; rfl
  | str => intro x cs H; cases H; rfl
  | sl t ih => rintro x cs (⟨_, a, e, _⟩ | ⟨b, o, c, row, wr, gr, e, _⟩) <;> (rw [e]; rfl)
  | unit => intro x cs H; cases H; rfl
  | pair a b iha ihb => rintro x cs ⟨c1, c2, e, h1, h2⟩; rw [e, List.all_append, iha h1, ihb h2]; rfl
  | arr n t ih => rintro x cs ⟨e, H⟩; exact H.cells fun _ _ => ih
  | ptr t ih => rintro x cs ⟨b, o, row, wr, e, _⟩; rw [e]; rfl
  | opt t ih =>
    intro x cs H
    cases x with
    | none => cases H; rfl
    | some x => obtain ⟨b, o, row, wr, e, _⟩ := H; rw [e]; rfl
  | mp k v _ _ => rintro x cs (⟨_, e⟩ | ⟨b, ms, e, _⟩) <;> (rw [e]; rfl)
theorem Rep.plain {F F' : Nat → Prop} {h h' : Heap} : ∀ {t : Ty}, t.plain = true → ∀ {x : El t} {cs : List Value}, Rep F h t x cs → Rep F' h' t x cs := by
  intro t
  induction t with
  | int k => exact fun _ _ _ h => h
  | bool => exact fun _ _ _ h => h
  | str => exact fun _ _ _ h => h
  | unit => exact fun _ _ _ h => h
  | pair a b iha ihb =>
    intro hp x cs H
    simp only [Ty.plain, Bool.and_eq_true] at hp
    obtain ⟨c1, c2, e, h1, h2⟩ := H
    exact ⟨c1, c2, e, iha hp.1 h1, ihb hp.2 h2⟩
  | arr n t ih => intro hp x cs H; exact ⟨H.1, H.2.mono fun _ _ => ih hp⟩
  | _ => intro hp; simp [Ty.plain] at hp
/-- Where objects of one's own lie (and, of a list, how many elements); what does not change; the loops' records. -/
structure Wd where
  ι : List (Option Addr × Option Nat)
  F : Nat → Prop
  y : List Nat
def offQ : List (Nat × Nat × Nat) → Nat
  | [] => 0
  | (j, sz, i) :: q => j + i * sz + offQ q
def noRoom (a : Option Addr) : Prop := a = none ∨ ∃ x, a = some x ∧ x.spot.isSome = true
mutual
inductive VR (w : Wd) (h : Heap) : V → Value → Prop
  | i (k : IntKind) (z : Int) : VR w h (.i k z) (.int k z)
  | b (x : Bool) : VR w h (.b x) (.bool x)
  | s (x : ByteArray) : VR w h (.s x) (.string x)
  | k (v : Value) (hv : flat0 v = true) : VR w h (.k v) v
  | sl (t : Ty) (l : List (El t)) (v : Value) (H : Rep w.F h (.sl t) l [v]) : VR w h (.sl t l) v
  | fp (t : Ty) (x : El t) (j : Nat) (ng : Bool) (b o : Nat) (row : List Value) (wr : Bool) (gr : Option Nat) (hF : w.F b) (hb : h[b]? = some (.row row wr gr)) (hg : ng = true → gr = none) (hl : o + t.sz ≤ row.length)
      (H : Rep w.F h t x ((row.drop o).take t.sz)) : VR w h (.fp t x j ng) (.pointer (some ⟨b, o + j, none⟩))
  | np (t : Ty) (x : Option (El t)) (v : Value) (H : Rep w.F h (.opt t) x [v]) : VR w h (.np t x) v
  | mp (k v : Ty) (l : List (El k × El v)) (u : Value) (H : Rep w.F h (.mp k v) l [u]) : VR w h (.mp k v l) u
  | gp (g j : Nat) (hg : g < gN) : VR w h (.gp g j) (.pointer (some ⟨g, j, none⟩))
  | e0 (a : Option Addr) (ha : noRoom a) : VR w h .e0 (.slice a 0 0)
  | gw (id : Nat) (a : Option Addr) (n : Nat) (hi : w.ι[id]? = some (a, some n)) : VR w h (.gw id) (.slice a n n)
  | gl (id : Nat) (q : List (Nat × Nat × Nat)) (j sz o n c b : Nat) (m : Option Nat) (hi : w.ι[id]? = some (some ⟨b, 0, none⟩, m)) (hnc : n ≤ c) : VR w h (.gl id q j sz o n c) (.slice (some ⟨b, offQ q + j + o * sz, none⟩) n c)
  | gl0 (id : Nat) (q : List (Nat × Nat × Nat)) (j sz o : Nat) (a : Option Addr) (ha : noRoom a) : VR w h (.gl id q j sz o 0 0) (.slice a 0 0)
  | op (id : Nat) (q : List (Nat × Nat × Nat)) (j b : Nat) (m : Option Nat) (hi : w.ι[id]? = some (some ⟨b, 0, none⟩, m)) : VR w h (.op id q j) (.pointer (some ⟨b, offQ q + j, none⟩))
  | om (id b : Nat) (m : Option Nat) (hi : w.ι[id]? = some (some ⟨b, 0, none⟩, m)) : VR w h (.om id) (.map (some b))
  | fn (f : Nat) (a c : List V) (a' c' : Array Value) (h1 : VRs w h a a'.toList) (h2 : VRs w h c c'.toList) : VR w h (.fn f a c) (.func (.func f) a' c')
  | g (l : List (Sg V)) (cs : Array Value) (H : SgR w h l cs.toList) : VR w h (.g l) (.agg cs)
  | tup (l : List V) (vs : Array Value) (H : VRs w h l vs.toList) : VR w h (.tup l) (.tuple vs)
  | yl (d l : Nat) (hy : w.y[d]? = some l) : VR w h (.yl d) (.func (.yield l) #[] #[])
  | un (u : Value) : VR w h .un u
inductive VRs (w : Wd) (h : Heap) : List V → List Value → Prop
  | nil : VRs w h [] []
  | cons {v : V} {u : Value} {l : List V} {us : List Value} (hv : VR w h v u) (H : VRs w h l us) : VRs w h (v :: l) (u :: us)
inductive SgR (w : Wd) (h : Heap) : List (Sg V) → List Value → Prop
  | nil : SgR w h [] []
  | c {v : V} {u : Value} {l : List (Sg V)} {us : List Value} (hv : VR w h v u) (hc : isCell u = true) (H : SgR w h l us) : SgR w h (.c v :: l) (u :: us)
  | ar {t : Ty} {n : Nat} {xs : List (El t)} {l : List (Sg V)} {cs us : List Value} (hn : xs.length = n) (hx : RepL (Rep w.F h t) xs cs) (H : SgR w h l us) : SgR w h (.ar t n xs :: l) (cs ++ us)
end
/-- What was known is known. -/
structure Wle (w : Wd) (h : Heap) (w' : Wd) (h' : Heap) : Prop where
  ι : ∀ (id : Nat) o, w.ι[id]? = some o → w'.ι[id]? = some o
  F : ∀ b, w.F b → w'.F b
  hF : ∀ b, w.F b → h'[b]? = h[b]?
  y : ∀ (d l : Nat), w.y[d]? = some l → w'.y[d]? = some l
variable {w w' : Wd} {h h' : Heap}
theorem Wle.rep (H : Wle w h w' h') {t : Ty} {x : El t} {cs : List Value} (r : Rep w.F h t x cs) : Rep w'.F h' t x cs := r.mono H.F H.hF
theorem VR.mono3 (L : Wle w h w' h') : (∀ v u, VR w h v u → VR w' h' v u) ∧ (∀ l us, VRs w h l us → VRs w' h' l us) ∧ ∀ l us, SgR w h l us → SgR w' h' l us := by
  have key := @VR.rec w h (fun v u _ => VR w' h' v u) (fun l us _ => VRs w' h' l us) (fun l us _ => SgR w' h' l us)
    (fun k z => .i k z) (fun x => .b x) (fun x => .s x) (fun v hv => .k v hv) (fun t l v H => .sl t l v (L.rep (t := .sl t) H))
    (fun t x j ng b o row wr gr hF hb hg hl H => .fp t x j ng b o row wr gr (L.F _ hF) (by rw [L.hF _ hF]; exact hb) hg hl (L.rep H))
    (fun t x v H => .np t x v (L.rep (t := .opt t) H)) (fun k v l u H => .mp k v l u (L.rep (t := .mp k v) H)) (fun g j hg => .gp g j hg) (fun a ha => .e0 a ha)
    (fun id a n hi => .gw id a n (L.ι _ _ hi)) (fun id q j sz o n c b m hi hnc => .gl id q j sz o n c b m (L.ι _ _ hi) hnc) (fun id q j sz o a ha => .gl0 id q j sz o a ha) (fun id q j b m hi => .op id q j b m (L.ι _ _ hi)) (fun id b m hi => .om id b m (L.ι _ _ hi))
    (fun f a c a' c' _ _ i1 i2 => .fn f a c a' c' i1 i2) (fun l cs _ i => .g l cs i) (fun l vs _ i => .tup l vs i) (fun d l hy => .yl d l (L.y _ _ hy)) (fun u => .un u)
    .nil (fun _ _ i1 i2 => .cons i1 i2) .nil (fun _ hc _ i1 i2 => .c i1 hc i2) (fun hn hx _ i => .ar hn (hx.mono fun _ _ r => L.rep r) i)
  have k2 := @VRs.rec w h (fun v u _ => VR w' h' v u) (fun l us _ => VRs w' h' l us) (fun l us _ => SgR w' h' l us)
    (fun k z => .i k z) (fun x => .b x) (fun x => .s x) (fun v hv => .k v hv) (fun t l v H => .sl t l v (L.rep (t := .sl t) H))
    (fun t x j ng b o row wr gr hF hb hg hl H => .fp t x j ng b o row wr gr (L.F _ hF) (by rw [L.hF _ hF]; exact hb) hg hl (L.rep H))
    (fun t x v H => .np t x v (L.rep (t := .opt t) H)) (fun k v l u H => .mp k v l u (L.rep (t := .mp k v) H)) (fun g j hg => .gp g j hg) (fun a ha => .e0 a ha)
    (fun id a n hi => .gw id a n (L.ι _ _ hi)) (fun id q j sz o n c b m hi hnc => .gl id q j sz o n c b m (L.ι _ _ hi) hnc) (fun id q j sz o a ha => .gl0 id q j sz o a ha) (fun id q j b m hi => .op id q j b m (L.ι _ _ hi)) (fun id b m hi => .om id b m (L.ι _ _ hi))
    (fun f a c a' c' _ _ i1 i2 => .fn f a c a' c' i1 i2) (fun l cs _ i => .g l cs i) (fun l vs _ i => .tup l vs i) (fun d l hy => .yl d l (L.y _ _ hy)) (fun u => .un u)
    .nil (fun _ _ i1 i2 => .cons i1 i2) .nil (fun _ hc _ i1 i2 => .c i1 hc i2) (fun hn hx _ i => .ar hn (hx.mono fun _ _ r => L.rep r) i)
  refine ⟨fun v u H => key H, fun l us H => k2 H, fun l us H => ?_⟩
  have := (key (.g l us.toArray (by simpa using H)))
  cases this with
  | g _ _ H => simpa using H
theorem VR.mono (L : Wle w h w' h') {v : V} {u : Value} (H : VR w h v u) : VR w' h' v u := (VR.mono3 L).1 _ _ H
theorem VRs.mono (L : Wle w h w' h') {v : List V} {u : List Value} (H : VRs w h v u) : VRs w' h' v u := (VR.mono3 L).2.1 _ _ H
theorem SgR.mono (L : Wle w h w' h') {v : List (Sg V)} {u : List Value} (H : SgR w h v u) : SgR w' h' v u := (VR.mono3 L).2.2 _ _ H
theorem Wle.trans {w'' : Wd} {h'' : Heap} (a : Wle w h w' h') (b : Wle w' h' w'' h'') : Wle w h w'' h'' :=
  ⟨fun i o x => b.ι _ _ (a.ι _ _ x), fun x y => b.F _ (a.F _ y), fun x y => (b.hF _ (a.F _ y)).trans (a.hF _ y), fun d l x => b.y _ _ (a.y _ _ x)⟩
/-- A cell. -/
def cellV : V → Bool
  | .g _ | .tup _ | .un => false
  | _ => true
theorem VR.cell {v : V} {u : Value} (H : VR w h v u) (hv : cellV v = true) : isCell u = true := by
  cases H with
  | k _ hf => cases u <;> first | rfl | (simp [flat0] at hf)
  | sl t l v H => rcases H with ⟨_, a, e, _⟩ | ⟨b, o, c, row, wr, gr, e, _⟩ <;> (cases e; rfl)
  | np t x v H =>
    cases x with
    | none => cases H; rfl
    | some x => obtain ⟨b, o, row, wr, e, _⟩ := H; cases e; rfl
  | mp k v l u H => rcases H with ⟨_, e⟩ | ⟨b, ms, e, _⟩ <;> (cases e; rfl)
  | g l cs H => cases hv
  | tup => cases hv
  | un => cases hv
  | _ => rfl
theorem VRs.len {l : List V} {us : List Value} (H : VRs w h l us) : l.length = us.length := by
  induction l generalizing us with
  | nil => cases H; rfl
  | cons v l ih => cases H with | cons _ H => simp [ih H]
theorem VRs.append {a b : List V} {c d : List Value} (H : VRs w h a c) (H2 : VRs w h b d) : VRs w h (a ++ b) (c ++ d) := by
  induction a generalizing c with
  | nil => cases H; exact H2
  | cons v l ih => cases H with | cons hv H => exact .cons hv (ih H)
theorem VRs.get {l : List V} {us : List Value} (H : VRs w h l us) {i : Nat} {v : V} (hv : l[i]? = some v) : ∃ u, us[i]? = some u ∧ VR w h v u := by
  induction l generalizing us i with
  | nil => simp at hv
  | cons v' l ih =>
    cases H with
    | cons hv' H =>
      cases i with
      | zero => simp at hv; subst hv; exact ⟨_, rfl, hv'⟩
      | succ i => simp at hv; obtain ⟨u, e, r⟩ := ih H hv; exact ⟨u, by simpa using e, r⟩
theorem SgR.append {a b : List (Sg V)} {c d : List Value} (H : SgR w h a c) (H2 : SgR w h b d) : SgR w h (a ++ b) (c ++ d) := by
  induction a generalizing c with
  | nil => cases H; exact H2
  | cons v l ih =>
    cases H with
    | c hv hc H => exact .c hv hc (ih H)
    | ar hn hx H => rw [List.append_assoc]; exact .ar hn hx (ih H)
theorem SgR.cells {l : List (Sg V)} {us : List Value} (H : SgR w h l us) : us.all isCell = true := by
  induction l generalizing us with
  | nil => cases H; rfl
  | cons v l ih =>
    cases H with
    | c hv hc H => simp [hc, ih H]
    | ar hn hx H => rw [List.all_append, hx.cells fun _ _ => Rep.cells, ih H]; rfl
/-- A typed thing's pieces. -/
theorem segs_rep : ∀ {t : Ty} {x : El t} {cs : List Value}, Rep w.F h t x cs → SgR w h (segs t x) cs := by
  intro t
  induction t with
  | int k => intro x cs H; cases H; exact .c (.i _ _) rfl .nil
  | bool => intro x cs H; cases H; exact .c (.b _) rfl .nil
  | str => intro x cs H; cases H; exact .c (.s _) rfl .nil
  | sl t ih =>
    intro x cs H
    have hc := Rep.cells (t := .sl t) H
    have : ∃ v, cs = [v] := by rcases H with ⟨_, a, e, _⟩ | ⟨b, o, c, row, wr, gr, e, _⟩ <;> exact ⟨_, e⟩
    obtain ⟨v, rfl⟩ := this
    exact .c (.sl _ _ _ H) (by simpa using hc) .nil
  | unit => intro x cs H; cases H; exact .nil
  | pair a b iha ihb => rintro x cs ⟨c1, c2, rfl, h1, h2⟩; exact (iha h1).append (ihb h2)
  | arr n t ih => rintro x cs ⟨e, H⟩; have := SgR.ar (w := w) e H .nil; simpa [segs] using this
  | ptr t ih =>
    rintro x cs ⟨b, o, row, wr, rfl, h1, h2, h3, h4⟩
    exact .c (by have := VR.fp (w := w) t x 0 true b o row wr none h1 h2 (fun _ => rfl) h3 h4; simpa using this) rfl .nil
  | opt t ih =>
    intro x cs H
    have hc := Rep.cells (t := .opt t) H
    have : ∃ v, cs = [v] := by
      cases x with
      | none => exact ⟨_, H⟩
      | some x => obtain ⟨b, o, row, wr, e, _⟩ := H; exact ⟨_, e⟩
    obtain ⟨v, rfl⟩ := this
    exact .c (.np _ _ _ H) (by simpa using hc) .nil
  | mp k v _ _ =>
    intro x cs H
    have hc := Rep.cells (t := .mp k v) H
    have : ∃ v, cs = [v] := by rcases H with ⟨_, e⟩ | ⟨b, ms, e, _⟩ <;> exact ⟨_, e⟩
    obtain ⟨v, rfl⟩ := this
    exact .c (.mp _ _ _ _ H) (by simpa using hc) .nil
/-- A typed thing as a value. -/
theorem encV_rep {t : Ty} {x : El t} {cs : List Value} (H : Rep w.F h t x cs) : VR w h (encV t x) (vals t cs) := by
  have hs := segs_rep H
  cases t with
  | unit => cases hs; exact .g _ _ .nil
  | pair a b => exact .g _ _ (by simpa [vals] using hs)
  | arr n t => exact .g _ _ (by simpa [vals, segs] using hs)
  | _ => simp only [segs] at hs; cases hs with | c hv hc H => exact hv
end Go.Canon
namespace Go.Canon
set_option linter.unusedVariables false
set_option linter.unusedSimpArgs false
open Go
variable [C0 : Cmb] [CmbOk C0]
/-- An object of one's own and its block. -/
def OR (w : Wd) (h : Heap) : VO → Option Addr × Option Nat → Prop
  | .gone, _ => True
  | .row l ng lk, p =>
    (∃ b cs gr, p.1 = some ⟨b, 0, none⟩ ∧ h[b]? = some (.row cs true gr) ∧ SgR w h l cs ∧ (ng = true → gr = none) ∧ (gr = none ∨ ∃ t n xs, l = [.ar t n xs] ∧ gr = some t.sz) ∧ ∀ n, p.2 = some n → ∃ t xs, l = [.ar t n xs]) ∨
    (∃ t, l = [.ar t 0 []] ∧ p.2 = some 0 ∧ noRoom p.1 ∧ ng = false)
  | .mp k v l lk, p => ∃ b ms, p.1 = some ⟨b, 0, none⟩ ∧ h[b]? = some (.map ms l.length) ∧
      EnR (fun x u => ∃ cs, u = vals k cs ∧ Rep w.F h k x cs) (fun x u => ∃ cs, u = vals v cs ∧ Rep w.F h v x cs) 0 l ms
abbrev atB (w : Wd) (id b : Nat) : Prop := ∃ m, w.ι[id]? = some (some ⟨b, 0, none⟩, m)
def VO.alive : VO → Bool
  | .gone => false
  | _ => true
def Own (w : Wd) (vh : List VO) (b : Nat) : Prop := ∃ id, atB w id b ∧ (objAt vh id).alive = true
def OwnU (w : Wd) (vh : List VO) (b : Nat) : Prop := ∃ id, atB w id b ∧ (objAt vh id).free = true
theorem VO.free_alive {o : VO} (h : o.free = true) : o.alive = true := by cases o <;> first | rfl | cases h
theorem OwnU.own {w : Wd} {vh : List VO} {b : Nat} (h : OwnU w vh b) : Own w vh b := let ⟨i, a, f⟩ := h; ⟨i, a, VO.free_alive f⟩
structure HR (G : Nat → List (Sg V)) (w : Wd) (h : Heap) (vh : List VO) : Prop where
  len : w.ι.length = vh.length
  ob : ∀ (id : Nat) o p, vh[id]? = some o → w.ι[id]? = some p → OR w h o p
  inj : ∀ i j b, atB w i b → atB w j b → (objAt vh i).alive = true → (objAt vh j).alive = true → i = j
  nF : ∀ b, Own w vh b → ¬ w.F b
  lt : ∀ b, Own w vh b → b < h.length
  Fl : ∀ b, w.F b → b < h.length
  gl : ∀ g, g < gN → w.F g ∧ ∃ cs wr, h[g]? = some (.row cs wr none) ∧ SgR ⟨[], w.F, []⟩ h (G g) cs
variable {G : Nat → List (Sg V)} {w w' : Wd} {h h' : Heap} {vh vh' : List VO}
theorem objAt_some {id : Nat} {o : VO} (e : objAt vh id = o) (ho : o.alive = true) : vh[id]? = some o := by
  unfold objAt at e
  rw [List.getD_eq_getElem?_getD] at e
  cases hv : vh[id]? with
  | none => rw [hv] at e; simp at e; subst e; cases ho
  | some x => rw [hv] at e; simp at e; rw [e]
theorem HR.at (R : HR G w h vh) {id : Nat} {o : VO} (e : objAt vh id = o) (ho : o.alive = true) : ∃ p, w.ι[id]? = some p ∧ OR w h o p := by
  have hv := objAt_some e ho
  have hl : id < w.ι.length := by rw [R.len]; exact (List.getElem?_eq_some_iff.1 hv).1
  exact ⟨_, List.getElem?_eq_getElem hl, R.ob _ _ _ hv (List.getElem?_eq_getElem hl)⟩
/-- The objects are there. -/
def HA (w : Wd) (h : Heap) (vh : List VO) : Prop := ∀ id o, objAt vh id = o → o.alive = true → ∃ p, w.ι[id]? = some p ∧ OR w h o p
theorem HR.ha (R : HR G w h vh) : HA w h vh := fun id o e ho => R.at e ho
theorem HA.nil : HA w h [] := fun id o e ho => by simp [objAt] at e; subst e; cases ho
/-- What will not change, with some objects. -/
def Fz (w : Wd) (i : List Nat) : Nat → Prop := fun b => w.F b ∨ ∃ id ∈ i, atB w id b
theorem Fz.l {i j : List Nat} {b : Nat} (H : Fz w i b) : Fz w (i ++ j) b := H.imp id fun ⟨x, a, c⟩ => ⟨x, List.mem_append_left _ a, c⟩
theorem Fz.r {i j : List Nat} {b : Nat} (H : Fz w j b) : Fz w (i ++ j) b := H.imp id fun ⟨x, a, c⟩ => ⟨x, List.mem_append_right _ a, c⟩
theorem Fz.cons {i : List Nat} {j b : Nat} (H : Fz w i b) : Fz w (j :: i) b := H.imp id fun ⟨x, a, c⟩ => ⟨x, List.mem_cons_of_mem _ a, c⟩
def Alive (vh : List VO) (i : List Nat) : Prop := ∀ id ∈ i, (objAt vh id).alive = true
theorem sg_one {t : Ty} {n : Nat} {xs : List (El t)} {cs : List Value} (H : SgR w h [.ar t n xs] cs) : xs.length = n ∧ RepL (Rep w.F h t) xs cs := by
  cases H with
  | ar hn hx H => cases H; simpa using ⟨hn, hx⟩
/-- A list of one's own, whole. -/
theorem gw_rep (R : HA w h vh) {id : Nat} {t : Ty} {n : Nat} {l : List (El t)} {ng lk : Bool} {u : Value} (hv : VR w h (.gw id) u) (ho : objAt vh id = .row [.ar t n l] ng lk) :
    ∃ a, u = .slice a n n ∧ l.length = n ∧ w.ι[id]? = some (a, some n) ∧ ((∃ b cs gr, a = some ⟨b, 0, none⟩ ∧ h[b]? = some (.row cs true gr) ∧ RepL (Rep w.F h t) l cs ∧ (gr = none ∨ gr = some t.sz) ∧ (ng = true → gr = none)) ∨ (n = 0 ∧ l = [] ∧ noRoom a ∧ ng = false)) := by
  obtain ⟨p, hp, hor⟩ := R _ _ ho rfl
  cases hv with
  | gw _ a m hi =>
    rw [hi] at hp
    cases hp
    rcases hor with ⟨b, cs, gr, e1, e2, e3, e4, e5, e6⟩ | ⟨t', e1, e2, e3, e4⟩
    · obtain ⟨t2, xs, e⟩ := e6 m rfl
      simp only [List.cons.injEq, Sg.ar.injEq, and_true] at e
      obtain ⟨rfl, rfl, _⟩ := e
      obtain ⟨q1, q2⟩ := sg_one e3
      refine ⟨a, rfl, q1, hi, .inl ⟨b, cs, gr, e1, e2, q2, e5.imp (fun x => x) ?_, e4⟩⟩
      rintro ⟨t3, n3, xs3, e, eg⟩
      simp only [List.cons.injEq, Sg.ar.injEq, and_true] at e
      obtain ⟨rfl, _⟩ := e
      exact eg
    · simp only [List.cons.injEq, Sg.ar.injEq, and_true] at e1
      obtain ⟨rfl, rfl, hl⟩ := e1
      cases e2
      have : l = [] := eq_of_heq hl
      subst this
      exact ⟨a, rfl, rfl, hi, .inr ⟨rfl, rfl, e3, e4⟩⟩
theorem drop_take_rep {α : Type} {R : α → List Value → Prop} {sz : Nat} (hsz : ∀ x cs, R x cs → cs.length = sz) : ∀ {l : List α} {cs : List Value}, RepL R l cs → ∀ o n, RepL R ((l.drop o).take n) ((cs.drop (o * sz)).take (n * sz))
  | [], cs, H, o, n => by cases H; simp [RepL]
  | x :: l, cs, ⟨c1, c2, e, a, b⟩, 0, 0 => by simp [RepL]
  | x :: l, cs, ⟨c1, c2, e, a, b⟩, 0, n + 1 => by
    subst e
    have := drop_take_rep hsz b 0 n
    simp only [List.drop_zero, List.take_succ_cons, Nat.zero_mul] at this ⊢
    refine ⟨c1, c2.take (n * sz), ?_, a, this⟩
    have hl := hsz _ _ a
    rw [List.take_append, hl, List.take_of_length_le (by rw [hl, Nat.add_mul]; omega)]
    congr 2
    rw [Nat.add_mul]; omega
  | x :: l, cs, ⟨c1, c2, e, a, b⟩, o + 1, n => by
    subst e
    have := drop_take_rep hsz b o n
    have hl := hsz _ _ a
    simp only [List.drop_succ_cons]
    have e1 : c1.drop ((o + 1) * sz) = [] := List.drop_of_length_le (by rw [hl, Nat.add_mul]; omega)
    rw [List.drop_append, e1, hl, List.nil_append]
    have e2 : (o + 1) * sz - sz = o * sz := by rw [Nat.add_mul]; omega
    rw [e2]
    exact this
theorem lookSl_rep (R : HA w h vh) {t : Ty} {v : V} {u : Value} {l : List (El t)} {i : List Nat} (hv : VR w h v u) (hl : lookSl t vh v = some (l, i)) : Rep (Fz w i) h (.sl t) l [u] ∧ Alive vh i := by
  unfold lookSl at hl
  split at hl
  · rename_i t' l'
    split at hl
    · rename_i e; subst e; cases hl
      cases hv with
      | sl _ _ _ H => exact ⟨Rep.mono (t := .sl t') (fun b hb => .inl hb) (fun _ _ => rfl) H, fun _ hx => by cases hx⟩
    · cases hl
  · rename_i id
    split at hl
    · rename_i t' n l' ng lk ho
      split at hl
      · rename_i e; subst e; cases hl
        show Rep (Fz w [id]) h (.sl t') l' [u] ∧ _
        obtain ⟨a, rfl, hln, hi, ⟨b, cs, gr, rfl, e2, e3, e4, _⟩ | ⟨rfl, rfl, e3, _⟩⟩ := gw_rep R hv ho
        · refine ⟨.inr ⟨b, 0, n, cs, true, gr, by rw [hln], Nat.le_of_eq hln, .inr ⟨id, by simp, _, hi⟩, e2, e4, .inr ?_⟩, fun x hx => by simp at hx; subst hx; rw [ho]; rfl⟩
          have hlen := e3.len fun _ _ => Rep.len
          refine ⟨by rw [Nat.zero_add]; exact Nat.le_of_eq hlen.symm, ?_⟩
          rw [List.drop_zero, List.take_of_length_le (Nat.le_of_eq hlen)]
          exact e3.mono fun _ _ => Rep.mono (fun b hb => .inl hb) (fun _ _ => rfl)
        · exact ⟨.inl ⟨rfl, a, rfl, e3⟩, fun x hx => by simp at hx; subst hx; rw [ho]; rfl⟩
      · cases hl
    · cases hl
  · rename_i id sz o n c
    split at hl
    · rename_i t' m l' ng lk ho
      split at hl
      · rename_i e; subst e
        cases hc : (Nat.ble (o + n) m && Nat.beq sz t'.sz) with
        | false => rw [hc] at hl; cases hl
        | true =>
          rw [hc] at hl
          cases hl
          show Rep (Fz w [id]) h (.sl t') ((l'.drop o).take n) [u] ∧ _
          simp only [Bool.and_eq_true] at hc
          have h1 := Nat.le_of_ble_eq_true hc.1
          have h2 := Nat.eq_of_beq_eq_true hc.2
          subst h2
          obtain ⟨p, hp, hor⟩ := R _ _ ho rfl
          cases hv with
          | gl0 _ _ _ _ _ a ha => exact ⟨.inl ⟨by simp, a, rfl, ha⟩, fun x hx => by simp at hx; subst hx; rw [ho]; rfl⟩
          | gl _ _ _ _ _ _ _ b m' hi hnc =>
            rw [hi] at hp
            cases hp
            refine ⟨?_, fun x hx => by simp at hx; subst hx; rw [ho]; rfl⟩
            rcases hor with ⟨b', cs, gr, e1, e2, e3, e4, e5, e6⟩ | ⟨t2, e1, e2, e3, e4⟩
            · cases e1
              obtain ⟨q1, q2⟩ := sg_one e3
              have hlen := q2.len fun _ _ => Rep.len
              have hn : ((l'.drop o).take n).length = n := by
                rw [List.length_take, List.length_drop, q1]; omega
              refine .inr ⟨b, offQ [] + 0 + o * t'.sz, c, cs, true, gr, by rw [hn], ?_, .inr ⟨id, by simp, _, hi⟩, e2, e5.imp (fun x => x) ?_, .inr ?_⟩
              · rw [hn]; exact hnc
              · rintro ⟨t3, n3, xs3, e, eg⟩
                simp only [List.cons.injEq, Sg.ar.injEq, and_true] at e
                obtain ⟨rfl, _⟩ := e
                exact eg
              · rw [hn]
                have : cs.length = m * t'.sz := by rw [hlen, q1]
                have hm : o * t'.sz + n * t'.sz ≤ m * t'.sz := by rw [← Nat.add_mul]; exact Nat.mul_le_mul_right _ h1
                refine ⟨by simp only [offQ]; omega, ?_⟩
                simp only [offQ, Nat.zero_add]
                exact drop_take_rep (fun _ _ => Rep.len) (q2.mono fun _ _ => Rep.mono (fun b hb => .inl hb) (fun _ _ => rfl)) o n
            · rcases e3 with e3 | ⟨x, e3, e4⟩
              · cases e3
              · cases e3; cases e4
      · cases hl
    · cases hl
  · cases hl
    cases hv with
    | k _ _ => exact ⟨.inl ⟨rfl, none, rfl, .inl rfl⟩, fun _ hx => by cases hx⟩
  · cases hl
    cases hv with
    | e0 a ha => exact ⟨.inl ⟨rfl, a, rfl, ha⟩, fun _ hx => by cases hx⟩
  · cases hl
theorem Rep.fz {w : Wd} {h : Heap} {i : List Nat} {t : Ty} {x : El t} {cs : List Value} (H : Rep w.F h t x cs) : Rep (Fz w i) h t x cs := H.mono (fun _ hb => .inl hb) fun _ _ => rfl
theorem Rep.fl {w : Wd} {h : Heap} {i j : List Nat} {t : Ty} {x : El t} {cs : List Value} (H : Rep (Fz w i) h t x cs) : Rep (Fz w (i ++ j)) h t x cs := H.mono (fun _ hb => Fz.l hb) fun _ _ => rfl
theorem Rep.fr {w : Wd} {h : Heap} {i j : List Nat} {t : Ty} {x : El t} {cs : List Value} (H : Rep (Fz w j) h t x cs) : Rep (Fz w (i ++ j)) h t x cs := H.mono (fun _ hb => Fz.r hb) fun _ _ => rfl
theorem lookMp_rep (R : HA w h vh) {k v : Ty} {m : V} {u : Value} {l : List (El k × El v)} {i : List Nat} (hv : VR w h m u) (hl : lookMp k v vh m = some (l, i)) : Rep (Fz w i) h (.mp k v) l [u] ∧ Alive vh i := by
  unfold lookMp at hl
  split at hl
  · rename_i k' v' l'
    split at hl
    · rename_i e; obtain ⟨rfl, rfl⟩ := e; cases hl
      cases hv with
      | mp _ _ _ _ H => exact ⟨Rep.fz (t := .mp k' v') H, fun _ hx => by cases hx⟩
    · cases hl
  · rename_i id
    split at hl
    · rename_i k' v' l' lk ho
      split at hl
      · rename_i e; obtain ⟨rfl, rfl⟩ := e; cases hl
        obtain ⟨p, hp, b, ms, e1, e2, e3⟩ := R _ _ ho rfl
        cases hv with
        | om _ b' m hi =>
          rw [hi] at hp
          cases hp
          cases e1
          refine ⟨.inr ⟨b, ms, rfl, .inr ⟨id, by simp, m, hi⟩, e2, ?_⟩, fun x hx => by simp at hx; subst hx; rw [ho]; rfl⟩
          exact e3.mono (fun _ _ ⟨cs, e, a⟩ => ⟨cs, e, a.fz⟩) fun _ _ ⟨cs, e, a⟩ => ⟨cs, e, a.fz⟩
      · cases hl
    · cases hl
  · cases hl
    cases hv with
    | k _ _ => exact ⟨.inl ⟨rfl, rfl⟩, fun _ hx => by cases hx⟩
  · cases hl
theorem lookP_rep (R : HA w h vh) {α : Type} {t : Ty} {fx : El t → α} {rec : List (Sg V) → Option (El t × List Nat × List (Sg V))} {v : V} {u : Value} {x : α} {i : List Nat}
    (hrec : ∀ l cs x i r, SgR w h l cs → rec l = some (x, i, r) → ∃ c1 c2, cs = c1 ++ c2 ∧ Rep (Fz w i) h t x c1 ∧ SgR w h r c2 ∧ Alive vh i)
    (hv : VR w h v u) (hl : lookP t fx vh rec v = some (x, i)) : ∃ y, x = fx y ∧ PtR (Fz w i) h t.sz (Rep (Fz w i) h t y) [u] ∧ Alive vh i := by
  unfold lookP at hl
  split at hl
  · rename_i t' x'
    split at hl
    · rename_i e; subst e; cases hl
      cases hv with
      | fp _ _ _ _ b o row wr gr hF hb hg hl H =>
        cases hg rfl
        exact ⟨x', rfl, ⟨b, o, row, wr, rfl, .inl hF, hb, hl, H.fz⟩, fun _ hx => by cases hx⟩
    · cases hl
  · rename_i id
    split at hl
    · rename_i l lk ho
      split at hl
      · rename_i x' i' hr
        cases hl
        obtain ⟨p, hp, hor⟩ := R _ _ ho rfl
        cases hv with
        | op _ _ _ b m hi =>
          rw [hi] at hp
          cases hp
          rcases hor with ⟨b', cs, gr, e1, e2, e3, e4, e5, e6⟩ | ⟨t2, e1, e2, e3, e4⟩
          · cases e1
            cases e4 rfl
            obtain ⟨c1, c2, rfl, h1, h2, h3⟩ := hrec _ _ _ _ _ e3 hr
            cases h2
            simp only [List.append_nil] at e2
            have hl := h1.len
            refine ⟨x', rfl, ⟨b, 0, c1, true, rfl, .inr ⟨id, by simp, m, hi⟩, e2, by omega, ?_⟩, fun y hy => ?_⟩
            · rw [List.drop_zero, List.take_of_length_le (Nat.le_of_eq hl)]
              exact h1.mono (fun _ hb => Fz.cons hb) fun _ _ => rfl
            · rcases List.mem_cons.1 hy with rfl | hy
              · rw [ho]; rfl
              · exact h3 y hy
          · cases e4
      · cases hl
    · cases hl
  · cases hl
theorem lookN_rep {α : Type} {R : List Nat → α → List Value → Prop} (hm : ∀ i j x cs, R i x cs → R (i ++ j) x cs) (hm2 : ∀ i j x cs, R j x cs → R (i ++ j) x cs) {f : List (Sg V) → Option (α × List Nat × List (Sg V))}
    (hf : ∀ l cs x i r, SgR w h l cs → f l = some (x, i, r) → ∃ c1 c2, cs = c1 ++ c2 ∧ R i x c1 ∧ SgR w h r c2 ∧ Alive vh i) :
    ∀ {n : Nat} {l : List (Sg V)} {cs : List Value} {xs : List α} {i : List Nat} {r : List (Sg V)}, SgR w h l cs → lookN f n l = some (xs, i, r) → ∃ c1 c2, cs = c1 ++ c2 ∧ xs.length = n ∧ RepL (R i) xs c1 ∧ SgR w h r c2 ∧ Alive vh i
  | 0, l, cs, xs, i, r, hs, he => by cases he; exact ⟨[], cs, rfl, rfl, rfl, hs, fun _ hx => by cases hx⟩
  | n + 1, l, cs, xs, i, r, hs, he => by
    unfold lookN at he
    split at he
    · rename_i x i1 r1 h1
      split at he
      · rename_i xs' i2 r2 h2
        cases he
        obtain ⟨c1, c2, rfl, a1, a2, a3⟩ := hf _ _ _ _ _ hs h1
        obtain ⟨c3, c4, rfl, b0, b1, b2, b3⟩ := lookN_rep hm hm2 hf a2 h2
        refine ⟨c1 ++ c3, c4, by simp, by simp [b0], ⟨c1, c3, rfl, hm _ _ _ _ a1, b1.mono fun _ _ => hm2 _ _ _ _⟩, b2, fun y hy => ?_⟩
        rcases List.mem_append.1 hy with hy | hy
        · exact a3 y hy
        · exact b3 y hy
      · cases he
    · cases he
theorem Alive.app {i j : List Nat} (a : Alive vh i) (b : Alive vh j) : Alive vh (i ++ j) := fun y hy => (List.mem_append.1 hy).elim (a y) (b y)
theorem Alive.nil : Alive vh [] := fun _ hx => by cases hx
theorem lk1_rep {α : Type} {P : List Nat → α → List Value → Prop} {f : V → Option (α × List Nat)} (hf : ∀ v u x i, VR w h v u → f v = some (x, i) → P i x [u] ∧ Alive vh i) {l : List (Sg V)} {cs : List Value} {x : α} {i : List Nat} {r : List (Sg V)}
    (hs : SgR w h l cs) (he : lk1 f l = some (x, i, r)) : ∃ c1 c2, cs = c1 ++ c2 ∧ P i x c1 ∧ SgR w h r c2 ∧ Alive vh i := by
  unfold lk1 at he
  split at he
  · rename_i v r'
    split at he
    · rename_i x' i' hv
      cases he
      cases hs with
      | c hr hc H =>
        obtain ⟨a, b⟩ := hf _ _ _ _ hr hv
        exact ⟨[_], _, rfl, a, H, b⟩
    · cases he
  · cases he
/-- What is looked at is what is there. -/
theorem lookS_rep (R : HA w h vh) : ∀ (t : Ty) (l : List (Sg V)) (cs : List Value) (x : El t) (i : List Nat) (r : List (Sg V)), SgR w h l cs → lookS vh t l = some (x, i, r) → ∃ c1 c2, cs = c1 ++ c2 ∧ Rep (Fz w i) h t x c1 ∧ SgR w h r c2 ∧ Alive vh i := by
  intro t
  induction t with
  | int k =>
    intro l cs x i r hs he
    refine lk1_rep (P := fun i x c => Rep (Fz w i) h (.int k) x c) (fun v u x i hv e => ?_) hs he
    unfold lkI at e
    split at e
    · split at e
      · rename_i hk; subst hk; cases e; cases hv; exact ⟨rfl, Alive.nil⟩
      · cases e
    · cases e
  | bool =>
    intro l cs x i r hs he
    refine lk1_rep (P := fun i x c => Rep (Fz w i) h .bool x c) (fun v u x i hv e => ?_) hs he
    unfold lkB at e
    split at e
    · cases e; cases hv; exact ⟨rfl, Alive.nil⟩
    · cases e
  | str =>
    intro l cs x i r hs he
    refine lk1_rep (P := fun i x c => Rep (Fz w i) h .str x c) (fun v u x i hv e => ?_) hs he
    unfold lkS at e
    split at e
    · cases e; cases hv; exact ⟨rfl, Alive.nil⟩
    · cases e
  | sl t ih =>
    intro l cs x i r hs he
    exact lk1_rep (P := fun i x c => Rep (Fz w i) h (.sl t) x c) (fun v u x i hv e => lookSl_rep R hv e) hs he
  | unit =>
    intro l cs x i r hs he
    cases he
    exact ⟨[], cs, rfl, rfl, hs, Alive.nil⟩
  | pair a b iha ihb =>
    intro l cs x i r hs he
    simp only [lookS] at he
    split at he
    · rename_i x1 i1 r1 h1
      split at he
      · rename_i x2 i2 r2 h2
        cases he
        obtain ⟨c1, c2, rfl, a1, a2, a3⟩ := iha _ _ _ _ _ hs h1
        obtain ⟨c3, c4, rfl, b1, b2, b3⟩ := ihb _ _ _ _ _ a2 h2
        exact ⟨c1 ++ c3, c4, by simp, ⟨c1, c3, rfl, a1.fl, b1.fr⟩, b2, a3.app b3⟩
      · cases he
    · cases he
  | arr n t ih =>
    intro l cs x i r hs he
    simp only [lookS, lkA] at he
    split at he
    · split at he
      · rename_i e
        obtain ⟨rfl, rfl⟩ := e
        cases he
        cases hs with
        | ar hn hx H => exact ⟨_, _, rfl, ⟨hn, hx.mono fun _ _ => Rep.fz⟩, H, Alive.nil⟩
      · obtain ⟨c1, c2, e, a1, a2, a3, a4⟩ := lookN_rep (R := fun i x c => Rep (Fz w i) h t x c) (fun _ _ _ _ => Rep.fl) (fun _ _ _ _ => Rep.fr) ih hs he
        exact ⟨c1, c2, e, ⟨a1, a2⟩, a3, a4⟩
    · obtain ⟨c1, c2, e, a1, a2, a3, a4⟩ := lookN_rep (R := fun i x c => Rep (Fz w i) h t x c) (fun _ _ _ _ => Rep.fl) (fun _ _ _ _ => Rep.fr) ih hs he
      exact ⟨c1, c2, e, ⟨a1, a2⟩, a3, a4⟩
  | ptr t ih =>
    intro l cs x i r hs he
    refine lk1_rep (P := fun i x c => Rep (Fz w i) h (.ptr t) x c) (fun v u x i hv e => ?_) hs he
    obtain ⟨y, rfl, a, b⟩ := lookP_rep R ih hv e
    exact ⟨a, b⟩
  | opt t ih =>
    intro l cs x i r hs he
    refine lk1_rep (P := fun i x c => Rep (Fz w i) h (.opt t) x c) (fun v u x i hv e => ?_) hs he
    unfold lkO at e
    split at e
    · split at e
      · rename_i hk; subst hk; cases e
        cases hv with
        | np _ _ _ H => exact ⟨Rep.fz (t := .opt _) H, Alive.nil⟩
      · cases e
    · cases e
      cases hv with
      | k _ _ => exact ⟨rfl, Alive.nil⟩
    · obtain ⟨y, rfl, a, b⟩ := lookP_rep R ih hv e
      exact ⟨a, b⟩
  | mp k v _ _ =>
    intro l cs x i r hs he
    exact lk1_rep (P := fun i x c => Rep (Fz w i) h (.mp k v) x c) (fun v u x i hv e => lookMp_rep R hv e) hs he
/-- The pieces of a value. -/
theorem segV_rep {v : V} {u : Value} {l : List (Sg V)} (hv : VR w h v u) (hl : segV v = some l) : ∃ cs, cellsOf u = some cs ∧ SgR w h l cs ∧ (isG v = true → ∃ a : Array Value, u = .agg a ∧ cs = a.toList) ∧ (isG v = false → cs = [u]) := by
  cases hv with
  | g l' cs H => cases hl; exact ⟨cs.toList, rfl, H, fun _ => ⟨cs, rfl, rfl⟩, fun hh => by cases hh⟩
  | tup => cases hl
  | un => cases hl
  | k v hv => cases hl; exact ⟨[u], by cases u <;> first | rfl | (simp [flat0] at hv), .c (.k _ hv) ((VR.k (w := w) (h := h) u hv).cell rfl) .nil, fun hh => (by cases hh), fun _ => rfl⟩
  | sl t l v H => cases hl; exact ⟨[u], (by rcases H with ⟨_, a, e, _⟩ | ⟨b, o, c, row, wr, gr, e, _⟩ <;> (cases e; rfl)), .c (.sl _ _ _ H) ((VR.sl (w := w) (h := h) t _ u H).cell rfl) .nil, fun hh => (by cases hh), fun _ => rfl⟩
  | np t x v H => cases hl; exact ⟨[u], (by
      cases x with
      | none => cases H; rfl
      | some x => obtain ⟨b, o, row, wr, e, _⟩ := H; cases e; rfl), .c (.np _ _ _ H) ((VR.np (w := w) (h := h) t _ u H).cell rfl) .nil, fun hh => (by cases hh), fun _ => rfl⟩
  | mp k v l u H => cases hl; exact ⟨[u], (by rcases H with ⟨_, e⟩ | ⟨b, ms, e, _⟩ <;> (cases e; rfl)), .c (.mp _ _ _ _ H) ((VR.mp (w := w) (h := h) k v _ u H).cell rfl) .nil, fun hh => (by cases hh), fun _ => rfl⟩
  | _ => cases hl; exact ⟨[_], rfl, .c (by constructor <;> assumption) rfl .nil, fun hh => (by cases hh), fun _ => rfl⟩
theorem vals_wide {t : Ty} {cs : List Value} (h : t.wide = true) : vals t cs = .agg cs.toArray := by cases t <;> first | rfl | (simp [Ty.wide] at h)
theorem lookV_rep (R : HA w h vh) {t : Ty} {v : V} {u : Value} {x : El t} {i : List Nat} (hv : VR w h v u) (he : lookV vh t v = some (x, i)) : ∃ cs, u = vals t cs ∧ cellsOf u = some cs ∧ Rep (Fz w i) h t x cs ∧ Alive vh i := by
  unfold lookV at he
  split at he
  · rename_i hw
    split at he
    · rename_i l hl
      split at he
      · rename_i x' i' hs
        cases he
        obtain ⟨cs, h1, h2, h3, h4⟩ := segV_rep hv hl
        obtain ⟨c1, c2, rfl, a1, a2, a3⟩ := lookS_rep R _ _ _ _ _ _ h2 hs
        cases a2
        rw [List.append_nil] at h1 h3 h4
        refine ⟨c1, ?_, h1, a1, a3⟩
        cases hg : isG v with
        | true =>
          rw [hg] at hw
          obtain ⟨a, rfl, rfl⟩ := h3 hg
          rw [vals_wide hw.symm]
        | false =>
          rw [hg] at hw
          cases h4 hg
          cases t <;> first | rfl | (simp [Ty.wide] at hw)
      · cases he
    · cases he
  · cases he
end Go.Canon
namespace Go.Canon
set_option linter.unusedVariables false
set_option linter.unusedSimpArgs false
open Go
variable [C0 : Cmb] [CmbOk C0]
variable {G : Nat → List (Sg V)} {w w' : Wd} {h h' : Heap} {vh vh' : List VO}
theorem SgR.head {s : Sg V} {l : List (Sg V)} {cs : List Value} (H : SgR w h (s :: l) cs) : ∃ c1 c2, cs = c1 ++ c2 ∧ c1.length = s.len ∧ SgR w h [s] c1 ∧ SgR w h l c2 := by
  cases H with
  | c hv hc H => exact ⟨[_], _, rfl, rfl, .c hv hc .nil, H⟩
  | @ar t n xs l cs us hn hx H =>
    refine ⟨_, _, rfl, ?_, by simpa using SgR.ar hn hx .nil, H⟩
    rw [hx.len fun _ _ => Rep.len, hn]; rfl
theorem dropSg_rep : ∀ {l : List (Sg V)} {j : Nat} {cs : List Value} {r : List (Sg V)}, SgR w h l cs → dropSg l j = some r → j ≤ cs.length ∧ SgR w h r (cs.drop j)
  | l, 0, cs, r, H, e => by
    have : r = l := by cases l <;> (simp only [dropSg] at e; cases e; rfl)
    subst this
    exact ⟨Nat.zero_le _, by simpa using H⟩
  | [], j + 1, cs, r, H, e => by cases e
  | s :: l, j + 1, cs, r, H, e => by
    simp only [dropSg] at e
    cases hb : Nat.ble s.len (j + 1) with
    | false => rw [hb] at e; cases e
    | true =>
      rw [hb] at e
      have hle := Nat.le_of_ble_eq_true hb
      obtain ⟨c1, c2, rfl, h1, h2, h3⟩ := H.head
      obtain ⟨h4, h5⟩ := dropSg_rep h3 e
      refine ⟨by rw [List.length_append]; omega, ?_⟩
      rw [List.drop_append, List.drop_of_length_le (by omega), List.nil_append, h1]
      exact h5
theorem takeSg_rep : ∀ {l : List (Sg V)} {j : Nat} {cs : List Value} {r : List (Sg V)}, SgR w h l cs → takeSg l j = some r → j ≤ cs.length ∧ SgR w h r (cs.take j)
  | l, 0, cs, r, H, e => by
    have : r = [] := by cases l <;> (simp only [takeSg] at e; cases e; rfl)
    subst this
    exact ⟨Nat.zero_le _, by simpa using SgR.nil⟩
  | [], j + 1, cs, r, H, e => by cases e
  | s :: l, j + 1, cs, r, H, e => by
    simp only [takeSg] at e
    cases hb : Nat.ble s.len (j + 1) with
    | false => rw [hb] at e; cases e
    | true =>
      rw [hb] at e
      have hle := Nat.le_of_ble_eq_true hb
      simp only [cond_true, Option.map_eq_some_iff] at e
      obtain ⟨r', e, rfl⟩ := e
      obtain ⟨c1, c2, rfl, h1, h2, h3⟩ := H.head
      obtain ⟨h4, h5⟩ := takeSg_rep h3 e
      refine ⟨by rw [List.length_append]; omega, ?_⟩
      rw [List.take_append, List.take_of_length_le (by omega), h1]
      exact h2.append h5
theorem partSg_rep {l : List (Sg V)} {j n : Nat} {cs : List Value} {p : List (Sg V)} (H : SgR w h l cs) (e : partSg l j n = some p) : j + n ≤ cs.length ∧ SgR w h p ((cs.drop j).take n) := by
  unfold partSg at e
  rw [Option.bind_eq_some_iff] at e
  obtain ⟨r, e1, e2⟩ := e
  obtain ⟨h1, h2⟩ := dropSg_rep H e1
  obtain ⟨h3, h4⟩ := takeSg_rep h2 e2
  rw [List.length_drop] at h3
  exact ⟨by omega, h4⟩
theorem lenSg_rep {l : List (Sg V)} {n : Nat} {cs : List Value} (H : SgR w h l cs) (e : lenSg l n = true) : cs.length = n := by
  unfold lenSg at e
  split at e
  · rename_i hd
    obtain ⟨h1, h2⟩ := dropSg_rep H hd
    generalize hx : cs.drop n = x at h2
    cases h2
    have := congrArg List.length hx
    simp at this
    omega
  · cases e
theorem cellSg_rep {l : List (Sg V)} {j : Nat} {cs : List Value} {v : V} (H : SgR w h l cs) (e : cellSg l j = some v) : ∃ u, (cs.drop j).take 1 = [u] ∧ j + 1 ≤ cs.length ∧ VR w h v u ∧ isCell u = true := by
  unfold cellSg at e
  split at e
  · rename_i v' r hd
    cases e
    obtain ⟨h1, h2⟩ := dropSg_rep H hd
    generalize hx : cs.drop j = x at h2
    cases h2 with
    | c hv hc H' =>
      have := congrArg List.length hx
      simp at this
      exact ⟨_, rfl, by omega, hv, hc⟩
  · cases e
theorem setSg_rep {l new l' : List (Sg V)} {j : Nat} {cs cn : List Value} (H : SgR w h l cs) (Hn : SgR w h new cn) (e : setSg l j cn.length new = some l') : j + cn.length ≤ cs.length ∧ SgR w h l' (cs.take j ++ cn ++ cs.drop (j + cn.length)) := by
  unfold setSg at e
  split at e
  · rename_i a b ha hb
    cases e
    obtain ⟨h1, h2⟩ := takeSg_rep H ha
    obtain ⟨h3, h4⟩ := dropSg_rep H hb
    exact ⟨h3, (h2.append Hn).append h4⟩
  · cases e
theorem arSg_rep {l : List (Sg V)} {j : Nat} {cs : List Value} {a : Arr} (H : SgR w h l cs) (e : arSg l j = some a) : a.l.length = a.n ∧ j + a.n * a.t.sz ≤ cs.length ∧ RepL (Rep w.F h a.t) a.l ((cs.drop j).take (a.n * a.t.sz)) := by
  unfold arSg at e
  split at e
  · rename_i t n xs r hd
    cases e
    obtain ⟨h1, h2⟩ := dropSg_rep H hd
    generalize hx : cs.drop j = x at h2
    cases h2 with
    | @ar _ _ _ _ c1 c2 hn hxs H' =>
      have hlen := hxs.len fun _ _ => Rep.len
      rw [hn] at hlen
      have := congrArg List.length hx
      simp at this
      refine ⟨hn, by dsimp only; omega, ?_⟩
      dsimp only
      rw [List.take_append_of_le_length (by omega), List.take_of_length_le (by omega)]
      exact hxs
  · cases e
theorem repSg_rep {new : Sg V} : ∀ {l : List (Sg V)} {j : Nat} {cs cn : List Value} {l' : List (Sg V)} {old : Sg V}, SgR w h l cs → SgR w h [new] cn → cn.length = old.len → (∃ r, dropSg l j = some (old :: r)) → repSg new l j = some l' → j + cn.length ≤ cs.length ∧ SgR w h l' (cs.take j ++ cn ++ cs.drop (j + cn.length))
  | [], j, cs, cn, l', old, H, Hn, hl, _, e => by cases j <;> cases e
  | s :: l, 0, cs, cn, l', old, H, Hn, hl, ⟨r, hd⟩, e => by
    simp only [dropSg] at hd
    cases hd
    cases e
    obtain ⟨c1, c2, rfl, h1, h2, h3⟩ := H.head
    refine ⟨by rw [List.length_append]; omega, ?_⟩
    rw [List.take_zero, List.nil_append, Nat.zero_add, List.drop_append, List.drop_of_length_le (by omega), List.nil_append]
    have : cn.length - c1.length = 0 := by omega
    rw [this, List.drop_zero]
    exact Hn.append h3
  | s :: l, j + 1, cs, cn, l', old, H, Hn, hl, ⟨r, hd⟩, e => by
    simp only [repSg] at e
    simp only [dropSg] at hd
    cases hb : Nat.ble s.len (j + 1) with
    | false => rw [hb] at e; cases e
    | true =>
      rw [hb] at e hd
      have hle := Nat.le_of_ble_eq_true hb
      simp only [cond_true, Option.map_eq_some_iff] at e hd
      obtain ⟨r', e, rfl⟩ := e
      obtain ⟨c1, c2, rfl, h1, h2, h3⟩ := H.head
      obtain ⟨h4, h5⟩ := repSg_rep h3 Hn hl ⟨r, hd⟩ e
      refine ⟨by rw [List.length_append]; omega, ?_⟩
      rw [List.take_append, List.take_of_length_le (by omega), List.drop_append, List.drop_of_length_le (l := c1) (by omega), List.nil_append, h1, List.append_assoc, List.append_assoc]
      have e2 : j + 1 + cn.length - s.len = j + 1 - s.len + cn.length := by omega
      rw [e2, ← List.append_assoc]
      rw [List.append_assoc] at h5
      rw [List.append_assoc]
      exact h2.append h5
theorem RepL.at {α : Type} {R : α → List Value → Prop} {sz : Nat} (hsz : ∀ x cs, R x cs → cs.length = sz) : ∀ {l : List α} {cs : List Value}, RepL R l cs → ∀ {i : Nat} (d : α), i < l.length → i * sz + sz ≤ cs.length ∧ R (l.getD i d) ((cs.drop (i * sz)).take sz)
  | [], _, _, i, d, hi => by simp at hi
  | x :: l, _, ⟨c1, c2, e, a, b⟩, 0, d, hi => by
    subst e
    have := hsz _ _ a
    refine ⟨by rw [List.length_append]; omega, ?_⟩
    simp only [Nat.zero_mul, List.drop_zero, List.getD_cons_zero]
    rw [List.take_append_of_le_length (by omega), List.take_of_length_le (by omega)]
    exact a
  | x :: l, _, ⟨c1, c2, e, a, b⟩, i + 1, d, hi => by
    subst e
    have hl := hsz _ _ a
    obtain ⟨h1, h2⟩ := RepL.at hsz b d (i := i) (by simpa using hi)
    have e1 : (i + 1) * sz = i * sz + sz := Nat.succ_mul i sz
    refine ⟨by rw [List.length_append]; omega, ?_⟩
    simp only [List.getD_cons_succ]
    rw [List.drop_append, List.drop_of_length_le (l := c1) (by omega), List.nil_append, hl]
    have e2 : (i + 1) * sz - sz = i * sz := by omega
    rw [e2]
    exact h2
theorem RepL.set {α : Type} {R : α → List Value → Prop} {sz : Nat} (hsz : ∀ x cs, R x cs → cs.length = sz) : ∀ {l : List α} {cs : List Value}, RepL R l cs → ∀ {i : Nat} {y : α} {cy : List Value}, i < l.length → R y cy → RepL R (l.set i y) (cs.take (i * sz) ++ cy ++ cs.drop (i * sz + sz))
  | [], _, _, i, y, cy, hi, _ => by simp at hi
  | x :: l, _, ⟨c1, c2, e, a, b⟩, 0, y, cy, hi, hy => by
    subst e
    have := hsz _ _ a
    simp only [Nat.zero_mul, List.take_zero, List.nil_append, Nat.zero_add, List.set_cons_zero]
    rw [List.drop_append, List.drop_of_length_le (by omega), List.nil_append]
    have e2 : sz - c1.length = 0 := by omega
    rw [e2, List.drop_zero]
    exact ⟨cy, c2, rfl, hy, b⟩
  | x :: l, _, ⟨c1, c2, e, a, b⟩, i + 1, y, cy, hi, hy => by
    subst e
    have hl := hsz _ _ a
    have := RepL.set hsz b (i := i) (by simpa using hi) hy
    have e1 : (i + 1) * sz = i * sz + sz := Nat.succ_mul i sz
    simp only [List.set_cons_succ]
    refine ⟨c1, _, ?_, a, this⟩
    rw [List.take_append, List.take_of_length_le (by omega), List.drop_append, List.drop_of_length_le (l := c1) (by omega), List.nil_append, hl]
    have e2 : (i + 1) * sz - sz = i * sz := by omega
    have e3 : (i + 1) * sz + sz - sz = i * sz + sz := by omega
    rw [e2, e3]
    simp [List.append_assoc]
theorem arSg_drop {l : List (Sg V)} {j : Nat} {a : Arr} (e : arSg l j = some a) : ∃ r, dropSg l j = some (.ar a.t a.n a.l :: r) := by
  unfold arSg at e
  split at e
  · cases e; exact ⟨_, by assumption⟩
  · cases e
/-- Inside an object. -/
theorem getQ_rep : ∀ {q : List (Nat × Nat × Nat)} {l l' : List (Sg V)} {cs : List Value}, SgR w h l cs → getQ l q = some l' → qB l q = true → ∃ n, offQ q + n ≤ cs.length ∧ SgR w h l' ((cs.drop (offQ q)).take n)
  | [], l, l', cs, H, e, hq => by cases e; exact ⟨cs.length, by simp [offQ], by simpa [offQ] using H⟩
  | (j, sz, i) :: q, l, l', cs, H, e, hq => by
    simp only [getQ] at e
    split at e
    · rename_i a ha
      split at e
      · rename_i hsz
        obtain ⟨h1, h2, h3⟩ := arSg_rep H ha
        simp only [qB, ha] at hq
        have hi : i < a.n ∧ qB (segs a.t (a.l.getD i (dfl a.t))) q = true := by
          cases q with
          | nil => exact ⟨by simpa [ltB] using hq, rfl⟩
          | cons x q => simp only [Bool.and_eq_true] at hq; exact ⟨by simpa [ltB] using hq.1, hq.2⟩
        obtain ⟨h4, h5⟩ := RepL.at (fun _ _ => Rep.len) h3 (dfl a.t) (by rw [h1]; exact hi.1)
        obtain ⟨n, h6, h7⟩ := getQ_rep (segs_rep h5) e hi.2
        rw [List.length_take, List.length_drop] at h4
        simp only [List.length_take, List.length_drop] at h6
        subst hsz
        refine ⟨n, by simp only [offQ]; omega, ?_⟩
        rw [List.drop_take, List.take_take, List.drop_take, List.drop_take, List.take_take, List.drop_drop, List.drop_drop] at h7
        simp only [offQ]
        have e1 : j + (i * a.t.sz + offQ q) = j + i * a.t.sz + offQ q := by omega
        rw [e1] at h7
        have e2 : min (min n (a.t.sz - offQ q)) (a.n * a.t.sz - i * a.t.sz - offQ q) = n := by omega
        rw [e2] at h7
        exact h7
      · cases e
    · cases e
/-- Cells put into cells. -/
def putC (cs : List Value) (j : Nat) (cn : List Value) : List Value := cs.take j ++ cn ++ cs.drop (j + cn.length)
theorem putC_len {cs cn : List Value} {j : Nat} (hl : j + cn.length ≤ cs.length) : (putC cs j cn).length = cs.length := by
  simp only [putC, List.length_append, List.length_take, List.length_drop]; omega
theorem putC_in {cs cn : List Value} {o n j : Nat} (h1 : o + n ≤ cs.length) (h2 : j + cn.length ≤ n) : putC cs o (putC ((cs.drop o).take n) j cn) = putC cs (o + j) cn := by
  have hl : ((cs.drop o).take n).length = n := by simp; omega
  have hl2 : (putC ((cs.drop o).take n) j cn).length = n := by rw [putC_len (by omega), hl]
  unfold putC at hl2 ⊢
  rw [hl2, List.take_take, List.drop_take, List.drop_drop]
  have e1 : cs.take (o + j) = cs.take o ++ (cs.drop o).take j := by rw [List.take_add]
  have e2 : min j n = j := by omega
  rw [e1, e2]
  simp only [List.append_assoc]
  congr 3
  have e3 : cs.drop (o + j + cn.length) = (cs.drop (o + (j + cn.length))).take (n - (j + cn.length)) ++ cs.drop (o + n) := by
    have : cs.drop (o + n) = (cs.drop (o + (j + cn.length))).drop (n - (j + cn.length)) := by rw [List.drop_drop]; congr 1; omega
    rw [this, List.take_append_drop]; congr 1; omega
  rw [e3]
/-- What is changed inside an object. -/
theorem setQ_rep2 {f : List (Sg V) → Option (List (Sg V))} {j : Nat} {cn : List Value} {l0 : List (Sg V)} (hf : ∀ c0 l1, SgR w h l0 c0 → f l0 = some l1 → j + cn.length ≤ c0.length ∧ SgR w h l1 (putC c0 j cn)) :
    ∀ {q : List (Nat × Nat × Nat)} {l l' : List (Sg V)} {cs : List Value}, getQ l q = some l0 → SgR w h l cs → setQ f q l = some l' → qB l q = true → offQ q + j + cn.length ≤ cs.length ∧ SgR w h l' (putC cs (offQ q + j) cn)
  | [], l, l', cs, hg, H, e, hq => by cases hg; simpa [offQ] using hf _ _ H e
  | (j0, sz, i) :: q, l, l', cs, hg, H, e, hq => by
    simp only [getQ] at hg
    simp only [setQ] at e
    split at e
    · rename_i a ha
      rw [ha] at hg
      dsimp only at hg
      split at e
      · rename_i hsz
        rw [if_pos hsz] at hg
        split at e
        · rename_i e1 he1
          split at e
          · rename_i y hy
            obtain ⟨h1, h2, h3⟩ := arSg_rep H ha
            simp only [qB, ha] at hq
            have hi : i < a.n ∧ qB (segs a.t (a.l.getD i (dfl a.t))) q = true := by
              cases q with
              | nil => exact ⟨by simpa [ltB] using hq, rfl⟩
              | cons x q => simp only [Bool.and_eq_true] at hq; exact ⟨by simpa [ltB] using hq.1, hq.2⟩
            obtain ⟨h4, h5⟩ := RepL.at (fun _ _ => Rep.len) h3 (dfl a.t) (by rw [h1]; exact hi.1)
            obtain ⟨h6, h7⟩ := setQ_rep2 hf hg (segs_rep h5) he1 hi.2
            obtain ⟨c1, c2, ec, h8, h9, _⟩ := lookS_rep HA.nil _ _ _ _ _ _ h7 hy
            cases h9
            rw [List.append_nil] at ec
            rw [ec] at h7
            have h8 : Rep w.F h a.t y c1 := h8.mono (fun b hb => by rcases hb with hb | ⟨x, hx, _⟩; exact hb; cases hx) fun _ _ => rfl
            have hy2 := RepL.set (fun _ _ => Rep.len) h3 (i := i) (by rw [h1]; exact hi.1) h8
            subst hsz
            simp only [List.length_take, List.length_drop] at h6 h4
            have hc1 : c1.length = a.t.sz := h8.len
            have hset : SgR w h [.ar a.t a.n (a.l.set i y)] (putC ((cs.drop j0).take (a.n * a.t.sz)) (i * a.t.sz) c1) := by
              have := SgR.ar (w := w) (h := h) (n := a.n) (by rw [List.length_set]; exact h1) hy2 .nil
              unfold putC
              rw [hc1]
              simpa using this
            have hl0 : (putC ((cs.drop j0).take (a.n * a.t.sz)) (i * a.t.sz) c1).length = a.n * a.t.sz := by
              rw [putC_len (by simp; omega)]; simp; omega
            obtain ⟨g1, g2⟩ := repSg_rep H hset (by rw [hl0]; rfl) (arSg_drop ha) e
            have g3 : SgR w h l' (putC cs j0 (putC ((cs.drop j0).take (a.n * a.t.sz)) (i * a.t.sz) c1)) := g2
            rw [putC_in h2 (by omega), ← ec] at g3
            have e5 : List.take a.t.sz (List.drop (i * a.t.sz) (List.take (a.n * a.t.sz) (List.drop j0 cs))) = (cs.drop (j0 + i * a.t.sz)).take a.t.sz := by
              rw [List.drop_take, List.take_take, List.drop_drop]
              congr 1
              omega
            rw [e5, putC_in (by omega) (by omega)] at g3
            refine ⟨by simp only [offQ]; omega, ?_⟩
            simp only [offQ]
            have e6 : j0 + i * a.t.sz + offQ q + j = j0 + i * a.t.sz + (offQ q + j) := by omega
            rw [e6]; exact g3
          · cases e
        · cases e
      · cases e
    · cases e
theorem setQ_get {f : List (Sg V) → Option (List (Sg V))} : ∀ {q : List (Nat × Nat × Nat)} {l l' : List (Sg V)}, setQ f q l = some l' → ∃ l0, getQ l q = some l0
  | [], l, l', e => ⟨l, rfl⟩
  | (j, sz, i) :: q, l, l', e => by
    simp only [setQ] at e
    simp only [getQ]
    split at e
    · rename_i a ha
      split at e
      · rename_i hsz
        rw [if_pos hsz]
        split at e
        · rename_i e1 he1; exact setQ_get he1
        · cases e
      · cases e
    · cases e
theorem setQ_rep {f : List (Sg V) → Option (List (Sg V))} {j : Nat} {cn : List Value} (hf : ∀ l0 c0 l1, SgR w h l0 c0 → f l0 = some l1 → j + cn.length ≤ c0.length ∧ SgR w h l1 (putC c0 j cn))
    {q : List (Nat × Nat × Nat)} {l l' : List (Sg V)} {cs : List Value} (H : SgR w h l cs) (e : setQ f q l = some l') (hq : qB l q = true) : offQ q + j + cn.length ≤ cs.length ∧ SgR w h l' (putC cs (offQ q + j) cn) :=
  let ⟨l0, hg⟩ := setQ_get e
  setQ_rep2 (fun c0 l1 => hf l0 c0 l1) hg H e hq
end Go.Canon
namespace Go.Canon
set_option linter.unusedVariables false
set_option linter.unusedSimpArgs false
open Go
variable [C0 : Cmb] [CmbOk C0]
variable {G : Nat → List (Sg V)} {w w' w2 : Wd} {h h' h2 : Heap} {vh vh' vh2 : List VO}
/-- A locked object. -/
def Lk (vh : List VO) (id : Nat) : Prop := (objAt vh id).alive = true ∧ (objAt vh id).free = false
/-- What a step does: it adds, and changes objects of one's own that are not locked. -/
structure Stp2 (w : Wd) (h : Heap) (vh : List VO) (w' : Wd) (h' : Heap) (vh' : List VO) : Prop where
  hl : h.length ≤ h'.length
  ι : ∀ (id : Nat) o, w.ι[id]? = some o → w'.ι[id]? = some o
  y : w'.y = w.y
  F : ∀ b, w.F b → w'.F b
  F' : ∀ b, w'.F b → w.F b ∨ OwnU w vh b ∨ h.length ≤ b
  fr : ∀ b, b < h.length → ¬ OwnU w vh b → h'[b]? = h[b]?
  own : ∀ b, Own w' vh' b → Own w vh b ∨ h.length ≤ b
  ownU : ∀ b, OwnU w' vh' b → OwnU w vh b ∨ h.length ≤ b
  lk : ∀ id, Lk vh id → Lk vh' id
  nl : ∀ id, Lk vh' id → Lk vh id
theorem Stp2.refl : Stp2 w h vh w h vh := ⟨Nat.le_refl _, fun _ _ h => h, rfl, fun _ h => h, fun _ h => .inl h, fun _ _ _ => rfl, fun _ h => .inl h, fun _ h => .inl h, fun _ h => h, fun _ h => h⟩
theorem Stp2.trans (a : Stp2 w h vh w' h' vh') (b : Stp2 w' h' vh' w2 h2 vh2) : Stp2 w h vh w2 h2 vh2 where
  hl := Nat.le_trans a.hl b.hl
  ι := fun id o x => b.ι _ _ (a.ι _ _ x)
  y := b.y.trans a.y
  F := fun x y => b.F _ (a.F _ y)
  F' := fun x y => by
    rcases b.F' _ y with y | y | y
    · exact a.F' _ y
    · rcases a.ownU _ y with y | y
      · exact .inr (.inl y)
      · exact .inr (.inr y)
    · exact .inr (.inr (Nat.le_trans a.hl y))
  fr := fun x hx hn => by
    rw [b.fr x (Nat.lt_of_lt_of_le hx a.hl) fun hh => ?_, a.fr x hx hn]
    rcases a.ownU _ hh with hh | hh
    · exact hn hh
    · omega
  own := fun x y => by
    rcases b.own _ y with y | y
    · exact a.own _ y
    · exact .inr (Nat.le_trans a.hl y)
  ownU := fun x y => by
    rcases b.ownU _ y with y | y
    · exact a.ownU _ y
    · exact .inr (Nat.le_trans a.hl y)
  lk := fun id x => b.lk _ (a.lk _ x)
  nl := fun id x => a.nl _ (b.nl _ x)
theorem Stp2.wle (R : HR G w h vh) (S : Stp2 w h vh w' h' vh') : Wle w h w' h' :=
  ⟨S.ι, S.F, fun b hb => S.fr b (R.Fl b hb) fun hh => R.nF b hh.own hb, fun d l x => by rw [S.y]; exact x⟩
theorem OR.mono (L : Wle w h w' h') {o : VO} {p : Option Addr × Option Nat} (H : OR w h o p) (hb : ∀ b, p.1 = some ⟨b, 0, none⟩ → o.alive = true → h'[b]? = h[b]?) : OR w' h' o p := by
  cases o with
  | gone => trivial
  | row l ng lk =>
    rcases H with ⟨b, cs, gr, e1, e2, e3, e4⟩ | H
    · exact .inl ⟨b, cs, gr, e1, by rw [hb b e1 rfl]; exact e2, e3.mono L, e4⟩
    · exact .inr H
  | mp k v l lk =>
    obtain ⟨b, ms, e1, e2, e3⟩ := H
    exact ⟨b, ms, e1, by rw [hb b e1 rfl]; exact e2, e3.mono (fun _ _ ⟨cs, e, a⟩ => ⟨cs, e, L.rep a⟩) fun _ _ ⟨cs, e, a⟩ => ⟨cs, e, L.rep a⟩⟩
theorem glob_mono (L : Wle w h w' h') (hG : ∀ g, g < gN → w.F g ∧ ∃ cs wr, h[g]? = some (.row cs wr none) ∧ SgR ⟨[], w.F, []⟩ h (G g) cs) : ∀ g, g < gN → w'.F g ∧ ∃ cs wr, h'[g]? = some (.row cs wr none) ∧ SgR ⟨[], w'.F, []⟩ h' (G g) cs := by
  intro g hg
  obtain ⟨a, cs, wr, b, c⟩ := hG g hg
  exact ⟨L.F _ a, cs, wr, by rw [L.hF _ a]; exact b, SgR.mono (w := ⟨[], w.F, []⟩) (w' := ⟨[], w'.F, []⟩) ⟨fun _ _ x => x, L.F, L.hF, fun _ _ x => x⟩ c⟩
theorem objAt_app {id : Nat} {o : VO} : objAt (vh ++ [o]) id = if id < vh.length then objAt vh id else if id = vh.length then o else .gone := by
  unfold objAt
  simp only [List.getD_eq_getElem?_getD, List.getElem?_append]
  split
  · rfl
  · rename_i hh
    split
    · rename_i e; subst e; simp
    · rw [List.getElem?_eq_none (by simp; omega)]; rfl
theorem objAt_gone {id : Nat} (hid : vh.length ≤ id) : objAt vh id = .gone := by
  unfold objAt; rw [List.getD_eq_getElem?_getD, List.getElem?_eq_none hid]; rfl
theorem objAt_set {i id : Nat} {o : VO} : objAt (vh.set i o) id = if i = id ∧ i < vh.length then o else objAt vh id := by
  unfold objAt
  simp only [List.getD_eq_getElem?_getD, List.getElem?_set]
  split
  · rename_i e; subst e
    split
    · rename_i hh; rw [if_pos ⟨rfl, hh⟩]; rfl
    · rename_i hh
      rw [if_neg (by simp [hh]), List.getElem?_eq_none (by omega)]
  · rename_i hh; rw [if_neg (by simp [hh])]
theorem Lk.lt {id : Nat} (H : Lk vh id) : id < vh.length := by
  by_cases hh : id < vh.length
  · exact hh
  · have := H.1; rw [objAt_gone (by omega)] at this; cases this
theorem Lk.app {id : Nat} {o : VO} (H : Lk vh id) : Lk (vh ++ [o]) id := by
  have := H.lt
  unfold Lk
  rw [objAt_app, if_pos this]; exact H
theorem Lk.set {id i : Nat} {o : VO} (hf : (objAt vh i).free = true) (H : Lk vh id) : Lk (vh.set i o) id := by
  unfold Lk
  rw [objAt_set, if_neg]
  · exact H
  · rintro ⟨e, _⟩; subst e; have := H.2; rw [hf] at this; cases this
theorem Lk.of_app {id : Nat} {o : VO} (ho : o.free = true ∨ o = .gone) (H : Lk (vh ++ [o]) id) : Lk vh id := by
  unfold Lk at H
  rw [objAt_app] at H
  split at H
  · exact H
  · split at H
    · rcases ho with ho | ho
      · rw [ho] at H; cases H.2
      · rw [ho] at H; cases H.1
    · cases H.1
theorem Lk.of_set {id i : Nat} {o : VO} (ho : o.free = true ∨ o = .gone) (H : Lk (vh.set i o) id) : Lk vh id := by
  unfold Lk at H
  rw [objAt_set] at H
  split at H
  · rcases ho with ho | ho
    · rw [ho] at H; cases H.2
    · rw [ho] at H; cases H.1
  · exact H
/-- With one object more. -/
def Wd.add (w : Wd) (p : Option Addr × Option Nat) : Wd := { w with ι := w.ι ++ [p] }
theorem add_old {p : Option Addr × Option Nat} {id : Nat} {o} (e : w.ι[id]? = some o) : (w.add p).ι[id]? = some o := by
  show (w.ι ++ [p])[id]? = _
  rw [List.getElem?_append_left (List.getElem?_eq_some_iff.1 e).1]; exact e
theorem add_new {p : Option Addr × Option Nat} : (w.add p).ι[w.ι.length]? = some p := by simp [Wd.add]
theorem add_at {p : Option Addr × Option Nat} {id b : Nat} (e : atB (w.add p) id b) : (id < w.ι.length ∧ atB w id b) ∨ (id = w.ι.length ∧ p.1 = some ⟨b, 0, none⟩) := by
  obtain ⟨m, e⟩ := e
  have : (w.ι ++ [p])[id]? = some (some ⟨b, 0, none⟩, m) := e
  rw [List.getElem?_append] at this
  split at this
  · rename_i hh; exact .inl ⟨hh, m, this⟩
  · rename_i hh
    have hi : id = w.ι.length := by
      have := (List.getElem?_eq_some_iff.1 this).1
      simp at this; omega
    subst hi
    simp at this
    exact .inr ⟨rfl, by rw [this]⟩
/-- A new object in a new block. -/
theorem HR.new (R : HR G w h vh) {co : CO} {o : VO} {m : Option Nat} (ho : o.free = true) (H : OR (w.add (some ⟨h.length, 0, none⟩, m)) (h ++ [co]) o (some ⟨h.length, 0, none⟩, m)) :
    HR G (w.add (some ⟨h.length, 0, none⟩, m)) (h ++ [co]) (vh ++ [o]) ∧ Stp2 w h vh (w.add (some ⟨h.length, 0, none⟩, m)) (h ++ [co]) (vh ++ [o]) := by
  have hown : ∀ b, Own (w.add (some ⟨h.length, 0, none⟩, m)) (vh ++ [o]) b → Own w vh b ∨ h.length ≤ b := by
    rintro b ⟨id, e, ha⟩
    rcases add_at e with ⟨hi, e⟩ | ⟨hi, e⟩
    · rw [objAt_app, if_pos (by rw [← R.len]; exact hi)] at ha
      exact .inl ⟨id, e, ha⟩
    · cases e; exact .inr (Nat.le_refl _)
  have S : Stp2 w h vh (w.add (some ⟨h.length, 0, none⟩, m)) (h ++ [co]) (vh ++ [o]) :=
    { hl := by simp
      ι := fun id p e => add_old e
      y := rfl
      F := fun _ h => h
      F' := fun _ h => .inl h
      fr := fun b hb _ => List.getElem?_append_left hb
      own := hown
      ownU := by
        rintro b ⟨id, e, ha⟩
        rcases add_at e with ⟨hi, e⟩ | ⟨hi, e⟩
        · rw [objAt_app, if_pos (by rw [← R.len]; exact hi)] at ha
          exact .inl ⟨id, e, ha⟩
        · cases e; exact .inr (Nat.le_refl _)
      lk := fun id hh => hh.app
      nl := fun id hh => hh.of_app (.inl ho) }
  have L := S.wle R
  refine ⟨⟨by simp [Wd.add, R.len], fun id p q hp hq => ?_, fun i j b hi hj ai aj => ?_, fun b hb hF => ?_, fun b hb => ?_, fun b hF => ?_, glob_mono L R.gl⟩, S⟩
  · rw [List.getElem?_append] at hp
    split at hp
    · rename_i hid
      have hq' : w.ι[id]? = some q := by
        have hq : (w.ι ++ [(some ⟨h.length, 0, none⟩, m)])[id]? = some q := hq
        rwa [List.getElem?_append_left (by rw [R.len]; exact hid)] at hq
      refine (R.ob id p q hp hq').mono L fun b e1 ha => ?_
      have : Own w vh b := ⟨id, ⟨q.2, by rw [hq', ← e1]⟩, by unfold objAt; rw [List.getD_eq_getElem?_getD, hp]; exact ha⟩
      exact List.getElem?_append_left (R.lt b this)
    · rename_i hid
      have hi : id = vh.length := by
        have := (List.getElem?_eq_some_iff.1 hp).1
        simp at this; omega
      subst hi
      simp at hp
      subst hp
      rw [← R.len, add_new] at hq
      cases hq
      exact H
  · rcases add_at hi with ⟨h1, e1⟩ | ⟨h1, e1⟩ <;> rcases add_at hj with ⟨h2, e2⟩ | ⟨h2, e2⟩
    · rw [objAt_app, if_pos (by rw [← R.len]; exact h1)] at ai
      rw [objAt_app, if_pos (by rw [← R.len]; exact h2)] at aj
      exact R.inj i j b e1 e2 ai aj
    · cases e2
      rw [objAt_app, if_pos (by rw [← R.len]; exact h1)] at ai
      have := R.lt _ ⟨i, e1, ai⟩
      omega
    · cases e1
      rw [objAt_app, if_pos (by rw [← R.len]; exact h2)] at aj
      have := R.lt _ ⟨j, e2, aj⟩
      omega
    · rw [h1, h2]
  · rcases hown b hb with hb | hb
    · exact R.nF b hb hF
    · have := R.Fl b hF; omega
  · rcases hown b hb with hb2 | hb2
    · have := R.lt b hb2; simp; omega
    · obtain ⟨id, e, ha⟩ := hb
      rcases add_at e with ⟨hi, e⟩ | ⟨hi, e⟩
      · rw [objAt_app, if_pos (by rw [← R.len]; exact hi)] at ha
        have := R.lt b ⟨id, e, ha⟩; simp; omega
      · cases e; simp
  · have := R.Fl b hF; simp; omega
/-- A new object that lies nowhere. -/
theorem HR.new0 (R : HR G w h vh) {o : VO} {p : Option Addr × Option Nat} (hp : noRoom p.1) (H : OR w h o p) (hof : o.free = true := by rfl) : HR G (w.add p) h (vh ++ [o]) ∧ Stp2 w h vh (w.add p) h (vh ++ [o]) := by
  have hna : ∀ {id b}, atB (w.add p) id b → id < w.ι.length ∧ atB w id b := fun e => by
    rcases add_at e with e | ⟨_, e⟩
    · exact e
    · rcases hp with hp | ⟨x, hp, hs⟩
      · rw [hp] at e; cases e
      · rw [hp] at e; cases e; cases hs
  have hob : ∀ {id}, id < w.ι.length → objAt (vh ++ [o]) id = objAt vh id := fun hi => by rw [objAt_app, if_pos (by rw [← R.len]; exact hi)]
  have S : Stp2 w h vh (w.add p) h (vh ++ [o]) :=
    { hl := Nat.le_refl _
      ι := fun id p e => add_old e
      y := rfl
      F := fun _ h => h
      F' := fun _ h => .inl h
      fr := fun b hb _ => rfl
      own := fun b ⟨id, e, ha⟩ => .inl ⟨id, (hna e).2, by rw [← hob (hna e).1]; exact ha⟩
      ownU := fun b ⟨id, e, ha⟩ => .inl ⟨id, (hna e).2, by rw [← hob (hna e).1]; exact ha⟩
      lk := fun id hh => hh.app
      nl := fun id hh => hh.of_app (.inl hof) }
  have L := S.wle R
  refine ⟨⟨by simp [Wd.add, R.len], fun id x q hx hq => ?_, fun i j b hi hj ai aj => ?_, fun b ⟨id, e, ha⟩ hF => ?_, fun b ⟨id, e, ha⟩ => ?_, fun b hF => R.Fl b hF, glob_mono L R.gl⟩, S⟩
  · rw [List.getElem?_append] at hx
    split at hx
    · rename_i hid
      have hq' : w.ι[id]? = some q := by
        have hq : (w.ι ++ [p])[id]? = some q := hq
        rwa [List.getElem?_append_left (by rw [R.len]; exact hid)] at hq
      exact (R.ob id x q hx hq').mono L fun b _ _ => rfl
    · rename_i hid
      have hi : id = vh.length := by
        have := (List.getElem?_eq_some_iff.1 hx).1
        simp at this; omega
      subst hi
      simp at hx
      subst hx
      rw [← R.len, add_new] at hq
      cases hq
      exact H.mono L fun b _ _ => rfl
  · rw [hob (hna hi).1] at ai
    rw [hob (hna hj).1] at aj
    exact R.inj i j b (hna hi).2 (hna hj).2 ai aj
  · exact R.nF b ⟨id, (hna e).2, by rw [← hob (hna e).1]; exact ha⟩ hF
  · exact R.lt b ⟨id, (hna e).2, by rw [← hob (hna e).1]; exact ha⟩
/-- An object changed. -/
theorem HR.upd (R : HR G w h vh) {id b : Nat} {m : Option Nat} {co : CO} {o : VO} (hi : w.ι[id]? = some (some ⟨b, 0, none⟩, m)) (hf : (objAt vh id).free = true) (hof : o.free = true ∨ o = .gone) (H : Wle w h w (h.set b co) → OR w (h.set b co) o (some ⟨b, 0, none⟩, m)) :
    HR G w (h.set b co) (vh.set id o) ∧ Stp2 w h vh w (h.set b co) (vh.set id o) := by
  have hid : id < vh.length := by rw [← R.len]; exact (List.getElem?_eq_some_iff.1 hi).1
  have hU : OwnU w vh b := ⟨id, ⟨m, hi⟩, hf⟩
  have hal : ∀ i, (objAt (vh.set id o) i).alive = true → (objAt vh i).alive = true := fun i hh => by
    rw [objAt_set] at hh
    split at hh
    · rename_i e; rw [← e.1]; exact VO.free_alive hf
    · exact hh
  have hfr : ∀ i, (objAt (vh.set id o) i).free = true → (objAt vh i).free = true := fun i hh => by
    rw [objAt_set] at hh
    split at hh
    · rename_i e; rw [← e.1]; exact hf
    · exact hh
  have S : Stp2 w h vh w (h.set b co) (vh.set id o) :=
    { hl := by simp
      ι := fun _ _ x => x
      y := rfl
      F := fun _ x => x
      F' := fun _ x => .inl x
      fr := fun c hc hn => List.getElem?_set_ne (fun e : b = c => hn (by subst e; exact hU))
      own := fun c ⟨i, e, a⟩ => .inl ⟨i, e, hal i a⟩
      ownU := fun c ⟨i, e, a⟩ => .inl ⟨i, e, hfr i a⟩
      lk := fun i hh => hh.set hf
      nl := fun i hh => hh.of_set hof }
  have L := S.wle R
  refine ⟨⟨by simp [R.len], fun i x q hx hq => ?_, fun i j c h1 h2 a1 a2 => R.inj i j c h1 h2 (hal i a1) (hal j a2), fun c ⟨i, e, a⟩ hF => R.nF c ⟨i, e, hal i a⟩ hF, fun c ⟨i, e, a⟩ => ?_, fun c hF => ?_, glob_mono L R.gl⟩, S⟩
  · rw [List.getElem?_set] at hx
    split at hx
    · rename_i e; subst e
      cases hx
      rw [hi] at hq
      cases hq
      exact H L
    · rename_i hne
      refine (R.ob i x q hx hq).mono L fun c e1 ha => List.getElem?_set_ne fun e => hne ?_
      subst e
      have hai : (objAt vh i).alive = true := by unfold objAt; rw [List.getD_eq_getElem?_getD, hx]; exact ha
      exact R.inj id i b ⟨m, hi⟩ ⟨q.2, by rw [hq, ← e1]⟩ (VO.free_alive hf) hai
  · have := R.lt c ⟨i, e, hal i a⟩; simpa using this
  · have := R.Fl c hF; simpa using this
theorem objAt_kill : ∀ {i : List Nat} {vh : List VO} {id : Nat}, objAt (kill i vh) id = if id ∈ i then .gone else objAt vh id
  | [], vh, id => by simp [kill]
  | j :: r, vh, id => by
    rw [kill, objAt_kill, objAt_set]
    by_cases h1 : id ∈ r
    · rw [if_pos h1, if_pos (List.mem_cons_of_mem _ h1)]
    · rw [if_neg h1]
      by_cases h2 : j = id
      · subst h2
        rw [if_pos (List.mem_cons_self)]
        split
        · rfl
        · rename_i hh
          exact objAt_gone (by simp at hh; exact hh)
      · rw [if_neg (by simp [h2]), if_neg (by simp [h1]; exact fun e => h2 e.symm)]
theorem kill_len : ∀ {i : List Nat} {vh : List VO}, (kill i vh).length = vh.length
  | [], _ => rfl
  | j :: r, vh => by rw [kill, kill_len, List.length_set]
theorem freeAll_mem {i : List Nat} {id : Nat} (hf : freeAll vh i = true) (hid : id ∈ i) : (objAt vh id).free = true := List.all_eq_true.1 hf id hid
def Wd.fz (w : Wd) (i : List Nat) : Wd := { w with F := Fz w i }
/-- Objects that will not change any more. -/
theorem HR.frz (R : HR G w h vh) {i : List Nat} (hf : freeAll vh i = true) : HR G (w.fz i) h (kill i vh) ∧ Stp2 w h vh (w.fz i) h (kill i vh) := by
  have hal : ∀ j, (objAt (kill i vh) j).alive = true → j ∉ i ∧ (objAt vh j).alive = true := fun j hh => by
    rw [objAt_kill] at hh
    split at hh
    · cases hh
    · rename_i hn; exact ⟨hn, hh⟩
  have S : Stp2 w h vh (w.fz i) h (kill i vh) :=
    { hl := Nat.le_refl _
      ι := fun _ _ x => x
      y := rfl
      F := fun _ x => .inl x
      F' := by
        rintro b (x | ⟨id, hid, e⟩)
        · exact .inl x
        · exact .inr (.inl ⟨id, e, freeAll_mem hf hid⟩)
      fr := fun _ _ _ => rfl
      own := fun c ⟨j, e, a⟩ => .inl ⟨j, e, (hal j a).2⟩
      ownU := fun c ⟨j, e, a⟩ => by
        rw [objAt_kill] at a
        split at a
        · cases a
        · exact .inl ⟨j, e, a⟩
      lk := fun id hh => by
        unfold Lk
        rw [objAt_kill, if_neg (fun hm => by have := freeAll_mem hf hm; rw [hh.2] at this; cases this)]
        exact hh
      nl := fun id hh => by
        unfold Lk at hh
        rw [objAt_kill] at hh
        split at hh
        · cases hh.1
        · exact hh }
  have L := S.wle R
  refine ⟨⟨by rw [kill_len]; exact R.len, fun id x q hx hq => ?_, fun a b c h1 h2 a1 a2 => R.inj a b c h1 h2 (hal a a1).2 (hal b a2).2, fun c ⟨j, e, a⟩ hF => ?_, fun c ⟨j, e, a⟩ => R.lt c ⟨j, e, (hal j a).2⟩, fun c hF => ?_, glob_mono L R.gl⟩, S⟩
  · have hx' : objAt (kill i vh) id = x := by unfold objAt; rw [List.getD_eq_getElem?_getD, hx]; rfl
    cases hxa : x.alive with
    | false => cases x <;> first | trivial | cases hxa
    | true =>
      rw [← hx'] at hxa
      obtain ⟨hn, ha⟩ := hal id hxa
      rw [objAt_kill, if_neg hn] at hx'
      rw [objAt_kill, if_neg hn] at hxa
      have hv := objAt_some hx' (by rw [← hx']; exact hxa)
      exact (R.ob id x q hv hq).mono L fun _ _ _ => rfl
  · rcases hF with hF | ⟨id, hid, e2⟩
    · exact R.nF c ⟨j, e, (hal j a).2⟩ hF
    · have := R.inj id j c e2 e (VO.free_alive (freeAll_mem hf hid)) (hal j a).2
      subst this
      exact (hal id a).1 hid
  · rcases hF with hF | ⟨id, hid, e2⟩
    · exact R.Fl c hF
    · exact R.lt c ⟨id, e2, VO.free_alive (freeAll_mem hf hid)⟩
end Go.Canon
namespace Go.Canon
set_option linter.unusedVariables false
set_option linter.unusedSimpArgs false
open Go
variable [C0 : Cmb] [CmbOk C0]
variable {G : Nat → List (Sg V)} {w w' w2 : Wd} {h h' h2 : Heap} {vh vh' vh2 : List VO} {α : Type} {r : α}
theorem add_ad (b o n : Nat) : (⟨b, o, none⟩ : Addr).add n = ⟨b, o + n, none⟩ := by unfold Addr.add; split <;> simp_all
theorem grd_some {c : Bool} {x : Option α} (H : grd c x = some r) : c = true ∧ x = some r := by
  rw [grd_eq] at H
  cases c with
  | false => cases H
  | true => exact ⟨rfl, H⟩
theorem zok_some {z : List Value} {x : Option α} (H : zok z x = some r) : z.all flat0 = true ∧ x = some r := by
  unfold zok at H
  split at H
  · rename_i hz; exact ⟨hz, H⟩
  · cases H
theorem constC_rep (v : Value) : VR w h (constC v) v := by
  unfold constC
  split
  · rename_i hf
    split
    · exact .i _ _
    · exact .b _
    · exact .s _
    · rename_i f a c
      simp only [flat0, Bool.and_eq_true, Array.isEmpty_iff] at hf
      obtain ⟨rfl, rfl⟩ := hf
      exact .fn f [] [] #[] #[] .nil .nil
    · exact .k _ hf
  · exact .un _
theorem flat0_cell {v : Value} (hf : flat0 v = true) : isCell v = true := by cases v <;> first | rfl | (simp [flat0] at hf)
theorem consts_rep : ∀ {z : List Value}, z.all flat0 = true → SgR w h (consts z) z
  | [], _ => .nil
  | c :: z, hz => by
    simp only [List.all_cons, Bool.and_eq_true] at hz
    exact .c (constC_rep c) (flat0_cell hz.1) (consts_rep hz.2)
theorem const1_rep (v : Value) : VR w h (const1 v) v := by
  unfold const1
  split
  · rename_i cs
    split
    · rename_i hz; exact .g _ _ (consts_rep hz)
    · exact .un _
  · exact constC_rep _
theorem const1s_rep : ∀ (l : List Value), VRs w h (l.map const1) l
  | [] => .nil
  | v :: l => .cons (const1_rep v) (const1s_rep l)
theorem constV_rep (v : Value) : VR w h (constV v) v := by
  unfold constV
  split
  · exact .tup _ _ (const1s_rep _)
  · rename_i g
    split
    · rename_i hg; exact .gp g 0 hg
    · exact .un _
  · exact const1_rep _
/-- A frame. -/
def FrR (w : Wd) (h : Heap) (f : Fr) (fr : Nat → Value) : Prop := ∀ t, VR w h (lookF f t) (fr t)
theorem FrR.mono {f : Fr} {fr : Nat → Value} (L : Wle w h w' h') (H : FrR w h f fr) : FrR w' h' f fr := fun t => (H t).mono L
theorem FrR.ev {f : Fr} {fr : Nat → Value} (H : FrR w h f fr) (x : KO) : VR w h (evV f x) (x.ev fr) := by
  cases x with
  | t n => exact H n
  | c v => exact constV_rep v
theorem FrR.evs {f : Fr} {fr : Nat → Value} (H : FrR w h f fr) : ∀ (l : List KO), VRs w h (l.map (evV f)) (l.map (·.ev fr))
  | [] => .nil
  | x :: l => .cons (H.ev x) (FrR.evs H l)
theorem FrR.put {f : Fr} {fr : Nat → Value} (H : FrR w h f fr) {d : Option Nat} {v : V} {u : Value} (hv : VR w h v u) : FrR w h (putF f d v) (put fr d u) := by
  cases d with
  | none => exact H
  | some d =>
    intro t
    simp only [putF, lookF]
    by_cases e : t = d
    · subst e
      have : Nat.beq t t = true := by simp
      rw [this]
      show VR w h v (if t = t then u else fr t)
      rw [if_pos rfl]; exact hv
    · have : Nat.beq d t = false := by
        cases hb : Nat.beq d t with
        | false => rfl
        | true => exact (e (Nat.eq_of_beq_eq_true hb).symm).elim
      rw [this]
      show VR w h (lookF f t) (if t = d then u else fr t)
      rw [if_neg e]
      exact H t
/-- How an operation ends. -/
def OpO (G : Nat → List (Sg V)) (w : Wd) (h : Heap) (vh : List VO) (wr : List Nat) (kr : Option KR) (K : V → List VO → Option α) (r : α) : Prop :=
  ∃ u e v vh' w', kr = some (.val u e) ∧ K v vh' = some r ∧ HR G w' (e.on h) vh' ∧ Stp2 w h vh w' (e.on h) vh' ∧ VR w' (e.on h) v u ∧ ∀ b, b < h.length → (∀ id ∈ wr, ¬ atB w id b) → (e.on h)[b]? = h[b]?
theorem OpO.no (R : HR G w h vh) {wr : List Nat} {kr : Option KR} {K : V → List VO → Option α} {u : Value} {v : V} (hk : kr = some (.val u .no)) (hK : K v vh = some r) (hv : VR w h v u) : OpO G w h vh wr kr K r :=
  ⟨u, .no, v, vh, w, hk, hK, R, .refl, hv, fun _ _ _ => rfl⟩
theorem vInt_ok {op : BinOp} {k : IntKind} {a b : Int} {K : V → Option α} (H : vInt op k a b K = some r) : ∃ u v, kint op k a b = some u ∧ K v = some r ∧ VR w h v u := by
  cases op <;> simp only [vInt] at H <;> try (cases H; done)
  case add => exact ⟨_, _, rfl, H, .i _ _⟩
  case sub => exact ⟨_, _, rfl, H, .i _ _⟩
  case mul => exact ⟨_, _, rfl, H, .i _ _⟩
  case quo => obtain ⟨h1, H⟩ := grd_some H; exact ⟨_, _, by simp only [kint]; rw [if_neg (by simpa using h1)], H, .i _ _⟩
  case rem => obtain ⟨h1, H⟩ := grd_some H; exact ⟨_, _, by simp only [kint]; rw [if_neg (by simpa using h1)], H, .i _ _⟩
  case and => exact ⟨_, _, rfl, H, .i _ _⟩
  case or => exact ⟨_, _, rfl, H, .i _ _⟩
  case xor => exact ⟨_, _, rfl, H, .i _ _⟩
  case andNot => exact ⟨_, _, rfl, H, .i _ _⟩
  case eql => exact ⟨_, _, rfl, H, .b _⟩
  case neq => exact ⟨_, _, rfl, H, .b _⟩
  case lss => exact ⟨_, _, rfl, H, .b _⟩
  case leq => exact ⟨_, _, rfl, H, .b _⟩
  case gtr => exact ⟨_, _, rfl, H, .b _⟩
  case geq => exact ⟨_, _, rfl, H, .b _⟩
theorem vStr_ok {op : BinOp} {x y : ByteArray} {K : V → Option α} (H : vStr op x y K = some r) : ∃ u v, kstr op x y = some u ∧ K v = some r ∧ VR w h v u := by
  cases op <;> simp only [vStr] at H <;> try (cases H; done)
  case add => obtain ⟨h1, H⟩ := grd_some H; exact ⟨_, _, by simp only [kstr]; rw [if_neg (by simpa using h1)], H, .s _⟩
  all_goals exact ⟨_, _, rfl, H, .b _⟩
theorem kbin_int {op : BinOp} {k : IntKind} {a b : Int} (h1 : op ≠ .shl) (h2 : op ≠ .shr) : kbin op (.int k a) (.int k b) = kint op k a b := by cases op <;> first | (exact (h1 rfl).elim) | (exact (h2 rfl).elim) | simp [kbin]
theorem kbin_str {op : BinOp} {a b : ByteArray} : kbin op (.string a) (.string b) = kstr op a b := by cases op <;> simp [kbin]
theorem vBin_ok {op : BinOp} {x y : V} {ux uy : Value} {K : V → Option α} (hx : VR w h x ux) (hy : VR w h y uy) (H : vBin op x y K = some r) : ∃ u v, kbin op ux uy = some u ∧ K v = some r ∧ VR w h v u := by
  unfold vBin at H
  split at H
  · cases hx; cases hy
    obtain ⟨h1, H⟩ := grd_some H
    exact ⟨_, _, by simp only [kbin]; rw [if_neg (by simpa using h1)], H, .i _ _⟩
  · cases hx; cases hy
    obtain ⟨h1, H⟩ := grd_some H
    exact ⟨_, _, by simp only [kbin]; rw [if_neg (by simpa using h1)], H, .i _ _⟩
  · rename_i n1 n2
    split at H
    · rename_i e; subst e
      cases hx; cases hy
      obtain ⟨u, v, e1, e2, e3⟩ := vInt_ok (w := w) (h := h) H
      exact ⟨u, v, (kbin_int (fun e => n1 e) (fun e => n2 e)).trans e1, e2, e3⟩
    · cases H
  · rename_i n1 n2
    cases hx; cases hy
    obtain ⟨u, v, e1, e2, e3⟩ := vStr_ok (w := w) (h := h) H
    exact ⟨u, v, kbin_str.trans e1, e2, e3⟩
  · cases H
theorem rdK_ok {l : List (Sg V)} {cs : List Value} {j : Nat} {n : Option Nat} {K : V → Option α} (Hl : SgR w h l cs) (H : rdK l j n K = some r) :
    (n = none ∧ ∃ v u, K v = some r ∧ VR w h v u ∧ isCell u = true ∧ j + 1 ≤ cs.length ∧ (cs.drop j).take 1 = [u]) ∨ (∃ m p, n = some m ∧ K (.g p) = some r ∧ j + m ≤ cs.length ∧ SgR w h p ((cs.drop j).take m)) := by
  unfold rdK at H
  split at H
  · split at H
    · rename_i v hv
      obtain ⟨u, e1, e2, e3, e4⟩ := cellSg_rep Hl hv
      exact .inl ⟨rfl, v, u, H, e3, e4, e2, e1⟩
    · cases H
  · rename_i m
    split at H
    · rename_i p hp
      obtain ⟨e1, e2⟩ := partSg_rep Hl hp
      exact .inr ⟨m, p, rfl, H, e1, e2⟩
    · cases H
/-- Cells of a row, read. -/
theorem rowGet_in {b o j m : Nat} {row cs : List Value} {wr : Bool} {gr : Option Nat} {n : Nat} (hb : h[b]? = some (.row row wr gr)) (hn : o + n ≤ row.length) (hj : j + m ≤ n) : rowGet h ⟨b, o + j, none⟩ m = some ((((row.drop o).take n).drop j).take m) := by
  unfold rowGet
  simp only [hb]
  rw [if_pos ⟨trivial, by omega⟩, List.drop_take, List.take_take, List.drop_drop]
  congr 2
  omega
theorem ld_ok {x : KO} {fr : Nat → Value} {b o j n : Nat} {row : List Value} {wr : Bool} {gr : Option Nat} {l : List (Sg V)} {m : Option Nat} {K : V → Option α} (hx : x.ev fr = .pointer (some ⟨b, o + j, none⟩)) (hb : h[b]? = some (.row row wr gr)) (hn : o + n ≤ row.length)
    (Hl : SgR w h l ((row.drop o).take n)) (H : rdK l j m K = some r) : ∃ u v, kop (.ld x m) fr h = some (.val u .no) ∧ K v = some r ∧ VR w h v u := by
  have hlen : ((row.drop o).take n).length = n := by simp; omega
  rcases rdK_ok Hl H with ⟨rfl, v, u, e1, e2, e3, e4, e5⟩ | ⟨m, p, rfl, e1, e2, e3⟩
  · refine ⟨u, v, ?_, e1, e2⟩
    simp only [kop, hx, rowGet_in (cs := []) hb hn (show j + 1 ≤ n by omega), e5]
  · refine ⟨_, .g p, ?_, e1, .g _ _ (by simpa using e3)⟩
    simp only [kop, hx, rowGet_in (cs := []) hb hn (show j + m ≤ n by omega)]
/-- What a pointer of one's own leads to. -/
theorem op_row (R : HR G w h vh) {id : Nat} {q : List (Nat × Nat × Nat)} {j : Nat} {u : Value} {l : List (Sg V)} {ng lk : Bool} (hv : VR w h (.op id q j) u) (ho : objAt vh id = .row l ng lk) (hq : ∀ t, l ≠ [.ar t 0 []] ∨ ng = true ∨ True) :
    ∃ b m, u = .pointer (some ⟨b, offQ q + j, none⟩) ∧ w.ι[id]? = some (some ⟨b, 0, none⟩, m) ∧ ∃ cs gr, h[b]? = some (.row cs true gr) ∧ SgR w h l cs ∧ (ng = true → gr = none) ∧ (gr = none ∨ ∃ t n xs, l = [.ar t n xs] ∧ gr = some t.sz) ∧ ∀ n, m = some n → ∃ t xs, l = [.ar t n xs] := by
  obtain ⟨p, hp, hor⟩ := R.at ho rfl
  cases hv with
  | op _ _ _ b m hi =>
    rw [hi] at hp
    cases hp
    refine ⟨b, m, rfl, hi, ?_⟩
    rcases hor with ⟨b', cs, gr, e1, e2, e3, e4, e5, e6⟩ | ⟨t2, e1, e2, e3, e4⟩
    · cases e1; exact ⟨cs, gr, e2, e3, e4, e5, e6⟩
    · rcases e3 with e3 | ⟨x, e3, e4⟩
      · cases e3
      · cases e3; cases e4
theorem vLd_ok (R : HR G w h vh) {x : KO} {fr : Nat → Value} {p : V} {n : Option Nat} {K : V → List VO → Option α} {wr : List Nat} (hp : VR w h p (x.ev fr)) (H : vLd G vh K p n = some r) : OpO G w h vh wr (kop (.ld x n) fr h) K r := by
  unfold vLd at H
  split at H
  · rename_i t y j ng
    generalize hx : x.ev fr = u at hp
    cases hp with
    | fp _ _ _ _ b o row wr gr hF hb hg hl Hr =>
      obtain ⟨u, v, e1, e2, e3⟩ := ld_ok (K := (K · vh)) hx hb hl (segs_rep Hr) H
      exact .no R e1 e2 e3
  · rename_i t y
    split at H
    · rename_i y
      generalize hx : x.ev fr = u at hp
      cases hp with
      | np _ _ _ Hr =>
        obtain ⟨b, o, row, wr, e, hF, hb, hl, Hr⟩ := Hr
        cases e
        obtain ⟨u, v, e1, e2, e3⟩ := ld_ok (j := 0) (K := (K · vh)) hx hb hl (segs_rep Hr) H
        exact .no R e1 e2 e3
    · cases H
  · rename_i id q j
    split at H
    · rename_i l ng lk ho
      split at H
      · rename_i l' hl'
        have hq : qB l q = true ∧ rdK l' j n (K · vh) = some r := by
          unfold grdQ at H
          split at H
          · exact ⟨rfl, H⟩
          · exact grd_some H
        obtain ⟨b, m, hx, hi, cs, gr, hb, hs, _⟩ := op_row R hp ho (fun _ => .inr (.inr trivial))
        obtain ⟨n', h1, h2⟩ := getQ_rep hs hl' hq.1
        obtain ⟨u, v, e1, e2, e3⟩ := ld_ok (K := (K · vh)) hx hb h1 h2 hq.2
        exact .no R e1 e2 e3
      · cases H
    · cases H
  · rename_i g j
    generalize hx : x.ev fr = u at hp
    cases hp with
    | gp _ _ hg =>
      obtain ⟨hF, cs, wr, hb, hs⟩ := R.gl g hg
      have hs' : SgR w h (G g) ((cs.drop 0).take cs.length) := by
        rw [List.drop_zero, List.take_length]
        have L : Wle ⟨[], w.F, []⟩ h w h := ⟨fun id o e => by simp at e, fun _ x => x, fun _ _ => rfl, fun d l e => by simp at e⟩
        exact hs.mono L
      obtain ⟨u, v, e1, e2, e3⟩ := ld_ok (o := 0) (j := j) (n := cs.length) (K := (K · vh)) (by rw [hx, Nat.zero_add]) hb (by omega) hs' H
      exact .no R e1 e2 e3
  · cases H
end Go.Canon
namespace Go.Canon
set_option linter.unusedVariables false
set_option linter.unusedSimpArgs false
open Go
variable [C0 : Cmb] [CmbOk C0]
variable {G : Nat → List (Sg V)} {w w' w2 : Wd} {h h' h2 : Heap} {vh vh' vh2 : List VO} {α : Type} {r : α} {f : Fr} {fr : Nat → Value} {K : V → List VO → Option α} {wr : List Nat}
theorem Fz_nil {t : Ty} {x : El t} {cs : List Value} (H : Rep (Fz w []) h t x cs) : Rep w.F h t x cs := H.mono (fun b hb => by rcases hb with hb | ⟨x, hx, _⟩; exact hb; cases hx) fun _ _ => rfl
theorem lookS_whole {t : Ty} {l : List (Sg V)} {cs : List Value} {x : El t} {i : List Nat} (R : HA w h vh) (Hl : SgR w h l cs) (e : lookS vh t l = some (x, i, [])) : Rep (Fz w i) h t x cs ∧ Alive vh i := by
  obtain ⟨c1, c2, rfl, a1, a2, a3⟩ := lookS_rep R _ _ _ _ _ _ Hl e
  cases a2
  rw [List.append_nil]
  exact ⟨a1, a3⟩
theorem arfy_rep : ∀ {hs : List (Nat × Nat × Ty)} {l l' : List (Sg V)} {cs : List Value}, SgR w h l cs → arfy l hs = some l' → SgR w h l' cs
  | [], l, l', cs, H, e => by cases e; exact H
  | (j, n, t) :: hs, l, l', cs, H, e => by
    simp only [arfy] at e
    split at e
    · rename_i p hp
      split at e
      · rename_i x hx
        rw [Option.bind_eq_some_iff] at e
        obtain ⟨l2, e1, e2⟩ := e
        obtain ⟨h1, h2⟩ := partSg_rep H hp
        obtain ⟨h3, _⟩ := lookS_whole HA.nil h2 hx
        have h4 := Fz_nil h3
        have hlen : ((cs.drop j).take (n * t.sz)).length = n * t.sz := by simp; omega
        have h5 : SgR w h [.ar t n x] ((cs.drop j).take (n * t.sz)) := by simpa using SgR.ar (w := w) (h := h) h4.1 h4.2 .nil
        rw [← hlen] at e1
        obtain ⟨h6, h7⟩ := setSg_rep H h5 e1
        rw [hlen] at h7
        have : cs.take j ++ (cs.drop j).take (n * t.sz) ++ cs.drop (j + n * t.sz) = cs := by
          rw [List.append_assoc, ← List.drop_drop, List.take_append_drop, List.take_append_drop]
        rw [this] at h7
        exact arfy_rep h7 e2
      · cases e
    · cases e
theorem overlay_rep (Hf : FrR w h f fr) : ∀ {ps : List (Nat × Nat × KO)} {l l' : List (Sg V)} {cs : List Value}, SgR w h l cs → overlayV l (ps.map fun (o, s, x) => (o, s, evV f x)) = some l' → ∃ cs', overlay cs (ps.map fun (o, s, x) => (o, s, x.ev fr)) = some cs' ∧ SgR w h l' cs'
  | [], l, l', cs, H, e => by cases e; exact ⟨cs, rfl, H⟩
  | (o, s, x) :: ps, l, l', cs, H, e => by
    simp only [List.map_cons, overlayV] at e
    split at e
    · rename_i p hp
      split at e
      · rename_i hl
        rw [Option.bind_eq_some_iff] at e
        obtain ⟨l2, e1, e2⟩ := e
        obtain ⟨cn, h1, h2, _, _⟩ := segV_rep (Hf.ev x) hp
        have hn := lenSg_rep h2 hl
        rw [← hn] at e1
        obtain ⟨h3, h4⟩ := setSg_rep H h2 e1
        obtain ⟨cs', h5, h6⟩ := overlay_rep Hf h4 e2
        refine ⟨cs', ?_, h6⟩
        simp only [List.map_cons, overlay, h1]
        rw [if_pos ⟨hn, by omega⟩, ← hn]
        exact h5
      · cases e
    · cases e
theorem wle_add (R : HR G w h vh) {p : Option Addr × Option Nat} {co : CO} : Wle w h (w.add p) (h ++ [co]) :=
  ⟨fun id o e => add_old e, fun _ x => x, fun b hb => List.getElem?_append_left (R.Fl b hb), fun _ _ x => x⟩
theorem pre_same {co : CO} : ∀ b, b < h.length → (∀ id ∈ wr, ¬ atB w id b) → (h ++ [co])[b]? = h[b]? := fun b hb _ => List.getElem?_append_left hb
/-- A row of one's own laid. -/
theorem lay_row (R : HR G w h vh) {l : List (Sg V)} {cs : List Value} (Hl : SgR w h l cs) {kr : Option KR} (hk : kr = some (.val (ptr h.length 0) (.new (.row cs true none)))) (H : K (.op vh.length [] 0) (vh ++ [.row l true false]) = some r) : OpO G w h vh wr kr K r := by
  obtain ⟨R', S⟩ := R.new (m := none) (co := .row cs true none) (o := .row l true false) rfl (.inl ⟨h.length, cs, none, rfl, by simp, Hl.mono (wle_add R), fun _ => rfl, .inl rfl, fun n e => by cases e⟩)
  refine ⟨_, _, _, _, _, hk, H, R', S, ?_, pre_same⟩
  have := VR.op (w := w.add (some ⟨h.length, 0, none⟩, none)) (h := (Eff.new (CO.row cs true none)).on h) vh.length [] 0 h.length none (by rw [← R.len]; exact add_new)
  simpa [offQ, ptr] using this
/-- A list of one's own laid. -/
theorem lay_list (R : HR G w h vh) {t : Ty} {n : Nat} {x : List (El t)} {cs : List Value} (hx : x.length = n) (Hl : RepL (Rep w.F h t) x cs) {kr : Option KR} (hk : kr = some (.val (.slice (some ⟨h.length, 0, none⟩) n n) (.new (.row cs true none)))) (H : K (.gw vh.length) (vh ++ [.row [.ar t n x] true false]) = some r) : OpO G w h vh wr kr K r := by
  have Hs : SgR w h [.ar t n x] cs := by simpa using SgR.ar (w := w) (h := h) hx Hl .nil
  obtain ⟨R', S⟩ := R.new (m := some n) (co := .row cs true none) (o := .row [.ar t n x] true false) rfl (.inl ⟨h.length, cs, none, rfl, by simp, Hs.mono (wle_add R), fun _ => rfl, .inl rfl, fun n e => by cases e; exact ⟨_, _, rfl⟩⟩)
  exact ⟨_, _, _, _, _, hk, H, R', S, .gw _ _ _ (by rw [← R.len]; exact add_new), pre_same⟩
/-- Behind things that will not change any more. -/
theorem OpO.frz (R : HR G w h vh) {i : List Nat} (hf : freeAll vh i = true) {kr : Option KR} (H : OpO G (w.fz i) h (kill i vh) wr kr K r) : OpO G w h vh wr kr K r := by
  obtain ⟨u, e, v, vh', w', h1, h2, h3, h4, h5, h6⟩ := H
  exact ⟨u, e, v, vh', w', h1, h2, h3, (R.frz hf).2.trans h4, h5, h6⟩
theorem frzS_some {t : Ty} {l : List (Sg V)} {x : El t} (e : frzS vh t l = some (x, vh')) : ∃ i, lookS vh t l = some (x, i, []) ∧ freeAll vh i = true ∧ vh' = kill i vh := by
  unfold frzS at e
  split at e
  · split at e
    · rename_i h1 h2; cases e; exact ⟨_, h1, h2, rfl⟩
    · cases e
  · cases e
theorem frz_some {t : Ty} {v : V} {x : El t} (e : frz vh t v = some (x, vh')) : ∃ i, lookV vh t v = some (x, i) ∧ freeAll vh i = true ∧ vh' = kill i vh := by
  unfold frz at e
  split at e
  · split at e
    · rename_i h1 h2; cases e; exact ⟨_, h1, h2, rfl⟩
    · cases e
  · cases e
theorem setQ_shape {fu : List (Sg V) → Option (List (Sg V))} {q : List (Nat × Nat × Nat)} (hq : q ≠ []) {t : Ty} {n : Nat} {xs : List (El t)} {l' : List (Sg V)} (e : setQ fu q [.ar t n xs] = some l') : ∃ xs', l' = [.ar t n xs'] := by
  cases q with
  | nil => exact (hq rfl).elim
  | cons x q =>
    obtain ⟨j, sz, i⟩ := x
    simp only [setQ] at e
    cases j with
    | zero =>
      simp only [arSg, dropSg] at e
      split at e
      · split at e
        · split at e
          · simp only [repSg] at e; cases e; exact ⟨_, rfl⟩
          · cases e
        · cases e
      · cases e
    | succ j =>
      exfalso
      have : arSg [Sg.ar t n xs] (j + 1) = none := by
        unfold arSg
        simp only [dropSg]
        cases Nat.ble (Sg.len (.ar t n xs)) (j + 1) with
        | false => rfl
        | true =>
          cases hh : j + 1 - Sg.len (.ar t n xs) with
          | zero => simp [dropSg]
          | succ k => simp [dropSg]
      rw [this] at e
      cases e
theorem shape_ok {q : List (Nat × Nat × Nat)} {fu : List (Sg V) → Option (List (Sg V))} {l l' : List (Sg V)} (e : setQ fu q l = some l') (hs : shOk q l l' = true) {t : Ty} {n : Nat} {xs : List (El t)} (hl : l = [.ar t n xs]) : ∃ xs', l' = [.ar t n xs'] := by
  subst hl
  cases q with
  | cons x q => exact setQ_shape (by simp) e
  | nil =>
    unfold shOk at hs
    dsimp only at hs
    split at hs
    · rename_i t' n' xs'
      simp only [Bool.and_eq_true, decide_eq_true_eq] at hs
      obtain ⟨rfl, hn⟩ := hs
      have := Nat.eq_of_beq_eq_true hn
      subst this
      exact ⟨_, rfl⟩
    · cases hs
theorem qgrd {l : List (Sg V)} {q : List (Nat × Nat × Nat)} {x : Option α} (H : grdQ l q x = some r) : qB l q = true ∧ x = some r := by
  unfold grdQ at H
  split at H
  · exact ⟨rfl, H⟩
  · exact grd_some H
theorem vSt_ok (R : HR G w h vh) {x v : KO} {n : Nat} {p u : V} (hp : VR w h p (x.ev fr)) (hv : VR w h u (v.ev fr)) (H : vSt vh K p u n = some r) : OpO G w h vh (idV p) (kop (.st x v n) fr h) K r := by
  unfold vSt at H
  split at H
  · rename_i id q j new hnew
    split at H
    · rename_i hlen
      split at H
      · rename_i l ng lk vh' ho hset
        obtain ⟨hq, H⟩ := qgrd H
        unfold setObj at hset
        rw [ho] at hset
        split at hset
        · rename_i l0 ng0 eo
          cases eo
          split at hset
          · rename_i l' hl'
            split at hset
            · rename_i hsh
              cases hset
              obtain ⟨cn, h1, h2, _, _⟩ := segV_rep hv hnew
              have hn := lenSg_rep h2 hlen
              obtain ⟨b, m, hx, hi, cs, gr, hb, hs, g1, g2, g3⟩ := op_row R hp ho (fun _ => .inr (.inr trivial))
              obtain ⟨h3, h4⟩ := setQ_rep (cn := cn) (fun l0 c0 l1 H0 e0 => setSg_rep H0 h2 (hn ▸ e0)) hs hl' hq
              have hrs : rowSet h ⟨b, offQ q + j, none⟩ cn = some (.row (putC cs (offQ q + j) cn) true gr) := by
                unfold rowSet
                simp only [hb]
                rw [if_pos ⟨trivial, h3, h2.cells⟩]; rfl
              have hbl : b < h.length := (List.getElem?_eq_some_iff.1 hb).1
              obtain ⟨R', S⟩ := R.upd (co := .row (putC cs (offQ q + j) cn) true gr) (o := .row l' ng false) hi (by rw [ho]; rfl) (.inl rfl) (fun L => .inl ⟨b, _, gr, rfl, by rw [List.getElem?_set_self hbl], h4.mono L, g1, g2.imp (fun x => x) (fun ⟨t, n, xs, e, eg⟩ => by
                  obtain ⟨xs', e'⟩ := shape_ok hl' hsh e
                  exact ⟨t, n, xs', e', eg⟩), fun n e => by
                  obtain ⟨t, xs, e⟩ := g3 n e
                  obtain ⟨xs', e'⟩ := shape_ok hl' hsh e
                  exact ⟨t, xs', e'⟩⟩)
              refine ⟨undef, .upd b (.row (putC cs (offQ q + j) cn) true gr), .tup [], _, w, ?_, H, R', S, .tup _ _ .nil, fun c hc hh => ?_⟩
              · simp only [kop, hx, h1]
                rw [if_pos hn]
                simp only [hrs]
              · exact List.getElem?_set_ne fun e : b = c => hh id (by simp [idV]) (by subst e; exact ⟨m, hi⟩)
            · cases hset
          · cases hset
        · cases hset
      · cases H
    · cases H
  · cases H
end Go.Canon
namespace Go.Canon
set_option linter.unusedVariables false
set_option linter.unusedSimpArgs false
open Go
variable [C0 : Cmb] [CmbOk C0]
variable {G : Nat → List (Sg V)} {w w' w2 : Wd} {h h' h2 : Heap} {vh vh' vh2 : List VO} {α : Type} {r : α} {f : Fr} {fr : Nat → Value} {K : V → List VO → Option α} {wr : List Nat}
theorem inB_iff {z : Int} {n : Nat} (H : inB z n = true) : 0 ≤ z ∧ z < n := by simpa [inB] using H
theorem offQ_app : ∀ {q : List (Nat × Nat × Nat)} {j sz i : Nat}, offQ (q ++ [(j, sz, i)]) = offQ q + j + i * sz
  | [], j, sz, i => by simp [offQ]
  | (a, b, c) :: q, j, sz, i => by simp only [List.cons_append, offQ, offQ_app]; omega
theorem getD_toNat {β : Type} {l : List β} {z : Int} (h0 : 0 ≤ z) (h1 : z < l.length) : z.toNat < l.length := by omega
/-- An element of a list that does not change. -/
theorem sl_elem {t : Ty} {l : List (El t)} {u : Value} (hv : VR w h (.sl t l) u) {i : Nat} (hi : i < l.length) :
    ∃ b o c, u = .slice (some ⟨b, o, none⟩) l.length c ∧ VR w h (.fp t (l.getD i (dfl t)) 0 false) (.pointer (some ⟨b, o + i * t.sz, none⟩)) := by
  cases hv with
  | sl _ _ _ H =>
    rcases H with ⟨e, _⟩ | ⟨b, o, c, row, wr, gr, e, h1, h2, h3, h4, h5⟩
    · subst e; simp at hi
    · cases e
      rcases h5 with e | ⟨h5, h6⟩
      · subst e; simp at hi
      · obtain ⟨h7, h8⟩ := h6.at (fun _ _ => Rep.len) (dfl t) hi
        rw [List.length_take, List.length_drop] at h7
        refine ⟨b, o, c, rfl, ?_⟩
        have := VR.fp (w := w) t (l.getD i (dfl t)) 0 false b (o + i * t.sz) row wr gr h2 h3 (fun e => by cases e) (by omega) (by
          rw [List.drop_take, List.take_take, List.drop_drop] at h8
          have e : min t.sz (l.length * t.sz - i * t.sz) = t.sz := by omega
          rw [e] at h8; exact h8)
        simpa using this
theorem vIaS_ok (R : HR G w h vh) {x i : KO} {sz : Nat} {vx vi : V} (hx : VR w h vx (x.ev fr)) (hi : VR w h vi (i.ev fr)) (H : vIaS vh K vx vi sz = some r) : OpO G w h vh wr (kop (.iaS x i sz) fr h) K r := by
  unfold vIaS at H
  split at H
  · rename_i t l k z
    split at H
    · rename_i hs; subst hs
      obtain ⟨hb, H⟩ := grd_some H
      obtain ⟨h0, h1⟩ := inB_iff hb
      generalize hxx : x.ev fr = ux at hx
      generalize hii : i.ev fr = ui at hi
      cases hi
      obtain ⟨b, o, c, rfl, hv⟩ := sl_elem hx (getD_toNat h0 h1)
      refine .no R ?_ H hv
      simp only [kop, hxx, hii, add_ad]
      rw [if_pos ⟨h0, h1⟩]
    · cases H
  · rename_i id k z
    split at H
    · rename_i t n l ng lk ho
      split at H
      · rename_i hs; subst hs
        obtain ⟨hb, H⟩ := grd_some H
        obtain ⟨h0, h1⟩ := inB_iff hb
        generalize hxx : x.ev fr = ux at hx
        generalize hii : i.ev fr = ui at hi
        cases hi
        obtain ⟨a, rfl, hln, hi, ⟨b, cs, gr, rfl, e2, e3, e4, _⟩ | ⟨rfl, rfl, e3, _⟩⟩ := gw_rep R.ha hx ho
        · refine .no R (u := .pointer (some ⟨b, 0 + z.toNat * t.sz, none⟩)) ?_ H ?_
          · simp only [kop, hxx, hii, add_ad]
            rw [if_pos ⟨h0, h1⟩]
          · have := VR.op (w := w) (h := h) id [(0, t.sz, z.toNat)] 0 b _ hi
            simpa [offQ] using this
        · omega
      · cases H
    · cases H
  · rename_i id q j sz' o n c k z
    split at H
    · rename_i hs; subst hs
      obtain ⟨hb, H⟩ := grd_some H
      obtain ⟨h0, h1⟩ := inB_iff hb
      generalize hxx : x.ev fr = ux at hx
      generalize hii : i.ev fr = ui at hi
      cases hi
      cases hx with
      | gl0 => omega
      | gl _ _ _ _ _ _ _ b m hi hnc =>
        refine .no R (u := .pointer (some ⟨b, offQ q + j + o * sz' + z.toNat * sz', none⟩)) ?_ H ?_
        · simp only [kop, hxx, hii, add_ad]
          rw [if_pos ⟨h0, h1⟩]
        · have := VR.op (w := w) (h := h) id (q ++ [(j, sz', o + z.toNat)]) 0 b _ hi
          rw [offQ_app] at this
          have e : offQ q + j + (o + z.toNat) * sz' + 0 = offQ q + j + o * sz' + z.toNat * sz' := by rw [Nat.add_mul]; omega
          rw [e] at this
          exact this
    · cases H
  · cases H
theorem fp_arr {t : Ty} {x : El t} {j : Nat} {ng : Bool} {u : Value} (hv : VR w h (.fp t x j ng) u) {a : Arr} (ha : arSg (segs t x) j = some a) :
    ∃ b o row wr gr, u = .pointer (some ⟨b, o, none⟩) ∧ w.F b ∧ h[b]? = some (.row row wr gr) ∧ (ng = true → gr = none) ∧ a.l.length = a.n ∧ o + a.n * a.t.sz ≤ row.length ∧ RepL (Rep w.F h a.t) a.l ((row.drop o).take (a.n * a.t.sz)) := by
  cases hv with
  | fp _ _ _ _ b o row wr gr hF hb hg hl H =>
    obtain ⟨h1, h2, h3⟩ := arSg_rep (segs_rep H) ha
    rw [List.length_take, List.length_drop] at h2
    refine ⟨b, o + j, row, wr, gr, rfl, hF, hb, hg, h1, by omega, ?_⟩
    rw [List.drop_take, List.take_take, List.drop_drop] at h3
    have e : min (a.n * a.t.sz) (t.sz - j) = a.n * a.t.sz := by omega
    rw [e] at h3; exact h3
theorem np_fp {t : Ty} {x : El t} {u : Value} (hv : VR w h (.np t (some x)) u) : VR w h (.fp t x 0 true) u := by
  cases hv with
  | np _ _ _ H =>
    obtain ⟨b, o, row, wr, e, hF, hb, hl, Hr⟩ := H
    cases e
    have := VR.fp (w := w) t x 0 true b o row wr none hF hb (fun _ => rfl) hl Hr
    simpa using this
theorem fp_iaA (R : HR G w h vh) {x i : KO} {len sz : Nat} {t : Ty} {y : El t} {j : Nat} {ng : Bool} {k : IntKind} {z : Int} {a : Arr} (hx : VR w h (.fp t y j ng) (x.ev fr)) (hi : VR w h (.i k z) (i.ev fr)) (ha : arSg (segs t y) j = some a) (hn : a.n = len ∧ a.t.sz = sz) (hb : inB z len = true)
    (H : K (.fp a.t (a.l.getD z.toNat (dfl a.t)) 0 ng) vh = some r) : OpO G w h vh wr (kop (.iaA x i len sz) fr h) K r := by
  obtain ⟨rfl, rfl⟩ := hn
  obtain ⟨h0, h1⟩ := inB_iff hb
  generalize hxx : x.ev fr = ux at hx
  generalize hii : i.ev fr = ui at hi
  cases hi
  obtain ⟨b, o, row, wr, gr, rfl, hF, hb, hg, g1, g2, g3⟩ := fp_arr hx ha
  obtain ⟨h7, h8⟩ := g3.at (fun _ _ => Rep.len) (dfl a.t) (i := z.toNat) (by omega)
  rw [List.length_take, List.length_drop] at h7
  refine .no R (u := .pointer (some ⟨b, o + z.toNat * a.t.sz, none⟩)) ?_ H ?_
  · simp only [kop, hxx, hii, add_ad]
    rw [if_pos ⟨h0, h1⟩]
  · have := VR.fp (w := w) a.t (a.l.getD z.toNat (dfl a.t)) 0 ng b (o + z.toNat * a.t.sz) row wr gr hF hb hg (by omega) (by
      rw [List.drop_take, List.take_take, List.drop_drop] at h8
      have e : min a.t.sz (a.n * a.t.sz - z.toNat * a.t.sz) = a.t.sz := by omega
      rw [e] at h8; exact h8)
    simpa using this
theorem vIaA_ok (R : HR G w h vh) {x i : KO} {len sz : Nat} {vx vi : V} (hx : VR w h vx (x.ev fr)) (hi : VR w h vi (i.ev fr)) (H : vIaA vh K vx vi len sz = some r) : OpO G w h vh wr (kop (.iaA x i len sz) fr h) K r := by
  unfold vIaA at H
  split at H
  · split at H
    · split at H
      · obtain ⟨hb, H⟩ := grd_some H
        exact fp_iaA R hx hi (by assumption) (by assumption) hb H
      · cases H
    · cases H
  · split at H
    · split at H
      · split at H
        · obtain ⟨hb, H⟩ := grd_some H
          exact fp_iaA R (np_fp hx) hi (by assumption) (by assumption) hb H
        · cases H
      · cases H
    · cases H
  · rename_i id q j k z
    split at H
    · rename_i a ha
      split at H
      · rename_i hn
        obtain ⟨rfl, rfl⟩ := hn
        obtain ⟨hb, H⟩ := grd_some H
        obtain ⟨h0, h1⟩ := inB_iff hb
        generalize hxx : x.ev fr = ux at hx
        generalize hii : i.ev fr = ui at hi
        cases hi
        cases hx with
        | op _ _ _ b m hi =>
          refine .no R (u := .pointer (some ⟨b, offQ q + j + z.toNat * a.t.sz, none⟩)) ?_ H ?_
          · simp only [kop, hxx, hii, add_ad]
            rw [if_pos ⟨h0, h1⟩]
          · have := VR.op (w := w) (h := h) id (q ++ [(j, a.t.sz, z.toNat)]) 0 b _ hi
            rw [offQ_app] at this
            exact this
      · cases H
    · cases H
  · rename_i g j k z
    obtain ⟨hb, H⟩ := grd_some H
    obtain ⟨h0, h1⟩ := inB_iff hb
    generalize hxx : x.ev fr = ux at hx
    generalize hii : i.ev fr = ui at hi
    cases hi
    cases hx with
    | gp _ _ hg =>
      refine .no R (u := .pointer (some ⟨g, j + z.toNat * sz, none⟩)) ?_ H ?_
      · simp only [kop, hxx, hii, add_ad]
        rw [if_pos ⟨h0, h1⟩]
      · exact VR.gp g (j + z.toNat * sz) hg
  · cases H
theorem partOf_ok {l : List (Sg V)} {cs : Array Value} {off : Nat} {n : Option Nat} {K : V → Option α} (Hl : SgR w h l cs.toList) (H : rdK l off n K = some r) : ∃ u v, partOf cs off n = some u ∧ K v = some r ∧ VR w h v u := by
  rcases rdK_ok Hl H with ⟨rfl, v, u, e1, e2, e3, e4, e5⟩ | ⟨m, p, rfl, e1, e2, e3⟩
  · refine ⟨u, v, ?_, e1, e2⟩
    have hlt : off < cs.toList.length := by omega
    rw [List.drop_eq_getElem_cons hlt] at e5
    simp at e5
    simp only [partOf]
    rw [Array.getElem?_eq_getElem (by simpa using hlt), e5]
  · refine ⟨.agg (cs.extract off (off + m)), .g p, ?_, e1, .g _ _ ?_⟩
    · simp only [partOf]
      rw [if_pos (by simpa using e2)]
    · have : (cs.extract off (off + m)).toList = (cs.toList.drop off).take m := by
        rw [Array.toList_extract, List.extract_eq_take_drop]
        congr 1; omega
      rw [this]; exact e3
theorem vIxA_ok (R : HR G w h vh) {x i : KO} {len sz : Nat} {n : Option Nat} {vx vi : V} (hx : VR w h vx (x.ev fr)) (hi : VR w h vi (i.ev fr)) (H : vIxA vh K vx vi len sz n = some r) : OpO G w h vh wr (kop (.ixA x i len sz n) fr h) K r := by
  unfold vIxA at H
  split at H
  · rename_i l k z
    generalize hxx : x.ev fr = ux at hx
    generalize hii : i.ev fr = ui at hi
    cases hi
    cases hx with
    | g _ cs Hs =>
      split at H
      · rename_i a ha
        split at H
        · rename_i hn
          obtain ⟨rfl, rfl⟩ := hn
          obtain ⟨hb, H⟩ := grd_some H
          obtain ⟨h0, h1⟩ := inB_iff hb
          obtain ⟨g1, g2, g3⟩ := arSg_rep Hs ha
          obtain ⟨h7, h8⟩ := g3.at (fun _ _ => Rep.len) (dfl a.t) (i := z.toNat) (by omega)
          simp only [Nat.zero_add, List.drop_zero, List.length_take, Array.length_toList] at g2 h7 h8
          have Hs2 := segs_rep (w := w) h8
          rw [List.drop_take, List.take_take] at Hs2
          have e : min a.t.sz (a.n * a.t.sz - z.toNat * a.t.sz) = a.t.sz := by omega
          rw [e] at Hs2
          have e2 : (cs.toList.drop (z.toNat * a.t.sz)).take a.t.sz = (cs.extract (z.toNat * a.t.sz) (z.toNat * a.t.sz + a.t.sz)).toList := by
            rw [Array.toList_extract, List.extract_eq_take_drop]; congr 1; omega
          rcases rdK_ok Hs2 H with ⟨rfl, v, u, q1, q2, q3, q4, q5⟩ | ⟨m, p, rfl, q1, q2, q3⟩
          · refine .no R ?_ q1 q2
            simp only [kop, hxx, hii]
            rw [if_pos ⟨h0, h1⟩]
            simp only [List.length_take, List.length_drop, Array.length_toList, Nat.zero_add] at q4
            rw [List.drop_zero, List.take_take] at q5
            have e3 : min 1 a.t.sz = 1 := by omega
            rw [e3] at q5
            have hlt : z.toNat * a.t.sz < cs.toList.length := by rw [Array.length_toList]; omega
            rw [List.drop_eq_getElem_cons hlt] at q5
            simp at q5
            simp only [partOf]
            rw [Array.getElem?_eq_getElem (by simpa using hlt), q5]; rfl
          · simp only [List.length_take, List.length_drop, Array.length_toList, Nat.zero_add] at q2
            refine .no R (u := .agg (cs.extract (z.toNat * a.t.sz) (z.toNat * a.t.sz + m))) ?_ q1 (.g _ _ ?_)
            · simp only [kop, hxx, hii]
              rw [if_pos ⟨h0, h1⟩]
              simp only [partOf]
              rw [if_pos (by omega)]; rfl
            · have : (cs.extract (z.toNat * a.t.sz) (z.toNat * a.t.sz + m)).toList = (cs.toList.drop (z.toNat * a.t.sz)).take m := by
                rw [Array.toList_extract, List.extract_eq_take_drop]; congr 1; omega
              rw [this]
              rw [List.drop_zero, List.take_take] at q3
              have e3 : min m a.t.sz = m := by omega
              rw [e3] at q3
              exact q3
        · cases H
      · obtain ⟨hb, H⟩ := grd_some H
        obtain ⟨h0, h1⟩ := inB_iff hb
        obtain ⟨u, v, e1, e2, e3⟩ := partOf_ok Hs H
        refine .no R ?_ e2 e3
        simp only [kop, hxx, hii]
        rw [if_pos ⟨h0, h1⟩, e1]; rfl
  · cases H
end Go.Canon
namespace Go.Canon
set_option linter.unusedVariables false
set_option linter.unusedSimpArgs false
open Go
variable [C0 : Cmb] [CmbOk C0]
variable {G : Nat → List (Sg V)} {w w' w2 : Wd} {h h' h2 : Heap} {vh vh' vh2 : List VO} {α : Type} {r : α} {f : Fr} {fr : Nat → Value} {K : V → List VO → Option α} {wr : List Nat}
theorem vBnd_ok (Hf : FrR w h f fr) {o : Option KO} {d m : Nat} {Q : Nat → Option α} (H : vBnd (o.map (evV f)) d m Q = some r) : ∃ k, Q k = some r ∧ (∀ y, m ≤ y → bnd? (o.map (·.ev fr)) y d = some k) ∧ ((o = none ∧ k = d) ∨ (o.isSome = true ∧ k ≤ m ∧ bnd? (o.map (·.ev fr)) m d = some k)) := by
  cases o with
  | none => exact ⟨d, H, fun _ _ => rfl, .inl ⟨rfl, rfl⟩⟩
  | some x =>
    have hx := Hf.ev x
    simp only [Option.map_some] at H
    generalize evV f x = vx at hx H
    simp only [vBnd] at H
    split at H
    · rename_i e; cases e
    · rename_i k z e
      cases e
      generalize hu : x.ev fr = u at hx
      cases hx
      obtain ⟨h1, h2⟩ := grd_some H
      simp only [Bool.and_eq_true, decide_eq_true_eq] at h1
      have hb : ∀ y : Nat, m ≤ y → bnd? (Option.map (·.ev fr) (some x)) y d = some z.toNat := fun y hy => by
        simp only [Option.map_some, bnd?, hu, bnd]
        rw [if_pos ⟨h1.1, by omega⟩]
      exact ⟨z.toNat, h2, hb, .inr ⟨rfl, by omega, hb m (Nat.le_refl _)⟩⟩
    · cases H
theorem bnds_none {len cap : Nat} {lo hi : Option Value} {a b : Nat} (h1 : bnd? hi cap len = some b) (h2 : bnd? lo b 0 = some a) : bnds len cap lo hi none = some (a, b, cap) := by
  simp only [bnds, bnd?]
  simp only [bnd?] at h1 h2
  cases hi <;> simp_all [bnd?]
theorem kslS {x : KO} {lo hi : Option KO} {sz : Nat} {ad : Option Addr} {n c a b : Nat} (hx : x.ev fr = .slice ad n c) (hg : grOk h ad sz = true) (h1 : bnd? (hi.map (·.ev fr)) c n = some b) (h2 : bnd? (lo.map (·.ev fr)) b 0 = some a) :
    kop (.slS x lo hi none sz) fr h = some (.val (.slice (if c = a then ad else ad.map (·.add (a * sz))) (b - a) (c - a)) .no) := by
  simp only [kop, hx, hg, if_true, Option.map_none, bnds_none h1 h2, Option.isSome_none, Bool.false_eq_true, if_false]
theorem cutL_eq {β : Type} {l : List β} {lo hi : Option V} {a b : Nat} (h1 : lo = none → a = 0) (h2 : hi = none → b = l.length) : cutL l lo hi a b = (l.take b).drop a := by
  cases lo <;> cases hi <;> simp_all [cutL]
theorem cut_len {β : Type} {l : List β} {a b : Nat} (hb : b ≤ l.length) : ((l.take b).drop a).length = b - a := by simp; omega
theorem cut_dt {β : Type} {l : List β} {a b : Nat} : (l.take b).drop a = (l.drop a).take (b - a) := by rw [List.drop_take]
theorem grOk_row {b o : Nat} {row : List Value} {wr : Bool} {gr : Option Nat} {sz : Nat} (hb : h[b]? = some (.row row wr gr)) (hg : gr = none ∨ gr = some sz) : grOk h (some ⟨b, o, none⟩) sz = true := by
  simp only [grOk, hb, Option.isSome_none, Bool.false_eq_true, if_false]
  rcases hg with rfl | rfl <;> simp
theorem grOk_no {ad : Option Addr} {sz : Nat} (hn : noRoom ad) : grOk h ad sz = true := by
  rcases hn with rfl | ⟨x, rfl, hs⟩
  · rfl
  · simp [grOk, hs]
theorem sl_grOk {t : Ty} {l : List (El t)} {u : Value} (hv : VR w h (.sl t l) u) : ∃ ad c, u = .slice ad l.length c ∧ l.length ≤ c ∧ grOk h ad t.sz = true := by
  cases hv with
  | sl _ _ _ H =>
    rcases H with ⟨e, a, e2, hn⟩ | ⟨b, o, c, row, wr, gr, e, h1, h2, h3, h4, h5⟩
    · cases e2; subst e; exact ⟨a, 0, rfl, Nat.le_refl _, grOk_no hn⟩
    · cases e; exact ⟨_, c, rfl, h1, grOk_row h3 h4⟩
/-- A part of a list that does not change. -/
theorem sl_cut {t : Ty} {l : List (El t)} {ad : Option Addr} {c a b : Nat} (hv : VR w h (.sl t l) (.slice ad l.length c)) (ha : a ≤ b) (hb : b ≤ l.length) : VR w h (.sl t ((l.take b).drop a)) (.slice (if c = a then ad else ad.map (·.add (a * t.sz))) (b - a) (c - a)) := by
  have hlen : ((l.take b).drop a).length = b - a := cut_len hb
  cases hv with
  | sl _ _ _ H =>
    refine .sl _ _ _ ?_
    rcases H with ⟨e, x, e2, hn⟩ | ⟨b0, o, c0, row, wr, gr, e, h1, h2, h3, h4, h5⟩
    · simp only [List.cons.injEq, Value.slice.injEq, and_true] at e2
      obtain ⟨rfl, _, rfl⟩ := e2
      subst e
      have : a = 0 := by simp at hb; omega
      subst this
      have hb0 : b = 0 := by simpa using hb
      subst hb0
      exact .inl ⟨by simp, ad, by simp, hn⟩
    · cases e
      by_cases hc : c = a
      · rw [if_pos hc]
        subst hc
        have hba : b - c = 0 := by omega
        refine .inr ⟨b0, o, c - c, row, wr, gr, by rw [hlen], by rw [hlen]; omega, h2, h3, h4, .inl (by apply List.eq_nil_of_length_eq_zero; omega)⟩
      · rw [if_neg hc]
        simp only [Option.map_some, add_ad]
        refine .inr ⟨b0, o + a * t.sz, c - a, row, wr, gr, by rw [hlen], by rw [hlen]; omega, h2, h3, h4, ?_⟩
        rcases h5 with e | ⟨h5, h6⟩
        · exact .inl (by subst e; simp)
        · have hm : a * t.sz + (b - a) * t.sz ≤ l.length * t.sz := by rw [← Nat.add_mul]; exact Nat.mul_le_mul_right _ (by omega)
          refine .inr ⟨by rw [hlen]; omega, ?_⟩
          have := drop_take_rep (fun _ _ => Rep.len) h6 a (b - a)
          rw [cut_dt]
          rw [List.drop_take, List.take_take, List.drop_drop] at this
          have hl2 : ((l.drop a).take (b - a)).length = b - a := by simp; omega
          rw [hl2]
          have e3 : min ((b - a) * t.sz) (l.length * t.sz - a * t.sz) = (b - a) * t.sz := by omega
          rw [e3] at this
          exact this
theorem own_gr (R : HR G w h vh) {id : Nat} {l : List (Sg V)} {ng lk : Bool} {sz b : Nat} {m : Option Nat} (ho : objAt vh id = .row l ng lk) (hs : okSz l sz = true) (hi : w.ι[id]? = some (some ⟨b, 0, none⟩, m)) : ∀ o, grOk h (some ⟨b, o, none⟩) sz = true := by
  intro o
  obtain ⟨p, hp, hor⟩ := R.at ho rfl
  rw [hi] at hp
  cases hp
  rcases hor with ⟨b', cs, gr, e1, e2, e3, e4, e5, e6⟩ | ⟨t2, e1, e2, e3, e4⟩
  · cases e1
    refine grOk_row e2 (e5.imp (fun x => x) ?_)
    rintro ⟨t, n, xs, e, eg⟩
    subst e
    rw [eg]
    congr 1
    exact Nat.eq_of_beq_eq_true hs
  · rcases e3 with e3 | ⟨x, e3, e4⟩
    · cases e3
    · cases e3; cases e4
theorem zeroI_ev (Hf : FrR w h f fr) {o : Option KO} (H : zeroI (o.map (evV f)) = true) : ∃ k, o.map (·.ev fr) = some (.int k 0) := by
  cases o with
  | none => cases H
  | some x =>
    have hx := Hf.ev x
    simp only [Option.map_some] at H ⊢
    generalize evV f x = vx at hx H
    unfold zeroI at H
    split at H
    · rename_i k e
      cases e
      generalize x.ev fr = u at hx ⊢
      cases hx
      exact ⟨_, rfl⟩
    · cases H
theorem kslE (Hf : FrR w h f fr) {x : KO} {lo hi mx : Option KO} {sz : Nat} {ad : Option Addr} {n c : Nat} (hx : x.ev fr = .slice ad n c) (hg : grOk h ad sz = true) (h1 : zeroI (lo.map (evV f)) = true) (h2 : zeroI (hi.map (evV f)) = true) (h3 : zeroI (mx.map (evV f)) = true) :
    kop (.slS x lo hi mx sz) fr h = some (.val (.slice (ad.map bare) 0 0) .no) := by
  obtain ⟨k1, e1⟩ := zeroI_ev Hf h1
  obtain ⟨k2, e2⟩ := zeroI_ev Hf h2
  obtain ⟨k3, e3⟩ := zeroI_ev Hf h3
  have hm : mx.isSome = true := by cases mx with
    | none => cases e3
    | some _ => rfl
  have hb : bnds n c (some (.int k1 0)) (some (.int k2 0)) (some (.int k3 0)) = some (0, 0, 0) := by
    simp [bnds, bnd?, bnd]
  simp only [kop, hx, hg, if_true, e1, e2, e3, hb, hm, Option.isSome_some, Nat.sub_self]
theorem bare_no {ad : Option Addr} : noRoom (ad.map bare) := by
  cases ad with
  | none => exact .inl rfl
  | some a => exact .inr ⟨bare a, rfl, rfl⟩
theorem beq_c {β : Type} {a b : Nat} {c d : β} : (bif Nat.beq a b then c else d) = if a = b then c else d := by
  by_cases e : a = b
  · subst e; simp
  · have : Nat.beq a b = false := by
      cases hb : Nat.beq a b with
      | false => rfl
      | true => exact (e (Nat.eq_of_beq_eq_true hb)).elim
    rw [this, if_neg e]; rfl
theorem vSlS_ok (R : HR G w h vh) (Hf : FrR w h f fr) {x : KO} {lo hi mx : Option KO} {sz : Nat} (H : vSlS vh K (evV f x) (lo.map (evV f)) (hi.map (evV f)) (mx.map (evV f)) sz = some r) : OpO G w h vh wr (kop (.slS x lo hi mx sz) fr h) K r := by
  have hx := Hf.ev x
  unfold vSlS at H
  split at H
  · split at H
    · rename_i hz
      simp only [Bool.and_eq_true] at hz
      obtain ⟨⟨z1, z2⟩, z3⟩ := hz
      split at H
      · rename_i t l e
        split at H
        · rename_i hs; subst hs
          rw [e] at hx
          obtain ⟨ad, c, hu, hc, hg⟩ := sl_grOk hx
          exact .no R (kslE Hf hu hg z1 z2 z3) H (.e0 _ bare_no)
        · cases H
      · rename_i id e
        split at H
        · rename_i l ng lk ho
          split at H
          · rename_i hs
            rw [e] at hx
            generalize hu : x.ev fr = u at hx
            cases hx with
            | gw _ a n hi =>
              obtain ⟨p, hp, hor⟩ := R.at ho rfl
              rw [hi] at hp
              cases hp
              have hg : grOk h a sz = true := by
                rcases hor with ⟨b', cs, gr, e1, _⟩ | ⟨t2, e1, e2, e3, e4⟩
                · cases e1; exact own_gr R ho hs hi 0
                · exact grOk_no e3
              exact .no R (kslE Hf hu hg z1 z2 z3) H (.e0 _ bare_no)
          · cases H
        · cases H
      · rename_i id q j s o n c e
        split at H
        · rename_i l ng lk ho
          split at H
          · rename_i hs
            rw [e] at hx
            generalize hu : x.ev fr = u at hx
            cases hx with
            | gl _ _ _ _ _ _ _ b m hi hnc => exact .no R (kslE Hf hu (own_gr R ho hs hi _) z1 z2 z3) H (.e0 _ bare_no)
            | gl0 _ _ _ _ _ a ha => exact .no R (kslE Hf hu (grOk_no ha) z1 z2 z3) H (.e0 _ bare_no)
          · cases H
        · cases H
      · rename_i e
        rw [e] at hx
        generalize hu : x.ev fr = u at hx
        cases hx with
        | e0 a ha => exact .no R (kslE Hf hu (grOk_no ha) z1 z2 z3) H (.e0 _ bare_no)
      · rename_i e
        rw [e] at hx
        generalize hu : x.ev fr = u at hx
        cases hx with
        | k _ _ => exact .no R (kslE Hf hu (grOk_no (.inl rfl)) z1 z2 z3) H (.e0 _ bare_no)
      · cases H
    · cases H
  · rename_i hmx
    have hmx : mx = none := by cases mx <;> simp_all
    subst hmx
    split at H
    · rename_i t l e
      split at H
      · rename_i hs; subst hs
        rw [e] at hx
        obtain ⟨ad, c, hu, hc, hg⟩ := sl_grOk hx
        obtain ⟨b, H, hb1, hb2⟩ := vBnd_ok Hf H
        obtain ⟨a, H, ha1, ha2⟩ := vBnd_ok Hf H
        have hbl : b ≤ l.length := by rcases hb2 with ⟨_, e⟩ | ⟨_, e, _⟩ <;> omega
        have hab : a ≤ b := by rcases ha2 with ⟨_, e⟩ | ⟨_, e, _⟩ <;> omega
        rw [hu] at hx
        have hv := sl_cut (a := a) hx hab hbl
        rw [cutL_eq (fun e => by rcases ha2 with ⟨_, h⟩ | ⟨h, _⟩; exact h; cases lo <;> simp_all) (fun e => by rcases hb2 with ⟨_, h⟩ | ⟨h, _⟩; exact h; cases hi <;> simp_all)] at H
        exact .no R (kslS hu hg (hb1 c hc) (ha1 b (Nat.le_refl _))) H hv
      · cases H
    · rename_i id e
      split at H
      · rename_i t n l ng lk ho
        split at H
        · rename_i hs; subst hs
          rw [e] at hx
          generalize hu : x.ev fr = u at hx
          obtain ⟨b, H, hb1, hb2⟩ := vBnd_ok Hf H
          obtain ⟨a, H, ha1, ha2⟩ := vBnd_ok Hf H
          have hbl : b ≤ n := by rcases hb2 with ⟨_, e⟩ | ⟨_, e, _⟩ <;> omega
          have hab : a ≤ b := by rcases ha2 with ⟨_, e⟩ | ⟨_, e, _⟩ <;> omega
          obtain ⟨ad, hu2, hln, hi', hor⟩ := gw_rep R.ha hx ho
          subst hu2
          rcases hor with ⟨b0, cs, gr, rfl, e2, e3, e4, _⟩ | ⟨rfl, rfl, e3, _⟩
          · refine .no R (kslS hu (grOk_row e2 e4) (hb1 n (Nat.le_refl _)) (ha1 b (Nat.le_refl _))) H ?_
            have := VR.gl (w := w) (h := h) id [] 0 t.sz (if n = a then 0 else a) (b - a) (n - a) b0 _ hi' (by omega)
            rw [beq_c]
            split
            · rename_i e; rw [if_pos e] at this; simpa [offQ] using this
            · rename_i e; rw [if_neg e] at this; simpa [offQ, add_ad] using this
          · have h0 : b = 0 := by omega
            have h1 : a = 0 := by omega
            subst h0 h1
            refine .no R (kslS hu (grOk_no e3) (hb1 0 (Nat.le_refl _)) (ha1 0 (Nat.le_refl _))) H ?_
            have := VR.gl0 (w := w) (h := h) id [] 0 t.sz 0 ad e3
            simpa using this
        · cases H
      · cases H
    · rename_i id q j sz' o n c e
      split at H
      · rename_i l ng lk ho
        split at H
        · rename_i hs
          obtain ⟨rfl, hs⟩ := hs
          rw [e] at hx
          generalize hu : x.ev fr = u at hx
          obtain ⟨b, H, hb1, hb2⟩ := vBnd_ok Hf H
          obtain ⟨a, H, ha1, ha2⟩ := vBnd_ok Hf H
          have hab : a ≤ b := by rcases ha2 with ⟨_, e⟩ | ⟨_, e, _⟩ <;> omega
          cases hx with
          | gl _ _ _ _ _ _ _ b0 m hi' hnc =>
            have hbl : b ≤ c := by rcases hb2 with ⟨_, e⟩ | ⟨_, e, _⟩ <;> omega
            refine .no R (kslS hu (own_gr R ho hs hi' _) (hb1 c (Nat.le_refl _)) (ha1 b (Nat.le_refl _))) H ?_
            have := VR.gl (w := w) (h := h) id q j sz' (if c = a then o else o + a) (b - a) (c - a) b0 _ hi' (by omega)
            rw [beq_c]
            split
            · rename_i e; rw [if_pos e] at this; exact this
            · rename_i e
              rw [if_neg e] at this
              simp only [Option.map_some, add_ad]
              have e9 : offQ q + j + (o + a) * sz' = offQ q + j + o * sz' + a * sz' := by rw [Nat.add_mul]; omega
              rw [e9] at this; exact this
          | gl0 _ _ _ _ _ ad ha =>
            have hbl : b ≤ 0 := by rcases hb2 with ⟨_, e⟩ | ⟨_, e, _⟩ <;> omega
            have h0 : b = 0 := by omega
            have h1 : a = 0 := by omega
            subst h0 h1
            refine .no R (kslS hu (grOk_no ha) (hb1 0 (Nat.le_refl _)) (ha1 0 (Nat.le_refl _))) H ?_
            have := VR.gl0 (w := w) (h := h) id q j sz' o ad ha
            simpa using this
        · cases H
      · cases H
    · rename_i e
      rw [e] at hx
      generalize hu : x.ev fr = u at hx
      obtain ⟨b, H2, hb1, hb2⟩ := vBnd_ok Hf H
      obtain ⟨a, H3, ha1, ha2⟩ := vBnd_ok (Q := fun _ => K (.k (.slice none 0 0)) vh) Hf H2
      cases hx with
      | k _ hk =>
        have hbl : b ≤ 0 := by rcases hb2 with ⟨_, e⟩ | ⟨_, e, _⟩ <;> omega
        have h0 : b = 0 := by omega
        subst h0
        have hab : a ≤ 0 := by rcases ha2 with ⟨_, e⟩ | ⟨_, e, _⟩ <;> omega
        have h1 : a = 0 := by omega
        subst h1
        refine .no R (kslS hu (grOk_no (.inl rfl)) (hb1 0 (Nat.le_refl _)) (ha1 0 (Nat.le_refl _))) H3 ?_
        simpa using VR.k (w := w) (h := h) (.slice none 0 0) hk
    · cases H
end Go.Canon
