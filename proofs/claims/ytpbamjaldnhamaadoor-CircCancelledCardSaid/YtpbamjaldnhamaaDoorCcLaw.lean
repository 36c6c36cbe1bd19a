/- CircCancelled: for every input the law returns true, and each argument reads afterwards as it read before; the tied card. -/
import Derived.Test.YtpbamjaldnhamaaDoorRows
import Derived.Test.YtpbamjaldnhamaaDoorCcP6
import Derived.Test.YtpbamjaldnhamaaDoorCards
import Derived.Test.YtpbamjaldnhamaaDoorTie
import Derived.WalkKit
import Derived.ProofKit
import Derived.OpenShut
import Derived.ShutString
import Derived.ChangeOld
import Derived.Below
import Derived.SizedLaws
import Derived.Carry
import Derived.Handy
import Derived.Lay
import Derived.LaidLaws
import Derived.Handed
import Derived.SevenTiedAt
import Derived.Shelf.Lays2
namespace Go.Proofs.YtpbamjaldnhamaaDoor.circCancelled
open Go.ChangeShapes Go.WideShapes Go.ChangeAt Go.RowKit Go.Canon Go.Shelf
set_option linter.unusedVariables false
theorem own : ownKnob Tryd.prog.godebug = none := by kernel_rfl
theorem laidOut : laidOutB Tryd.prog = true := by kernel_rfl
theorem mixed : Tryd.prog.follows .mixedOrders = true := by kernel_rfl
def renD : Ren := ⟨fun x => match x with | 21 => 75 | 27 => 97 | 28 => 98 | 35 => 105 | 39 => 107 | n => n, fun x => match x with | 22 => 29 | n => n, fun n => n⟩
theorem lays21 : Lays2.n21 Tryd.prog renD where
  mixed := by kernel_rfl
  f21 := by kernel_rfl
  f27 := by kernel_rfl
  f28 := by kernel_rfl
  f35 := by kernel_rfl
  f39 := by kernel_rfl
  t0 := Tryd.underlying0
  a0 := Tryd.isAgg0
  z0 := Tryd.sizeOf0
  v0 := Tryd.zeroValue0
  t3 := Tryd.underlying3
  a3 := Tryd.isAgg3
  z3 := Tryd.sizeOf3
  v3 := Tryd.zeroValue3
  t4 := Tryd.underlying4
  a4 := Tryd.isAgg4
  z4 := Tryd.sizeOf4
  v4 := Tryd.zeroValue4
  t22 := Tryd.underlying29
  a22 := Tryd.isAgg29
  z22 := Tryd.sizeOf29
  v22 := Tryd.zeroValue29
  i3 := by kernel_rfl
def renG : Ren := ⟨fun x => match x with | 17 => 59 | 22 => 35 | 29 => 73 | 30 => 74 | 36 => 96 | n => n, fun x => match x with | 9 => 36 | 24 => 23 | n => n, fun n => n⟩
theorem laysG : InsG Tryd.prog renG where
  mixed := by kernel_rfl
  f22 := by kernel_rfl
  f29 := by kernel_rfl
  t0 := Tryd.underlying0
  a0 := Tryd.isAgg0
  z0 := Tryd.sizeOf0
  v0 := Tryd.zeroValue0
  t3 := Tryd.underlying3
  a3 := Tryd.isAgg3
  z3 := Tryd.sizeOf3
  v3 := Tryd.zeroValue3
  t4 := Tryd.underlying4
  a4 := Tryd.isAgg4
  z4 := Tryd.sizeOf4
  v4 := Tryd.zeroValue4
  z9 := Tryd.sizeOf36
  t24 := Tryd.underlying23
  a24 := Tryd.isAgg23
  z24 := Tryd.sizeOf23
  v24 := Tryd.zeroValue23
  i9 := by kernel_rfl
theorem insOk : InsOk Tryd.prog := ⟨fun f hf => ⟨_, lays21, Option.some.inj hf⟩, fun f hf => ⟨_, laysG, Option.some.inj hf⟩⟩
theorem range_take (zs : List Int) (n : Nat) (h : n ≤ zs.length) : (List.range n).map (fun i => zs.getD i 0) = zs.take n := by
  apply List.ext_getElem?
  intro i
  rw [List.getElem?_map, List.getElem?_take]
  by_cases hi : i < n
  · rw [if_pos hi, List.getElem?_range hi, List.getElem?_eq_getElem (by omega)]
    simp [List.getD_eq_getElem?_getD, List.getElem?_eq_getElem (show i < zs.length by omega)]
  · rw [if_neg hi, List.getElem?_eq_none (by simp; omega)]; rfl
theorem ints_openK {H : Type} {enc : TypeId × Value → H} {P : Program} {w : World} {k : IntKind} {held : Bool} {t e : TypeId} {fuel : Nat} {cs : List Value} {x : DataW H × List MemPlace} (ht : P.underlying t = some (.slice e)) (he : P.underlying e = some (.int k)) (hc : P.cellsOf e = 1) (h : DataW.trod enc P w 0 (fun _ => true) held fuel t cs = some x) :
    ∃ (v : Value) (p : Pl) (l : List Int), cs = [v] ∧ (canV w.heap.size v = .slice p.1 l.length p.2) ∧ Cells allB (h0 w) 1 p l.length (l.map (.int k ·)) ∧ l.length ≤ maxLen ∧ (∃ a n c, v = .slice a n c) ∧ ((l = [] ∧ x.1 = .nil) ∨ ∃ r, x.1 = .slice (lits k l) r) ∧ ∀ y ∈ l, (Lit.int k y).wf = true := by
  rcases open_ints ht he hc h with ⟨rfl, rfl⟩ | ⟨a, len, cap, zs, rfl, _, hl, hm, hz, rfl, hcell, hwf⟩
  · exact ⟨_, (none, 0), [], rfl, rfl, ⟨rfl, Nat.le_refl _, .inl ⟨rfl, rfl⟩⟩, Nat.zero_le _, ⟨_, _, _, rfl⟩, .inl ⟨rfl, rfl⟩, fun y h => by simp at h⟩
  · simp only [if_true] at hz
    obtain ⟨p, h1, h2⟩ := slice_can (w := w) (a := a) (sz := 1) (f := fun i => [.int k (zs.getD i 0)]) hl (by omega) (fun i hi => by
      rw [Nat.mul_one]; exact cells?_one (Nat.zero_le _) (hcell i (by omega)))
    refine ⟨_, p, (List.range len).map (fun i => zs.getD i 0), rfl, ?_, ?_, ?_, ⟨_, _, _, rfl⟩, .inr ⟨lits k (zs.drop len), ?_⟩, fun y hy => ?_⟩
    · rw [h1]; simp
    · simp only [List.map_cons, List.map_nil, canV_int] at h2
      rw [flat_one] at h2
      rw [List.length_map, List.length_range]
      exact h2
    · simp; omega
    · rw [range_take _ _ (by omega)]
    · obtain ⟨i, hi, rfl⟩ := List.mem_map.1 hy
      have hil := List.mem_range.1 hi
      have e : zs.getD i 0 = zs[i]'(by omega) := by rw [List.getD_eq_getElem?_getD, List.getElem?_eq_getElem (by omega)]; rfl
      rw [e]
      exact hwf _ (List.getElem_mem _)
theorem byts_open {H : Type} {enc : TypeId × Value → H} {P : Program} {w : World} {t e : TypeId} (ht : P.underlying t = some (.slice e)) (he : P.underlying e = some (.int .u8)) (hc : P.cellsOf e = 1) {r : Reach} {base : Nat} {v : Value} {d : DataW H} {ps : List MemPlace} (hv : Value.okWide P w r base t v) (h : DataW.Trod enc P w 0 (fun _ => true) true t v d ps) :
    ∃ (l : List Int) (p : Pl), canA w.heap.size v = .slice p.1 l.length p.2 ∧ Byts allB (h0 w) p l ∧ l.length ≤ maxLen ∧ ∀ y ∈ l, 0 ≤ y ∧ y ≤ 255 := by
  obtain ⟨fuel, h⟩ := h
  obtain ⟨v', p, l, h1, h2, h3, h4, ⟨a, n, c, rfl⟩, _, h5⟩ := ints_openK ht he hc h
  have : v = .slice a n c := by
    cases v <;> simp [Value.cells] at h1 ⊢ <;> try exact h1
    rename_i cs
    unfold Value.okWide at hv
    rw [ht] at hv
    simp only at hv
    unfold Cell.okWide at hv
    rw [ht] at hv
    simp [Cell.ok] at hv
  subst this
  exact ⟨l, p, h2, h3, h4, fun y hy => by simpa [Lit.wf, IntKind.min, IntKind.max, IntKind.signed, IntKind.bits] using h5 y hy⟩
theorem gN_ : Tryd.prog.globalNamed "spoondrift/spoondriftkit.All" = some 0 := by kernel_rfl
theorem gT_ : (Tryd.prog.globals[0]?).map (·.type) = some 29 := by kernel_rfl
/-- What the list of all kinds holds. -/
theorem all_of_laid {W : World} (h : laidMetH Tryd.prog Rows.circCancelledRow.laid W) : ∃ (pk : Pl) (kl : List Int), rowGet (h0 W) ⟨0, 0, none⟩ 1 = some [.slice pk.1 kl.length pk.2] ∧ Ints allB (h0 W) pk kl ∧ kl = [1, 2, 3, 4, 5, 6, 7, 8, 9, 10, 11, 12] := by
  rw [MakeChecks.laidMetH_plain _ _ _ (by kernel_rfl)] at h
  obtain ⟨ps, ⟨g, t, cs, fuel, p, q, hg, ht, hvar, hd, _, _⟩, _⟩ := h
  obtain rfl := Option.some.inj (gN_.symm.trans hg)
  obtain rfl := Option.some.inj (gT_.symm.trans ht)
  obtain ⟨v, pk, kl, e1, e2, e3, _, _, e4, _⟩ := ints_openK Tryd.underlying29 Tryd.underlying3 (by kernel_rfl) hd
  have hv : W.cell? ⟨0, 0, none⟩ = some v := by
    have h1 := World.var?_cell hg hvar 0
    have h2 : cs[0]? = some v := by rw [← Array.getElem?_toList, e1]; rfl
    simpa [h2] using h1
  obtain ⟨_, _, row, r1, r2⟩ := cell_can hv
  refine ⟨pk, kl, ?_, e3, ?_⟩
  · rw [← e2]
    have hr : (h0 W)[0]? = some (.row row false none) := r1
    have hr2 : row[0]? = some (canV W.heap.size v) := r2
    cases row with
    | nil => simp at hr2
    | cons y ys =>
      simp only [List.getElem?_cons_zero, Option.some.injEq] at hr2
      subst hr2
      simp [rowGet, hr]
  · rcases e4 with ⟨_, e⟩ | ⟨r, e⟩
    · cases e
    · have e' : (Rows.laid_spoondrift_spoondriftkit_All : DataW Unit) = .slice (lits .i64 kl) r := e
      unfold Rows.laid_spoondrift_spoondriftkit_All at e'
      injection e' with e1 e2
      match kl, e1 with
      | [a1, a2, a3, a4, a5, a6, a7, a8, a9, a10, a11, a12], e1 => simpa [lits, eq_comm] using e1
set_option maxRecDepth 100000 in
theorem lifted (os : Os) (started : os.Started) (H : Type) (enc : TypeId × Value → H) :
    ReturnsInHanded {} Tryd.checked os 6 .any (fun w args => (Rows.circCancelledSpec.pre enc Tryd.prog Tryd.f6 [] false w args ∧ laidMetH Tryd.prog Rows.circCancelledRow.laid w) ∧ sizedMet enc Tryd.prog Tryd.f6 (OpenSpec.ofChange Rows.circCancelledSpec) false w args)
      (Rows.circCancelledSpec.post enc Tryd.prog Tryd.f6 false true false false) := by
  refine returnsInHanded_of_change_and (C := Tryd.checked) (X := fun w _ => laidMetH Tryd.prog Rows.circCancelledRow.laid w) (fun _ _ _ hh h => h.of_heap hh) own started (by kernel_rfl) Tryd.func6
    (ChangeSpec.witness_shaped (enc := enc) (C := Tryd.checked) (os := os) (X := fun w _ => laidMetH Tryd.prog Rows.circCancelledRow.laid w) false (World.laidAll Tryd.prog os Rows.circCancelledRow.laid) #[.slice none 0 0, .int .u8 0, .bool false] 8 (World.laidAll_os _ _ _)
      (World.shaped_of_ZipB (by kernel_rfl) (by kernel_rfl)) (by kernel_rfl) (by kernel_rfl) (by kernel_rfl)
      (by rw [MakeChecks.laidMetH_plain _ _ _ (by kernel_rfl)]; exact laidMet_laidAll _ (by kernel_rfl) (by kernel_rfl))) ?_
  intro W base args ds gs before hval0 hW _ _ hL _
  have hval : ∀ (j : Nat) t v, Tryd.f6.params[j]? = some t → args[j]? = some v → Value.okWide Tryd.prog W .any base t v := hval0
  have hW' := hW
  obtain ⟨p, q, hA0, hV, rfl, hfz, hnd⟩ := hW
  have hA : DataW.TrodAll enc Tryd.prog W 0 (fun _ => true) true Tryd.f6.params.toList args.toList ds p := hA0
  rw [Tryd.params6] at hA hval
  obtain ⟨v0, vs0, d0, ds0, p0, q0, hargs, rfl, rfl, x0, r0⟩ := trodAll_cons hA
  obtain ⟨v1, vs1, d1, ds1, p1, q1, rfl, rfl, rfl, x1, r1⟩ := trodAll_cons r0
  obtain ⟨v2, vs2, d2, ds2, p2, q2, rfl, rfl, rfl, x2, r2⟩ := trodAll_cons r1
  obtain ⟨rfl, rfl, rfl⟩ := trodAll_nil r2
  obtain rfl : args = #[v0, v1, v2] := by cases args; simp_all
  obtain ⟨rfl, rfl⟩ := trodVars_none hV
  have k0 := x0
  have lt0 : ∀ x ∈ p0, x.block < W.heap.size := by obtain ⟨m, hm⟩ := k0; exact DataW.trod_lt m _ _ _ hm
  obtain ⟨l0, s0, e0, g0, y0, t0⟩ := byts_open Tryd.underlying22 Tryd.underlying5 (by kernel_rfl) (hval 0 22 v0 rfl rfl) x0
  obtain ⟨a1, rfl, rfl, rfl, w1⟩ := open_int Tryd.underlying5 (hval 1 5 v1 rfl rfl) x1
  obtain ⟨b2, rfl, rfl, rfl⟩ := open_bool Tryd.underlying4 (hval 2 4 v2 rfl rfl) x2
  have z1 : 0 ≤ a1 ∧ a1 ≤ 255 := by simpa [Lit.wf, IntKind.min, IntKind.max, IntKind.signed, IntKind.bits] using w1
  obtain ⟨pk, kl, hg, hkl, hk⟩ := all_of_laid hL
  have hsz : 0 < (Go.Canon.h0 W).length := rowGet_lt' hg
  have hszW : gN ≤ W.heap.size := by
    have h1 := hL
    rw [MakeChecks.laidMetH_plain _ _ _ (by kernel_rfl)] at h1
    obtain ⟨ps, ⟨g, t, cs, fuel, p, q, hg1, ht, hvar, hd, _, _⟩, _⟩ := h1
    obtain rfl := Option.some.inj (gN_.symm.trans hg1)
    obtain rfl := Option.some.inj (gT_.symm.trans ht)
    obtain ⟨v, _, _, e1, _⟩ := ints_openK Tryd.underlying29 Tryd.underlying3 (by kernel_rfl) hd
    have hv : W.cell? ⟨0, 0, none⟩ = some v := by
      have h1 := World.var?_cell hg1 hvar 0
      have h2 : cs[0]? = some v := by rw [← Array.getElem?_toList, e1]; rfl
      simpa [h2] using h1
    exact (cell_can hv).2.1
  obtain ⟨v, h', hr, rfl⟩ := cancelled_run (Go.Canon.h0 W) s0 pk l0 kl b2 a1 z1 g0 (Nat.lt_succ_of_le y0) hg hsz hkl hk
  have hcs := calls_of_ret (w := W) insOk hszW mixed (f := 6) (args := #[v0, .int .u8 a1, .bool b2]) (v := true) (by
    simp only [List.map_cons, List.map_nil, e0]
    exact hr)
  refine hcs.mono fun e W' ⟨he, bel⟩ => ?_
  subst he
  exact ⟨_, rfl, _, _, _, [], _, [], hW', trodAll_mk1 (shut_bool Tryd.underlying4 _), (trodAll_cons_mk (Below.trod laidOut (by kernel_rfl) (of_decide_eq_true (by kernel_rfl)) k0 bel lt0) (trodAll_cons_mk (shut_int Tryd.underlying5 w1) (trodAll_cons_mk (shut_bool Tryd.underlying4 _) trodAll_mk0))), rfl, bel.frame _, fun h => by cases h⟩
theorem over : Rows.circCancelledRow.holds Tryd.pinned (OpenSpec.ofChange Rows.circCancelledSpec) :=
  OpenClaim.holds_of_wide 6 Tryd.f6 rfl rfl rfl rfl rfl rfl rfl ⟨rfl, rfl, rfl, rfl, rfl⟩ rfl rfl rfl rfl rfl (by kernel_rfl) Tryd.func6 (by kernel_rfl)
    (of_decide_eq_true (by kernel_rfl)) (by unfold Func.isWrapper; first | (rw [if_pos (by decide +kernel)]; kernel_rfl) | (rw [if_neg (by decide +kernel)]; exact ⟨rfl, rfl⟩))
    (fun os started H enc _ => lifted os started H enc)
theorem proved : Rows.CircCancelledSaid := over
theorem card : Rows.CircCancelledCardSaid :=
  Claim7.holds_tied_plain_at .later [] [.widerDeep] true (true, "6404f132bab1088799fff36f3cbd5b37e6949cea78a5d1b4eb7bd26f771a0276") false proved (fun _ h => by cases h) (by kernel_rfl) (fun _ h => by cases h) circCancelled_row_tie rfl ⟨rfl, rfl⟩ (by kernel_rfl) rfl
    (fun f fn hf hfn => by
      obtain rfl : f = 6 := Option.some.inj ((show Tryd.prog.funcNamed "spoondrift/spoondriftlaw04.CircCancelled" = some 6 by kernel_rfl).symm.trans hf) |>.symm
      obtain rfl : fn = Tryd.f6 := (Option.some.inj (Tryd.func6.symm.trans hfn)).symm
      exact ⟨by kernel_rfl, fun j t ht => by
        rw [Tryd.params6] at ht
        have hm : t ∈ [22, 5, 4] := by simpa using Array.mem_of_getElem? ht
        have hall : ([22, 5, 4].all fun u => !Tryd.prog.wantsStandIn u) = true := by kernel_rfl
        exact (show Tryd.prog.wantsStandIn t = false by simpa using List.all_eq_true.1 hall t hm)⟩)
    (by kernel_rfl)
#print axioms card
end Go.Proofs.YtpbamjaldnhamaaDoor.circCancelled
namespace Go.Proofs.YtpbamjaldnhamaaDoor
/-- The card, under a short name, for the claim. -/
theorem circCancelled_holds : Rows.CircCancelledCardSaid := circCancelled.card
end Go.Proofs.YtpbamjaldnhamaaDoor
