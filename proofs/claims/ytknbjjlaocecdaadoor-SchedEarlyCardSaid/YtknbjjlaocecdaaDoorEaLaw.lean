/- SchedEarly: for every input the law returns true, and each argument reads afterwards as it read before; the tied card. -/
import Derived.Test.YtknbjjlaocecdaaDoorRows
import Derived.Test.YtknbjjlaocecdaaDoorEaP6
import Derived.Test.YtknbjjlaocecdaaDoorCards
import Derived.Test.YtknbjjlaocecdaaDoorTie
import Derived.LaidSub
import Derived.MakeChecks
import Derived.WalkKit
import Derived.ProofKit
import Derived.OpenShut
import Derived.ShutString
import Derived.ChangeOld
import Derived.Below
import Derived.SizedLaws
import Derived.Carry
import Derived.Handy
import Derived.Lay
import Derived.LaidLaws
import Derived.LaidMore
import Derived.Handed
import Derived.SevenTiedAt
import Derived.Stop.Joined
namespace Go.Proofs.YtknbjjlaocecdaaDoor.schedEarly
open Go.ChangeShapes Go.WideShapes Go.ChangeAt Go.RowKit Go.Canon
set_option linter.unusedVariables false
theorem own : ownKnob Tryd.prog.godebug = none := by kernel_rfl
theorem laidOut : laidOutB Tryd.prog = true := by kernel_rfl
theorem mixed : Tryd.prog.follows .mixedOrders = true := by kernel_rfl
theorem gAsks : Tryd.prog.globalNamed "spoondrift/sched.asks" = some 1 := by kernel_rfl
theorem tAsks : (Tryd.prog.globals[1]?).map (·.type) = some 93 := by kernel_rfl
theorem cElem : Tryd.prog.cellsOf 92 = 2 := by kernel_rfl
theorem cArr : Tryd.prog.cellsOf 93 = 4 := by kernel_rfl
theorem cF : Tryd.prog.cellsOf 91 = 1 := by kernel_rfl
theorem cE : Tryd.prog.cellsOf 35 = 1 := by kernel_rfl
set_option maxRecDepth 100000 in
theorem door_met (os : Os) (args : Array Value) : laidMetH Tryd.prog Rows.schedEarlyRow.laid ((World.doorLaid Tryd.prog 600 os).forCall (fun _ _ => 0) ⟨#[], args, []⟩).memory :=
  laidMetH_of_parts3 (fuel := 8) (laidMet_of_run' 8 (by kernel_rfl) (by kernel_rfl)) (by kernel_rfl) (by kernel_rfl)
set_option maxRecDepth 100000 in
/-- One line of the table: a function and a number. -/
theorem line {w : World} {fuel : Nat} {cs : List Value} {b : UInt8} {r : List UInt8} {z : Int} {p : List MemPlace} {f0 : FuncId} (hone : ((List.range Tryd.prog.funcs.size).filter fun f => (Tryd.prog.funcs[f]?).any (·.name.toUTF8.data.toList == b :: r)) = [f0])
    (h : DataW.trod (funcToken Tryd.prog) Tryd.prog w 0 (fun _ => true) true fuel 92 cs = some (.agg [.held (b :: r), .lit (.int .i64 z)], p)) : cs = [.func (.func f0) #[] #[], .int .i64 z] := by
  obtain ⟨xs, n, _, ex, hl, hlen, hf⟩ := DataW.trod_struct Tryd.underlying92 h
  rw [cElem] at hl
  match cs, hl with
  | [c0, c1], _ =>
    match xs, hlen with
    | [y0, y1], _ =>
      have ea := (Prod.mk.inj ex).1
      injection ea with ea
      simp only [List.map_cons, List.map_nil, List.cons.injEq, and_true] at ea
      obtain ⟨a0, a1⟩ := ea
      obtain ⟨d0, q0⟩ := y0
      obtain ⟨d1, q1⟩ := y1
      subst a0 a1
      have e0 : DataW.trod (funcToken Tryd.prog) Tryd.prog w 0 (fun _ => true) true n 91 (([c0, c1].drop 0).take (Tryd.prog.cellsOf 91)) = some (.held (b :: r), q0) := hf 0 _ rfl
      have e1 : DataW.trod (funcToken Tryd.prog) Tryd.prog w 0 (fun _ => true) true n 35 (([c0, c1].drop 1).take (Tryd.prog.cellsOf 35)) = some (.lit (.int .i64 z), q1) := hf 1 _ rfl
      rw [cF] at e0
      rw [cE] at e1
      obtain ⟨z', h1, h2, _⟩ := DataW.trod_int Tryd.underlying35 e1
      have h3 := func_of_trod (f0 := f0) Tryd.underlying91 hone (v := c0) e0
      simp at h1 h2
      subst h1 h3
      rw [h2.1]
set_option maxRecDepth 100000 in
/-- What the table holds. -/
theorem asksOk {W : World} (h : laidMetH Tryd.prog Rows.schedEarlyRow.laid W) : 1 < W.heap.size ∧ ∃ cs wr, (h0 W)[1]? = some (.row cs wr none) ∧ SgR ⟨[], F0 W, []⟩ (h0 W) (glT 1) cs := by
  obtain ⟨g, t, cs, fuel, p, hg, ht, hv, hd⟩ := h.funcs List.mem_cons_self
  obtain rfl := Option.some.inj (gAsks.symm.trans hg)
  obtain rfl := Option.some.inj (tAsks.symm.trans ht)
  obtain ⟨xs, m, _, ex, hl, hlen, hel⟩ := DataW.trod_array Tryd.underlying93 hd
  rw [cArr] at hl
  rw [cElem] at hel
  obtain ⟨k1, k2⟩ := row_of_var gAsks hv
  refine ⟨k1, _, _, k2, ?_⟩
  generalize cs.toList = cl at hl hel ⊢
  match cl, hl with
  | [c0, c1, c2, c3], _ =>
    match xs, hlen with
    | [y0, y1], _ =>
      have ea := (Prod.mk.inj ex).1
      injection ea with ea
      have f0 := hel 0 (by decide)
      have f1 := hel 1 (by decide)
      simp only [List.map_cons, List.map_nil] at ea
      injection ea with a0 ea
      injection ea with a1 ea
      obtain ⟨d0, q0⟩ := y0
      obtain ⟨d1, q1⟩ := y1
      have l0 := line (b := 115) (r := [112, 111, 111, 110, 100, 114, 105, 102, 116, 47, 115, 99, 104, 101, 100, 46, 97, 115, 107, 115, 36, 49]) (z := 15) (f0 := 108) (p := q0) (by kernel_rfl) (cs := [c0, c1]) (by
        have f0 : _ = some (d0, q0) := f0
        rw [← show _ = d0 from a0] at f0
        exact f0)
      injection l0 with u0 l0
      injection l0 with v0 l0
      subst u0 v0
      have l1 := line (b := 115) (r := [112, 111, 111, 110, 100, 114, 105, 102, 116, 47, 115, 99, 104, 101, 100, 46, 97, 115, 107, 115, 36, 50]) (z := 7) (f0 := 109) (p := q1) (by kernel_rfl) (cs := [c2, c3]) (by
        have f1 : _ = some (d1, q1) := f1
        rw [← show _ = d1 from a1] at f1
        exact f1)
      injection l1 with u1 l1
      injection l1 with v1 l1
      subst u1 v1
      exact (.c (.fn 108 [] [] #[] #[] .nil .nil) rfl (.c (.i .i64 15) rfl (.c (.fn 109 [] [] #[] #[] .nil .nil) rfl (.c (.i .i64 7) rfl .nil))))
theorem gAll : Tryd.prog.globalNamed "spoondrift/spoondriftkit.All" = some 0 := by kernel_rfl
theorem tAll : (Tryd.prog.globals[0]?).map (·.type) = some 30 := by kernel_rfl
/-- What the list of all kinds holds. -/
theorem allOk {W : World} (h : laidMetH Tryd.prog Rows.schedEarlyRow.laid W) : 0 < W.heap.size ∧ ∃ cs wr, (h0 W)[0]? = some (.row cs wr none) ∧ SgR ⟨[], F0 W, []⟩ (h0 W) (glT 0) cs := by
  letI : Cmb := realC
  have h := h.filter fun x => x.2.handleName?.isNone
  replace h : laidMetH Tryd.prog [("spoondrift/spoondriftkit.All", Rows.laid_spoondrift_spoondriftkit_All)] W := h
  rw [MakeChecks.laidMetH_plain _ _ _ (by kernel_rfl)] at h
  obtain ⟨ps, ⟨g, t, cs, fuel, p, q, hg, ht, hvar, hd, _, _⟩, _⟩ := h
  obtain rfl := Option.some.inj (gAll.symm.trans hg)
  obtain rfl := Option.some.inj (tAll.symm.trans ht)
  obtain ⟨k1, k2⟩ := row_of_var gAll hvar
  have hr := trod_ints (F := F0 W) (fun b hb => hb) (zs := [1, 2, 3, 4, 5, 6, 7, 8, 9, 10, 11, 12]) (r := []) Tryd.underlying30 (by kernel_rfl) Tryd.underlying3 hd
  refine ⟨k1, _, _, k2, ?_⟩
  have hl : (cs.toList.map (canV W.heap.size)).length = 1 := hr.len
  generalize cs.toList.map (canV W.heap.size) = cl at hr hl ⊢
  match cl, hl with
  | [v], _ =>
    have hv : VR ⟨[], F0 W, []⟩ (h0 W) (.sl (.int .i64) [1, 2, 3, 4, 5, 6, 7, 8, 9, 10, 11, 12]) v := .sl _ _ _ hr
    exact .c hv (hv.cell rfl) .nil
theorem glOk {W : World} (h : laidMetH Tryd.prog Rows.schedEarlyRow.laid W) : GlOk glT W := fun g hg1 => by
  have : g < 2 := hg1
  match g, this with
  | 0, _ => exact allOk h
  | 1, _ => exact asksOk h
def renD : Go.Shelf.Ren := ⟨fun x => match x with | 21 => 63 | 27 => 77 | 28 => 78 | 35 => 86 | 39 => 90 | n => n, fun x => match x with | 22 => 30 | n => n, fun n => n⟩
theorem lays21 : Lays2.n21 Tryd.prog renD where
  mixed := by kernel_rfl
  f21 := by kernel_rfl
  f27 := by kernel_rfl
  f28 := by kernel_rfl
  f35 := by kernel_rfl
  f39 := by kernel_rfl
  t0 := Tryd.underlying0
  a0 := Tryd.isAgg0
  z0 := Tryd.sizeOf0
  v0 := Tryd.zeroValue0
  t3 := Tryd.underlying3
  a3 := Tryd.isAgg3
  z3 := Tryd.sizeOf3
  v3 := Tryd.zeroValue3
  t4 := Tryd.underlying4
  a4 := Tryd.isAgg4
  z4 := Tryd.sizeOf4
  v4 := Tryd.zeroValue4
  t22 := Tryd.underlying30
  a22 := Tryd.isAgg30
  z22 := Tryd.sizeOf30
  v22 := Tryd.zeroValue30
  i3 := by kernel_rfl
theorem insOk : InsOk Tryd.prog := insOk_one lays21 rfl (by kernel_rfl)
set_option maxRecDepth 100000 in
theorem lifted (os : Os) (started : os.Started) (H : Type) (enc : TypeId × Value → H) :
    ReturnsInHanded {} Tryd.checked os 3 .any (fun w args => (Rows.schedEarlySpec.pre enc Tryd.prog Tryd.f3 [] false w args ∧ laidMetH Tryd.prog Rows.schedEarlyRow.laid w) ∧ sizedMet enc Tryd.prog Tryd.f3 (OpenSpec.ofChange Rows.schedEarlySpec) false w args)
      (Rows.schedEarlySpec.post enc Tryd.prog Tryd.f3 false true false false) := by
  refine returnsInHanded_of_change_and (C := Tryd.checked) (X := fun w _ => laidMetH Tryd.prog Rows.schedEarlyRow.laid w) (fun _ _ _ hh h => h.of_heap hh) own started (by kernel_rfl) Tryd.func3
    (ChangeSpec.witness_shaped (enc := enc) (C := Tryd.checked) (os := os) (X := fun w _ => laidMetH Tryd.prog Rows.schedEarlyRow.laid w) false (World.doorLaid Tryd.prog 600 os) #[.slice none 0 0, .slice none 0 0, .slice none 0 0, .bool false] 8 rfl (World.shaped_of_RefB (by kernel_rfl) (by kernel_rfl)) (by kernel_rfl) (by kernel_rfl) (by kernel_rfl) (door_met os _)) ?_
  intro W base args ds gs before hval0 hW _ _ hL _
  have hval : ∀ (j : Nat) t v, Tryd.f3.params[j]? = some t → args[j]? = some v → Value.okWide Tryd.prog W .any base t v := hval0
  have hW' := hW
  obtain ⟨p, q, hA0, hV, rfl, hfz, hnd⟩ := hW
  have hA : DataW.TrodAll enc Tryd.prog W 0 (fun _ => true) true Tryd.f3.params.toList args.toList ds p := hA0
  rw [Tryd.params3] at hA hval
  obtain ⟨rfl, rfl⟩ := trodVars_none hV
  have hT : TysP Tryd.prog c_spoondriftlaw24_SchedEarly.ins [22, 22, 22, 4] := ⟨_, _, rfl, ⟨5, Tryd.underlying22, by kernel_rfl, by decide, Tryd.underlying5⟩, ⟨_, _, rfl, ⟨5, Tryd.underlying22, by kernel_rfl, by decide, Tryd.underlying5⟩, ⟨_, _, rfl, ⟨5, Tryd.underlying22, by kernel_rfl, by decide, Tryd.underlying5⟩, ⟨_, _, rfl, Tryd.underlying4, rfl⟩⟩⟩⟩
  have hcs := law_run insOk mixed (glOk hL) k_spoondriftlaw24_SchedEarly (fun x _ => early_law) hT (fun j t v h1 h2 => hval j t v (by rw [← Array.getElem?_toList]; exact h1) (by rw [← Array.getElem?_toList]; exact h2)) hA
  refine hcs.mono fun e W' ⟨he, bel⟩ => ?_
  subst he
  have hback := back_all laidOut bel (by kernel_rfl) hA
  have hds : ∃ d0 d1 d2 d3, ds = [d0, d1, d2, d3] := by
    obtain ⟨_, _, d0, r0, _, _, _, rfl, _, _, h0⟩ := trodAll_cons hA
    obtain ⟨_, _, d1, r1, _, _, _, rfl, _, _, h1⟩ := trodAll_cons h0
    obtain ⟨_, _, d2, r2, _, _, _, rfl, _, _, h2⟩ := trodAll_cons h1
    obtain ⟨_, _, d3, r3, _, _, _, rfl, _, _, h3⟩ := trodAll_cons h2
    obtain ⟨_, rfl, _⟩ := trodAll_nil h3
    exact ⟨d0, d1, d2, d3, rfl⟩
  obtain ⟨d0, d1, d2, d3, rfl⟩ := hds
  exact ⟨_, rfl, _, _, _, [], _, [], hW', trodAll_mk1 (shut_bool Tryd.underlying4 _), hback, rfl, bel.frame _, fun h => by cases h⟩
theorem over : Rows.schedEarlyRow.holds Tryd.pinned (OpenSpec.ofChange Rows.schedEarlySpec) :=
  OpenClaim.holds_of_wide 3 Tryd.f3 rfl rfl rfl rfl rfl rfl rfl ⟨rfl, rfl, rfl, rfl, rfl⟩ rfl rfl rfl rfl rfl (by kernel_rfl) Tryd.func3 (by kernel_rfl)
    (of_decide_eq_true (by kernel_rfl)) (by unfold Func.isWrapper; first | (rw [if_pos (by decide +kernel)]; kernel_rfl) | (rw [if_neg (by decide +kernel)]; exact ⟨rfl, rfl⟩))
    (fun os started H enc _ => lifted os started H enc)
theorem proved : Rows.SchedEarlySaid := over
theorem card : Rows.SchedEarlyCardSaid :=
  Claim7.holds_tied_plain_at .later [] [.funcs, .widerDeep] true (true, "3065f6df490a0e1e412e874bea6eb2246eecad5a9b4e9754107d7bf351a826c8") false proved (fun _ h => by cases h) (by kernel_rfl) (fun _ h => by cases h) schedEarly_row_tie rfl ⟨rfl, rfl⟩ (by kernel_rfl) rfl
    (fun f fn hf hfn => by
      obtain rfl : f = 3 := Option.some.inj ((show Tryd.prog.funcNamed "spoondrift/spoondriftlaw24.SchedEarly" = some 3 by kernel_rfl).symm.trans hf) |>.symm
      obtain rfl : fn = Tryd.f3 := (Option.some.inj (Tryd.func3.symm.trans hfn)).symm
      exact ⟨by kernel_rfl, fun j t ht => by
        rw [Tryd.params3] at ht
        have hm : t ∈ [22, 22, 22, 4] := by simpa using Array.mem_of_getElem? ht
        have hall : ([22, 22, 22, 4].all fun u => !Tryd.prog.wantsStandIn u) = true := by kernel_rfl
        exact (show Tryd.prog.wantsStandIn t = false by simpa using List.all_eq_true.1 hall t hm)⟩)
    (by kernel_rfl)
end Go.Proofs.YtknbjjlaocecdaaDoor.schedEarly
namespace Go.Proofs.YtknbjjlaocecdaaDoor
/-- The card, under a short name, for the claim. -/
theorem schedEarly_holds : Rows.SchedEarlyCardSaid := schedEarly.card
end Go.Proofs.YtknbjjlaocecdaaDoor
