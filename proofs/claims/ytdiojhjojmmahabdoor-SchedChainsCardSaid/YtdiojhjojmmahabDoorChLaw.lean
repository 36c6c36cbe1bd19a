/- SchedChains: for every input the law returns true, and each argument reads afterwards as it read before; the tied card. -/
import Derived.Test.YtdiojhjojmmahabDoorRows
import Derived.Test.YtdiojhjojmmahabDoorChP6
import Derived.Test.YtdiojhjojmmahabDoorCards
import Derived.Test.YtdiojhjojmmahabDoorTie
import Derived.WalkKit
import Derived.ProofKit
import Derived.OpenShut
import Derived.ShutString
import Derived.ChangeOld
import Derived.Below
import Derived.SizedLaws
import Derived.Carry
import Derived.Handy
import Derived.Lay
import Derived.LaidLaws
import Derived.LaidMore
import Derived.Handed
import Derived.SevenTiedAt
import Derived.Stop.Joined
namespace Go.Proofs.YtdiojhjojmmahabDoor.schedChains
open Go.ChangeShapes Go.WideShapes Go.ChangeAt Go.RowKit Go.Canon
set_option linter.unusedVariables false
theorem own : ownKnob Tryd.prog.godebug = none := by kernel_rfl
theorem laidOut : laidOutB Tryd.prog = true := by kernel_rfl
theorem mixed : Tryd.prog.follows .mixedOrders = true := by kernel_rfl
theorem gAsks : Tryd.prog.globalNamed "spoondrift/sched.asks" = some 0 := by kernel_rfl
theorem tAsks : (Tryd.prog.globals[0]?).map (·.type) = some 99 := by kernel_rfl
theorem cElem : Tryd.prog.cellsOf 98 = 2 := by kernel_rfl
theorem cArr : Tryd.prog.cellsOf 99 = 4 := by kernel_rfl
theorem cF : Tryd.prog.cellsOf 97 = 1 := by kernel_rfl
theorem cE : Tryd.prog.cellsOf 35 = 1 := by kernel_rfl
set_option maxRecDepth 100000 in
theorem door_met (os : Os) (args : Array Value) : laidMetH Tryd.prog Rows.schedChainsRow.laid ((World.doorLaid Tryd.prog 600 os).forCall (fun _ _ => 0) ⟨#[], args, []⟩).memory :=
  laidMetH_of_parts3 (fuel := 8) (laidMet_of_run' 8 (by kernel_rfl) (by kernel_rfl)) (by kernel_rfl) (by kernel_rfl)
set_option maxRecDepth 100000 in
/-- One line of the table: a function and a number. -/
theorem line {w : World} {fuel : Nat} {cs : List Value} {b : UInt8} {r : List UInt8} {z : Int} {p : List MemPlace} {f0 : FuncId} (hone : ((List.range Tryd.prog.funcs.size).filter fun f => (Tryd.prog.funcs[f]?).any (·.name.toUTF8.data.toList == b :: r)) = [f0])
    (h : DataW.trod (funcToken Tryd.prog) Tryd.prog w 0 (fun _ => true) true fuel 98 cs = some (.agg [.held (b :: r), .lit (.int .i64 z)], p)) : cs = [.func (.func f0) #[] #[], .int .i64 z] := by
  obtain ⟨xs, n, _, ex, hl, hlen, hf⟩ := DataW.trod_struct Tryd.underlying98 h
  rw [cElem] at hl
  match cs, hl with
  | [c0, c1], _ =>
    match xs, hlen with
    | [y0, y1], _ =>
      have ea := (Prod.mk.inj ex).1
      injection ea with ea
      simp only [List.map_cons, List.map_nil, List.cons.injEq, and_true] at ea
      obtain ⟨a0, a1⟩ := ea
      obtain ⟨d0, q0⟩ := y0
      obtain ⟨d1, q1⟩ := y1
      subst a0 a1
      have e0 : DataW.trod (funcToken Tryd.prog) Tryd.prog w 0 (fun _ => true) true n 97 (([c0, c1].drop 0).take (Tryd.prog.cellsOf 97)) = some (.held (b :: r), q0) := hf 0 _ rfl
      have e1 : DataW.trod (funcToken Tryd.prog) Tryd.prog w 0 (fun _ => true) true n 35 (([c0, c1].drop 1).take (Tryd.prog.cellsOf 35)) = some (.lit (.int .i64 z), q1) := hf 1 _ rfl
      rw [cF] at e0
      rw [cE] at e1
      obtain ⟨z', h1, h2, _⟩ := DataW.trod_int Tryd.underlying35 e1
      have h3 := func_of_trod (f0 := f0) Tryd.underlying97 hone (v := c0) e0
      simp at h1 h2
      subst h1 h3
      rw [h2.1]
set_option maxRecDepth 100000 in
/-- What the table holds. -/
theorem glOk {W : World} (h : laidMetH Tryd.prog Rows.schedChainsRow.laid W) : GlOk glT W := by
  obtain ⟨g, t, cs, fuel, p, hg, ht, hv, hd⟩ := h.funcs (List.mem_singleton.2 rfl)
  obtain rfl := Option.some.inj (gAsks.symm.trans hg)
  obtain rfl := Option.some.inj (tAsks.symm.trans ht)
  obtain ⟨xs, m, _, ex, hl, hlen, hel⟩ := DataW.trod_array Tryd.underlying99 hd
  rw [cArr] at hl
  rw [cElem] at hel
  intro g hg1
  obtain rfl : g = 0 := by have : g < 1 := hg1; omega
  obtain ⟨k1, k2⟩ := row_of_var gAsks hv
  refine ⟨k1, _, _, k2, ?_⟩
  generalize cs.toList = cl at hl hel ⊢
  match cl, hl with
  | [c0, c1, c2, c3], _ =>
    match xs, hlen with
    | [y0, y1], _ =>
      have ea := (Prod.mk.inj ex).1
      injection ea with ea
      have f0 := hel 0 (by decide)
      have f1 := hel 1 (by decide)
      simp only [List.map_cons, List.map_nil] at ea
      injection ea with a0 ea
      injection ea with a1 ea
      obtain ⟨d0, q0⟩ := y0
      obtain ⟨d1, q1⟩ := y1
      have l0 := line (b := 115) (r := [112, 111, 111, 110, 100, 114, 105, 102, 116, 47, 115, 99, 104, 101, 100, 46, 97, 115, 107, 115, 36, 49]) (z := 15) (f0 := 109) (p := q0) (by kernel_rfl) (cs := [c0, c1]) (by
        have f0 : _ = some (d0, q0) := f0
        rw [← show _ = d0 from a0] at f0
        exact f0)
      injection l0 with u0 l0
      injection l0 with v0 l0
      subst u0 v0
      have l1 := line (b := 115) (r := [112, 111, 111, 110, 100, 114, 105, 102, 116, 47, 115, 99, 104, 101, 100, 46, 97, 115, 107, 115, 36, 50]) (z := 7) (f0 := 110) (p := q1) (by kernel_rfl) (cs := [c2, c3]) (by
        have f1 : _ = some (d1, q1) := f1
        rw [← show _ = d1 from a1] at f1
        exact f1)
      injection l1 with u1 l1
      injection l1 with v1 l1
      subst u1 v1
      exact (.c (.fn 109 [] [] #[] #[] .nil .nil) rfl (.c (.i .i64 15) rfl (.c (.fn 110 [] [] #[] #[] .nil .nil) rfl (.c (.i .i64 7) rfl .nil))))
set_option maxRecDepth 100000 in
theorem lifted (os : Os) (started : os.Started) (H : Type) (enc : TypeId × Value → H) :
    ReturnsInHanded {} Tryd.checked os 3 .any (fun w args => (Rows.schedChainsSpec.pre enc Tryd.prog Tryd.f3 [] false w args ∧ laidMetH Tryd.prog Rows.schedChainsRow.laid w) ∧ sizedMet enc Tryd.prog Tryd.f3 (OpenSpec.ofChange Rows.schedChainsSpec) false w args)
      (Rows.schedChainsSpec.post enc Tryd.prog Tryd.f3 false true false false) := by
  refine returnsInHanded_of_change_and (C := Tryd.checked) (X := fun w _ => laidMetH Tryd.prog Rows.schedChainsRow.laid w) (fun _ _ _ hh h => h.of_heap hh) own started (by kernel_rfl) Tryd.func3
    (ChangeSpec.witness_shaped (enc := enc) (C := Tryd.checked) (os := os) (X := fun w _ => laidMetH Tryd.prog Rows.schedChainsRow.laid w) false (World.doorLaid Tryd.prog 600 os) #[.agg #[.slice none 0 0, .int .i64 0, .slice none 0 0], .agg #[.int .i64 0, .int .i64 0, .slice none 0 0], .slice none 0 0] 8 rfl (World.shaped_of_RefB (by kernel_rfl) (by kernel_rfl)) (by kernel_rfl) (by kernel_rfl) (by kernel_rfl) (door_met os _)) ?_
  intro W base args ds gs before hval0 hW _ _ hL _
  have hval : ∀ (j : Nat) t v, Tryd.f3.params[j]? = some t → args[j]? = some v → Value.okWide Tryd.prog W .any base t v := hval0
  have hW' := hW
  obtain ⟨p, q, hA0, hV, rfl, hfz, hnd⟩ := hW
  have hA : DataW.TrodAll enc Tryd.prog W 0 (fun _ => true) true Tryd.f3.params.toList args.toList ds p := hA0
  rw [Tryd.params3] at hA hval
  obtain ⟨rfl, rfl⟩ := trodVars_none hV
  have hT : TysP Tryd.prog c_spoondriftlaw24_SchedChains.ins [25, 28, 22] := ⟨_, _, rfl, ⟨_, Tryd.underlying25, by kernel_rfl, _, _, rfl, rfl, by kernel_rfl, ⟨3, Tryd.underlying22, by kernel_rfl, by decide, Tryd.underlying3⟩, ⟨_, _, rfl, rfl, by kernel_rfl, Tryd.underlying3, ⟨_, _, rfl, rfl, by kernel_rfl, ⟨56, Tryd.underlying23, by kernel_rfl, by decide, ⟨3, Tryd.underlying56, by kernel_rfl, by kernel_rfl, Tryd.underlying3⟩⟩, rfl⟩⟩⟩, ⟨_, _, rfl, ⟨_, Tryd.underlying28, by kernel_rfl, _, _, rfl, rfl, by kernel_rfl, Tryd.underlying3, ⟨_, _, rfl, rfl, by kernel_rfl, Tryd.underlying3, ⟨_, _, rfl, rfl, by kernel_rfl, ⟨46, Tryd.underlying26, by kernel_rfl, by decide, ⟨_, Tryd.underlying46, by kernel_rfl, _, _, rfl, rfl, by kernel_rfl, Tryd.underlying3, ⟨_, _, rfl, rfl, by kernel_rfl, ⟨3, Tryd.underlying22, by kernel_rfl, by decide, Tryd.underlying3⟩, ⟨_, _, rfl, rfl, by kernel_rfl, Tryd.underlying3, ⟨_, _, rfl, rfl, by kernel_rfl, Tryd.underlying3, rfl⟩⟩⟩⟩⟩, rfl⟩⟩⟩, ⟨_, _, rfl, ⟨3, Tryd.underlying22, by kernel_rfl, by decide, Tryd.underlying3⟩, rfl⟩⟩⟩
  have hcs := law_run mixed (glOk hL) k_spoondriftlaw24_SchedChains (fun x h => chains_law (t := x.1) (c := x.2.1) (l := x.2.2.1) fun p hp => (h.1.2.2.1.2 p hp).1) hT (fun j t v h1 h2 => hval j t v (by rw [← Array.getElem?_toList]; exact h1) (by rw [← Array.getElem?_toList]; exact h2)) hA
  refine hcs.mono fun e W' ⟨he, bel⟩ => ?_
  subst he
  have hback := back_all laidOut bel (by kernel_rfl) hA
  have hds : ∃ d0 d1 d2, ds = [d0, d1, d2] := by
    obtain ⟨_, _, d0, r0, _, _, _, rfl, _, _, h0⟩ := trodAll_cons hA
    obtain ⟨_, _, d1, r1, _, _, _, rfl, _, _, h1⟩ := trodAll_cons h0
    obtain ⟨_, _, d2, r2, _, _, _, rfl, _, _, h2⟩ := trodAll_cons h1
    obtain ⟨_, rfl, _⟩ := trodAll_nil h2
    exact ⟨d0, d1, d2, rfl⟩
  obtain ⟨d0, d1, d2, rfl⟩ := hds
  exact ⟨_, rfl, _, _, _, [], _, [], hW', trodAll_mk1 (shut_bool Tryd.underlying4 _), hback, rfl, bel.frame _, fun h => by cases h⟩
theorem over : Rows.schedChainsRow.holds Tryd.pinned (OpenSpec.ofChange Rows.schedChainsSpec) :=
  OpenClaim.holds_of_wide 3 Tryd.f3 rfl rfl rfl rfl rfl rfl rfl ⟨rfl, rfl, rfl, rfl, rfl⟩ rfl rfl rfl rfl rfl (by kernel_rfl) Tryd.func3 (by kernel_rfl)
    (of_decide_eq_true (by kernel_rfl)) (by unfold Func.isWrapper; first | (rw [if_pos (by decide +kernel)]; kernel_rfl) | (rw [if_neg (by decide +kernel)]; exact ⟨rfl, rfl⟩))
    (fun os started H enc _ => lifted os started H enc)
theorem proved : Rows.SchedChainsSaid := over
theorem card : Rows.SchedChainsCardSaid :=
  Claim7.holds_tied_plain_at .later [] [.funcs] true (true, "8b16756b9d6ebe88223129e70ccfb5140298cd50c8f34c49a75202c8a2895d57") false proved (fun _ h => by cases h) (by kernel_rfl) (fun _ h => by cases h) schedChains_row_tie rfl ⟨rfl, rfl⟩ (by kernel_rfl) rfl
    (fun f fn hf hfn => by
      obtain rfl : f = 3 := Option.some.inj ((show Tryd.prog.funcNamed "spoondrift/spoondriftlaw24.SchedChains" = some 3 by kernel_rfl).symm.trans hf) |>.symm
      obtain rfl : fn = Tryd.f3 := (Option.some.inj (Tryd.func3.symm.trans hfn)).symm
      exact ⟨by kernel_rfl, fun j t ht => by
        rw [Tryd.params3] at ht
        have hm : t ∈ [25, 28, 22] := by simpa using Array.mem_of_getElem? ht
        have hall : ([25, 28, 22].all fun u => !Tryd.prog.wantsStandIn u) = true := by kernel_rfl
        exact (show Tryd.prog.wantsStandIn t = false by simpa using List.all_eq_true.1 hall t hm)⟩)
    (by kernel_rfl)
end Go.Proofs.YtdiojhjojmmahabDoor.schedChains
namespace Go.Proofs.YtdiojhjojmmahabDoor
/-- The card, under a short name, for the claim. -/
theorem schedChains_holds : Rows.SchedChainsCardSaid := schedChains.card
end Go.Proofs.YtdiojhjojmmahabDoor
