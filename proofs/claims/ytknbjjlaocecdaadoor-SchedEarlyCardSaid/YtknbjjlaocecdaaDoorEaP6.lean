/- SchedEarly, part 6: the canonical machine and the runs of the program's functions on it. No conditions. -/
import Derived.Test.YtknbjjlaocecdaaDoorProg
import Derived.Test.YtknbjjlaocecdaaDoorEaP5
set_option linter.unusedSectionVars false
set_option linter.unusedVariables false
set_option linter.unusedSimpArgs false
namespace Go.Canon
open Go
set_option maxRecDepth 100000
set_option maxHeartbeats 0
set_option linter.unusedVariables false
noncomputable section
open Go.Proofs
def glT : Nat → List (Sg V) := fun g => match g with
  | 0 => [.c (.sl iT [1, 2, 3, 4, 5, 6, 7, 8, 9, 10, 11, 12])]
  | 1 => [.c (.fn 108 [] []), .c (.i .i64 15), .c (.fn 109 [] []), .c (.i .i64 7)]
  | _ => []
def c_slices_Clone_uint8 : Con := ⟨[(.sl (.int .u8))], ⟨[.s (.e (.gw 0))], [.r [.ar (.int .u8) none] false]⟩, m_slices_Clone_uint8⟩
def l_slices_Clone_uint8 : List (Nat × Con) := []
def h_slices_Clone_uint8 : Hs := {
  oh := (fun f d => match f, d with
  | 15, 5 => some { t := some (.int .u8) }
  | _, _ => none)
  con := lookC l_slices_Clone_uint8
  gl := glT }
theorem r_slices_Clone_uint8 : (fun x => @vFun stuckC (tab Tryd.prog) h_slices_Clone_uint8 200 15 [(.sl (.int .u8))] ⟨[.s (.e (.gw 0))], [.r [.ar (.int .u8) none] false]⟩ x) = M_slices_Clone_uint8 stuckC := by kernel_rfl
theorem k_slices_Clone_uint8 : ConOk (tab Tryd.prog) glT 15 c_slices_Clone_uint8 := by
  have := con_of l_slices_Clone_uint8 r_slices_Clone_uint8 trivial
  rw [q_slices_Clone_uint8] at this
  exact this
def c_spoondriftkit_Of : Con := ⟨[(.sl (.int .u8))], ⟨[.s (.e (.op 0 [] 0))], [.r [.c (.h (.sl (.int .u8))), .c (.h iT), .c (.h (.int .u32))] true]⟩, m_spoondriftkit_Of⟩
def l_spoondriftkit_Of : List (Nat × Con) := [(15, c_slices_Clone_uint8)]
def h_spoondriftkit_Of : Hs := {
  con := lookC l_spoondriftkit_Of
  gl := glT }
theorem r_spoondriftkit_Of : (fun x => @vFun stuckC (tab Tryd.prog) h_spoondriftkit_Of 200 4 [(.sl (.int .u8))] ⟨[.s (.e (.op 0 [] 0))], [.r [.c (.h (.sl (.int .u8))), .c (.h iT), .c (.h (.int .u32))] true]⟩ x) = M_spoondriftkit_Of stuckC := by kernel_rfl
theorem k_spoondriftkit_Of : ConOk (tab Tryd.prog) glT 4 c_spoondriftkit_Of := con_of l_spoondriftkit_Of r_spoondriftkit_Of ⟨k_slices_Clone_uint8, trivial⟩
def c_spoondriftkit_Store_draw : MCon := ⟨(.pair (.sl (.int .u8)) (.pair iT (.pair (.int .u32) .unit))), [], [(.int .u32)], m_spoondriftkit_Store_draw⟩
def l_spoondriftkit_Store_draw : List (Nat × Con) := []
def lm_spoondriftkit_Store_draw : List (Nat × MCon) := []
def h_spoondriftkit_Store_draw : Hs := {
  jn := (fun f b => match f, b with
  | 39, 50 => some { keep := [], sl := [(3, .s (.h (.int .u32)))], ob := [(1000, true, .r [.c (.h (.sl (.int .u8))), .c (.h iT), .c (.h (.int .u32))] true)] }
  | _, _ => none)
  con := lookC l_spoondriftkit_Store_draw
  mcon := lookM lm_spoondriftkit_Store_draw
  gl := glT }
theorem r_spoondriftkit_Store_draw : (fun x => @vFunM stuckC (tab Tryd.prog) h_spoondriftkit_Store_draw 200 39 (.pair (.sl (.int .u8)) (.pair iT (.pair (.int .u32) .unit))) [] [(.int .u32)] x) = M_spoondriftkit_Store_draw stuckC := by kernel_rfl
theorem k_spoondriftkit_Store_draw : MConOk (tab Tryd.prog) glT 39 c_spoondriftkit_Store_draw := mcon_of l_spoondriftkit_Store_draw lm_spoondriftkit_Store_draw r_spoondriftkit_Store_draw trivial trivial
def c_spoondriftkit_Store_Less : MCon := ⟨(.pair (.sl (.int .u8)) (.pair iT (.pair (.int .u32) .unit))), [iT], [iT], m_spoondriftkit_Store_Less⟩
def l_spoondriftkit_Store_Less : List (Nat × Con) := []
def lm_spoondriftkit_Store_Less : List (Nat × MCon) := [(39, c_spoondriftkit_Store_draw)]
def h_spoondriftkit_Store_Less : Hs := {
  con := lookC l_spoondriftkit_Store_Less
  mcon := lookM lm_spoondriftkit_Store_Less
  gl := glT }
theorem r_spoondriftkit_Store_Less : (fun x => @vFunM stuckC (tab Tryd.prog) h_spoondriftkit_Store_Less 200 14 (.pair (.sl (.int .u8)) (.pair iT (.pair (.int .u32) .unit))) [iT] [iT] x) = M_spoondriftkit_Store_Less stuckC := by kernel_rfl
theorem k_spoondriftkit_Store_Less : MConOk (tab Tryd.prog) glT 14 c_spoondriftkit_Store_Less := mcon_of l_spoondriftkit_Store_Less lm_spoondriftkit_Store_Less r_spoondriftkit_Store_Less trivial ⟨k_spoondriftkit_Store_draw, trivial⟩
def c_spoondriftkit_Store_From : MCon := ⟨(.pair (.sl (.int .u8)) (.pair iT (.pair (.int .u32) .unit))), [iT, iT], [iT], m_spoondriftkit_Store_From⟩
def l_spoondriftkit_Store_From : List (Nat × Con) := []
def lm_spoondriftkit_Store_From : List (Nat × MCon) := [(14, c_spoondriftkit_Store_Less)]
def h_spoondriftkit_Store_From : Hs := {
  con := lookC l_spoondriftkit_Store_From
  mcon := lookM lm_spoondriftkit_Store_From
  gl := glT }
theorem r_spoondriftkit_Store_From : (fun x => @vFunM stuckC (tab Tryd.prog) h_spoondriftkit_Store_From 200 6 (.pair (.sl (.int .u8)) (.pair iT (.pair (.int .u32) .unit))) [iT, iT] [iT] x) = M_spoondriftkit_Store_From stuckC := by kernel_rfl
theorem k_spoondriftkit_Store_From : MConOk (tab Tryd.prog) glT 6 c_spoondriftkit_Store_From := mcon_of l_spoondriftkit_Store_From lm_spoondriftkit_Store_From r_spoondriftkit_Store_From trivial ⟨k_spoondriftkit_Store_Less, trivial⟩
def c_spoondriftkit_Arity : Con := ⟨[iT], ⟨[.s (.h iT)], []⟩, m_spoondriftkit_Arity⟩
def l_spoondriftkit_Arity : List (Nat × Con) := []
def h_spoondriftkit_Arity : Hs := {
  jn := (fun f b => match f, b with
  | 40, 3 => some { keep := [0], sl := [(3, .s (.h .bool))] }
  | _, _ => none)
  jr := (fun f b => match f, b with
  | 40, 16387 => some { keep := [0], sl := [(3, .s (.h .bool))] }
  | 40, 61454 => some { keep := [0], sl := [(14, .s (.h .bool))] }
  | _, _ => none)
  con := lookC l_spoondriftkit_Arity
  gl := glT }
theorem r_spoondriftkit_Arity : (fun x => @vFun stuckC (tab Tryd.prog) h_spoondriftkit_Arity 200 40 [iT] ⟨[.s (.h iT)], []⟩ x) = M_spoondriftkit_Arity stuckC := by kernel_rfl
theorem k_spoondriftkit_Arity : ConOk (tab Tryd.prog) glT 40 c_spoondriftkit_Arity := con_of l_spoondriftkit_Arity r_spoondriftkit_Arity trivial
def c_spoondriftkit_Store_Order : MCon := ⟨(.pair (.sl (.int .u8)) (.pair iT (.pair (.int .u32) .unit))), [iT], [(.sl iT)], m_spoondriftkit_Store_Order⟩
def l_spoondriftkit_Store_Order : List (Nat × Con) := []
def lm_spoondriftkit_Store_Order : List (Nat × MCon) := [(14, c_spoondriftkit_Store_Less)]
def h_spoondriftkit_Store_Order : Hs := {
  lp := (fun f b => match f, b with
  | 41, 0 => some { keep := [0, 7], sl := [(5, .s (.e (.gw 0))), (8, .s (.h iT))], ob := [(1000, true, .r [.c (.h (.sl (.int .u8))), .c (.h iT), .c (.h (.int .u32))] true), (0, false, .r [.ar iT none] false)], nils := [(5, iT)] }
  | _, _ => none)
  oh := (fun f d => match f, d with
  | 41, 17 => some { t := some iT }
  | _, _ => none)
  con := lookC l_spoondriftkit_Store_Order
  mcon := lookM lm_spoondriftkit_Store_Order
  gl := glT }
theorem r_spoondriftkit_Store_Order : (fun x => @vFunM stuckC (tab Tryd.prog) h_spoondriftkit_Store_Order 200 41 (.pair (.sl (.int .u8)) (.pair iT (.pair (.int .u32) .unit))) [iT] [(.sl iT)] x) = M_spoondriftkit_Store_Order stuckC := by kernel_rfl
theorem k_spoondriftkit_Store_Order : MConOk (tab Tryd.prog) glT 41 c_spoondriftkit_Store_Order := mcon_of l_spoondriftkit_Store_Order lm_spoondriftkit_Store_Order r_spoondriftkit_Store_Order trivial ⟨k_spoondriftkit_Store_Less, trivial⟩
def c_spoondriftkit_Store_Gate : MCon := ⟨(.pair (.sl (.int .u8)) (.pair iT (.pair (.int .u32) .unit))), [iT, (.sl iT)], [gT], m_spoondriftkit_Store_Gate⟩
def l_spoondriftkit_Store_Gate : List (Nat × Con) := [(40, c_spoondriftkit_Arity)]
def lm_spoondriftkit_Store_Gate : List (Nat × MCon) := [(14, c_spoondriftkit_Store_Less), (41, c_spoondriftkit_Store_Order)]
def h_spoondriftkit_Store_Gate : Hs := {
  jn := (fun f b => match f, b with
  | 16, 18 => some { keep := [0, 1, 6], sl := [(7, .s (.h iT))] }
  | _, _ => none)
  con := lookC l_spoondriftkit_Store_Gate
  mcon := lookM lm_spoondriftkit_Store_Gate
  gl := glT }
theorem r_spoondriftkit_Store_Gate : (fun x => @vFunM stuckC (tab Tryd.prog) h_spoondriftkit_Store_Gate 200 16 (.pair (.sl (.int .u8)) (.pair iT (.pair (.int .u32) .unit))) [iT, (.sl iT)] [gT] x) = M_spoondriftkit_Store_Gate stuckC := by kernel_rfl
theorem k_spoondriftkit_Store_Gate : MConOk (tab Tryd.prog) glT 16 c_spoondriftkit_Store_Gate := mcon_of l_spoondriftkit_Store_Gate lm_spoondriftkit_Store_Gate r_spoondriftkit_Store_Gate ⟨k_spoondriftkit_Arity, trivial⟩ ⟨k_spoondriftkit_Store_Less, k_spoondriftkit_Store_Order, trivial⟩
def c_spoondriftkit_Store_Seldom : MCon := ⟨(.pair (.sl (.int .u8)) (.pair iT (.pair (.int .u32) .unit))), [iT], [.bool], m_spoondriftkit_Store_Seldom⟩
def l_spoondriftkit_Store_Seldom : List (Nat × Con) := []
def lm_spoondriftkit_Store_Seldom : List (Nat × MCon) := [(14, c_spoondriftkit_Store_Less)]
def h_spoondriftkit_Store_Seldom : Hs := {
  con := lookC l_spoondriftkit_Store_Seldom
  mcon := lookM lm_spoondriftkit_Store_Seldom
  gl := glT }
theorem r_spoondriftkit_Store_Seldom : (fun x => @vFunM stuckC (tab Tryd.prog) h_spoondriftkit_Store_Seldom 200 17 (.pair (.sl (.int .u8)) (.pair iT (.pair (.int .u32) .unit))) [iT] [.bool] x) = M_spoondriftkit_Store_Seldom stuckC := by kernel_rfl
theorem k_spoondriftkit_Store_Seldom : MConOk (tab Tryd.prog) glT 17 c_spoondriftkit_Store_Seldom := mcon_of l_spoondriftkit_Store_Seldom lm_spoondriftkit_Store_Seldom r_spoondriftkit_Store_Seldom trivial ⟨k_spoondriftkit_Store_Less, trivial⟩
def c_spoondriftkit_Store_Steered : MCon := ⟨(.pair (.sl (.int .u8)) (.pair iT (.pair (.int .u32) .unit))), [iT, iT, iT, (.sl iT)], [cT], m_spoondriftkit_Store_Steered⟩
def l_spoondriftkit_Store_Steered : List (Nat × Con) := []
def lm_spoondriftkit_Store_Steered : List (Nat × MCon) := [(6, c_spoondriftkit_Store_From), (14, c_spoondriftkit_Store_Less), (16, c_spoondriftkit_Store_Gate), (17, c_spoondriftkit_Store_Seldom)]
def h_spoondriftkit_Store_Steered : Hs := {
  lp := (fun f b => match f, b with
  | 5, 0 => some { keep := [0, 1, 2, 4, 10, 11, 19], sl := [(20, .s (.h iT))], ob := [(1000, true, .r [.c (.h (.sl (.int .u8))), .c (.h iT), .c (.h (.int .u32))] true), (1, true, .r [.c (.h iT), .c (.h iT), .c (.e (.gw 2))] true), (2, false, .r [.ar gT none] false)], nilo := [(1, 2, gT)] }
  | _, _ => none)
  jn := (fun f b => match f, b with
  | 5, 49 => some { keep := [0, 1, 2, 4, 10, 11, 12, 19, 20], sl := [], ob := [(1000, true, .r [.c (.h (.sl (.int .u8))), .c (.h iT), .c (.h (.int .u32))] true), (3, true, .r [.c (.h iT), .c (.h (.sl iT)), .c (.h iT), .c (.h iT)] true)] }
  | 5, 41 => some { keep := [0, 1, 2, 4, 10, 11, 12, 19, 20], sl := [], ob := [(1000, true, .r [.c (.h (.sl (.int .u8))), .c (.h iT), .c (.h (.int .u32))] true), (3, true, .r [.c (.h iT), .c (.h (.sl iT)), .c (.h iT), .c (.h iT)] true)] }
  | 5, 26 => some { keep := [0, 1, 2, 4, 10, 11, 12, 19, 20], sl := [], ob := [(1000, true, .r [.c (.h (.sl (.int .u8))), .c (.h iT), .c (.h (.int .u32))] true), (3, true, .r [.c (.h iT), .c (.h (.sl iT)), .c (.h iT), .c (.h iT)] true)] }
  | _, _ => none)
  jr := (fun f b => match f, b with
  | 5, 110618 => some { keep := [0, 1, 2, 4, 10, 11, 12, 19, 20], sl := [(26, .s (.h .bool))], ob := [(1000, true, .r [.c (.h (.sl (.int .u8))), .c (.h iT), .c (.h (.int .u32))] true)] }
  | 5, 204849 => some { keep := [0, 1, 2, 4, 10, 11, 12, 19, 20], sl := [(49, .s (.h .bool))], ob := [(1000, true, .r [.c (.h (.sl (.int .u8))), .c (.h iT), .c (.h (.int .u32))] true)] }
  | _, _ => none)
  oh := (fun f d => match f, d with
  | 5, 36 => some { t := some iT }
  | 5, 47 => some { t := some iT }
  | 5, 63 => some { t := some gT }
  | _, _ => none)
  con := lookC l_spoondriftkit_Store_Steered
  mcon := lookM lm_spoondriftkit_Store_Steered
  gl := glT }
theorem r_spoondriftkit_Store_Steered : (fun x => @vFunM stuckC (tab Tryd.prog) h_spoondriftkit_Store_Steered 200 5 (.pair (.sl (.int .u8)) (.pair iT (.pair (.int .u32) .unit))) [iT, iT, iT, (.sl iT)] [cT] x) = M_spoondriftkit_Store_Steered stuckC := by kernel_rfl
theorem k_spoondriftkit_Store_Steered : MConOk (tab Tryd.prog) glT 5 c_spoondriftkit_Store_Steered := mcon_of l_spoondriftkit_Store_Steered lm_spoondriftkit_Store_Steered r_spoondriftkit_Store_Steered trivial ⟨k_spoondriftkit_Store_From, k_spoondriftkit_Store_Less, k_spoondriftkit_Store_Gate, k_spoondriftkit_Store_Seldom, trivial⟩
def c_spoondriftlaw24_Ticking : MCon := ⟨(.pair (.sl (.int .u8)) (.pair iT (.pair (.int .u32) .unit))), [iT, .bool], [kT], m_spoondriftlaw24_Ticking⟩
def l_spoondriftlaw24_Ticking : List (Nat × Con) := []
def lm_spoondriftlaw24_Ticking : List (Nat × MCon) := [(6, c_spoondriftkit_Store_From), (14, c_spoondriftkit_Store_Less), (17, c_spoondriftkit_Store_Seldom)]
def h_spoondriftlaw24_Ticking : Hs := {
  lp := (fun f b => match f, b with
  | 7, 0 => some { keep := [0, 1, 2, 6, 7], sl := [(13, .s (.h iT))], ob := [(1000, true, .r [.c (.h (.sl (.int .u8))), .c (.h iT), .c (.h (.int .u32))] true), (1, true, .r [.c (.e (.gw 2)), .c (.h iT), .c (.e (.k (.slice none 0 0)))] true), (2, false, .r [.ar iT none] false)], nilo := [(1, 0, iT)] }
  | 7, 4 => some { keep := [0, 2, 6, 7, 8, 23, 24, 27], sl := [(28, .s (.h iT))], ob := [(1000, true, .r [.c (.h (.sl (.int .u8))), .c (.h iT), .c (.h (.int .u32))] true), (1, true, .r [.c (.e (.gw 2)), .c (.h iT), .c (.e (.gw 3))] true), (2, false, .r [.ar iT none] false), (3, false, .r [.ar (.arr 2 iT) none] false)] }
  | 7, 2 => some { keep := [0, 2, 6, 7, 23], sl := [(24, .s (.h iT))], ob := [(1000, true, .r [.c (.h (.sl (.int .u8))), .c (.h iT), .c (.h (.int .u32))] true), (1, true, .r [.c (.e (.gw 2)), .c (.h iT), .c (.e (.gw 3))] true), (2, false, .r [.ar iT none] false), (3, false, .r [.ar (.arr 2 iT) none] false)], nilo := [(1, 2, (.arr 2 iT))] }
  | _, _ => none)
  jn := (fun f b => match f, b with
  | 7, 35 => some { keep := [0, 2, 6, 7, 8, 23, 24, 27, 28], sl := [], ob := [(1, true, .r [.c (.e (.gw 2)), .c (.h iT), .c (.e (.gw 3))] true), (2, false, .r [.ar iT none] false), (3, false, .r [.ar (.arr 2 iT) none] false)] }
  | _, _ => none)
  jr := (fun f b => match f, b with
  | 7, 127011 => some { keep := [0, 2, 6, 7, 8, 9, 23, 24, 27, 28], sl := [(35, .s (.h .bool))], ob := [(1000, true, .r [.c (.h (.sl (.int .u8))), .c (.h iT), .c (.h (.int .u32))] true)] }
  | _, _ => none)
  oh := (fun f d => match f, d with
  | 7, 19 => some { t := some iT }
  | 7, 40 => some { ars := [(0, 2, iT)] }
  | 7, 41 => some { t := some (.arr 2 iT) }
  | _, _ => none)
  con := lookC l_spoondriftlaw24_Ticking
  mcon := lookM lm_spoondriftlaw24_Ticking
  gl := glT }
theorem r_spoondriftlaw24_Ticking : (fun x => @vFunM stuckC (tab Tryd.prog) h_spoondriftlaw24_Ticking 200 7 (.pair (.sl (.int .u8)) (.pair iT (.pair (.int .u32) .unit))) [iT, .bool] [kT] x) = M_spoondriftlaw24_Ticking stuckC := by kernel_rfl
theorem k_spoondriftlaw24_Ticking : MConOk (tab Tryd.prog) glT 7 c_spoondriftlaw24_Ticking := mcon_of l_spoondriftlaw24_Ticking lm_spoondriftlaw24_Ticking r_spoondriftlaw24_Ticking trivial ⟨k_spoondriftkit_Store_From, k_spoondriftkit_Store_Less, k_spoondriftkit_Store_Seldom, trivial⟩
def c_sched_clock_1 : Con := ⟨[iT], ⟨[.s (.h .bool)], []⟩, m_sched_clock_1⟩
def l_sched_clock_1 : List (Nat × Con) := []
def h_sched_clock_1 : Hs := {
  jr := (fun f b => match f, b with
  | 64, 12290 => some { keep := [], sl := [(2, .s (.h .bool))] }
  | _, _ => none)
  con := lookC l_sched_clock_1
  gl := glT }
theorem r_sched_clock_1 : (fun x => @vFun stuckC (tab Tryd.prog) h_sched_clock_1 200 64 [iT] ⟨[.s (.h .bool)], []⟩ x) = M_sched_clock_1 stuckC := by kernel_rfl
theorem k_sched_clock_1 : ConOk (tab Tryd.prog) glT 64 c_sched_clock_1 := con_of l_sched_clock_1 r_sched_clock_1 trivial
def c_sched_clock : Con := ⟨[kT], ⟨[.s (.h iT)], []⟩, m_sched_clock⟩
def l_sched_clock : List (Nat × Con) := [(64, c_sched_clock_1)]
def h_sched_clock : Hs := {
  lp := (fun f b => match f, b with
  | 62, 0 => some { keep := [0, 1, 7], sl := [(8, .s (.h iT))] }
  | _, _ => none)
  jr := (fun f b => match f, b with
  | 35, 20484 => some { keep := [], sl := [(4, .s (.h .bool))] }
  | 42, 36872 => some { keep := [], sl := [(8, .s (.h .bool))] }
  | _, _ => none)
  con := lookC l_sched_clock
  gl := glT }
theorem r_sched_clock : (fun x => @vFun stuckC (tab Tryd.prog) h_sched_clock 200 42 [kT] ⟨[.s (.h iT)], []⟩ x) = M_sched_clock stuckC := by kernel_rfl
theorem k_sched_clock : ConOk (tab Tryd.prog) glT 42 c_sched_clock := con_of l_sched_clock r_sched_clock ⟨k_sched_clock_1, trivial⟩
def c_slices_Index : Con := ⟨[(.sl iT), iT], ⟨[.s (.h iT)], []⟩, m_slices_Index⟩
def l_slices_Index : List (Nat × Con) := []
def h_slices_Index : Hs := {
  lp := (fun f b => match f, b with
  | 56, 0 => some { keep := [0, 1, 7], sl := [(8, .s (.h iT))] }
  | _, _ => none)
  con := lookC l_slices_Index
  gl := glT }
theorem r_slices_Index : (fun x => @vFun stuckC (tab Tryd.prog) h_slices_Index 200 56 [(.sl iT), iT] ⟨[.s (.h iT)], []⟩ x) = M_slices_Index stuckC := by kernel_rfl
theorem k_slices_Index : ConOk (tab Tryd.prog) glT 56 c_slices_Index := con_of l_slices_Index r_slices_Index trivial
def c_slices_Contains : Con := ⟨[(.sl iT), iT], ⟨[.s (.h .bool)], []⟩, m_slices_Contains⟩
def l_slices_Contains : List (Nat × Con) := [(56, c_slices_Index)]
def h_slices_Contains : Hs := {
  con := lookC l_slices_Contains
  gl := glT }
theorem r_slices_Contains : (fun x => @vFun stuckC (tab Tryd.prog) h_slices_Contains 200 37 [(.sl iT), iT] ⟨[.s (.h .bool)], []⟩ x) = M_slices_Contains stuckC := by kernel_rfl
theorem k_slices_Contains : ConOk (tab Tryd.prog) glT 37 c_slices_Contains := con_of l_slices_Contains r_slices_Contains ⟨k_slices_Index, trivial⟩
def c_circ_Arity : Con := ⟨[iT], ⟨[.s (.h iT)], []⟩, m_circ_Arity⟩
def l_circ_Arity : List (Nat × Con) := []
def h_circ_Arity : Hs := {
  jr := (fun f b => match f, b with
  | 80, 28678 => some { keep := [0], sl := [(6, .s (.h .bool))] }
  | 80, 57357 => some { keep := [], sl := [(13, .s (.h .bool))] }
  | _, _ => none)
  con := lookC l_circ_Arity
  gl := glT }
theorem r_circ_Arity : (fun x => @vFun stuckC (tab Tryd.prog) h_circ_Arity 200 80 [iT] ⟨[.s (.h iT)], []⟩ x) = M_circ_Arity stuckC := by kernel_rfl
theorem k_circ_Arity : ConOk (tab Tryd.prog) glT 80 c_circ_Arity := con_of l_circ_Arity r_circ_Arity trivial
def c_circ_Check : Con := ⟨[cT], ⟨[.s (.h iT)], []⟩, m_circ_Check⟩
def l_circ_Check : List (Nat × Con) := [(37, c_slices_Contains), (80, c_circ_Arity)]
def h_circ_Check : Hs := {
  lp := (fun f b => match f, b with
  | 62, 0 => some { keep := [0, 1, 7], sl := [(8, .s (.h iT))] }
  | 65, 1 => some { keep := [2, 3, 30, 31], sl := [(32, .s (.h iT))] }
  | 43, 1 => some { keep := [3, 35, 36], sl := [(37, .s (.h iT))] }
  | _, _ => none)
  jr := (fun f b => match f, b with
  | 43, 32775 => some { keep := [1], sl := [(7, .s (.h .bool))] }
  | 79, 16387 => some { keep := [], sl := [(3, .s (.h .bool))] }
  | 35, 20484 => some { keep := [], sl := [(4, .s (.h .bool))] }
  | 65, 196655 => some { keep := [3, 8], sl := [(47, .s (.h .bool))] }
  | 65, 311371 => some { keep := [], sl := [(75, .s (.h .bool))] }
  | 43, 167942 => some { keep := [3, 35, 36, 37], sl := [(6, .s (.h iT))] }
  | _, _ => none)
  con := lookC l_circ_Check
  gl := glT }
theorem r_circ_Check : (fun x => @vFun stuckC (tab Tryd.prog) h_circ_Check 200 43 [cT] ⟨[.s (.h iT)], []⟩ x) = M_circ_Check stuckC := by kernel_rfl
theorem k_circ_Check : ConOk (tab Tryd.prog) glT 43 c_circ_Check := con_of l_circ_Check r_circ_Check ⟨k_slices_Contains, k_circ_Arity, trivial⟩
def c_sched_opened : Con := ⟨[kT, cT], ⟨[.s (.h (.opt pT)), .s (.h iT)], []⟩, m_sched_opened⟩
def l_sched_opened : List (Nat × Con) := [(42, c_sched_clock), (43, c_circ_Check)]
def h_sched_opened : Hs := {
  lp := (fun f b => match f, b with
  | 18, 0 => some { keep := [8, 35, 36], sl := [(37, .s (.h iT))], ob := [(2, true, .mp (.arr 2 iT) .bool)] }
  | _, _ => none)
  jr := (fun f b => match f, b with
  | 18, 172073 => some { keep := [8, 10, 35, 36, 37], sl := [(41, .s (.h .bool))] }
  | _, _ => none)
  oh := (fun f d => match f, d with
  | 18, 24 => some { t := some (.arr 2 iT), v := .bool }
  | 18, 25 => some { ars := [(3, 14, iT)] }
  | 18, 10 => some { ars := [(0, 2, iT)] }
  | 18, 80 => some { ars := [(0, 2, iT)] }
  | _, _ => none)
  con := lookC l_sched_opened
  gl := glT }
theorem r_sched_opened : (fun x => @vFun stuckC (tab Tryd.prog) h_sched_opened 200 18 [kT, cT] ⟨[.s (.h (.opt pT)), .s (.h iT)], []⟩ x) = M_sched_opened stuckC := by kernel_rfl
theorem k_sched_opened : ConOk (tab Tryd.prog) glT 18 c_sched_opened := con_of l_sched_opened r_sched_opened ⟨k_sched_clock, k_circ_Check, trivial⟩
def c_sched_reads : Con := ⟨[gT, iT], ⟨[.s (.h .bool)], []⟩, m_sched_reads⟩
def l_sched_reads : List (Nat × Con) := []
def h_sched_reads : Hs := {
  con := lookC l_sched_reads
  gl := glT }
theorem r_sched_reads : (fun x => @vFun stuckC (tab Tryd.prog) h_sched_reads 200 72 [gT, iT] ⟨[.s (.h .bool)], []⟩ x) = M_sched_reads stuckC := by kernel_rfl
theorem k_sched_reads : ConOk (tab Tryd.prog) glT 72 c_sched_reads := con_of l_sched_reads r_sched_reads trivial
def c_sched_common : Con := ⟨[(.sl iT), (.sl iT)], ⟨[.s (.h .bool)], []⟩, m_sched_common⟩
def l_sched_common : List (Nat × Con) := [(37, c_slices_Contains)]
def h_sched_common : Hs := {
  lp := (fun f b => match f, b with
  | 62, 0 => some { keep := [0, 1, 7], sl := [(8, .s (.h iT))] }
  | _, _ => none)
  jr := (fun f b => match f, b with
  | 35, 20484 => some { keep := [], sl := [(4, .s (.h .bool))] }
  | _, _ => none)
  con := lookC l_sched_common
  gl := glT }
theorem r_sched_common : (fun x => @vFun stuckC (tab Tryd.prog) h_sched_common 200 83 [(.sl iT), (.sl iT)] ⟨[.s (.h .bool)], []⟩ x) = M_sched_common stuckC := by kernel_rfl
theorem k_sched_common : ConOk (tab Tryd.prog) glT 83 c_sched_common := con_of l_sched_common r_sched_common ⟨k_slices_Contains, trivial⟩
def c_sched_writes : Con := ⟨[gT, iT], ⟨[.s (.h .bool)], []⟩, m_sched_writes⟩
def l_sched_writes : List (Nat × Con) := []
def h_sched_writes : Hs := {
  jr := (fun f b => match f, b with
  | 84, 20484 => some { keep := [], sl := [(4, .s (.h .bool))] }
  | _, _ => none)
  con := lookC l_sched_writes
  gl := glT }
theorem r_sched_writes : (fun x => @vFun stuckC (tab Tryd.prog) h_sched_writes 200 84 [gT, iT] ⟨[.s (.h .bool)], []⟩ x) = M_sched_writes stuckC := by kernel_rfl
theorem k_sched_writes : ConOk (tab Tryd.prog) glT 84 c_sched_writes := con_of l_sched_writes r_sched_writes trivial
def c_sched_meet : Con := ⟨[gT, gT], ⟨[.s (.h .bool)], []⟩, m_sched_meet⟩
def l_sched_meet : List (Nat × Con) := [(72, c_sched_reads), (83, c_sched_common), (84, c_sched_writes)]
def h_sched_meet : Hs := {
  jr := (fun f b => match f, b with
  | 71, 40964 => some { keep := [], sl := [(4, .s (.h .bool))] }
  | _, _ => none)
  con := lookC l_sched_meet
  gl := glT }
theorem r_sched_meet : (fun x => @vFun stuckC (tab Tryd.prog) h_sched_meet 200 71 [gT, gT] ⟨[.s (.h .bool)], []⟩ x) = M_sched_meet stuckC := by kernel_rfl
theorem k_sched_meet : ConOk (tab Tryd.prog) glT 71 c_sched_meet := con_of l_sched_meet r_sched_meet ⟨k_sched_reads, k_sched_common, k_sched_writes, trivial⟩
def c_sched_plan_disturb : Con := ⟨[(.ptr pT), iT, iT], ⟨[.s (.h .bool)], []⟩, m_sched_plan_disturb⟩
def l_sched_plan_disturb : List (Nat × Con) := [(71, c_sched_meet)]
def h_sched_plan_disturb : Hs := {
  lp := (fun f b => match f, b with
  | 61, 2 => some { keep := [0, 8, 10, 45, 46, 47, 52, 53], sl := [(54, .s (.h iT))] }
  | 61, 0 => some { keep := [0, 8, 45, 46], sl := [(47, .s (.h iT))] }
  | _, _ => none)
  jr := (fun f b => match f, b with
  | 61, 118827 => some { keep := [0, 7, 8], sl := [(43, .s (.h .bool))] }
  | _, _ => none)
  oh := (fun f d => match f, d with
  | 61, 64 => some { ars := [(0, 2, iT)] }
  | _, _ => none)
  con := lookC l_sched_plan_disturb
  gl := glT }
theorem r_sched_plan_disturb : (fun x => @vFun stuckC (tab Tryd.prog) h_sched_plan_disturb 200 61 [(.ptr pT), iT, iT] ⟨[.s (.h .bool)], []⟩ x) = M_sched_plan_disturb stuckC := by kernel_rfl
theorem k_sched_plan_disturb : ConOk (tab Tryd.prog) glT 61 c_sched_plan_disturb := con_of l_sched_plan_disturb r_sched_plan_disturb ⟨k_sched_meet, trivial⟩
def c_sched_plan_length : Con := ⟨[(.ptr pT), iT], ⟨[.s (.h iT)], []⟩, m_sched_plan_length⟩
def l_sched_plan_length : List (Nat × Con) := []
def h_sched_plan_length : Hs := {
  con := lookC l_sched_plan_length
  gl := glT }
theorem r_sched_plan_length : (fun x => @vFun stuckC (tab Tryd.prog) h_sched_plan_length 200 52 [(.ptr pT), iT] ⟨[.s (.h iT)], []⟩ x) = M_sched_plan_length stuckC := by kernel_rfl
theorem k_sched_plan_length : ConOk (tab Tryd.prog) glT 52 c_sched_plan_length := con_of l_sched_plan_length r_sched_plan_length trivial
def c_sched_plan_on : Con := ⟨[(.ptr pT), iT, iT], ⟨[.s (.h (.pair iT (.pair iT .unit)))], []⟩, m_sched_plan_on⟩
def l_sched_plan_on : List (Nat × Con) := [(52, c_sched_plan_length)]
def h_sched_plan_on : Hs := {
  con := lookC l_sched_plan_on
  gl := glT }
theorem r_sched_plan_on : (fun x => @vFun stuckC (tab Tryd.prog) h_sched_plan_on 200 66 [(.ptr pT), iT, iT] ⟨[.s (.h (.pair iT (.pair iT .unit)))], []⟩ x) = M_sched_plan_on stuckC := by kernel_rfl
theorem k_sched_plan_on : ConOk (tab Tryd.prog) glT 66 c_sched_plan_on := con_of l_sched_plan_on r_sched_plan_on ⟨k_sched_plan_length, trivial⟩
def c_sched_span_overlaps : Con := ⟨[(.pair iT (.pair iT .unit)), (.pair iT (.pair iT .unit))], ⟨[.s (.h .bool)], []⟩, m_sched_span_overlaps⟩
def l_sched_span_overlaps : List (Nat × Con) := []
def h_sched_span_overlaps : Hs := {
  jr := (fun f b => match f, b with
  | 67, 20484 => some { keep := [], sl := [(4, .s (.h .bool))] }
  | _, _ => none)
  con := lookC l_sched_span_overlaps
  gl := glT }
theorem r_sched_span_overlaps : (fun x => @vFun stuckC (tab Tryd.prog) h_sched_span_overlaps 200 67 [(.pair iT (.pair iT .unit)), (.pair iT (.pair iT .unit))] ⟨[.s (.h .bool)], []⟩ x) = M_sched_span_overlaps stuckC := by kernel_rfl
theorem k_sched_span_overlaps : ConOk (tab Tryd.prog) glT 67 c_sched_span_overlaps := con_of l_sched_span_overlaps r_sched_span_overlaps trivial
def c_sched_plan_free : Con := ⟨[(.ptr pT), iT, iT, (.sl iT), (.sl iT)], ⟨[.s (.h iT)], []⟩, m_sched_plan_free⟩
def l_sched_plan_free : List (Nat × Con) := [(61, c_sched_plan_disturb), (66, c_sched_plan_on), (67, c_sched_span_overlaps)]
def h_sched_plan_free : Hs := {
  lp := (fun f b => match f, b with
  | 44, 2 => some { keep := [0, 1, 3, 4, 14, 15], sl := [(2, .s (.h iT)), (16, .s (.h iT))] }
  | 44, 0 => some { keep := [0, 1, 3, 4], sl := [(2, .s (.h iT))] }
  | _, _ => none)
  jr := (fun f b => match f, b with
  | 44, 110630 => some { keep := [0, 1, 2, 3, 4, 13, 14, 15, 16], sl := [(38, .s (.h .bool))] }
  | _, _ => none)
  con := lookC l_sched_plan_free
  gl := glT }
theorem r_sched_plan_free : (fun x => @vFun stuckC (tab Tryd.prog) h_sched_plan_free 200 44 [(.ptr pT), iT, iT, (.sl iT), (.sl iT)] ⟨[.s (.h iT)], []⟩ x) = M_sched_plan_free stuckC := by kernel_rfl
theorem k_sched_plan_free : ConOk (tab Tryd.prog) glT 44 c_sched_plan_free := con_of l_sched_plan_free r_sched_plan_free ⟨k_sched_plan_disturb, k_sched_plan_on, k_sched_span_overlaps, trivial⟩
def c_sched_plan_late : Con := ⟨[(.ptr pT), iT, iT], ⟨[.s (.h iT)], []⟩, m_sched_plan_late⟩
def l_sched_plan_late : List (Nat × Con) := [(72, c_sched_reads)]
def h_sched_plan_late : Hs := {
  jr := (fun f b => match f, b with
  | 54, 65567 => some { keep := [0], sl := [(31, .s (.h .bool))] }
  | _, _ => none)
  con := lookC l_sched_plan_late
  gl := glT }
theorem r_sched_plan_late : (fun x => @vFun stuckC (tab Tryd.prog) h_sched_plan_late 200 54 [(.ptr pT), iT, iT] ⟨[.s (.h iT)], []⟩ x) = M_sched_plan_late stuckC := by kernel_rfl
theorem k_sched_plan_late : ConOk (tab Tryd.prog) glT 54 c_sched_plan_late := con_of l_sched_plan_late r_sched_plan_late ⟨k_sched_reads, trivial⟩
def c_slices_Max : Con := ⟨[(.sl iT)], ⟨[.s (.h iT)], []⟩, m_slices_Max⟩
def l_slices_Max : List (Nat × Con) := []
def h_slices_Max : Hs := {
  lp := (fun f b => match f, b with
  | 73, 0 => some { keep := [0], sl := [(3, .s (.h iT)), (4, .s (.h iT))] }
  | _, _ => none)
  con := lookC l_slices_Max
  gl := glT }
theorem r_slices_Max : (fun x => @vFun stuckC (tab Tryd.prog) h_slices_Max 200 73 [(.sl iT)] ⟨[.s (.h iT)], []⟩ x) = M_slices_Max stuckC := by kernel_rfl
theorem k_slices_Max : ConOk (tab Tryd.prog) glT 73 c_slices_Max := con_of l_slices_Max r_slices_Max trivial
def c_sched_greatest : Con := ⟨[(.sl iT)], ⟨[.s (.h iT)], []⟩, m_sched_greatest⟩
def l_sched_greatest : List (Nat × Con) := [(73, c_slices_Max)]
def h_sched_greatest : Hs := {
  con := lookC l_sched_greatest
  gl := glT }
theorem r_sched_greatest : (fun x => @vFun stuckC (tab Tryd.prog) h_sched_greatest 200 55 [(.sl iT)] ⟨[.s (.h iT)], []⟩ x) = M_sched_greatest stuckC := by kernel_rfl
theorem k_sched_greatest : ConOk (tab Tryd.prog) glT 55 c_sched_greatest := con_of l_sched_greatest r_sched_greatest ⟨k_slices_Max, trivial⟩
def c_sched_plan_holds : Con := ⟨[(.ptr pT), iT, iT], ⟨[.s (.h .bool)], []⟩, m_sched_plan_holds⟩
def l_sched_plan_holds : List (Nat × Con) := [(71, c_sched_meet)]
def h_sched_plan_holds : Hs := {
  con := lookC l_sched_plan_holds
  gl := glT }
theorem r_sched_plan_holds : (fun x => @vFun stuckC (tab Tryd.prog) h_sched_plan_holds 200 53 [(.ptr pT), iT, iT] ⟨[.s (.h .bool)], []⟩ x) = M_sched_plan_holds stuckC := by kernel_rfl
theorem k_sched_plan_holds : ConOk (tab Tryd.prog) glT 53 c_sched_plan_holds := con_of l_sched_plan_holds r_sched_plan_holds ⟨k_sched_meet, trivial⟩
def c_sched_plan_after : Con := ⟨[(.ptr pT), iT, (.sl iT)], ⟨[.s (.h iT)], []⟩, m_sched_plan_after⟩
def l_sched_plan_after : List (Nat × Con) := [(52, c_sched_plan_length), (53, c_sched_plan_holds), (54, c_sched_plan_late), (55, c_sched_greatest)]
def h_sched_plan_after : Hs := {
  lp := (fun f b => match f, b with
  | 82, 0 => some { keep := [0, 1, 2, 5], sl := [(6, .s (.h iT))], ob := [(1003, true, .r [.c (.h iT)] true)] }
  | _, _ => none)
  jr := (fun f b => match f, b with
  | 82, 36882 => some { keep := [0, 1, 2, 5, 6], sl := [(18, .s (.h .bool))], ob := [(1003, true, .r [.c (.h iT)] true)] }
  | _, _ => none)
  oh := (fun f d => match f, d with
  | 45, 27 => some { t := some iT }
  | _, _ => none)
  con := lookC l_sched_plan_after
  gl := glT }
theorem r_sched_plan_after : (fun x => @vFun stuckC (tab Tryd.prog) h_sched_plan_after 200 45 [(.ptr pT), iT, (.sl iT)] ⟨[.s (.h iT)], []⟩ x) = M_sched_plan_after stuckC := by kernel_rfl
theorem k_sched_plan_after : ConOk (tab Tryd.prog) glT 45 c_sched_plan_after := con_of l_sched_plan_after r_sched_plan_after ⟨k_sched_plan_length, k_sched_plan_holds, k_sched_plan_late, k_sched_greatest, trivial⟩
def c_sched_upto : Con := ⟨[iT, iT], ⟨[.s (.e (.gw 0))], [.r [.ar iT none] false]⟩, m_sched_upto⟩
def l_sched_upto : List (Nat × Con) := []
def h_sched_upto : Hs := {
  lp := (fun f b => match f, b with
  | 46, 0 => some { keep := [1], sl := [(5, .s (.e (.gw 0))), (6, .s (.h iT))], ob := [(0, false, .r [.ar iT none] false)], nils := [(5, iT)] }
  | _, _ => none)
  oh := (fun f d => match f, d with
  | 46, 15 => some { t := some iT }
  | _, _ => none)
  con := lookC l_sched_upto
  gl := glT }
theorem r_sched_upto : (fun x => @vFun stuckC (tab Tryd.prog) h_sched_upto 200 46 [iT, iT] ⟨[.s (.e (.gw 0))], [.r [.ar iT none] false]⟩ x) = M_sched_upto stuckC := by kernel_rfl
theorem k_sched_upto : ConOk (tab Tryd.prog) glT 46 c_sched_upto := con_of l_sched_upto r_sched_upto trivial
def c_sched_plan_early : Con := ⟨[(.ptr pT)], ⟨[.s (.e (.gw 0))], [.r [.ar iT none] false]⟩, m_sched_plan_early⟩
def l_sched_plan_early : List (Nat × Con) := [(44, c_sched_plan_free), (45, c_sched_plan_after), (46, c_sched_upto)]
def h_sched_plan_early : Hs := {
  lp := (fun f b => match f, b with
  | 19, 0 => some { keep := [0, 10], sl := [(3, .s (.e (.gw 0))), (11, .s (.h iT))], ob := [(0, false, .r [.ar iT none] false)], nils := [(3, iT)] }
  | _, _ => none)
  oh := (fun f d => match f, d with
  | 19, 25 => some { t := some iT }
  | _, _ => none)
  con := lookC l_sched_plan_early
  gl := glT }
theorem r_sched_plan_early : (fun x => @vFun stuckC (tab Tryd.prog) h_sched_plan_early 200 19 [(.ptr pT)] ⟨[.s (.e (.gw 0))], [.r [.ar iT none] false]⟩ x) = M_sched_plan_early stuckC := by kernel_rfl
theorem k_sched_plan_early : ConOk (tab Tryd.prog) glT 19 c_sched_plan_early := con_of l_sched_plan_early r_sched_plan_early ⟨k_sched_plan_free, k_sched_plan_after, k_sched_upto, trivial⟩
def c_sched_Early : Con := ⟨[kT, cT], ⟨[.s (.e (.gw 0)), .s (.h iT)], [.r [.ar iT none] false]⟩, m_sched_Early⟩
def l_sched_Early : List (Nat × Con) := [(18, c_sched_opened), (19, c_sched_plan_early)]
def h_sched_Early : Hs := {
  con := lookC l_sched_Early
  gl := glT }
theorem r_sched_Early : (fun x => @vFun stuckC (tab Tryd.prog) h_sched_Early 200 8 [kT, cT] ⟨[.s (.e (.gw 0)), .s (.h iT)], [.r [.ar iT none] false]⟩ x) = M_sched_Early stuckC := by kernel_rfl
theorem k_sched_Early : ConOk (tab Tryd.prog) glT 8 c_sched_Early := con_of l_sched_Early r_sched_Early ⟨k_sched_opened, k_sched_plan_early, trivial⟩
def c_sched_with_1 : Con := ⟨[iT], ⟨[.s (.h .bool)], []⟩, m_sched_with_1⟩
def l_sched_with_1 : List (Nat × Con) := []
def h_sched_with_1 : Hs := {
  jr := (fun f b => match f, b with
  | 47, 12290 => some { keep := [], sl := [(2, .s (.h .bool))] }
  | _, _ => none)
  con := lookC l_sched_with_1
  gl := glT }
theorem r_sched_with_1 : (fun x => @vFun stuckC (tab Tryd.prog) h_sched_with_1 200 47 [iT] ⟨[.s (.h .bool)], []⟩ x) = M_sched_with_1 stuckC := by kernel_rfl
theorem k_sched_with_1 : ConOk (tab Tryd.prog) glT 47 c_sched_with_1 := con_of l_sched_with_1 r_sched_with_1 trivial
def c_sched_with : Con := ⟨[kT, cT, (.sl iT)], ⟨[.s (.h (.opt pT)), .s (.h iT), .s (.h iT)], []⟩, m_sched_with⟩
def l_sched_with : List (Nat × Con) := [(18, c_sched_opened), (45, c_sched_plan_after), (47, c_sched_with_1), (61, c_sched_plan_disturb), (66, c_sched_plan_on), (67, c_sched_span_overlaps)]
def h_sched_with : Hs := {
  lp := (fun f b => match f, b with
  | 62, 0 => some { keep := [0, 1, 7], sl := [(8, .s (.h iT))] }
  | 109, 0 => some { keep := [0, 1, 2, 8], sl := [(9, .s (.h iT))] }
  | 20, 1 => some { keep := [2, 9, 35], sl := [(36, .s (.h iT))] }
  | _, _ => none)
  jr := (fun f b => match f, b with
  | 35, 20484 => some { keep := [], sl := [(4, .s (.h .bool))] }
  | 109, 49184 => some { keep := [0, 1, 2, 8, 9], sl := [(32, .s (.h .bool))] }
  | 20, 176177 => some { keep := [2, 9, 11, 13, 35, 36, 39, 40], sl := [(49, .s (.h .bool))] }
  | _, _ => none)
  con := lookC l_sched_with
  gl := glT }
theorem r_sched_with : (fun x => @vFun stuckC (tab Tryd.prog) h_sched_with 200 20 [kT, cT, (.sl iT)] ⟨[.s (.h (.opt pT)), .s (.h iT), .s (.h iT)], []⟩ x) = M_sched_with stuckC := by kernel_rfl
theorem k_sched_with : ConOk (tab Tryd.prog) glT 20 c_sched_with := con_of l_sched_with r_sched_with ⟨k_sched_opened, k_sched_plan_after, k_sched_with_1, k_sched_plan_disturb, k_sched_plan_on, k_sched_span_overlaps, trivial⟩
def c_sched_Right : Con := ⟨[kT, cT, (.sl iT)], ⟨[.s (.h iT), .s (.h iT)], []⟩, m_sched_Right⟩
def l_sched_Right : List (Nat × Con) := [(20, c_sched_with)]
def h_sched_Right : Hs := {
  con := lookC l_sched_Right
  gl := glT }
theorem r_sched_Right : (fun x => @vFun stuckC (tab Tryd.prog) h_sched_Right 200 9 [kT, cT, (.sl iT)] ⟨[.s (.h iT), .s (.h iT)], []⟩ x) = M_sched_Right stuckC := by kernel_rfl
theorem k_sched_Right : ConOk (tab Tryd.prog) glT 9 c_sched_Right := con_of l_sched_Right r_sched_Right ⟨k_sched_with, trivial⟩
def c_spoondriftlaw24_holds_2 : Con := ⟨[gT, gT], ⟨[.s (.h .bool)], []⟩, m_spoondriftlaw24_holds_2⟩
def l_spoondriftlaw24_holds_2 : List (Nat × Con) := []
def h_spoondriftlaw24_holds_2 : Hs := {
  jr := (fun f b => match f, b with
  | 38, 20484 => some { keep := [], sl := [(4, .s (.h .bool))] }
  | _, _ => none)
  con := lookC l_spoondriftlaw24_holds_2
  gl := glT }
theorem r_spoondriftlaw24_holds_2 : (fun x => @vFun stuckC (tab Tryd.prog) h_spoondriftlaw24_holds_2 200 38 [gT, gT] ⟨[.s (.h .bool)], []⟩ x) = M_spoondriftlaw24_holds_2 stuckC := by kernel_rfl
theorem k_spoondriftlaw24_holds_2 : ConOk (tab Tryd.prog) glT 38 c_spoondriftlaw24_holds_2 := con_of l_spoondriftlaw24_holds_2 r_spoondriftlaw24_holds_2 trivial
def c_spoondriftlaw24_holds : Con := ⟨[kT, gT, gT], ⟨[.s (.h iT), .s (.h .bool)], []⟩, m_spoondriftlaw24_holds⟩
def l_spoondriftlaw24_holds : List (Nat × Con) := [(37, c_slices_Contains), (38, c_spoondriftlaw24_holds_2)]
def h_spoondriftlaw24_holds : Hs := {
  lp := (fun f b => match f, b with
  | 62, 0 => some { keep := [0, 1, 7], sl := [(8, .s (.h iT))] }
  | _, _ => none)
  jn := (fun f b => match f, b with
  | 13, 32 => some { keep := [4, 5, 8, 9], sl := [(10, .s (.h iT))] }
  | _, _ => none)
  jr := (fun f b => match f, b with
  | 35, 20484 => some { keep := [], sl := [(4, .s (.h .bool))] }
  | 13, 90144 => some { keep := [3, 4, 5, 8, 9, 10], sl := [(32, .s (.h .bool))] }
  | 13, 151559 => some { keep := [], sl := [(6, .s (.h iT)), (7, .s (.h .bool))] }
  | _, _ => none)
  con := lookC l_spoondriftlaw24_holds
  gl := glT }
theorem r_spoondriftlaw24_holds : (fun x => @vFun stuckC (tab Tryd.prog) h_spoondriftlaw24_holds 200 13 [kT, gT, gT] ⟨[.s (.h iT), .s (.h .bool)], []⟩ x) = M_spoondriftlaw24_holds stuckC := by kernel_rfl
theorem k_spoondriftlaw24_holds : ConOk (tab Tryd.prog) glT 13 c_spoondriftlaw24_holds := con_of l_spoondriftlaw24_holds r_spoondriftlaw24_holds ⟨k_slices_Contains, k_spoondriftlaw24_holds_2, trivial⟩
def c_spoondriftlaw24_disturbs : Con := ⟨[kT, gT, gT], ⟨[.s (.h .bool)], []⟩, m_spoondriftlaw24_disturbs⟩
def l_spoondriftlaw24_disturbs : List (Nat × Con) := [(37, c_slices_Contains)]
def h_spoondriftlaw24_disturbs : Hs := {
  lp := (fun f b => match f, b with
  | 69, 0 => some { keep := [0, 1, 7], sl := [(8, .s (.h iT))] }
  | _, _ => none)
  jr := (fun f b => match f, b with
  | 49, 20484 => some { keep := [], sl := [(4, .s (.h .bool))] }
  | 48, 20484 => some { keep := [], sl := [(4, .s (.h .bool))] }
  | 21, 28678 => some { keep := [], sl := [(6, .s (.h .bool))] }
  | _, _ => none)
  con := lookC l_spoondriftlaw24_disturbs
  gl := glT }
theorem r_spoondriftlaw24_disturbs : (fun x => @vFun stuckC (tab Tryd.prog) h_spoondriftlaw24_disturbs 200 21 [kT, gT, gT] ⟨[.s (.h .bool)], []⟩ x) = M_spoondriftlaw24_disturbs stuckC := by kernel_rfl
theorem k_spoondriftlaw24_disturbs : ConOk (tab Tryd.prog) glT 21 c_spoondriftlaw24_disturbs := con_of l_spoondriftlaw24_disturbs r_spoondriftlaw24_disturbs ⟨k_slices_Contains, trivial⟩
def c_spoondriftlaw24_fine : Con := ⟨[kT, cT, (.sl iT)], ⟨[.s (.h .bool)], []⟩, m_spoondriftlaw24_fine⟩
def l_spoondriftlaw24_fine : List (Nat × Con) := [(13, c_spoondriftlaw24_holds), (21, c_spoondriftlaw24_disturbs)]
def h_spoondriftlaw24_fine : Hs := {
  lp := (fun f b => match f, b with
  | 10, 2 => some { keep := [2, 3, 4, 7, 8, 20, 21, 22, 42, 43], sl := [(44, .s (.h iT))] }
  | 10, 0 => some { keep := [2, 3, 4, 20, 21], sl := [(22, .s (.h iT))] }
  | _, _ => none)
  jr := (fun f b => match f, b with
  | 10, 110630 => some { keep := [2, 3, 4, 7, 8, 20, 21, 22], sl := [(38, .s (.h .bool))] }
  | 10, 229493 => some { keep := [2, 3, 4, 7, 8, 20, 21, 22, 42, 43, 44], sl := [(117, .s (.h .bool))] }
  | _, _ => none)
  con := lookC l_spoondriftlaw24_fine
  gl := glT }
theorem r_spoondriftlaw24_fine : (fun x => @vFun stuckC (tab Tryd.prog) h_spoondriftlaw24_fine 200 10 [kT, cT, (.sl iT)] ⟨[.s (.h .bool)], []⟩ x) = M_spoondriftlaw24_fine stuckC := by kernel_rfl
theorem k_spoondriftlaw24_fine : ConOk (tab Tryd.prog) glT 10 c_spoondriftlaw24_fine := con_of l_spoondriftlaw24_fine r_spoondriftlaw24_fine ⟨k_spoondriftlaw24_holds, k_spoondriftlaw24_disturbs, trivial⟩
def c_slices_Clone : Con := ⟨[(.sl iT)], ⟨[.s (.e (.gw 0))], [.r [.ar iT none] false]⟩, m_slices_Clone⟩
def l_slices_Clone : List (Nat × Con) := []
def h_slices_Clone : Hs := {
  oh := (fun f d => match f, d with
  | 11, 5 => some { t := some iT }
  | _, _ => none)
  con := lookC l_slices_Clone
  gl := glT }
theorem r_slices_Clone : (fun x => @vFun stuckC (tab Tryd.prog) h_slices_Clone 200 11 [(.sl iT)] ⟨[.s (.e (.gw 0))], [.r [.ar iT none] false]⟩ x) = M_slices_Clone stuckC := by kernel_rfl
theorem k_slices_Clone : ConOk (tab Tryd.prog) glT 11 c_slices_Clone := by
  have := con_of l_slices_Clone r_slices_Clone trivial
  rw [q_slices_Clone] at this
  exact this
def c_spoondriftlaw24_clock : Con := ⟨[(.sl (.arr 2 iT))], ⟨[.s (.h kT)], []⟩, m_spoondriftlaw24_clock⟩
def l_spoondriftlaw24_clock : List (Nat × Con) := []
def h_spoondriftlaw24_clock : Hs := {
  lp := (fun f b => match f, b with
  | 22, 0 => some { keep := [2, 3], sl := [(8, .s (.h iT))], ob := [(1, true, .r [.c (.e (.gw 2)), .c (.h iT), .c (.h (.sl (.arr 2 iT)))] true), (2, false, .r [.ar iT none] false)], nilo := [(1, 0, iT)] }
  | _, _ => none)
  jn := (fun f b => match f, b with
  | 22, 17 => some { keep := [2, 3, 8], sl := [(5, .s (.h iT))] }
  | 22, 15 => some { keep := [2, 3, 8], sl := [(5, .s (.h iT))] }
  | 22, 13 => some { keep := [2, 3, 8], sl := [(5, .s (.h iT))] }
  | _, _ => none)
  oh := (fun f d => match f, d with
  | 22, 22 => some { t := some iT }
  | _, _ => none)
  con := lookC l_spoondriftlaw24_clock
  gl := glT }
theorem r_spoondriftlaw24_clock : (fun x => @vFun stuckC (tab Tryd.prog) h_spoondriftlaw24_clock 200 22 [(.sl (.arr 2 iT))] ⟨[.s (.h kT)], []⟩ x) = M_spoondriftlaw24_clock stuckC := by kernel_rfl
theorem k_spoondriftlaw24_clock : ConOk (tab Tryd.prog) glT 22 c_spoondriftlaw24_clock := con_of l_spoondriftlaw24_clock r_spoondriftlaw24_clock trivial
def c_spoondriftlaw24_gate : Con := ⟨[iT, (.sl iT)], ⟨[.s (.h gT)], []⟩, m_spoondriftlaw24_gate⟩
def l_spoondriftlaw24_gate : List (Nat × Con) := []
def h_spoondriftlaw24_gate : Hs := {
  con := lookC l_spoondriftlaw24_gate
  gl := glT }
theorem r_spoondriftlaw24_gate : (fun x => @vFun stuckC (tab Tryd.prog) h_spoondriftlaw24_gate 200 23 [iT, (.sl iT)] ⟨[.s (.h gT)], []⟩ x) = M_spoondriftlaw24_gate stuckC := by kernel_rfl
theorem k_spoondriftlaw24_gate : ConOk (tab Tryd.prog) glT 23 c_spoondriftlaw24_gate := con_of l_spoondriftlaw24_gate r_spoondriftlaw24_gate trivial
def c_sched_plan_end : Con := ⟨[(.ptr pT), (.sl iT)], ⟨[.s (.h iT)], []⟩, m_sched_plan_end⟩
def l_sched_plan_end : List (Nat × Con) := [(52, c_sched_plan_length), (55, c_sched_greatest)]
def h_sched_plan_end : Hs := {
  lp := (fun f b => match f, b with
  | 50, 0 => some { keep := [0, 8, 9], sl := [(5, .s (.e (.gw 0))), (10, .s (.h iT))], ob := [(0, false, .r [.ar iT none] false)], nils := [(5, iT)] }
  | _, _ => none)
  oh := (fun f d => match f, d with
  | 50, 21 => some { t := some iT }
  | _, _ => none)
  con := lookC l_sched_plan_end
  gl := glT }
theorem r_sched_plan_end : (fun x => @vFun stuckC (tab Tryd.prog) h_sched_plan_end 200 50 [(.ptr pT), (.sl iT)] ⟨[.s (.h iT)], []⟩ x) = M_sched_plan_end stuckC := by kernel_rfl
theorem k_sched_plan_end : ConOk (tab Tryd.prog) glT 50 c_sched_plan_end := con_of l_sched_plan_end r_sched_plan_end ⟨k_sched_plan_length, k_sched_greatest, trivial⟩
def c_sched_Length : Con := ⟨[kT, cT, (.sl iT)], ⟨[.s (.h iT), .s (.h iT)], []⟩, m_sched_Length⟩
def l_sched_Length : List (Nat × Con) := [(20, c_sched_with), (50, c_sched_plan_end)]
def h_sched_Length : Hs := {
  con := lookC l_sched_Length
  gl := glT }
theorem r_sched_Length : (fun x => @vFun stuckC (tab Tryd.prog) h_sched_Length 200 24 [kT, cT, (.sl iT)] ⟨[.s (.h iT), .s (.h iT)], []⟩ x) = M_sched_Length stuckC := by kernel_rfl
theorem k_sched_Length : ConOk (tab Tryd.prog) glT 24 c_sched_Length := con_of l_sched_Length r_sched_Length ⟨k_sched_with, k_sched_plan_end, trivial⟩
def c_sched_plan_before : Con := ⟨[(.ptr pT), iT, iT, (.sl iT), (.sl iT)], ⟨[.s (.h iT)], []⟩, m_sched_plan_before⟩
def l_sched_plan_before : List (Nat × Con) := [(52, c_sched_plan_length), (61, c_sched_plan_disturb), (66, c_sched_plan_on), (67, c_sched_span_overlaps)]
def h_sched_plan_before : Hs := {
  lp := (fun f b => match f, b with
  | 70, 2 => some { keep := [0, 1, 3, 4, 14, 15], sl := [(2, .s (.h iT)), (16, .s (.h iT))] }
  | 70, 0 => some { keep := [0, 1, 3, 4], sl := [(2, .s (.h iT))] }
  | _, _ => none)
  jr := (fun f b => match f, b with
  | 70, 110630 => some { keep := [0, 1, 2, 3, 4, 13, 14, 15, 16], sl := [(38, .s (.h .bool))] }
  | _, _ => none)
  con := lookC l_sched_plan_before
  gl := glT }
theorem r_sched_plan_before : (fun x => @vFun stuckC (tab Tryd.prog) h_sched_plan_before 200 70 [(.ptr pT), iT, iT, (.sl iT), (.sl iT)] ⟨[.s (.h iT)], []⟩ x) = M_sched_plan_before stuckC := by kernel_rfl
theorem k_sched_plan_before : ConOk (tab Tryd.prog) glT 70 c_sched_plan_before := con_of l_sched_plan_before r_sched_plan_before ⟨k_sched_plan_length, k_sched_plan_disturb, k_sched_plan_on, k_sched_span_overlaps, trivial⟩
def c_sched_plan_latest : Con := ⟨[(.ptr pT), iT], ⟨[.s (.e (.gw 0)), .s (.h .bool)], [.r [.ar iT none] false]⟩, m_sched_plan_latest⟩
def l_sched_plan_latest : List (Nat × Con) := [(46, c_sched_upto), (52, c_sched_plan_length), (53, c_sched_plan_holds), (54, c_sched_plan_late), (70, c_sched_plan_before)]
def h_sched_plan_latest : Hs := {
  lp := (fun f b => match f, b with
  | 51, 2 => some { keep := [0, 1, 6, 7], sl := [(8, .s (.h iT)), (9, .s (.h iT))] }
  | 51, 0 => some { keep := [0, 1, 6], sl := [(7, .s (.h iT))], ob := [(0, true, .r [.ar iT none] true)] }
  | _, _ => none)
  jn := (fun f b => match f, b with
  | 51, 48 => some { keep := [0, 1, 6, 7, 9], sl := [(8, .s (.h iT))] }
  | _, _ => none)
  oh := (fun f d => match f, d with
  | 51, 16 => some { t := some iT }
  | _, _ => none)
  con := lookC l_sched_plan_latest
  gl := glT }
theorem r_sched_plan_latest : (fun x => @vFun stuckC (tab Tryd.prog) h_sched_plan_latest 200 51 [(.ptr pT), iT] ⟨[.s (.e (.gw 0)), .s (.h .bool)], [.r [.ar iT none] false]⟩ x) = M_sched_plan_latest stuckC := by kernel_rfl
theorem k_sched_plan_latest : ConOk (tab Tryd.prog) glT 51 c_sched_plan_latest := con_of l_sched_plan_latest r_sched_plan_latest ⟨k_sched_upto, k_sched_plan_length, k_sched_plan_holds, k_sched_plan_late, k_sched_plan_before, trivial⟩
def c_sched_Late : Con := ⟨[kT, cT, iT], ⟨[.s (.e (.gw 0)), .s (.h iT)], [.r [.ar iT none] false]⟩, m_sched_Late⟩
def l_sched_Late : List (Nat × Con) := [(18, c_sched_opened), (51, c_sched_plan_latest)]
def h_sched_Late : Hs := {
  jr := (fun f b => match f, b with
  | 25, 94230 => some { keep := [2, 8], sl := [(22, .s (.h .bool))] }
  | _, _ => none)
  con := lookC l_sched_Late
  gl := glT }
theorem r_sched_Late : (fun x => @vFun stuckC (tab Tryd.prog) h_sched_Late 200 25 [kT, cT, iT] ⟨[.s (.e (.gw 0)), .s (.h iT)], [.r [.ar iT none] false]⟩ x) = M_sched_Late stuckC := by kernel_rfl
theorem k_sched_Late : ConOk (tab Tryd.prog) glT 25 c_sched_Late := con_of l_sched_Late r_sched_Late ⟨k_sched_opened, k_sched_plan_latest, trivial⟩
def c_sched_Slack : Con := ⟨[kT, cT], ⟨[.s (.e (.gw 0)), .s (.h iT)], [.r [.ar iT none] false]⟩, m_sched_Slack⟩
def l_sched_Slack : List (Nat × Con) := [(19, c_sched_plan_early), (42, c_sched_clock), (43, c_circ_Check), (50, c_sched_plan_end), (51, c_sched_plan_latest)]
def h_sched_Slack : Hs := {
  lp := (fun f b => match f, b with
  | 18, 0 => some { keep := [8, 35, 36], sl := [(37, .s (.h iT))], ob := [(2, true, .mp (.arr 2 iT) .bool)] }
  | 26, 0 => some { keep := [9, 36, 37], sl := [(11, .s (.e (.gw 8))), (38, .s (.h iT))], ob := [(8, false, .r [.ar iT none] false)], nils := [(11, iT)] }
  | _, _ => none)
  jr := (fun f b => match f, b with
  | 18, 172073 => some { keep := [8, 10, 35, 36, 37], sl := [(41, .s (.h .bool))] }
  | _, _ => none)
  oh := (fun f d => match f, d with
  | 18, 24 => some { t := some (.arr 2 iT), v := .bool }
  | 18, 25 => some { ars := [(3, 14, iT)] }
  | 18, 10 => some { ars := [(0, 2, iT)] }
  | 18, 80 => some { ars := [(0, 2, iT)] }
  | 26, 50 => some { t := some iT }
  | _, _ => none)
  con := lookC l_sched_Slack
  gl := glT }
theorem r_sched_Slack : (fun x => @vFun stuckC (tab Tryd.prog) h_sched_Slack 200 26 [kT, cT] ⟨[.s (.e (.gw 0)), .s (.h iT)], [.r [.ar iT none] false]⟩ x) = M_sched_Slack stuckC := by kernel_rfl
theorem k_sched_Slack : ConOk (tab Tryd.prog) glT 26 c_sched_Slack := con_of l_sched_Slack r_sched_Slack ⟨k_sched_plan_early, k_sched_clock, k_circ_Check, k_sched_plan_end, k_sched_plan_latest, trivial⟩
def c_sched_Chain : Con := ⟨[kT, cT], ⟨[.s (.e (.gw 0)), .s (.h iT), .s (.h iT)], [.r [.ar iT none] false]⟩, m_sched_Chain⟩
def l_sched_Chain : List (Nat × Con) := [(18, c_sched_opened), (52, c_sched_plan_length), (53, c_sched_plan_holds), (54, c_sched_plan_late), (55, c_sched_greatest), (56, c_slices_Index)]
def h_sched_Chain : Hs := {
  lp := (fun f b => match f, b with
  | 27, 2 => some { keep := [7, 9, 10, 11, 12], sl := [(13, .s (.h iT))], ob := [(2, true, .r [.ar iT none] true), (3, true, .r [.ar iT none] true)] }
  | 27, 0 => some { keep := [7, 9, 10, 11], sl := [(12, .s (.h iT))], ob := [(2, true, .r [.ar iT none] true), (3, true, .r [.ar iT none] true)] }
  | 27, 4 => some { keep := [11, 14], sl := [(15, .s (.e (.gw 4))), (16, .s (.h iT))], ob := [(4, false, .r [.ar iT none] false)], nils := [(15, iT)] }
  | _, _ => none)
  jn := (fun f b => match f, b with
  | 27, 81 => some { keep := [7, 9, 10, 11, 12, 13], sl := [], ob := [(2, true, .r [.ar iT none] true), (3, true, .r [.ar iT none] true)] }
  | _, _ => none)
  jr := (fun f b => match f, b with
  | 27, 237649 => some { keep := [7, 9, 10, 11, 12, 13], sl := [(81, .s (.h .bool))] }
  | _, _ => none)
  oh := (fun f d => match f, d with
  | 27, 33 => some { t := some iT }
  | 27, 35 => some { t := some iT }
  | 27, 115 => some { t := some iT }
  | _, _ => none)
  con := lookC l_sched_Chain
  gl := glT }
theorem r_sched_Chain : (fun x => @vFun stuckC (tab Tryd.prog) h_sched_Chain 200 27 [kT, cT] ⟨[.s (.e (.gw 0)), .s (.h iT), .s (.h iT)], [.r [.ar iT none] false]⟩ x) = M_sched_Chain stuckC := by kernel_rfl
theorem k_sched_Chain : ConOk (tab Tryd.prog) glT 27 c_sched_Chain := con_of l_sched_Chain r_sched_Chain ⟨k_sched_opened, k_sched_plan_length, k_sched_plan_holds, k_sched_plan_late, k_sched_greatest, k_slices_Index, trivial⟩
def c_sched_plan_has : Con := ⟨[(.ptr pT), (.sl iT)], ⟨[.s (.h .bool)], []⟩, m_sched_plan_has⟩
def l_sched_plan_has : List (Nat × Con) := []
def h_sched_plan_has : Hs := {
  lp := (fun f b => match f, b with
  | 62, 0 => some { keep := [0, 1, 7], sl := [(8, .s (.h iT))] }
  | _, _ => none)
  jr := (fun f b => match f, b with
  | 74, 16387 => some { keep := [], sl := [(3, .s (.h .bool))] }
  | 35, 20484 => some { keep := [], sl := [(4, .s (.h .bool))] }
  | _, _ => none)
  con := lookC l_sched_plan_has
  gl := glT }
theorem r_sched_plan_has : (fun x => @vFun stuckC (tab Tryd.prog) h_sched_plan_has 200 57 [(.ptr pT), (.sl iT)] ⟨[.s (.h .bool)], []⟩ x) = M_sched_plan_has stuckC := by kernel_rfl
theorem k_sched_plan_has : ConOk (tab Tryd.prog) glT 57 c_sched_plan_has := con_of l_sched_plan_has r_sched_plan_has trivial
def c_sched_Shows : Con := ⟨[kT, cT, (.sl iT)], ⟨[.s (.h iT), .s (.h iT)], []⟩, m_sched_Shows⟩
def l_sched_Shows : List (Nat × Con) := [(18, c_sched_opened), (52, c_sched_plan_length), (53, c_sched_plan_holds), (54, c_sched_plan_late), (57, c_sched_plan_has)]
def h_sched_Shows : Hs := {
  lp := (fun f b => match f, b with
  | 28, 1 => some { keep := [2, 8], sl := [(10, .s (.h iT))] }
  | 28, 3 => some { keep := [2, 8, 45, 46], sl := [(11, .s (.h iT)), (47, .s (.h iT))] }
  | _, _ => none)
  jn := (fun f b => match f, b with
  | 28, 53 => some { keep := [2, 8, 13, 45, 46, 47], sl := [(11, .s (.h iT))] }
  | _, _ => none)
  con := lookC l_sched_Shows
  gl := glT }
theorem r_sched_Shows : (fun x => @vFun stuckC (tab Tryd.prog) h_sched_Shows 200 28 [kT, cT, (.sl iT)] ⟨[.s (.h iT), .s (.h iT)], []⟩ x) = M_sched_Shows stuckC := by kernel_rfl
theorem k_sched_Shows : ConOk (tab Tryd.prog) glT 28 c_sched_Shows := con_of l_sched_Shows r_sched_Shows ⟨k_sched_opened, k_sched_plan_length, k_sched_plan_holds, k_sched_plan_late, k_sched_plan_has, trivial⟩
def c_sched_Idle : Con := ⟨[kT, cT, (.sl iT)], ⟨[.s (.e (.gw 0)), .s (.h iT)], [.r [.ar iT none] false]⟩, m_sched_Idle⟩
def l_sched_Idle : List (Nat × Con) := [(20, c_sched_with), (50, c_sched_plan_end), (52, c_sched_plan_length)]
def h_sched_Idle : Hs := {
  lp := (fun f b => match f, b with
  | 29, 0 => some { keep := [2, 8, 11, 35], sl := [(36, .s (.h iT))], ob := [(2, true, .r [.ar iT none] true)] }
  | 29, 4 => some { keep := [8, 11, 13, 50, 51, 52, 58, 59], sl := [(60, .s (.h iT))], ob := [(2, true, .r [.ar iT none] true)] }
  | 29, 2 => some { keep := [8, 11, 50, 51], sl := [(52, .s (.h iT))], ob := [(2, true, .r [.ar iT none] true)] }
  | _, _ => none)
  oh := (fun f d => match f, d with
  | 29, 33 => some { t := some iT }
  | _, _ => none)
  con := lookC l_sched_Idle
  gl := glT }
theorem r_sched_Idle : (fun x => @vFun stuckC (tab Tryd.prog) h_sched_Idle 200 29 [kT, cT, (.sl iT)] ⟨[.s (.e (.gw 0)), .s (.h iT)], [.r [.ar iT none] false]⟩ x) = M_sched_Idle stuckC := by kernel_rfl
theorem k_sched_Idle : ConOk (tab Tryd.prog) glT 29 c_sched_Idle := con_of l_sched_Idle r_sched_Idle ⟨k_sched_with, k_sched_plan_end, k_sched_plan_length, trivial⟩
def c_slices_Equal : Con := ⟨[(.sl iT), (.sl iT)], ⟨[.s (.h .bool)], []⟩, m_slices_Equal⟩
def l_slices_Equal : List (Nat × Con) := []
def h_slices_Equal : Hs := {
  lp := (fun f b => match f, b with
  | 58, 0 => some { keep := [0, 1, 12], sl := [(13, .s (.h iT))] }
  | _, _ => none)
  con := lookC l_slices_Equal
  gl := glT }
theorem r_slices_Equal : (fun x => @vFun stuckC (tab Tryd.prog) h_slices_Equal 200 58 [(.sl iT), (.sl iT)] ⟨[.s (.h .bool)], []⟩ x) = M_slices_Equal stuckC := by kernel_rfl
theorem k_slices_Equal : ConOk (tab Tryd.prog) glT 58 c_slices_Equal := con_of l_slices_Equal r_slices_Equal trivial
def c_spoondriftlaw24_known : Con := ⟨[(.sl iT), iT, (.sl iT)], ⟨[.s (.h .bool)], []⟩, m_spoondriftlaw24_known⟩
def l_spoondriftlaw24_known : List (Nat × Con) := [(58, c_slices_Equal)]
def h_spoondriftlaw24_known : Hs := {
  jr := (fun f b => match f, b with
  | 30, 28678 => some { keep := [], sl := [(6, .s (.h .bool))] }
  | _, _ => none)
  con := lookC l_spoondriftlaw24_known
  gl := glT }
theorem r_spoondriftlaw24_known : (fun x => @vFun stuckC (tab Tryd.prog) h_spoondriftlaw24_known 200 30 [(.sl iT), iT, (.sl iT)] ⟨[.s (.h .bool)], []⟩ x) = M_spoondriftlaw24_known stuckC := by kernel_rfl
theorem k_spoondriftlaw24_known : ConOk (tab Tryd.prog) glT 30 c_spoondriftlaw24_known := con_of l_spoondriftlaw24_known r_spoondriftlaw24_known ⟨k_slices_Equal, trivial⟩
def c_sched_Holds : Con := ⟨[kT, cT, iT, iT], ⟨[.s (.h iT), .s (.h iT)], []⟩, m_sched_Holds⟩
def l_sched_Holds : List (Nat × Con) := [(18, c_sched_opened), (52, c_sched_plan_length), (53, c_sched_plan_holds), (54, c_sched_plan_late), (57, c_sched_plan_has)]
def h_sched_Holds : Hs := {
  oh := (fun f d => match f, d with
  | 31, 26 => some { t := some iT }
  | _, _ => none)
  con := lookC l_sched_Holds
  gl := glT }
theorem r_sched_Holds : (fun x => @vFun stuckC (tab Tryd.prog) h_sched_Holds 200 31 [kT, cT, iT, iT] ⟨[.s (.h iT), .s (.h iT)], []⟩ x) = M_sched_Holds stuckC := by kernel_rfl
theorem k_sched_Holds : ConOk (tab Tryd.prog) glT 31 c_sched_Holds := con_of l_sched_Holds r_sched_Holds ⟨k_sched_opened, k_sched_plan_length, k_sched_plan_holds, k_sched_plan_late, k_sched_plan_has, trivial⟩
def c_cmp_isNaN : Con := ⟨[iT], ⟨[.s (.h .bool)], []⟩, m_cmp_isNaN⟩
def l_cmp_isNaN : List (Nat × Con) := []
def h_cmp_isNaN : Hs := {
  con := lookC l_cmp_isNaN
  gl := glT }
theorem r_cmp_isNaN : (fun x => @vFun stuckC (tab Tryd.prog) h_cmp_isNaN 200 89 [iT] ⟨[.s (.h .bool)], []⟩ x) = M_cmp_isNaN stuckC := by kernel_rfl
theorem k_cmp_isNaN : ConOk (tab Tryd.prog) glT 89 c_cmp_isNaN := con_of l_cmp_isNaN r_cmp_isNaN trivial
def c_cmp_Compare : Con := ⟨[iT, iT], ⟨[.s (.h iT)], []⟩, m_cmp_Compare⟩
def l_cmp_Compare : List (Nat × Con) := [(89, c_cmp_isNaN)]
def h_cmp_Compare : Hs := {
  con := lookC l_cmp_Compare
  gl := glT }
theorem r_cmp_Compare : (fun x => @vFun stuckC (tab Tryd.prog) h_cmp_Compare 200 85 [iT, iT] ⟨[.s (.h iT)], []⟩ x) = M_cmp_Compare stuckC := by kernel_rfl
theorem k_cmp_Compare : ConOk (tab Tryd.prog) glT 85 c_cmp_Compare := con_of l_cmp_Compare r_cmp_Compare ⟨k_cmp_isNaN, trivial⟩
def c_slices_Compare : Con := ⟨[(.sl iT), (.sl iT)], ⟨[.s (.h iT)], []⟩, m_slices_Compare⟩
def l_slices_Compare : List (Nat × Con) := [(85, c_cmp_Compare)]
def h_slices_Compare : Hs := {
  lp := (fun f b => match f, b with
  | 76, 0 => some { keep := [0, 1, 9, 10], sl := [(11, .s (.h iT))] }
  | _, _ => none)
  con := lookC l_slices_Compare
  gl := glT }
theorem r_slices_Compare : (fun x => @vFun stuckC (tab Tryd.prog) h_slices_Compare 200 76 [(.sl iT), (.sl iT)] ⟨[.s (.h iT)], []⟩ x) = M_slices_Compare stuckC := by kernel_rfl
theorem k_slices_Compare : ConOk (tab Tryd.prog) glT 76 c_slices_Compare := con_of l_slices_Compare r_slices_Compare ⟨k_cmp_Compare, trivial⟩
def c_sched_Quiet : Con := ⟨[kT], ⟨[.s (.h kT), .s (.h iT)], []⟩, m_sched_Quiet⟩
def l_sched_Quiet : List (Nat × Con) := [(11, c_slices_Clone), (42, c_sched_clock)]
def h_sched_Quiet : Hs := {
  con := lookC l_sched_Quiet
  gl := glT }
theorem r_sched_Quiet : (fun x => @vFun stuckC (tab Tryd.prog) h_sched_Quiet 200 33 [kT] ⟨[.s (.h kT), .s (.h iT)], []⟩ x) = M_sched_Quiet stuckC := by kernel_rfl
theorem k_sched_Quiet : ConOk (tab Tryd.prog) glT 33 c_sched_Quiet := con_of l_sched_Quiet r_sched_Quiet ⟨k_slices_Clone, k_sched_clock, trivial⟩
def c_sched_Disturb : Con := ⟨[kT, cT, iT, iT], ⟨[.s (.h .bool), .s (.h iT)], []⟩, m_sched_Disturb⟩
def l_sched_Disturb : List (Nat × Con) := [(18, c_sched_opened), (57, c_sched_plan_has), (61, c_sched_plan_disturb)]
def h_sched_Disturb : Hs := {
  oh := (fun f d => match f, d with
  | 34, 26 => some { t := some iT }
  | _, _ => none)
  con := lookC l_sched_Disturb
  gl := glT }
theorem r_sched_Disturb : (fun x => @vFun stuckC (tab Tryd.prog) h_sched_Disturb 200 34 [kT, cT, iT, iT] ⟨[.s (.h .bool), .s (.h iT)], []⟩ x) = M_sched_Disturb stuckC := by kernel_rfl
theorem k_sched_Disturb : ConOk (tab Tryd.prog) glT 34 c_sched_Disturb := con_of l_sched_Disturb r_sched_Disturb ⟨k_sched_opened, k_sched_plan_has, k_sched_plan_disturb, trivial⟩
end
end Go.Canon
namespace Go.Canon
open Go
set_option maxRecDepth 100000
set_option maxHeartbeats 0
set_option linter.unusedVariables false
noncomputable section
open Go.Proofs
def l_spoondriftlaw24_awake : List (Nat × Con) := [(15, c_slices_Clone_uint8), (4, c_spoondriftkit_Of), (40, c_spoondriftkit_Arity), (64, c_sched_clock_1), (42, c_sched_clock), (56, c_slices_Index), (37, c_slices_Contains), (80, c_circ_Arity), (43, c_circ_Check), (72, c_sched_reads), (83, c_sched_common), (84, c_sched_writes), (71, c_sched_meet), (61, c_sched_plan_disturb), (52, c_sched_plan_length), (66, c_sched_plan_on), (67, c_sched_span_overlaps), (44, c_sched_plan_free), (54, c_sched_plan_late), (73, c_slices_Max), (55, c_sched_greatest), (53, c_sched_plan_holds), (45, c_sched_plan_after), (46, c_sched_upto), (19, c_sched_plan_early), (8, c_sched_Early), (47, c_sched_with_1), (20, c_sched_with), (9, c_sched_Right), (38, c_spoondriftlaw24_holds_2), (13, c_spoondriftlaw24_holds), (21, c_spoondriftlaw24_disturbs), (10, c_spoondriftlaw24_fine), (11, c_slices_Clone), (22, c_spoondriftlaw24_clock), (23, c_spoondriftlaw24_gate), (50, c_sched_plan_end), (24, c_sched_Length), (70, c_sched_plan_before), (51, c_sched_plan_latest), (25, c_sched_Late), (26, c_sched_Slack), (27, c_sched_Chain), (57, c_sched_plan_has), (28, c_sched_Shows), (29, c_sched_Idle), (58, c_slices_Equal), (30, c_spoondriftlaw24_known), (31, c_sched_Holds), (89, c_cmp_isNaN), (85, c_cmp_Compare), (76, c_slices_Compare), (33, c_sched_Quiet), (34, c_sched_Disturb)]
def h_spoondriftlaw24_awake : Hs := {
  oh := (fun f d => match f, d with
  | 12, 26 => some { t := some iT }
  | 12, 28 => some { t := some iT }
  | 12, 30 => some { t := some iT }
  | 12, 32 => some { t := some gT }
  | 12, 43 => some { t := some iT }
  | 12, 69 => some { t := some iT }
  | 12, 76 => some { t := some iT }
  | 12, 83 => some { t := some iT }
  | 12, 89 => some { t := some iT }
  | 12, 103 => some { t := some iT }
  | 12, 110 => some { t := some iT }
  | 12, 117 => some { t := some iT }
  | 12, 140 => some { t := some iT }
  | 12, 144 => some { t := some iT }
  | 12, 146 => some { t := some iT }
  | 12, 148 => some { t := some gT }
  | 12, 162 => some { t := some iT }
  | 12, 164 => some { t := some iT }
  | 12, 166 => some { t := some gT }
  | 12, 169 => some { ars := [(0, 2, iT)] }
  | 12, 170 => some { t := some (.arr 2 iT) }
  | 12, 177 => some { ars := [(0, 2, iT)] }
  | 12, 178 => some { t := some (.arr 2 iT) }
  | 60, 5 => some { ars := [(0, 7, iT)] }
  | 60, 6 => some { ars := [(0, 7, iT)] }
  | 60, 18 => some { t := some iT }
  | 60, 19 => some { t := some (.arr 7 iT), v := .bool }
  | 75, 9 => some { ars := [(0, 7, iT)] }
  | 75, 82 => some { t := some iT }
  | 60, 27 => some { t := some iT }
  | 12, 186 => some { t := some (.arr 2 iT) }
  | 12, 199 => some { t := some (.arr 2 iT) }
  | 12, 207 => some { t := some iT }
  | 12, 220 => some { t := some iT }
  | 18, 24 => some { t := some (.arr 2 iT), v := .bool }
  | 18, 25 => some { ars := [(3, 14, iT)] }
  | 18, 10 => some { ars := [(0, 2, iT)] }
  | 18, 80 => some { ars := [(0, 2, iT)] }
  | _, _ => none)
  con := lookC l_spoondriftlaw24_awake
  gl := glT }
def c_spoondriftlaw24_awake : Con := ⟨[], ⟨[.s (.h .bool)], []⟩, m_spoondriftlaw24_awake⟩
theorem e_spoondriftlaw24_awake : @vFun realC (tab Tryd.prog) h_spoondriftlaw24_awake 400 12 [] ⟨[.s (.h .bool)], []⟩ () = some ((true, ()), ()) := by kernel_rfl
theorem k_spoondriftlaw24_awake : ConOk (tab Tryd.prog) glT 12 c_spoondriftlaw24_awake := con_eq l_spoondriftlaw24_awake (by funext x; exact e_spoondriftlaw24_awake) ⟨k_slices_Clone_uint8, k_spoondriftkit_Of, k_spoondriftkit_Arity, k_sched_clock_1, k_sched_clock, k_slices_Index, k_slices_Contains, k_circ_Arity, k_circ_Check, k_sched_reads, k_sched_common, k_sched_writes, k_sched_meet, k_sched_plan_disturb, k_sched_plan_length, k_sched_plan_on, k_sched_span_overlaps, k_sched_plan_free, k_sched_plan_late, k_slices_Max, k_sched_greatest, k_sched_plan_holds, k_sched_plan_after, k_sched_upto, k_sched_plan_early, k_sched_Early, k_sched_with_1, k_sched_with, k_sched_Right, k_spoondriftlaw24_holds_2, k_spoondriftlaw24_holds, k_spoondriftlaw24_disturbs, k_spoondriftlaw24_fine, k_slices_Clone, k_spoondriftlaw24_clock, k_spoondriftlaw24_gate, k_sched_plan_end, k_sched_Length, k_sched_plan_before, k_sched_plan_latest, k_sched_Late, k_sched_Slack, k_sched_Chain, k_sched_plan_has, k_sched_Shows, k_sched_Idle, k_slices_Equal, k_spoondriftlaw24_known, k_sched_Holds, k_cmp_isNaN, k_cmp_Compare, k_slices_Compare, k_sched_Quiet, k_sched_Disturb, trivial⟩
end
end Go.Canon
namespace Go.Canon
open Go
set_option maxRecDepth 100000
set_option maxHeartbeats 0
set_option linter.unusedVariables false
noncomputable section
open Go.Proofs
def c_spoondriftlaw24_SchedEarly : Con := ⟨[(.sl (.int .u8)), (.sl (.int .u8)), (.sl (.int .u8)), .bool], ⟨[.s (.h .bool)], []⟩, m_spoondriftlaw24_SchedEarly⟩
def l_spoondriftlaw24_SchedEarly : List (Nat × Con) := [(4, c_spoondriftkit_Of), (8, c_sched_Early), (9, c_sched_Right), (10, c_spoondriftlaw24_fine), (11, c_slices_Clone), (12, c_spoondriftlaw24_awake), (13, c_spoondriftlaw24_holds)]
def lm_spoondriftlaw24_SchedEarly : List (Nat × MCon) := [(5, c_spoondriftkit_Store_Steered), (6, c_spoondriftkit_Store_From), (7, c_spoondriftlaw24_Ticking), (14, c_spoondriftkit_Store_Less)]
def h_spoondriftlaw24_SchedEarly : Hs := {
  lp := (fun f b => match f, b with
  | 3, 2 => some { keep := [2, 3, 10, 11, 12, 16, 18, 73, 74, 75, 90], sl := [(91, .s (.h iT))] }
  | 3, 0 => some { keep := [2, 3, 10, 11, 12, 73, 74], sl := [(75, .s (.h iT))] }
  | 3, 6 => some { keep := [10, 11, 12, 21, 22, 23, 24, 115, 116, 117, 125, 126], sl := [(25, .s (.h iT)), (127, .s (.h iT))] }
  | 3, 4 => some { keep := [10, 11, 12, 21, 22, 115, 116], sl := [(117, .s (.h iT))], ob := [(5, true, .r [.c (.h (.sl (.int .u8))), .c (.h iT), .c (.h (.int .u32))] true), (6, true, .r [.ar iT none] true)] }
  | _, _ => none)
  jn := (fun f b => match f, b with
  | 3, 139 => some { keep := [10, 11, 12, 21, 22, 23, 24, 115, 116, 117, 125, 126, 127], sl := [(25, .s (.h iT))] }
  | _, _ => none)
  jr := (fun f b => match f, b with
  | 3, 229448 => some { keep := [2, 3, 10, 11, 12], sl := [(72, .s (.h .bool))] }
  | 3, 696328 => some { keep := [], sl := [(8, .s (.h .bool))] }
  | _, _ => none)
  oh := (fun f d => match f, d with
  | 3, 99 => some { t := some iT }
  | 3, 113 => some { t := some iT }
  | _, _ => none)
  con := lookC l_spoondriftlaw24_SchedEarly
  mcon := lookM lm_spoondriftlaw24_SchedEarly
  gl := glT }
theorem r_spoondriftlaw24_SchedEarly : (fun x => @vFun stuckC (tab Tryd.prog) h_spoondriftlaw24_SchedEarly 200 3 [(.sl (.int .u8)), (.sl (.int .u8)), (.sl (.int .u8)), .bool] ⟨[.s (.h .bool)], []⟩ x) = M_spoondriftlaw24_SchedEarly stuckC := by kernel_rfl
theorem k_spoondriftlaw24_SchedEarly : ConOk (tab Tryd.prog) glT 3 c_spoondriftlaw24_SchedEarly := con_ofM l_spoondriftlaw24_SchedEarly lm_spoondriftlaw24_SchedEarly r_spoondriftlaw24_SchedEarly ⟨k_spoondriftkit_Of, k_sched_Early, k_sched_Right, k_spoondriftlaw24_fine, k_slices_Clone, k_spoondriftlaw24_awake, k_spoondriftlaw24_holds, trivial⟩ ⟨k_spoondriftkit_Store_Steered, k_spoondriftkit_Store_From, k_spoondriftlaw24_Ticking, k_spoondriftkit_Store_Less, trivial⟩
end
end Go.Canon
