/- SchedChains, part 6: the canonical machine and the runs of the program's functions on it. No conditions. -/
import Derived.Test.YtdiojhjojmmahabDoorProg
import Derived.Test.YtdiojhjojmmahabDoorChP5
set_option linter.unusedSectionVars false
set_option linter.unusedVariables false
set_option linter.unusedSimpArgs false
namespace Go.Canon
open Go
set_option maxRecDepth 100000
set_option maxHeartbeats 0
set_option linter.unusedVariables false
noncomputable section
open Go.Proofs
def glT : Nat → List (Sg V) := fun g => match g with
  | 0 => [.c (.fn 109 [] []), .c (.i .i64 15), .c (.fn 110 [] []), .c (.i .i64 7)]
  | _ => []
def c_spoondriftlaw24_great : Con := ⟨[kT], ⟨[.s (.h .bool)], []⟩, m_spoondriftlaw24_great⟩
def l_spoondriftlaw24_great : List (Nat × Con) := []
def h_spoondriftlaw24_great : Hs := {
  jr := (fun f b => match f, b with
  | 4, 12290 => some { keep := [], sl := [(2, .s (.h .bool))] }
  | _, _ => none)
  con := lookC l_spoondriftlaw24_great
  gl := glT }
theorem r_spoondriftlaw24_great : (fun x => @vFun stuckC (tab Tryd.prog) h_spoondriftlaw24_great 200 4 [kT] ⟨[.s (.h .bool)], []⟩ x) = M_spoondriftlaw24_great stuckC := by kernel_rfl
theorem k_spoondriftlaw24_great : ConOk (tab Tryd.prog) glT 4 c_spoondriftlaw24_great := con_of l_spoondriftlaw24_great r_spoondriftlaw24_great trivial
def c_spoondriftkit_Great_1 : Con := ⟨[gT], ⟨[.s (.h .bool)], []⟩, m_spoondriftkit_Great_1⟩
def l_spoondriftkit_Great_1 : List (Nat × Con) := []
def h_spoondriftkit_Great_1 : Hs := {
  con := lookC l_spoondriftkit_Great_1
  gl := glT }
theorem r_spoondriftkit_Great_1 : (fun x => @vFun stuckC (tab Tryd.prog) h_spoondriftkit_Great_1 200 18 [gT] ⟨[.s (.h .bool)], []⟩ x) = M_spoondriftkit_Great_1 stuckC := by kernel_rfl
theorem k_spoondriftkit_Great_1 : ConOk (tab Tryd.prog) glT 18 c_spoondriftkit_Great_1 := con_of l_spoondriftkit_Great_1 r_spoondriftkit_Great_1 trivial
def c_spoondriftkit_Great : Con := ⟨[cT], ⟨[.s (.h .bool)], []⟩, m_spoondriftkit_Great⟩
def l_spoondriftkit_Great : List (Nat × Con) := [(18, c_spoondriftkit_Great_1)]
def h_spoondriftkit_Great : Hs := {
  lp := (fun f b => match f, b with
  | 45, 0 => some { keep := [0, 1, 7], sl := [(8, .s (.h iT))] }
  | _, _ => none)
  jr := (fun f b => match f, b with
  | 17, 20484 => some { keep := [], sl := [(4, .s (.h .bool))] }
  | 5, 12290 => some { keep := [], sl := [(2, .s (.h .bool))] }
  | _, _ => none)
  con := lookC l_spoondriftkit_Great
  gl := glT }
theorem r_spoondriftkit_Great : (fun x => @vFun stuckC (tab Tryd.prog) h_spoondriftkit_Great 200 5 [cT] ⟨[.s (.h .bool)], []⟩ x) = M_spoondriftkit_Great stuckC := by kernel_rfl
theorem k_spoondriftkit_Great : ConOk (tab Tryd.prog) glT 5 c_spoondriftkit_Great := con_of l_spoondriftkit_Great r_spoondriftkit_Great ⟨k_spoondriftkit_Great_1, trivial⟩
def c_sched_clock_1 : Con := ⟨[iT], ⟨[.s (.h .bool)], []⟩, m_sched_clock_1⟩
def l_sched_clock_1 : List (Nat × Con) := []
def h_sched_clock_1 : Hs := {
  jr := (fun f b => match f, b with
  | 72, 12290 => some { keep := [], sl := [(2, .s (.h .bool))] }
  | _, _ => none)
  con := lookC l_sched_clock_1
  gl := glT }
theorem r_sched_clock_1 : (fun x => @vFun stuckC (tab Tryd.prog) h_sched_clock_1 200 72 [iT] ⟨[.s (.h .bool)], []⟩ x) = M_sched_clock_1 stuckC := by kernel_rfl
theorem k_sched_clock_1 : ConOk (tab Tryd.prog) glT 72 c_sched_clock_1 := con_of l_sched_clock_1 r_sched_clock_1 trivial
def c_sched_clock : Con := ⟨[kT], ⟨[.s (.h iT)], []⟩, m_sched_clock⟩
def l_sched_clock : List (Nat × Con) := [(72, c_sched_clock_1)]
def h_sched_clock : Hs := {
  lp := (fun f b => match f, b with
  | 80, 0 => some { keep := [0, 1, 7], sl := [(8, .s (.h iT))] }
  | _, _ => none)
  jr := (fun f b => match f, b with
  | 61, 20484 => some { keep := [], sl := [(4, .s (.h .bool))] }
  | 52, 36872 => some { keep := [], sl := [(8, .s (.h .bool))] }
  | _, _ => none)
  con := lookC l_sched_clock
  gl := glT }
theorem r_sched_clock : (fun x => @vFun stuckC (tab Tryd.prog) h_sched_clock 200 52 [kT] ⟨[.s (.h iT)], []⟩ x) = M_sched_clock stuckC := by kernel_rfl
theorem k_sched_clock : ConOk (tab Tryd.prog) glT 52 c_sched_clock := con_of l_sched_clock r_sched_clock ⟨k_sched_clock_1, trivial⟩
def c_slices_Index : Con := ⟨[(.sl iT), iT], ⟨[.s (.h iT)], []⟩, m_slices_Index⟩
def l_slices_Index : List (Nat × Con) := []
def h_slices_Index : Hs := {
  lp := (fun f b => match f, b with
  | 37, 0 => some { keep := [0, 1, 7], sl := [(8, .s (.h iT))] }
  | _, _ => none)
  con := lookC l_slices_Index
  gl := glT }
theorem r_slices_Index : (fun x => @vFun stuckC (tab Tryd.prog) h_slices_Index 200 37 [(.sl iT), iT] ⟨[.s (.h iT)], []⟩ x) = M_slices_Index stuckC := by kernel_rfl
theorem k_slices_Index : ConOk (tab Tryd.prog) glT 37 c_slices_Index := con_of l_slices_Index r_slices_Index trivial
def c_slices_Contains : Con := ⟨[(.sl iT), iT], ⟨[.s (.h .bool)], []⟩, m_slices_Contains⟩
def l_slices_Contains : List (Nat × Con) := [(37, c_slices_Index)]
def h_slices_Contains : Hs := {
  con := lookC l_slices_Contains
  gl := glT }
theorem r_slices_Contains : (fun x => @vFun stuckC (tab Tryd.prog) h_slices_Contains 200 70 [(.sl iT), iT] ⟨[.s (.h .bool)], []⟩ x) = M_slices_Contains stuckC := by kernel_rfl
theorem k_slices_Contains : ConOk (tab Tryd.prog) glT 70 c_slices_Contains := con_of l_slices_Contains r_slices_Contains ⟨k_slices_Index, trivial⟩
def c_circ_Arity : Con := ⟨[iT], ⟨[.s (.h iT)], []⟩, m_circ_Arity⟩
def l_circ_Arity : List (Nat × Con) := []
def h_circ_Arity : Hs := {
  jr := (fun f b => match f, b with
  | 86, 28678 => some { keep := [0], sl := [(6, .s (.h .bool))] }
  | 86, 57357 => some { keep := [], sl := [(13, .s (.h .bool))] }
  | _, _ => none)
  con := lookC l_circ_Arity
  gl := glT }
theorem r_circ_Arity : (fun x => @vFun stuckC (tab Tryd.prog) h_circ_Arity 200 86 [iT] ⟨[.s (.h iT)], []⟩ x) = M_circ_Arity stuckC := by kernel_rfl
theorem k_circ_Arity : ConOk (tab Tryd.prog) glT 86 c_circ_Arity := con_of l_circ_Arity r_circ_Arity trivial
def c_circ_Check : Con := ⟨[cT], ⟨[.s (.h iT)], []⟩, m_circ_Check⟩
def l_circ_Check : List (Nat × Con) := [(70, c_slices_Contains), (86, c_circ_Arity)]
def h_circ_Check : Hs := {
  lp := (fun f b => match f, b with
  | 80, 0 => some { keep := [0, 1, 7], sl := [(8, .s (.h iT))] }
  | 73, 1 => some { keep := [2, 3, 30, 31], sl := [(32, .s (.h iT))] }
  | 54, 1 => some { keep := [3, 35, 36], sl := [(37, .s (.h iT))] }
  | _, _ => none)
  jr := (fun f b => match f, b with
  | 54, 32775 => some { keep := [1], sl := [(7, .s (.h .bool))] }
  | 85, 16387 => some { keep := [], sl := [(3, .s (.h .bool))] }
  | 61, 20484 => some { keep := [], sl := [(4, .s (.h .bool))] }
  | 73, 196655 => some { keep := [3, 8], sl := [(47, .s (.h .bool))] }
  | 73, 311371 => some { keep := [], sl := [(75, .s (.h .bool))] }
  | 54, 167942 => some { keep := [3, 35, 36, 37], sl := [(6, .s (.h iT))] }
  | _, _ => none)
  con := lookC l_circ_Check
  gl := glT }
theorem r_circ_Check : (fun x => @vFun stuckC (tab Tryd.prog) h_circ_Check 200 54 [cT] ⟨[.s (.h iT)], []⟩ x) = M_circ_Check stuckC := by kernel_rfl
theorem k_circ_Check : ConOk (tab Tryd.prog) glT 54 c_circ_Check := con_of l_circ_Check r_circ_Check ⟨k_slices_Contains, k_circ_Arity, trivial⟩
def c_sched_opened : Con := ⟨[kT, cT], ⟨[.s (.h (.opt pT)), .s (.h iT)], []⟩, m_sched_opened⟩
def l_sched_opened : List (Nat × Con) := [(52, c_sched_clock), (54, c_circ_Check)]
def h_sched_opened : Hs := {
  lp := (fun f b => match f, b with
  | 32, 0 => some { keep := [8, 35, 36], sl := [(37, .s (.h iT))], ob := [(2, true, .mp (.arr 2 iT) .bool)] }
  | _, _ => none)
  jr := (fun f b => match f, b with
  | 32, 172073 => some { keep := [8, 10, 35, 36, 37], sl := [(41, .s (.h .bool))] }
  | _, _ => none)
  oh := (fun f d => match f, d with
  | 32, 24 => some { t := some (.arr 2 iT), v := .bool }
  | 32, 25 => some { ars := [(3, 14, iT)] }
  | 32, 10 => some { ars := [(0, 2, iT)] }
  | 32, 80 => some { ars := [(0, 2, iT)] }
  | _, _ => none)
  con := lookC l_sched_opened
  gl := glT }
theorem r_sched_opened : (fun x => @vFun stuckC (tab Tryd.prog) h_sched_opened 200 32 [kT, cT] ⟨[.s (.h (.opt pT)), .s (.h iT)], []⟩ x) = M_sched_opened stuckC := by kernel_rfl
theorem k_sched_opened : ConOk (tab Tryd.prog) glT 32 c_sched_opened := con_of l_sched_opened r_sched_opened ⟨k_sched_clock, k_circ_Check, trivial⟩
def c_sched_plan_length : Con := ⟨[(.ptr pT), iT], ⟨[.s (.h iT)], []⟩, m_sched_plan_length⟩
def l_sched_plan_length : List (Nat × Con) := []
def h_sched_plan_length : Hs := {
  con := lookC l_sched_plan_length
  gl := glT }
theorem r_sched_plan_length : (fun x => @vFun stuckC (tab Tryd.prog) h_sched_plan_length 200 33 [(.ptr pT), iT] ⟨[.s (.h iT)], []⟩ x) = M_sched_plan_length stuckC := by kernel_rfl
theorem k_sched_plan_length : ConOk (tab Tryd.prog) glT 33 c_sched_plan_length := con_of l_sched_plan_length r_sched_plan_length trivial
def c_sched_reads : Con := ⟨[gT, iT], ⟨[.s (.h .bool)], []⟩, m_sched_reads⟩
def l_sched_reads : List (Nat × Con) := []
def h_sched_reads : Hs := {
  con := lookC l_sched_reads
  gl := glT }
theorem r_sched_reads : (fun x => @vFun stuckC (tab Tryd.prog) h_sched_reads 200 56 [gT, iT] ⟨[.s (.h .bool)], []⟩ x) = M_sched_reads stuckC := by kernel_rfl
theorem k_sched_reads : ConOk (tab Tryd.prog) glT 56 c_sched_reads := con_of l_sched_reads r_sched_reads trivial
def c_sched_common : Con := ⟨[(.sl iT), (.sl iT)], ⟨[.s (.h .bool)], []⟩, m_sched_common⟩
def l_sched_common : List (Nat × Con) := [(70, c_slices_Contains)]
def h_sched_common : Hs := {
  lp := (fun f b => match f, b with
  | 80, 0 => some { keep := [0, 1, 7], sl := [(8, .s (.h iT))] }
  | _, _ => none)
  jr := (fun f b => match f, b with
  | 61, 20484 => some { keep := [], sl := [(4, .s (.h .bool))] }
  | _, _ => none)
  con := lookC l_sched_common
  gl := glT }
theorem r_sched_common : (fun x => @vFun stuckC (tab Tryd.prog) h_sched_common 200 74 [(.sl iT), (.sl iT)] ⟨[.s (.h .bool)], []⟩ x) = M_sched_common stuckC := by kernel_rfl
theorem k_sched_common : ConOk (tab Tryd.prog) glT 74 c_sched_common := con_of l_sched_common r_sched_common ⟨k_slices_Contains, trivial⟩
def c_sched_writes : Con := ⟨[gT, iT], ⟨[.s (.h .bool)], []⟩, m_sched_writes⟩
def l_sched_writes : List (Nat × Con) := []
def h_sched_writes : Hs := {
  jr := (fun f b => match f, b with
  | 75, 20484 => some { keep := [], sl := [(4, .s (.h .bool))] }
  | _, _ => none)
  con := lookC l_sched_writes
  gl := glT }
theorem r_sched_writes : (fun x => @vFun stuckC (tab Tryd.prog) h_sched_writes 200 75 [gT, iT] ⟨[.s (.h .bool)], []⟩ x) = M_sched_writes stuckC := by kernel_rfl
theorem k_sched_writes : ConOk (tab Tryd.prog) glT 75 c_sched_writes := con_of l_sched_writes r_sched_writes trivial
def c_sched_meet : Con := ⟨[gT, gT], ⟨[.s (.h .bool)], []⟩, m_sched_meet⟩
def l_sched_meet : List (Nat × Con) := [(56, c_sched_reads), (74, c_sched_common), (75, c_sched_writes)]
def h_sched_meet : Hs := {
  jr := (fun f b => match f, b with
  | 55, 40964 => some { keep := [], sl := [(4, .s (.h .bool))] }
  | _, _ => none)
  con := lookC l_sched_meet
  gl := glT }
theorem r_sched_meet : (fun x => @vFun stuckC (tab Tryd.prog) h_sched_meet 200 55 [gT, gT] ⟨[.s (.h .bool)], []⟩ x) = M_sched_meet stuckC := by kernel_rfl
theorem k_sched_meet : ConOk (tab Tryd.prog) glT 55 c_sched_meet := con_of l_sched_meet r_sched_meet ⟨k_sched_reads, k_sched_common, k_sched_writes, trivial⟩
def c_sched_plan_holds : Con := ⟨[(.ptr pT), iT, iT], ⟨[.s (.h .bool)], []⟩, m_sched_plan_holds⟩
def l_sched_plan_holds : List (Nat × Con) := [(55, c_sched_meet)]
def h_sched_plan_holds : Hs := {
  con := lookC l_sched_plan_holds
  gl := glT }
theorem r_sched_plan_holds : (fun x => @vFun stuckC (tab Tryd.prog) h_sched_plan_holds 200 34 [(.ptr pT), iT, iT] ⟨[.s (.h .bool)], []⟩ x) = M_sched_plan_holds stuckC := by kernel_rfl
theorem k_sched_plan_holds : ConOk (tab Tryd.prog) glT 34 c_sched_plan_holds := con_of l_sched_plan_holds r_sched_plan_holds ⟨k_sched_meet, trivial⟩
def c_sched_plan_late : Con := ⟨[(.ptr pT), iT, iT], ⟨[.s (.h iT)], []⟩, m_sched_plan_late⟩
def l_sched_plan_late : List (Nat × Con) := [(56, c_sched_reads)]
def h_sched_plan_late : Hs := {
  jr := (fun f b => match f, b with
  | 35, 65567 => some { keep := [0], sl := [(31, .s (.h .bool))] }
  | _, _ => none)
  con := lookC l_sched_plan_late
  gl := glT }
theorem r_sched_plan_late : (fun x => @vFun stuckC (tab Tryd.prog) h_sched_plan_late 200 35 [(.ptr pT), iT, iT] ⟨[.s (.h iT)], []⟩ x) = M_sched_plan_late stuckC := by kernel_rfl
theorem k_sched_plan_late : ConOk (tab Tryd.prog) glT 35 c_sched_plan_late := con_of l_sched_plan_late r_sched_plan_late ⟨k_sched_reads, trivial⟩
def c_slices_Max : Con := ⟨[(.sl iT)], ⟨[.s (.h iT)], []⟩, m_slices_Max⟩
def l_slices_Max : List (Nat × Con) := []
def h_slices_Max : Hs := {
  lp := (fun f b => match f, b with
  | 57, 0 => some { keep := [0], sl := [(3, .s (.h iT)), (4, .s (.h iT))] }
  | _, _ => none)
  con := lookC l_slices_Max
  gl := glT }
theorem r_slices_Max : (fun x => @vFun stuckC (tab Tryd.prog) h_slices_Max 200 57 [(.sl iT)] ⟨[.s (.h iT)], []⟩ x) = M_slices_Max stuckC := by kernel_rfl
theorem k_slices_Max : ConOk (tab Tryd.prog) glT 57 c_slices_Max := con_of l_slices_Max r_slices_Max trivial
def c_sched_greatest : Con := ⟨[(.sl iT)], ⟨[.s (.h iT)], []⟩, m_sched_greatest⟩
def l_sched_greatest : List (Nat × Con) := [(57, c_slices_Max)]
def h_sched_greatest : Hs := {
  con := lookC l_sched_greatest
  gl := glT }
theorem r_sched_greatest : (fun x => @vFun stuckC (tab Tryd.prog) h_sched_greatest 200 36 [(.sl iT)] ⟨[.s (.h iT)], []⟩ x) = M_sched_greatest stuckC := by kernel_rfl
theorem k_sched_greatest : ConOk (tab Tryd.prog) glT 36 c_sched_greatest := con_of l_sched_greatest r_sched_greatest ⟨k_slices_Max, trivial⟩
def c_sched_Chain : Con := ⟨[kT, cT], ⟨[.s (.e (.gw 0)), .s (.h iT), .s (.h iT)], [.r [.ar iT none] false]⟩, m_sched_Chain⟩
def l_sched_Chain : List (Nat × Con) := [(32, c_sched_opened), (33, c_sched_plan_length), (34, c_sched_plan_holds), (35, c_sched_plan_late), (36, c_sched_greatest), (37, c_slices_Index)]
def h_sched_Chain : Hs := {
  lp := (fun f b => match f, b with
  | 10, 2 => some { keep := [7, 9, 10, 11, 12], sl := [(13, .s (.h iT))], ob := [(2, true, .r [.ar iT none] true), (3, true, .r [.ar iT none] true)] }
  | 10, 0 => some { keep := [7, 9, 10, 11], sl := [(12, .s (.h iT))], ob := [(2, true, .r [.ar iT none] true), (3, true, .r [.ar iT none] true)] }
  | 10, 4 => some { keep := [11, 14], sl := [(15, .s (.e (.gw 4))), (16, .s (.h iT))], ob := [(4, false, .r [.ar iT none] false)], nils := [(15, iT)] }
  | _, _ => none)
  jn := (fun f b => match f, b with
  | 10, 81 => some { keep := [7, 9, 10, 11, 12, 13], sl := [], ob := [(2, true, .r [.ar iT none] true), (3, true, .r [.ar iT none] true)] }
  | _, _ => none)
  jr := (fun f b => match f, b with
  | 10, 237649 => some { keep := [7, 9, 10, 11, 12, 13], sl := [(81, .s (.h .bool))] }
  | _, _ => none)
  oh := (fun f d => match f, d with
  | 10, 33 => some { t := some iT }
  | 10, 35 => some { t := some iT }
  | 10, 115 => some { t := some iT }
  | _, _ => none)
  con := lookC l_sched_Chain
  gl := glT }
theorem r_sched_Chain : (fun x => @vFun stuckC (tab Tryd.prog) h_sched_Chain 200 10 [kT, cT] ⟨[.s (.e (.gw 0)), .s (.h iT), .s (.h iT)], [.r [.ar iT none] false]⟩ x) = M_sched_Chain stuckC := by kernel_rfl
theorem k_sched_Chain : ConOk (tab Tryd.prog) glT 10 c_sched_Chain := con_of l_sched_Chain r_sched_Chain ⟨k_sched_opened, k_sched_plan_length, k_sched_plan_holds, k_sched_plan_late, k_sched_greatest, k_slices_Index, trivial⟩
def c_sched_plan_has : Con := ⟨[(.ptr pT), (.sl iT)], ⟨[.s (.h .bool)], []⟩, m_sched_plan_has⟩
def l_sched_plan_has : List (Nat × Con) := []
def h_sched_plan_has : Hs := {
  lp := (fun f b => match f, b with
  | 80, 0 => some { keep := [0, 1, 7], sl := [(8, .s (.h iT))] }
  | _, _ => none)
  jr := (fun f b => match f, b with
  | 62, 16387 => some { keep := [], sl := [(3, .s (.h .bool))] }
  | 61, 20484 => some { keep := [], sl := [(4, .s (.h .bool))] }
  | _, _ => none)
  con := lookC l_sched_plan_has
  gl := glT }
theorem r_sched_plan_has : (fun x => @vFun stuckC (tab Tryd.prog) h_sched_plan_has 200 42 [(.ptr pT), (.sl iT)] ⟨[.s (.h .bool)], []⟩ x) = M_sched_plan_has stuckC := by kernel_rfl
theorem k_sched_plan_has : ConOk (tab Tryd.prog) glT 42 c_sched_plan_has := con_of l_sched_plan_has r_sched_plan_has trivial
def c_sched_Shows : Con := ⟨[kT, cT, (.sl iT)], ⟨[.s (.h iT), .s (.h iT)], []⟩, m_sched_Shows⟩
def l_sched_Shows : List (Nat × Con) := [(32, c_sched_opened), (33, c_sched_plan_length), (34, c_sched_plan_holds), (35, c_sched_plan_late), (42, c_sched_plan_has)]
def h_sched_Shows : Hs := {
  lp := (fun f b => match f, b with
  | 12, 1 => some { keep := [2, 8], sl := [(10, .s (.h iT))] }
  | 12, 3 => some { keep := [2, 8, 45, 46], sl := [(11, .s (.h iT)), (47, .s (.h iT))] }
  | _, _ => none)
  jn := (fun f b => match f, b with
  | 12, 53 => some { keep := [2, 8, 13, 45, 46, 47], sl := [(11, .s (.h iT))] }
  | _, _ => none)
  con := lookC l_sched_Shows
  gl := glT }
theorem r_sched_Shows : (fun x => @vFun stuckC (tab Tryd.prog) h_sched_Shows 200 12 [kT, cT, (.sl iT)] ⟨[.s (.h iT), .s (.h iT)], []⟩ x) = M_sched_Shows stuckC := by kernel_rfl
theorem k_sched_Shows : ConOk (tab Tryd.prog) glT 12 c_sched_Shows := con_of l_sched_Shows r_sched_Shows ⟨k_sched_opened, k_sched_plan_length, k_sched_plan_holds, k_sched_plan_late, k_sched_plan_has, trivial⟩
def c_spoondriftlaw24_clock : Con := ⟨[(.sl (.arr 2 iT))], ⟨[.s (.h kT)], []⟩, m_spoondriftlaw24_clock⟩
def l_spoondriftlaw24_clock : List (Nat × Con) := []
def h_spoondriftlaw24_clock : Hs := {
  lp := (fun f b => match f, b with
  | 19, 0 => some { keep := [2, 3], sl := [(8, .s (.h iT))], ob := [(1, true, .r [.c (.e (.gw 2)), .c (.h iT), .c (.h (.sl (.arr 2 iT)))] true), (2, false, .r [.ar iT none] false)], nilo := [(1, 0, iT)] }
  | _, _ => none)
  jn := (fun f b => match f, b with
  | 19, 17 => some { keep := [2, 3, 8], sl := [(5, .s (.h iT))] }
  | 19, 15 => some { keep := [2, 3, 8], sl := [(5, .s (.h iT))] }
  | 19, 13 => some { keep := [2, 3, 8], sl := [(5, .s (.h iT))] }
  | _, _ => none)
  oh := (fun f d => match f, d with
  | 19, 22 => some { t := some iT }
  | _, _ => none)
  con := lookC l_spoondriftlaw24_clock
  gl := glT }
theorem r_spoondriftlaw24_clock : (fun x => @vFun stuckC (tab Tryd.prog) h_spoondriftlaw24_clock 200 19 [(.sl (.arr 2 iT))] ⟨[.s (.h kT)], []⟩ x) = M_spoondriftlaw24_clock stuckC := by kernel_rfl
theorem k_spoondriftlaw24_clock : ConOk (tab Tryd.prog) glT 19 c_spoondriftlaw24_clock := con_of l_spoondriftlaw24_clock r_spoondriftlaw24_clock trivial
def c_spoondriftlaw24_gate : Con := ⟨[iT, (.sl iT)], ⟨[.s (.h gT)], []⟩, m_spoondriftlaw24_gate⟩
def l_spoondriftlaw24_gate : List (Nat × Con) := []
def h_spoondriftlaw24_gate : Hs := {
  con := lookC l_spoondriftlaw24_gate
  gl := glT }
theorem r_spoondriftlaw24_gate : (fun x => @vFun stuckC (tab Tryd.prog) h_spoondriftlaw24_gate 200 20 [iT, (.sl iT)] ⟨[.s (.h gT)], []⟩ x) = M_spoondriftlaw24_gate stuckC := by kernel_rfl
theorem k_spoondriftlaw24_gate : ConOk (tab Tryd.prog) glT 20 c_spoondriftlaw24_gate := con_of l_spoondriftlaw24_gate r_spoondriftlaw24_gate trivial
def c_sched_plan_disturb : Con := ⟨[(.ptr pT), iT, iT], ⟨[.s (.h .bool)], []⟩, m_sched_plan_disturb⟩
def l_sched_plan_disturb : List (Nat × Con) := [(55, c_sched_meet)]
def h_sched_plan_disturb : Hs := {
  lp := (fun f b => match f, b with
  | 53, 2 => some { keep := [0, 8, 10, 45, 46, 47, 52, 53], sl := [(54, .s (.h iT))] }
  | 53, 0 => some { keep := [0, 8, 45, 46], sl := [(47, .s (.h iT))] }
  | _, _ => none)
  jr := (fun f b => match f, b with
  | 53, 118827 => some { keep := [0, 7, 8], sl := [(43, .s (.h .bool))] }
  | _, _ => none)
  oh := (fun f d => match f, d with
  | 53, 64 => some { ars := [(0, 2, iT)] }
  | _, _ => none)
  con := lookC l_sched_plan_disturb
  gl := glT }
theorem r_sched_plan_disturb : (fun x => @vFun stuckC (tab Tryd.prog) h_sched_plan_disturb 200 53 [(.ptr pT), iT, iT] ⟨[.s (.h .bool)], []⟩ x) = M_sched_plan_disturb stuckC := by kernel_rfl
theorem k_sched_plan_disturb : ConOk (tab Tryd.prog) glT 53 c_sched_plan_disturb := con_of l_sched_plan_disturb r_sched_plan_disturb ⟨k_sched_meet, trivial⟩
def c_sched_plan_on : Con := ⟨[(.ptr pT), iT, iT], ⟨[.s (.h (.pair iT (.pair iT .unit)))], []⟩, m_sched_plan_on⟩
def l_sched_plan_on : List (Nat × Con) := [(33, c_sched_plan_length)]
def h_sched_plan_on : Hs := {
  con := lookC l_sched_plan_on
  gl := glT }
theorem r_sched_plan_on : (fun x => @vFun stuckC (tab Tryd.prog) h_sched_plan_on 200 81 [(.ptr pT), iT, iT] ⟨[.s (.h (.pair iT (.pair iT .unit)))], []⟩ x) = M_sched_plan_on stuckC := by kernel_rfl
theorem k_sched_plan_on : ConOk (tab Tryd.prog) glT 81 c_sched_plan_on := con_of l_sched_plan_on r_sched_plan_on ⟨k_sched_plan_length, trivial⟩
def c_sched_span_overlaps : Con := ⟨[(.pair iT (.pair iT .unit)), (.pair iT (.pair iT .unit))], ⟨[.s (.h .bool)], []⟩, m_sched_span_overlaps⟩
def l_sched_span_overlaps : List (Nat × Con) := []
def h_sched_span_overlaps : Hs := {
  jr := (fun f b => match f, b with
  | 82, 20484 => some { keep := [], sl := [(4, .s (.h .bool))] }
  | _, _ => none)
  con := lookC l_sched_span_overlaps
  gl := glT }
theorem r_sched_span_overlaps : (fun x => @vFun stuckC (tab Tryd.prog) h_sched_span_overlaps 200 82 [(.pair iT (.pair iT .unit)), (.pair iT (.pair iT .unit))] ⟨[.s (.h .bool)], []⟩ x) = M_sched_span_overlaps stuckC := by kernel_rfl
theorem k_sched_span_overlaps : ConOk (tab Tryd.prog) glT 82 c_sched_span_overlaps := con_of l_sched_span_overlaps r_sched_span_overlaps trivial
def c_sched_plan_free : Con := ⟨[(.ptr pT), iT, iT, (.sl iT), (.sl iT)], ⟨[.s (.h iT)], []⟩, m_sched_plan_free⟩
def l_sched_plan_free : List (Nat × Con) := [(53, c_sched_plan_disturb), (81, c_sched_plan_on), (82, c_sched_span_overlaps)]
def h_sched_plan_free : Hs := {
  lp := (fun f b => match f, b with
  | 63, 2 => some { keep := [0, 1, 3, 4, 14, 15], sl := [(2, .s (.h iT)), (16, .s (.h iT))] }
  | 63, 0 => some { keep := [0, 1, 3, 4], sl := [(2, .s (.h iT))] }
  | _, _ => none)
  jr := (fun f b => match f, b with
  | 63, 110630 => some { keep := [0, 1, 2, 3, 4, 13, 14, 15, 16], sl := [(38, .s (.h .bool))] }
  | _, _ => none)
  con := lookC l_sched_plan_free
  gl := glT }
theorem r_sched_plan_free : (fun x => @vFun stuckC (tab Tryd.prog) h_sched_plan_free 200 63 [(.ptr pT), iT, iT, (.sl iT), (.sl iT)] ⟨[.s (.h iT)], []⟩ x) = M_sched_plan_free stuckC := by kernel_rfl
theorem k_sched_plan_free : ConOk (tab Tryd.prog) glT 63 c_sched_plan_free := con_of l_sched_plan_free r_sched_plan_free ⟨k_sched_plan_disturb, k_sched_plan_on, k_sched_span_overlaps, trivial⟩
def c_sched_plan_after : Con := ⟨[(.ptr pT), iT, (.sl iT)], ⟨[.s (.h iT)], []⟩, m_sched_plan_after⟩
def l_sched_plan_after : List (Nat × Con) := [(33, c_sched_plan_length), (34, c_sched_plan_holds), (35, c_sched_plan_late), (36, c_sched_greatest)]
def h_sched_plan_after : Hs := {
  lp := (fun f b => match f, b with
  | 84, 0 => some { keep := [0, 1, 2, 5], sl := [(6, .s (.h iT))], ob := [(1003, true, .r [.c (.h iT)] true)] }
  | _, _ => none)
  jr := (fun f b => match f, b with
  | 84, 36882 => some { keep := [0, 1, 2, 5, 6], sl := [(18, .s (.h .bool))], ob := [(1003, true, .r [.c (.h iT)] true)] }
  | _, _ => none)
  oh := (fun f d => match f, d with
  | 64, 27 => some { t := some iT }
  | _, _ => none)
  con := lookC l_sched_plan_after
  gl := glT }
theorem r_sched_plan_after : (fun x => @vFun stuckC (tab Tryd.prog) h_sched_plan_after 200 64 [(.ptr pT), iT, (.sl iT)] ⟨[.s (.h iT)], []⟩ x) = M_sched_plan_after stuckC := by kernel_rfl
theorem k_sched_plan_after : ConOk (tab Tryd.prog) glT 64 c_sched_plan_after := con_of l_sched_plan_after r_sched_plan_after ⟨k_sched_plan_length, k_sched_plan_holds, k_sched_plan_late, k_sched_greatest, trivial⟩
def c_sched_upto : Con := ⟨[iT, iT], ⟨[.s (.e (.gw 0))], [.r [.ar iT none] false]⟩, m_sched_upto⟩
def l_sched_upto : List (Nat × Con) := []
def h_sched_upto : Hs := {
  lp := (fun f b => match f, b with
  | 65, 0 => some { keep := [1], sl := [(5, .s (.e (.gw 0))), (6, .s (.h iT))], ob := [(0, false, .r [.ar iT none] false)], nils := [(5, iT)] }
  | _, _ => none)
  oh := (fun f d => match f, d with
  | 65, 15 => some { t := some iT }
  | _, _ => none)
  con := lookC l_sched_upto
  gl := glT }
theorem r_sched_upto : (fun x => @vFun stuckC (tab Tryd.prog) h_sched_upto 200 65 [iT, iT] ⟨[.s (.e (.gw 0))], [.r [.ar iT none] false]⟩ x) = M_sched_upto stuckC := by kernel_rfl
theorem k_sched_upto : ConOk (tab Tryd.prog) glT 65 c_sched_upto := con_of l_sched_upto r_sched_upto trivial
def c_sched_plan_early : Con := ⟨[(.ptr pT)], ⟨[.s (.e (.gw 0))], [.r [.ar iT none] false]⟩, m_sched_plan_early⟩
def l_sched_plan_early : List (Nat × Con) := [(63, c_sched_plan_free), (64, c_sched_plan_after), (65, c_sched_upto)]
def h_sched_plan_early : Hs := {
  lp := (fun f b => match f, b with
  | 46, 0 => some { keep := [0, 10], sl := [(3, .s (.e (.gw 0))), (11, .s (.h iT))], ob := [(0, false, .r [.ar iT none] false)], nils := [(3, iT)] }
  | _, _ => none)
  oh := (fun f d => match f, d with
  | 46, 25 => some { t := some iT }
  | _, _ => none)
  con := lookC l_sched_plan_early
  gl := glT }
theorem r_sched_plan_early : (fun x => @vFun stuckC (tab Tryd.prog) h_sched_plan_early 200 46 [(.ptr pT)] ⟨[.s (.e (.gw 0))], [.r [.ar iT none] false]⟩ x) = M_sched_plan_early stuckC := by kernel_rfl
theorem k_sched_plan_early : ConOk (tab Tryd.prog) glT 46 c_sched_plan_early := con_of l_sched_plan_early r_sched_plan_early ⟨k_sched_plan_free, k_sched_plan_after, k_sched_upto, trivial⟩
def c_sched_Early : Con := ⟨[kT, cT], ⟨[.s (.e (.gw 0)), .s (.h iT)], [.r [.ar iT none] false]⟩, m_sched_Early⟩
def l_sched_Early : List (Nat × Con) := [(32, c_sched_opened), (46, c_sched_plan_early)]
def h_sched_Early : Hs := {
  con := lookC l_sched_Early
  gl := glT }
theorem r_sched_Early : (fun x => @vFun stuckC (tab Tryd.prog) h_sched_Early 200 21 [kT, cT] ⟨[.s (.e (.gw 0)), .s (.h iT)], [.r [.ar iT none] false]⟩ x) = M_sched_Early stuckC := by kernel_rfl
theorem k_sched_Early : ConOk (tab Tryd.prog) glT 21 c_sched_Early := con_of l_sched_Early r_sched_Early ⟨k_sched_opened, k_sched_plan_early, trivial⟩
def c_sched_with_1 : Con := ⟨[iT], ⟨[.s (.h .bool)], []⟩, m_sched_with_1⟩
def l_sched_with_1 : List (Nat × Con) := []
def h_sched_with_1 : Hs := {
  jr := (fun f b => match f, b with
  | 66, 12290 => some { keep := [], sl := [(2, .s (.h .bool))] }
  | _, _ => none)
  con := lookC l_sched_with_1
  gl := glT }
theorem r_sched_with_1 : (fun x => @vFun stuckC (tab Tryd.prog) h_sched_with_1 200 66 [iT] ⟨[.s (.h .bool)], []⟩ x) = M_sched_with_1 stuckC := by kernel_rfl
theorem k_sched_with_1 : ConOk (tab Tryd.prog) glT 66 c_sched_with_1 := con_of l_sched_with_1 r_sched_with_1 trivial
def c_sched_with : Con := ⟨[kT, cT, (.sl iT)], ⟨[.s (.h (.opt pT)), .s (.h iT), .s (.h iT)], []⟩, m_sched_with⟩
def l_sched_with : List (Nat × Con) := [(32, c_sched_opened), (53, c_sched_plan_disturb), (64, c_sched_plan_after), (66, c_sched_with_1), (81, c_sched_plan_on), (82, c_sched_span_overlaps)]
def h_sched_with : Hs := {
  lp := (fun f b => match f, b with
  | 80, 0 => some { keep := [0, 1, 7], sl := [(8, .s (.h iT))] }
  | 110, 0 => some { keep := [0, 1, 2, 8], sl := [(9, .s (.h iT))] }
  | 47, 1 => some { keep := [2, 9, 35], sl := [(36, .s (.h iT))] }
  | _, _ => none)
  jr := (fun f b => match f, b with
  | 61, 20484 => some { keep := [], sl := [(4, .s (.h .bool))] }
  | 110, 49184 => some { keep := [0, 1, 2, 8, 9], sl := [(32, .s (.h .bool))] }
  | 47, 176177 => some { keep := [2, 9, 11, 13, 35, 36, 39, 40], sl := [(49, .s (.h .bool))] }
  | _, _ => none)
  con := lookC l_sched_with
  gl := glT }
theorem r_sched_with : (fun x => @vFun stuckC (tab Tryd.prog) h_sched_with 200 47 [kT, cT, (.sl iT)] ⟨[.s (.h (.opt pT)), .s (.h iT), .s (.h iT)], []⟩ x) = M_sched_with stuckC := by kernel_rfl
theorem k_sched_with : ConOk (tab Tryd.prog) glT 47 c_sched_with := con_of l_sched_with r_sched_with ⟨k_sched_opened, k_sched_plan_disturb, k_sched_plan_after, k_sched_with_1, k_sched_plan_on, k_sched_span_overlaps, trivial⟩
def c_sched_plan_end : Con := ⟨[(.ptr pT), (.sl iT)], ⟨[.s (.h iT)], []⟩, m_sched_plan_end⟩
def l_sched_plan_end : List (Nat × Con) := [(33, c_sched_plan_length), (36, c_sched_greatest)]
def h_sched_plan_end : Hs := {
  lp := (fun f b => match f, b with
  | 48, 0 => some { keep := [0, 8, 9], sl := [(5, .s (.e (.gw 0))), (10, .s (.h iT))], ob := [(0, false, .r [.ar iT none] false)], nils := [(5, iT)] }
  | _, _ => none)
  oh := (fun f d => match f, d with
  | 48, 21 => some { t := some iT }
  | _, _ => none)
  con := lookC l_sched_plan_end
  gl := glT }
theorem r_sched_plan_end : (fun x => @vFun stuckC (tab Tryd.prog) h_sched_plan_end 200 48 [(.ptr pT), (.sl iT)] ⟨[.s (.h iT)], []⟩ x) = M_sched_plan_end stuckC := by kernel_rfl
theorem k_sched_plan_end : ConOk (tab Tryd.prog) glT 48 c_sched_plan_end := con_of l_sched_plan_end r_sched_plan_end ⟨k_sched_plan_length, k_sched_greatest, trivial⟩
def c_sched_Length : Con := ⟨[kT, cT, (.sl iT)], ⟨[.s (.h iT), .s (.h iT)], []⟩, m_sched_Length⟩
def l_sched_Length : List (Nat × Con) := [(47, c_sched_with), (48, c_sched_plan_end)]
def h_sched_Length : Hs := {
  con := lookC l_sched_Length
  gl := glT }
theorem r_sched_Length : (fun x => @vFun stuckC (tab Tryd.prog) h_sched_Length 200 22 [kT, cT, (.sl iT)] ⟨[.s (.h iT), .s (.h iT)], []⟩ x) = M_sched_Length stuckC := by kernel_rfl
theorem k_sched_Length : ConOk (tab Tryd.prog) glT 22 c_sched_Length := con_of l_sched_Length r_sched_Length ⟨k_sched_with, k_sched_plan_end, trivial⟩
def c_sched_plan_before : Con := ⟨[(.ptr pT), iT, iT, (.sl iT), (.sl iT)], ⟨[.s (.h iT)], []⟩, m_sched_plan_before⟩
def l_sched_plan_before : List (Nat × Con) := [(33, c_sched_plan_length), (53, c_sched_plan_disturb), (81, c_sched_plan_on), (82, c_sched_span_overlaps)]
def h_sched_plan_before : Hs := {
  lp := (fun f b => match f, b with
  | 67, 2 => some { keep := [0, 1, 3, 4, 14, 15], sl := [(2, .s (.h iT)), (16, .s (.h iT))] }
  | 67, 0 => some { keep := [0, 1, 3, 4], sl := [(2, .s (.h iT))] }
  | _, _ => none)
  jr := (fun f b => match f, b with
  | 67, 110630 => some { keep := [0, 1, 2, 3, 4, 13, 14, 15, 16], sl := [(38, .s (.h .bool))] }
  | _, _ => none)
  con := lookC l_sched_plan_before
  gl := glT }
theorem r_sched_plan_before : (fun x => @vFun stuckC (tab Tryd.prog) h_sched_plan_before 200 67 [(.ptr pT), iT, iT, (.sl iT), (.sl iT)] ⟨[.s (.h iT)], []⟩ x) = M_sched_plan_before stuckC := by kernel_rfl
theorem k_sched_plan_before : ConOk (tab Tryd.prog) glT 67 c_sched_plan_before := con_of l_sched_plan_before r_sched_plan_before ⟨k_sched_plan_length, k_sched_plan_disturb, k_sched_plan_on, k_sched_span_overlaps, trivial⟩
def c_sched_plan_latest : Con := ⟨[(.ptr pT), iT], ⟨[.s (.e (.gw 0)), .s (.h .bool)], [.r [.ar iT none] false]⟩, m_sched_plan_latest⟩
def l_sched_plan_latest : List (Nat × Con) := [(33, c_sched_plan_length), (34, c_sched_plan_holds), (35, c_sched_plan_late), (65, c_sched_upto), (67, c_sched_plan_before)]
def h_sched_plan_latest : Hs := {
  lp := (fun f b => match f, b with
  | 49, 2 => some { keep := [0, 1, 6, 7], sl := [(8, .s (.h iT)), (9, .s (.h iT))] }
  | 49, 0 => some { keep := [0, 1, 6], sl := [(7, .s (.h iT))], ob := [(0, true, .r [.ar iT none] true)] }
  | _, _ => none)
  jn := (fun f b => match f, b with
  | 49, 48 => some { keep := [0, 1, 6, 7, 9], sl := [(8, .s (.h iT))] }
  | _, _ => none)
  oh := (fun f d => match f, d with
  | 49, 16 => some { t := some iT }
  | _, _ => none)
  con := lookC l_sched_plan_latest
  gl := glT }
theorem r_sched_plan_latest : (fun x => @vFun stuckC (tab Tryd.prog) h_sched_plan_latest 200 49 [(.ptr pT), iT] ⟨[.s (.e (.gw 0)), .s (.h .bool)], [.r [.ar iT none] false]⟩ x) = M_sched_plan_latest stuckC := by kernel_rfl
theorem k_sched_plan_latest : ConOk (tab Tryd.prog) glT 49 c_sched_plan_latest := con_of l_sched_plan_latest r_sched_plan_latest ⟨k_sched_plan_length, k_sched_plan_holds, k_sched_plan_late, k_sched_upto, k_sched_plan_before, trivial⟩
def c_sched_Late : Con := ⟨[kT, cT, iT], ⟨[.s (.e (.gw 0)), .s (.h iT)], [.r [.ar iT none] false]⟩, m_sched_Late⟩
def l_sched_Late : List (Nat × Con) := [(32, c_sched_opened), (49, c_sched_plan_latest)]
def h_sched_Late : Hs := {
  jr := (fun f b => match f, b with
  | 23, 94230 => some { keep := [2, 8], sl := [(22, .s (.h .bool))] }
  | _, _ => none)
  con := lookC l_sched_Late
  gl := glT }
theorem r_sched_Late : (fun x => @vFun stuckC (tab Tryd.prog) h_sched_Late 200 23 [kT, cT, iT] ⟨[.s (.e (.gw 0)), .s (.h iT)], [.r [.ar iT none] false]⟩ x) = M_sched_Late stuckC := by kernel_rfl
theorem k_sched_Late : ConOk (tab Tryd.prog) glT 23 c_sched_Late := con_of l_sched_Late r_sched_Late ⟨k_sched_opened, k_sched_plan_latest, trivial⟩
def c_sched_Slack : Con := ⟨[kT, cT], ⟨[.s (.e (.gw 0)), .s (.h iT)], [.r [.ar iT none] false]⟩, m_sched_Slack⟩
def l_sched_Slack : List (Nat × Con) := [(46, c_sched_plan_early), (48, c_sched_plan_end), (49, c_sched_plan_latest), (52, c_sched_clock), (54, c_circ_Check)]
def h_sched_Slack : Hs := {
  lp := (fun f b => match f, b with
  | 32, 0 => some { keep := [8, 35, 36], sl := [(37, .s (.h iT))], ob := [(2, true, .mp (.arr 2 iT) .bool)] }
  | 24, 0 => some { keep := [9, 36, 37], sl := [(11, .s (.e (.gw 8))), (38, .s (.h iT))], ob := [(8, false, .r [.ar iT none] false)], nils := [(11, iT)] }
  | _, _ => none)
  jr := (fun f b => match f, b with
  | 32, 172073 => some { keep := [8, 10, 35, 36, 37], sl := [(41, .s (.h .bool))] }
  | _, _ => none)
  oh := (fun f d => match f, d with
  | 32, 24 => some { t := some (.arr 2 iT), v := .bool }
  | 32, 25 => some { ars := [(3, 14, iT)] }
  | 32, 10 => some { ars := [(0, 2, iT)] }
  | 32, 80 => some { ars := [(0, 2, iT)] }
  | 24, 50 => some { t := some iT }
  | _, _ => none)
  con := lookC l_sched_Slack
  gl := glT }
theorem r_sched_Slack : (fun x => @vFun stuckC (tab Tryd.prog) h_sched_Slack 200 24 [kT, cT] ⟨[.s (.e (.gw 0)), .s (.h iT)], [.r [.ar iT none] false]⟩ x) = M_sched_Slack stuckC := by kernel_rfl
theorem k_sched_Slack : ConOk (tab Tryd.prog) glT 24 c_sched_Slack := con_of l_sched_Slack r_sched_Slack ⟨k_sched_plan_early, k_sched_plan_end, k_sched_plan_latest, k_sched_clock, k_circ_Check, trivial⟩
def c_sched_Right : Con := ⟨[kT, cT, (.sl iT)], ⟨[.s (.h iT), .s (.h iT)], []⟩, m_sched_Right⟩
def l_sched_Right : List (Nat × Con) := [(47, c_sched_with)]
def h_sched_Right : Hs := {
  con := lookC l_sched_Right
  gl := glT }
theorem r_sched_Right : (fun x => @vFun stuckC (tab Tryd.prog) h_sched_Right 200 25 [kT, cT, (.sl iT)] ⟨[.s (.h iT), .s (.h iT)], []⟩ x) = M_sched_Right stuckC := by kernel_rfl
theorem k_sched_Right : ConOk (tab Tryd.prog) glT 25 c_sched_Right := con_of l_sched_Right r_sched_Right ⟨k_sched_with, trivial⟩
def c_sched_Idle : Con := ⟨[kT, cT, (.sl iT)], ⟨[.s (.e (.gw 0)), .s (.h iT)], [.r [.ar iT none] false]⟩, m_sched_Idle⟩
def l_sched_Idle : List (Nat × Con) := [(33, c_sched_plan_length), (47, c_sched_with), (48, c_sched_plan_end)]
def h_sched_Idle : Hs := {
  lp := (fun f b => match f, b with
  | 26, 0 => some { keep := [2, 8, 11, 35], sl := [(36, .s (.h iT))], ob := [(2, true, .r [.ar iT none] true)] }
  | 26, 4 => some { keep := [8, 11, 13, 50, 51, 52, 58, 59], sl := [(60, .s (.h iT))], ob := [(2, true, .r [.ar iT none] true)] }
  | 26, 2 => some { keep := [8, 11, 50, 51], sl := [(52, .s (.h iT))], ob := [(2, true, .r [.ar iT none] true)] }
  | _, _ => none)
  oh := (fun f d => match f, d with
  | 26, 33 => some { t := some iT }
  | _, _ => none)
  con := lookC l_sched_Idle
  gl := glT }
theorem r_sched_Idle : (fun x => @vFun stuckC (tab Tryd.prog) h_sched_Idle 200 26 [kT, cT, (.sl iT)] ⟨[.s (.e (.gw 0)), .s (.h iT)], [.r [.ar iT none] false]⟩ x) = M_sched_Idle stuckC := by kernel_rfl
theorem k_sched_Idle : ConOk (tab Tryd.prog) glT 26 c_sched_Idle := con_of l_sched_Idle r_sched_Idle ⟨k_sched_plan_length, k_sched_with, k_sched_plan_end, trivial⟩
def c_slices_Equal : Con := ⟨[(.sl iT), (.sl iT)], ⟨[.s (.h .bool)], []⟩, m_slices_Equal⟩
def l_slices_Equal : List (Nat × Con) := []
def h_slices_Equal : Hs := {
  lp := (fun f b => match f, b with
  | 14, 0 => some { keep := [0, 1, 12], sl := [(13, .s (.h iT))] }
  | _, _ => none)
  con := lookC l_slices_Equal
  gl := glT }
theorem r_slices_Equal : (fun x => @vFun stuckC (tab Tryd.prog) h_slices_Equal 200 14 [(.sl iT), (.sl iT)] ⟨[.s (.h .bool)], []⟩ x) = M_slices_Equal stuckC := by kernel_rfl
theorem k_slices_Equal : ConOk (tab Tryd.prog) glT 14 c_slices_Equal := con_of l_slices_Equal r_slices_Equal trivial
def c_spoondriftlaw24_known : Con := ⟨[(.sl iT), iT, (.sl iT)], ⟨[.s (.h .bool)], []⟩, m_spoondriftlaw24_known⟩
def l_spoondriftlaw24_known : List (Nat × Con) := [(14, c_slices_Equal)]
def h_spoondriftlaw24_known : Hs := {
  jr := (fun f b => match f, b with
  | 27, 28678 => some { keep := [], sl := [(6, .s (.h .bool))] }
  | _, _ => none)
  con := lookC l_spoondriftlaw24_known
  gl := glT }
theorem r_spoondriftlaw24_known : (fun x => @vFun stuckC (tab Tryd.prog) h_spoondriftlaw24_known 200 27 [(.sl iT), iT, (.sl iT)] ⟨[.s (.h .bool)], []⟩ x) = M_spoondriftlaw24_known stuckC := by kernel_rfl
theorem k_spoondriftlaw24_known : ConOk (tab Tryd.prog) glT 27 c_spoondriftlaw24_known := con_of l_spoondriftlaw24_known r_spoondriftlaw24_known ⟨k_slices_Equal, trivial⟩
def c_sched_Holds : Con := ⟨[kT, cT, iT, iT], ⟨[.s (.h iT), .s (.h iT)], []⟩, m_sched_Holds⟩
def l_sched_Holds : List (Nat × Con) := [(32, c_sched_opened), (33, c_sched_plan_length), (34, c_sched_plan_holds), (35, c_sched_plan_late), (42, c_sched_plan_has)]
def h_sched_Holds : Hs := {
  oh := (fun f d => match f, d with
  | 28, 26 => some { t := some iT }
  | _, _ => none)
  con := lookC l_sched_Holds
  gl := glT }
theorem r_sched_Holds : (fun x => @vFun stuckC (tab Tryd.prog) h_sched_Holds 200 28 [kT, cT, iT, iT] ⟨[.s (.h iT), .s (.h iT)], []⟩ x) = M_sched_Holds stuckC := by kernel_rfl
theorem k_sched_Holds : ConOk (tab Tryd.prog) glT 28 c_sched_Holds := con_of l_sched_Holds r_sched_Holds ⟨k_sched_opened, k_sched_plan_length, k_sched_plan_holds, k_sched_plan_late, k_sched_plan_has, trivial⟩
def c_slices_Clone : Con := ⟨[(.sl iT)], ⟨[.s (.e (.gw 0))], [.r [.ar iT none] false]⟩, m_slices_Clone⟩
def l_slices_Clone : List (Nat × Con) := []
def h_slices_Clone : Hs := {
  oh := (fun f d => match f, d with
  | 9, 5 => some { t := some iT }
  | _, _ => none)
  con := lookC l_slices_Clone
  gl := glT }
theorem r_slices_Clone : (fun x => @vFun stuckC (tab Tryd.prog) h_slices_Clone 200 9 [(.sl iT)] ⟨[.s (.e (.gw 0))], [.r [.ar iT none] false]⟩ x) = M_slices_Clone stuckC := by kernel_rfl
theorem k_slices_Clone : ConOk (tab Tryd.prog) glT 9 c_slices_Clone := by
  have := con_of l_slices_Clone r_slices_Clone trivial
  rw [q_slices_Clone] at this
  exact this
def c_cmp_isNaN : Con := ⟨[iT], ⟨[.s (.h .bool)], []⟩, m_cmp_isNaN⟩
def l_cmp_isNaN : List (Nat × Con) := []
def h_cmp_isNaN : Hs := {
  con := lookC l_cmp_isNaN
  gl := glT }
theorem r_cmp_isNaN : (fun x => @vFun stuckC (tab Tryd.prog) h_cmp_isNaN 200 90 [iT] ⟨[.s (.h .bool)], []⟩ x) = M_cmp_isNaN stuckC := by kernel_rfl
theorem k_cmp_isNaN : ConOk (tab Tryd.prog) glT 90 c_cmp_isNaN := con_of l_cmp_isNaN r_cmp_isNaN trivial
def c_cmp_Compare : Con := ⟨[iT, iT], ⟨[.s (.h iT)], []⟩, m_cmp_Compare⟩
def l_cmp_Compare : List (Nat × Con) := [(90, c_cmp_isNaN)]
def h_cmp_Compare : Hs := {
  con := lookC l_cmp_Compare
  gl := glT }
theorem r_cmp_Compare : (fun x => @vFun stuckC (tab Tryd.prog) h_cmp_Compare 200 83 [iT, iT] ⟨[.s (.h iT)], []⟩ x) = M_cmp_Compare stuckC := by kernel_rfl
theorem k_cmp_Compare : ConOk (tab Tryd.prog) glT 83 c_cmp_Compare := con_of l_cmp_Compare r_cmp_Compare ⟨k_cmp_isNaN, trivial⟩
def c_slices_Compare : Con := ⟨[(.sl iT), (.sl iT)], ⟨[.s (.h iT)], []⟩, m_slices_Compare⟩
def l_slices_Compare : List (Nat × Con) := [(83, c_cmp_Compare)]
def h_slices_Compare : Hs := {
  lp := (fun f b => match f, b with
  | 69, 0 => some { keep := [0, 1, 9, 10], sl := [(11, .s (.h iT))] }
  | _, _ => none)
  con := lookC l_slices_Compare
  gl := glT }
theorem r_slices_Compare : (fun x => @vFun stuckC (tab Tryd.prog) h_slices_Compare 200 69 [(.sl iT), (.sl iT)] ⟨[.s (.h iT)], []⟩ x) = M_slices_Compare stuckC := by kernel_rfl
theorem k_slices_Compare : ConOk (tab Tryd.prog) glT 69 c_slices_Compare := con_of l_slices_Compare r_slices_Compare ⟨k_cmp_Compare, trivial⟩
def c_sched_Quiet : Con := ⟨[kT], ⟨[.s (.h kT), .s (.h iT)], []⟩, m_sched_Quiet⟩
def l_sched_Quiet : List (Nat × Con) := [(9, c_slices_Clone), (52, c_sched_clock)]
def h_sched_Quiet : Hs := {
  con := lookC l_sched_Quiet
  gl := glT }
theorem r_sched_Quiet : (fun x => @vFun stuckC (tab Tryd.prog) h_sched_Quiet 200 30 [kT] ⟨[.s (.h kT), .s (.h iT)], []⟩ x) = M_sched_Quiet stuckC := by kernel_rfl
theorem k_sched_Quiet : ConOk (tab Tryd.prog) glT 30 c_sched_Quiet := con_of l_sched_Quiet r_sched_Quiet ⟨k_slices_Clone, k_sched_clock, trivial⟩
def c_sched_Disturb : Con := ⟨[kT, cT, iT, iT], ⟨[.s (.h .bool), .s (.h iT)], []⟩, m_sched_Disturb⟩
def l_sched_Disturb : List (Nat × Con) := [(32, c_sched_opened), (42, c_sched_plan_has), (53, c_sched_plan_disturb)]
def h_sched_Disturb : Hs := {
  oh := (fun f d => match f, d with
  | 31, 26 => some { t := some iT }
  | _, _ => none)
  con := lookC l_sched_Disturb
  gl := glT }
theorem r_sched_Disturb : (fun x => @vFun stuckC (tab Tryd.prog) h_sched_Disturb 200 31 [kT, cT, iT, iT] ⟨[.s (.h .bool), .s (.h iT)], []⟩ x) = M_sched_Disturb stuckC := by kernel_rfl
theorem k_sched_Disturb : ConOk (tab Tryd.prog) glT 31 c_sched_Disturb := con_of l_sched_Disturb r_sched_Disturb ⟨k_sched_opened, k_sched_plan_has, k_sched_plan_disturb, trivial⟩
def c_spoondriftref24_Own : Con := ⟨[kT], ⟨[.s (.h kT)], []⟩, m_spoondriftref24_Own⟩
def l_spoondriftref24_Own : List (Nat × Con) := []
def h_spoondriftref24_Own : Hs := {
  oh := (fun f d => match f, d with
  | 7, 3 => some { t := some iT }
  | 7, 9 => some { t := some (.arr 2 iT) }
  | _, _ => none)
  con := lookC l_spoondriftref24_Own
  gl := glT }
theorem r_spoondriftref24_Own : (fun x => @vFun stuckC (tab Tryd.prog) h_spoondriftref24_Own 200 7 [kT] ⟨[.s (.h kT)], []⟩ x) = M_spoondriftref24_Own stuckC := by kernel_rfl
theorem k_spoondriftref24_Own : ConOk (tab Tryd.prog) glT 7 c_spoondriftref24_Own := con_of l_spoondriftref24_Own r_spoondriftref24_Own trivial
def c_spoondriftkit_Own : Con := ⟨[cT], ⟨[.s (.h cT)], []⟩, m_spoondriftkit_Own⟩
def l_spoondriftkit_Own : List (Nat × Con) := [(9, c_slices_Clone)]
def h_spoondriftkit_Own : Hs := {
  lp := (fun f b => match f, b with
  | 8, 0 => some { keep := [2, 3, 12, 13], sl := [(14, .s (.h iT))], ob := [(2, true, .r [.c (.h iT), .c (.h iT), .c (.e (.gw 3))] true), (3, false, .r [.ar gT none] false)], nilo := [(2, 2, gT)] }
  | _, _ => none)
  oh := (fun f d => match f, d with
  | 8, 30 => some { t := some gT }
  | _, _ => none)
  con := lookC l_spoondriftkit_Own
  gl := glT }
theorem r_spoondriftkit_Own : (fun x => @vFun stuckC (tab Tryd.prog) h_spoondriftkit_Own 200 8 [cT] ⟨[.s (.h cT)], []⟩ x) = M_spoondriftkit_Own stuckC := by kernel_rfl
theorem k_spoondriftkit_Own : ConOk (tab Tryd.prog) glT 8 c_spoondriftkit_Own := con_of l_spoondriftkit_Own r_spoondriftkit_Own ⟨k_slices_Clone, trivial⟩
def c_spoondriftref24_Quiet : Con := ⟨[kT], ⟨[.s (.h kT), .s (.h iT)], []⟩, m_spoondriftref24_Quiet⟩
def l_spoondriftref24_Quiet : List (Nat × Con) := []
def h_spoondriftref24_Quiet : Hs := {
  lp := (fun f b => match f, b with
  | 58, 0 => some { keep := [1, 2, 12, 13], sl := [(14, .s (.h iT))], ob := [(1, true, .r [.c (.e (.k (.slice none 0 0))), .c (.h iT), .c (.e (.k (.slice none 0 0)))] true)] }
  | _, _ => none)
  jr := (fun f b => match f, b with
  | 58, 73751 => some { keep := [1, 2, 12, 13, 14], sl := [(23, .s (.h .bool))] }
  | 58, 106529 => some { keep := [1, 2], sl := [(33, .s (.h .bool))] }
  | _, _ => none)
  oh := (fun f d => match f, d with
  | 58, 35 => some { t := some iT }
  | _, _ => none)
  con := lookC l_spoondriftref24_Quiet
  gl := glT }
theorem r_spoondriftref24_Quiet : (fun x => @vFun stuckC (tab Tryd.prog) h_spoondriftref24_Quiet 200 58 [kT] ⟨[.s (.h kT), .s (.h iT)], []⟩ x) = M_spoondriftref24_Quiet stuckC := by kernel_rfl
theorem k_spoondriftref24_Quiet : ConOk (tab Tryd.prog) glT 58 c_spoondriftref24_Quiet := con_of l_spoondriftref24_Quiet r_spoondriftref24_Quiet trivial
def c_spoondriftref04_off : Con := ⟨[iT, iT, iT], ⟨[.s (.h .bool)], []⟩, m_spoondriftref04_off⟩
def l_spoondriftref04_off : List (Nat × Con) := []
def h_spoondriftref04_off : Hs := {
  jr := (fun f b => match f, b with
  | 76, 28678 => some { keep := [], sl := [(6, .s (.h .bool))] }
  | _, _ => none)
  con := lookC l_spoondriftref04_off
  gl := glT }
theorem r_spoondriftref04_off : (fun x => @vFun stuckC (tab Tryd.prog) h_spoondriftref04_off 200 76 [iT, iT, iT] ⟨[.s (.h .bool)], []⟩ x) = M_spoondriftref04_off stuckC := by kernel_rfl
theorem k_spoondriftref04_off : ConOk (tab Tryd.prog) glT 76 c_spoondriftref04_off := con_of l_spoondriftref04_off r_spoondriftref04_off trivial
def c_spoondriftref04_Has : Con := ⟨[(.sl iT), iT], ⟨[.s (.h .bool)], []⟩, m_spoondriftref04_Has⟩
def l_spoondriftref04_Has : List (Nat × Con) := []
def h_spoondriftref04_Has : Hs := {
  lp := (fun f b => match f, b with
  | 78, 0 => some { keep := [0, 1], sl := [(5, .s (.h iT))] }
  | _, _ => none)
  con := lookC l_spoondriftref04_Has
  gl := glT }
theorem r_spoondriftref04_Has : (fun x => @vFun stuckC (tab Tryd.prog) h_spoondriftref04_Has 200 78 [(.sl iT), iT] ⟨[.s (.h .bool)], []⟩ x) = M_spoondriftref04_Has stuckC := by kernel_rfl
theorem k_spoondriftref04_Has : ConOk (tab Tryd.prog) glT 78 c_spoondriftref04_Has := con_of l_spoondriftref04_Has r_spoondriftref04_Has trivial
def c_spoondriftref04_Arity : Con := ⟨[iT], ⟨[.s (.h iT)], []⟩, m_spoondriftref04_Arity⟩
def l_spoondriftref04_Arity : List (Nat × Con) := []
def h_spoondriftref04_Arity : Hs := {
  jr := (fun f b => match f, b with
  | 89, 12304 => some { keep := [0], sl := [(16, .s (.h .bool))] }
  | 89, 69654 => some { keep := [0], sl := [(22, .s (.h .bool))] }
  | _, _ => none)
  con := lookC l_spoondriftref04_Arity
  gl := glT }
theorem r_spoondriftref04_Arity : (fun x => @vFun stuckC (tab Tryd.prog) h_spoondriftref04_Arity 200 89 [iT] ⟨[.s (.h iT)], []⟩ x) = M_spoondriftref04_Arity stuckC := by kernel_rfl
theorem k_spoondriftref04_Arity : ConOk (tab Tryd.prog) glT 89 c_spoondriftref04_Arity := con_of l_spoondriftref04_Arity r_spoondriftref04_Arity trivial
def c_spoondriftref04_CheckGate : Con := ⟨[gT, iT, iT], ⟨[.s (.h iT)], []⟩, m_spoondriftref04_CheckGate⟩
def l_spoondriftref04_CheckGate : List (Nat × Con) := [(76, c_spoondriftref04_off), (78, c_spoondriftref04_Has), (89, c_spoondriftref04_Arity)]
def h_spoondriftref04_CheckGate : Hs := {
  lp := (fun f b => match f, b with
  | 77, 0 => some { keep := [1, 2, 3], sl := [(7, .s (.h iT))] }
  | 77, 2 => some { keep := [2, 3], sl := [(8, .s (.h iT))] }
  | _, _ => none)
  jr := (fun f b => match f, b with
  | 77, 213059 => some { keep := [3], sl := [(67, .s (.h .bool))] }
  | 77, 278613 => some { keep := [], sl := [(85, .s (.h .bool))] }
  | _, _ => none)
  con := lookC l_spoondriftref04_CheckGate
  gl := glT }
theorem r_spoondriftref04_CheckGate : (fun x => @vFun stuckC (tab Tryd.prog) h_spoondriftref04_CheckGate 200 77 [gT, iT, iT] ⟨[.s (.h iT)], []⟩ x) = M_spoondriftref04_CheckGate stuckC := by kernel_rfl
theorem k_spoondriftref04_CheckGate : ConOk (tab Tryd.prog) glT 77 c_spoondriftref04_CheckGate := con_of l_spoondriftref04_CheckGate r_spoondriftref04_CheckGate ⟨k_spoondriftref04_off, k_spoondriftref04_Has, k_spoondriftref04_Arity, trivial⟩
def c_spoondriftref04_Check : Con := ⟨[cT], ⟨[.s (.h iT)], []⟩, m_spoondriftref04_Check⟩
def l_spoondriftref04_Check : List (Nat × Con) := [(76, c_spoondriftref04_off), (77, c_spoondriftref04_CheckGate)]
def h_spoondriftref04_Check : Hs := {
  lp := (fun f b => match f, b with
  | 59, 0 => some { keep := [1], sl := [(3, .s (.h iT))] }
  | _, _ => none)
  jr := (fun f b => match f, b with
  | 59, 20492 => some { keep := [1], sl := [(12, .s (.h .bool))] }
  | _, _ => none)
  con := lookC l_spoondriftref04_Check
  gl := glT }
theorem r_spoondriftref04_Check : (fun x => @vFun stuckC (tab Tryd.prog) h_spoondriftref04_Check 200 59 [cT] ⟨[.s (.h iT)], []⟩ x) = M_spoondriftref04_Check stuckC := by kernel_rfl
theorem k_spoondriftref04_Check : ConOk (tab Tryd.prog) glT 59 c_spoondriftref04_Check := con_of l_spoondriftref04_Check r_spoondriftref04_Check ⟨k_spoondriftref04_off, k_spoondriftref04_CheckGate, trivial⟩
def c_spoondriftref24_Check : Con := ⟨[kT, cT], ⟨[.s (.h iT)], []⟩, m_spoondriftref24_Check⟩
def l_spoondriftref24_Check : List (Nat × Con) := [(58, c_spoondriftref24_Quiet), (59, c_spoondriftref04_Check)]
def h_spoondriftref24_Check : Hs := {
  lp := (fun f b => match f, b with
  | 38, 0 => some { keep := [3, 24, 25], sl := [(26, .s (.h iT))] }
  | _, _ => none)
  jr := (fun f b => match f, b with
  | 38, 122931 => some { keep := [3, 9, 24, 25, 26], sl := [(51, .s (.h .bool))] }
  | _, _ => none)
  oh := (fun f d => match f, d with
  | 38, 9 => some { ars := [(0, 2, iT)] }
  | _, _ => none)
  con := lookC l_spoondriftref24_Check
  gl := glT }
theorem r_spoondriftref24_Check : (fun x => @vFun stuckC (tab Tryd.prog) h_spoondriftref24_Check 200 38 [kT, cT] ⟨[.s (.h iT)], []⟩ x) = M_spoondriftref24_Check stuckC := by kernel_rfl
theorem k_spoondriftref24_Check : ConOk (tab Tryd.prog) glT 38 c_spoondriftref24_Check := con_of l_spoondriftref24_Check r_spoondriftref24_Check ⟨k_spoondriftref24_Quiet, k_spoondriftref04_Check, trivial⟩
def c_spoondriftref24_long : Con := ⟨[kT, gT], ⟨[.s (.h iT)], []⟩, m_spoondriftref24_long⟩
def l_spoondriftref24_long : List (Nat × Con) := []
def h_spoondriftref24_long : Hs := {
  con := lookC l_spoondriftref24_long
  gl := glT }
theorem r_spoondriftref24_long : (fun x => @vFun stuckC (tab Tryd.prog) h_spoondriftref24_long 200 41 [kT, gT] ⟨[.s (.h iT)], []⟩ x) = M_spoondriftref24_long stuckC := by kernel_rfl
theorem k_spoondriftref24_long : ConOk (tab Tryd.prog) glT 41 c_spoondriftref24_long := con_of l_spoondriftref24_long r_spoondriftref24_long trivial
def c_spoondriftref04_touches : Con := ⟨[gT, gT], ⟨[.s (.h .bool)], []⟩, m_spoondriftref04_touches⟩
def l_spoondriftref04_touches : List (Nat × Con) := []
def h_spoondriftref04_touches : Hs := {
  jr := (fun f b => match f, b with
  | 79, 20507 => some { keep := [2, 3], sl := [(27, .s (.h .bool))] }
  | 79, 114692 => some { keep := [], sl := [(4, .s (.h .bool))] }
  | _, _ => none)
  con := lookC l_spoondriftref04_touches
  gl := glT }
theorem r_spoondriftref04_touches : (fun x => @vFun stuckC (tab Tryd.prog) h_spoondriftref04_touches 200 79 [gT, gT] ⟨[.s (.h .bool)], []⟩ x) = M_spoondriftref04_touches stuckC := by kernel_rfl
theorem k_spoondriftref04_touches : ConOk (tab Tryd.prog) glT 79 c_spoondriftref04_touches := con_of l_spoondriftref04_touches r_spoondriftref04_touches trivial
def c_spoondriftref04_Meet : Con := ⟨[gT, gT], ⟨[.s (.h .bool)], []⟩, m_spoondriftref04_Meet⟩
def l_spoondriftref04_Meet : List (Nat × Con) := [(78, c_spoondriftref04_Has), (79, c_spoondriftref04_touches)]
def h_spoondriftref04_Meet : Hs := {
  lp := (fun f b => match f, b with
  | 60, 0 => some { keep := [2, 3], sl := [(5, .s (.h iT))] }
  | _, _ => none)
  con := lookC l_spoondriftref04_Meet
  gl := glT }
theorem r_spoondriftref04_Meet : (fun x => @vFun stuckC (tab Tryd.prog) h_spoondriftref04_Meet 200 60 [gT, gT] ⟨[.s (.h .bool)], []⟩ x) = M_spoondriftref04_Meet stuckC := by kernel_rfl
theorem k_spoondriftref04_Meet : ConOk (tab Tryd.prog) glT 60 c_spoondriftref04_Meet := con_of l_spoondriftref04_Meet r_spoondriftref04_Meet ⟨k_spoondriftref04_Has, k_spoondriftref04_touches, trivial⟩
def c_spoondriftref24_after : Con := ⟨[kT, gT, gT], ⟨[.s (.h iT)], []⟩, m_spoondriftref24_after⟩
def l_spoondriftref24_after : List (Nat × Con) := [(41, c_spoondriftref24_long), (60, c_spoondriftref04_Meet)]
def h_spoondriftref24_after : Hs := {
  jn := (fun f b => match f, b with
  | 39, 25 => some { keep := [], sl := [(7, .s (.h iT))] }
  | _, _ => none)
  jr := (fun f b => match f, b with
  | 39, 61465 => some { keep := [3, 7], sl := [(25, .s (.h .bool))] }
  | _, _ => none)
  con := lookC l_spoondriftref24_after
  gl := glT }
theorem r_spoondriftref24_after : (fun x => @vFun stuckC (tab Tryd.prog) h_spoondriftref24_after 200 39 [kT, gT, gT] ⟨[.s (.h iT)], []⟩ x) = M_spoondriftref24_after stuckC := by kernel_rfl
theorem k_spoondriftref24_after : ConOk (tab Tryd.prog) glT 39 c_spoondriftref24_after := con_of l_spoondriftref24_after r_spoondriftref24_after ⟨k_spoondriftref24_long, k_spoondriftref04_Meet, trivial⟩
def c_spoondriftref24_step : Con := ⟨[kT, gT, gT], ⟨[.s (.h iT)], []⟩, m_spoondriftref24_step⟩
def l_spoondriftref24_step : List (Nat × Con) := [(39, c_spoondriftref24_after), (41, c_spoondriftref24_long)]
def h_spoondriftref24_step : Hs := {
  con := lookC l_spoondriftref24_step
  gl := glT }
theorem r_spoondriftref24_step : (fun x => @vFun stuckC (tab Tryd.prog) h_spoondriftref24_step 200 40 [kT, gT, gT] ⟨[.s (.h iT)], []⟩ x) = M_spoondriftref24_step stuckC := by kernel_rfl
theorem k_spoondriftref24_step : ConOk (tab Tryd.prog) glT 40 c_spoondriftref24_step := con_of l_spoondriftref24_step r_spoondriftref24_step ⟨k_spoondriftref24_after, k_spoondriftref24_long, trivial⟩
def c_spoondriftref24_Chain : Con := ⟨[kT, cT], ⟨[.s (.e (.gw 0)), .s (.h iT), .s (.h iT)], [.r [.ar iT none] false]⟩, m_spoondriftref24_Chain⟩
def l_spoondriftref24_Chain : List (Nat × Con) := [(38, c_spoondriftref24_Check), (39, c_spoondriftref24_after), (40, c_spoondriftref24_step), (41, c_spoondriftref24_long)]
def h_spoondriftref24_Chain : Hs := {
  lp := (fun f b => match f, b with
  | 11, 2 => some { keep := [2, 3, 8, 9, 10], sl := [(11, .s (.h iT))], ob := [(2, true, .r [.ar iT none] true)] }
  | 11, 0 => some { keep := [2, 3, 8], sl := [(9, .s (.h iT)), (10, .s (.h iT))], ob := [(2, true, .r [.ar iT none] true)] }
  | 11, 4 => some { keep := [2, 3, 8, 9], sl := [(12, .s (.e (.gw 3))), (13, .s (.h iT)), (14, .s (.h iT))], ob := [(3, false, .r [.ar iT none] false)], nils := [(12, iT)] }
  | _, _ => none)
  jn := (fun f b => match f, b with
  | 11, 56 => some { keep := [2, 3, 8, 9, 10, 11], sl := [], ob := [(2, true, .r [.ar iT none] true)] }
  | 11, 156 => some { keep := [2, 3, 8, 9, 14], sl := [(12, .s (.e (.gw 3))), (13, .s (.h iT))], ob := [(3, false, .r [.ar iT none] false)] }
  | 11, 117 => some { keep := [2, 3, 8, 9, 12, 13, 14], sl := [(15, .s (.h iT))] }
  | _, _ => none)
  jr := (fun f b => match f, b with
  | 11, 397417 => some { keep := [2, 3, 8, 9, 12, 13, 14], sl := [(105, .s (.h .bool))] }
  | _, _ => none)
  oh := (fun f d => match f, d with
  | 11, 26 => some { t := some iT }
  | 11, 159 => some { t := some iT }
  | _, _ => none)
  con := lookC l_spoondriftref24_Chain
  gl := glT }
theorem r_spoondriftref24_Chain : (fun x => @vFun stuckC (tab Tryd.prog) h_spoondriftref24_Chain 200 11 [kT, cT] ⟨[.s (.e (.gw 0)), .s (.h iT), .s (.h iT)], [.r [.ar iT none] false]⟩ x) = M_spoondriftref24_Chain stuckC := by kernel_rfl
theorem k_spoondriftref24_Chain : ConOk (tab Tryd.prog) glT 11 c_spoondriftref24_Chain := con_of l_spoondriftref24_Chain r_spoondriftref24_Chain ⟨k_spoondriftref24_Check, k_spoondriftref24_after, k_spoondriftref24_step, k_spoondriftref24_long, trivial⟩
def c_spoondriftref24_Shows : Con := ⟨[kT, cT, (.sl iT)], ⟨[.s (.h iT), .s (.h iT)], []⟩, m_spoondriftref24_Shows⟩
def l_spoondriftref24_Shows : List (Nat × Con) := [(38, c_spoondriftref24_Check), (39, c_spoondriftref24_after), (40, c_spoondriftref24_step), (41, c_spoondriftref24_long)]
def h_spoondriftref24_Shows : Hs := {
  lp := (fun f b => match f, b with
  | 13, 0 => some { keep := [2, 3, 4, 22, 23], sl := [(24, .s (.h iT))] }
  | 13, 2 => some { keep := [2, 3, 4], sl := [(11, .s (.h iT))] }
  | 13, 4 => some { keep := [2, 3, 4, 54, 55], sl := [(12, .s (.h iT)), (56, .s (.h iT))] }
  | _, _ => none)
  jr := (fun f b => match f, b with
  | 13, 114724 => some { keep := [2, 3, 4, 22, 23, 24], sl := [(36, .s (.h .bool))] }
  | _, _ => none)
  con := lookC l_spoondriftref24_Shows
  gl := glT }
theorem r_spoondriftref24_Shows : (fun x => @vFun stuckC (tab Tryd.prog) h_spoondriftref24_Shows 200 13 [kT, cT, (.sl iT)] ⟨[.s (.h iT), .s (.h iT)], []⟩ x) = M_spoondriftref24_Shows stuckC := by kernel_rfl
theorem k_spoondriftref24_Shows : ConOk (tab Tryd.prog) glT 13 c_spoondriftref24_Shows := con_of l_spoondriftref24_Shows r_spoondriftref24_Shows ⟨k_spoondriftref24_Check, k_spoondriftref24_after, k_spoondriftref24_step, k_spoondriftref24_long, trivial⟩
def c_spoondriftref24_Same : Con := ⟨[kT, kT], ⟨[.s (.h .bool)], []⟩, m_spoondriftref24_Same⟩
def l_spoondriftref24_Same : List (Nat × Con) := []
def h_spoondriftref24_Same : Hs := {
  lp := (fun f b => match f, b with
  | 15, 0 => some { keep := [2, 3, 32], sl := [(33, .s (.h iT))] }
  | 15, 2 => some { keep := [2, 3, 50], sl := [(51, .s (.h iT))] }
  | _, _ => none)
  jr := (fun f b => match f, b with
  | 15, 28701 => some { keep := [2, 3], sl := [(29, .s (.h .bool))] }
  | _, _ => none)
  con := lookC l_spoondriftref24_Same
  gl := glT }
theorem r_spoondriftref24_Same : (fun x => @vFun stuckC (tab Tryd.prog) h_spoondriftref24_Same 200 15 [kT, kT] ⟨[.s (.h .bool)], []⟩ x) = M_spoondriftref24_Same stuckC := by kernel_rfl
theorem k_spoondriftref24_Same : ConOk (tab Tryd.prog) glT 15 c_spoondriftref24_Same := con_of l_spoondriftref24_Same r_spoondriftref24_Same trivial
def c_spoondriftkit_SameGate : Con := ⟨[gT, gT], ⟨[.s (.h .bool)], []⟩, m_spoondriftkit_SameGate⟩
def l_spoondriftkit_SameGate : List (Nat × Con) := [(14, c_slices_Equal)]
def h_spoondriftkit_SameGate : Hs := {
  jr := (fun f b => match f, b with
  | 44, 20484 => some { keep := [], sl := [(4, .s (.h .bool))] }
  | _, _ => none)
  con := lookC l_spoondriftkit_SameGate
  gl := glT }
theorem r_spoondriftkit_SameGate : (fun x => @vFun stuckC (tab Tryd.prog) h_spoondriftkit_SameGate 200 44 [gT, gT] ⟨[.s (.h .bool)], []⟩ x) = M_spoondriftkit_SameGate stuckC := by kernel_rfl
theorem k_spoondriftkit_SameGate : ConOk (tab Tryd.prog) glT 44 c_spoondriftkit_SameGate := con_of l_spoondriftkit_SameGate r_spoondriftkit_SameGate ⟨k_slices_Equal, trivial⟩
def c_spoondriftkit_Same : Con := ⟨[cT, cT], ⟨[.s (.h .bool)], []⟩, m_spoondriftkit_Same⟩
def l_spoondriftkit_Same : List (Nat × Con) := [(44, c_spoondriftkit_SameGate)]
def h_spoondriftkit_Same : Hs := {
  lp := (fun f b => match f, b with
  | 43, 0 => some { keep := [1, 2, 15, 16], sl := [(17, .s (.h iT))] }
  | _, _ => none)
  jr := (fun f b => match f, b with
  | 16, 20484 => some { keep := [], sl := [(4, .s (.h .bool))] }
  | _, _ => none)
  con := lookC l_spoondriftkit_Same
  gl := glT }
theorem r_spoondriftkit_Same : (fun x => @vFun stuckC (tab Tryd.prog) h_spoondriftkit_Same 200 16 [cT, cT] ⟨[.s (.h .bool)], []⟩ x) = M_spoondriftkit_Same stuckC := by kernel_rfl
theorem k_spoondriftkit_Same : ConOk (tab Tryd.prog) glT 16 c_spoondriftkit_Same := con_of l_spoondriftkit_Same r_spoondriftkit_Same ⟨k_spoondriftkit_SameGate, trivial⟩
end
end Go.Canon
namespace Go.Canon
open Go
set_option maxRecDepth 100000
set_option maxHeartbeats 0
set_option linter.unusedVariables false
noncomputable section
open Go.Proofs
def l_spoondriftlaw24_awake : List (Nat × Con) := [(4, c_spoondriftlaw24_great), (18, c_spoondriftkit_Great_1), (5, c_spoondriftkit_Great), (72, c_sched_clock_1), (52, c_sched_clock), (37, c_slices_Index), (70, c_slices_Contains), (86, c_circ_Arity), (54, c_circ_Check), (33, c_sched_plan_length), (56, c_sched_reads), (74, c_sched_common), (75, c_sched_writes), (55, c_sched_meet), (34, c_sched_plan_holds), (35, c_sched_plan_late), (57, c_slices_Max), (36, c_sched_greatest), (10, c_sched_Chain), (42, c_sched_plan_has), (12, c_sched_Shows), (19, c_spoondriftlaw24_clock), (20, c_spoondriftlaw24_gate), (53, c_sched_plan_disturb), (81, c_sched_plan_on), (82, c_sched_span_overlaps), (63, c_sched_plan_free), (64, c_sched_plan_after), (65, c_sched_upto), (46, c_sched_plan_early), (21, c_sched_Early), (66, c_sched_with_1), (47, c_sched_with), (48, c_sched_plan_end), (22, c_sched_Length), (67, c_sched_plan_before), (49, c_sched_plan_latest), (23, c_sched_Late), (24, c_sched_Slack), (25, c_sched_Right), (26, c_sched_Idle), (14, c_slices_Equal), (27, c_spoondriftlaw24_known), (28, c_sched_Holds), (9, c_slices_Clone), (90, c_cmp_isNaN), (83, c_cmp_Compare), (69, c_slices_Compare), (30, c_sched_Quiet), (31, c_sched_Disturb), (7, c_spoondriftref24_Own), (8, c_spoondriftkit_Own), (58, c_spoondriftref24_Quiet), (76, c_spoondriftref04_off), (78, c_spoondriftref04_Has), (89, c_spoondriftref04_Arity), (77, c_spoondriftref04_CheckGate), (59, c_spoondriftref04_Check), (38, c_spoondriftref24_Check), (41, c_spoondriftref24_long), (79, c_spoondriftref04_touches), (60, c_spoondriftref04_Meet), (39, c_spoondriftref24_after), (40, c_spoondriftref24_step), (11, c_spoondriftref24_Chain), (13, c_spoondriftref24_Shows), (15, c_spoondriftref24_Same), (44, c_spoondriftkit_SameGate), (16, c_spoondriftkit_Same)]
def h_spoondriftlaw24_awake : Hs := {
  oh := (fun f d => match f, d with
  | 6, 26 => some { t := some iT }
  | 6, 28 => some { t := some iT }
  | 6, 30 => some { t := some iT }
  | 6, 32 => some { t := some gT }
  | 6, 43 => some { t := some iT }
  | 6, 69 => some { t := some iT }
  | 6, 76 => some { t := some iT }
  | 6, 83 => some { t := some iT }
  | 6, 89 => some { t := some iT }
  | 6, 103 => some { t := some iT }
  | 6, 110 => some { t := some iT }
  | 6, 117 => some { t := some iT }
  | 6, 140 => some { t := some iT }
  | 6, 144 => some { t := some iT }
  | 6, 146 => some { t := some iT }
  | 6, 148 => some { t := some gT }
  | 6, 162 => some { t := some iT }
  | 6, 164 => some { t := some iT }
  | 6, 166 => some { t := some gT }
  | 6, 169 => some { ars := [(0, 2, iT)] }
  | 6, 170 => some { t := some (.arr 2 iT) }
  | 6, 177 => some { ars := [(0, 2, iT)] }
  | 6, 178 => some { t := some (.arr 2 iT) }
  | 51, 5 => some { ars := [(0, 7, iT)] }
  | 51, 6 => some { ars := [(0, 7, iT)] }
  | 51, 18 => some { t := some iT }
  | 51, 19 => some { t := some (.arr 7 iT), v := .bool }
  | 68, 9 => some { ars := [(0, 7, iT)] }
  | 68, 82 => some { t := some iT }
  | 51, 27 => some { t := some iT }
  | 6, 186 => some { t := some (.arr 2 iT) }
  | 6, 199 => some { t := some (.arr 2 iT) }
  | 6, 207 => some { t := some iT }
  | 6, 220 => some { t := some iT }
  | 32, 24 => some { t := some (.arr 2 iT), v := .bool }
  | 32, 25 => some { ars := [(3, 14, iT)] }
  | 32, 10 => some { ars := [(0, 2, iT)] }
  | 32, 80 => some { ars := [(0, 2, iT)] }
  | _, _ => none)
  con := lookC l_spoondriftlaw24_awake
  gl := glT }
def c_spoondriftlaw24_awake : Con := ⟨[], ⟨[.s (.h .bool)], []⟩, m_spoondriftlaw24_awake⟩
theorem e_spoondriftlaw24_awake : @vFun realC (tab Tryd.prog) h_spoondriftlaw24_awake 400 6 [] ⟨[.s (.h .bool)], []⟩ () = some ((true, ()), ()) := by kernel_rfl
theorem k_spoondriftlaw24_awake : ConOk (tab Tryd.prog) glT 6 c_spoondriftlaw24_awake := con_eq l_spoondriftlaw24_awake (by funext x; exact e_spoondriftlaw24_awake) ⟨k_spoondriftlaw24_great, k_spoondriftkit_Great_1, k_spoondriftkit_Great, k_sched_clock_1, k_sched_clock, k_slices_Index, k_slices_Contains, k_circ_Arity, k_circ_Check, k_sched_plan_length, k_sched_reads, k_sched_common, k_sched_writes, k_sched_meet, k_sched_plan_holds, k_sched_plan_late, k_slices_Max, k_sched_greatest, k_sched_Chain, k_sched_plan_has, k_sched_Shows, k_spoondriftlaw24_clock, k_spoondriftlaw24_gate, k_sched_plan_disturb, k_sched_plan_on, k_sched_span_overlaps, k_sched_plan_free, k_sched_plan_after, k_sched_upto, k_sched_plan_early, k_sched_Early, k_sched_with_1, k_sched_with, k_sched_plan_end, k_sched_Length, k_sched_plan_before, k_sched_plan_latest, k_sched_Late, k_sched_Slack, k_sched_Right, k_sched_Idle, k_slices_Equal, k_spoondriftlaw24_known, k_sched_Holds, k_slices_Clone, k_cmp_isNaN, k_cmp_Compare, k_slices_Compare, k_sched_Quiet, k_sched_Disturb, k_spoondriftref24_Own, k_spoondriftkit_Own, k_spoondriftref24_Quiet, k_spoondriftref04_off, k_spoondriftref04_Has, k_spoondriftref04_Arity, k_spoondriftref04_CheckGate, k_spoondriftref04_Check, k_spoondriftref24_Check, k_spoondriftref24_long, k_spoondriftref04_touches, k_spoondriftref04_Meet, k_spoondriftref24_after, k_spoondriftref24_step, k_spoondriftref24_Chain, k_spoondriftref24_Shows, k_spoondriftref24_Same, k_spoondriftkit_SameGate, k_spoondriftkit_Same, trivial⟩
end
end Go.Canon
namespace Go.Canon
open Go
set_option maxRecDepth 100000
set_option maxHeartbeats 0
set_option linter.unusedVariables false
noncomputable section
open Go.Proofs
def c_spoondriftlaw24_SchedChains : Con := ⟨[kT, cT, (.sl iT)], ⟨[.s (.h .bool)], []⟩, m_spoondriftlaw24_SchedChains⟩
def l_spoondriftlaw24_SchedChains : List (Nat × Con) := [(4, c_spoondriftlaw24_great), (5, c_spoondriftkit_Great), (6, c_spoondriftlaw24_awake), (7, c_spoondriftref24_Own), (8, c_spoondriftkit_Own), (9, c_slices_Clone), (10, c_sched_Chain), (11, c_spoondriftref24_Chain), (12, c_sched_Shows), (13, c_spoondriftref24_Shows), (14, c_slices_Equal), (15, c_spoondriftref24_Same), (16, c_spoondriftkit_Same)]
def h_spoondriftlaw24_SchedChains : Hs := {
  jr := (fun f b => match f, b with
  | 3, 81950 => some { keep := [2, 3, 4], sl := [(30, .s (.h .bool))] }
  | 3, 270342 => some { keep := [], sl := [(6, .s (.h .bool))] }
  | _, _ => none)
  con := lookC l_spoondriftlaw24_SchedChains
  gl := glT }
theorem r_spoondriftlaw24_SchedChains : (fun x => @vFun stuckC (tab Tryd.prog) h_spoondriftlaw24_SchedChains 200 3 [kT, cT, (.sl iT)] ⟨[.s (.h .bool)], []⟩ x) = M_spoondriftlaw24_SchedChains stuckC := by kernel_rfl
theorem k_spoondriftlaw24_SchedChains : ConOk (tab Tryd.prog) glT 3 c_spoondriftlaw24_SchedChains := con_of l_spoondriftlaw24_SchedChains r_spoondriftlaw24_SchedChains ⟨k_spoondriftlaw24_great, k_spoondriftkit_Great, k_spoondriftlaw24_awake, k_spoondriftref24_Own, k_spoondriftkit_Own, k_slices_Clone, k_sched_Chain, k_spoondriftref24_Chain, k_sched_Shows, k_spoondriftref24_Shows, k_slices_Equal, k_spoondriftref24_Same, k_spoondriftkit_Same, trivial⟩
end
end Go.Canon
