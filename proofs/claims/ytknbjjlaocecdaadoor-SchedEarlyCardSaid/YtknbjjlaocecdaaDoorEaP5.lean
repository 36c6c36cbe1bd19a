/- SchedEarly, part 5: the canonical machine and the runs of the program's functions on it. No conditions. -/
import Derived.Test.YtknbjjlaocecdaaDoorEaP4
set_option linter.unusedSectionVars false
set_option linter.unusedVariables false
set_option linter.unusedSimpArgs false
namespace Go.Canon
open Go
set_option maxRecDepth 100000
set_option maxHeartbeats 0
set_option linter.unusedVariables false
noncomputable section
def M_slices_Clone_uint8 (C : Cmb) (x : (List Int) × Unit) : Option ((Unit × Unit) × (((List Int) × Unit) × Unit)) := (fun (s : El (Ty.int IntKind.u8).sl) => bif List.isEmpty s then same (some (((), ()), ([], ()), ())) (C.grd (true && leN ((0 + List.length s) * 1) roomB) (some (((), ()), ([] ++ s, ()), ()))) else C.grd (true && leN ((0 + List.length s) * 1) roomB) (some (((), ()), ([] ++ s, ()), ()))) x.1
def m_slices_Clone_uint8 (x : (List Int) × Unit) : Option ((Unit × Unit) × (((List Int) × Unit) × Unit)) := bif leN (List.length x.1 * 1) roomB then some (((), ()), (x.1, ()), ()) else none
theorem q_slices_Clone_uint8 : M_slices_Clone_uint8 realC = m_slices_Clone_uint8 := by
  funext x
  obtain ⟨l, u⟩ := x
  cases l with
  | nil => exact @same_self realC _ _
  | cons a l => simp only [M_slices_Clone_uint8, m_slices_Clone_uint8, List.isEmpty, cond_false, Nat.zero_add, Bool.true_and, List.nil_append]; rfl
def M_spoondriftkit_Of (C : Cmb) (x : (List Int) × Unit) : Option ((Unit × Unit) × (((List Int) × Int × Int × Unit) × Unit)) := (fun (bytes : El (Ty.int IntKind.u8).sl) => C.grd (leI 0 (List.foldl mn2 (Int.ofNat (List.length bytes)) [Int.ofNat 300]) && leI (List.foldl mn2 (Int.ofNat (List.length bytes)) [Int.ofNat 300]) (Int.ofNat (List.length bytes))) ((m_slices_Clone_uint8 (List.take (List.foldl mn2 (Int.ofNat (List.length bytes)) [Int.ofNat 300]).toNat bytes, ())).elim none fun (val : (PUnit × PUnit) × (List Int × PUnit) × PUnit) => some (((), ()), (val.snd.fst.fst, Int.ofNat 0, Int.ofNat 2463534242, ()), ()))) x.1
def m_spoondriftkit_Of : (List Int) × Unit → Option ((Unit × Unit) × (((List Int) × Int × Int × Unit) × Unit)) := M_spoondriftkit_Of realC
def M_spoondriftkit_Store_draw (C : Cmb) (x : ((List Int) × Int × Int × Unit) × (Unit)) : Option ((Int × Unit) × ((List Int) × Int × Int × Unit)) := (fun (s : El ((Ty.int IntKind.u8).sl.pair (iT.pair ((Ty.int IntKind.u32).pair Ty.unit)))) => C.grd true (C.grd true (C.grd true (C.grd true (C.join (fun (x : (Int × PUnit) × (List Int × Int × Int × PUnit) × PUnit) => some ((x.fst.fst, ()), x.snd.fst.fst, x.snd.fst.snd.fst, x.snd.fst.snd.snd.fst, ())) fun (kont : (Int × PUnit) × (List Int × Int × Int × PUnit) × PUnit → Option ((Int × PUnit) × List Int × Int × Int × PUnit)) => bif gtI (Int.ofNat s.fst.length) (Int.ofNat 0) then C.grd (Int.ofNat s.fst.length != 0) (C.grd (inB (s.snd.fst.tmod (Int.ofNat s.fst.length)) s.fst.length) (C.grd (Int.ofNat s.fst.length != 0) (C.grd (inB (s.snd.fst.tmod (Int.ofNat s.fst.length)) s.fst.length) (kont ((IntKind.u32.wrap (((kbits BinOp.xor IntKind.u32 ((kbits BinOp.xor IntKind.u32 ((kbits BinOp.xor IntKind.u32 s.snd.snd.fst (IntKind.u32.wrap (s.snd.snd.fst * 2 ^ min (Int.ofNat 13).toNat IntKind.u32.bits))).getD 0) (((kbits BinOp.xor IntKind.u32 s.snd.snd.fst (IntKind.u32.wrap (s.snd.snd.fst * 2 ^ min (Int.ofNat 13).toNat IntKind.u32.bits))).getD 0).fdiv (2 ^ min (Int.ofNat 17).toNat IntKind.u32.bits))).getD 0) (IntKind.u32.wrap ((kbits BinOp.xor IntKind.u32 ((kbits BinOp.xor IntKind.u32 s.snd.snd.fst (IntKind.u32.wrap (s.snd.snd.fst * 2 ^ min (Int.ofNat 13).toNat IntKind.u32.bits))).getD 0) (((kbits BinOp.xor IntKind.u32 s.snd.snd.fst (IntKind.u32.wrap (s.snd.snd.fst * 2 ^ min (Int.ofNat 13).toNat IntKind.u32.bits))).getD 0).fdiv (2 ^ min (Int.ofNat 17).toNat IntKind.u32.bits))).getD 0 * 2 ^ min (Int.ofNat 5).toNat IntKind.u32.bits))).getD 0).fdiv (2 ^ min (Int.ofNat 3).toNat IntKind.u32.bits) + IntKind.u32.wrap (Int.ofNat 40503 * IntKind.u32.wrap (s.fst.getD (s.snd.fst.tmod (Int.ofNat s.fst.length)).toNat 0))), ()), (s.fst, IntKind.i64.wrap (s.snd.fst + Int.ofNat 1), IntKind.u32.wrap ((kbits BinOp.xor IntKind.u32 ((kbits BinOp.xor IntKind.u32 ((kbits BinOp.xor IntKind.u32 s.snd.snd.fst (IntKind.u32.wrap (s.snd.snd.fst * 2 ^ min (Int.ofNat 13).toNat IntKind.u32.bits))).getD 0) (((kbits BinOp.xor IntKind.u32 s.snd.snd.fst (IntKind.u32.wrap (s.snd.snd.fst * 2 ^ min (Int.ofNat 13).toNat IntKind.u32.bits))).getD 0).fdiv (2 ^ min (Int.ofNat 17).toNat IntKind.u32.bits))).getD 0) (IntKind.u32.wrap ((kbits BinOp.xor IntKind.u32 ((kbits BinOp.xor IntKind.u32 s.snd.snd.fst (IntKind.u32.wrap (s.snd.snd.fst * 2 ^ min (Int.ofNat 13).toNat IntKind.u32.bits))).getD 0) (((kbits BinOp.xor IntKind.u32 s.snd.snd.fst (IntKind.u32.wrap (s.snd.snd.fst * 2 ^ min (Int.ofNat 13).toNat IntKind.u32.bits))).getD 0).fdiv (2 ^ min (Int.ofNat 17).toNat IntKind.u32.bits))).getD 0 * 2 ^ min (Int.ofNat 5).toNat IntKind.u32.bits))).getD 0 + IntKind.u32.wrap (IntKind.u32.wrap (s.fst.getD (s.snd.fst.tmod (Int.ofNat s.fst.length)).toNat 0) + Int.ofNat 1)), ()), ()))))) else kont ((((kbits BinOp.xor IntKind.u32 ((kbits BinOp.xor IntKind.u32 ((kbits BinOp.xor IntKind.u32 s.snd.snd.fst (IntKind.u32.wrap (s.snd.snd.fst * 2 ^ min (Int.ofNat 13).toNat IntKind.u32.bits))).getD 0) (((kbits BinOp.xor IntKind.u32 s.snd.snd.fst (IntKind.u32.wrap (s.snd.snd.fst * 2 ^ min (Int.ofNat 13).toNat IntKind.u32.bits))).getD 0).fdiv (2 ^ min (Int.ofNat 17).toNat IntKind.u32.bits))).getD 0) (IntKind.u32.wrap ((kbits BinOp.xor IntKind.u32 ((kbits BinOp.xor IntKind.u32 s.snd.snd.fst (IntKind.u32.wrap (s.snd.snd.fst * 2 ^ min (Int.ofNat 13).toNat IntKind.u32.bits))).getD 0) (((kbits BinOp.xor IntKind.u32 s.snd.snd.fst (IntKind.u32.wrap (s.snd.snd.fst * 2 ^ min (Int.ofNat 13).toNat IntKind.u32.bits))).getD 0).fdiv (2 ^ min (Int.ofNat 17).toNat IntKind.u32.bits))).getD 0 * 2 ^ min (Int.ofNat 5).toNat IntKind.u32.bits))).getD 0).fdiv (2 ^ min (Int.ofNat 3).toNat IntKind.u32.bits), ()), (s.fst, s.snd.fst, (kbits BinOp.xor IntKind.u32 ((kbits BinOp.xor IntKind.u32 ((kbits BinOp.xor IntKind.u32 s.snd.snd.fst (IntKind.u32.wrap (s.snd.snd.fst * 2 ^ min (Int.ofNat 13).toNat IntKind.u32.bits))).getD 0) (((kbits BinOp.xor IntKind.u32 s.snd.snd.fst (IntKind.u32.wrap (s.snd.snd.fst * 2 ^ min (Int.ofNat 13).toNat IntKind.u32.bits))).getD 0).fdiv (2 ^ min (Int.ofNat 17).toNat IntKind.u32.bits))).getD 0) (IntKind.u32.wrap ((kbits BinOp.xor IntKind.u32 ((kbits BinOp.xor IntKind.u32 s.snd.snd.fst (IntKind.u32.wrap (s.snd.snd.fst * 2 ^ min (Int.ofNat 13).toNat IntKind.u32.bits))).getD 0) (((kbits BinOp.xor IntKind.u32 s.snd.snd.fst (IntKind.u32.wrap (s.snd.snd.fst * 2 ^ min (Int.ofNat 13).toNat IntKind.u32.bits))).getD 0).fdiv (2 ^ min (Int.ofNat 17).toNat IntKind.u32.bits))).getD 0 * 2 ^ min (Int.ofNat 5).toNat IntKind.u32.bits))).getD 0, ()), ())))))) x.1
def m_spoondriftkit_Store_draw : ((List Int) × Int × Int × Unit) × (Unit) → Option ((Int × Unit) × ((List Int) × Int × Int × Unit)) := M_spoondriftkit_Store_draw realC
def M_spoondriftkit_Store_Less (C : Cmb) (x : ((List Int) × Int × Int × Unit) × (Int × Unit)) : Option ((Int × Unit) × ((List Int) × Int × Int × Unit)) := (fun (s : El ((Ty.int IntKind.u8).sl.pair (iT.pair ((Ty.int IntKind.u32).pair Ty.unit)))) (n : El iT) => bif leI n (Int.ofNat 0) then some ((Int.ofNat 0, ()), s.fst, s.snd.fst, s.snd.snd.fst, ()) else (m_spoondriftkit_Store_draw (s, ())).elim none fun (val : (Int × PUnit) × List Int × Int × Int × PUnit) => C.grd true (C.grd (n != 0) (some (((IntKind.i64.wrap (val.fst.fst.fdiv (2 ^ min (Int.ofNat 4).toNat IntKind.u32.bits))).tmod n, ()), val.snd.fst, val.snd.snd.fst, val.snd.snd.snd.fst, ())))) x.1 x.2.1
def m_spoondriftkit_Store_Less : ((List Int) × Int × Int × Unit) × (Int × Unit) → Option ((Int × Unit) × ((List Int) × Int × Int × Unit)) := M_spoondriftkit_Store_Less realC
def M_spoondriftkit_Store_From (C : Cmb) (x : ((List Int) × Int × Int × Unit) × (Int × Int × Unit)) : Option ((Int × Unit) × ((List Int) × Int × Int × Unit)) := (fun (s : El ((Ty.int IntKind.u8).sl.pair (iT.pair ((Ty.int IntKind.u32).pair Ty.unit)))) (lo hi : El iT) => (m_spoondriftkit_Store_Less (s, IntKind.i64.wrap (IntKind.i64.wrap (hi - lo) + Int.ofNat 1), ())).elim none fun (val : (Int × PUnit) × List Int × Int × Int × PUnit) => some ((IntKind.i64.wrap (lo + val.fst.fst), ()), val.snd.fst, val.snd.snd.fst, val.snd.snd.snd.fst, ())) x.1 x.2.1 x.2.2.1
def m_spoondriftkit_Store_From : ((List Int) × Int × Int × Unit) × (Int × Int × Unit) → Option ((Int × Unit) × ((List Int) × Int × Int × Unit)) := M_spoondriftkit_Store_From realC
def M_spoondriftkit_Arity (C : Cmb) (x : Int × Unit) : Option ((Int × Unit) × Unit) := (fun (kind : El iT) => C.join (fun (x : (Bool × PUnit) × PUnit) => C.join (fun (x : (Bool × PUnit) × PUnit) => C.join (fun (x : (Bool × PUnit) × PUnit) => some ((Int.ofNat 0, ()), ())) fun (kont : (Bool × PUnit) × PUnit → Option ((Int × PUnit) × PUnit)) => bif x.fst.fst then some ((Int.ofNat 1, ()), ()) else C.join (fun (x : (Bool × PUnit) × PUnit) => bif x.fst.fst then some ((Int.ofNat 2, ()), ()) else bif kind == Int.ofNat 12 then some ((Int.ofNat 3, ()), ()) else none) fun (kont : (Bool × PUnit) × PUnit → Option ((Int × PUnit) × PUnit)) => bif geI kind (Int.ofNat 9) then kont ((bif true then leI kind (Int.ofNat 11) else false, ()), ()) else kont ((false, ()), ())) fun (kont : (Bool × PUnit) × PUnit → Option ((Int × PUnit) × PUnit)) => bif x.fst.fst then kont ((true, ()), ()) else C.join (fun (x : (Bool × PUnit) × PUnit) => kont ((x.fst.fst, ()), ())) fun (kont : (Bool × PUnit) × PUnit → Option ((Int × PUnit) × PUnit)) => bif kind == Int.ofNat 13 then kont ((true, ()), ()) else kont ((kind == Int.ofNat 14, ()), ())) fun (kont : (Bool × PUnit) × PUnit → Option ((Int × PUnit) × PUnit)) => bif geI kind (Int.ofNat 1) then kont ((bif true then leI kind (Int.ofNat 8) else false, ()), ()) else kont ((false, ()), ())) x.1
def m_spoondriftkit_Arity : Int × Unit → Option ((Int × Unit) × Unit) := M_spoondriftkit_Arity realC
def M_spoondriftkit_Store_Order (C : Cmb) (x : ((List Int) × Int × Int × Unit) × (Int × Unit)) : Option (((List Int) × Unit) × ((List Int) × Int × Int × Unit)) := (fun (s : El ((Ty.int IntKind.u8).sl.pair (iT.pair ((Ty.int IntKind.u32).pair Ty.unit)))) (n : El iT) => C.loop (fun (x : (PUnit × Int × PUnit) × (List Int × Int × Int × PUnit) × (List Int × PUnit) × PUnit) (again : (PUnit × Int × PUnit) × (List Int × Int × Int × PUnit) × (List Int × PUnit) × PUnit → Option ((List Int × PUnit) × List Int × Int × Int × PUnit)) => bif ltI x.fst.snd.fst n then (m_spoondriftkit_Store_Less (x.snd.fst, IntKind.i64.wrap (x.fst.snd.fst + Int.ofNat 1), ())).elim none fun (val : (Int × PUnit) × List Int × Int × Int × PUnit) => C.grd (true && true && insG val.fst.fst x.snd.snd.fst.fst.length [x.fst.snd.fst].length) (again (((), IntKind.i64.wrap (x.fst.snd.fst + Int.ofNat 1), ()), val.snd, (insL val.fst.fst x.snd.snd.fst.fst [x.fst.snd.fst], ()), ())) else some ((x.snd.snd.fst.fst, ()), x.snd.fst.fst, x.snd.fst.snd.fst, x.snd.fst.snd.snd.fst, ())) fuelL (((), Int.ofNat 0, ()), s, ([], ()), ())) x.1 x.2.1
def m_spoondriftkit_Store_Order : ((List Int) × Int × Int × Unit) × (Int × Unit) → Option (((List Int) × Unit) × ((List Int) × Int × Int × Unit)) := M_spoondriftkit_Store_Order realC
def M_spoondriftkit_Store_Gate (C : Cmb) (x : ((List Int) × Int × Int × Unit) × (Int × (List Int) × Unit)) : Option (((Int × (List Int) × Int × Int × Unit) × Unit) × ((List Int) × Int × Int × Unit)) := (fun (s : El ((Ty.int IntKind.u8).sl.pair (iT.pair ((Ty.int IntKind.u32).pair Ty.unit)))) (wires : El iT) (kinds : El iT.sl) => (m_spoondriftkit_Store_Less (s, Int.ofNat (List.length kinds), ())).elim none fun (val : (Int × PUnit) × List Int × Int × Int × PUnit) => C.grd (inB val.fst.fst (List.length kinds)) ((m_spoondriftkit_Arity (List.getD kinds val.fst.fst.toNat 0, ())).elim none fun (val_1 : (Int × PUnit) × PUnit) => C.join (fun (x : (Int × PUnit) × PUnit) => (m_spoondriftkit_Store_Order (val.snd, wires, ())).elim none fun (val : (List Int × PUnit) × List Int × Int × Int × PUnit) => (m_spoondriftkit_Arity (x.fst.fst, ())).elim none fun (val_2 : (Int × PUnit) × PUnit) => C.grd (leI 0 val_2.fst.fst && leI val_2.fst.fst (Int.ofNat val.fst.fst.length)) (some (((x.fst.fst, List.take val_2.fst.fst.toNat val.fst.fst, Int.ofNat 0, Int.ofNat 0, ()), ()), val.snd.fst, val.snd.snd.fst, val.snd.snd.snd.fst, ()))) fun (kont : (Int × PUnit) × PUnit → Option (((Int × List Int × Int × Int × PUnit) × PUnit) × List Int × Int × Int × PUnit)) => bif gtI val_1.fst.fst wires then C.grd (inB (Int.ofNat 0) (List.length kinds)) (kont ((List.getD kinds (Int.ofNat 0).toNat 0, ()), ())) else kont ((List.getD kinds val.fst.fst.toNat 0, ()), ()))) x.1 x.2.1 x.2.2.1
def m_spoondriftkit_Store_Gate : ((List Int) × Int × Int × Unit) × (Int × (List Int) × Unit) → Option (((Int × (List Int) × Int × Int × Unit) × Unit) × ((List Int) × Int × Int × Unit)) := M_spoondriftkit_Store_Gate realC
def M_spoondriftkit_Store_Seldom (C : Cmb) (x : ((List Int) × Int × Int × Unit) × (Int × Unit)) : Option ((Bool × Unit) × ((List Int) × Int × Int × Unit)) := (fun (s : El ((Ty.int IntKind.u8).sl.pair (iT.pair ((Ty.int IntKind.u32).pair Ty.unit)))) (n : El iT) => (m_spoondriftkit_Store_Less (s, n, ())).elim none fun (val : (Int × PUnit) × List Int × Int × Int × PUnit) => some ((val.fst.fst == Int.ofNat 0, ()), val.snd.fst, val.snd.snd.fst, val.snd.snd.snd.fst, ())) x.1 x.2.1
def m_spoondriftkit_Store_Seldom : ((List Int) × Int × Int × Unit) × (Int × Unit) → Option ((Bool × Unit) × ((List Int) × Int × Int × Unit)) := M_spoondriftkit_Store_Seldom realC
def M_spoondriftkit_Store_Steered (C : Cmb) (x : ((List Int) × Int × Int × Unit) × (Int × Int × Int × (List Int) × Unit)) : Option (((Int × Int × (List (Int × (List Int) × Int × Int × Unit)) × Unit) × Unit) × ((List Int) × Int × Int × Unit)) := (fun (s : El ((Ty.int IntKind.u8).sl.pair (iT.pair ((Ty.int IntKind.u32).pair Ty.unit)))) (wires bits most : El iT) (kinds : El iT.sl) => (m_spoondriftkit_Store_Less (s, IntKind.i64.wrap (most + Int.ofNat 1), ())).elim none fun (val : (Int × PUnit) × List Int × Int × Int × PUnit) => C.loop (fun (x : (Int × PUnit) × (List Int × Int × Int × PUnit) × (Int × Int × PUnit × PUnit) × (List (Int × List Int × Int × Int × PUnit) × PUnit) × PUnit) (again : (Int × PUnit) × (List Int × Int × Int × PUnit) × (Int × Int × PUnit × PUnit) × (List (Int × List Int × Int × Int × PUnit) × PUnit) × PUnit → Option (((Int × Int × List (Int × List Int × Int × Int × PUnit) × PUnit) × PUnit) × List Int × Int × Int × PUnit)) => bif ltI x.fst.fst val.fst.fst then (m_spoondriftkit_Store_Gate (x.snd.fst, wires, kinds, ())).elim none fun (val : ((Int × List Int × Int × Int × PUnit) × PUnit) × List Int × Int × Int × PUnit) => C.join (fun (x_1 : (Bool × PUnit) × (List Int × Int × Int × PUnit) × PUnit) => C.join (fun (x_2 : PUnit × (List Int × Int × Int × PUnit) × (Int × List Int × Int × Int × PUnit) × PUnit) => C.grd (true && leN ((x.snd.snd.snd.fst.fst.length + [x_2.snd.snd.fst].length) * 48) roomB) (again ((IntKind.i64.wrap (x.fst.fst + Int.ofNat 1), ()), x_2.snd.fst, (x.snd.snd.fst.fst, x.snd.snd.fst.snd.fst, (), ()), (x.snd.snd.snd.fst.fst ++ [x_2.snd.snd.fst], ()), ()))) fun (kont : PUnit × (List Int × Int × Int × PUnit) × (Int × List Int × Int × Int × PUnit) × PUnit → Option (((Int × Int × List (Int × List Int × Int × Int × PUnit) × PUnit) × PUnit) × List Int × Int × Int × PUnit)) => bif x_1.fst.fst then (m_spoondriftkit_Store_Less (x_1.snd.fst, wires, ())).elim none fun (val : (Int × PUnit) × List Int × Int × Int × PUnit) => (m_spoondriftkit_Store_Less (val.snd, bits, ())).elim none fun (val_1 : (Int × PUnit) × List Int × Int × Int × PUnit) => kont ((), val_1.snd, (Int.ofNat 13, [val.fst.fst], val_1.fst.fst, Int.ofNat 0, ()), ()) else (m_spoondriftkit_Store_Seldom (x_1.snd.fst, Int.ofNat 12, ())).elim none fun (val_1 : (Bool × PUnit) × List Int × Int × Int × PUnit) => C.join (fun (x : PUnit × (List Int × Int × Int × PUnit) × (Int × List Int × Int × Int × PUnit) × PUnit) => kont ((), x.snd.fst, x.snd.snd.fst, ())) fun (kont : PUnit × (List Int × Int × Int × PUnit) × (Int × List Int × Int × Int × PUnit) × PUnit → Option (((Int × Int × List (Int × List Int × Int × Int × PUnit) × PUnit) × PUnit) × List Int × Int × Int × PUnit)) => bif val_1.fst.fst then (m_spoondriftkit_Store_Less (val_1.snd, wires, ())).elim none fun (val : (Int × PUnit) × List Int × Int × Int × PUnit) => kont ((), val.snd, (Int.ofNat 14, [val.fst.fst], Int.ofNat 0, Int.ofNat 0, ()), ()) else C.join (fun (x : (Bool × PUnit) × (List Int × Int × Int × PUnit) × PUnit) => C.join (fun (x : PUnit × (List Int × Int × Int × PUnit) × (Int × List Int × Int × Int × PUnit) × PUnit) => kont ((), x.snd.fst, x.snd.snd.fst, ())) fun (kont : PUnit × (List Int × Int × Int × PUnit) × (Int × List Int × Int × Int × PUnit) × PUnit → Option (((Int × Int × List (Int × List Int × Int × Int × PUnit) × PUnit) × PUnit) × List Int × Int × Int × PUnit)) => bif x.fst.fst then (m_spoondriftkit_Store_From (x.snd.fst, Int.ofNat 1, bits, ())).elim none fun (val_2 : (Int × PUnit) × List Int × Int × Int × PUnit) => kont ((), val_2.snd, (val.fst.fst.fst, val.fst.fst.snd.fst, val.fst.fst.snd.snd.fst, val_2.fst.fst, ()), ()) else kont ((), x.snd.fst, val.fst.fst, ())) fun (kont : (Bool × PUnit) × (List Int × Int × Int × PUnit) × PUnit → Option (((Int × Int × List (Int × List Int × Int × Int × PUnit) × PUnit) × PUnit) × List Int × Int × Int × PUnit)) => bif gtI bits (Int.ofNat 0) then (m_spoondriftkit_Store_Seldom (val_1.snd, Int.ofNat 4, ())).elim none fun (val : (Bool × PUnit) × List Int × Int × Int × PUnit) => kont ((bif true then val.fst.fst else false, ()), val.snd, ()) else kont ((false, ()), val_1.snd, ())) fun (kont : (Bool × PUnit) × (List Int × Int × Int × PUnit) × PUnit → Option (((Int × Int × List (Int × List Int × Int × Int × PUnit) × PUnit) × PUnit) × List Int × Int × Int × PUnit)) => bif gtI bits (Int.ofNat 0) then (m_spoondriftkit_Store_Seldom (val.snd, Int.ofNat 5, ())).elim none fun (val : (Bool × PUnit) × List Int × Int × Int × PUnit) => kont ((bif true then val.fst.fst else false, ()), val.snd, ()) else kont ((false, ()), val.snd, ()) else some (((x.snd.snd.fst.fst, x.snd.snd.fst.snd.fst, x.snd.snd.snd.fst.fst, ()), ()), x.snd.fst.fst, x.snd.fst.snd.fst, x.snd.fst.snd.snd.fst, ())) fuelL ((Int.ofNat 0, ()), val.snd, (wires, bits, (), ()), ([], ()), ())) x.1 x.2.1 x.2.2.1 x.2.2.2.1 x.2.2.2.2.1
def m_spoondriftkit_Store_Steered : ((List Int) × Int × Int × Unit) × (Int × Int × Int × (List Int) × Unit) → Option (((Int × Int × (List (Int × (List Int) × Int × Int × Unit)) × Unit) × Unit) × ((List Int) × Int × Int × Unit)) := M_spoondriftkit_Store_Steered realC
def M_spoondriftlaw24_Ticking (C : Cmb) (x : ((List Int) × Int × Int × Unit) × (Int × Bool × Unit)) : Option ((((List Int) × Int × (List (List Int)) × Unit) × Unit) × ((List Int) × Int × Int × Unit)) := (fun (s : El ((Ty.int IntKind.u8).sl.pair (iT.pair ((Ty.int IntKind.u32).pair Ty.unit)))) (wires : El iT) (noise : El Ty.bool) => (m_spoondriftkit_Store_Less (s, Int.ofNat 12, ())).elim none fun (val : (Int × PUnit) × List Int × Int × Int × PUnit) => C.loop (fun (x : (Int × PUnit) × (List Int × Int × Int × PUnit) × (PUnit × Int × PUnit × PUnit) × (List Int × PUnit) × PUnit) (again : (Int × PUnit) × (List Int × Int × Int × PUnit) × (PUnit × Int × PUnit × PUnit) × (List Int × PUnit) × PUnit → Option (((List Int × Int × List (List Int) × PUnit) × PUnit) × List Int × Int × Int × PUnit)) => bif ltI x.fst.fst (Int.ofNat 14) then (m_spoondriftkit_Store_From (x.snd.fst, Int.ofNat 1, Int.ofNat 9, ())).elim none fun (val : (Int × PUnit) × List Int × Int × Int × PUnit) => C.grd (true && leN ((x.snd.snd.snd.fst.fst.length + [val.fst.fst].length) * 8) roomB) (again ((IntKind.i64.wrap (x.fst.fst + Int.ofNat 1), ()), val.snd, ((), x.snd.snd.fst.snd.fst, (), ()), (x.snd.snd.snd.fst.fst ++ [val.fst.fst], ()), ())) else C.loop (fun (x : (Int × PUnit) × (List Int × Int × Int × PUnit) × (PUnit × Int × PUnit × PUnit) × (List Int × PUnit) × (List (List Int) × PUnit) × PUnit) (again : (Int × PUnit) × (List Int × Int × Int × PUnit) × (PUnit × Int × PUnit × PUnit) × (List Int × PUnit) × (List (List Int) × PUnit) × PUnit → Option (((List Int × Int × List (List Int) × PUnit) × PUnit) × List Int × Int × Int × PUnit)) => bif ltI x.fst.fst wires then C.loop (fun (x_1 : (Int × PUnit) × (List Int × Int × Int × PUnit) × (PUnit × Int × PUnit × PUnit) × (List Int × PUnit) × (List (List Int) × PUnit) × PUnit) (again_1 : (Int × PUnit) × (List Int × Int × Int × PUnit) × (PUnit × Int × PUnit × PUnit) × (List Int × PUnit) × (List (List Int) × PUnit) × PUnit → Option (((List Int × Int × List (List Int) × PUnit) × PUnit) × List Int × Int × Int × PUnit)) => bif ltI x_1.fst.fst x.fst.fst then C.join (fun (x_2 : (Bool × PUnit) × (List Int × Int × Int × PUnit) × PUnit) => C.join (fun (x : PUnit × (PUnit × Int × PUnit × PUnit) × (List Int × PUnit) × (List (List Int) × PUnit) × PUnit) => again_1 ((IntKind.i64.wrap (x_1.fst.fst + Int.ofNat 1), ()), x_2.snd.fst, ((), x.snd.fst.snd.fst, (), ()), (x.snd.snd.fst.fst, ()), (x.snd.snd.snd.fst.fst, ()), ())) fun (kont : PUnit × (PUnit × Int × PUnit × PUnit) × (List Int × PUnit) × (List (List Int) × PUnit) × PUnit → Option (((List Int × Int × List (List Int) × PUnit) × PUnit) × List Int × Int × Int × PUnit)) => bif x_2.fst.fst then C.grd (true && leN ((x_1.snd.snd.snd.snd.fst.fst.length + [[x.fst.fst, x_1.fst.fst]].length) * 16) roomB) (kont ((), ((), x_1.snd.snd.fst.snd.fst, (), ()), (x_1.snd.snd.snd.fst.fst, ()), (x_1.snd.snd.snd.snd.fst.fst ++ [[x.fst.fst, x_1.fst.fst]], ()), ())) else kont ((), ((), x_1.snd.snd.fst.snd.fst, (), ()), (x_1.snd.snd.snd.fst.fst, ()), (x_1.snd.snd.snd.snd.fst.fst, ()), ())) fun (kont : (Bool × PUnit) × (List Int × Int × Int × PUnit) × PUnit → Option (((List Int × Int × List (List Int) × PUnit) × PUnit) × List Int × Int × Int × PUnit)) => bif noise then (m_spoondriftkit_Store_Seldom (x_1.snd.fst, Int.ofNat 2, ())).elim none fun (val : (Bool × PUnit) × List Int × Int × Int × PUnit) => kont ((bif true then val.fst.fst else false, ()), val.snd, ()) else kont ((false, ()), x_1.snd.fst, ()) else again ((IntKind.i64.wrap (x.fst.fst + Int.ofNat 1), ()), x_1.snd.fst, ((), x_1.snd.snd.fst.snd.fst, (), ()), (x_1.snd.snd.snd.fst.fst, ()), (x_1.snd.snd.snd.snd.fst.fst, ()), ())) fuelL ((Int.ofNat 0, ()), x.snd.fst, ((), x.snd.snd.fst.snd.fst, (), ()), (x.snd.snd.snd.fst.fst, ()), (x.snd.snd.snd.snd.fst.fst, ()), ()) else some (((x.snd.snd.snd.fst.fst, x.snd.snd.fst.snd.fst, x.snd.snd.snd.snd.fst.fst, ()), ()), x.snd.fst.fst, x.snd.fst.snd.fst, x.snd.fst.snd.snd.fst, ())) fuelL ((Int.ofNat 0, ()), x.snd.fst, ((), x.snd.snd.fst.snd.fst, (), ()), (x.snd.snd.snd.fst.fst, ()), ([], ()), ())) fuelL ((Int.ofNat 0, ()), val.snd, ((), val.fst.fst, (), ()), ([], ()), ())) x.1 x.2.1 x.2.2.1
def m_spoondriftlaw24_Ticking : ((List Int) × Int × Int × Unit) × (Int × Bool × Unit) → Option ((((List Int) × Int × (List (List Int)) × Unit) × Unit) × ((List Int) × Int × Int × Unit)) := M_spoondriftlaw24_Ticking realC
def M_spoondriftlaw24_holds_2 (C : Cmb) (x : (Int × (List Int) × Int × Int × Unit) × (Int × (List Int) × Int × Int × Unit) × Unit) : Option ((Bool × Unit) × Unit) := (fun (x y : El gT) => C.join (fun (x : (Bool × PUnit) × PUnit) => some ((x.fst.fst, ()), ())) fun (kont : (Bool × PUnit) × PUnit → Option ((Bool × PUnit) × PUnit)) => bif x.fst == Int.ofNat 13 then bif y.snd.snd.snd.fst == IntKind.i64.wrap (x.snd.snd.fst + Int.ofNat 1) then kont ((bif true then true else false, ()), ()) else bif y.fst == Int.ofNat 13 then kont ((bif true then bif false then true else bif true then y.snd.snd.fst == x.snd.snd.fst else false else false, ()), ()) else kont ((bif true then bif false then true else false else false, ()), ()) else kont ((false, ()), ())) x.1 x.2.1
def m_spoondriftlaw24_holds_2 : (Int × (List Int) × Int × Int × Unit) × (Int × (List Int) × Int × Int × Unit) × Unit → Option ((Bool × Unit) × Unit) := M_spoondriftlaw24_holds_2 realC
def M_spoondriftlaw24_holds (C : Cmb) (x : ((List Int) × Int × (List (List Int)) × Unit) × (Int × (List Int) × Int × Int × Unit) × (Int × (List Int) × Int × Int × Unit) × Unit) : Option ((Int × Bool × Unit) × Unit) := (fun (t : El kT) (g h : El gT) => C.join (fun (x : (Bool × PUnit) × PUnit) => C.grd (inB (IntKind.i64.wrap (g.fst - Int.ofNat 1)) t.fst.length) (C.join (fun (x_1 : (Bool × PUnit) × PUnit) => C.join (fun (x_2 : (Int × PUnit) × PUnit) => C.join (fun (x : (Int × Bool × PUnit) × PUnit) => some (x.fst, ())) fun (kont : (Int × Bool × PUnit) × PUnit → Option ((Int × Bool × PUnit) × PUnit)) => bif x.fst.fst then kont ((x_2.fst.fst, true, ()), ()) else (m_spoondriftlaw24_holds_2 (g, h, ())).elim none fun (val : (Bool × PUnit) × PUnit) => bif bif false then true else val.fst.fst then kont ((x_2.fst.fst, true, ()), ()) else (m_spoondriftlaw24_holds_2 (h, g, ())).elim none fun (val : (Bool × PUnit) × PUnit) => kont ((x_2.fst.fst, bif false then true else val.fst.fst, ()), ())) fun (kont : (Int × PUnit) × PUnit → Option ((Int × Bool × PUnit) × PUnit)) => bif x_1.fst.fst then kont ((IntKind.i64.wrap (t.fst.getD (IntKind.i64.wrap (g.fst - Int.ofNat 1)).toNat 0 + t.snd.fst), ()), ()) else kont ((t.fst.getD (IntKind.i64.wrap (g.fst - Int.ofNat 1)).toNat 0, ()), ())) fun (kont : (Bool × PUnit) × PUnit → Option ((Int × Bool × PUnit) × PUnit)) => bif g.fst == Int.ofNat 13 then kont ((bif true then h.snd.snd.snd.fst == IntKind.i64.wrap (g.snd.snd.fst + Int.ofNat 1) else false, ()), ()) else kont ((false, ()), ()))) fun (kont : (Bool × PUnit) × PUnit → Option ((Int × Bool × PUnit) × PUnit)) => C.loop (fun (x : (Int × PUnit) × PUnit) (again : (Int × PUnit) × PUnit → Option ((Int × Bool × PUnit) × PUnit)) => bif ltI x.fst.fst (Int.ofNat g.snd.fst.length) then C.grd (inB x.fst.fst g.snd.fst.length) ((m_slices_Contains (h.snd.fst, g.snd.fst.getD x.fst.fst.toNat 0, ())).elim none fun (val : (Bool × PUnit) × PUnit) => bif val.fst.fst then kont ((geI x.fst.fst (Int.ofNat 0), ()), ()) else again ((IntKind.i64.wrap (x.fst.fst + Int.ofNat 1), ()), ())) else kont ((geI (Int.negSucc 0) (Int.ofNat 0), ()), ())) fuelL ((Int.ofNat 0, ()), ())) x.1 x.2.1 x.2.2.1
def m_spoondriftlaw24_holds : ((List Int) × Int × (List (List Int)) × Unit) × (Int × (List Int) × Int × Int × Unit) × (Int × (List Int) × Int × Int × Unit) × Unit → Option ((Int × Bool × Unit) × Unit) := M_spoondriftlaw24_holds realC
def M_spoondriftlaw24_disturbs (C : Cmb) (x : ((List Int) × Int × (List (List Int)) × Unit) × (Int × (List Int) × Int × Int × Unit) × (Int × (List Int) × Int × Int × Unit) × Unit) : Option ((Bool × Unit) × Unit) := (fun (t : El kT) (g h : El gT) => C.join (fun (x : (Bool × PUnit) × PUnit) => some ((x.fst.fst, ()), ())) fun (kont : (Bool × PUnit) × PUnit → Option ((Bool × PUnit) × PUnit)) => bif gtI (Int.ofNat g.snd.fst.length) (Int.ofNat 1) then bif bif true then gtI (Int.ofNat h.snd.fst.length) (Int.ofNat 1) else false then C.join (fun (x : (Bool × PUnit) × PUnit) => kont ((bif true then x.fst.fst else false, ()), ())) fun (kont : (Bool × PUnit) × PUnit → Option ((Bool × PUnit) × PUnit)) => C.loop (fun (x : (Int × PUnit) × PUnit) (again : (Int × PUnit) × PUnit → Option ((Bool × PUnit) × PUnit)) => bif ltI x.fst.fst (Int.ofNat t.snd.snd.fst.length) then C.grd (inB x.fst.fst t.snd.snd.fst.length) (C.join (fun (x_1 : (Bool × PUnit) × PUnit) => bif x_1.fst.fst then kont ((geI x.fst.fst (Int.ofNat 0), ()), ()) else again ((IntKind.i64.wrap (x.fst.fst + Int.ofNat 1), ()), ())) fun (kont : (Bool × PUnit) × PUnit → Option ((Bool × PUnit) × PUnit)) => C.grd true (C.grd (ltB (Int.ofNat 0).toNat 2) ((m_slices_Contains (g.snd.fst, (t.snd.snd.fst.getD x.fst.fst.toNat (List.replicate 2 0)).getD (Int.ofNat 0).toNat 0, ())).elim none fun (val : (Bool × PUnit) × PUnit) => bif val.fst.fst then C.grd true (C.grd (ltB (Int.ofNat 1).toNat 2) ((m_slices_Contains (h.snd.fst, (t.snd.snd.fst.getD x.fst.fst.toNat (List.replicate 2 0)).getD (Int.ofNat 1).toNat 0, ())).elim none fun (val : (Bool × PUnit) × PUnit) => bif bif true then val.fst.fst else false then kont ((true, ()), ()) else C.grd true (C.grd (ltB (Int.ofNat 1).toNat 2) ((m_slices_Contains (g.snd.fst, (t.snd.snd.fst.getD x.fst.fst.toNat (List.replicate 2 0)).getD (Int.ofNat 1).toNat 0, ())).elim none fun (val : (Bool × PUnit) × PUnit) => bif val.fst.fst then C.grd true (C.grd (ltB (Int.ofNat 0).toNat 2) ((m_slices_Contains (h.snd.fst, (t.snd.snd.fst.getD x.fst.fst.toNat (List.replicate 2 0)).getD (Int.ofNat 0).toNat 0, ())).elim none fun (val : (Bool × PUnit) × PUnit) => kont ((bif false then true else bif true then val.fst.fst else false, ()), ()))) else kont ((bif false then true else false, ()), ()))))) else C.grd true (C.grd (ltB (Int.ofNat 1).toNat 2) ((m_slices_Contains (g.snd.fst, (t.snd.snd.fst.getD x.fst.fst.toNat (List.replicate 2 0)).getD (Int.ofNat 1).toNat 0, ())).elim none fun (val : (Bool × PUnit) × PUnit) => bif val.fst.fst then C.grd true (C.grd (ltB (Int.ofNat 0).toNat 2) ((m_slices_Contains (h.snd.fst, (t.snd.snd.fst.getD x.fst.fst.toNat (List.replicate 2 0)).getD (Int.ofNat 0).toNat 0, ())).elim none fun (val : (Bool × PUnit) × PUnit) => kont ((bif false then true else bif true then val.fst.fst else false, ()), ()))) else kont ((bif false then true else false, ()), ())))))) else kont ((geI (Int.negSucc 0) (Int.ofNat 0), ()), ())) fuelL ((Int.ofNat 0, ()), ()) else kont ((false, ()), ()) else kont ((false, ()), ())) x.1 x.2.1 x.2.2.1
def m_spoondriftlaw24_disturbs : ((List Int) × Int × (List (List Int)) × Unit) × (Int × (List Int) × Int × Int × Unit) × (Int × (List Int) × Int × Int × Unit) × Unit → Option ((Bool × Unit) × Unit) := M_spoondriftlaw24_disturbs realC
def M_spoondriftlaw24_fine (C : Cmb) (x : ((List Int) × Int × (List (List Int)) × Unit) × (Int × Int × (List (Int × (List Int) × Int × Int × Unit)) × Unit) × (List Int) × Unit) : Option ((Bool × Unit) × Unit) := (fun (t : El kT) (c : El cT) (starts : El iT.sl) => bif Int.ofNat (List.length starts) != Int.ofNat c.snd.snd.fst.length then some ((false, ()), ()) else C.loop (fun (x : (Int × PUnit) × PUnit) (again : (Int × PUnit) × PUnit → Option ((Bool × PUnit) × PUnit)) => bif ltI x.fst.fst (Int.ofNat c.snd.snd.fst.length) then C.grd (inB x.fst.fst c.snd.snd.fst.length) (C.join (fun (x_1 : (Bool × PUnit) × PUnit) => bif x_1.fst.fst then some ((false, ()), ()) else C.grd (leI 0 x.fst.fst && leI x.fst.fst (Int.ofNat c.snd.snd.fst.length)) (C.loop (fun (x_2 : (Int × PUnit) × PUnit) (again_1 : (Int × PUnit) × PUnit → Option ((Bool × PUnit) × PUnit)) => bif ltI x_2.fst.fst (Int.ofNat (List.take x.fst.fst.toNat c.snd.snd.fst).length) then C.grd (inB x_2.fst.fst (List.take x.fst.fst.toNat c.snd.snd.fst).length) ((m_spoondriftlaw24_holds (t, (List.take x.fst.fst.toNat c.snd.snd.fst).getD x_2.fst.fst.toNat (0, [], 0, 0, ()), c.snd.snd.fst.getD x.fst.fst.toNat (0, [], 0, 0, ()), ())).elim none fun (val : (Int × Bool × PUnit) × PUnit) => C.join (fun (x : (Bool × PUnit) × PUnit) => bif x.fst.fst then some ((false, ()), ()) else again_1 ((IntKind.i64.wrap (x_2.fst.fst + Int.ofNat 1), ()), ())) fun (kont : (Bool × PUnit) × PUnit → Option ((Bool × PUnit) × PUnit)) => bif val.fst.snd.fst then C.grd (inB x.fst.fst (List.length starts)) (C.grd (inB x_2.fst.fst (List.length starts)) (bif bif true then ltI (List.getD starts x.fst.fst.toNat 0) (IntKind.i64.wrap (List.getD starts x_2.fst.fst.toNat 0 + val.fst.fst)) else false then kont ((true, ()), ()) else bif !val.fst.snd.fst then (m_spoondriftlaw24_disturbs (t, (List.take x.fst.fst.toNat c.snd.snd.fst).getD x_2.fst.fst.toNat (0, [], 0, 0, ()), c.snd.snd.fst.getD x.fst.fst.toNat (0, [], 0, 0, ()), ())).elim none fun (val : (Bool × PUnit) × PUnit) => bif bif true then val.fst.fst else false then C.grd (inB x.fst.fst (List.length starts)) (C.grd (inB x_2.fst.fst (List.length starts)) (C.grd (inB (IntKind.i64.wrap (((List.take x.fst.fst.toNat c.snd.snd.fst).getD x_2.fst.fst.toNat (0, [], 0, 0, ())).fst - Int.ofNat 1)) t.fst.length) (bif bif true then ltI (List.getD starts x.fst.fst.toNat 0) (IntKind.i64.wrap (List.getD starts x_2.fst.fst.toNat 0 + t.fst.getD (IntKind.i64.wrap (((List.take x.fst.fst.toNat c.snd.snd.fst).getD x_2.fst.fst.toNat (0, [], 0, 0, ())).fst - Int.ofNat 1)).toNat 0)) else false then C.grd (inB x_2.fst.fst (List.length starts)) (C.grd (inB x.fst.fst (List.length starts)) (C.grd (inB (IntKind.i64.wrap ((c.snd.snd.fst.getD x.fst.fst.toNat (0, [], 0, 0, ())).fst - Int.ofNat 1)) t.fst.length) (kont ((bif false then true else bif true then ltI (List.getD starts x_2.fst.fst.toNat 0) (IntKind.i64.wrap (List.getD starts x.fst.fst.toNat 0 + t.fst.getD (IntKind.i64.wrap ((c.snd.snd.fst.getD x.fst.fst.toNat (0, [], 0, 0, ())).fst - Int.ofNat 1)).toNat 0)) else false, ()), ())))) else kont ((bif false then true else false, ()), ())))) else kont ((bif false then true else false, ()), ()) else kont ((bif false then true else false, ()), ()))) else bif !val.fst.snd.fst then (m_spoondriftlaw24_disturbs (t, (List.take x.fst.fst.toNat c.snd.snd.fst).getD x_2.fst.fst.toNat (0, [], 0, 0, ()), c.snd.snd.fst.getD x.fst.fst.toNat (0, [], 0, 0, ()), ())).elim none fun (val : (Bool × PUnit) × PUnit) => bif bif true then val.fst.fst else false then C.grd (inB x.fst.fst (List.length starts)) (C.grd (inB x_2.fst.fst (List.length starts)) (C.grd (inB (IntKind.i64.wrap (((List.take x.fst.fst.toNat c.snd.snd.fst).getD x_2.fst.fst.toNat (0, [], 0, 0, ())).fst - Int.ofNat 1)) t.fst.length) (bif bif true then ltI (List.getD starts x.fst.fst.toNat 0) (IntKind.i64.wrap (List.getD starts x_2.fst.fst.toNat 0 + t.fst.getD (IntKind.i64.wrap (((List.take x.fst.fst.toNat c.snd.snd.fst).getD x_2.fst.fst.toNat (0, [], 0, 0, ())).fst - Int.ofNat 1)).toNat 0)) else false then C.grd (inB x_2.fst.fst (List.length starts)) (C.grd (inB x.fst.fst (List.length starts)) (C.grd (inB (IntKind.i64.wrap ((c.snd.snd.fst.getD x.fst.fst.toNat (0, [], 0, 0, ())).fst - Int.ofNat 1)) t.fst.length) (kont ((bif false then true else bif true then ltI (List.getD starts x_2.fst.fst.toNat 0) (IntKind.i64.wrap (List.getD starts x.fst.fst.toNat 0 + t.fst.getD (IntKind.i64.wrap ((c.snd.snd.fst.getD x.fst.fst.toNat (0, [], 0, 0, ())).fst - Int.ofNat 1)).toNat 0)) else false, ()), ())))) else kont ((bif false then true else false, ()), ())))) else kont ((bif false then true else false, ()), ()) else kont ((bif false then true else false, ()), ())) else again ((IntKind.i64.wrap (x.fst.fst + Int.ofNat 1), ()), ())) fuelL ((Int.ofNat 0, ()), ()))) fun (kont : (Bool × PUnit) × PUnit → Option ((Bool × PUnit) × PUnit)) => C.grd (inB x.fst.fst (List.length starts)) (bif ltI (List.getD starts x.fst.fst.toNat 0) (Int.ofNat 0) then kont ((true, ()), ()) else C.grd (inB x.fst.fst (List.length starts)) (kont ((bif false then true else gtI (List.getD starts x.fst.fst.toNat 0) (Int.ofNat 5000), ()), ())))) else some ((true, ()), ())) fuelL ((Int.ofNat 0, ()), ())) x.1 x.2.1 x.2.2.1
def m_spoondriftlaw24_fine : ((List Int) × Int × (List (List Int)) × Unit) × (Int × Int × (List (Int × (List Int) × Int × Int × Unit)) × Unit) × (List Int) × Unit → Option ((Bool × Unit) × Unit) := M_spoondriftlaw24_fine realC
def M_spoondriftlaw24_SchedEarly (C : Cmb) (x : (List Int) × (List Int) × (List Int) × Bool × Unit) : Option ((Bool × Unit) × Unit) := (fun (numbers more delays : El (Ty.int IntKind.u8).sl) (noise : El Ty.bool) => (m_spoondriftkit_Of (numbers, ())).elim none fun (val : (PUnit × PUnit) × (List Int × Int × Int × PUnit) × PUnit) => (m_spoondriftkit_Store_From (val.snd.fst, Int.ofNat 1, Int.ofNat 5, ())).elim none fun (val : (Int × PUnit) × List Int × Int × Int × PUnit) => (m_spoondriftkit_Store_Steered (val.snd, val.fst.fst, Int.ofNat 2, Int.ofNat 14, [1, 2, 3, 4, 5, 6, 7, 8, 9, 10, 11, 12], ())).elim none fun (val : ((Int × Int × List (Int × List Int × Int × Int × PUnit) × PUnit) × PUnit) × List Int × Int × Int × PUnit) => (m_spoondriftkit_Of (more, ())).elim none fun (val_1 : (PUnit × PUnit) × (List Int × Int × Int × PUnit) × PUnit) => (m_spoondriftlaw24_Ticking (val_1.snd.fst, val.fst.fst.fst, noise, ())).elim none fun (val_2 : ((List Int × Int × List (List Int) × PUnit) × PUnit) × List Int × Int × Int × PUnit) => (m_sched_Early (val_2.fst.fst, val.fst.fst, ())).elim none fun (val_3 : (PUnit × Int × PUnit) × (List Int × PUnit) × PUnit) => (m_sched_Right (val_2.fst.fst, val.fst.fst, val_3.snd.fst.fst, ())).elim none fun (val_4 : (Int × Int × PUnit) × PUnit) => C.join (fun (x : (Bool × PUnit) × PUnit) => bif x.fst.fst then some ((false, ()), ()) else C.loop (fun (x : (Int × PUnit) × PUnit) (again : (Int × PUnit) × PUnit → Option ((Bool × PUnit) × PUnit)) => bif ltI x.fst.fst (Int.ofNat val_3.snd.fst.fst.length) then C.grd (inB x.fst.fst val_3.snd.fst.fst.length) (C.grd (ltB x.fst.fst.toNat val_3.snd.fst.fst.length) (C.grd (leI 0 (IntKind.i64.wrap (x.fst.fst + Int.ofNat 1)) && leI (IntKind.i64.wrap (x.fst.fst + Int.ofNat 1)) (Int.ofNat val.fst.fst.snd.snd.fst.length)) (C.loop (fun (x_1 : (Int × PUnit) × PUnit) (again_1 : (Int × PUnit) × PUnit → Option ((Bool × PUnit) × PUnit)) => bif ltI x_1.fst.fst (val_3.snd.fst.fst.getD x.fst.fst.toNat 0) then C.grd (leI 0 x.fst.fst && leI x.fst.fst (Int.ofNat val_3.snd.fst.fst.length)) (C.grd (((bif val_3.snd.fst.fst.length.beq 0 then 0 else 0) + (x.fst.fst.toNat - 0)).ble val_3.snd.fst.fst.length && Nat.beq 1 1) ((m_slices_Clone (List.take (x.fst.fst.toNat - 0) (List.drop (bif val_3.snd.fst.fst.length.beq 0 then 0 else 0) val_3.snd.fst.fst), ())).elim none fun (val_5 : (PUnit × PUnit) × (List Int × PUnit) × PUnit) => C.grd (true && leN ((val_5.snd.fst.fst.length + [x_1.fst.fst].length) * 8) roomB) ((m_spoondriftlaw24_fine (val_2.fst.fst, (val.fst.fst.fst, val.fst.fst.snd.fst, List.take (IntKind.i64.wrap (x.fst.fst + Int.ofNat 1)).toNat val.fst.fst.snd.snd.fst, ()), val_5.snd.fst.fst ++ [x_1.fst.fst], ())).elim none fun (val : (Bool × PUnit) × PUnit) => bif val.fst.fst then some ((false, ()), ()) else again_1 ((IntKind.i64.wrap (x_1.fst.fst + Int.ofNat 1), ()), ())))) else again ((IntKind.i64.wrap (x.fst.fst + Int.ofNat 1), ()), ())) fuelL ((Int.ofNat 0, ()), ())))) else bif noise then (m_spoondriftlaw24_awake ()).elim none fun (val : (Bool × PUnit) × PUnit) => some ((val.fst.fst, ()), ()) else (m_spoondriftkit_Of (delays, ())).elim none fun (val_5 : (PUnit × PUnit) × (List Int × Int × Int × PUnit) × PUnit) => C.grd (leI 0 (Int.ofNat val_3.snd.fst.fst.length) && eqI (Int.ofNat val_3.snd.fst.fst.length) (Int.ofNat val_3.snd.fst.fst.length) && leN ((Int.ofNat val_3.snd.fst.fst.length).toNat * 8) roomB) (C.loop (fun (x : (Int × PUnit) × (List Int × Int × Int × PUnit) × (List Int × PUnit) × PUnit) (again : (Int × PUnit) × (List Int × Int × Int × PUnit) × (List Int × PUnit) × PUnit → Option ((Bool × PUnit) × PUnit)) => bif ltI x.fst.fst (Int.ofNat val.fst.fst.snd.snd.fst.length) then C.grd (inB x.fst.fst val.fst.fst.snd.snd.fst.length) (C.grd (leI 0 x.fst.fst && leI x.fst.fst (Int.ofNat val.fst.fst.snd.snd.fst.length)) (C.loop (fun (x_1 : (Int × Int × PUnit) × PUnit) (again_1 : (Int × Int × PUnit) × PUnit → Option ((Bool × PUnit) × PUnit)) => bif ltI x_1.fst.snd.fst (Int.ofNat (List.take x.fst.fst.toNat val.fst.fst.snd.snd.fst).length) then C.grd (inB x_1.fst.snd.fst (List.take x.fst.fst.toNat val.fst.fst.snd.snd.fst).length) ((m_spoondriftlaw24_holds (val_2.fst.fst, (List.take x.fst.fst.toNat val.fst.fst.snd.snd.fst).getD x_1.fst.snd.fst.toNat (0, [], 0, 0, ()), val.fst.fst.snd.snd.fst.getD x.fst.fst.toNat (0, [], 0, 0, ()), ())).elim none fun (val : (Int × Bool × PUnit) × PUnit) => C.join (fun (x : (Int × PUnit) × PUnit) => again_1 ((x.fst.fst, IntKind.i64.wrap (x_1.fst.snd.fst + Int.ofNat 1), ()), ())) fun (kont : (Int × PUnit) × PUnit → Option ((Bool × PUnit) × PUnit)) => bif val.fst.snd.fst then C.grd (inB x_1.fst.snd.fst x.snd.snd.fst.fst.length) (C.grd (ltB x_1.fst.snd.fst.toNat x.snd.snd.fst.fst.length) (kont ((List.foldl mx2 x_1.fst.fst [IntKind.i64.wrap (x.snd.snd.fst.fst.getD x_1.fst.snd.fst.toNat 0 + val.fst.fst)], ()), ()))) else kont ((x_1.fst.fst, ()), ())) else C.grd (inB x.fst.fst val_3.snd.fst.fst.length) (C.grd (ltB x.fst.fst.toNat val_3.snd.fst.fst.length) (bif ltI x_1.fst.fst (val_3.snd.fst.fst.getD x.fst.fst.toNat 0) then some ((false, ()), ()) else (m_spoondriftkit_Store_Less (x.snd.fst, Int.ofNat 4, ())).elim none fun (val : (Int × PUnit) × List Int × Int × Int × PUnit) => C.grd (inB x.fst.fst x.snd.snd.fst.fst.length) (C.grd (ltB x.fst.fst.toNat x.snd.snd.fst.fst.length) (again ((IntKind.i64.wrap (x.fst.fst + Int.ofNat 1), ()), val.snd, (x.snd.snd.fst.fst.set x.fst.fst.toNat (IntKind.i64.wrap (x_1.fst.fst + val.fst.fst)), ()), ())))))) fuelL ((Int.ofNat 0, Int.ofNat 0, ()), ()))) else (m_sched_Right (val_2.fst.fst, val.fst.fst, x.snd.snd.fst.fst, ())).elim none fun (val : (Int × Int × PUnit) × PUnit) => C.join (fun (x : (Bool × PUnit) × PUnit) => some ((x.fst.fst, ()), ())) fun (kont : (Bool × PUnit) × PUnit → Option ((Bool × PUnit) × PUnit)) => bif val.fst.snd.fst == Int.ofNat 0 then (m_spoondriftlaw24_awake ()).elim none fun (val : (Bool × PUnit) × PUnit) => kont ((bif true then val.fst.fst else false, ()), ()) else kont ((false, ()), ())) fuelL ((Int.ofNat 0, ()), val_5.snd.fst, (List.replicate (Int.ofNat val_3.snd.fst.fst.length).toNat (Int.ofNat 0), ()), ()))) fuelL ((Int.ofNat 0, ()), ())) fun (kont : (Bool × PUnit) × PUnit → Option ((Bool × PUnit) × PUnit)) => bif val_3.fst.snd.fst != Int.ofNat 0 then kont ((true, ()), ()) else bif bif false then true else val_4.fst.snd.fst != Int.ofNat 0 then kont ((true, ()), ()) else bif bif false then true else val_4.fst.fst != Int.ofNat 0 then kont ((true, ()), ()) else (m_spoondriftlaw24_fine (val_2.fst.fst, val.fst.fst, val_3.snd.fst.fst, ())).elim none fun (val : (Bool × PUnit) × PUnit) => kont ((bif false then true else !val.fst.fst, ()), ())) x.1 x.2.1 x.2.2.1 x.2.2.2.1
def m_spoondriftlaw24_SchedEarly : (List Int) × (List Int) × (List Int) × Bool × Unit → Option ((Bool × Unit) × Unit) := M_spoondriftlaw24_SchedEarly realC
end
end Go.Canon
namespace Go.Canon
set_option linter.unusedVariables false
set_option linter.unusedSimpArgs false
open Go
variable {α σ β : Type} {C : Cmb} [OC : CmbOk C]
instance : CmbOk realC := ⟨rfl⟩
theorem grd_real {c : Bool} {x : Option α} : @Cmb.grd C α c x = bif c then x else none := by
  have := OC.eq; subst this; rfl
theorem join_real {k : σ → Option α} {b : (σ → Option α) → Option α} : @Cmb.join C σ α k b = b k := by
  have := OC.eq; subst this; rfl
theorem loop_succ {body : σ → (σ → Option α) → Option α} {n : Nat} {x : σ} : @Cmb.loop C σ α body (n + 1) x = body x (@Cmb.loop C σ α body n) := by
  have := OC.eq; subst this; rfl
/-- A loop that goes on m times and then ends. -/
theorem loop_run {body : σ → (σ → Option α) → Option α} {r : Option α} (st : Nat → σ) : ∀ (m n : Nat), m < n → (∀ i, i < m → ∀ again, body (st i) again = again (st (i + 1))) → (∀ again, body (st m) again = r) → @Cmb.loop C σ α body n (st 0) = r
  | m, 0, h, _, _ => by omega
  | 0, n + 1, _, _, h2 => by rw [loop_succ]; exact h2 _
  | m + 1, n + 1, h, h1, h2 => by
    rw [loop_succ, h1 0 (by omega)]
    exact loop_run (fun i => st (i + 1)) m n (by omega) (fun i hi => h1 (i + 1) (by omega)) h2
theorem fuel_big {m : Nat} (h : m < 4294967296) : m < fuelL := h
/-- The same, with as many rounds as are left. -/
theorem loop_meas {body : σ → (σ → Option α) → Option α} {r : Option α} (I : σ → Prop) (μ : σ → Nat) (step : ∀ x, I x → (∀ again, body x again = r) ∨ ∃ y, I y ∧ μ y < μ x ∧ ∀ again, body x again = again y) : ∀ (n : Nat) (x : σ), I x → μ x < n → @Cmb.loop C σ α body n x = r
  | 0, x, _, h => by omega
  | n + 1, x, hi, h => by
    rw [loop_succ]
    rcases step x hi with e | ⟨y, h1, h2, e⟩
    · exact e _
    · rw [e]; exact loop_meas I μ step n y h1 (by omega)
/-- The same, with what is handed back told by a property. -/
theorem loop_ex {body : σ → (σ → Option α) → Option α} (I : σ → Prop) (μ : σ → Nat) (P : σ → α → Prop) (step : ∀ x, I x → (∃ r, P x r ∧ ∀ again, body x again = some r) ∨ ∃ y, I y ∧ μ y < μ x ∧ (∀ r, P y r → P x r) ∧ ∀ again, body x again = again y) :
    ∀ (n : Nat) (x : σ), I x → μ x < n → ∃ r, P x r ∧ @Cmb.loop C σ α body n x = some r
  | 0, x, _, h => by omega
  | n + 1, x, hi, h => by
    rw [loop_succ]
    rcases step x hi with ⟨r, h1, e⟩ | ⟨y, h1, h2, h3, e⟩
    · exact ⟨r, h1, e _⟩
    · obtain ⟨r, h4, h5⟩ := loop_ex I μ P step n y h1 (by omega)
      exact ⟨r, h3 r h4, by rw [e]; exact h5⟩
/-- A loop over a list that looks for something. -/
theorem loop_find {l : List β} {p : β → Bool} {body : σ → (σ → Option α) → Option α} {R : Nat → Option α} {E : Option α} (st : Nat → σ) {n : Nat} (hn : l.length < n)
    (h1 : ∀ k (hk : k < l.length), p l[k] = false → ∀ again, body (st k) again = again (st (k + 1))) (h2 : ∀ k (hk : k < l.length), p l[k] = true → ∀ again, body (st k) again = R k) (h3 : ∀ again, body (st l.length) again = E) :
    @Cmb.loop C σ α body n (st 0) = if l.findIdx p < l.length then R (l.findIdx p) else E := by
  have hle : l.findIdx p ≤ l.length := List.findIdx_le_length
  refine loop_run st (l.findIdx p) n (by omega) (fun i hi again => h1 i (by omega) (by simpa using List.not_of_lt_findIdx hi) again) fun again => ?_
  split
  · rename_i hh; exact h2 _ hh (List.findIdx_getElem (w := hh)) again
  · rename_i hh
    have : l.findIdx p = l.length := by omega
    rw [this]; exact h3 again
/-- The same, both ways at once. -/
theorem loop_find2 {l : List β} {p : β → Bool} {body : σ → (σ → Option α) → Option α} {R : Nat → Option α} {E : Option α} (st : Nat → σ) {n : Nat} (hn : l.length < n)
    (h : ∀ k (hk : k < l.length) again, body (st k) again = bif p l[k] then R k else again (st (k + 1))) (h3 : ∀ again, body (st l.length) again = E) :
    @Cmb.loop C σ α body n (st 0) = if l.findIdx p < l.length then R (l.findIdx p) else E :=
  loop_find st hn (fun k hk e again => by rw [h k hk, e]; rfl) (fun k hk e again => by rw [h k hk, e]; rfl) h3
theorem find_any {l : List β} {p : β → Bool} : (l.findIdx p < l.length) ↔ l.any p = true := by
  rw [List.findIdx_lt_length]
  simp [List.any_eq_true]
/-- The same, where it does not matter which one was found. -/
theorem loop_any {l : List β} {p : β → Bool} {body : σ → (σ → Option α) → Option α} {R E : Option α} (st : Nat → σ) {n : Nat} (hn : l.length < n)
    (h1 : ∀ k (hk : k < l.length), p l[k] = false → ∀ again, body (st k) again = again (st (k + 1))) (h2 : ∀ k (hk : k < l.length), p l[k] = true → ∀ again, body (st k) again = R) (h3 : ∀ again, body (st l.length) again = E) :
    @Cmb.loop C σ α body n (st 0) = bif l.any p then R else E := by
  rw [loop_find (R := fun _ => R) (E := E) st hn h1 h2 h3]
  by_cases h : l.findIdx p < l.length
  · rw [if_pos h, find_any.1 h]; rfl
  · rw [if_neg h]
    have : l.any p = false := by
      cases hh : l.any p with
      | false => rfl
      | true => exact (h (find_any.2 hh)).elim
    rw [this]; rfl
theorem loop_any2 {l : List β} {p : β → Bool} {body : σ → (σ → Option α) → Option α} {R E : Option α} (st : Nat → σ) {n : Nat} (hn : l.length < n)
    (h : ∀ k (hk : k < l.length) again, body (st k) again = bif p l[k] then R else again (st (k + 1))) (h3 : ∀ again, body (st l.length) again = E) :
    @Cmb.loop C σ α body n (st 0) = bif l.any p then R else E :=
  loop_any st hn (fun k hk e again => by rw [h k hk, e]; rfl) (fun k hk e again => by rw [h k hk, e]; rfl) h3
/-- A loop over a list that gathers. -/
theorem loop_fold {γ : Type} {l : List β} {f : γ → β → γ} {body : σ → (σ → Option α) → Option α} {E : γ → Option α} (st : Nat → γ → σ) {c : γ} {n : Nat} (hn : l.length < n)
    (h1 : ∀ k (hk : k < l.length), ∀ again, body (st k ((l.take k).foldl f c)) again = again (st (k + 1) (f ((l.take k).foldl f c) l[k]))) (h3 : ∀ again, body (st l.length (l.foldl f c)) again = E (l.foldl f c)) :
    @Cmb.loop C σ α body n (st 0 c) = E (l.foldl f c) := by
  refine loop_run (fun k => st k ((l.take k).foldl f c)) l.length n hn (fun i hi again => ?_) fun again => ?_
  · show body (st i ((l.take i).foldl f c)) again = again (st (i + 1) ((l.take (i + 1)).foldl f c))
    rw [h1 i hi, List.take_add_one, List.getElem?_eq_getElem hi, List.foldl_append]
    rfl
  · simp only [List.take_length]; exact h3 again
theorem wrap_in {a : Int} (h1 : -9223372036854775808 ≤ a) (h2 : a ≤ 9223372036854775807) : IntKind.wrap .i64 a = a := by
  simp only [IntKind.wrap, IntKind.signed, IntKind.bits, if_true]
  simp only [show (2 : Int) ^ (64 - 1) = 9223372036854775808 from rfl, show (2 : Int) ^ 64 = 18446744073709551616 from rfl, Bool.true_and, decide_eq_true_eq]
  split <;> omega
theorem inB_in {n k : Nat} (h : k < n) : inB (Int.ofNat k) n = true := by simp [inB, h]
theorem inB_cast {n k : Nat} : inB (k : Int) n = decide (k < n) := by simp [inB]
theorem inB_z {n : Nat} {z : Int} (h1 : 0 ≤ z) (h2 : z < n) : inB z n = true := by simp [inB, h1, h2]
theorem wrap_nat {k : Nat} (h : k < 4294967296) : IntKind.wrap .i64 ((k : Int) + ((1 : Nat) : Int)) = ((k + 1 : Nat) : Int) := by
  rw [wrap_in (by omega) (by omega)]; rfl
theorem getD_in {l : List β} {k : Nat} {d : β} (h : k < l.length) : l.getD k d = l[k] := by
  rw [List.getD_eq_getElem?_getD, List.getElem?_eq_getElem h]; rfl
end Go.Canon
namespace Go.Canon
set_option linter.unusedVariables false
set_option linter.unusedSimpArgs false
open Go
abbrev b1 (b : Bool) : (Bool × Unit) × Unit := ((b, ()), ())
abbrev i1 (z : Int) : (Int × Unit) × Unit := ((z, ()), ())
/-- The state of a search: how far it is. -/
abbrev st1 (k : Nat) : (Int × Unit) × Unit := (((k : Int), ()), ())
theorem ofNat_c (n : Nat) : Int.ofNat n = (n : Int) := rfl
theorem cast0 : ((0 : Nat) : Int) = 0 := rfl
theorem cond_tf {b : Bool} : (bif b then true else false) = b := by cases b <;> rfl
theorem lt_cast {a b : Nat} : ltI (a : Int) (b : Int) = decide (a < b) := by simp [ltI]
theorem beq_dec {a b : Int} : (a == b) = decide (a = b) := by
  by_cases h : a = b <;> simp [h]
theorem any_eq {l : List Int} {n : Int} : (bif l.any (fun x => n == x) then some (b1 true) else some (b1 false)) = some (b1 (l.contains n)) := by
  rw [List.contains_eq_any_beq]
  cases h : l.any (fun x => n == x) <;> rfl
theorem has24_eq {l : List Int} {n : Int} (hl : l.length < 4294967296) : m_spoondriftref24_has (l, n, ()) = some (b1 (l.contains n)) := by
  have key : ∀ (C : Cmb) [CmbOk C], M_spoondriftref24_has C (l, n, ()) = some (b1 (l.contains n)) := by
    intro C _
    unfold M_spoondriftref24_has
    dsimp only
    refine (loop_any (l := l) (p := fun x => n == x) (R := some (b1 true)) (E := some (b1 false)) (n := fuelL) st1 (fuel_big hl) (fun k hk h again => ?_) (fun k hk h again => ?_) fun again => ?_).trans any_eq
    · simp only [ofNat_c, lt_cast, decide_true, decide_false, cond_true, cond_false, inB_cast, grd_real, join_real, Int.toNat_natCast, Option.elim_some, Bool.true_and, Bool.false_or, Bool.or_true, Bool.and_true, Bool.or_false, cond_tf, hk, getD_in hk, BEq.comm (a := l[k]), h, wrap_nat (show k < 4294967296 by omega)]
    · simp only [ofNat_c, lt_cast, decide_true, decide_false, cond_true, cond_false, inB_cast, grd_real, join_real, Int.toNat_natCast, Option.elim_some, Bool.true_and, Bool.false_or, Bool.or_true, Bool.and_true, Bool.or_false, cond_tf, hk, getD_in hk, BEq.comm (a := l[k]), h]
    · simp only [ofNat_c, lt_cast, decide_true, decide_false, cond_true, cond_false, inB_cast, grd_real, join_real, Int.toNat_natCast, Option.elim_some, Bool.true_and, Bool.false_or, Bool.or_true, Bool.and_true, Bool.or_false, cond_tf, Nat.lt_irrefl]
  exact key realC
theorem has04_eq {l : List Int} {n : Int} (hl : l.length < 4294967296) : m_spoondriftref04_Has (l, n, ()) = some (b1 (l.contains n)) := has24_eq hl
theorem index_eq {l : List Int} {n : Int} (hl : l.length < 4294967296) : m_slices_Index (l, n, ()) = some (i1 (if l.findIdx (fun x => n == x) < l.length then (l.findIdx (fun x => n == x) : Nat) else -1)) := by
  have key : ∀ (C : Cmb) [CmbOk C], M_slices_Index C (l, n, ()) = some (i1 (if l.findIdx (fun x => n == x) < l.length then (l.findIdx (fun x => n == x) : Nat) else -1)) := by
    intro C _
    unfold M_slices_Index
    dsimp only
    refine (loop_find (l := l) (p := fun x => n == x) (R := fun k => some (i1 k)) (E := some (i1 (-1))) (n := fuelL) st1 (fuel_big hl) (fun k hk h again => ?_) (fun k hk h again => ?_) fun again => ?_).trans ?_
    · simp only [ofNat_c, lt_cast, decide_true, decide_false, cond_true, cond_false, inB_cast, grd_real, join_real, Int.toNat_natCast, Option.elim_some, Bool.true_and, Bool.false_or, Bool.or_true, Bool.and_true, Bool.or_false, cond_tf, hk, getD_in hk, h, wrap_nat (show k < 4294967296 by omega)]
    · simp only [ofNat_c, lt_cast, decide_true, decide_false, cond_true, cond_false, inB_cast, grd_real, join_real, Int.toNat_natCast, Option.elim_some, Bool.true_and, Bool.false_or, Bool.or_true, Bool.and_true, Bool.or_false, cond_tf, hk, getD_in hk, h]
    · simp only [ofNat_c, lt_cast, decide_true, decide_false, cond_true, cond_false, inB_cast, grd_real, join_real, Int.toNat_natCast, Option.elim_some, Bool.true_and, Bool.false_or, Bool.or_true, Bool.and_true, Bool.or_false, cond_tf, Nat.lt_irrefl]; rfl
    · split <;> rfl
  exact key realC
theorem contains_eq {l : List Int} {n : Int} (hl : l.length < 4294967296) : m_slices_Contains (l, n, ()) = some (b1 (l.contains n)) := by
  show (m_slices_Index (l, n, ())).elim none _ = _
  rw [index_eq hl, ← any_eq]
  by_cases h : l.findIdx (fun x => n == x) < l.length
  · rw [if_pos h, find_any.1 h]
    show some (b1 (decide (((l.findIdx (fun x => n == x) : Nat) : Int) ≥ 0))) = some (b1 true)
    simp
  · rw [if_neg h]
    have : l.any (fun x => n == x) = false := by
      cases hh : l.any (fun x => n == x) with
      | false => rfl
      | true => exact (h (find_any.2 hh)).elim
    rw [this]; rfl
/-- How many wires a kind of gates has. -/
def arS (k : Int) : Int := if k = 12 then 3 else if 9 ≤ k ∧ k ≤ 11 then 2 else if 1 ≤ k ∧ k ≤ 14 then 1 else 0
theorem circ_ar {k : Int} : m_circ_Arity (k, ()) = some (i1 (arS k)) := by
  have key : ∀ (C : Cmb) [CmbOk C], M_circ_Arity C (k, ()) = some (i1 (arS k)) := by
    intro C _
    unfold M_circ_Arity arS
    simp only [ofNat_c, lt_cast, decide_true, decide_false, cond_true, cond_false, inB_cast, grd_real, join_real, Int.toNat_natCast, Option.elim_some, Bool.true_and, Bool.false_or, Bool.or_true, Bool.and_true, Bool.or_false, cond_tf, beq_dec, ltI, leI, gtI, geI]
    by_cases h1 : k = 12
    · subst h1; rfl
    · by_cases h2 : 9 ≤ k <;> by_cases h3 : k ≤ 11 <;> by_cases h4 : 1 ≤ k <;> by_cases h5 : k ≤ 14 <;> simp [h1, h2, h3, h4, h5] <;> first | rfl | omega
  exact key realC
theorem ref_ar {k : Int} : m_spoondriftref04_Arity (k, ()) = some (i1 (arS k)) := by
  have key : ∀ (C : Cmb) [CmbOk C], M_spoondriftref04_Arity C (k, ()) = some (i1 (arS k)) := by
    intro C _
    unfold M_spoondriftref04_Arity arS
    simp only [ofNat_c, lt_cast, decide_true, decide_false, cond_true, cond_false, inB_cast, grd_real, join_real, Int.toNat_natCast, Option.elim_some, Bool.true_and, Bool.false_or, Bool.or_true, Bool.and_true, Bool.or_false, cond_tf, beq_dec, ltI, leI, gtI, geI]
    by_cases h1 : k = 12
    · subst h1; rfl
    · by_cases h13 : k = 13
      · subst h13; rfl
      · by_cases h14 : k = 14
        · subst h14; rfl
        · by_cases h2 : 9 ≤ k <;> by_cases h3 : k ≤ 11 <;> by_cases h4 : 1 ≤ k <;> by_cases h5 : k ≤ 14 <;> by_cases h6 : k ≤ 8 <;> simp [h1, h2, h3, h4, h5, h6, h13, h14] <;> first | rfl | omega
  exact key realC
theorem off_eq {n lo hi : Int} : m_spoondriftref04_off (n, lo, hi, ()) = some (b1 (decide (n < lo) || decide (n > hi))) := by
  have key : ∀ (C : Cmb) [CmbOk C], M_spoondriftref04_off C (n, lo, hi, ()) = some (b1 (decide (n < lo) || decide (n > hi))) := by
    intro C _
    unfold M_spoondriftref04_off
    simp only [ofNat_c, lt_cast, decide_true, decide_false, cond_true, cond_false, inB_cast, grd_real, join_real, Int.toNat_natCast, Option.elim_some, Bool.true_and, Bool.false_or, Bool.or_true, Bool.and_true, Bool.or_false, cond_tf, ltI, gtI]
    cases decide (n < lo) <;> rfl
  exact key realC
/-- A measurement writes a bit that another gate reads or writes. -/
def touchB (g h : El gT) : Bool := (g.1 == 13 && (h.2.2.2.1 == IntKind.i64.wrap (g.2.2.1 + 1) || (h.1 == 13 && h.2.2.1 == g.2.2.1))) || (h.1 == 13 && g.2.2.2.1 == IntKind.i64.wrap (h.2.2.1 + 1))
/-- Do two gates meet? -/
def meetB (g h : El gT) : Bool := g.2.1.any (fun w => h.2.1.contains w) || touchB g h
end Go.Canon
namespace Go.Canon
set_option linter.unusedVariables false
set_option linter.unusedSimpArgs false
open Go
abbrev Gate := Int × List Int × Int × Int × Unit
abbrev Circ := Int × Int × List Gate × Unit
theorem common_eq {a b : List Int} (ha : a.length < 4294967296) (hb : b.length < 4294967296) : m_sched_common (a, b, ()) = some (b1 (a.any fun w => b.contains w)) := by
  have key : ∀ (C : Cmb) [CmbOk C], M_sched_common C (a, b, ()) = some (b1 (a.any fun w => b.contains w)) := by
    intro C _
    unfold M_sched_common
    simp only [join_real]
    refine (loop_any (l := a) (p := fun w => b.contains w) (R := some (b1 true)) (E := some (b1 false)) (n := fuelL) st1 (fuel_big ha) (fun k hk e again => ?_) (fun k hk e again => ?_) fun again => ?_).trans ?_
    · simp only [cast0, ofNat_c, lt_cast, decide_true, decide_false, cond_true, cond_false, inB_cast, grd_real, join_real, Int.toNat_natCast, Option.elim_some, Bool.true_and, Bool.false_or, Bool.or_true, Bool.and_true, Bool.or_false, cond_tf, hk, getD_in hk, contains_eq hb, e, wrap_nat (show k < 4294967296 by omega)]
    · simp only [cast0, ofNat_c, lt_cast, decide_true, decide_false, cond_true, cond_false, inB_cast, grd_real, join_real, Int.toNat_natCast, Option.elim_some, Bool.true_and, Bool.false_or, Bool.or_true, Bool.and_true, Bool.or_false, cond_tf, hk, getD_in hk, contains_eq hb, e]
      simp [geI]
    · simp only [cast0, ofNat_c, lt_cast, decide_true, decide_false, cond_true, cond_false, inB_cast, grd_real, join_real, Int.toNat_natCast, Option.elim_some, Bool.true_and, Bool.false_or, Bool.or_true, Bool.and_true, Bool.or_false, cond_tf, Nat.lt_irrefl]; rfl
    · cases a.any fun w => b.contains w <;> rfl
  exact key realC
theorem writes_eq {g : Gate} {n : Int} : m_sched_writes (g, n, ()) = some (b1 (g.1 == 13 && g.2.2.1 == n)) := by
  have key : ∀ (C : Cmb) [CmbOk C], M_sched_writes C (g, n, ()) = some (b1 (g.1 == 13 && g.2.2.1 == n)) := by
    intro C _
    unfold M_sched_writes
    simp only [join_real]
    have e13 : (Int.ofNat 13 : Int) = 13 := rfl
    rw [e13]
    cases g.1 == 13 <;> rfl
  exact key realC
theorem reads_eq {g : Gate} {n : Int} : m_sched_reads (g, n, ()) = some (b1 (g.2.2.2.1 == IntKind.i64.wrap (n + 1))) := rfl
theorem meet_eq {g h : Gate} (hg : g.2.1.length < 4294967296) (hh : h.2.1.length < 4294967296) : m_sched_meet (g, h, ()) = some (b1 (meetB g h)) := by
  have key : ∀ (C : Cmb) [CmbOk C], M_sched_meet C (g, h, ()) = some (b1 (meetB g h)) := by
    intro C _
    unfold M_sched_meet meetB touchB
    simp only [join_real, common_eq hg hh, writes_eq, reads_eq, Option.elim_some]
    have e13 : (Int.ofNat 13 : Int) = 13 := rfl
    rw [e13]
    cases g.2.1.any fun w => h.2.1.contains w <;> cases g.1 == 13 <;> cases h.1 == 13 <;> cases h.2.2.2.1 == IntKind.i64.wrap (g.2.2.1 + 1) <;> cases h.2.2.1 == g.2.2.1 <;> cases g.2.2.2.1 == IntKind.i64.wrap (h.2.2.1 + 1) <;> rfl
  exact key realC
def dupB (l : List Int) : Bool := (List.range l.length).any fun i => (l.take i).contains (l.getD i 0)
def lateB (g : Gate) (b : Int) : Bool := decide (g.2.2.2.1 < 0) || decide (g.2.2.2.1 > b) || (g.1 == 13 && (decide (g.2.2.1 < 0) || decide (g.2.2.1 ≥ b)))
def formB (g : Gate) : Bool := (decide (g.1 ≥ 13) && g.2.2.2.1 != 0) || (g.1 != 13 && g.2.2.1 != 0)
def ckG (g : Gate) (w b : Int) : Int :=
  if arS g.1 = 0 then 3 else if (g.2.1.length : Int) ≠ arS g.1 then 2 else bif g.2.1.any (fun x => decide (x < 0) || decide (x ≥ w)) then 1 else
  bif dupB g.2.1 then 5 else bif lateB g b then 1 else bif formB g then 7 else 0
theorem getD_range {n k : Nat} (h : k < (List.range n).length) : (List.range n)[k] = k := by simp
theorem gt_pred {x w : Int} : decide (x > w - ((1 : Nat) : Int)) = decide (x ≥ w) := by
  by_cases h : x ≥ w
  · rw [decide_eq_true h, decide_eq_true (by omega)]
  · rw [decide_eq_false h, decide_eq_false (by omega)]
theorem le_cast {a b : Nat} : leI (a : Int) (b : Int) = decide (a ≤ b) := by simp [leI]
theorem nn_cast {a : Nat} : leI 0 (a : Int) = true := by simp [leI]
theorem checkGate_eq {g : Gate} {w b : Int} (hg : g.2.1.length < 4294967296) (hw : -1000 ≤ w ∧ w ≤ 1000) (hb : -1000 ≤ b ∧ b ≤ 1000) : m_spoondriftref04_CheckGate (g, w, b, ()) = some (i1 (ckG g w b)) := by
  have key : ∀ (C : Cmb) [CmbOk C], M_spoondriftref04_CheckGate C (g, w, b, ()) = some (i1 (ckG g w b)) := by
    intro C _
    unfold M_spoondriftref04_CheckGate ckG
    simp only [ref_ar, Option.elim_some, beq_dec, off_eq, join_real]
    have e0 : (Int.ofNat 0 : Int) = 0 := rfl
    have e1 : (Int.ofNat 1 : Int) = 1 := rfl
    by_cases h0 : arS g.1 = 0
    · simp [h0, e0]
    by_cases h1 : ¬ (g.2.1.length : Int) = arS g.1
    · rw [if_neg h0, if_pos h1]
      simp [h0, h1, e0, bne, beq_dec]
    have h1 : (g.2.1.length : Int) = arS g.1 := by simpa using h1
    rw [wrap_in (a := w - Int.ofNat 1) (by rw [e1]; omega) (by rw [e1]; omega), wrap_in (a := b - Int.ofNat 1) (by rw [e1]; omega) (by rw [e1]; omega)]
    have hz : decide (arS g.1 = Int.ofNat 0) = false := decide_eq_false h0
    have hn : (Int.ofNat g.2.1.length != arS g.1) = false := by rw [ofNat_c, h1]; simp
    rw [if_neg h0, if_neg (by simpa using h1), hz, hn, cond_false, cond_false]
    refine (loop_any (l := g.2.1) (p := fun x => decide (x < 0) || decide (x ≥ w)) (R := some (i1 1)) (E := some (i1 (bif dupB g.2.1 then 5 else bif lateB g b then 1 else bif formB g then 7 else 0))) (n := fuelL) st1 (fuel_big hg) (fun k hk e again => ?_) (fun k hk e again => ?_) fun again => ?_).trans ?_
    · simp only [cast0, ofNat_c, lt_cast, decide_true, decide_false, cond_true, cond_false, inB_cast, grd_real, join_real, Int.toNat_natCast, Option.elim_some, Bool.true_and, Bool.false_or, Bool.or_true, Bool.and_true, Bool.or_false, cond_tf, hk, getD_in hk, gt_pred, e, wrap_nat (show k < 4294967296 by omega)]
    · simp only [cast0, ofNat_c, lt_cast, decide_true, decide_false, cond_true, cond_false, inB_cast, grd_real, join_real, Int.toNat_natCast, Option.elim_some, Bool.true_and, Bool.false_or, Bool.or_true, Bool.and_true, Bool.or_false, cond_tf, hk, getD_in hk, gt_pred, e]; rfl
    · simp only [cast0, ofNat_c, lt_cast, decide_true, decide_false, cond_true, cond_false, inB_cast, grd_real, join_real, Int.toNat_natCast, Option.elim_some, Bool.true_and, Bool.false_or, Bool.or_true, Bool.and_true, Bool.or_false, cond_tf, Nat.lt_irrefl]
      have el : (List.range g.2.1.length).length = g.2.1.length := List.length_range
      refine (loop_any (l := List.range g.2.1.length) (p := fun i => (g.2.1.take i).contains (g.2.1.getD i 0)) (R := some (i1 5)) (E := some (i1 (bif lateB g b then 1 else bif formB g then 7 else 0))) (n := fuelL) st1 (fuel_big (by omega)) (fun k hk e again => ?_) (fun k hk e again => ?_) fun again => ?_).trans ?_
      · rw [el] at hk
        rw [getD_range (by rw [el]; exact hk)] at e
        have ht : (g.2.1.take k).length < 4294967296 := by rw [List.length_take]; omega
        simp only [cast0, ofNat_c, lt_cast, decide_true, decide_false, cond_true, cond_false, inB_cast, grd_real, join_real, Int.toNat_natCast, Option.elim_some, Bool.true_and, Bool.false_or, Bool.or_true, Bool.and_true, Bool.or_false, cond_tf, hk, le_cast, Nat.le_of_lt hk, has04_eq ht, e, wrap_nat (show k < 4294967296 by omega), nn_cast]
      · rw [el] at hk
        rw [getD_range (by rw [el]; exact hk)] at e
        have ht : (g.2.1.take k).length < 4294967296 := by rw [List.length_take]; omega
        simp only [cast0, ofNat_c, lt_cast, decide_true, decide_false, cond_true, cond_false, inB_cast, grd_real, join_real, Int.toNat_natCast, Option.elim_some, Bool.true_and, Bool.false_or, Bool.or_true, Bool.and_true, Bool.or_false, cond_tf, hk, le_cast, Nat.le_of_lt hk, has04_eq ht, e, nn_cast]; rfl
      · rw [el]
        simp only [cast0, ofNat_c, lt_cast, decide_true, decide_false, cond_true, cond_false, inB_cast, grd_real, join_real, Int.toNat_natCast, Option.elim_some, Bool.true_and, Bool.false_or, Bool.or_true, Bool.and_true, Bool.or_false, cond_tf, Nat.lt_irrefl, lateB, formB, gt_pred]
        have e13 : (((13 : Nat) : Int)) = 13 := rfl
        have e00 : (((0 : Nat) : Int)) = 0 := rfl
        simp only [e13, e00, bne, beq_dec, geI]
        cases decide (g.2.2.2.1 < 0) <;> cases decide (g.2.2.2.1 > b) <;> cases decide (g.1 = 13) <;> cases decide (g.2.2.1 < 0) <;> cases decide (g.2.2.1 ≥ b) <;> cases decide (g.1 ≥ 13) <;> cases decide (g.2.2.2.1 = 0) <;> cases decide (g.2.2.1 = 0) <;> rfl
      · unfold dupB
        cases (List.range g.2.1.length).any fun i => (g.2.1.take i).contains (g.2.1.getD i 0) <;> rfl
    · cases g.2.1.any (fun x => decide (x < 0) || decide (x ≥ w)) <;> rfl
  exact key realC
end Go.Canon
namespace Go.Canon
set_option linter.unusedVariables false
set_option linter.unusedSimpArgs false
open Go
/-- The error of a list of gates: the first one's. -/
def gatesE (l : List Gate) (w b : Int) : Int := if l.findIdx (fun g => ckG g w b != 0) < l.length then ckG (l.getD (l.findIdx (fun g => ckG g w b != 0)) (0, [], 0, 0, ())) w b else 0
/-- The error of a circuit. -/
def chk (c : Circ) : Int := bif (decide (c.1 < 1) || decide (c.1 > 12)) || (decide (c.2.1 < 0) || decide (c.2.1 > 8)) then 3 else if c.2.2.1.length > 120 then 2 else gatesE c.2.2.1 c.1 c.2.1
/-- A circuit that the statements look at in full. -/
def Small (c : Circ) : Prop := c.2.2.1.length ≤ 130 ∧ ∀ g ∈ c.2.2.1, g.2.1.length ≤ 6
theorem Small.wires {c : Circ} (h : Small c) {k : Nat} (hk : k < c.2.2.1.length) : (c.2.2.1[k]).2.1.length < 4294967296 := Nat.lt_of_le_of_lt (h.2 _ (List.getElem_mem hk)) (by decide)
theorem bounds_of {c : Circ} (h : ((decide (c.1 < 1) || decide (c.1 > 12)) || (decide (c.2.1 < 0) || decide (c.2.1 > 8))) = false) : (1 ≤ c.1 ∧ c.1 ≤ 12) ∧ 0 ≤ c.2.1 ∧ c.2.1 ≤ 8 := by
  simp only [Bool.or_eq_false_iff, decide_eq_false_iff_not] at h
  omega
theorem gt120 {n : Nat} : gtI (n : Int) ((120 : Nat) : Int) = decide (n > 120) := by
  unfold gtI
  by_cases h : n > 120
  · rw [decide_eq_true h, decide_eq_true (by omega)]
  · rw [decide_eq_false h, decide_eq_false (by omega)]
theorem ref_check {c : Circ} (h : Small c) : m_spoondriftref04_Check (c, ()) = some (i1 (chk c)) := by
  have key : ∀ (C : Cmb) [CmbOk C], M_spoondriftref04_Check C (c, ()) = some (i1 (chk c)) := by
    intro C _
    unfold M_spoondriftref04_Check chk
    simp only [join_real, off_eq, Option.elim_some]
    have e0 : (Int.ofNat 0 : Int) = 0 := rfl
    have e1 : (Int.ofNat 1 : Int) = 1 := rfl
    have e8 : (Int.ofNat 8 : Int) = 8 := rfl
    have e12 : (Int.ofNat 12 : Int) = 12 := rfl
    rw [e12, e8]
    cases hb : (decide (c.1 < 1) || decide (c.1 > 12)) with
    | true => rfl
    | false =>
      cases hb2 : (decide (c.2.1 < 0) || decide (c.2.1 > 8)) with
      | true => rfl
      | false =>
        obtain ⟨w1, w2⟩ := bounds_of (c := c) (by rw [hb, hb2]; rfl)
        simp only [cond_false, Bool.or_false, ofNat_c, gt120]
        by_cases hl : c.2.2.1.length > 120
        · rw [decide_eq_true hl, if_pos hl]; rfl
        · rw [decide_eq_false hl, if_neg hl, cond_false]
          refine (loop_find (l := c.2.2.1) (p := fun g => ckG g c.1 c.2.1 != 0) (R := fun k => some (i1 (ckG (c.2.2.1.getD k (0, [], 0, 0, ())) c.1 c.2.1))) (E := some (i1 0)) (n := fuelL) st1 (fuel_big (by omega)) (fun k hk e again => ?_) (fun k hk e again => ?_) fun again => ?_).trans ?_
          · have e : (ckG c.2.2.1[k] c.1 c.2.1 != ((0 : Nat) : Int)) = false := e
            simp only [ofNat_c, lt_cast, decide_true, decide_false, cond_true, cond_false, inB_cast, grd_real, join_real, Int.toNat_natCast, Option.elim_some, Bool.true_and, Bool.false_or, Bool.or_true, Bool.and_true, Bool.or_false, cond_tf, hk, getD_in hk, checkGate_eq (w := c.1) (b := c.2.1) (h.wires hk) (by omega) (by omega), e, wrap_nat (show k < 4294967296 by omega)]
          · have e : (ckG c.2.2.1[k] c.1 c.2.1 != ((0 : Nat) : Int)) = true := e
            simp only [ofNat_c, lt_cast, decide_true, decide_false, cond_true, cond_false, inB_cast, grd_real, join_real, Int.toNat_natCast, Option.elim_some, Bool.true_and, Bool.false_or, Bool.or_true, Bool.and_true, Bool.or_false, cond_tf, hk, getD_in hk, checkGate_eq (w := c.1) (b := c.2.1) (h.wires hk) (by omega) (by omega), e]
          · simp only [ofNat_c, lt_cast, decide_true, decide_false, cond_true, cond_false, inB_cast, grd_real, join_real, Int.toNat_natCast, Option.elim_some, Bool.true_and, Bool.false_or, Bool.or_true, Bool.and_true, Bool.or_false, cond_tf, Nat.lt_irrefl]; rfl
          · unfold gatesE
            split <;> rfl
  exact key realC
theorem circ_check {c : Circ} (h : Small c) : m_circ_Check (c, ()) = some (i1 (chk c)) := by
  have key : ∀ (C : Cmb) [CmbOk C], M_circ_Check C (c, ()) = some (i1 (chk c)) := by
    intro C _
    unfold M_circ_Check chk
    dsimp only
    rw [join_real]
    have e12 : (Int.ofNat 12 : Int) = 12 := rfl
    cases hb : (decide (c.1 < 1) || decide (c.1 > 12)) || (decide (c.2.1 < 0) || decide (c.2.1 > 8)) with
    | true =>
      simp only [ofNat_c]
      simp only [ltI, gtI, show ((12 : Nat) : Int) = 12 from rfl, show ((8 : Nat) : Int) = 8 from rfl, show ((1 : Nat) : Int) = 1 from rfl, show ((0 : Nat) : Int) = 0 from rfl]
      revert hb
      cases decide (c.1 < 1) <;> cases decide (c.1 > 12) <;> cases decide (c.2.1 < 0) <;> cases decide (c.2.1 > 8) <;> intro hb <;> first | rfl | cases hb
    | false =>
      obtain ⟨w1, w2⟩ := bounds_of hb
      rw [show ltI c.1 (Int.ofNat 1) = false from decide_eq_false (by rw [ofNat_c]; omega), show gtI c.1 (Int.ofNat 12) = false from decide_eq_false (by rw [ofNat_c]; omega), show ltI c.2.1 (Int.ofNat 0) = false from decide_eq_false (by rw [ofNat_c]; omega), show gtI c.2.1 (Int.ofNat 8) = false from decide_eq_false (by rw [ofNat_c]; omega)]
      simp only [cond_false]
      by_cases hl : c.2.2.1.length > 120
      · rw [if_pos hl, show gtI (Int.ofNat c.2.2.1.length) (Int.ofNat 120) = true from decide_eq_true (by rw [ofNat_c, ofNat_c]; omega)]; rfl
      · rw [if_neg hl, show gtI (Int.ofNat c.2.2.1.length) (Int.ofNat 120) = false from decide_eq_false (by rw [ofNat_c, ofNat_c]; omega), cond_false]
        refine (loop_find2 (l := c.2.2.1) (p := fun g => ckG g c.1 c.2.1 != 0) (R := fun k => some (i1 (ckG (c.2.2.1.getD k (0, [], 0, 0, ())) c.1 c.2.1))) (E := some (i1 0)) (n := fuelL) st1 (fuel_big (by omega)) (fun k hk again => ?_) fun again => ?_).trans ?_
        · dsimp only
          rw [show ltI (st1 k).1.1 (Int.ofNat c.2.2.1.length) = true from decide_eq_true (by show (k : Int) < _; rw [ofNat_c]; omega), cond_true, grd_real, show inB (st1 k).1.1 c.2.2.1.length = true from by rw [inB_cast]; exact decide_eq_true hk, cond_true, join_real]
          have hw := h.wires hk
          rw [show (st1 k).1.1.toNat = k from rfl, getD_in hk]
          generalize hK : (fun (x_1 : (Int × Unit) × Unit) => bif x_1.1.1 != Int.ofNat 0 then some ((x_1.1.1, ()), ()) else again ((IntKind.i64.wrap ((k : Int) + Int.ofNat 1), ()), ())) = K
          generalize c.2.2.1[k] = g at hw ⊢
          refine Eq.trans (b := K (i1 (ckG g c.1 c.2.1))) ?_ ?_
          · rw [circ_ar, Option.elim_some, Option.elim_some]
            unfold ckG
            have hl6 : g.2.1.length < 4294967296 := hw
            by_cases h0 : arS g.1 = 0
            · rw [if_pos h0, show ((i1 (arS g.1)).1.1 == Int.ofNat 0) = true from by rw [beq_dec]; exact decide_eq_true h0]; rfl
            rw [if_neg h0, show ((i1 (arS g.1)).1.1 == Int.ofNat 0) = false from by rw [beq_dec]; exact decide_eq_false h0, cond_false]
            by_cases h1 : ¬ (g.2.1.length : Int) = arS g.1
            · rw [if_pos h1, show (Int.ofNat g.2.1.length != (i1 (arS g.1)).1.1) = true from by rw [ofNat_c, bne, beq_dec]; show (!decide ((g.2.1.length : Int) = arS g.1)) = true; rw [decide_eq_false h1]; rfl]; rfl
            rw [if_neg h1, show (Int.ofNat g.2.1.length != (i1 (arS g.1)).1.1) = false from by rw [ofNat_c, bne, beq_dec]; show (!decide ((g.2.1.length : Int) = arS g.1)) = false; rw [decide_eq_true (Decidable.not_not.1 h1)]; rfl, cond_false, join_real]
            refine (loop_any2 (l := g.2.1) (p := fun x => decide (x < 0) || decide (x ≥ c.1)) (R := K (i1 1)) (E := K (i1 (bif dupB g.2.1 then 5 else bif lateB g c.2.1 then 1 else bif formB g then 7 else 0))) (n := fuelL) st1 (fuel_big hl6) (fun k hk again => ?_) fun again => ?_).trans ?_
            · simp only [cast0, ofNat_c, lt_cast, decide_true, decide_false, cond_true, cond_false, inB_cast, grd_real, join_real, Int.toNat_natCast, Option.elim_some, Bool.true_and, Bool.false_or, Bool.or_true, Bool.and_true, Bool.or_false, cond_tf, hk, getD_in hk, wrap_nat (show k < 4294967296 by omega)]; simp only [ltI, geI]
              by_cases a1 : g.2.1[k] < 0
              · rw [decide_eq_true a1, show decide (g.2.1[k] ≥ 0) = false from decide_eq_false (by omega)]; rfl
              · rw [decide_eq_false a1, show decide (g.2.1[k] ≥ 0) = true from decide_eq_true (by omega)]
                by_cases a2 : g.2.1[k] < c.1
                · rw [decide_eq_true a2, show decide (g.2.1[k] ≥ c.1) = false from decide_eq_false (by omega)]; rfl
                · rw [decide_eq_false a2, show decide (g.2.1[k] ≥ c.1) = true from decide_eq_true (by omega)]; rfl
            · rw [show ltI (st1 g.2.1.length).1.1 (Int.ofNat g.2.1.length) = false from decide_eq_false (by show ¬ ((g.2.1.length : Int) < _); rw [ofNat_c]; omega), cond_false]
              show (bif !!geI (Int.negSucc 0) (Int.ofNat 0) then _ else _) = _
              rw [show geI (Int.negSucc 0) (Int.ofNat 0) = false from rfl, Bool.not_false, Bool.not_true, cond_false]
              have el : (List.range g.2.1.length).length = g.2.1.length := List.length_range
              refine (loop_any2 (l := List.range g.2.1.length) (p := fun i => (g.2.1.take i).contains (g.2.1.getD i 0)) (R := K (i1 5)) (E := K (i1 (bif lateB g c.2.1 then 1 else bif formB g then 7 else 0))) (n := fuelL) st1 (fuel_big (by omega)) (fun k hk again => ?_) fun again => ?_).trans ?_
              · rw [el] at hk
                rw [getD_range (by rw [el]; exact hk)]
                have ht : (g.2.1.take k).length < 4294967296 := by rw [List.length_take]; omega
                simp only [cast0, ofNat_c, lt_cast, decide_true, decide_false, cond_true, cond_false, inB_cast, grd_real, join_real, Int.toNat_natCast, Option.elim_some, Bool.true_and, Bool.false_or, Bool.or_true, Bool.and_true, Bool.or_false, cond_tf, hk, le_cast, Nat.le_of_lt hk, contains_eq ht, wrap_nat (show k < 4294967296 by omega), nn_cast]
                rfl
              · rw [el]
                simp only [cast0, ofNat_c, lt_cast, decide_true, decide_false, cond_true, cond_false, inB_cast, grd_real, join_real, Int.toNat_natCast, Option.elim_some, Bool.true_and, Bool.false_or, Bool.or_true, Bool.and_true, Bool.or_false, cond_tf, Nat.lt_irrefl, lateB, formB, bne, beq_dec]; simp only [ltI, gtI, geI]
                have hk : g.1 ≥ 13 ↔ (g.1 = 13 ∨ g.1 = 14) := by
                  have : 1 ≤ g.1 ∧ g.1 ≤ 14 := by
                    unfold arS at h0
                    split at h0
                    · omega
                    · split at h0
                      · omega
                      · split at h0
                        · assumption
                        · exact (h0 rfl).elim
                  omega
                have hk : decide (g.1 ≥ 13) = (decide (g.1 = 13) || decide (g.1 = 14)) := by
                  rw [Bool.eq_iff_iff]; simpa using hk
                rw [hk]
                simp only [show ((13 : Nat) : Int) = 13 from rfl, show ((14 : Nat) : Int) = 14 from rfl, show ((1 : Nat) : Int) = 1 from rfl, show ((7 : Nat) : Int) = 7 from rfl]
                cases decide (g.2.2.2.1 < 0) <;> cases decide (g.2.2.2.1 > c.2.1) <;> cases decide (g.1 = 13) <;> cases decide (g.2.2.1 < 0) <;> cases decide (g.2.2.1 ≥ c.2.1) <;> cases decide (g.1 = 14) <;> cases decide (g.2.2.2.1 = 0) <;> cases decide (g.2.2.1 = 0) <;> rfl
              · unfold dupB
                cases (List.range g.2.1.length).any fun i => (g.2.1.take i).contains (g.2.1.getD i 0) <;> rfl
            · cases g.2.1.any (fun x => decide (x < 0) || decide (x ≥ c.1)) <;> rfl
          · rw [← hK]
            show (bif ckG g c.1 c.2.1 != ((0 : Nat) : Int) then some (i1 (ckG g c.1 c.2.1)) else again ((IntKind.i64.wrap ((k : Int) + ((1 : Nat) : Int)), ()), ())) = _
            rw [wrap_nat (by omega)]
            rfl
        · simp only [ofNat_c, lt_cast, decide_true, decide_false, cond_true, cond_false, inB_cast, grd_real, join_real, Int.toNat_natCast, Option.elim_some, Bool.true_and, Bool.false_or, Bool.or_true, Bool.and_true, Bool.or_false, cond_tf, Nat.lt_irrefl]; rfl
        · unfold gatesE
          split <;> rfl
  exact key realC
end Go.Canon
namespace Go.Canon
set_option linter.unusedVariables false
set_option linter.unusedSimpArgs false
open Go
theorem findM_shift {k v : Ty} {key : El k} : ∀ {es : List (El k × El v)} {i : Nat}, findM key es i = (findM key es 0).map fun p => (p.1 + i, p.2)
  | [], i => rfl
  | e :: es, i => by
    unfold findM
    cases keq k key e.1 with
    | true => simp
    | false =>
      simp only [cond_false]
      rw [findM_shift (i := i + 1), findM_shift (i := 1), Option.map_map]
      congr 1
      funext p
      simp only [Function.comp, Prod.mk.injEq, and_true]
      omega
theorem insM_nil {k v : Ty} {key : El k} {x : El v} : insM key x ([] : List (El k × El v)) = [(key, x)] := rfl
theorem insM_cons {k v : Ty} {key : El k} {x : El v} {e : El k × El v} {es : List (El k × El v)} : insM key x (e :: es) = bif keq k key e.1 then (key, x) :: es else e :: insM key x es := by
  unfold insM
  rw [findM]
  cases hk : keq k key e.1 with
  | true => rfl
  | false =>
    rw [cond_false, findM_shift, cond_false]
    cases findM key es 0 <;> rfl
theorem atM_cons {k v : Ty} {key : El k} {z : El v} {e : El k × El v} {es : List (El k × El v)} : atM key z (e :: es) = bif keq k key e.1 then e.2 else atM key z es := by
  unfold atM
  rw [findM]
  cases hk : keq k key e.1 with
  | true => rfl
  | false =>
    rw [cond_false, findM_shift, cond_false]
    cases findM key es 0 <;> rfl
theorem posM_cons {k v : Ty} {key : El k} {e : El k × El v} {es : List (El k × El v)} : posM key (e :: es) = bif keq k key e.1 then 0 else posM key es + 1 := by
  unfold posM
  rw [findM]
  cases hk : keq k key e.1 with
  | true => rfl
  | false =>
    rw [cond_false, findM_shift, cond_false]
    cases findM key es 0 <;> rfl
/-- An entry put: made if need be, then written. -/
theorem put_ins {k v : Ty} {key : El k} {z x : El v} : ∀ {es : List (El k × El v)}, (insM key (atM key z es) es).modify (posM key es) (fun e => (e.1, x)) = insM key x es
  | [] => rfl
  | e :: es => by
    rw [insM_cons, atM_cons, posM_cons, insM_cons]
    cases hk : keq k key e.1 with
    | true => rfl
    | false =>
      simp only [cond_false, List.modify_succ_cons]
      rw [put_ins]
theorem pos_in {k v : Ty} {key : El k} {x : El v} : ∀ {es : List (El k × El v)}, posM key es < (insM key x es).length
  | [] => Nat.succ_pos _
  | e :: es => by
    rw [insM_cons, posM_cons]
    cases hk : keq k key e.1 with
    | true => exact Nat.succ_pos _
    | false => exact Nat.succ_lt_succ pos_in
/-- What is looked up behind a change. -/
theorem at_ins {k v : Ty} (hsym : ∀ a b c : El k, keq k a b = true → keq k c a = keq k c b) (hs : ∀ a b : El k, keq k a b = keq k b a) {key q : El k} {z x : El v} : ∀ {es : List (El k × El v)}, atM q z (insM key x es) = bif keq k q key then x else atM q z es
  | [] => by rw [insM_nil, atM_cons]
  | e :: es => by
    rw [insM_cons, atM_cons]
    cases hk : keq k key e.1 with
    | true =>
      rw [cond_true, atM_cons]
      show _ = bif keq k q key then x else bif keq k q e.1 then e.2 else atM q z es
      rw [hsym _ _ q hk]
      cases keq k q e.1 <;> rfl
    | false =>
      rw [cond_false, atM_cons, at_ins hsym hs]
      cases hq : keq k q e.1 with
      | true =>
        have : keq k q key = false := by
          cases hqk : keq k q key with
          | false => rfl
          | true =>
            have h1 := hsym _ _ key hq
            rw [hk, hs] at h1
            rw [hqk] at h1; cases h1
        rw [this]; rfl
      | false => rfl
theorem keq_list {n : Nat} : ∀ {a b : List Int}, keq (.arr n (.int .i64)) a b = (a == b)
  | [], [] => rfl
  | [], _ :: _ => rfl
  | _ :: _, [] => rfl
  | x :: a, y :: b => by
    have := @keq_list n a b
    show (x == y && keq (.arr n (.int .i64)) a b) = _
    rw [this]; rfl
theorem at_ins_list {n : Nat} {v : Ty} {key q : List Int} {z x : El v} {es : List (List Int × El v)} : atM (k := .arr n (.int .i64)) (v := v) q z (insM (k := .arr n (.int .i64)) (v := v) key x es) = bif q == key then x else atM (k := .arr n (.int .i64)) (v := v) q z es := by
  rw [at_ins (k := .arr n (.int .i64)) (fun a b c h => ?_) (fun a b => ?_)]
  · rw [keq_list]
  · rw [keq_list] at h
    rw [keq_list, keq_list, eq_of_beq h]
  · rw [keq_list, keq_list]
    exact BEq.comm
end Go.Canon
namespace Go.Canon
set_option linter.unusedVariables false
set_option linter.unusedSimpArgs false
open Go
abbrev Clk := List Int × Int × List (List Int) × Unit
abbrev Plan := Circ × List Int × Int × List (List Int × Bool) × Unit
def offN (n : Int) : Bool := decide (n < 1) || decide (n > 100)
def offW (n : Int) : Bool := decide (n < 0) || decide (n > 100)
/-- The error of a clock, but for its pairs. -/
def clkE (t : Clk) : Int := if t.1.length ≠ 14 then 2 else bif t.1.any offN || offW t.2.1 then 3 else 0
theorem clock1_eq {n : Int} : m_sched_clock_1 (n, ()) = some (b1 (offN n)) := by
  have key : ∀ (C : Cmb) [CmbOk C], M_sched_clock_1 C (n, ()) = some (b1 (offN n)) := by
    intro C _
    unfold M_sched_clock_1 offN
    simp only [join_real]
    show (bif decide (n < 1) then _ else _) = _
    cases decide (n < 1) <;> rfl
  exact key realC
theorem len_ne {n m : Nat} : (Int.ofNat n != Int.ofNat m) = decide (n ≠ m) := by
  by_cases h : n = m
  · subst h; simp
  · rw [decide_eq_true h, bne_iff_ne]
    intro e; exact h (Int.ofNat.inj e)
theorem clock_eq {t : Clk} : m_sched_clock (t, ()) = some (i1 (clkE t)) := by
  have key : ∀ (C : Cmb) [CmbOk C], M_sched_clock C (t, ()) = some (i1 (clkE t)) := by
    intro C _
    unfold M_sched_clock clkE
    dsimp only
    rw [len_ne]
    by_cases h : t.1.length ≠ 14
    · rw [if_pos h, decide_eq_true h]; rfl
    · rw [if_neg h, decide_eq_false h, cond_false, join_real, join_real]
      have h : t.1.length = 14 := Decidable.not_not.1 h
      refine (loop_any2 (l := t.1) (p := offN) (R := some (i1 3)) (E := some (i1 (bif offW t.2.1 then 3 else 0))) (n := fuelL) st1 (fuel_big (by omega)) (fun k hk again => ?_) fun again => ?_).trans ?_
      · simp only [cast0, ofNat_c, lt_cast, decide_true, decide_false, cond_true, cond_false, inB_cast, grd_real, join_real, Int.toNat_natCast, Option.elim_some, Bool.true_and, Bool.false_or, Bool.or_true, Bool.and_true, Bool.or_false, cond_tf, hk, getD_in hk, clock1_eq, wrap_nat (show k < 4294967296 by omega)]
        cases offN t.1[k] with
        | false => rfl
        | true =>
          show (bif geI (k : Int) 0 then _ else _) = _
          rw [show geI (k : Int) 0 = true from decide_eq_true (by omega)]; rfl
      · rw [show ltI (st1 t.1.length).1.1 (Int.ofNat t.1.length) = false from decide_eq_false (by show ¬ ((t.1.length : Int) < _); rw [ofNat_c]; omega), cond_false]
        unfold offW
        show (bif false then _ else bif (bif false then true else decide (t.2.1 < 0)) then _ else _) = _
        simp only [cond_false]
        cases decide (t.2.1 < 0) with
        | true => rfl
        | false =>
          show (bif decide (t.2.1 > 100) then _ else _) = some (i1 (bif decide (t.2.1 > 100) then 3 else 0))
          cases decide (t.2.1 > 100) <;> rfl
      · cases t.1.any offN <;> rfl
  exact key realC
/-- What the reference's Quiet hands back. -/
def quietS (t : Clk) : Clk := if clkE t = 0 then (t.1, t.2.1, [], ()) else ([], 0, [], ())
theorem quiet24_eq {t : Clk} : m_spoondriftref24_Quiet (t, ()) = some ((quietS t, clkE t, ()), ()) := by
  have key : ∀ (C : Cmb) [CmbOk C], M_spoondriftref24_Quiet C (t, ()) = some ((quietS t, clkE t, ()), ()) := by
    intro C _
    unfold M_spoondriftref24_Quiet quietS clkE
    dsimp only
    rw [len_ne]
    by_cases h : t.1.length ≠ 14
    · rw [if_pos h, decide_eq_true h]; rfl
    · rw [if_neg h, decide_eq_false h, cond_false]
      have h : t.1.length = 14 := Decidable.not_not.1 h
      refine (loop_any2 (l := t.1) (p := offN) (R := some ((([], 0, [], ()), 3, ()), ())) (E := some ((if (bif offW t.2.1 then 3 else 0 : Int) = 0 then (t.1, t.2.1, [], ()) else ([], 0, [], ()), (bif offW t.2.1 then 3 else 0), ()), ())) (n := fuelL) (fun k => (((k : Int), ()), ((), (0 : Int), (), ()), ())) (fuel_big (by omega)) (fun k hk again => ?_) fun again => ?_).trans ?_
      · simp only [cast0, ofNat_c, lt_cast, decide_true, decide_false, cond_true, cond_false, inB_cast, grd_real, join_real, Int.toNat_natCast, Option.elim_some, Bool.true_and, Bool.false_or, Bool.or_true, Bool.and_true, Bool.or_false, cond_tf, hk, getD_in hk, wrap_nat (show k < 4294967296 by omega)]
        unfold offN
        show (bif decide (t.1[k] < 1) then _ else _) = _
        cases decide (t.1[k] < 1) with
        | true => rfl
        | false =>
          show (bif decide (t.1[k] > 100) then _ else _) = (bif decide (t.1[k] > 100) then _ else _)
          cases decide (t.1[k] > 100) <;> rfl
      · simp only [ofNat_c, lt_cast, decide_true, decide_false, cond_true, cond_false, inB_cast, grd_real, join_real, Int.toNat_natCast, Option.elim_some, Bool.true_and, Bool.false_or, Bool.or_true, Bool.and_true, Bool.or_false, cond_tf, Nat.lt_irrefl]
        unfold offW
        show (bif decide (t.2.1 < 0) then _ else _) = _
        cases h1 : decide (t.2.1 < 0) with
        | true => rfl
        | false =>
          show (bif decide (t.2.1 > 100) then _ else _) = _
          cases h2 : decide (t.2.1 > 100) with
          | true => rfl
          | false =>
            show (bif leN ((0 + t.1.length) * 8) roomB then _ else _) = _
            rw [h, show leN ((0 + 14) * 8) roomB = true from rfl]; rfl
      · cases t.1.any offN <;> cases offW t.2.1 <;> rfl
  exact key realC
def prB (p : List Int) (w : Int) : Bool := (decide (p.getD 0 0 < 0) || decide (p.getD 0 0 ≥ w)) || (decide (p.getD 1 0 < 0) || decide (p.getD 1 0 ≥ w))
def prE (p : List Int) (w : Int) : Int := bif prB p w then 1 else bif p.getD 0 0 == p.getD 1 0 then 4 else 0
def prsE (l : List (List Int)) (w : Int) : Int := if l.findIdx (fun p => prE p w != 0) < l.length then prE (l.getD (l.findIdx (fun p => prE p w != 0)) []) w else 0
/-- The error of a clock with a circuit. -/
def chk24 (t : Clk) (c : Circ) : Int := if clkE t ≠ 0 then clkE t else if chk c ≠ 0 then chk c else prsE t.2.2.1 c.1
theorem toN0 : Int.toNat 0 = 0 := rfl
theorem ltb0 : ltB 0 2 = true := rfl
theorem ltb1 : ltB 1 2 = true := rfl
theorem check24_eq {t : Clk} {c : Circ} (h : Small c) (ht : t.2.2.1.length ≤ 40) : m_spoondriftref24_Check (t, c, ()) = some (i1 (chk24 t c)) := by
  have key : ∀ (C : Cmb) [CmbOk C], M_spoondriftref24_Check C (t, c, ()) = some (i1 (chk24 t c)) := by
    intro C _
    unfold M_spoondriftref24_Check chk24
    dsimp only
    rw [quiet24_eq, Option.elim_some]
    by_cases h0 : clkE t ≠ 0
    · rw [if_pos h0]
      show (bif (clkE t != 0) then _ else _) = _
      rw [show (clkE t != 0) = true from by simpa using h0]; rfl
    rw [if_neg h0]
    show (bif (clkE t != 0) then _ else _) = _
    rw [show (clkE t != 0) = false from by simpa using h0, cond_false, ref_check h, Option.elim_some]
    by_cases h1 : chk c ≠ 0
    · rw [if_pos h1]
      show (bif (chk c != 0) then _ else _) = _
      rw [show (chk c != 0) = true from by simpa using h1]; rfl
    rw [if_neg h1]
    show (bif (chk c != 0) then _ else _) = _
    rw [show (chk c != 0) = false from by simpa using h1, cond_false]
    refine (loop_find2 (l := t.2.2.1) (p := fun p => prE p c.1 != 0) (R := fun k => some (i1 (prE (t.2.2.1.getD k []) c.1))) (E := some (i1 0)) (n := fuelL) st1 (fuel_big (by omega)) (fun k hk again => ?_) fun again => ?_).trans ?_
    · simp only [cast0, ofNat_c, lt_cast, decide_true, decide_false, cond_true, cond_false, inB_cast, grd_real, join_real, Int.toNat_natCast, Option.elim_some, Bool.true_and, Bool.false_or, Bool.or_true, Bool.and_true, Bool.or_false, cond_tf, hk, getD_in hk, wrap_nat (show k < 4294967296 by omega), toN0, ltb0, ltb1]; simp only [ltI, geI]
      unfold prE prB
      generalize t.2.2.1[k] = p
      cases decide (p.getD 0 0 < 0) <;> cases decide (p.getD 0 0 ≥ c.1) <;> cases decide (p.getD 1 0 < 0) <;> cases decide (p.getD 1 0 ≥ c.1) <;> cases p.getD 0 0 == p.getD 1 0 <;> rfl
    · simp only [ofNat_c, lt_cast, decide_true, decide_false, cond_true, cond_false, inB_cast, grd_real, join_real, Int.toNat_natCast, Option.elim_some, Bool.true_and, Bool.false_or, Bool.or_true, Bool.and_true, Bool.or_false, cond_tf, Nat.lt_irrefl]; rfl
    · unfold prsE
      split <;> rfl
  exact key realC
abbrev nIns (key : List Int) (x : Bool) (m : List (List Int × Bool)) : List (List Int × Bool) := insM (k := .arr 2 (.int .i64)) (v := .bool) key x m
abbrev nAt (key : List Int) (m : List (List Int × Bool)) : Bool := atM (k := .arr 2 (.int .i64)) (v := .bool) key false m
abbrev nPos (key : List Int) (m : List (List Int × Bool)) : Nat := posM (k := .arr 2 (.int .i64)) (v := .bool) key m
theorem put_n {key : List Int} {m : List (List Int × Bool)} : List.modify (nIns key (nAt key m) m) (nPos key m) (fun (e : List Int × Bool) => (e.1, true)) = nIns key true m := put_ins
theorem pos_n {key : List Int} {x : Bool} {m : List (List Int × Bool)} : decide (nPos key m < List.length (nIns key x m)) = true := decide_eq_true pos_in
/-- Which pairs disturb, as a map. -/
def nzS (m : List (List Int × Bool)) (p : List Int) : List (List Int × Bool) := insM (k := .arr 2 (.int .i64)) (v := .bool) [p.getD 1 0, p.getD 0 0] true (insM (k := .arr 2 (.int .i64)) (v := .bool) p true m)
def planS (t : Clk) (c : Circ) : Plan := (c, t.1, t.2.1, t.2.2.1.foldl nzS [], ())
theorem min_eq {a b : Int} : List.foldl mn2 a [b] = if b < a then b else a := rfl
theorem max_eq {a b : Int} : List.foldl mx2 a [b] = if b > a then b else a := rfl
theorem min_lt {a b : Int} : decide ((if b < a then b else a) < 0) = (decide (a < 0) || decide (b < 0)) := by
  split <;> (rw [Bool.eq_iff_iff]; simp; omega)
theorem max_ge {a b w : Int} : decide ((if b > a then b else a) ≥ w) = (decide (a ≥ w) || decide (b ≥ w)) := by
  split <;> (rw [Bool.eq_iff_iff]; simp; omega)
theorem opened_eq {t : Clk} {c : Circ} (h : Small c) (ht : t.2.2.1.length ≤ 40) : m_sched_opened (t, c, ()) = some ((if chk24 t c = 0 then some (planS t c) else none, chk24 t c, ()), ()) := by
  have key : ∀ (C : Cmb) [CmbOk C], M_sched_opened C (t, c, ()) = some ((if chk24 t c = 0 then some (planS t c) else none, chk24 t c, ()), ()) := by
    intro C _
    unfold M_sched_opened
    dsimp only
    rw [clock_eq, Option.elim_some]
    by_cases h0 : clkE t ≠ 0
    · have e : chk24 t c = clkE t := if_pos h0
      rw [e, if_neg h0]
      show (bif (clkE t != 0) then _ else _) = _
      rw [show (clkE t != 0) = true from by simpa using h0]; rfl
    show (bif (clkE t != 0) then _ else _) = _
    rw [show (clkE t != 0) = false from by simpa using h0, cond_false, circ_check h, Option.elim_some]
    by_cases h1 : chk c ≠ 0
    · have e : chk24 t c = chk c := by unfold chk24; rw [if_neg h0, if_pos h1]
      rw [e, if_neg h1]
      show (bif (chk c != 0) then _ else _) = _
      rw [show (chk c != 0) = true from by simpa using h1]; rfl
    show (bif (chk c != 0) then _ else _) = _
    rw [show (chk c != 0) = false from by simpa using h1, cond_false, grd_real, cond_true]
    have hc : t.1.length = 14 := by
      have h0 := Decidable.not_not.1 h0
      unfold clkE at h0
      split at h0
      · cases h0
      · rename_i hh; exact Decidable.not_not.1 hh
    have e : chk24 t c = prsE t.2.2.1 c.1 := by unfold chk24; rw [if_neg h0, if_neg h1]
    rw [e]
    refine (loop_find2 (l := t.2.2.1) (p := fun p => prE p c.1 != 0) (R := fun k => some ((none, prE (t.2.2.1.getD k []) c.1, ()), ())) (E := some ((some (planS t c), 0, ()), ())) (n := fuelL) (fun k => (((k : Int), ()), (t.2.2.1.take k).foldl nzS [], ())) (fuel_big (by omega)) (fun k hk again => ?_) fun again => ?_).trans ?_
    · have et : (t.2.2.1.take (k + 1)).foldl nzS [] = nzS ((t.2.2.1.take k).foldl nzS []) t.2.2.1[k] := by
        rw [List.take_add_one, List.getElem?_eq_getElem hk, List.foldl_append]; rfl
      rw [et]
      generalize (t.2.2.1.take k).foldl nzS [] = m
      simp only [cast0, ofNat_c, lt_cast, decide_true, decide_false, cond_true, cond_false, inB_cast, grd_real, join_real, Int.toNat_natCast, Option.elim_some, Bool.true_and, Bool.false_or, Bool.or_true, Bool.and_true, Bool.or_false, cond_tf, hk, getD_in hk, wrap_nat (show k < 4294967296 by omega), toN0, ltb0, ltb1, insMx, atMx, posMx, put_n, pos_n, min_eq, max_eq]; simp only [ltI, geI, min_lt, max_ge]
      unfold prE prB nzS
      generalize t.2.2.1[k] = p
      cases decide (p.getD 0 0 < 0) <;> cases decide (p.getD 0 0 ≥ c.1) <;> cases decide (p.getD 1 0 < 0) <;> cases decide (p.getD 1 0 ≥ c.1) <;> cases p.getD 0 0 == p.getD 1 0 <;> rfl
    · simp only [ofNat_c, lt_cast, decide_true, decide_false, cond_true, cond_false, inB_cast, grd_real, join_real, Int.toNat_natCast, Option.elim_some, Bool.true_and, Bool.false_or, Bool.or_true, Bool.and_true, Bool.or_false, cond_tf, Nat.lt_irrefl, List.take_length]
      have ec : ∀ z : List Int, z.length = 14 → cpyL z 0 (min t.1.length (14 - 0)) t.1 = t.1 := fun z hz => by
        unfold cpyL
        rw [hc, List.take_zero, List.nil_append, show min 14 (14 - 0) = 14 from rfl, List.take_of_length_le (by omega), List.drop_of_length_le (by omega), List.append_nil]
      unfold planS
      exact congrArg (fun q => some ((some (c, q, t.2.1, t.2.2.1.foldl nzS [], ()), (0 : Int), ()), ())) (ec _ rfl)
    · unfold prsE
      split
      · rename_i hh
        have hp := List.findIdx_getElem (w := hh)
        rw [getD_in hh]
        rw [if_neg (by simpa using hp)]
      · rfl
  exact key realC
end Go.Canon
namespace Go.Canon
set_option linter.unusedVariables false
set_option linter.unusedSimpArgs false
open Go
/-- A right clock and a right circuit. -/
structure Ok (t : Clk) (c : Circ) : Prop where
  sm : Small c
  n40 : t.2.2.1.length ≤ 40
  e : chk24 t c = 0
  two : ∀ p ∈ t.2.2.1, List.length p = 2
variable {t : Clk} {c : Circ}
theorem Ok.clk (H : Ok t c) : clkE t = 0 := by
  have := H.e
  unfold chk24 at this
  by_cases h : clkE t = 0
  · exact h
  · rw [if_pos h] at this; exact this
theorem Ok.chk (H : Ok t c) : chk c = 0 := by
  have := H.e
  unfold chk24 at this
  rw [if_neg (by simpa using H.clk)] at this
  by_cases h : Go.Canon.chk c = 0
  · exact h
  · rw [if_pos h] at this; exact this
theorem Ok.len14 (H : Ok t c) : t.1.length = 14 := by
  have h0 := H.clk
  unfold clkE at h0
  split at h0
  · cases h0
  · rename_i hh; exact Decidable.not_not.1 hh
theorem Ok.bnd (H : Ok t c) : (∀ n ∈ t.1, 1 ≤ n ∧ n ≤ 100) ∧ 0 ≤ t.2.1 ∧ t.2.1 ≤ 100 := by
  have h0 := H.clk
  unfold clkE at h0
  rw [if_neg (by simpa using H.len14)] at h0
  cases h : t.1.any offN || offW t.2.1 with
  | true => rw [h] at h0; cases h0
  | false =>
    simp only [Bool.or_eq_false_iff, List.any_eq_false] at h
    refine ⟨fun n hn => ?_, ?_⟩
    · have := h.1 n hn
      simp only [offN, Bool.or_eq_true, decide_eq_true_eq, not_or] at this
      omega
    · have := h.2
      simp only [offW, Bool.or_eq_false_iff, decide_eq_false_iff_not] at this
      omega
theorem chk_parts {c : Circ} (h0 : chk c = 0) : (1 ≤ c.1 ∧ c.1 ≤ 12 ∧ 0 ≤ c.2.1 ∧ c.2.1 ≤ 8) ∧ c.2.2.1.length ≤ 120 ∧ gatesE c.2.2.1 c.1 c.2.1 = 0 := by
  unfold chk at h0
  cases hb : (decide (c.1 < 1) || decide (c.1 > 12)) || (decide (c.2.1 < 0) || decide (c.2.1 > 8)) with
  | true => rw [hb, cond_true] at h0; cases h0
  | false =>
    rw [hb, cond_false] at h0
    obtain ⟨a, b⟩ := bounds_of hb
    split at h0
    · cases h0
    · exact ⟨⟨a.1, a.2, b.1, b.2⟩, by omega, h0⟩
theorem Ok.n120 (H : Ok t c) : c.2.2.1.length ≤ 120 := by
  exact (chk_parts H.chk).2.1
theorem chk_gate {c : Circ} (h0 : chk c = 0) {g : Gate} (hg : g ∈ c.2.2.1) : ckG g c.1 c.2.1 = 0 := by
  have h1 := (chk_parts h0).2.2
  unfold gatesE at h1
  split at h1
  · rename_i hh
    have hp := List.findIdx_getElem (w := hh)
    rw [getD_in hh] at h1
    rw [h1] at hp
    cases hp
  · rename_i hh
    have hn : c.2.2.1.any (fun g => ckG g c.1 c.2.1 != 0) = false := by
      cases hq : c.2.2.1.any (fun g => ckG g c.1 c.2.1 != 0) with
      | false => rfl
      | true => exact (hh (find_any.2 hq)).elim
    have := List.any_eq_false.1 hn g hg
    simpa using this
theorem ckG_kind {g : Gate} {w b : Int} (h : ckG g w b = 0) : 1 ≤ g.1 ∧ g.1 ≤ 14 := by
  unfold ckG at h
  split at h
  · cases h
  · rename_i h0
    unfold arS at h0
    split at h0
    · omega
    · split at h0
      · omega
      · split at h0
        · assumption
        · exact (h0 rfl).elim
/-- How long a gate is. -/
def lenG (t : Clk) (g : Gate) : Int := t.1.getD (g.1 - 1).toNat 0
def lateG (t : Clk) (g h : Gate) : Int := bif g.1 == 13 && h.2.2.2.1 == IntKind.i64.wrap (g.2.2.1 + 1) then t.2.1 else 0
/-- The gate with a number. -/
def gt (c : Circ) (i : Nat) : Gate := c.2.2.1.getD i (0, [], 0, 0, ())
theorem gt_mem {i : Nat} (hi : i < c.2.2.1.length) : gt c i ∈ c.2.2.1 := by
  unfold gt; rw [getD_in hi]; exact List.getElem_mem hi
theorem Ok.kind (H : Ok t c) {i : Nat} (hi : i < c.2.2.1.length) : 1 ≤ (gt c i).1 ∧ (gt c i).1 ≤ 14 := ckG_kind (chk_gate H.chk (gt_mem hi))
theorem Ok.lenB (H : Ok t c) {i : Nat} (hi : i < c.2.2.1.length) : 1 ≤ lenG t (gt c i) ∧ lenG t (gt c i) ≤ 100 := by
  obtain ⟨k1, k2⟩ := H.kind hi
  unfold lenG
  have hk : ((gt c i).1 - 1).toNat < t.1.length := by rw [H.len14]; omega
  rw [getD_in hk]
  exact H.bnd.1 _ (List.getElem_mem hk)
theorem Ok.wl (H : Ok t c) {i : Nat} (hi : i < c.2.2.1.length) : (gt c i).2.1.length < 4294967296 := Nat.lt_of_le_of_lt (H.sm.2 _ (gt_mem hi)) (by decide)
theorem Ok.lateB (H : Ok t c) {g h : Gate} : 0 ≤ lateG t g h ∧ lateG t g h ≤ 100 := by
  unfold lateG
  cases g.1 == 13 && h.2.2.2.1 == IntKind.i64.wrap (g.2.2.1 + 1) with
  | true => exact H.bnd.2
  | false => exact ⟨by simp, by simp⟩
theorem gt_eq {i : Nat} : c.2.2.1.getD i (0, [], 0, 0, ()) = gt c i := rfl
theorem p_length (H : Ok t c) {i : Nat} (hi : i < c.2.2.1.length) {m : List (List Int × Bool)} : m_sched_plan_length ((c, t.1, t.2.1, m, ()), (i : Int), ()) = some (i1 (lenG t (gt c i))) := by
  obtain ⟨k1, k2⟩ := H.kind hi
  have key : ∀ (C : Cmb) [CmbOk C], M_sched_plan_length C ((c, t.1, t.2.1, m, ()), (i : Int), ()) = some (i1 (lenG t (gt c i))) := by
    intro C _
    unfold M_sched_plan_length
    simp only [ofNat_c, lt_cast, decide_true, decide_false, cond_true, cond_false, inB_cast, grd_real, join_real, Int.toNat_natCast, Option.elim_some, Bool.true_and, Bool.false_or, Bool.or_true, Bool.and_true, Bool.or_false, cond_tf, hi, gt_eq]
    rw [wrap_in (by omega) (by omega), inB_z (by omega) (by omega)]
    rfl
  exact key realC
theorem p_holds (H : Ok t c) {i j : Nat} (hi : i < c.2.2.1.length) (hj : j < c.2.2.1.length) {m : List (List Int × Bool)} : m_sched_plan_holds ((c, t.1, t.2.1, m, ()), (j : Int), (i : Int), ()) = some (b1 (meetB (gt c j) (gt c i))) := by
  have key : ∀ (C : Cmb) [CmbOk C], M_sched_plan_holds C ((c, t.1, t.2.1, m, ()), (j : Int), (i : Int), ()) = some (b1 (meetB (gt c j) (gt c i))) := by
    intro C _
    unfold M_sched_plan_holds
    simp only [ofNat_c, lt_cast, decide_true, decide_false, cond_true, cond_false, inB_cast, grd_real, join_real, Int.toNat_natCast, Option.elim_some, Bool.true_and, Bool.false_or, Bool.or_true, Bool.and_true, Bool.or_false, cond_tf, hi, hj, gt_eq, meet_eq (H.wl hj) (H.wl hi)]
  exact key realC
theorem p_late (H : Ok t c) {i j : Nat} (hi : i < c.2.2.1.length) (hj : j < c.2.2.1.length) {m : List (List Int × Bool)} : m_sched_plan_late ((c, t.1, t.2.1, m, ()), (j : Int), (i : Int), ()) = some (i1 (lateG t (gt c j) (gt c i))) := by
  have key : ∀ (C : Cmb) [CmbOk C], M_sched_plan_late C ((c, t.1, t.2.1, m, ()), (j : Int), (i : Int), ()) = some (i1 (lateG t (gt c j) (gt c i))) := by
    intro C _
    unfold M_sched_plan_late lateG
    simp only [ofNat_c, lt_cast, decide_true, decide_false, cond_true, cond_false, inB_cast, grd_real, join_real, Int.toNat_natCast, Option.elim_some, Bool.true_and, Bool.false_or, Bool.or_true, Bool.and_true, Bool.or_false, cond_tf, hi, hj, gt_eq, reads_eq, show ((13 : Nat) : Int) = 13 from rfl]
    cases (gt c j).1 == 13 with
    | false => rfl
    | true =>
      simp only [cond_true, Bool.true_and]
      cases (gt c i).2.2.2.1 == IntKind.i64.wrap ((gt c j).2.2.1 + 1) <;> rfl
  exact key realC
end Go.Canon
namespace Go.Canon
set_option linter.unusedVariables false
set_option linter.unusedSimpArgs false
open Go
variable {t : Clk} {c : Circ}
/-- Is a pair of wires noisy? -/
def noisyB (t : Clk) (a b : Int) : Bool := t.2.2.1.any fun p => (a == p.getD 0 0 && b == p.getD 1 0) || (a == p.getD 1 0 && b == p.getD 0 0)
theorem pair_eq {a b x y : Int} : ([a, b] == [x, y]) = (a == x && b == y) := by
  rw [Bool.eq_iff_iff]; simp
theorem two_eq {p : List Int} (h : p.length = 2) : p = [p.getD 0 0, p.getD 1 0] := by
  match p, h with
  | [x, y], _ => rfl
theorem at_fold {a b : Int} : ∀ {l : List (List Int)} {m : List (List Int × Bool)}, (∀ p ∈ l, List.length p = 2) → nAt [a, b] (l.foldl nzS m) = (nAt [a, b] m || l.any fun p => (a == p.getD 0 0 && b == p.getD 1 0) || (a == p.getD 1 0 && b == p.getD 0 0))
  | [], m, _ => by simp
  | p :: l, m, h => by
    rw [List.foldl_cons, at_fold (fun q hq => h q (List.mem_cons_of_mem _ hq)), List.any_cons]
    have hp := two_eq (h p List.mem_cons_self)
    have e : nAt [a, b] (nzS m p) = (((a == p.getD 0 0 && b == p.getD 1 0) || (a == p.getD 1 0 && b == p.getD 0 0)) || nAt [a, b] m) := by
      unfold nAt nzS
      rw [at_ins_list, at_ins_list, pair_eq]
      have e2 : ([a, b] == p) = (a == p.getD 0 0 && b == p.getD 1 0) := by
        rw [hp, pair_eq]; rfl
      rw [e2]
      cases (a == p.getD 1 0 && b == p.getD 0 0) <;> cases (a == p.getD 0 0 && b == p.getD 1 0) <;> simp
    rw [e]
    cases nAt [a, b] m <;> cases ((a == p.getD 0 0 && b == p.getD 1 0) || (a == p.getD 1 0 && b == p.getD 0 0)) <;> simp
theorem Ok.noisy (H : Ok t c) {a b : Int} : nAt [a, b] (t.2.2.1.foldl nzS []) = noisyB t a b := by
  rw [at_fold H.two]; rfl
theorem any_congr2 {α : Type} {l : List α} {f g : α → Bool} (h : ∀ x ∈ l, f x = g x) : l.any f = l.any g := by
  induction l with
  | nil => rfl
  | cons x l ih => rw [List.any_cons, List.any_cons, h x List.mem_cons_self, ih fun y hy => h y (List.mem_cons_of_mem _ hy)]
/-- The map of pairs says this of wires. -/
def saysN (m : List (List Int × Bool)) (f : Int → Int → Bool) : Prop := ∀ a b, nAt [a, b] m = f a b
def distM (f : Int → Int → Bool) (g h : Gate) : Bool := !(decide (g.2.1.length < 2) || decide (h.2.1.length < 2) || meetB g h) && g.2.1.any fun a => h.2.1.any fun b => f a b
theorem p_disturb (H : Ok t c) {i j : Nat} (hi : i < c.2.2.1.length) (hj : j < c.2.2.1.length) {m : List (List Int × Bool)} {f : Int → Int → Bool} (hm : saysN m f) : m_sched_plan_disturb ((c, t.1, t.2.1, m, ()), (i : Int), (j : Int), ()) = some (b1 (distM f (gt c i) (gt c j))) := by
  have key : ∀ (C : Cmb) [CmbOk C], M_sched_plan_disturb C ((c, t.1, t.2.1, m, ()), (i : Int), (j : Int), ()) = some (b1 (distM f (gt c i) (gt c j))) := by
    intro C _
    unfold M_sched_plan_disturb distM
    have hwi := H.wl hi
    have hwj := H.wl hj
    simp only [ofNat_c, lt_cast, decide_true, decide_false, cond_true, cond_false, inB_cast, grd_real, join_real, Int.toNat_natCast, Option.elim_some, Bool.true_and, Bool.false_or, Bool.or_true, Bool.and_true, Bool.or_false, cond_tf, hi, hj, gt_eq, meet_eq hwi hwj]
    cases decide ((gt c i).2.1.length < 2) with
    | true => rfl
    | false =>
      cases decide ((gt c j).2.1.length < 2) with
      | true => rfl
      | false =>
        cases meetB (gt c i) (gt c j) with
        | true => rfl
        | false =>
          simp only [cond_false, Bool.or_false, Bool.not_false, Bool.true_and]
          refine (loop_any2 (l := (gt c i).2.1) (p := fun a => (gt c j).2.1.any fun b => f a b) (R := some (b1 true)) (E := some (b1 false)) (n := fuelL) st1 (fuel_big hwi) (fun k hk again => ?_) fun again => ?_).trans ?_
          · simp only [cast0, ofNat_c, lt_cast, decide_true, decide_false, cond_true, cond_false, inB_cast, grd_real, join_real, Int.toNat_natCast, Option.elim_some, Bool.true_and, Bool.false_or, Bool.or_true, Bool.and_true, Bool.or_false, cond_tf, hk, getD_in hk, wrap_nat (show k < 4294967296 by omega)]
            refine (loop_any2 (l := (gt c j).2.1) (p := fun b => f (gt c i).2.1[k] b) (R := some (b1 true)) (E := again (st1 (k + 1))) (n := fuelL) st1 (fuel_big hwj) (fun q hq again2 => ?_) fun again2 => ?_).trans rfl
            · simp only [cast0, ofNat_c, lt_cast, decide_true, decide_false, cond_true, cond_false, inB_cast, grd_real, join_real, Int.toNat_natCast, Option.elim_some, Bool.true_and, Bool.false_or, Bool.or_true, Bool.and_true, Bool.or_false, cond_tf, hq, getD_in hq, wrap_nat (show q < 4294967296 by omega)]
              show (bif nAt [(gt c i).2.1[k], (gt c j).2.1[q]] m then _ else _) = _
              rw [hm]
            · simp only [ofNat_c, lt_cast, decide_true, decide_false, cond_true, cond_false, inB_cast, grd_real, join_real, Int.toNat_natCast, Option.elim_some, Bool.true_and, Bool.false_or, Bool.or_true, Bool.and_true, Bool.or_false, cond_tf, Nat.lt_irrefl]
          · simp only [ofNat_c, lt_cast, decide_true, decide_false, cond_true, cond_false, inB_cast, grd_real, join_real, Int.toNat_natCast, Option.elim_some, Bool.true_and, Bool.false_or, Bool.or_true, Bool.and_true, Bool.or_false, cond_tf, Nat.lt_irrefl]
          · cases (gt c i).2.1.any (fun a => (gt c j).2.1.any fun b => f a b) <;> rfl
  exact key realC
theorem p_on (H : Ok t c) {i : Nat} (hi : i < c.2.2.1.length) {s : Int} (hs : -1000000000 ≤ s ∧ s ≤ 1000000000) {m : List (List Int × Bool)} : m_sched_plan_on ((c, t.1, t.2.1, m, ()), (i : Int), s, ()) = some (((s, s + lenG t (gt c i), ()), ()), ()) := by
  have hb := H.lenB hi
  show (m_sched_plan_length ((c, t.1, t.2.1, m, ()), (i : Int), ())).elim none _ = _
  rw [p_length H hi]
  show some (((s, IntKind.i64.wrap (s + lenG t (gt c i)), ()), ()), ()) = _
  rw [wrap_in (by omega) (by omega)]
/-- Do two spans overlap? -/
def overB (a l b k : Int) : Bool := decide (a < b + k) && decide (b < a + l)
theorem p_over {a l b k : Int} (hl : 1 ≤ l) (hk : 1 ≤ k) : m_sched_span_overlaps ((a, a + l, ()), (b, b + k, ()), ()) = some (b1 (overB a l b k)) := by
  have key : ∀ (C : Cmb) [CmbOk C], M_sched_span_overlaps C ((a, a + l, ()), (b, b + k, ()), ()) = some (b1 (overB a l b k)) := by
    intro C _
    unfold M_sched_span_overlaps overB
    simp only [join_real, beq_dec, ltI]
    by_cases h1 : a = b
    · subst h1
      by_cases h2 : a + l = a + k
      · have : l = k := by omega
        subst this
        rw [decide_eq_true (show a < a + l by omega)]
        simp
      · simp [h2, show a < a + k by omega, show a < a + l by omega]
    · rw [decide_eq_false h1]
      simp only [Bool.false_and]
      cases decide (a < b + k) <;> cases decide (b < a + l) <;> rfl
  exact key realC
end Go.Canon
namespace Go.Canon
set_option linter.unusedVariables false
set_option linter.unusedSimpArgs false
open Go
variable {t : Clk} {c : Circ}
theorem any_swap {α β : Type} {l : List α} {m : List β} {f : α → β → Bool} : (l.any fun a => m.any fun b => f a b) = m.any fun b => l.any fun a => f a b := by
  rw [Bool.eq_iff_iff]
  simp only [List.any_eq_true]
  exact ⟨fun ⟨a, h1, b, h2, h3⟩ => ⟨b, h2, a, h1, h3⟩, fun ⟨b, h1, a, h2, h3⟩ => ⟨a, h2, b, h1, h3⟩⟩
end Go.Canon
namespace Go.Canon
set_option linter.unusedVariables false
set_option linter.unusedSimpArgs false
open Go
variable {t : Clk} {c : Circ}
/-- The greatest of some numbers; 0 if there is none. -/
def maxS : List Int → Int
  | [] => 0
  | x :: l => l.foldl mx2 x
theorem max_loop {x : Int} {l : List Int} (hl : l.length < 4294967290) : m_slices_Max (x :: l, ()) = some (i1 (l.foldl mx2 x)) := by
  have key : ∀ (C : Cmb) [CmbOk C], M_slices_Max C (x :: l, ()) = some (i1 (l.foldl mx2 x)) := by
    intro C _
    unfold M_slices_Max
    dsimp only
    rw [show ltI (Int.ofNat (x :: l).length) (Int.ofNat 1) = false from decide_eq_false (by simp; omega), cond_false, grd_real, show inB (Int.ofNat 0) (x :: l).length = true from inB_in (by simp), cond_true]
    refine (loop_fold (l := l) (f := mx2) (c := x) (E := fun m => some (i1 m)) (n := fuelL) (fun k m => ((m, ((k + 1 : Nat) : Int), ()), ())) (fuel_big (by omega)) (fun k hk again => ?_) fun again => ?_)
    · have h2 : k + 1 < (x :: l).length := by simp; omega
      simp only [ofNat_c, lt_cast, decide_true, decide_false, cond_true, cond_false, inB_cast, grd_real, join_real, Int.toNat_natCast, Option.elim_some, Bool.true_and, Bool.false_or, Bool.or_true, Bool.and_true, Bool.or_false, cond_tf, h2, getD_in h2, List.getElem_cons_succ, wrap_nat (show k + 1 < 4294967296 by omega)]
      rfl
    · simp only [ofNat_c, lt_cast, decide_true, decide_false, cond_true, cond_false, inB_cast, grd_real, join_real, Int.toNat_natCast, Option.elim_some, Bool.true_and, Bool.false_or, Bool.or_true, Bool.and_true, Bool.or_false, cond_tf, List.length_cons, Nat.lt_irrefl]
  exact key realC
theorem greatest_eq {l : List Int} (hl : l.length < 4294967290) : m_sched_greatest (l, ()) = some (i1 (maxS l)) := by
  cases l with
  | nil => rfl
  | cons x l =>
    show (bif Int.ofNat (x :: l).length == Int.ofNat 0 then some ((Int.ofNat 0, ()), ()) else (m_slices_Max (x :: l, ())).elim none fun v => some ((v.1.1, ()), ())) = _
    rw [show (Int.ofNat (x :: l).length == Int.ofNat 0) = false from by rw [beq_dec]; exact decide_eq_false (by simp; omega), cond_false, max_loop (by simp at hl; omega)]
    rfl
/-- The least time after those that hold a gate. -/
def aftStep (t : Clk) (c : Circ) (i : Nat) (starts : List Int) (m : Int) (j : Nat) : Int := bif meetB (gt c j) (gt c i) then mx2 m (starts.getD j 0 + lenG t (gt c j) + lateG t (gt c j) (gt c i)) else m
def aftP (t : Clk) (c : Circ) (i : Nat) (starts : List Int) : Int := (List.range i).foldl (aftStep t c i starts) 0
/-- Starts that are not too great. -/
def Bnd (B : Int) (l : List Int) : Prop := ∀ x ∈ l, -B ≤ x ∧ x ≤ B
theorem p_after (H : Ok t c) {i : Nat} (hi : i < c.2.2.1.length) {starts : List Int} (hs : i ≤ starts.length) (hb : Bnd 1000000 starts) {m : List (List Int × Bool)} : m_sched_plan_after ((c, t.1, t.2.1, m, ()), (i : Int), starts, ()) = some (i1 (aftP t c i starts)) := by
  have key : ∀ (C : Cmb) [CmbOk C], M_sched_plan_after C ((c, t.1, t.2.1, m, ()), (i : Int), starts, ()) = some (i1 (aftP t c i starts)) := by
    intro C _
    unfold M_sched_plan_after aftP
    dsimp only
    have hn := H.n120
    refine (loop_fold (l := List.range i) (f := aftStep t c i starts) (c := 0) (E := fun m => some (i1 m)) (n := fuelL) (fun k m => (((k : Int), ()), (m, ()), ())) (fuel_big (by rw [List.length_range]; omega)) (fun k hk again => ?_) fun again => ?_)
    · rw [List.length_range] at hk
      generalize (List.take k (List.range i)).foldl (aftStep t c i starts) 0 = acc
      have hj : k < c.2.2.1.length := by omega
      have hks : k < starts.length := by omega
      have hlb := H.lenB hj
      have hla := H.lateB (g := gt c k) (h := gt c i)
      have hsk := hb _ (List.getElem_mem hks)
      simp only [ofNat_c, lt_cast, decide_true, decide_false, cond_true, cond_false, inB_cast, grd_real, join_real, Int.toNat_natCast, Option.elim_some, Bool.true_and, Bool.false_or, Bool.or_true, Bool.and_true, Bool.or_false, cond_tf, hk, p_holds H hi hj, List.getElem_range, aftStep]
      cases meetB (gt c k) (gt c i) with
      | false => simp only [cond_false, wrap_nat (show k < 4294967296 by omega)]
      | true =>
        simp only [cond_true, hks, decide_true, p_length H hj, p_late H hi hj, Option.elim_some, getD_in hks]
        rw [wrap_in (a := starts[k] + lenG t (gt c k)) (by omega) (by omega), wrap_in (a := starts[k] + lenG t (gt c k) + lateG t (gt c k) (gt c i)) (by omega) (by omega), greatest_eq (by simp), wrap_nat (show k < 4294967296 by omega)]
        rfl
    · simp only [ofNat_c, lt_cast, decide_true, decide_false, cond_true, cond_false, inB_cast, grd_real, join_real, Int.toNat_natCast, Option.elim_some, Bool.true_and, Bool.false_or, Bool.or_true, Bool.and_true, Bool.or_false, cond_tf, List.length_range, Nat.lt_irrefl]
  exact key realC
end Go.Canon
namespace Go.Canon
set_option linter.unusedVariables false
set_option linter.unusedSimpArgs false
open Go
variable {t : Clk} {c : Circ}
def uptoS (a b : Nat) : List Int := (List.range (b - a)).map fun k => ((a + k : Nat) : Int)
theorem room_ok {n s : Nat} (hn : n ≤ 1000000) (hs : s ≤ 1000) : leN (n * s) roomB = true := by
  unfold leN roomB
  exact decide_eq_true (Nat.le_trans (Nat.mul_le_mul hn hs) (by decide))
theorem upto_eq {a b : Nat} (h : a ≤ b) (hb : b ≤ 100000) : m_sched_upto ((a : Int), (b : Int), ()) = some (((), ()), (uptoS a b, ()), ()) := by
  have key : ∀ (C : Cmb) [CmbOk C], M_sched_upto C ((a : Int), (b : Int), ()) = some (((), ()), (uptoS a b, ()), ()) := by
    intro C _
    unfold M_sched_upto
    dsimp only
    have e0 : (((), (a : Int), ()), (([] : List Int), ()), ()) = (fun k : Nat => ((((), ((a + k : Nat) : Int), ()), (uptoS a (a + k), ()), ()) : (Unit × Int × Unit) × (List Int × Unit) × Unit)) 0 := by
      simp [uptoS]
    rw [e0]
    refine (loop_run (C := C) (fun k : Nat => ((((), ((a + k : Nat) : Int), ()), (uptoS a (a + k), ()), ()) : (Unit × Int × Unit) × (List Int × Unit) × Unit)) (b - a) fuelL (fuel_big (by omega)) (fun k hk again => ?_) fun again => ?_)
    · have h2 : a + k < b := by omega
      have hl : (uptoS a (a + k)).length = k := by simp [uptoS]
      have e : uptoS a (a + (k + 1)) = uptoS a (a + k) ++ [((a + k : Nat) : Int)] := by
        unfold uptoS
        rw [show a + (k + 1) - a = k + 1 by omega, show a + k - a = k by omega, List.range_succ, List.map_append]
        rfl
      rw [e]
      simp only [ofNat_c, lt_cast, decide_true, decide_false, cond_true, cond_false, inB_cast, grd_real, join_real, Int.toNat_natCast, Option.elim_some, Bool.true_and, Bool.false_or, Bool.or_true, Bool.and_true, Bool.or_false, cond_tf, h2, hl, List.length_singleton, wrap_nat (show a + k < 4294967296 by omega)]
      rw [room_ok (by omega) (by decide)]
      rfl
    · rw [show a + (b - a) = b by omega]
      simp only [ofNat_c, lt_cast, decide_true, decide_false, cond_true, cond_false, inB_cast, grd_real, join_real, Int.toNat_natCast, Option.elim_some, Bool.true_and, Bool.false_or, Bool.or_true, Bool.and_true, Bool.or_false, cond_tf, Nat.lt_irrefl]
  exact key realC
end Go.Canon
namespace Go.Canon
set_option linter.unusedVariables false
set_option linter.unusedSimpArgs false
open Go
variable {t : Clk} {c : Circ}
/-- A gate that begins at x disturbs another one. -/
def hitB (t : Clk) (c : Circ) (f : Int → Int → Bool) (i : Nat) (starts : List Int) (x : Int) (j : Nat) : Bool := distM f (gt c i) (gt c j) && overB x (lenG t (gt c i)) (starts.getD j 0) (lenG t (gt c j))
/-- How many ends lie behind x. -/
def endsB (t : Clk) (c : Circ) (starts : List Int) (i : Nat) (x : Int) : Nat := ((List.range i).filter fun j => decide (x < starts.getD j 0 + lenG t (gt c j))).length
theorem ends_lt {starts : List Int} {i : Nat} {x y : Int} {j : Nat} (hj : j < i) (hy : y = starts.getD j 0 + lenG t (gt c j)) (hxy : x < y) : endsB t c starts i y < endsB t c starts i x := by
  unfold endsB
  have h1 : ∀ (l : List Nat), ((l.filter fun j => decide (y < starts.getD j 0 + lenG t (gt c j))).length ≤ (l.filter fun j => decide (x < starts.getD j 0 + lenG t (gt c j))).length) ∧ (j ∈ l → (l.filter fun j => decide (y < starts.getD j 0 + lenG t (gt c j))).length < (l.filter fun j => decide (x < starts.getD j 0 + lenG t (gt c j))).length) := by
    intro l
    induction l with
    | nil => exact ⟨Nat.le_refl _, fun h => by cases h⟩
    | cons a l ih =>
      simp only [List.filter_cons]
      by_cases ha : y < starts.getD a 0 + lenG t (gt c a)
      · have hx : x < starts.getD a 0 + lenG t (gt c a) := by omega
        simp only [decide_eq_true ha, decide_eq_true hx, if_true, List.length_cons]
        refine ⟨by omega, fun hm => ?_⟩
        rcases List.mem_cons.1 hm with rfl | hm
        · omega
        · have := ih.2 hm; omega
      · simp only [decide_eq_false ha, Bool.false_eq_true, if_false]
        by_cases hx : x < starts.getD a 0 + lenG t (gt c a)
        · simp only [decide_eq_true hx, if_true, List.length_cons]
          exact ⟨by omega, fun _ => by omega⟩
        · simp only [decide_eq_false hx, Bool.false_eq_true, if_false]
          refine ⟨ih.1, fun hm => ?_⟩
          rcases List.mem_cons.1 hm with rfl | hm
          · omega
          · exact ih.2 hm
  exact (h1 _).2 (List.mem_range.2 hj)
theorem upto_get {i k : Nat} (hk : k < i) : (uptoS 0 i).getD k 0 = (k : Int) := by
  have : k < (uptoS 0 i).length := by simp [uptoS]; exact hk
  rw [getD_in this]; simp [uptoS]
theorem upto_len {i : Nat} : (uptoS 0 i).length = i := by simp [uptoS]
/-- The least time from x on at which nothing is disturbed. -/
structure FreeS (t : Clk) (c : Circ) (f : Int → Int → Bool) (i : Nat) (starts : List Int) (x r : Int) : Prop where
  ge : x ≤ r
  no : ∀ j, j < i → hitB t c f i starts r j = false
  le : ∀ y, x ≤ y → (∀ j, j < i → hitB t c f i starts y j = false) → r ≤ y
theorem p_free (H : Ok t c) {i : Nat} (hi : i < c.2.2.1.length) {starts : List Int} (hs : i ≤ starts.length) (hb : Bnd 1000000 starts) {m : List (List Int × Bool)} {f : Int → Int → Bool} (hm : saysN m f) {x0 : Int} (hx : -2000000 ≤ x0 ∧ x0 ≤ 2000000) :
    ∃ r, (FreeS t c f i starts x0 r ∧ r ≤ 2000000) ∧ m_sched_plan_free ((c, t.1, t.2.1, m, ()), (i : Int), x0, uptoS 0 i, starts, ()) = some (i1 r) := by
  have key : ∀ (C : Cmb) [CmbOk C], ∃ r : (Int × Unit) × Unit, (FreeS t c f i starts x0 r.1.1 ∧ r.1.1 ≤ 2000000) ∧ M_sched_plan_free C ((c, t.1, t.2.1, m, ()), (i : Int), x0, uptoS 0 i, starts, ()) = some r := by
    intro C _
    unfold M_sched_plan_free
    dsimp only
    have hn := H.n120
    have hli := H.lenB hi
    refine loop_ex (fun x : (Int × Unit) × Unit => -2000000 ≤ x.1.1 ∧ x.1.1 ≤ 2000000) (fun x => endsB t c starts i x.1.1) (fun x (r : (Int × Unit) × Unit) => FreeS t c f i starts x.1.1 r.1.1 ∧ r.1.1 ≤ 2000000) (fun x hI => ?_) fuelL ((x0, ()), ()) hx (fuel_big (Nat.lt_of_le_of_lt (List.length_filter_le _ _) (by rw [List.length_range]; omega)))
    obtain ⟨⟨x, u⟩, u2⟩ := x
    have hI : -2000000 ≤ x ∧ x ≤ 2000000 := hI
    have hr : (List.range i).length = i := List.length_range
    generalize hfi : (List.range i).findIdx (hitB t c f i starts x) = j0
    by_cases hf : j0 < i
    · have hp : hitB t c f i starts x j0 = true := by
        have := List.findIdx_getElem (p := hitB t c f i starts x) (xs := List.range i) (w := by rw [hfi, hr]; exact hf)
        rw [List.getElem_range, hfi] at this
        exact this
      have hks : j0 < starts.length := by omega
      have hsk := hb _ (List.getElem_mem hks)
      have hlk := H.lenB (show j0 < c.2.2.1.length by omega)
      have hov : x < starts.getD j0 0 + lenG t (gt c j0) ∧ starts.getD j0 0 < x + lenG t (gt c i) ∧ distM f (gt c i) (gt c j0) = true := by
        simp only [hitB, overB, Bool.and_eq_true, decide_eq_true_eq] at hp
        exact ⟨hp.2.1, hp.2.2, hp.1⟩
      refine .inr ⟨((starts.getD j0 0 + lenG t (gt c j0), ()), ()), ⟨?_, ?_⟩, ends_lt hf rfl hov.1, fun r hr => ⟨⟨Int.le_trans (Int.le_of_lt hov.1) hr.1.ge, hr.1.no, fun y hy hno => hr.1.le y ?_ hno⟩, hr.2⟩, fun again => ?_⟩
      · show -2000000 ≤ starts.getD j0 0 + lenG t (gt c j0)
        omega
      · show starts.getD j0 0 + lenG t (gt c j0) ≤ 2000000
        rw [getD_in hks]; omega
      · show starts.getD j0 0 + lenG t (gt c j0) ≤ y
        have := hno j0 hf
        have hy : x ≤ y := hy
        simp only [hitB, hov.2.2, Bool.true_and, overB, Bool.and_eq_false_iff, decide_eq_false_iff_not] at this
        omega
      refine (loop_find2 (C := C) (l := List.range i) (p := hitB t c f i starts x) (R := fun k => again (((starts.getD k 0 + lenG t (gt c k)), ()), ())) (E := some ((x, ()), ())) (n := fuelL) (fun k => ((x, (k : Int), ()), ())) (fuel_big (by rw [List.length_range]; omega)) (fun k hk again2 => ?_) fun again2 => ?_).trans ?_
      · rw [List.length_range] at hk
        have hj : k < c.2.2.1.length := by omega
        have hks : k < starts.length := by omega
        have hsk := hb _ (List.getElem_mem hks)
        have hlk := H.lenB hj
        simp only [ofNat_c, lt_cast, decide_true, decide_false, cond_true, cond_false, inB_cast, grd_real, join_real, Int.toNat_natCast, Option.elim_some, Bool.true_and, Bool.false_or, Bool.or_true, Bool.and_true, Bool.or_false, cond_tf, upto_len, hk, upto_get hk, hks, List.getElem_range, p_disturb H hi hj hm, getD_in hks, p_on H hj (show -1000000000 ≤ starts[k] ∧ starts[k] ≤ 1000000000 by omega), p_on H hi (show -1000000000 ≤ x ∧ x ≤ 1000000000 by omega), p_over hli.1 hlk.1, hitB, wrap_nat (show k < 4294967296 by omega)]
        cases distM f (gt c i) (gt c k) <;> rfl
      · simp only [ofNat_c, lt_cast, decide_true, decide_false, cond_true, cond_false, inB_cast, grd_real, join_real, Int.toNat_natCast, Option.elim_some, Bool.true_and, Bool.false_or, Bool.or_true, Bool.and_true, Bool.or_false, cond_tf, upto_len, List.length_range, Nat.lt_irrefl]
      · rw [hfi, hr, if_pos hf]
    · refine .inl ⟨((x, ()), ()), ⟨⟨Int.le_refl _, fun j hj => ?_, fun y hy _ => hy⟩, hI.2⟩, fun again => ?_⟩
      · have hn2 : ¬ ((List.range i).any (hitB t c f i starts x) = true) := fun h => hf (by have := find_any.2 h; rw [hfi, hr] at this; exact this)
        have := List.any_eq_false.1 (Bool.eq_false_iff.2 hn2) j (List.mem_range.2 hj)
        exact Bool.eq_false_iff.2 this
      refine (loop_find2 (C := C) (l := List.range i) (p := hitB t c f i starts x) (R := fun k => again (((starts.getD k 0 + lenG t (gt c k)), ()), ())) (E := some ((x, ()), ())) (n := fuelL) (fun k => ((x, (k : Int), ()), ())) (fuel_big (by rw [List.length_range]; omega)) (fun k hk again2 => ?_) fun again2 => ?_).trans ?_
      · rw [List.length_range] at hk
        have hj : k < c.2.2.1.length := by omega
        have hks : k < starts.length := by omega
        have hsk := hb _ (List.getElem_mem hks)
        have hlk := H.lenB hj
        simp only [ofNat_c, lt_cast, decide_true, decide_false, cond_true, cond_false, inB_cast, grd_real, join_real, Int.toNat_natCast, Option.elim_some, Bool.true_and, Bool.false_or, Bool.or_true, Bool.and_true, Bool.or_false, cond_tf, upto_len, hk, upto_get hk, hks, List.getElem_range, p_disturb H hi hj hm, getD_in hks, p_on H hj (show -1000000000 ≤ starts[k] ∧ starts[k] ≤ 1000000000 by omega), p_on H hi (show -1000000000 ≤ x ∧ x ≤ 1000000000 by omega), p_over hli.1 hlk.1, hitB, wrap_nat (show k < 4294967296 by omega)]
        cases distM f (gt c i) (gt c k) <;> rfl
      · simp only [ofNat_c, lt_cast, decide_true, decide_false, cond_true, cond_false, inB_cast, grd_real, join_real, Int.toNat_natCast, Option.elim_some, Bool.true_and, Bool.false_or, Bool.or_true, Bool.and_true, Bool.or_false, cond_tf, upto_len, List.length_range, Nat.lt_irrefl]
      · rw [hfi, hr, if_neg hf]
  obtain ⟨r, h1, h2⟩ := key realC
  exact ⟨r.1.1, h1, h2⟩
end Go.Canon
namespace Go.Canon
set_option linter.unusedVariables false
set_option linter.unusedSimpArgs false
open Go
variable {t : Clk} {c : Circ}
theorem foldl_congr2 {α β : Type} {f g : β → α → β} : ∀ {l : List α} {b : β}, (∀ x ∈ l, ∀ b, f b x = g b x) → l.foldl f b = l.foldl g b
  | [], b, _ => rfl
  | x :: l, b, h => by
    rw [List.foldl_cons, List.foldl_cons, h x List.mem_cons_self]
    exact foldl_congr2 fun y hy => h y (List.mem_cons_of_mem _ hy)
/-- Only the starts before a gate matter. -/
def Same1 (i : Nat) (a b : List Int) : Prop := ∀ j, j < i → a.getD j 0 = b.getD j 0
theorem aft_same {i : Nat} {a b : List Int} (h : Same1 i a b) : aftP t c i a = aftP t c i b := by
  unfold aftP
  refine foldl_congr2 fun j hj m => ?_
  unfold aftStep
  rw [h j (List.mem_range.1 hj)]
theorem hit_same {i : Nat} {a b : List Int} (h : Same1 i a b) {f : Int → Int → Bool} {x : Int} {j : Nat} (hj : j < i) : hitB t c f i a x j = hitB t c f i b x j := by
  unfold hitB; rw [h j hj]
theorem free_same {i : Nat} {a b : List Int} (h : Same1 i a b) {f : Int → Int → Bool} {x r : Int} (H : FreeS t c f i a x r) : FreeS t c f i b x r :=
  ⟨H.ge, fun j hj => by rw [← hit_same h hj]; exact H.no j hj, fun y hy hn => H.le y hy fun j hj => by rw [hit_same h hj]; exact hn j hj⟩
/-- Early starts. -/
def EarlyS (t : Clk) (c : Circ) (f : Int → Int → Bool) (l : List Int) : Prop := ∀ i, i < l.length → FreeS t c f i l (aftP t c i l) (l.getD i 0)
theorem fold_bound {i : Nat} {starts : List Int} {B : Int} (hB : 0 ≤ B) (h : ∀ j, j < i → starts.getD j 0 + lenG t (gt c j) + lateG t (gt c j) (gt c i) ≤ B) : 0 ≤ aftP t c i starts ∧ aftP t c i starts ≤ B := by
  unfold aftP
  have key : ∀ (l : List Nat) (m : Int), (∀ j ∈ l, j < i) → 0 ≤ m → m ≤ B → 0 ≤ l.foldl (aftStep t c i starts) m ∧ l.foldl (aftStep t c i starts) m ≤ B := by
    intro l
    induction l with
    | nil => intro m _ h1 h2; exact ⟨h1, h2⟩
    | cons j l ih =>
      intro m hl h1 h2
      rw [List.foldl_cons]
      have hj := h j (hl j List.mem_cons_self)
      refine ih _ (fun q hq => hl q (List.mem_cons_of_mem _ hq)) ?_ ?_
      · unfold aftStep mx2
        cases meetB (gt c j) (gt c i) with
        | false => exact h1
        | true => simp only [cond_true]; split <;> omega
      · unfold aftStep mx2
        cases meetB (gt c j) (gt c i) with
        | false => exact h2
        | true => simp only [cond_true]; split <;> omega
  exact key _ 0 (fun j hj => List.mem_range.1 hj) (Int.le_refl _) hB
theorem free_bound (H : Ok t c) {i : Nat} (hi : i ≤ c.2.2.1.length) {starts : List Int} {f : Int → Int → Bool} {x r B : Int} (hf : FreeS t c f i starts x r) (hx : x ≤ B) (h : ∀ j, j < i → starts.getD j 0 + lenG t (gt c j) ≤ B) : r ≤ B := by
  refine hf.le B hx fun j hj => ?_
  have := h j hj
  unfold hitB overB
  rw [decide_eq_false (show ¬ B < starts.getD j 0 + lenG t (gt c j) by omega)]
  simp
theorem same_app {i : Nat} {l : List Int} {x : Int} (hi : i ≤ l.length) : Same1 i l (l ++ [x]) := fun j hj => by
  rw [List.getD_eq_getElem?_getD, List.getD_eq_getElem?_getD, List.getElem?_append_left (by omega)]
theorem getD_last {l : List Int} {x : Int} : (l ++ [x]).getD l.length 0 = x := by
  rw [List.getD_eq_getElem?_getD, List.getElem?_append_right (Nat.le_refl _)]; simp
/-- Starts so far. -/
structure Soon (t : Clk) (c : Circ) (f : Int → Int → Bool) (l : List Int) : Prop where
  le : l.length ≤ c.2.2.1.length
  is : EarlyS t c f l
  bd : ∀ j, j < l.length → 0 ≤ l.getD j 0 ∧ l.getD j 0 ≤ 300 * (j : Int)
theorem Soon.bnd {f : Int → Int → Bool} {l : List Int} (S : Soon t c f l) (H : Ok t c) : Bnd 1000000 l := fun x hx => by
  obtain ⟨j, hj, rfl⟩ := List.getElem_of_mem hx
  have := S.bd j hj
  rw [getD_in hj] at this
  have := H.n120
  have := S.le
  omega
theorem p_early (H : Ok t c) {m : List (List Int × Bool)} {f : Int → Int → Bool} (hm : saysN m f) :
    ∃ l, (Soon t c f l ∧ l.length = c.2.2.1.length) ∧ m_sched_plan_early ((c, t.1, t.2.1, m, ()), ()) = some (((), ()), (l, ()), ()) := by
  have key : ∀ (C : Cmb) [CmbOk C], ∃ r : (Unit × Unit) × (List Int × Unit) × Unit, (Soon t c f r.2.1.1 ∧ r.2.1.1.length = c.2.2.1.length) ∧ M_sched_plan_early C ((c, t.1, t.2.1, m, ()), ()) = some r := by
    intro C _
    unfold M_sched_plan_early
    dsimp only
    have hn := H.n120
    refine loop_ex (fun x : (Unit × Int × Unit) × (List Int × Unit) × Unit => Soon t c f x.2.1.1 ∧ x.1.2.1 = (x.2.1.1.length : Int)) (fun x => c.2.2.1.length - x.2.1.1.length) (fun x (r : (Unit × Unit) × (List Int × Unit) × Unit) => Soon t c f r.2.1.1 ∧ r.2.1.1.length = c.2.2.1.length) (fun x hI => ?_) fuelL (((), ((0 : Nat) : Int), ()), ([], ()), ()) ⟨⟨Nat.zero_le _, fun i hi => (by cases hi), fun j hj => (by cases hj)⟩, rfl⟩ (fuel_big (by omega))
    obtain ⟨⟨u1, z, u2⟩, ⟨l, u3⟩, u4⟩ := x
    obtain ⟨S, hz⟩ := hI
    have hz : z = (l.length : Int) := hz
    subst hz
    have S : Soon t c f l := S
    by_cases hlt : l.length < c.2.2.1.length
    · have hfb := fold_bound (t := t) (c := c) (i := l.length) (starts := l) (B := 300 * (l.length : Int)) (by omega) fun j hj => by
        have h1 := S.bd j hj
        have h2 := H.lenB (show j < c.2.2.1.length by omega)
        have h3 := H.lateB (g := gt c j) (h := gt c l.length)
        omega
      obtain ⟨r, ⟨hr, _⟩, he⟩ := p_free H hlt (Nat.le_refl _) (S.bnd H) hm (x0 := aftP t c l.length l) (by omega)
      have hrb : r ≤ 300 * (l.length : Int) := free_bound H (Nat.le_of_lt hlt) hr hfb.2 fun j hj => by
        have h1 := S.bd j hj
        have h2 := H.lenB (show j < c.2.2.1.length by omega)
        omega
      have hrg := hr.ge
      refine .inr ⟨(((), ((l.length + 1 : Nat) : Int), ()), (l ++ [r], ()), ()), ⟨⟨?_, fun i hi => ?_, fun j hj => ?_⟩, ?_⟩, ?_, fun _ h => h, fun again => ?_⟩
      · show (l ++ [r]).length ≤ _
        simp; omega
      · have hi : i < (l ++ [r]).length := hi
        show FreeS t c f i (l ++ [r]) (aftP t c i (l ++ [r])) ((l ++ [r]).getD i 0)
        by_cases hil : i < l.length
        · have sm := same_app (x := r) (Nat.le_of_lt hil)
          rw [← aft_same sm, ← same_app (x := r) (Nat.le_refl l.length) i hil]
          exact free_same sm (S.is i hil)
        · have : i = l.length := by simp at hi; omega
          subst this
          have sm := same_app (x := r) (Nat.le_refl l.length)
          rw [← aft_same sm, getD_last]
          exact free_same sm hr
      · have hj : j < (l ++ [r]).length := hj
        show 0 ≤ (l ++ [r]).getD j 0 ∧ (l ++ [r]).getD j 0 ≤ _
        by_cases hil : j < l.length
        · rw [← same_app (x := r) (Nat.le_refl l.length) j hil]; exact S.bd j hil
        · have : j = l.length := by simp at hj; omega
          subst this
          rw [getD_last]; omega
      · show ((l.length + 1 : Nat) : Int) = ((l ++ [r]).length : Int)
        simp
      · show c.2.2.1.length - (l ++ [r]).length < c.2.2.1.length - l.length
        simp; omega
      · have hu : m_sched_upto (((0 : Nat) : Int), (l.length : Int), ()) = some (((), ()), (uptoS 0 l.length, ()), ()) := upto_eq (Nat.zero_le _) (by omega)
        simp only [ofNat_c, lt_cast, decide_true, decide_false, cond_true, cond_false, inB_cast, grd_real, join_real, Int.toNat_natCast, Option.elim_some, Bool.true_and, Bool.false_or, Bool.or_true, Bool.and_true, Bool.or_false, cond_tf, hlt, p_after H hlt (Nat.le_refl _) (S.bnd H), hu, he, List.length_singleton, wrap_nat (show l.length < 4294967296 by omega)]
        rw [room_ok (by omega) (by decide)]
        rfl
    · have hl : l.length = c.2.2.1.length := by have := S.le; omega
      refine .inl ⟨(((), ()), (l, ()), ()), ⟨S, hl⟩, fun again => ?_⟩
      rw [hl]
      simp only [ofNat_c, lt_cast, decide_true, decide_false, cond_true, cond_false, inB_cast, grd_real, join_real, Int.toNat_natCast, Option.elim_some, Bool.true_and, Bool.false_or, Bool.or_true, Bool.and_true, Bool.or_false, cond_tf, Nat.lt_irrefl]
  obtain ⟨r, h1, h2⟩ := key realC
  exact ⟨r.2.1.1, h1, h2⟩
end Go.Canon
namespace Go.Canon
set_option linter.unusedVariables false
set_option linter.unusedSimpArgs false
open Go
variable {t : Clk} {c : Circ}
end Go.Canon
namespace Go.Canon
set_option linter.unusedVariables false
set_option linter.unusedSimpArgs false
open Go
variable {t : Clk} {c : Circ}
theorem touch_symm {g h : Gate} : touchB g h = touchB h g := by
  unfold touchB
  rw [BEq.comm (a := h.2.2.1) (b := g.2.2.1)]
  cases g.1 == 13 <;> cases h.1 == 13 <;> cases h.2.2.2.1 == IntKind.i64.wrap (g.2.2.1 + 1) <;> cases g.2.2.1 == h.2.2.1 <;> cases g.2.2.2.1 == IntKind.i64.wrap (h.2.2.1 + 1) <;> rfl
theorem any_contains {a b : List Int} : (a.any fun w => b.contains w) = b.any fun w => a.contains w := by
  rw [Bool.eq_iff_iff]
  simp only [List.any_eq_true, List.contains_eq_mem, decide_eq_true_eq]
  exact ⟨fun ⟨x, h1, h2⟩ => ⟨x, h2, h1⟩, fun ⟨x, h1, h2⟩ => ⟨x, h2, h1⟩⟩
theorem meet_symm {g h : Gate} : meetB g h = meetB h g := by
  unfold meetB; rw [any_contains, touch_symm]
theorem dist_symm {f : Int → Int → Bool} (hf : ∀ a b, f a b = f b a) {g h : Gate} : distM f g h = distM f h g := by
  unfold distM
  rw [meet_symm, any_swap]
  have e : (fun b => g.2.1.any fun a => f a b) = fun b => g.2.1.any fun a => f b a := by
    funext b; congr 1; funext a; exact hf a b
  rw [e]
  cases decide (g.2.1.length < 2) <;> cases decide (h.2.1.length < 2) <;> rfl
theorem noisy_symm {a b : Int} : noisyB t a b = noisyB t b a := by
  unfold noisyB
  refine any_congr2 fun p _ => ?_
  cases a == p.getD 0 0 <;> cases b == p.getD 1 0 <;> cases a == p.getD 1 0 <;> cases b == p.getD 0 0 <;> rfl
end Go.Canon
namespace Go.Canon
set_option linter.unusedVariables false
set_option linter.unusedSimpArgs false
open Go
variable {t : Clk} {c : Circ}
end Go.Canon
namespace Go.Canon
set_option linter.unusedVariables false
set_option linter.unusedSimpArgs false
open Go
variable {t : Clk} {c : Circ}
theorem aft_le {i : Nat} {starts : List Int} {y : Int} : aftP t c i starts ≤ y ↔ 0 ≤ y ∧ ∀ j, j < i → meetB (gt c j) (gt c i) = true → starts.getD j 0 + (lenG t (gt c j) + lateG t (gt c j) (gt c i)) ≤ y := by
  have key : ∀ (l : List Nat) (m : Int), l.foldl (aftStep t c i starts) m ≤ y ↔ m ≤ y ∧ ∀ j ∈ l, meetB (gt c j) (gt c i) = true → starts.getD j 0 + (lenG t (gt c j) + lateG t (gt c j) (gt c i)) ≤ y := by
    intro l
    induction l with
    | nil => intro m; simp
    | cons a l ih =>
      intro m
      rw [List.foldl_cons, ih]
      unfold aftStep mx2
      constructor
      · rintro ⟨h1, h2⟩
        cases hm : meetB (gt c a) (gt c i) with
        | false =>
          rw [hm, cond_false] at h1
          refine ⟨h1, fun j hj hmj => ?_⟩
          rcases List.mem_cons.1 hj with rfl | hj
          · rw [hm] at hmj; cases hmj
          · exact h2 j hj hmj
        | true =>
          rw [hm, cond_true] at h1
          have h3 : m ≤ y ∧ starts.getD a 0 + lenG t (gt c a) + lateG t (gt c a) (gt c i) ≤ y := by
            split at h1 <;> omega
          refine ⟨h3.1, fun j hj hmj => ?_⟩
          rcases List.mem_cons.1 hj with rfl | hj
          · omega
          · exact h2 j hj hmj
      · rintro ⟨h1, h2⟩
        refine ⟨?_, fun j hj => h2 j (List.mem_cons_of_mem _ hj)⟩
        cases hm : meetB (gt c a) (gt c i) with
        | false => exact h1
        | true =>
          have := h2 a List.mem_cons_self hm
          rw [cond_true]
          split <;> omega
  unfold aftP
  rw [key]
  simp only [List.mem_range]
end Go.Canon
namespace Go.Canon
set_option linter.unusedVariables false
set_option linter.unusedSimpArgs false
open Go
variable {t : Clk} {c : Circ}
theorem Ok.says (H : Ok t c) : saysN (t.2.2.1.foldl nzS []) (noisyB t) := fun a b => H.noisy
end Go.Canon
namespace Go.Canon
set_option linter.unusedVariables false
set_option linter.unusedSimpArgs false
open Go
variable {t : Clk} {c : Circ}
theorem clone_eq {l : List Int} (h : l.length ≤ 1000000) : m_slices_Clone (l, ()) = some (((), ()), (l, ()), ()) := by
  show (bif leN (l.length * 8) roomB then some (((), ()), (l, ()), ()) else none) = _
  rw [room_ok h (by decide)]; rfl
end Go.Canon
namespace Go.Canon
set_option linter.unusedVariables false
set_option linter.unusedSimpArgs false
open Go
variable {t : Clk} {c : Circ}
end Go.Canon
namespace Go.Canon
set_option linter.unusedVariables false
set_option linter.unusedSimpArgs false
open Go
variable {t : Clk} {c : Circ}
end Go.Canon
namespace Go.Canon
set_option linter.unusedVariables false
set_option linter.unusedSimpArgs false
open Go
variable {t : Clk} {c : Circ}
end Go.Canon
namespace Go.Canon
set_option linter.unusedVariables false
set_option linter.unusedSimpArgs false
open Go
variable {t : Clk} {c : Circ}
abbrev LEs := (Unit × Int × Unit) × (List Int × Unit) × Unit
abbrev le (e : Int) (l : List Int) : LEs := (((), e, ()), (l, ()), ())
end Go.Canon
namespace Go.Canon
set_option linter.unusedVariables false
set_option linter.unusedSimpArgs false
open Go
variable {t : Clk} {c : Circ}
end Go.Canon
namespace Go.Canon
set_option linter.unusedVariables false
set_option linter.unusedSimpArgs false
open Go
variable {t : Clk} {c : Circ}
end Go.Canon
namespace Go.Canon
set_option linter.unusedVariables false
set_option linter.unusedSimpArgs false
open Go
variable {t : Clk} {c : Circ}
abbrev be (a : Bool) (e : Int) : (Bool × Int × Unit) × Unit := ((a, e, ()), ())
end Go.Canon
namespace Go.Canon
set_option linter.unusedVariables false
set_option linter.unusedSimpArgs false
open Go
variable {t : Clk} {c : Circ} {R : List Int}
end Go.Canon
namespace Go.Canon
set_option linter.unusedVariables false
set_option linter.unusedSimpArgs false
open Go
variable {t : Clk} {c : Circ} {R : List Int}
end Go.Canon
namespace Go.Canon
set_option linter.unusedVariables false
set_option linter.unusedSimpArgs false
open Go
variable {t : Clk} {c : Circ} {R : List Int}
end Go.Canon
namespace Go.Canon
set_option linter.unusedVariables false
set_option linter.unusedSimpArgs false
open Go
variable {t : Clk} {c : Circ}
end Go.Canon
namespace Go.Canon
set_option linter.unusedVariables false
set_option linter.unusedSimpArgs false
set_option linter.unusedSectionVars false
open Go
abbrev Store := List Int × Int × Int × Unit
/-- A store of which at most k numbers were taken. -/
structure Sto (k : Nat) (s : Store) : Prop where
  n0 : 0 ≤ s.2.1
  nk : s.2.1 ≤ k
  s0 : 0 ≤ s.2.2.1
  s1 : s.2.2.1 < 4294967296
variable {k : Nat} {s : Store}
theorem Sto.mono (H : Sto k s) {k' : Nat} (h : k ≤ k') : Sto k' s := ⟨H.n0, by have := H.nk; omega, H.s0, H.s1⟩
theorem u32_in {z : Int} : 0 ≤ IntKind.wrap .u32 z ∧ IntKind.wrap .u32 z < 4294967296 := by
  have e : IntKind.wrap .u32 z = z % 4294967296 := by simp [IntKind.wrap, IntKind.signed, IntKind.bits]
  rw [e]; omega
theorem kx_in {x y : Int} : 0 ≤ (kbits .xor .u32 x y).getD 0 ∧ (kbits .xor .u32 x y).getD 0 < 4294967296 := u32_in
theorem fdiv_in {x : Int} {d : Nat} (hd : 0 < d) (h : 0 ≤ x) : 0 ≤ x.fdiv d ∧ x.fdiv d ≤ x := by
  rw [Int.fdiv_eq_ediv_of_nonneg x (by omega)]
  exact ⟨Int.ediv_nonneg h (by omega), Int.ediv_le_self _ h⟩
theorem draw_ok (H : Sto k s) (hk : k < 1000000) : ∃ v s', m_spoondriftkit_Store_draw (s, ()) = some ((v, ()), s') ∧ 0 ≤ v ∧ v < 4294967296 ∧ Sto (k + 1) s' := by
  unfold m_spoondriftkit_Store_draw M_spoondriftkit_Store_draw
  simp only [grd_real, join_real, cond_true]
  cases hl : gtI (Int.ofNat s.1.length) (Int.ofNat 0) with
  | true =>
    have hl : 0 < s.1.length := by simpa [gtI] using hl
    have h1 : (Int.ofNat s.1.length != 0) = true := by
      rw [bne_iff_ne]; intro h; have h : (s.1.length : Int) = 0 := h; omega
    have h2 : inB (s.2.1.tmod (Int.ofNat s.1.length)) s.1.length = true := by
      refine inB_z (Int.tmod_nonneg _ H.n0) (Int.tmod_lt_of_pos _ ?_)
      exact Int.ofNat_lt.2 hl
    simp only [cond_true, h1, h2]
    refine ⟨_, _, rfl, u32_in.1, u32_in.2, ?_, ?_, u32_in.1, u32_in.2⟩
    · have := H.n0; have := H.nk
      show 0 ≤ IntKind.i64.wrap (s.2.1 + Int.ofNat 1)
      rw [wrap_in (by simp; omega) (by simp; omega)]; simp; omega
    · have := H.n0; have := H.nk
      show IntKind.i64.wrap (s.2.1 + Int.ofNat 1) ≤ _
      rw [wrap_in (by simp; omega) (by simp; omega)]; simp; omega
  | false =>
    simp only [cond_false]
    refine ⟨_, _, rfl, (fdiv_in (d := 2 ^ 3) (by decide) kx_in.1).1, Int.lt_of_le_of_lt (fdiv_in (d := 2 ^ 3) (by decide) kx_in.1).2 kx_in.2, H.n0, by have := H.nk; show s.2.1 ≤ _; omega, kx_in.1, kx_in.2⟩
theorem less_ok (H : Sto k s) (hk : k < 1000000) {n : Int} (hn : 1 ≤ n) : ∃ v s', m_spoondriftkit_Store_Less (s, n, ()) = some ((v, ()), s') ∧ 0 ≤ v ∧ v < n ∧ Sto (k + 1) s' := by
  obtain ⟨v, s', e, h1, h2, h3⟩ := draw_ok H hk
  obtain ⟨d1, d2⟩ := fdiv_in (d := 2 ^ 4) (by decide) h1
  refine ⟨(v.fdiv ((2 ^ 4 : Nat) : Int)).tmod n, s', ?_, Int.tmod_nonneg _ d1, Int.tmod_lt_of_pos _ (by omega), h3⟩
  unfold m_spoondriftkit_Store_Less M_spoondriftkit_Store_Less
  dsimp only
  rw [show leI n (Int.ofNat 0) = false by simp [leI]; omega, cond_false, e]
  dsimp only [Option.elim_some]
  have e1 : IntKind.i64.wrap (v.fdiv (2 ^ min (Int.ofNat 4).toNat IntKind.u32.bits)) = v.fdiv ((2 ^ 4 : Nat) : Int) := by
    rw [show ((2 : Int) ^ min (Int.ofNat 4).toNat IntKind.u32.bits) = ((2 ^ 4 : Nat) : Int) from rfl]
    exact wrap_in (by omega) (by omega)
  rw [e1, show (n != 0) = true by simp; omega]
  simp only [grd_real, cond_true]
theorem from_ok (H : Sto k s) (hk : k < 1000000) {lo hi : Int} (hl : lo ≤ hi) (h1 : -1000000 ≤ lo) (h2 : hi ≤ 1000000) : ∃ v s', m_spoondriftkit_Store_From (s, lo, hi, ()) = some ((v, ()), s') ∧ lo ≤ v ∧ v ≤ hi ∧ Sto (k + 1) s' := by
  obtain ⟨v, s', e, a1, a2, a3⟩ := less_ok H hk (n := hi - lo + 1) (by omega)
  refine ⟨lo + v, s', ?_, by omega, by omega, a3⟩
  unfold m_spoondriftkit_Store_From M_spoondriftkit_Store_From
  dsimp only
  rw [wrap_in (a := hi - lo) (by omega) (by omega), show IntKind.i64.wrap (hi - lo + Int.ofNat 1) = hi - lo + 1 from wrap_in (by simp; omega) (by simp; omega), e]
  dsimp only [Option.elim_some]
  rw [wrap_in (by omega) (by omega)]
theorem seldom_ok (H : Sto k s) (hk : k < 1000000) {n : Int} (hn : 1 ≤ n) : ∃ b s', m_spoondriftkit_Store_Seldom (s, n, ()) = some ((b, ()), s') ∧ Sto (k + 1) s' := by
  obtain ⟨v, s', e, a1, a2, a3⟩ := less_ok H hk hn
  refine ⟨v == Int.ofNat 0, s', ?_, a3⟩
  unfold m_spoondriftkit_Store_Seldom M_spoondriftkit_Store_Seldom
  dsimp only
  rw [e]; rfl
/-- The numbers from 0 to n less 1, each once. -/
structure Ord (n : Nat) (l : List Int) : Prop where
  len : l.length = n
  nd : l.Nodup
  rng : ∀ x ∈ l, 0 ≤ x ∧ x < n
theorem Ord.ins {n : Nat} {l : List Int} (H : Ord n l) {i : Int} : Ord (n + 1) (insL i l [(n : Int)]) := by
  have hp : List.Perm (insL i l [(n : Int)]) ((n : Int) :: l) := by
    unfold insL
    rw [List.append_assoc]
    refine List.perm_middle.trans ?_
    show List.Perm ((n : Int) :: (l.take i.toNat ++ l.drop i.toNat)) _
    rw [List.take_append_drop]
  refine ⟨by rw [hp.length_eq]; simp [H.len], hp.nodup_iff.2 (List.nodup_cons.2 ⟨fun h => ?_, H.nd⟩), fun x hx => ?_⟩
  · have := H.rng _ h; omega
  · rcases List.mem_cons.1 (hp.mem_iff.1 hx) with rfl | hx
    · omega
    · have := H.rng _ hx; omega
theorem order_ok (H : Sto k s) {n : Nat} (hn : n ≤ 100) (hk : k + n < 1000000) : ∃ l s', m_spoondriftkit_Store_Order (s, n, ()) = some ((l, ()), s') ∧ Ord n l ∧ Sto (k + n) s' := by
  have key : ∀ (C : Cmb) [CmbOk C], ∃ r : (List Int × Unit) × Store, (Ord n r.1.1 ∧ Sto (k + n) r.2) ∧ M_spoondriftkit_Store_Order C (s, n, ()) = some r := by
    intro C _
    unfold M_spoondriftkit_Store_Order
    dsimp only
    refine loop_ex (σ := (Unit × Int × Unit) × Store × (List Int × Unit) × Unit) (α := (List Int × Unit) × Store) (fun x => ∃ i : Nat, i ≤ n ∧ x.1.2.1 = (i : Int) ∧ Ord i x.2.2.1.1 ∧ Sto (k + i) x.2.1) (fun x => n - x.1.2.1.toNat) (fun _ r => Ord n r.1.1 ∧ Sto (k + n) r.2) ?_ fuelL _ ⟨0, Nat.zero_le _, rfl, ⟨rfl, List.nodup_nil, fun _ h => by cases h⟩, H⟩ (fuel_big (by omega))
    rintro ⟨⟨_, i0, _⟩, s1, ⟨l, _⟩, _⟩ ⟨i, hi, e1, e2, e3⟩
    dsimp only at e1 e2 e3
    subst e1
    by_cases hin : i < n
    · right
      obtain ⟨v, s2, a1, a2, a3, a4⟩ := less_ok e3 (by omega) (n := (i : Int) + 1) (by omega)
      refine ⟨(((), ((i + 1 : Nat) : Int), ()), s2, (insL v l [(i : Int)], ()), ()), ⟨i + 1, hin, rfl, e2.ins, a4⟩, by dsimp only; omega, fun r hr => hr, fun again => ?_⟩
      dsimp only
      rw [lt_cast, decide_eq_true hin, cond_true, show IntKind.i64.wrap ((i : Int) + Int.ofNat 1) = (i : Int) + 1 from wrap_in (by simp; omega) (by simp; omega), a1]
      dsimp only [Option.elim_some]
      have hg : insG v l.length [(i : Int)].length = true := by
        simp only [insG, Bool.and_eq_true, decide_eq_true_eq, e2.len, List.length_cons, List.length_nil]
        refine ⟨⟨⟨by omega, a2⟩, by omega⟩, ?_⟩
        have : roomB = 1099511627776 := rfl
        omega
      simp only [hg, grd_real, Bool.and_true, cond_true]
      rfl
    · left
      obtain rfl : i = n := by omega
      refine ⟨((l, ()), s1), ⟨e2, e3⟩, fun again => ?_⟩
      dsimp only
      rw [lt_cast, decide_eq_false hin]; rfl
  obtain ⟨⟨⟨l, _⟩, s'⟩, ⟨h1, h2⟩, e⟩ := key realC
  exact ⟨l, s', e, h1, h2⟩
end Go.Canon
namespace Go.Canon
set_option linter.unusedVariables false
set_option linter.unusedSimpArgs false
set_option linter.unusedSectionVars false
open Go
variable {k : Nat} {s : Store}
theorem kit_ar {k : Int} (h1 : 1 ≤ k) (h2 : k ≤ 12) : m_spoondriftkit_Arity (k, ()) = some (i1 (arS k)) := by
  have key : ∀ (C : Cmb) [CmbOk C], M_spoondriftkit_Arity C (k, ()) = some (i1 (arS k)) := by
    intro C _
    unfold M_spoondriftkit_Arity arS
    simp only [ofNat_c, lt_cast, decide_true, decide_false, cond_true, cond_false, inB_cast, grd_real, join_real, Int.toNat_natCast, Option.elim_some, Bool.true_and, Bool.false_or, Bool.or_true, Bool.and_true, Bool.or_false, cond_tf, beq_dec, ltI, leI, gtI, geI]
    by_cases h12 : k = 12
    · subst h12; rfl
    · by_cases h9 : 9 ≤ k
      · have a1 : ¬ k ≤ 8 := by omega
        have a2 : k ≤ 11 := by omega
        have a3 : k ≠ 13 := by omega
        have a4 : k ≠ 14 := by omega
        simp [h12, h9, h1, a1, a2, a3, a4]
      · have a1 : k ≤ 8 := by omega
        have a2 : k ≤ 14 := by omega
        simp [h12, h9, h1, a1, a2]
  exact key realC
theorem arS_in {k : Int} (h1 : 1 ≤ k) (h2 : k ≤ 14) : 1 ≤ arS k ∧ arS k ≤ 3 := by
  unfold arS; split
  · omega
  · split
    · omega
    · rw [if_pos ⟨h1, h2⟩]; omega
theorem nodup_dup {l : List Int} (h : l.Nodup) : dupB l = false := by
  unfold dupB
  rw [List.any_eq_false]
  intro i hi hc
  have hi : i < l.length := List.mem_range.1 hi
  rw [List.contains_iff_mem, getD_in hi] at hc
  obtain ⟨j, hj, e⟩ := List.getElem_of_mem hc
  rw [List.getElem_take] at e
  have hj2 : j < i := by simp at hj; omega
  exact (List.pairwise_iff_getElem.1 h j i (by omega) hi hj2) e
/-- A gate that is right, by its parts. -/
theorem ck_of {g : Gate} {w b : Int} (h1 : 1 ≤ g.1) (h2 : g.1 ≤ 14) (h3 : (g.2.1.length : Int) = arS g.1) (h4 : g.2.1.Nodup) (h5 : ∀ x ∈ g.2.1, 0 ≤ x ∧ x < w) (h6 : lateB g b = false) (h7 : formB g = false) : ckG g w b = 0 := by
  have a := arS_in h1 h2
  unfold ckG
  rw [if_neg (by omega), if_neg (by simpa using h3), nodup_dup h4, h6, h7]
  have : (g.2.1.any fun x => decide (x < 0) || decide (x ≥ w)) = false := by
    rw [List.any_eq_false]
    intro x hx
    have := h5 x hx
    simp; omega
  rw [this]; rfl
abbrev all12 : List Int := [1, 2, 3, 4, 5, 6, 7, 8, 9, 10, 11, 12]
theorem all_get : ∀ m : Nat, m < 12 → all12.getD m 0 = (m : Int) + 1 := by decide
/-- A gate that a store gives. -/
structure GateR (w : Nat) (g : Gate) : Prop where
  k1 : 1 ≤ g.1
  k2 : g.1 ≤ 12
  b0 : g.2.2.1 = 0
  i0 : g.2.2.2.1 = 0
  len : (g.2.1.length : Int) = arS g.1
  nd : g.2.1.Nodup
  rng : ∀ x ∈ g.2.1, 0 ≤ x ∧ x < (w : Int)
theorem gate_ok (H : Sto k s) (hk : k + 10 < 1000000) {w : Nat} (w1 : 1 ≤ w) (w6 : w ≤ 6) : ∃ g s', m_spoondriftkit_Store_Gate (s, (w : Int), all12, ()) = some ((g, ()), s') ∧ GateR w g ∧ Sto (k + 7) s' := by
  obtain ⟨v, s1, e1, a1, a2, a3⟩ := less_ok H (by omega) (n := Int.ofNat all12.length) (by decide)
  have a2 : v < 12 := a2
  have hg : all12.getD v.toNat 0 = v + 1 := by
    rw [all_get v.toNat (by omega)]; omega
  have hA := arS_in (k := v + 1) (by omega) (by omega)
  obtain ⟨l, s2, e2, o, a4⟩ := order_ok a3 (n := w) (by omega) (by omega)
  have fin : ∀ kd : Int, 1 ≤ kd → kd ≤ 12 → arS kd ≤ w → ∃ g s', (m_spoondriftkit_Store_Order (s1, (w : Int), ())).elim none (fun (val : (List Int × Unit) × List Int × Int × Int × Unit) => (m_spoondriftkit_Arity (kd, ())).elim none fun (val_2 : (Int × Unit) × Unit) =>
      realC.grd (leI 0 val_2.fst.fst && leI val_2.fst.fst (Int.ofNat val.fst.fst.length)) (some (((kd, List.take val_2.fst.fst.toNat val.fst.fst, Int.ofNat 0, Int.ofNat 0, ()), ()), val.snd.fst, val.snd.snd.fst, val.snd.snd.snd.fst, ()))) = some ((g, ()), s') ∧ GateR w g ∧ Sto (k + 7) s' := by
    intro kd k1 k2 ka
    have hK := arS_in k1 (show kd ≤ 14 by omega)
    rw [e2]
    dsimp only [Option.elim_some]
    rw [kit_ar k1 k2]
    dsimp only [Option.elim_some]
    rw [show (leI 0 (arS kd) && leI (arS kd) (Int.ofNat l.length)) = true by simp [leI, o.len]; omega, grd_real, cond_true]
    refine ⟨_, _, rfl, ⟨k1, k2, rfl, rfl, ?_, o.nd.sublist (List.take_sublist _ _), fun x hx => o.rng x (List.mem_of_mem_take hx)⟩, a4.mono (by omega)⟩
    show ((List.take (arS kd).toNat l).length : Int) = arS kd
    rw [List.length_take, o.len]; omega
  unfold m_spoondriftkit_Store_Gate M_spoondriftkit_Store_Gate
  dsimp only
  rw [e1]
  dsimp only [Option.elim_some]
  rw [inB_z (n := all12.length) a1 (by simpa using a2), grd_real, cond_true, hg, kit_ar (by omega) (by omega)]
  dsimp only [Option.elim_some]
  rw [join_real]
  by_cases hgt : arS (v + 1) > w
  · rw [show gtI (arS (v + 1)) w = true by simpa [gtI] using hgt, cond_true]
    exact fin 1 (by omega) (by omega) (by show (1 : Int) ≤ w; omega)
  · rw [show gtI (arS (v + 1)) w = false by simpa [gtI] using hgt, cond_false]
    exact fin (v + 1) (by omega) (by omega) (by omega)
/-- A circuit that a store gives. -/
structure CircR (w b most : Nat) (c : Circ) : Prop where
  cw : c.1 = (w : Int)
  cb : c.2.1 = (b : Int)
  len : c.2.2.1.length ≤ most
  ck : ∀ g ∈ c.2.2.1, ckG g w b = 0
  w3 : ∀ g ∈ c.2.2.1, g.2.1.length ≤ 3
theorem CircR.chk {w b most : Nat} {c : Circ} (H : CircR w b most c) (w1 : 1 ≤ w) (w6 : w ≤ 12) (b8 : b ≤ 8) (hm : most ≤ 120) : chk c = 0 := by
  have := H.len
  unfold Go.Canon.chk
  have e : ((decide (c.1 < 1) || decide (c.1 > 12)) || (decide (c.2.1 < 0) || decide (c.2.1 > 8))) = false := by
    rw [H.cw, H.cb]; simp; omega
  rw [e, cond_false, if_neg (by omega), H.cw, H.cb]
  unfold gatesE
  rw [if_neg]
  rw [find_any, List.any_eq_true]
  rintro ⟨g, hg, h⟩
  rw [H.ck g hg] at h
  cases h
theorem CircR.small {w b most : Nat} {c : Circ} (H : CircR w b most c) (hm : most ≤ 120) : Small c := ⟨by have := H.len; omega, fun g hg => by have := H.w3 g hg; omega⟩
theorem GateR.ck {w : Nat} {g : Gate} (G : GateR w g) {b f : Int} (h0 : 0 ≤ f) (hf : f ≤ b) : ckG (g.1, g.2.1, g.2.2.1, f, ()) w b = 0 := by
  have h2 := G.k2
  refine ck_of G.k1 (by have := G.k2; show g.1 ≤ 14; omega) G.len G.nd G.rng ?_ ?_
  · show (decide (f < 0) || decide (f > b) || (g.1 == 13 && _)) = false
    rw [beq_dec, decide_eq_false (show ¬ f < 0 by omega), decide_eq_false (show ¬ f > b by omega), decide_eq_false (show ¬ g.1 = 13 by omega)]; rfl
  · show (decide (g.1 ≥ 13) && _ || g.1 != 13 && g.2.2.1 != 0) = false
    rw [G.b0, decide_eq_false (show ¬ g.1 ≥ 13 by omega)]; simp
theorem ck13 {w b : Nat} {x y : Int} (hx : 0 ≤ x ∧ x < w) (hy : 0 ≤ y ∧ y < b) : ckG (13, [x], y, 0, ()) w b = 0 := by
  refine ck_of (g := (13, [x], y, 0, ())) (by show (1 : Int) ≤ 13; decide) (by show (13 : Int) ≤ 14; decide) rfl (by simp) (fun z hz => by rw [List.mem_singleton.1 hz]; exact hx) ?_ ?_
  · simp [lateB]; omega
  · simp [formB]
theorem ck14 {w b : Nat} {x : Int} (hx : 0 ≤ x ∧ x < w) : ckG (14, [x], 0, 0, ()) w b = 0 := by
  refine ck_of (g := (14, [x], 0, 0, ())) (by show (1 : Int) ≤ 14; decide) (by show (14 : Int) ≤ 14; decide) rfl (by simp) (fun z hz => by rw [List.mem_singleton.1 hz]; exact hx) ?_ ?_
  · simp [lateB]
  · simp [formB]
theorem steered_ok (H : Sto k s) {w b most : Nat} (w1 : 1 ≤ w) (w6 : w ≤ 6) (b1 : 1 ≤ b) (b8 : b ≤ 8) (hm : most ≤ 100) (hk : k + 20 * most + 20 < 1000000) : ∃ c s', m_spoondriftkit_Store_Steered (s, (w : Int), (b : Int), (most : Int), all12, ()) = some ((c, ()), s') ∧ CircR w b most c ∧ Sto (k + 20 * most + 1) s' := by
  have key : ∀ (C : Cmb) [CmbOk C], ∃ r : (Circ × Unit) × Store, (CircR w b most r.1.1 ∧ Sto (k + 20 * most + 1) r.2) ∧ M_spoondriftkit_Store_Steered C (s, (w : Int), (b : Int), (most : Int), all12, ()) = some r := by
    intro C _
    unfold M_spoondriftkit_Store_Steered
    dsimp only
    obtain ⟨v, s1, e1, a1, a2, a3⟩ := less_ok H (by omega) (n := (most : Int) + 1) (by omega)
    rw [show IntKind.i64.wrap ((most : Int) + Int.ofNat 1) = (most : Int) + 1 from wrap_in (by simp; omega) (by simp; omega), e1]
    dsimp only [Option.elim_some]
    obtain ⟨n, rfl⟩ : ∃ n : Nat, v = (n : Int) := ⟨v.toNat, by omega⟩
    have hn : n ≤ most := by omega
    refine loop_ex (σ := (Int × Unit) × Store × (Int × Int × Unit × Unit) × (List Gate × Unit) × Unit) (α := (Circ × Unit) × Store)
      (fun x => ∃ i : Nat, i ≤ n ∧ x.1.1 = (i : Int) ∧ x.2.2.1 = ((w : Int), (b : Int), (), ()) ∧ x.2.2.2.1.1.length = i ∧ (∀ g ∈ x.2.2.2.1.1, ckG g w b = 0 ∧ g.2.1.length ≤ 3) ∧ Sto (k + 20 * i + 1) x.2.1) (fun x => n - x.1.1.toNat) (fun _ r => CircR w b most r.1.1 ∧ Sto (k + 20 * most + 1) r.2) ?_ fuelL _ ⟨0, Nat.zero_le _, rfl, rfl, rfl, (fun _ h => by cases h), a3⟩ (fuel_big (by dsimp only; omega))
    rintro ⟨⟨i0, _⟩, s2, q, ⟨l, _⟩, _⟩ ⟨i, hi, h1, h2, h3, h4, h5⟩
    dsimp only at h1 h2 h3 h4 h5
    subst h1 h2
    by_cases hin : i < n
    · right
      obtain ⟨g, s3, e3, G, S3⟩ := gate_ok h5 (by omega) w1 w6
      obtain ⟨c1, s4, e4, S4⟩ := seldom_ok S3 (by omega) (n := Int.ofNat 5) (by decide)
      have room : ∀ x : Gate, leN ((l.length + [x].length) * 48) roomB = true := fun x => by
        have : roomB = 1099511627776 := rfl
        simp only [leN, List.length_cons, List.length_nil]
        exact decide_eq_true (by omega)
      have step : ∀ (y : Gate) (s' : Store), ckG y w b = 0 → y.2.1.length ≤ 3 → Sto (k + 20 * i + 20) s' → ∃ i' : Nat, i' ≤ n ∧ IntKind.i64.wrap ((i : Int) + Int.ofNat 1) = (i' : Int) ∧ ((w : Int), (b : Int), (), ()) = ((w : Int), (b : Int), (), ()) ∧ (l ++ [y]).length = i' ∧ (∀ g ∈ l ++ [y], ckG g w b = 0 ∧ g.2.1.length ≤ 3) ∧ Sto (k + 20 * i' + 1) s' := fun y s' hy hy3 hs =>
        ⟨i + 1, hin, wrap_nat (by omega), rfl, by simp [h3], fun g hg => by
          rcases List.mem_append.1 hg with hg | hg
          · exact h4 g hg
          · rw [List.mem_singleton.1 hg]; exact ⟨hy, hy3⟩, hs.mono (by omega)⟩
      have mu : n - (IntKind.i64.wrap ((i : Int) + Int.ofNat 1)).toNat < n - ((i : Int)).toNat := by
        rw [show IntKind.i64.wrap ((i : Int) + Int.ofNat 1) = ((i + 1 : Nat) : Int) from wrap_nat (by omega)]; omega
      have g3 : ∀ f : Int, (g.1, g.2.1, g.2.2.1, f, ()).2.1.length ≤ 3 := fun f => by
        have := (arS_in G.k1 (by have := G.k2; omega : g.1 ≤ 14)).2
        have := G.len
        show g.2.1.length ≤ 3
        omega
      cases c1 with
      | true =>
        obtain ⟨x, s5, e5, x1, x2, S5⟩ := less_ok S4 (by omega) (n := (w : Int)) (by omega)
        obtain ⟨y, s6, e6, y1, y2, S6⟩ := less_ok S5 (by omega) (n := (b : Int)) (by omega)
        refine ⟨((IntKind.i64.wrap ((i : Int) + Int.ofNat 1), ()), s6, ((w : Int), (b : Int), (), ()), (l ++ [(13, [x], y, 0, ())], ()), ()), step _ _ (ck13 ⟨x1, x2⟩ ⟨y1, y2⟩) (by show 1 ≤ 3; decide) (S6.mono (by omega)), mu, fun r hr => hr, fun again => ?_⟩
        dsimp only
        rw [lt_cast, decide_eq_true hin, cond_true, e3]
        dsimp only [Option.elim_some]
        rw [show gtI (b : Int) (Int.ofNat 0) = true by simp [gtI]; omega]
        simp only [join_real, grd_real, cond_true, e4, e5, e6, Option.elim_some, room, Bool.true_and]
        rfl
      | false =>
        obtain ⟨c2, s5, e5, S5⟩ := seldom_ok S4 (by omega) (n := Int.ofNat 12) (by decide)
        cases c2 with
        | true =>
          obtain ⟨x, s6, e6, x1, x2, S6⟩ := less_ok S5 (by omega) (n := (w : Int)) (by omega)
          refine ⟨((IntKind.i64.wrap ((i : Int) + Int.ofNat 1), ()), s6, ((w : Int), (b : Int), (), ()), (l ++ [(14, [x], 0, 0, ())], ()), ()), step _ _ (ck14 ⟨x1, x2⟩) (by show 1 ≤ 3; decide) (S6.mono (by omega)), mu, fun r hr => hr, fun again => ?_⟩
          dsimp only
          rw [lt_cast, decide_eq_true hin, cond_true, e3]
          dsimp only [Option.elim_some]
          rw [show gtI (b : Int) (Int.ofNat 0) = true by simp [gtI]; omega]
          simp only [join_real, grd_real, cond_true, cond_false, e4, e5, e6, Option.elim_some, room, Bool.true_and]
          rfl
        | false =>
          obtain ⟨c3, s6, e6, S6⟩ := seldom_ok S5 (by omega) (n := Int.ofNat 4) (by decide)
          cases c3 with
          | true =>
            obtain ⟨x, s7, e7, x1, x2, S7⟩ := from_ok S6 (by omega) (lo := Int.ofNat 1) (hi := (b : Int)) (by simp; omega) (by decide) (by omega)
            refine ⟨((IntKind.i64.wrap ((i : Int) + Int.ofNat 1), ()), s7, ((w : Int), (b : Int), (), ()), (l ++ [(g.1, g.2.1, g.2.2.1, x, ())], ()), ()), step _ _ (G.ck (by simp at x1; omega) x2) (g3 _) (S7.mono (by omega)), mu, fun r hr => hr, fun again => ?_⟩
            dsimp only
            rw [lt_cast, decide_eq_true hin, cond_true, e3]
            dsimp only [Option.elim_some]
            rw [show gtI (b : Int) (Int.ofNat 0) = true by simp [gtI]; omega]
            simp only [join_real, grd_real, cond_true, cond_false, e4, e5, e6, e7, Option.elim_some, room, Bool.true_and]
          | false =>
            refine ⟨((IntKind.i64.wrap ((i : Int) + Int.ofNat 1), ()), s6, ((w : Int), (b : Int), (), ()), (l ++ [g], ()), ()), step _ _ (by have := G.ck (b := (b : Int)) (f := g.2.2.2.1) (by rw [G.i0]; decide) (by rw [G.i0]; omega); exact this) (g3 0) (S6.mono (by omega)), mu, fun r hr => hr, fun again => ?_⟩
            dsimp only
            rw [lt_cast, decide_eq_true hin, cond_true, e3]
            dsimp only [Option.elim_some]
            rw [show gtI (b : Int) (Int.ofNat 0) = true by simp [gtI]; omega]
            simp only [join_real, grd_real, cond_true, cond_false, e4, e5, e6, Option.elim_some, room, Bool.true_and]
    · left
      obtain rfl : i = n := by omega
      refine ⟨((((w : Int), (b : Int), l, ()), ()), s2), ⟨⟨rfl, rfl, by show l.length ≤ most; omega, fun g hg => (h4 g hg).1, fun g hg => (h4 g hg).2⟩, h5.mono (by omega)⟩, fun again => ?_⟩
      dsimp only
      rw [lt_cast, decide_eq_false hin]; rfl
  obtain ⟨⟨⟨c, _⟩, s'⟩, ⟨h1, h2⟩, e⟩ := key realC
  exact ⟨c, s', e, h1, h2⟩
end Go.Canon
namespace Go.Canon
set_option linter.unusedVariables false
set_option linter.unusedSimpArgs false
set_option linter.unusedSectionVars false
open Go
section
variable {α σ τ : Type} {C : Cmb} [OC : CmbOk C]
/-- A loop that ends in something else, wherever this leads. -/
theorem loop_to {body : (τ → Option α) → σ → (σ → Option α) → Option α} (I : σ → Prop) (μ : σ → Nat) (Q : τ → Prop) (step : ∀ x, I x → (∃ y, Q y ∧ ∀ K again, body K x again = K y) ∨ ∃ x', I x' ∧ μ x' < μ x ∧ ∀ K again, body K x again = again x') :
    ∀ (n : Nat) (x : σ), I x → μ x < n → ∃ y, Q y ∧ ∀ K, @Cmb.loop C σ α (body K) n x = K y
  | 0, x, _, h => by omega
  | n + 1, x, hi, h => by
    rcases step x hi with ⟨y, h1, e⟩ | ⟨x', h1, h2, e⟩
    · exact ⟨y, h1, fun K => by rw [loop_succ]; exact e K _⟩
    · obtain ⟨y, h3, e2⟩ := loop_to I μ Q step n x' h1 (by omega)
      exact ⟨y, h3, fun K => by rw [loop_succ, e K]; exact e2 K⟩
theorem left_of {P : α → Prop} {f : (σ → Option α) → Option α} (T : Option α) (h2 : ∀ again, f again = T) (h1 : ∃ r, P r ∧ T = some r) : ∃ r, P r ∧ ∀ again, f again = some r := by
  obtain ⟨r, a, b⟩ := h1
  exact ⟨r, a, fun again => by rw [h2, b]⟩
theorem right_c {I M R : τ → Prop} {c : Bool} {A B : (τ → Option α) → Option α} (hc : c = true) (h2 : ∃ y, (I y ∧ M y ∧ R y) ∧ ∀ K, A K = K y) : ∃ y, I y ∧ M y ∧ R y ∧ ∀ again, (bif c then A again else B again) = again y := by
  obtain ⟨y, ⟨a, b, d⟩, e⟩ := h2
  exact ⟨y, a, b, d, fun again => by rw [hc, cond_true, e]⟩
end
variable {k : Nat} {s : Store}
theorem of_ok (bytes : List Int) : ∃ s, m_spoondriftkit_Of (bytes, ()) = some (((), ()), s, ()) ∧ Sto 0 s := by
  unfold m_spoondriftkit_Of M_spoondriftkit_Of
  dsimp only
  have hm : List.foldl mn2 (Int.ofNat (List.length bytes)) [Int.ofNat 300] = ((min bytes.length 300 : Nat) : Int) := by
    show (if (Int.ofNat 300 : Int) < Int.ofNat bytes.length then Int.ofNat 300 else Int.ofNat bytes.length) = _
    split
    · rename_i h; have h : 300 < bytes.length := Int.ofNat_lt.1 h
      rw [Nat.min_eq_right (by omega)]; rfl
    · rename_i h; have h : ¬ 300 < bytes.length := fun x => h (Int.ofNat_lt.2 x)
      rw [Nat.min_eq_left (by omega)]; rfl
  rw [hm, show (leI 0 ((min bytes.length 300 : Nat) : Int) && leI ((min bytes.length 300 : Nat) : Int) (Int.ofNat bytes.length)) = true by simp [leI]; omega, grd_real, cond_true]
  unfold m_slices_Clone_uint8
  dsimp only
  have hr : leN (List.length (List.take ((min bytes.length 300 : Nat) : Int).toNat bytes) * 1) roomB = true := by
    have : roomB = 1099511627776 := rfl
    refine decide_eq_true ?_
    rw [List.length_take]; omega
  rw [hr]
  exact ⟨_, rfl, ⟨Int.le_refl 0, Int.le_refl 0, (by decide : (0 : Int) ≤ 2463534242), (by decide : (2463534242 : Int) < 4294967296)⟩⟩
/-- A clock that a store gives. -/
structure TickR (w : Nat) (noise : Bool) (t : Clk) : Prop where
  len : t.1.length = 14
  rng : ∀ n ∈ t.1, 1 ≤ n ∧ n ≤ 9
  wait : 0 ≤ t.2.1 ∧ t.2.1 ≤ 11
  prs : ∀ p ∈ t.2.2.1, ∃ a b : Nat, p = [(a : Int), (b : Int)] ∧ b < a ∧ a < w
  few : t.2.2.1.length ≤ 36
  no : noise = false → t.2.2.1 = []
theorem TickR.clk {w : Nat} {noise : Bool} {t : Clk} (H : TickR w noise t) : clkE t = 0 := by
  unfold clkE
  rw [if_neg (by simp [H.len])]
  have e1 : t.1.any offN = false := by
    rw [List.any_eq_false]
    intro n hn
    have := H.rng n hn
    simp [offN]; omega
  have e2 : offW t.2.1 = false := by
    have := H.wait
    simp [offW]; omega
  rw [e1, e2]; rfl
theorem TickR.ok {w b most : Nat} {noise : Bool} {t : Clk} {c : Circ} (H : TickR w noise t) (G : CircR w b most c) (w1 : 1 ≤ w) (w6 : w ≤ 6) (b8 : b ≤ 8) (hm : most ≤ 120) : Ok t c := by
  refine ⟨G.small hm, by have := H.few; omega, ?_, fun p hp => ?_⟩
  · unfold chk24
    rw [if_neg (by simp [H.clk]), if_neg (by simp [G.chk w1 (by omega) b8 hm])]
    unfold prsE
    rw [if_neg]
    rw [find_any, List.any_eq_true]
    rintro ⟨p, hp, h⟩
    obtain ⟨x, y, rfl, h1, h2⟩ := H.prs p hp
    have e : prE [(x : Int), (y : Int)] c.1 = 0 := by
      unfold prE prB
      rw [G.cw]
      simp only [List.getD_cons_zero, List.getD_cons_succ]
      rw [decide_eq_false (show ¬ (x : Int) < 0 by omega), decide_eq_false (show ¬ (x : Int) ≥ w by omega), decide_eq_false (show ¬ (y : Int) < 0 by omega), decide_eq_false (show ¬ (y : Int) ≥ w by omega), beq_dec, decide_eq_false (show ¬ (x : Int) = y by omega)]; rfl
    rw [e] at h
    cases h
  · obtain ⟨x, y, rfl, _⟩ := H.prs p hp
    rfl
theorem ticking_ok (H : Sto k s) {w : Nat} {noise : Bool} (w6 : w ≤ 6) (hk : k + 100 < 1000000) : ∃ t s', m_spoondriftlaw24_Ticking (s, (w : Int), noise, ()) = some ((t, ()), s') ∧ TickR w noise t ∧ Sto (k + 60) s' := by
  have key : ∀ (C : Cmb) [CmbOk C], ∃ r : (Clk × Unit) × Store, (TickR w noise r.1.1 ∧ Sto (k + 60) r.2) ∧ M_spoondriftlaw24_Ticking C (s, (w : Int), noise, ()) = some r := by
    intro C _
    unfold M_spoondriftlaw24_Ticking
    dsimp only
    obtain ⟨v, s1, e1, a1, a2, a3⟩ := less_ok H (by omega) (n := Int.ofNat 12) (by decide)
    have a2 : v < 12 := a2
    rw [e1]
    dsimp only [Option.elim_some]
    refine loop_ex (σ := (Int × Unit) × Store × (Unit × Int × Unit × Unit) × (List Int × Unit) × Unit) (α := (Clk × Unit) × Store)
      (fun x => ∃ i : Nat, i ≤ 14 ∧ x.1.1 = (i : Int) ∧ x.2.2.1.2.1 = v ∧ x.2.2.2.1.1.length = i ∧ (∀ n ∈ x.2.2.2.1.1, 1 ≤ n ∧ n ≤ 9) ∧ Sto (k + i + 1) x.2.1) (fun x => 14 - x.1.1.toNat) (fun _ r => TickR w noise r.1.1 ∧ Sto (k + 60) r.2) ?_ fuelL _ ⟨0, by omega, rfl, rfl, rfl, (fun _ h => by cases h), a3⟩ (fuel_big (by dsimp only; omega))
    rintro ⟨⟨i0, _⟩, s2, ⟨_, v0, _, _⟩, ⟨l, _⟩, _⟩ ⟨i, hi, h1, h2, h3, h4, h5⟩
    dsimp only at h1 h2 h3 h4 h5
    subst h1 h2
    by_cases hin : i < 14
    · right
      obtain ⟨x, s3, e3, x1, x2, S3⟩ := from_ok h5 (by omega) (lo := Int.ofNat 1) (hi := Int.ofNat 9) (by decide) (by decide) (by decide)
      have x1 : 1 ≤ x := x1
      have x2 : x ≤ 9 := x2
      have room : leN ((l.length + [x].length) * 8) roomB = true := by
        have : roomB = 1099511627776 := rfl
        refine decide_eq_true ?_
        simp only [List.length_cons, List.length_nil]; omega
      refine ⟨((IntKind.i64.wrap ((i : Int) + Int.ofNat 1), ()), s3, ((), v0, (), ()), (l ++ [x], ()), ()), ⟨i + 1, hin, wrap_nat (by omega), rfl, by simp [h3], fun n hn => ?_, S3.mono (by omega)⟩, ?_, fun r hr => hr, fun again => ?_⟩
      · rcases List.mem_append.1 hn with hn | hn
        · exact h4 n hn
        · rw [List.mem_singleton.1 hn]; exact ⟨x1, x2⟩
      · dsimp only
        rw [show IntKind.i64.wrap ((i : Int) + Int.ofNat 1) = ((i + 1 : Nat) : Int) from wrap_nat (by omega)]; omega
      · dsimp only
        rw [show ltI (i : Int) (Int.ofNat 14) = decide (i < 14) from lt_cast, decide_eq_true hin, cond_true, e3]
        dsimp only [Option.elim_some]
        simp only [grd_real, room, Bool.true_and, cond_true]
    · left
      obtain rfl : i = 14 := by omega
      refine left_of _ (fun again => by dsimp only; rw [show ltI ((14 : Nat) : Int) (Int.ofNat 14) = false from rfl, cond_false]) ?_
      refine loop_ex (σ := (Int × Unit) × Store × (Unit × Int × Unit × Unit) × (List Int × Unit) × (List (List Int) × Unit) × Unit) (α := (Clk × Unit) × Store)
        (fun x => ∃ i : Nat, i ≤ w ∧ x.1.1 = (i : Int) ∧ x.2.2.1.2.1 = v0 ∧ x.2.2.2.1.1 = l ∧ (∀ p ∈ x.2.2.2.2.1.1, ∃ a b : Nat, p = [(a : Int), (b : Int)] ∧ b < a ∧ a < w) ∧ x.2.2.2.2.1.1.length ≤ 6 * i ∧ (noise = false → x.2.2.2.2.1.1 = []) ∧ Sto (k + 15 + 6 * i) x.2.1) (fun x => w - x.1.1.toNat) (fun _ r => TickR w noise r.1.1 ∧ Sto (k + 60) r.2) ?_ fuelL _ ⟨0, by omega, rfl, rfl, rfl, (fun _ h => by cases h), Nat.zero_le _, fun _ => rfl, h5⟩ (fuel_big (by dsimp only; omega))
      rintro ⟨⟨i0, _⟩, s2, ⟨_, v0, _, _⟩, ⟨l, _⟩, ⟨q, _⟩, _⟩ ⟨i, hi, h1, h2, h6, h7, h8, h9, h10⟩
      dsimp only at h1 h2 h6 h7 h8 h9 h10
      subst h1 h2 h6
      by_cases hin : i < w
      · right
        dsimp only
        refine right_c ?hc ?_
        case hc => rw [lt_cast]; exact decide_eq_true hin
        refine loop_to (σ := (Int × Unit) × Store × (Unit × Int × Unit × Unit) × (List Int × Unit) × (List (List Int) × Unit) × Unit)
          (fun x => ∃ j : Nat, j ≤ i ∧ x.1.1 = (j : Int) ∧ x.2.2.1.2.1 = v0 ∧ x.2.2.2.1.1 = l ∧ (∀ p ∈ x.2.2.2.2.1.1, ∃ a b : Nat, p = [(a : Int), (b : Int)] ∧ b < a ∧ a < w) ∧ x.2.2.2.2.1.1.length ≤ 6 * i + j ∧ (noise = false → x.2.2.2.2.1.1 = []) ∧ Sto (k + 15 + 6 * i + j) x.2.1) (fun x => i - x.1.1.toNat) _ ?step fuelL _ ?init ?fuel
        case init => exact ⟨0, Nat.zero_le _, rfl, rfl, rfl, h7, h8, h9, h10⟩
        case fuel => exact fuel_big (by dsimp only; omega)
        rintro ⟨⟨j0, _⟩, s2, ⟨_, v0, _, _⟩, ⟨l, _⟩, ⟨q, _⟩, _⟩ ⟨j, hj, h1, h2, h6, h7, h8, h9, h10⟩
        dsimp only at h1 h2 h6 h7 h8 h9 h10
        subst h1 h2 h6
        by_cases hjn : j < i
        · right
          have mu : i - (IntKind.i64.wrap ((j : Int) + Int.ofNat 1)).toNat < i - (j : Int).toNat := by
            rw [show IntKind.i64.wrap ((j : Int) + Int.ofNat 1) = ((j + 1 : Nat) : Int) from wrap_nat (by omega)]; omega
          have room : leN ((q.length + [[(i : Int), (j : Int)]].length) * 16) roomB = true := by
            have : roomB = 1099511627776 := rfl
            refine decide_eq_true ?_
            simp only [List.length_cons, List.length_nil]; omega
          cases hnz : noise with
          | false =>
            refine ⟨((IntKind.i64.wrap ((j : Int) + Int.ofNat 1), ()), s2, ((), v0, (), ()), (l, ()), (q, ()), ()), ⟨j + 1, hjn, wrap_nat (by omega), rfl, rfl, h7, by dsimp only; omega, fun _ => h9 hnz, h10.mono (by omega)⟩, mu, fun K again => ?_⟩
            dsimp only
            rw [lt_cast, decide_eq_true hjn, cond_true]
            simp only [join_real, cond_false]
          | true =>
            obtain ⟨b, s3, e3, S3⟩ := seldom_ok h10 (by omega) (n := Int.ofNat 2) (by decide)
            cases b with
            | false =>
              refine ⟨((IntKind.i64.wrap ((j : Int) + Int.ofNat 1), ()), s3, ((), v0, (), ()), (l, ()), (q, ()), ()), ⟨j + 1, hjn, wrap_nat (by omega), rfl, rfl, h7, by dsimp only; omega, (fun h => by cases h), S3.mono (by omega)⟩, mu, fun K again => ?_⟩
              dsimp only
              rw [lt_cast, decide_eq_true hjn, cond_true]
              simp only [join_real, cond_false, cond_true, e3, Option.elim_some]
            | true =>
              refine ⟨((IntKind.i64.wrap ((j : Int) + Int.ofNat 1), ()), s3, ((), v0, (), ()), (l, ()), (q ++ [[(i : Int), (j : Int)]], ()), ()), ⟨j + 1, hjn, wrap_nat (by omega), rfl, rfl, fun p hp => ?_, by simp; omega, (fun h => by cases h), S3.mono (by omega)⟩, mu, fun K again => ?_⟩
              · rcases List.mem_append.1 hp with hp | hp
                · exact h7 p hp
                · exact ⟨i, j, List.mem_singleton.1 hp, hjn, hin⟩
              · dsimp only
                rw [lt_cast, decide_eq_true hjn, cond_true]
                simp only [join_real, grd_real, cond_false, cond_true, e3, Option.elim_some, room, Bool.true_and]
        · left
          obtain rfl : j = i := by omega
          refine ⟨((IntKind.i64.wrap ((j : Int) + Int.ofNat 1), ()), s2, ((), v0, (), ()), (l, ()), (q, ()), ()), ⟨⟨j + 1, hin, wrap_nat (by omega), rfl, rfl, h7, by dsimp only; omega, h9, h10.mono (by omega)⟩, ?_, fun r hr => hr⟩, fun K again => ?_⟩
          · dsimp only
            rw [show IntKind.i64.wrap ((j : Int) + Int.ofNat 1) = ((j + 1 : Nat) : Int) from wrap_nat (by omega)]; omega
          · dsimp only
            rw [lt_cast, decide_eq_false hjn]; rfl
      · left
        obtain rfl : i = w := by omega
        refine ⟨(((l, v0, q, ()), ()), s2), ⟨⟨h3, h4, by dsimp only; omega, h7, by dsimp only; omega, h9⟩, h10.mono (by omega)⟩, fun again => ?_⟩
        dsimp only
        rw [lt_cast, decide_eq_false hin]; rfl
  obtain ⟨⟨⟨t, _⟩, s'⟩, ⟨h1, h2⟩, e⟩ := key realC
  exact ⟨t, s', e, h1, h2⟩
end Go.Canon
namespace Go.Canon
set_option linter.unusedVariables false
set_option linter.unusedSimpArgs false
set_option linter.unusedSectionVars false
open Go
variable {t : Clk} {c : Circ}
/-- Right starts. -/
structure RightS (t : Clk) (c : Circ) (starts : List Int) : Prop where
  len : starts.length = c.2.2.1.length
  bd : ∀ x ∈ starts, 0 ≤ x ∧ x ≤ 100000
  af : ∀ i, i < c.2.2.1.length → aftP t c i starts ≤ starts.getD i 0
  no : ∀ i, i < c.2.2.1.length → ∀ j, j < i → hitB t c (noisyB t) i starts (starts.getD i 0) j = false
theorem RightS.at_ {starts : List Int} (R : RightS t c starts) {i : Nat} (hi : i < c.2.2.1.length) : 0 ≤ starts.getD i 0 ∧ starts.getD i 0 ≤ 100000 := by
  have hi2 : i < starts.length := by rw [R.len]; exact hi
  rw [getD_in hi2]
  exact R.bd _ (List.getElem_mem hi2)
theorem with1_eq {x : Int} : m_sched_with_1 (x, ()) = some (b1 (decide (x < 0) || decide (x > 100000))) := by
  have key : ∀ (C : Cmb) [CmbOk C], M_sched_with_1 C (x, ()) = some (b1 (decide (x < 0) || decide (x > 100000))) := by
    intro C _
    unfold M_sched_with_1
    simp only [join_real]
    have e : ltI x (Int.ofNat 0) = decide (x < 0) := rfl
    have e2 : gtI x (Int.ofNat 100000) = decide (x > 100000) := rfl
    rw [e, e2]
    cases decide (x < 0) <;> rfl
  exact key realC
theorem with_ok (H : Ok t c) {starts : List Int} (R : RightS t c starts) : m_sched_with (t, c, starts, ()) = some ((some (planS t c), 0, 0, ()), ()) := by
  have hn := H.n120
  have hsl : starts.length < 4294967290 := by rw [R.len]; omega
  have key : ∀ (C : Cmb) [CmbOk C], M_sched_with C (t, c, starts, ()) = some ((some (planS t c), 0, 0, ()), ()) := by
    intro C _
    unfold M_sched_with
    dsimp only
    rw [opened_eq H.sm H.n40, Option.elim_some, H.e, if_pos rfl]
    dsimp only
    rw [show ((0 : Int) != Int.ofNat 0) = false from rfl, cond_false, len_ne, decide_eq_false (by simp [R.len]), cond_false, join_real]
    have hany : starts.any (fun x => decide (x < 0) || decide (x > 100000)) = false := by
      rw [List.any_eq_false]
      intro x hx
      have := R.bd x hx
      simp; omega
    refine (loop_any2 (l := starts) (p := fun x => decide (x < 0) || decide (x > 100000)) (R := some ((none, 0, 3, ()), ())) (E := some ((some (planS t c), 0, 0, ()), ())) (n := fuelL) st1 (fuel_big (by omega)) (fun k hk again => ?_) fun again => ?_).trans (by rw [hany]; rfl)
    · simp only [cast0, ofNat_c, lt_cast, decide_true, decide_false, cond_true, cond_false, inB_cast, grd_real, join_real, Int.toNat_natCast, Option.elim_some, Bool.true_and, Bool.false_or, Bool.or_true, Bool.and_true, Bool.or_false, cond_tf, hk, getD_in hk, with1_eq, wrap_nat (show k < 4294967296 by omega)]
      cases decide (starts[k] < 0) || decide (starts[k] > 100000) with
      | true => simp only [cond_true, show geI ((k : Nat) : Int) 0 = true by simp [geI]]; rfl
      | false => rfl
    · simp only [cast0, ofNat_c, lt_cast, decide_true, decide_false, cond_true, cond_false, inB_cast, grd_real, join_real, Int.toNat_natCast, Option.elim_some, Bool.true_and, Bool.false_or, Bool.or_true, Bool.and_true, Bool.or_false, cond_tf, Nat.lt_irrefl, show geI (Int.negSucc 0) 0 = false from rfl]
      refine loop_run (fun k => st1 k) starts.length fuelL (fuel_big (by omega)) (fun i hi again => ?_) fun again => ?_
      · have hic : i < c.2.2.1.length := by rw [← R.len]; exact hi
        have hs := R.at_ hic
        have hbn : Bnd 1000000 starts := fun x hx => by have := R.bd x hx; omega
        dsimp only
        rw [lt_cast, decide_eq_true hi, cond_true, inB_cast, decide_eq_true hi, cond_true]
        unfold planS
        rw [p_after H hic (by omega) hbn, Option.elim_some]
        dsimp only
        rw [Int.toNat_natCast, show geI (starts.getD i 0) (aftP t c i starts) = true by have := R.af i hic; simpa [geI] using this]
        simp only [Bool.not_true, cond_false]
        refine loop_run (fun k => st1 k) i fuelL (fuel_big (by omega)) (fun j hj again => ?_) fun again => ?_
        · have hjc : j < c.2.2.1.length := by omega
          have hsj := R.at_ hjc
          have hno := R.no i hic j hj
          unfold hitB at hno
          simp only [cast0, ofNat_c, lt_cast, decide_true, decide_false, cond_true, cond_false, inB_cast, grd_real, join_real, Int.toNat_natCast, Option.elim_some, Bool.true_and, Bool.false_or, Bool.or_true, Bool.and_true, Bool.or_false, cond_tf, hj, p_disturb H hic hjc H.says, wrap_nat (show j < 4294967296 by omega)]
          cases hd : distM (noisyB t) (gt c i) (gt c j) with
          | false => simp only [cond_false]
          | true =>
            rw [hd, Bool.true_and] at hno
            simp only [cond_true, hi, show j < starts.length by omega, decide_true, p_on H hic (s := starts.getD i 0) (by omega), p_on H hjc (s := starts.getD j 0) (by omega), Option.elim_some, p_over (H.lenB hic).1 (H.lenB hjc).1, hno, cond_false]
        · simp only [cast0, ofNat_c, lt_cast, decide_true, decide_false, cond_true, cond_false, inB_cast, grd_real, join_real, Int.toNat_natCast, Option.elim_some, Bool.true_and, Bool.false_or, Bool.or_true, Bool.and_true, Bool.or_false, cond_tf, Nat.lt_irrefl, Bool.not_true, wrap_nat (show i < 4294967296 by omega)]
      · dsimp only
        rw [lt_cast, decide_eq_false (Nat.lt_irrefl _), cond_false]
  exact key realC
theorem right_ok (H : Ok t c) {starts : List Int} (R : RightS t c starts) : m_sched_Right (t, c, starts, ()) = some ((0, 0, ()), ()) := by
  show (m_sched_with (t, c, starts, ())).elim none _ = _
  rw [with_ok H R]; rfl
theorem early_ok (H : Ok t c) : ∃ l, (Soon t c (noisyB t) l ∧ l.length = c.2.2.1.length) ∧ m_sched_Early (t, c, ()) = some (le 0 l) := by
  obtain ⟨l, hS, hp⟩ := p_early H H.says
  refine ⟨l, hS, ?_⟩
  show (m_sched_opened (t, c, ())).elim none _ = _
  rw [opened_eq H.sm H.n40, Option.elim_some, H.e, if_pos rfl]
  show (m_sched_plan_early (planS t c, ())).elim none _ = _
  unfold planS
  rw [hp]; rfl
theorem Soon.right (H : Ok t c) {l : List Int} (S : Soon t c (noisyB t) l) (hl : l.length = c.2.2.1.length) : RightS t c l := by
  have hn := H.n120
  refine ⟨hl, fun x hx => ?_, fun i hi => (S.is i (by omega)).ge, fun i hi j hj => (S.is i (by omega)).no j hj⟩
  obtain ⟨j, hj, rfl⟩ := List.getElem_of_mem hx
  have := S.bd j hj
  rw [getD_in hj] at this
  omega
end Go.Canon
namespace Go.Canon
set_option linter.unusedVariables false
set_option linter.unusedSimpArgs false
set_option linter.unusedSectionVars false
open Go
variable {t : Clk} {c : Circ}
def wr2 (x y : Gate) : Bool := x.1 == 13 && (y.2.2.2.1 == IntKind.i64.wrap (x.2.2.1 + 1) || (y.1 == 13 && y.2.2.1 == x.2.2.1))
theorem holds2_eq {x y : Gate} : m_spoondriftlaw24_holds_2 (x, y, ()) = some (b1 (wr2 x y)) := by
  have key : ∀ (C : Cmb) [CmbOk C], M_spoondriftlaw24_holds_2 C (x, y, ()) = some (b1 (wr2 x y)) := by
    intro C _
    unfold M_spoondriftlaw24_holds_2 wr2
    simp only [join_real]
    have e13 : (Int.ofNat 13 : Int) = 13 := rfl
    have e1 : (Int.ofNat 1 : Int) = 1 := rfl
    rw [e13, e1]
    cases x.1 == 13 <;> cases y.2.2.2.1 == IntKind.i64.wrap (x.2.2.1 + 1) <;> cases y.1 == 13 <;> rfl
  exact key realC
theorem wr2_meet {g h : Gate} : (g.2.1.any (fun w => h.2.1.contains w) || (wr2 g h || wr2 h g)) = meetB g h := by
  unfold meetB touchB wr2
  have e : (g.2.2.1 == h.2.2.1) = (h.2.2.1 == g.2.2.1) := BEq.comm
  rw [e]
  cases g.2.1.any (fun w => h.2.1.contains w) <;> cases g.1 == 13 <;> cases h.1 == 13 <;> cases h.2.2.2.1 == IntKind.i64.wrap (g.2.2.1 + 1) <;> cases h.2.2.1 == g.2.2.1 <;> cases g.2.2.2.1 == IntKind.i64.wrap (h.2.2.1 + 1) <;> rfl
theorem l_holds (H : Ok t c) {i j : Nat} (hi : i < c.2.2.1.length) (hj : j < c.2.2.1.length) : m_spoondriftlaw24_holds (t, gt c j, gt c i, ()) = some ((lenG t (gt c j) + lateG t (gt c j) (gt c i), meetB (gt c j) (gt c i), ()), ()) := by
  obtain ⟨k1, k2⟩ := H.kind hj
  have hl := H.lenB hj
  have hw := H.bnd.2
  have g1 : (gt c j).2.1.length < 4294967296 := Nat.lt_of_le_of_lt (H.sm.2 _ (gt_mem hj)) (by decide)
  have g2 : (gt c i).2.1.length < 4294967296 := Nat.lt_of_le_of_lt (H.sm.2 _ (gt_mem hi)) (by decide)
  have key : ∀ (C : Cmb) [CmbOk C], M_spoondriftlaw24_holds C (t, gt c j, gt c i, ()) = some ((lenG t (gt c j) + lateG t (gt c j) (gt c i), meetB (gt c j) (gt c i), ()), ()) := by
    intro C _
    unfold M_spoondriftlaw24_holds
    rw [← wr2_meet]
    generalize hg : gt c j = g at *
    generalize hh : gt c i = h at *
    have ew : IntKind.i64.wrap (g.1 - Int.ofNat 1) = g.1 - 1 := wrap_in (by simp; omega) (by simp; omega)
    have hin : inB (g.1 - 1) t.1.length = true := inB_z (by omega) (by rw [H.len14]; omega)
    have ewl : IntKind.i64.wrap (lenG t g + t.2.1) = lenG t g + t.2.1 := wrap_in (by omega) (by omega)
    have e13 : (Int.ofNat 13 : Int) = 13 := rfl
    have e1 : (Int.ofNat 1 : Int) = 1 := rfl
    have fin : ∀ b : Bool, (bif inB (IntKind.i64.wrap (g.1 - Int.ofNat 1)) t.1.length then (bif g.1 == Int.ofNat 13 then
        (bif (bif true then h.2.2.2.1 == IntKind.i64.wrap (g.2.2.1 + Int.ofNat 1) else false) then
          (bif b then some (((IntKind.i64.wrap (t.1.getD (IntKind.i64.wrap (g.1 - Int.ofNat 1)).toNat 0 + t.2.1), true, ()), ()) : (Int × Bool × Unit) × Unit) else (m_spoondriftlaw24_holds_2 (g, h, ())).elim none fun val => bif (bif false then true else val.1.1) then some ((IntKind.i64.wrap (t.1.getD (IntKind.i64.wrap (g.1 - Int.ofNat 1)).toNat 0 + t.2.1), true, ()), ()) else (m_spoondriftlaw24_holds_2 (h, g, ())).elim none fun val => some ((IntKind.i64.wrap (t.1.getD (IntKind.i64.wrap (g.1 - Int.ofNat 1)).toNat 0 + t.2.1), (bif false then true else val.1.1), ()), ()))
         else (bif b then some ((t.1.getD (IntKind.i64.wrap (g.1 - Int.ofNat 1)).toNat 0, true, ()), ()) else (m_spoondriftlaw24_holds_2 (g, h, ())).elim none fun val => bif (bif false then true else val.1.1) then some ((t.1.getD (IntKind.i64.wrap (g.1 - Int.ofNat 1)).toNat 0, true, ()), ()) else (m_spoondriftlaw24_holds_2 (h, g, ())).elim none fun val => some ((t.1.getD (IntKind.i64.wrap (g.1 - Int.ofNat 1)).toNat 0, (bif false then true else val.1.1), ()), ())))
        else (bif false then (bif b then some ((IntKind.i64.wrap (t.1.getD (IntKind.i64.wrap (g.1 - Int.ofNat 1)).toNat 0 + t.2.1), true, ()), ()) else (m_spoondriftlaw24_holds_2 (g, h, ())).elim none fun val => bif (bif false then true else val.1.1) then some ((IntKind.i64.wrap (t.1.getD (IntKind.i64.wrap (g.1 - Int.ofNat 1)).toNat 0 + t.2.1), true, ()), ()) else (m_spoondriftlaw24_holds_2 (h, g, ())).elim none fun val => some ((IntKind.i64.wrap (t.1.getD (IntKind.i64.wrap (g.1 - Int.ofNat 1)).toNat 0 + t.2.1), (bif false then true else val.1.1), ()), ()))
         else (bif b then some ((t.1.getD (IntKind.i64.wrap (g.1 - Int.ofNat 1)).toNat 0, true, ()), ()) else (m_spoondriftlaw24_holds_2 (g, h, ())).elim none fun val => bif (bif false then true else val.1.1) then some ((t.1.getD (IntKind.i64.wrap (g.1 - Int.ofNat 1)).toNat 0, true, ()), ()) else (m_spoondriftlaw24_holds_2 (h, g, ())).elim none fun val => some ((t.1.getD (IntKind.i64.wrap (g.1 - Int.ofNat 1)).toNat 0, (bif false then true else val.1.1), ()), ())))) else none)
        = some ((lenG t g + lateG t g h, b || (wr2 g h || wr2 h g), ()), ()) := by
      intro b
      rw [ew, hin, cond_true, e13, e1, holds2_eq, holds2_eq]
      simp only [Option.elim_some, show t.1.getD (g.1 - 1).toNat 0 = lenG t g from rfl, ewl, cond_true, cond_false]
      unfold lateG
      cases g.1 == 13 <;> cases h.2.2.2.1 == IntKind.i64.wrap (g.2.2.1 + 1) <;> cases b <;> cases wr2 g h <;> simp
    dsimp only
    simp only [grd_real, join_real]
    refine (loop_any2 (l := g.2.1) (p := fun w => h.2.1.contains w) (R := some ((lenG t g + lateG t g h, true || (wr2 g h || wr2 h g), ()), ())) (E := some ((lenG t g + lateG t g h, false || (wr2 g h || wr2 h g), ()), ())) (n := fuelL) st1 (fuel_big g1) (fun k hk again => ?_) fun again => ?_).trans ?_
    · rw [← fin true]
      simp only [cast0, ofNat_c, lt_cast, decide_true, cond_true, cond_false, inB_cast, Int.toNat_natCast, hk, getD_in hk, contains_eq g2, Option.elim_some, wrap_nat (show k < 4294967296 by omega), show geI ((k : Nat) : Int) 0 = true by simp [geI]]
    · rw [← fin false]
      simp only [cast0, ofNat_c, lt_cast, Nat.lt_irrefl, decide_false, cond_false, cond_true, show geI (Int.negSucc 0) 0 = false from rfl]
    · cases g.2.1.any fun w => h.2.1.contains w <;> rfl
  exact key realC
theorem gt1 {n : Nat} : gtI (Int.ofNat n) (Int.ofNat 1) = decide (1 < n) := by
  unfold gtI
  exact decide_eq_decide.2 (by show (Int.ofNat 1 < Int.ofNat n) ↔ _; exact Int.ofNat_lt)
def disP (g h : Gate) (p : List Int) : Bool := (g.2.1.contains (p.getD 0 0) && h.2.1.contains (p.getD 1 0)) || (g.2.1.contains (p.getD 1 0) && h.2.1.contains (p.getD 0 0))
def disL (t : Clk) (g h : Gate) : Bool := decide (1 < g.2.1.length) && (decide (1 < h.2.1.length) && t.2.2.1.any (disP g h))
theorem l_disturbs {g h : Gate} (g1 : g.2.1.length < 4294967296) (g2 : h.2.1.length < 4294967296) (hn : t.2.2.1.length < 4294967290) : m_spoondriftlaw24_disturbs (t, g, h, ()) = some (b1 (disL t g h)) := by
  have key : ∀ (C : Cmb) [CmbOk C], M_spoondriftlaw24_disturbs C (t, g, h, ()) = some (b1 (disL t g h)) := by
    intro C _
    unfold M_spoondriftlaw24_disturbs disL
    simp only [join_real, gt1]
    cases decide (1 < g.2.1.length) with
    | false => rfl
    | true =>
      cases decide (1 < h.2.1.length) with
      | false => rfl
      | true =>
        simp only [cond_true, Bool.true_and]
        refine (loop_any2 (l := t.2.2.1) (p := disP g h) (R := some (b1 true)) (E := some (b1 false)) (n := fuelL) st1 (fuel_big (by omega)) (fun k hk again => ?_) fun again => ?_).trans ?_
        · simp only [cast0, ofNat_c, lt_cast, decide_true, decide_false, cond_true, cond_false, inB_cast, grd_real, join_real, Int.toNat_natCast, Option.elim_some, Bool.true_and, Bool.false_or, Bool.or_true, Bool.and_true, Bool.or_false, cond_tf, hk, getD_in hk, contains_eq g1, contains_eq g2, wrap_nat (show k < 4294967296 by omega), toN0, ltb0, ltb1, show geI ((k : Nat) : Int) 0 = true by simp [geI]]
          unfold disP
          cases g.2.1.contains ((t.2.2.1[k]).getD 0 0) <;> cases h.2.1.contains ((t.2.2.1[k]).getD 1 0) <;> cases g.2.1.contains ((t.2.2.1[k]).getD 1 0) <;> cases h.2.1.contains ((t.2.2.1[k]).getD 0 0) <;> rfl
        · simp only [cast0, ofNat_c, lt_cast, decide_true, decide_false, cond_true, cond_false, inB_cast, grd_real, join_real, Int.toNat_natCast, Option.elim_some, Bool.true_and, Bool.false_or, Bool.or_true, Bool.and_true, Bool.or_false, cond_tf, Nat.lt_irrefl, show geI (Int.negSucc 0) 0 = false from rfl]
        · cases t.2.2.1.any (disP g h) <;> rfl
  exact key realC
/-- Told anew or not, the same gates disturb one another. -/
theorem dis_same {g h : Gate} : (!meetB g h && disL t g h) = distM (noisyB t) g h := by
  unfold disL distM
  have e : (t.2.2.1.any (disP g h)) = (g.2.1.any fun a => h.2.1.any fun b => noisyB t a b) := by
    rw [Bool.eq_iff_iff]
    simp only [List.any_eq_true, noisyB, disP, Bool.or_eq_true, Bool.and_eq_true, List.contains_iff_mem, beq_iff_eq]
    constructor
    · rintro ⟨p, hp, ⟨a, b⟩ | ⟨a, b⟩⟩
      · exact ⟨_, a, _, b, p, hp, .inl ⟨rfl, rfl⟩⟩
      · exact ⟨_, a, _, b, p, hp, .inr ⟨rfl, rfl⟩⟩
    · rintro ⟨a, ha, b, hb, p, hp, ⟨rfl, rfl⟩ | ⟨rfl, rfl⟩⟩
      · exact ⟨p, hp, .inl ⟨ha, hb⟩⟩
      · exact ⟨p, hp, .inr ⟨ha, hb⟩⟩
  rw [e]
  by_cases h1 : 1 < g.2.1.length
  · by_cases h2 : 1 < h.2.1.length
    · rw [decide_eq_true h1, decide_eq_true h2, decide_eq_false (show ¬ g.2.1.length < 2 by omega), decide_eq_false (show ¬ h.2.1.length < 2 by omega)]
      simp
    · rw [decide_eq_false h2, decide_eq_true (show h.2.1.length < 2 by omega)]
      simp
  · rw [decide_eq_false h1, decide_eq_true (show g.2.1.length < 2 by omega)]
    simp
def badB (t : Clk) (c : Circ) (starts : List Int) (i j : Nat) : Bool :=
  (meetB (gt c j) (gt c i) && decide (starts.getD i 0 < starts.getD j 0 + (lenG t (gt c j) + lateG t (gt c j) (gt c i)))) || (distM (noisyB t) (gt c j) (gt c i) && overB (starts.getD i 0) (lenG t (gt c i)) (starts.getD j 0) (lenG t (gt c j)))
def oneB (t : Clk) (c : Circ) (starts : List Int) (i : Nat) : Bool := (decide (starts.getD i 0 < 0) || decide (starts.getD i 0 > 5000)) || (List.range i).any (badB t c starts i)
def fineB (t : Clk) (c : Circ) (starts : List Int) : Bool := decide (starts.length = c.2.2.1.length) && !(List.range c.2.2.1.length).any (oneB t c starts)
theorem take_get {l : List Gate} {i j : Nat} (hj : j < i) {d : Gate} : (l.take i).getD j d = l.getD j d := by
  rw [List.getD_eq_getElem?_getD, List.getD_eq_getElem?_getD, List.getElem?_take_of_lt hj]
theorem l_fine (H : Ok t c) {starts : List Int} (hb : Bnd 1000000 starts) : m_spoondriftlaw24_fine (t, c, starts, ()) = some (b1 (fineB t c starts)) := by
  have hn := H.n120
  have h40 := H.n40
  have key : ∀ (C : Cmb) [CmbOk C], M_spoondriftlaw24_fine C (t, c, starts, ()) = some (b1 (fineB t c starts)) := by
    intro C _
    unfold M_spoondriftlaw24_fine fineB
    dsimp only
    rw [len_ne]
    by_cases hl : starts.length = c.2.2.1.length
    · rw [decide_eq_false (by simp [hl]), cond_false, decide_eq_true hl, Bool.true_and]
      have hat : ∀ i, i < c.2.2.1.length → -1000000 ≤ starts.getD i 0 ∧ starts.getD i 0 ≤ 1000000 := fun i hi => by
        have hi2 : i < starts.length := by omega
        rw [getD_in hi2]
        exact hb _ (List.getElem_mem hi2)
      refine (loop_any2 (l := List.range c.2.2.1.length) (p := oneB t c starts) (R := some (b1 false)) (E := some (b1 true)) (n := fuelL) st1 (by simp; exact fuel_big (by omega)) (fun i hi again => ?_) fun again => ?_).trans ?_
      · have hic : i < c.2.2.1.length := by simpa using hi
        rw [getD_range hi]
        have hsi := hat i hic
        have g2 : (gt c i).2.1.length < 4294967296 := Nat.lt_of_le_of_lt (H.sm.2 _ (gt_mem hic)) (by decide)
        simp only [cast0, ofNat_c, lt_cast, decide_true, decide_false, cond_true, cond_false, inB_cast, grd_real, join_real, Int.toNat_natCast, Option.elim_some, Bool.true_and, Bool.false_or, Bool.or_true, Bool.and_true, Bool.or_false, cond_tf, hic, hl, le_cast, nn_cast, show ltI (starts.getD i 0) 0 = decide (starts.getD i 0 < 0) from rfl, show gtI (starts.getD i 0) ((5000 : Nat) : Int) = decide (starts.getD i 0 > 5000) from rfl, show i ≤ c.2.2.1.length by omega]
        unfold oneB
        cases hr : decide (starts.getD i 0 < 0) || decide (starts.getD i 0 > 5000) with
        | true =>
          rw [Bool.true_or, cond_true]
          cases h0 : decide (starts.getD i 0 < 0) with
          | true => simp only [cond_true]
          | false => rw [h0, Bool.false_or] at hr; simp only [cond_false, hr, cond_true]
        | false =>
          simp only [Bool.or_eq_false_iff] at hr
          simp only [hr.1, hr.2, cond_false, Bool.false_or]
          refine (loop_any2 (l := List.range i) (p := badB t c starts i) (R := some (b1 false)) (E := again (st1 (i + 1))) (n := fuelL) st1 (by simp; exact fuel_big (by omega)) (fun j hj again2 => ?_) fun again2 => ?_)
          · have hji : j < i := by simpa using hj
            have hjc : j < c.2.2.1.length := by omega
            rw [getD_range hj]
            have hsj := hat j hjc
            have g1 : (gt c j).2.1.length < 4294967296 := Nat.lt_of_le_of_lt (H.sm.2 _ (gt_mem hjc)) (by decide)
            have hli := H.lenB hic
            have hlj := H.lenB hjc
            have hla := H.lateB (g := gt c j) (h := gt c i)
            obtain ⟨k1, k2⟩ := H.kind hic
            obtain ⟨k3, k4⟩ := H.kind hjc
            simp only [cast0, ofNat_c, lt_cast, decide_true, decide_false, cond_true, cond_false, inB_cast, grd_real, join_real, Int.toNat_natCast, Option.elim_some, Bool.true_and, Bool.false_or, Bool.or_true, Bool.and_true, Bool.or_false, cond_tf, List.length_take, hji, hjc, hic, show j < min i c.2.2.1.length by omega, take_get hji]
            rw [show c.2.2.1.getD j (0, [], 0, 0, ()) = gt c j from rfl, show c.2.2.1.getD i (0, [], 0, 0, ()) = gt c i from rfl, l_holds H hic hjc]
            dsimp only [Option.elim_some]
            have e1 : ((1 : Nat) : Int) = 1 := rfl
            simp only [Option.elim_some, l_disturbs g1 g2 (show t.2.2.1.length < 4294967290 by omega), e1]
            rw [wrap_in (a := starts.getD j 0 + (lenG t (gt c j) + lateG t (gt c j) (gt c i))) (by omega) (by omega), wrap_in (a := (gt c j).1 - 1) (by omega) (by omega), wrap_in (a := (gt c i).1 - 1) (by omega) (by omega),
              show t.1.getD ((gt c j).1 - 1).toNat 0 = lenG t (gt c j) from rfl, show t.1.getD ((gt c i).1 - 1).toNat 0 = lenG t (gt c i) from rfl, wrap_in (a := starts.getD j 0 + lenG t (gt c j)) (by omega) (by omega), wrap_in (a := starts.getD i 0 + lenG t (gt c i)) (by omega) (by omega),
              inB_z (z := (gt c j).1 - 1) (n := t.1.length) (by omega) (by rw [H.len14]; omega), inB_z (z := (gt c i).1 - 1) (n := t.1.length) (by omega) (by rw [H.len14]; omega)]
            unfold badB overB
            rw [← dis_same (t := t) (g := gt c j) (h := gt c i)]
            have w1 : IntKind.i64.wrap ((j : Int) + 1) = ((j + 1 : Nat) : Int) := wrap_nat (by omega)
            simp only [w1, ltI, cond_true]
            cases meetB (gt c j) (gt c i) <;> cases decide (starts.getD i 0 < starts.getD j 0 + (lenG t (gt c j) + lateG t (gt c j) (gt c i))) <;> cases disL t (gt c j) (gt c i) <;> cases decide (starts.getD i 0 < starts.getD j 0 + lenG t (gt c j)) <;> cases decide (starts.getD j 0 < starts.getD i 0 + lenG t (gt c i)) <;> rfl
          · simp only [cast0, ofNat_c, lt_cast, decide_true, decide_false, cond_true, cond_false, inB_cast, grd_real, join_real, Int.toNat_natCast, Option.elim_some, Bool.true_and, Bool.false_or, Bool.or_true, Bool.and_true, Bool.or_false, cond_tf, List.length_range, List.length_take, show ¬ i < min i c.2.2.1.length by omega, wrap_nat (show i < 4294967296 by omega)]
      · simp only [cast0, ofNat_c, lt_cast, decide_true, decide_false, cond_true, cond_false, inB_cast, grd_real, join_real, Int.toNat_natCast, Option.elim_some, Bool.true_and, Bool.false_or, Bool.or_true, Bool.and_true, Bool.or_false, cond_tf, List.length_range, Nat.lt_irrefl]
      · cases (List.range c.2.2.1.length).any (oneB t c starts) <;> rfl
    · rw [decide_eq_true (by simpa using hl), cond_true, decide_eq_false hl]; rfl
  exact key realC
end Go.Canon
namespace Go.Canon
set_option linter.unusedVariables false
set_option linter.unusedSimpArgs false
set_option linter.unusedSectionVars false
open Go
variable {t : Clk} {c : Circ}
theorem aft_nn {i : Nat} {l : List Int} : 0 ≤ aftP t c i l := (aft_le.1 (Int.le_refl (aftP t c i l))).1
theorem aft_at {i j : Nat} {l : List Int} (hj : j < i) (hm : meetB (gt c j) (gt c i) = true) : l.getD j 0 + (lenG t (gt c j) + lateG t (gt c j) (gt c i)) ≤ aftP t c i l := (aft_le.1 (Int.le_refl (aftP t c i l))).2 j hj hm
theorem aft_mono {i : Nat} {a b : List Int} (h : ∀ j, j < i → a.getD j 0 ≤ b.getD j 0) : aftP t c i a ≤ aftP t c i b :=
  aft_le.2 ⟨aft_nn, fun j hj hm => by have := aft_at (t := t) (l := b) hj hm; have := h j hj; omega⟩
/-- Right starts that are not too late are fine. -/
theorem RightS.fine {l : List Int} (R : RightS t c l) (hb : ∀ x ∈ l, x ≤ 5000) : fineB t c l = true := by
  unfold fineB
  rw [decide_eq_true R.len, Bool.true_and]
  have : (List.range c.2.2.1.length).any (oneB t c l) = false := by
    rw [List.any_eq_false]
    intro i hi
    have hi := List.mem_range.1 hi
    have hi2 : i < l.length := by rw [R.len]; exact hi
    have h1 := R.at_ hi
    have h2 : l.getD i 0 ≤ 5000 := by rw [getD_in hi2]; exact hb _ (List.getElem_mem hi2)
    have h3 : (List.range i).any (badB t c l i) = false := by
      rw [List.any_eq_false]
      intro j hj
      have hj := List.mem_range.1 hj
      have hno := R.no i hi j hj
      unfold hitB at hno
      rw [dist_symm fun a b => noisy_symm] at hno
      unfold badB
      rw [hno, Bool.or_false]
      cases hm : meetB (gt c j) (gt c i) with
      | false => simp
      | true =>
        have := aft_at (t := t) (l := l) hj hm
        have := R.af i hi
        rw [Bool.true_and, decide_eq_true_eq]; omega
    unfold oneB
    rw [h3, decide_eq_false (show ¬ l.getD i 0 < 0 by omega), decide_eq_false (show ¬ l.getD i 0 > 5000 by omega)]
    exact Bool.false_ne_true
  rw [this]; rfl
/-- Some of the gates, not more. -/
theorem Ok.sub (H : Ok t c) {l : List Gate} (hs : ∀ g ∈ l, g ∈ c.2.2.1) (hl : l.length ≤ c.2.2.1.length) : Ok t (c.1, c.2.1, l, ()) := by
  have hk : Go.Canon.chk (c.1, c.2.1, l, ()) = 0 := by
    have hp := (chk_parts H.chk).1
    have hn := H.n120
    unfold Go.Canon.chk
    have e : ((decide (c.1 < 1) || decide (c.1 > 12)) || (decide (c.2.1 < 0) || decide (c.2.1 > 8))) = false := by
      simp; omega
    dsimp only
    rw [e, cond_false, if_neg (by omega)]
    unfold gatesE
    rw [if_neg]
    rw [find_any, List.any_eq_true]
    rintro ⟨g, hg, h⟩
    rw [chk_gate H.chk (hs g hg)] at h
    cases h
  refine ⟨⟨by have := H.sm.1; show l.length ≤ 130; omega, fun g hg => H.sm.2 g (hs g hg)⟩, H.n40, ?_, H.two⟩
  have he := H.e
  unfold chk24 at he ⊢
  rw [if_neg (by simp [H.clk])] at he ⊢
  rw [if_neg (by simp [H.chk])] at he
  rw [if_neg (by simp [hk])]
  exact he
theorem gt_take {i j : Nat} (hj : j < i) : gt (c.1, c.2.1, c.2.2.1.take i, ()) j = gt c j := take_get hj
theorem take_app {l : List Int} {i j : Nat} {k : Int} (hj : j < i) (hi : i ≤ l.length) : (l.take i ++ [k]).getD j 0 = l.getD j 0 := by
  rw [List.getD_eq_getElem?_getD, List.getD_eq_getElem?_getD, List.getElem?_append_left (by rw [List.length_take]; omega), List.getElem?_take_of_lt hj]
theorem take_last {l : List Int} {i : Nat} {k : Int} (hi : i ≤ l.length) : (l.take i ++ [k]).getD i 0 = k := by
  rw [List.getD_eq_getElem?_getD, List.getElem?_append_right (by rw [List.length_take]; omega), List.length_take, Nat.min_eq_left hi, Nat.sub_self]; rfl
/-- No gate could begin earlier. -/
theorem early_least {l : List Int} (S : Soon t c (noisyB t) l) (hl : l.length = c.2.2.1.length) {i : Nat} (hi : i < l.length) {k : Int} (hk : k < l.getD i 0) : fineB t (c.1, c.2.1, c.2.2.1.take (i + 1), ()) (l.take i ++ [k]) = false := by
  cases hf : fineB t (c.1, c.2.1, c.2.2.1.take (i + 1), ()) (l.take i ++ [k]) with
  | false => rfl
  | true =>
    exfalso
    unfold fineB at hf
    rw [Bool.and_eq_true, Bool.not_eq_true', List.any_eq_false] at hf
    have h1 := hf.2 i (List.mem_range.2 (by show i < (c.2.2.1.take (i + 1)).length; rw [List.length_take]; omega))
    unfold oneB at h1
    rw [take_last (by omega)] at h1
    simp only [Bool.or_eq_true, not_or, List.any_eq_true, not_exists, not_and, decide_eq_true_eq] at h1
    obtain ⟨⟨h0, _⟩, h2⟩ := h1
    have hb : ∀ j, j < i → (meetB (gt c j) (gt c i) = true → l.getD j 0 + (lenG t (gt c j) + lateG t (gt c j) (gt c i)) ≤ k) ∧ hitB t c (noisyB t) i l k j = false := fun j hj => by
      have h3 := h2 j (List.mem_range.2 hj)
      unfold badB at h3
      rw [take_last (by omega), take_app hj (by omega), gt_take (show j < i + 1 by omega), gt_take (show i < i + 1 by omega)] at h3
      simp only [Bool.or_eq_true, not_or, Bool.and_eq_true, not_and, decide_eq_true_eq] at h3
      refine ⟨fun hm => by have := h3.1 hm; omega, ?_⟩
      unfold hitB
      rw [dist_symm fun a b => noisy_symm]
      cases hd : distM (noisyB t) (gt c j) (gt c i) with
      | false => rfl
      | true => simpa using h3.2 hd
    have hle : aftP t c i l ≤ k := aft_le.2 ⟨by omega, fun j hj hm => (hb j hj).1 hm⟩
    have := (S.is i hi).le k hle fun j hj => (hb j hj).2
    omega
theorem quiet_no {f : Int → Int → Bool} (hf : ∀ a b, f a b = false) {g h : Gate} : distM f g h = false := by
  unfold distM
  have : (g.2.1.any fun a => h.2.1.any fun b => f a b) = false := by
    rw [List.any_eq_false]
    intro a _
    rw [Bool.not_eq_true, List.any_eq_false]
    intro b _
    rw [hf]; simp
  rw [this, Bool.and_false]
theorem early_quiet (hq : t.2.2.1 = []) {l : List Int} (S : Soon t c (noisyB t) l) {i : Nat} (hi : i < l.length) : l.getD i 0 = aftP t c i l := by
  have hf : ∀ a b, noisyB t a b = false := fun a b => by unfold noisyB; rw [hq]; rfl
  have h1 := (S.is i hi).ge
  have h2 := (S.is i hi).le (aftP t c i l) (Int.le_refl _) fun j hj => by unfold hitB; rw [quiet_no hf]; rfl
  omega
/-- Starts that are made one after the other, each some time after it could be. -/
structure LaterS (t : Clk) (c : Circ) (n i : Nat) (l : List Int) : Prop where
  len : l.length = n
  bd : ∀ j, j < i → 0 ≤ l.getD j 0 ∧ l.getD j 0 ≤ 210 * ((j : Int) + 1)
  af : ∀ j, j < i → aftP t c j l ≤ l.getD j 0
theorem setE_get {l : List Int} {i j : Nat} {v : Int} (h : j ≠ i) : (l.set i v).getD j 0 = l.getD j 0 := by
  rw [List.getD_eq_getElem?_getD, List.getD_eq_getElem?_getD, List.getElem?_set_ne (fun e => h e.symm)]
theorem setE_at {l : List Int} {i : Nat} {v : Int} (h : i < l.length) : (l.set i v).getD i 0 = v := by
  rw [List.getD_eq_getElem?_getD, List.getElem?_set_self h]; rfl
theorem LaterS.step (H : Ok t c) {n i : Nat} {l : List Int} (L : LaterS t c n i l) (hi : i < n) (hn : n = c.2.2.1.length) {d : Int} (d0 : 0 ≤ d) (d3 : d ≤ 3) : LaterS t c n (i + 1) (l.set i (aftP t c i l + d)) := by
  have hs : ∀ m, m ≤ i → Same1 m l (l.set i (aftP t c i l + d)) := fun m hm j hj => (setE_get (by omega)).symm
  have hb : aftP t c i l ≤ 210 * (i : Int) + 200 := aft_le.2 ⟨by omega, fun j hj hm => by
    have := L.bd j hj
    have := H.lenB (i := j) (by omega)
    have := H.lateB (g := gt c j) (h := gt c i)
    omega⟩
  have hil : i < l.length := by rw [L.len]; exact hi
  refine ⟨by rw [List.length_set]; exact L.len, fun j hj => ?_, fun j hj => ?_⟩
  · by_cases e : j = i
    · subst e
      rw [setE_at hil]
      have := aft_nn (t := t) (c := c) (i := j) (l := l)
      omega
    · rw [setE_get e]; exact L.bd j (by omega)
  · rw [← aft_same (hs j (by omega))]
    by_cases e : j = i
    · subst e
      rw [setE_at hil]; omega
    · rw [setE_get e]; exact L.af j (by omega)
theorem LaterS.right (H : Ok t c) (hq : t.2.2.1 = []) {l : List Int} (L : LaterS t c c.2.2.1.length c.2.2.1.length l) : RightS t c l := by
  have hn := H.n120
  have hf : ∀ a b, noisyB t a b = false := fun a b => by unfold noisyB; rw [hq]; rfl
  refine ⟨L.len, fun x hx => ?_, fun i hi => L.af i hi, fun i hi j hj => by unfold hitB; rw [quiet_no hf]; rfl⟩
  obtain ⟨j, hj, rfl⟩ := List.getElem_of_mem hx
  have hj2 : j < c.2.2.1.length := by rw [← L.len]; exact hj
  have := L.bd j hj2
  rw [getD_in hj] at this
  omega
theorem LaterS.ge (H : Ok t c) (hq : t.2.2.1 = []) {l a : List Int} (S : Soon t c (noisyB t) l) {n i : Nat} (L : LaterS t c n i a) (hi : i ≤ l.length) : ∀ j, j < i → l.getD j 0 ≤ a.getD j 0 := by
  intro j
  induction j using Nat.strongRecOn with
  | _ j ih =>
    intro hj
    rw [early_quiet hq S (by omega)]
    have := aft_mono (t := t) (c := c) (i := j) (a := l) (b := a) fun m hm => ih m hm (by omega)
    have := L.af j hj
    omega
end Go.Canon
namespace Go.Canon
set_option linter.unusedVariables false
set_option linter.unusedSimpArgs false
set_option linter.unusedSectionVars false
open Go
theorem early_law {numbers more delays : List Int} {noise : Bool} : m_spoondriftlaw24_SchedEarly (numbers, more, delays, noise, ()) = some (b1 true) := by
  have key : ∀ (C : Cmb) [CmbOk C], M_spoondriftlaw24_SchedEarly C (numbers, more, delays, noise, ()) = some (b1 true) := by
    intro C _
    obtain ⟨s0, e0, S0⟩ := of_ok numbers
    obtain ⟨w0, s1, e1, w1, w5, S1⟩ := from_ok S0 (by decide) (lo := Int.ofNat 1) (hi := Int.ofNat 5) (by decide) (by decide) (by decide)
    have w1 : 1 ≤ w0 := w1
    have w5 : w0 ≤ 5 := w5
    obtain ⟨w, rfl⟩ : ∃ w : Nat, w0 = (w : Int) := ⟨w0.toNat, by omega⟩
    obtain ⟨c, s2, e2, G, S2⟩ := steered_ok S1 (w := w) (b := 2) (most := 14) (by omega) (by omega) (by decide) (by decide) (by decide) (by decide)
    obtain ⟨s3, e3, S3⟩ := of_ok more
    obtain ⟨t, s4, e4, K, S4⟩ := ticking_ok S3 (w := w) (noise := noise) (by omega) (by decide)
    have H : Ok t c := K.ok G (by omega) (by omega) (by decide) (by decide)
    obtain ⟨l, ⟨S, hl⟩, e5⟩ := early_ok H
    have R := S.right H hl
    have hn := G.len
    have hb : ∀ i, i < l.length → 0 ≤ l.getD i 0 ∧ l.getD i 0 ≤ 4200 := fun i hi => by have := S.bd i hi; omega
    have hb5 : ∀ x ∈ l, x ≤ 5000 := fun x hx => by
      obtain ⟨i, hi, rfl⟩ := List.getElem_of_mem hx
      have := hb i hi
      rw [getD_in hi] at this
      omega
    have e6 := right_ok H R
    have e7 : m_spoondriftlaw24_fine (t, c, l, ()) = some (b1 true) := by rw [l_fine H (S.bnd H), R.fine hb5]
    have aw : m_spoondriftlaw24_awake () = some (b1 true) := rfl
    unfold M_spoondriftlaw24_SchedEarly
    dsimp only
    rw [e0]
    dsimp only [Option.elim_some]
    rw [e1]
    dsimp only [Option.elim_some]
    rw [show ((Int.ofNat 2 : Int)) = ((2 : Nat) : Int) from rfl, show ((Int.ofNat 14 : Int)) = ((14 : Nat) : Int) from rfl, e2]
    dsimp only [Option.elim_some]
    rw [e3]
    dsimp only [Option.elim_some]
    rw [G.cw, e4]
    dsimp only [Option.elim_some]
    rw [e5]
    dsimp only [Option.elim_some]
    rw [e6]
    dsimp only [Option.elim_some]
    rw [e7]
    dsimp only [Option.elim_some]
    rw [join_real, show ((0 : Int) != Int.ofNat 0) = false from rfl]
    dsimp only [cond_false, cond_true, Bool.not_true]
    refine loop_run (fun k => st1 k) l.length fuelL (fuel_big (by omega)) (fun i hi again => ?_) fun again => ?_
    · have hbi := hb i hi
      dsimp only
      rw [ofNat_c, lt_cast, decide_eq_true hi, cond_true, inB_cast, decide_eq_true hi, grd_real, cond_true, Int.toNat_natCast]
      have w1 : IntKind.i64.wrap ((i : Int) + ((1 : Nat) : Int)) = ((i + 1 : Nat) : Int) := wrap_nat (by omega)
      simp only [show ltB i l.length = true from decide_eq_true hi, grd_real, cond_true, w1, ofNat_c, le_cast, nn_cast, Bool.true_and, show decide (i + 1 ≤ c.2.2.1.length) = true from decide_eq_true (by omega), Int.toNat_natCast]
      obtain ⟨m, hm⟩ : ∃ m : Nat, l.getD i 0 = (m : Int) := ⟨(l.getD i 0).toNat, by omega⟩
      rw [hm]
      refine loop_run (C := C) (fun k => st1 k) m fuelL (fuel_big (by omega)) (fun k hk again2 => ?_) fun again2 => ?_
      · have hzero : (bif l.length.beq 0 then 0 else 0) = 0 := by cases l.length.beq 0 <;> rfl
        have hx : Ok t ((w : Int), c.2.1, c.2.2.1.take (i + 1), ()) := by
          rw [← G.cw]
          exact H.sub (fun g hg => List.mem_of_mem_take hg) (by rw [List.length_take]; omega)
        have hbn : Bnd 1000000 (l.take i ++ [(k : Int)]) := fun x hx => by
          rcases List.mem_append.1 hx with hx | hx
          · exact S.bnd H x (List.mem_of_mem_take hx)
          · rw [List.mem_singleton.1 hx]; omega
        have hfn := early_least S hl hi (k := (k : Int)) (by omega)
        rw [G.cw] at hfn
        have r1 : leN (((l.take i).length + 1) * 8) roomB = true := by
          have : roomB = 1099511627776 := rfl
          refine decide_eq_true ?_
          rw [List.length_take]; omega
        simp only [lt_cast, decide_eq_true hk, cond_true, show decide (i ≤ l.length) = true from decide_eq_true (by omega), hzero, Nat.sub_zero, Nat.zero_add, show Nat.ble i l.length = true from Nat.ble_eq ▸ (show i ≤ l.length by omega), show Nat.beq 1 1 = true from rfl, Bool.true_and, Bool.and_true, List.drop_zero,
          clone_eq (l := l.take i) (by rw [List.length_take]; omega), Option.elim_some, List.length_cons, List.length_nil, Nat.zero_add, r1, l_fine hx hbn, hfn, cond_false]
        rw [show IntKind.i64.wrap ((k : Int) + ((1 : Nat) : Int)) = ((k + 1 : Nat) : Int) from wrap_nat (by omega)]
      · simp only [lt_cast, Nat.lt_irrefl, decide_false, cond_false]
    · dsimp only
      rw [ofNat_c, lt_cast, decide_eq_false (Nat.lt_irrefl _), cond_false]
      cases hnz : noise with
      | true => rw [cond_true, aw]; rfl
      | false =>
        have hq := K.no hnz
        rw [cond_false]
        obtain ⟨s5, e8, S5⟩ := of_ok delays
        rw [e8]
        dsimp only [Option.elim_some]
        have r1 : leN (l.length * 8) roomB = true := by
          have : roomB = 1099511627776 := rfl
          refine decide_eq_true ?_
          omega
        rw [nn_cast, show eqI (l.length : Int) (l.length : Int) = true by simp [eqI], Int.toNat_natCast, r1]
        simp only [Bool.and_true, grd_real, cond_true]
        refine loop_meas (σ := (Int × Unit) × Store × (List Int × Unit) × Unit) (fun x => ∃ i : Nat, i ≤ c.2.2.1.length ∧ x.1.1 = (i : Int) ∧ LaterS t c c.2.2.1.length i x.2.2.1.1 ∧ Sto i x.2.1) (fun x => c.2.2.1.length - x.1.1.toNat) ?step fuelL _ ?init ?fuel
        case init => exact ⟨0, Nat.zero_le _, rfl, ⟨by rw [List.length_replicate, hl], fun j hj => by omega, fun j hj => by omega⟩, S5⟩
        case fuel => exact fuel_big (by dsimp only; omega)
        case step =>
          rintro ⟨⟨i0, _⟩, s6, ⟨a, _⟩, _⟩ ⟨i, hi, h1, L, S6⟩
          dsimp only at h1 L S6
          subst h1
          by_cases hin : i < c.2.2.1.length
          · right
            obtain ⟨d, s7, e9, d0, d4, S7⟩ := less_ok S6 (by omega) (n := ((4 : Nat) : Int)) (by decide)
            have d4 : d < 4 := d4
            have w1 : IntKind.i64.wrap ((i : Int) + ((1 : Nat) : Int)) = ((i + 1 : Nat) : Int) := wrap_nat (by omega)
            have hbn : 0 ≤ aftP t c i a ∧ aftP t c i a ≤ 210 * (i : Int) + 200 := ⟨aft_nn, aft_le.2 ⟨by omega, fun j hj hm => by
              have := L.bd j hj
              have := H.lenB (i := j) (by omega)
              have := H.lateB (g := gt c j) (h := gt c i)
              omega⟩⟩
            refine ⟨((((i + 1 : Nat) : Int), ()), s7, (a.set i (aftP t c i a + d), ()), ()), ⟨i + 1, hin, rfl, L.step H hin rfl d0 (by omega), S7⟩, by dsimp only; omega, fun again => ?_⟩
            simp only [ofNat_c]
            rw [lt_cast, decide_eq_true hin, cond_true, inB_cast, decide_eq_true hin, cond_true, nn_cast, le_cast, decide_eq_true (show i ≤ c.2.2.1.length by omega), Bool.true_and, cond_true, Int.toNat_natCast]
            have hge : ¬ aftP t c i a < l.getD i 0 := by
              rw [early_quiet hq S (by omega)]
              have := aft_mono (t := t) (c := c) (i := i) (a := l) (b := a) (L.ge H hq S (by omega))
              omega
            refine (loop_fold (l := List.range i) (f := aftStep t c i a) (E := fun z => bif decide (z < l.getD i 0) then some (b1 false) else (m_spoondriftkit_Store_Less (s6, ((4 : Nat) : Int), ())).elim none fun val => again ((((i + 1 : Nat) : Int), ()), val.2, (a.set i (IntKind.i64.wrap (z + val.1.1)), ()), ())) (fun (k : Nat) (m : Int) => (((m, (k : Int), ()), ()) : (Int × Int × Unit) × Unit)) (n := fuelL) (by simp; exact fuel_big (by omega)) (fun k hk again2 => ?_) fun again2 => ?_).trans ?_
            · have hki : k < i := by simpa using hk
              have hkc : k < c.2.2.1.length := by omega
              rw [getD_range hk]
              generalize List.foldl (aftStep t c i a) 0 (List.take k (List.range i)) = m0
              have hbk := L.bd k hki
              have hlk := H.lenB hkc
              have hla := H.lateB (g := gt c k) (h := gt c i)
              have hal : k < a.length := by rw [L.len]; exact hkc
              simp only [join_real, lt_cast, List.length_take, show k < min i c.2.2.1.length by omega, decide_true, cond_true, inB_cast, Int.toNat_natCast, take_get hki]
              rw [show c.2.2.1.getD k (0, [], 0, 0, ()) = gt c k from rfl, show c.2.2.1.getD i (0, [], 0, 0, ()) = gt c i from rfl, l_holds H hin hkc]
              dsimp only [Option.elim_some]
              rw [show IntKind.i64.wrap ((k : Int) + ((1 : Nat) : Int)) = ((k + 1 : Nat) : Int) from wrap_nat (by omega)]
              unfold aftStep
              cases meetB (gt c k) (gt c i) with
              | false => rfl
              | true =>
                simp only [cond_true, hal, decide_true, show ltB k a.length = true from decide_eq_true hal]
                rw [wrap_in (by omega) (by omega), Int.add_assoc]; rfl
            · simp only [lt_cast, List.length_take, List.length_range, show ¬ i < min i c.2.2.1.length by omega, decide_false, cond_false, inB_cast, show i < l.length by omega, decide_true, cond_true, Int.toNat_natCast, show ltB i l.length = true from decide_eq_true (by omega), w1,
                L.len, hin, show ltB i c.2.2.1.length = true from decide_eq_true hin]
              rfl
            · show (bif decide (aftP t c i a < l.getD i 0) then some (b1 false) else (m_spoondriftkit_Store_Less (s6, ((4 : Nat) : Int), ())).elim none fun val => again ((((i + 1 : Nat) : Int), ()), val.2, (a.set i (IntKind.i64.wrap (aftP t c i a + val.1.1)), ()), ())) = _
              rw [decide_eq_false hge, cond_false, e9]
              dsimp only [Option.elim_some]
              rw [wrap_in (by omega) (by omega)]
          · left
            obtain rfl : i = c.2.2.1.length := by omega
            intro again
            simp only [ofNat_c]
            rw [lt_cast, decide_eq_false hin, cond_false, right_ok H (L.right H hq)]
            dsimp only [Option.elim_some]
            rw [aw, join_real]; rfl
  exact key realC
end Go.Canon
