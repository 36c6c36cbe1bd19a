/- SchedEarly, part 0: the canonical machine and the runs of the program's functions on it. No conditions. -/
import Derived.Below
import Derived.ChangeKeysEq
import Derived.KernelRfl
import Derived.Laws.Cells
import Derived.Laws.CopyRow
import Derived.Laws.Entries
import Derived.Laws.Sem
import Derived.Laws.StructEq
import Derived.Laws.World
import Derived.OrdersIn
import Derived.RangeFuncLeaves
import Derived.WideKeyRuns
set_option linter.unusedSectionVars false
set_option linter.unusedVariables false
set_option linter.unusedSimpArgs false
namespace Go.Canon
set_option linter.unusedVariables false
set_option linter.unusedSimpArgs false
open Go
/-- An operand: a slot or a constant. -/
inductive KO where
  | t (n : Nat)
  | c (v : Value)
  deriving Inhabited
/-- The operations. -/
inductive KOp where
  | mv (x : KO)
  | pick (c a b : KO)
  | new (zero : List Value)
  | box (x : KO)
  | mk (zero : List Value) (parts : List (Nat × Nat × KO))
  | mkS (zero : List Value) (len : Nat) (parts : List (Nat × Nat × KO))
  | ld (x : KO) (n : Option Nat)
  | st (x v : KO) (n : Nat)
  | bin (op : BinOp) (x y : KO)
  | eqB (neg : Bool) (x y : KO)
  | eqN (neg : Bool) (kd : Nat) (x : KO)
  | eqA (neg : Bool) (ks : List Nat) (x y : KO)
  | not (x : KO)
  | neg (x : KO)
  | cv (k : IntKind) (x : KO)
  | fn (f : Nat) (first cap : List KO)
  | fa (x : KO) (off : Nat)
  | fld (x : KO) (off : Nat) (n : Option Nat)
  | iaS (x i : KO) (sz : Nat)
  | iaA (x i : KO) (len sz : Nat)
  | ixA (x i : KO) (len sz : Nat) (n : Option Nat)
  | slS (x : KO) (lo hi mx : Option KO) (sz : Nat)
  | slA (x : KO) (lo hi mx : Option KO) (len sz : Nat)
  | ext (x : KO) (i : Nat)
  | call (f : KO) (args : List KO)
  | len (x : KO)
  | lenS (x : KO)
  | app (s x : KO) (sz bytes : Nat)
  | cpy (d s : KO) (sz : Nat)
  | clr (x : KO) (zero : List Value)
  | mkSl (l c : KO) (zero : List Value) (bytes : Nat)
  | mx (l : List KO)
  | mn (l : List KO)
  | mkM
  | ins (kd : Nat) (m k v : KO)
  | lk (kd : Nat) (m k : KO) (zero : Value) (ok : Bool)
  | nilc (x : KO)
  | ment (kd : Nat) (m k : KO) (zero : Value)
  | mset (m s v : KO)
  deriving Inhabited
structure KOper where
  dst : Option Nat
  op : KOp
  guard : Option (Nat × Bool)
  deriving Inhabited
/-- The code. A region: its operations, and the pairs of memory operations whose order it leaves open. -/
inductive KC where
  | skip
  | reg (ops : List KOper) (prs : List (Nat × Nat))
  | seq (a b : KC)
  | cond (c : KO) (thn els : KC)
  | block (id : Nat) (body : KC)
  | loop (body : KC)
  | rf (f : KO) (params : List Nat) (assign body : KC)
  | exit (id : Nat)
  | ret
  deriving Inhabited
inductive KRes where
  | tmp (t : Nat)
  | cell (t : Nat) (n : Option Nat)
  deriving Inhabited
structure KFunc where
  np : Nat
  nt : Nat
  res : List KRes
  body : KC
  deriving Inhabited
/-- A value of one cell without an address. -/
def flat0 : Value → Bool
  | .bool _ | .int .. | .float .. | .string _ | .nilFunc | .nilIface | .pointer none | .slice none 0 0 | .map none => true
  | .func (.func _) first cap => first.isEmpty && cap.isEmpty
  | _ => false
def flat1 : Value → Bool
  | .agg cs => cs.toList.all flat0
  | v => flat0 v
def flat2 : Value → Bool
  | .tuple vs => vs.toList.all flat1
  | v => flat1 v
/-- How many package-level variables may be read: they lie in the first blocks. -/
def gN : Nat := 2
def cO : Operand → Option KO
  | .tmp t => some (.t t)
  | .const v => if flat2 v then some (.c v) else none
  | .func f => some (.c (.func (.func f) #[] #[]))
  | .global g => if g < gN then some (.c (.pointer (some ⟨g, 0, none⟩))) else none
def cOs (l : List Operand) : Option (List KO) := l.mapM cO
def tyAgg (P : Program) (t : TypeId) : Bool := match P.underlying t with | some (.struct _) | some (.array _ _) => true | _ => false
def tySize (P : Program) (t : TypeId) : Option Nat := (P.info? t).map (·.size)
def tyZero (P : Program) (t : TypeId) : Option Value := (P.info? t).bind (·.zero)
/-- How a variable of a type is read: one cell, or so many. -/
def tyForm (P : Program) (t : TypeId) : Option (Option Nat) :=
  match P.underlying t with
  | none => none
  | some _ => if tyAgg P t then (tySize P t).map some else if tySize P t = some 1 then some none else none
def zeroCells? (P : Program) (t : TypeId) : Option (List Value) :=
  match tyZero P t with
  | some z => if z.cells.toList.all flat0 && tySize P t = some z.cells.size then some z.cells.toList else none
  | none => none
/-- Types whose values are told apart cell by cell: the cells' kinds (0 a bool, 1 a whole number, 2 a string). -/
def fieldKinds (P : Program) (g : TypeId → Option (List Nat)) : List Field → Nat → Option (List Nat)
  | [], _ => some []
  | f :: fs, cur => if f.name ≠ "_" ∧ f.offset = cur then
      match g f.type with
      | some ks => if tySize P f.type = some ks.length then (fieldKinds P g fs (cur + ks.length)).map (ks ++ ·) else none
      | none => none
    else none
def plainKinds (P : Program) : Nat → TypeId → Option (List Nat)
  | 0, _ => none
  | n + 1, t => match P.underlying t with
    | some .bool => if tySize P t = some 1 then some [0] else none
    | some (.int _) => if tySize P t = some 1 then some [1] else none
    | some .string => if tySize P t = some 1 then some [2] else none
    | some (.struct fs) => if P.stoodInHeld t then none else fieldKinds P (plainKinds P n) fs.toList 0
    | some (.array len e) => match plainKinds P n e with
      | some ks => if tySize P e = some ks.length then some (List.replicate len ks).flatten else none
      | none => none
    | _ => none
def isNilC : Nat → Value → Bool
  | 0, .slice none 0 0 | 1, .nilFunc | 2, .map none | 3, .pointer none => true
  | _, _ => false
def isNilConst (kd : Nat) : Operand → Bool
  | .const v => isNilC kd v
  | _ => false
def nilKind : TypeDesc → Option Nat
  | .slice _ => some 0
  | .func .. => some 1
  | .map .. => some 2
  | .pointer _ => some 3
  | _ => none
def cNil (neg : Bool) (kd : Nat) (x y : Operand) (a b : KO) : Option KOp := if isNilConst kd y then some (.eqN neg kd a) else if isNilConst kd x then some (.eqN neg kd b) else none
def cPartsS (P : Program) (fields : Array Field) : List (Nat × Operand) → Option (List (Nat × Nat × KO))
  | [] => some []
  | (i, x) :: r => match fields[i]?, cO x, cPartsS P fields r with
    | some f, some k, some l => (tySize P f.type).map fun s => (f.offset, s, k) :: l
    | _, _, _ => none
def cPartsA (size : Nat) : List (Nat × Operand) → Option (List (Nat × Nat × KO))
  | [] => some []
  | (i, x) :: r => match cO x, cPartsA size r with
    | some k, some l => some ((i * size, size, k) :: l)
    | _, _ => none
def optO : Option Operand → Option (Option KO)
  | none => some none
  | some x => (cO x).map some
def cBin (P : Program) (op : BinOp) (t : TypeId) (x y : Operand) : Option KOp :=
  match cO x, cO y with
  | some a, some b =>
    match P.underlying t with
    | some (.int _) | some .string => some (.bin op a b)
    | some .bool => match op with | .eql => some (.eqB false a b) | .neq => some (.eqB true a b) | _ => none
    | some (.struct _) | some (.array ..) =>
      match plainKinds P 40 t, P.eqGuardType P.depth t with
      | some ks, false => match op with | .eql => some (.eqA false ks a b) | .neq => some (.eqA true ks a b) | _ => none
      | _, _ => none
    | some d => match nilKind d with
      | some kd => match op with | .eql => cNil false kd x y a b | .neq => cNil true kd x y a b | _ => none
      | none => none
    | none => none
  | _, _ => none
/-- The kinds of a key's cells, as one number from 3 on. -/
def codeK (ks : List Nat) : Nat := 3 + ks.foldr (fun k acc => acc * 4 + (k + 1)) 0
def ksDec : Nat → Nat → List Nat
  | 0, _ => []
  | f + 1, c => if c = 0 then [] else (c % 4 - 1) :: ksDec f (c / 4)
def ksOf (kd : Nat) : List Nat := ksDec 64 (kd - 3)
/-- Maps whose keys are bools (0), whole numbers (1), strings (2), or of many such cells. -/
def plainKey (P : Program) (t : TypeId) : Option Nat :=
  match P.underlying t with
  | some (.map k _) => (match P.underlying k with | some .bool => some 0 | some (.int _) => some 1 | some .string => some 2 | _ => if tyAgg P k then (match plainKinds P 40 k with | some ks => if ksOf (codeK ks) = ks then some (codeK ks) else none | none => none) else none)
  | _ => none
def cCall (P : Program) (c : Call) : Option KOp :=
  match c.callee with
  | .value f => match cO f, cOs c.args.toList with | some g, some l => some (.call g l) | _, _ => none
  | .invoke .. => none
  | .builtin b =>
    match b, c.args.toList, c.argTypes.toList with
    | .len, [x], [t] =>
      match P.underlying t with
      | some (.slice _) => (cO x).map .len
      | some .string => (cO x).map .lenS
      | some (.array n _) => some (.mv (.c (.int .i64 n)))
      | some (.pointer e) => match P.underlying e with | some (.array n _) => some (.mv (.c (.int .i64 n))) | _ => none
      | _ => none
    | .append, [s, x], [t, u] =>
      match P.underlying t with
      | some (.slice e) => match P.info? e, cO s, cO x, P.underlying u with
        | some i, some a, some b, some (.slice _) => if 0 < i.size && 0 < i.bytes && i.bytes ≤ 65536 && (zeroCells? P e).isSome then some (.app a b i.size i.bytes) else none
        | _, _, _, _ => none
      | _ => none
    | .copy, [d, s], [t, u] =>
      match P.underlying t, P.underlying u with
      | some (.slice e), some (.slice _) => match tySize P e, cO d, cO s with | some z, some a, some b => some (.cpy a b z) | _, _, _ => none
      | _, _ => none
    | .clear, [x], [t] =>
      match P.underlying t with
      | some (.slice e) => match zeroCells? P e, cO x with | some z, some a => if 0 < z.length then some (.clr a z) else none | _, _ => none
      | _ => none
    | .max, x :: r, _ => (cOs (x :: r)).map .mx
    | .min, x :: r, _ => (cOs (x :: r)).map .mn
    | _, _, _ => none
/-- What is never done. -/
def stuckK : KOp := .st (.c (.int .i64 0)) (.c (.int .i64 0)) 1
def cOp (P : Program) : Op → Option KOp
  | .move x | .assign x => (cO x).map .mv
  | .pick c a b => match cO c, cO a, cO b with | some x, some y, some z => some (.pick x y z) | _, _, _ => none
  | .alloc t => (zeroCells? P t).map .new
  | .box _ x => (cO x).map .box
  | .build t ps =>
    match zeroCells? P t, P.underlying t with
    | some z, some (.struct fs) => if fs.toList.all (fun f => (tySize P f.type).isSome) then (cPartsS P fs ps.toList).map (.mk z) else none
    | some z, some (.array _ e) => match tySize P e with | some s => (cPartsA s ps.toList).map (.mk z) | none => none
    | _, _ => none
  | .buildSlice t n ps =>
    match P.underlying t with
    | some (.slice e) => match zeroCells? P e with
      | some z => if n * z.length ≤ 4096 && 0 < z.length then (cPartsA z.length ps.toList).map (.mkS ((List.replicate n z).flatten) n) else none
      | none => none
    | _ => none
  | .load t x => match tyForm P t, cO x with | some f, some a => some (.ld a f) | _, _ => none
  | .store t x v => match tySize P t, cO x, cO v with | some n, some a, some b => some (.st a b n) | _, _, _ => none
  | .nilCheck x => (cO x).map .nilc
  | .binOp op t x y _ => cBin P op t x y
  | .unOp op _ x => match op with | .not => (cO x).map .not | .neg => (cO x).map .neg | _ => none
  | .convert s d x =>
    match P.underlying s, P.underlying d with
    | some (.int _), some (.int k) => (cO x).map (.cv k)
    | _, _ => none
  | .makeFunc (.func f) first cap => match cOs first.toList, cOs cap.toList with | some a, some b => some (.fn f a b) | _, _ => none
  | .makeMap t none => if (plainKey P t).isSome then some .mkM else none
  | .makeSlice t l c =>
    match P.underlying t with
    | some (.slice e) => match P.info? e, zeroCells? P e, cO l, cO c with
      | some i, some z, some a, some b => if 0 < i.bytes && 0 < z.length then some (.mkSl a b z i.bytes) else none
      | _, _, _, _ => none
    | _ => none
  | .slice t x lo hi mx =>
    match cO x, optO lo, optO hi, optO mx with
    | some a, some l, some h, some m =>
      match P.underlying t with
      | some (.slice e) => (tySize P e).map fun s => .slS a l h m s
      | some (.array n e) => (tySize P e).map fun s => .slA a l h m n s
      | some (.pointer r) => match P.underlying r with | some (.array n e) => (tySize P e).map fun s => .slA a l h m n s | _ => none
      | _ => none
    | _, _, _, _ => none
  | .fieldAddr s x f =>
    match P.underlying s with
    | some (.struct fs) => match fs[f]? with
      | some g => if tySize P g.type = some 0 then none else if (tySize P g.type).isSome then (cO x).map fun a => .fa a g.offset else none
      | none => none
    | _ => none
  | .field s x f =>
    match P.underlying s with
    | some (.struct fs) => match fs[f]? with
      | some g => match tyForm P g.type, cO x with | some n, some a => some (.fld a g.offset n) | _, _ => none
      | none => none
    | _ => none
  | .indexAddr t x i =>
    match P.underlying t, cO x, cO i with
    | some (.slice e), some a, some b => (tySize P e).map fun s => .iaS a b s
    | some (.array n e), some a, some b => (tySize P e).map fun s => .iaA a b n s
    | _, _, _ => none
  | .index t x i =>
    match P.underlying t, cO x, cO i with
    | some (.array n e), some a, some b => match tySize P e, tyForm P e with | some s, some f => some (.ixA a b n s f) | _, _ => none
    | _, _, _ => none
  | .lookup t x i ok =>
    match plainKey P t, P.underlying t, cO x, cO i with
    | some kd, some (.map _ e), some a, some b => match tyZero P e with | some z => if flat1 z then some (.lk kd a b z ok) else none | none => none
    | _, _, _, _ => none
  | .mapUpdate t m k v | .insert t m k v =>
    match plainKey P t, cO m, cO k, cO v with
    | some kd, some a, some b, some c => some (.ins kd a b c)
    | _, _, _, _ => none
  | .mapEntry t m k =>
    match plainKey P t, P.underlying t, cO m, cO k with
    | some kd, some (.map _ e), some a, some b => match tyZero P e with | some z => if flat1 z then some (.ment kd a b z) else none | none => none
    | _, _, _, _ => none
  | .entryStore t m s v => match cO m, cO s, cO v with | some a, some b, some c => some (.mset a b c) | _, _, _ => none
  | .panic _ | .makeInterface .. => some stuckK
  | .extract x i => (cO x).map fun a => .ext a i
  | .call c => cCall P c
  | _ => none
/-- Does an operation look at memory that was there before, or change it? -/
def KOp.mem : KOp → Bool
  | .ld .. | .st .. | .call .. | .app .. | .cpy .. | .clr .. | .ins .. | .lk .. | .slS .. | .slA .. | .ment .. | .mset .. => true
  | _ => false
def KOp.looks : KOp → Bool
  | .ld .. | .lk .. | .slS .. | .slA .. => true
  | _ => false
def cOper (P : Program) (ops : Array Oper) (o : Oper) : Option KOper :=
  match cOp P o.op with
  | none => none
  | some k =>
    match o.guard with
    | none => some ⟨o.dst, k, none⟩
    | some (j, b) => match (ops[j]?).bind (·.dst) with
      | some d => some ⟨o.dst, k, some (d, b)⟩
      | none => none
/-- The pairs (i, j), i before j in the text, of memory operations whose order the edges leave open. -/
def openPairs (ops : Array Oper) (ks : List KOper) : List (Nat × Nat) :=
  let b := Region.before ops
  ((List.range ks.length).map fun j => (List.range j).filterMap fun i =>
    match ks[i]?, ks[j]? with
    | some x, some y => if x.op.mem && y.op.mem && !(x.op.looks && y.op.looks) && !(b.getD j 0).testBit i then some (i, j) else none
    | _, _ => none).flatten
def dstOk (nt : Nat) (o : Oper) : Bool := match o.dst with | some d => d < nt | none => true
/-- What a region's edges must be. -/
def edgesOk (ops : Array Oper) : Bool :=
  (List.range ops.size).all fun i => match ops[i]? with
    | some o => o.after.all (fun e => !Region.binds .any e || e.on < i) &&
      (match o.guard with | none => true | some (j, _) => o.after.any (fun e => e.on == j && Region.binds .any e))
    | none => true
/-- Operations whose order is open have no temporary in common of which one is written. -/
def tmpsOk (ops : Array Oper) : Bool :=
  let b := Region.before ops
  (List.range ops.size).all fun j => (List.range j).all fun i => match ops[i]?, ops[j]? with
    | some x, some y => x.apart ops y || (b.getD j 0).testBit i
    | _, _ => true
def cC (P : Program) (nt : Nat) : Code → Option KC
  | .skip | .label _ => some .skip
  | .region _ ops d =>
    match ops.toList.mapM (cOper P ops) with
    | some ks => if ops.toList.all (dstOk nt) && (!d || (edgesOk ops && tmpsOk ops)) then some (.reg ks (if d then openPairs ops ks else [])) else none
    | none => none
  | .seq a b => match cC P nt a, cC P nt b with | some x, some y => some (.seq x y) | _, _ => none
  | .cond c a b => match cO c, cC P nt a, cC P nt b with | some k, some x, some y => some (.cond k x y) | _, _, _ => none
  | .block id a => (cC P nt a).map (.block id)
  | .loop a => (cC P nt a).map .loop
  | .scope a => (cC P nt a).map (.seq .skip)
  | .rangeFunc f ps a b => match cO f, cC P nt a, cC P nt b with | some k, some x, some y => if ps.toList.all (· < nt) then some (.rf k ps.toList x y) else none | _, _, _ => none
  | .exit id => some (.exit id)
  | .ret => some .ret
  | _ => none
def cRes (P : Program) : ResultVar → Option KRes
  | .tmp t => some (.tmp t)
  | .cell t T => (tyForm P T).map (.cell t)
def cF (P : Program) (f : Func) : Option KFunc :=
  match f.body with
  | none => none
  | some c => match cC P f.ntmps c, f.results.toList.mapM (cRes P) with
    | some k, some r => if f.params.size + f.nfree ≤ f.ntmps && !(f.name == "runtime.NumGoroutine") then some ⟨f.params.size + f.nfree, f.ntmps, r, k⟩ else none
    | _, _ => none
/-- slices.Insert at whole numbers is told of as one piece. -/
def insN : String := "slices.Insert[[]int,int]"
def isIns : KC → Bool
  | .exit n => Nat.beq n 4294967295
  | _ => false
def insK : KFunc := ⟨3, 4, [.tmp 3], .exit 4294967295⟩
def insOkF (fn : Func) : Bool := fn.body.isSome && !(fn.name == "runtime.NumGoroutine")
def tab (P : Program) (f : FuncId) : Option KFunc := (P.funcs[f]?).bind fun fn =>
  if (fn.name == insN) = true then (if insOkF fn = true then some insK else none) else
  match cF P fn with
  | some k => if isIns k.body = true then none else some k
  | none => none
end Go.Canon
namespace Go.Canon
set_option linter.unusedVariables false
set_option linter.unusedSimpArgs false
open Go
inductive KJump where
  | ret
  | exit (id : Nat)
  deriving DecidableEq, Inhabited
/-- Whose frame: the function, how many slots, the loop in whose round it runs. -/
structure FI where
  fn : Nat
  nt : Nat
  rd : Option Nat
  deriving Inhabited
structure CLoop where
  st : LoopState
  pending : Option KJump
  fi : FI
  fr : Nat → Value
  params : List Nat
  assign : KC
  body : KC
  blk : Nat
/-- An object: a row of cells (may it be written; does it come of an append, and with which elements' size), a map, a loop's record, a loop's block of deferred calls, a row whose memory may have been handed on, and what is none of these. -/
inductive CO where
  | row (cs : List Value) (wr : Bool) (gr : Option Nat)
  | map (es : List MapEntry) (clock : Nat)
  | loop (r : CLoop)
  | mark
  | gone
  | other
instance : Inhabited CO := ⟨.gone⟩
abbrev Heap := List CO
def KO.ev (fr : Nat → Value) : KO → Value
  | .t n => fr n
  | .c v => v
def put (fr : Nat → Value) (d : Option Nat) (v : Value) : Nat → Value :=
  match d with
  | some d => fun t => if t = d then v else fr t
  | none => fr
def isCell : Value → Bool
  | .agg _ | .tuple _ | .chan _ => false
  | _ => true
def rowGet (h : Heap) (a : Addr) (n : Nat) : Option (List Value) :=
  match h[a.block]? with
  | some (.row cs _ _) => if a.spot = none ∧ a.off + n ≤ cs.length then some ((cs.drop a.off).take n) else none
  | _ => none
def rowSet (h : Heap) (a : Addr) (vs : List Value) : Option CO :=
  match h[a.block]? with
  | some (.row cs true g) => if a.spot = none ∧ a.off + vs.length ≤ cs.length ∧ vs.all isCell = true then some (.row (cs.take a.off ++ vs ++ cs.drop (a.off + vs.length)) true g) else none
  | _ => none
/-- A slice's elements are of the size that its row was made for. -/
def grOk (h : Heap) (a : Option Addr) (sz : Nat) : Bool :=
  match a with
  | none => true
  | some x => if x.spot.isSome then true else match h[x.block]? with
    | some (.row _ _ (some z)) => z == sz
    | some (.row _ _ none) => true
    | _ => false
def noGr (h : Heap) (a : Addr) : Bool :=
  match h[a.block]? with
  | some (.row _ _ none) => true
  | _ => false
/-- What an operation does to the objects. -/
inductive Eff where
  | no
  | new (o : CO)
  | upd (b : Nat) (o : CO)
  | kill (b : Nat) (o : CO)
def Eff.on : Eff → Heap → Heap
  | .no, h => h
  | .new o, h => h ++ [o]
  | .upd b o, h => h.set b o
  | .kill b o, h => h.set b .gone ++ [o]
inductive KR where
  | val (v : Value) (e : Eff)
  | call (f : Nat) (args : List Value)
  | yield (l : Nat) (args : List Value)
def kbits (op : BinOp) (k : IntKind) (x y : Int) : Option Int :=
  let a := BitVec.ofInt k.bits x
  let b := BitVec.ofInt k.bits y
  match op with
  | .and => some (k.wrap (a &&& b).toNat)
  | .or => some (k.wrap (a ||| b).toNat)
  | .xor => some (k.wrap (a ^^^ b).toNat)
  | .andNot => some (k.wrap (a &&& ~~~b).toNat)
  | _ => none
def kint (op : BinOp) (k : IntKind) (a b : Int) : Option Value :=
  match op with
  | .add => some (.int k (k.wrap (a + b)))
  | .sub => some (.int k (k.wrap (a - b)))
  | .mul => some (.int k (k.wrap (a * b)))
  | .quo => if b = 0 then none else some (.int k (k.wrap (a.tdiv b)))
  | .rem => if b = 0 then none else some (.int k (a.tmod b))
  | .and | .or | .xor | .andNot => (kbits op k a b).map (.int k)
  | .eql => some (.bool (a == b))
  | .neq => some (.bool (a != b))
  | .lss => some (.bool (a < b))
  | .leq => some (.bool (a ≤ b))
  | .gtr => some (.bool (a > b))
  | .geq => some (.bool (a ≥ b))
  | _ => none
def kstr (op : BinOp) (x y : ByteArray) : Option Value :=
  let eq := x.toList == y.toList
  let lt := Op.bytesLess x.toList y.toList
  match op with
  | .add => if ((x.size + y.size : Nat) : Int) > IntKind.i64.max then none else some (.string (x ++ y))
  | .eql => some (.bool eq)
  | .neq => some (.bool !eq)
  | .lss => some (.bool lt)
  | .leq => some (.bool (lt || eq))
  | .gtr => some (.bool !(lt || eq))
  | .geq => some (.bool !lt)
  | _ => none
def kbin (op : BinOp) (x y : Value) : Option Value :=
  match op, x, y with
  | .shl, .int k a, .int _ b => if b < 0 then none else some (.int k (k.wrap (a * 2 ^ (min b.toNat k.bits))))
  | .shr, .int k a, .int _ b => if b < 0 then none else some (.int k (a.fdiv (2 ^ (min b.toNat k.bits))))
  | op, .int k a, .int k' b => if k = k' then kint op k a b else none
  | op, .string a, .string b => kstr op a b
  | _, _, _ => none
def isNil : Nat → Value → Option Bool
  | 0, .slice a _ _ => some a.isNone
  | 1, .nilFunc => some true
  | 1, .func .. => some false
  | 2, .map a => some a.isNone
  | 3, .pointer a => some a.isNone
  | _, _ => none
/-- Are two cells, of one plain kind, the same? -/
def cellEq : Nat → Value → Value → Option Bool
  | 0, .bool a, .bool b => some (a == b)
  | 1, .int k a, .int k' b => if k = k' then some (a == b) else none
  | 2, .string a, .string b => some (a == b)
  | _, _, _ => none
def cellsEq : List Nat → List Value → List Value → Option Bool
  | [], _, _ => some true
  | k :: ks, x :: xs, y :: ys => match cellEq k x y, cellsEq ks xs ys with
    | some a, some b => some (a && b)
    | _, _ => none
  | _, _, _ => none
/-- A value's cells. -/
def cellsOf : Value → Option (List Value)
  | .tuple _ | .chan _ => none
  | .agg cs => some cs.toList
  | v => some [v]
def overlay (cs : List Value) : List (Nat × Nat × Value) → Option (List Value)
  | [] => some cs
  | (off, size, v) :: r => match cellsOf v with
    | some l => if l.length = size ∧ off + size ≤ cs.length then overlay (cs.take off ++ l ++ cs.drop (off + size)) r else none
    | none => none
def partOf (cs : Array Value) (off : Nat) : Option Nat → Option Value
  | none => cs[off]?
  | some n => if off + n ≤ cs.size then some (.agg (cs.extract off (off + n))) else none
def ptr (b o : Nat) : Value := .pointer (some ⟨b, o, none⟩)
def bnd (v : Value) (y : Nat) : Option Nat :=
  match v with
  | .int _ i => if 0 ≤ i ∧ i ≤ y then some i.toNat else none
  | _ => none
def bnd? (v : Option Value) (y d : Nat) : Option Nat :=
  match v with
  | some v => bnd v y
  | none => some d
/-- low, high, max of a slice expression. -/
def bnds (len cap : Nat) (lo hi mx : Option Value) : Option (Nat × Nat × Nat) :=
  match bnd? mx cap cap with
  | none => none
  | some m =>
    match mx, hi with
    | some _, none => none
    | _, _ =>
      match bnd? hi m len with
      | none => none
      | some h => match bnd? lo h 0 with
        | none => none
        | some l => some (l, h, m)
def asI64 : Value → Option Int
  | .int .i64 n => some n
  | _ => none
def ints (l : List Value) : Option (List Int) := l.mapM asI64
def most : List Int → Option Int
  | [] => none
  | x :: r => some (r.foldl (fun a y => if y > a then y else a) x)
def least : List Int → Option Int
  | [] => none
  | x :: r => some (r.foldl (fun a y => if y < a then y else a) x)
/-- Are two keys the same? -/
def keyEq (kd : Nat) (x y : Value) : Option Bool :=
  if kd < 3 then cellEq kd x y else match x, y with
  | .agg a, .agg b => if a.size = (ksOf kd).length ∧ b.size = (ksOf kd).length then cellsEq (ksOf kd) a.toList b.toList else none
  | _, _ => none
def findK (kd : Nat) (k : Value) : List MapEntry → Nat → Option (Option (Nat × Value))
  | [], _ => some none
  | e :: es, i => match keyEq kd k e.key with
    | some true => some (some (i, e.val))
    | some false => findK kd k es (i + 1)
    | none => none
/-- Is it a key of this kind? -/
def isKey : Nat → Value → Bool
  | 0, .bool _ | 1, .int .. | 2, .string _ => true
  | kd, .agg cs => decide (3 ≤ kd) && (cs.size == (ksOf kd).length && cs.toList.all flat0)
  | _, _ => false
/-- The bytes that one row may take here: far below the model's own limits. -/
def roomB : Nat := 1099511627776
def firstC (h : Heap) (sz n : Nat) : Value → Option (List Value)
  | .slice (some a) _ _ => if n * sz = 0 then some [] else rowGet h a (n * sz)
  | .slice none _ _ => if n = 0 then some [] else none
  | _ => none
/-- The place of a slice that has no room, for certain. -/
def bare (a : Addr) : Addr := { a with spot := some 0 }
def kapp (h : Heap) (s x : Value) (sz bytes : Nat) : Option KR :=
  match s, x with
  | .slice base sl sc, .slice _ n _ =>
    match firstC h sz n x with
    | none => none
    | some new =>
      if sl + n ≤ sc then
        if n = 0 then some (.val (.slice base sl sc) .no)
        else match base with
          | none => none
          | some a => match rowSet h (a.add (sl * sz)) new with
            | some o => some (.val (.slice base (sl + n) sc) (.upd a.block o))
            | none => none
      else if roomB < (sl + n) * bytes then none
      else match firstC h sz sl s with
        | none => none
        | some old =>
          let o := CO.row (old ++ new) true (some sz)
          let v := Value.slice (some ⟨h.length, 0, none⟩) (sl + n) (sl + n)
          match base with
          | none => some (.val v (.new o))
          | some a => if a.spot.isSome then some (.val v (.new o)) else match h[a.block]? with
            | some (.row _ _ none) => some (.val v (.new o))
            | some (.row _ true (some z)) => if z = sz ∧ new.all isCell = true then some (.val v (.kill a.block o)) else none
            | _ => none
  | _, _ => none
def kcpy (h : Heap) (d s : Value) (sz : Nat) : Option KR :=
  match d, s with
  | .slice base dl _, .slice _ sl _ =>
    let n := min sl dl
    if n * sz = 0 then some (.val (.int .i64 n) .no)
    else match firstC h sz n s, base with
      | some cs, some a => match rowSet h a cs with
        | some o => some (.val (.int .i64 n) (.upd a.block o))
        | none => none
      | _, _ => none
  | _, _ => none
def kop (op : KOp) (fr : Nat → Value) (h : Heap) : Option KR :=
  match op with
  | .mv x => some (.val (x.ev fr) .no)
  | .pick c a b => match c.ev fr with
    | .bool t => some (.val (if t then a.ev fr else b.ev fr) .no)
    | _ => none
  | .new z => some (.val (ptr h.length 0) (.new (.row z true none)))
  | .box x => match cellsOf (x.ev fr) with
    | some l => some (.val (ptr h.length 0) (.new (.row l true none)))
    | none => none
  | .mk z ps => match overlay z (ps.map fun (o, s, x) => (o, s, x.ev fr)) with
    | some cs => some (.val (.agg cs.toArray) .no)
    | none => none
  | .mkS z n ps => match overlay z (ps.map fun (o, s, x) => (o, s, x.ev fr)) with
    | some cs => some (.val (.slice (some ⟨h.length, 0, none⟩) n n) (.new (.row cs true none)))
    | none => none
  | .ld x n => match x.ev fr with
    | .pointer (some a) => match n with
      | none => match rowGet h a 1 with
        | some (v :: _) => some (.val v .no)
        | _ => none
      | some n => match rowGet h a n with
        | some cs => some (.val (.agg cs.toArray) .no)
        | none => none
    | _ => none
  | .st x v n => match x.ev fr with
    | .pointer (some a) => match cellsOf (v.ev fr) with
      | some l => if l.length = n then
          match rowSet h a l with
          | some o => some (.val undef (.upd a.block o))
          | none => none
        else none
      | none => none
    | _ => none
  | .bin op x y => (kbin op (x.ev fr) (y.ev fr)).map (.val · .no)
  | .eqB neg x y => match x.ev fr, y.ev fr with
    | .bool a, .bool b => some (.val (.bool (neg != (a == b))) .no)
    | _, _ => none
  | .eqN neg kd x => (isNil kd (x.ev fr)).map fun b => .val (.bool (neg != b)) .no
  | .eqA neg ks x y => match x.ev fr, y.ev fr with
    | .agg a, .agg b => (cellsEq ks a.toList b.toList).map fun t => .val (.bool (neg != t)) .no
    | _, _ => none
  | .not x => match x.ev fr with
    | .bool b => some (.val (.bool !b) .no)
    | _ => none
  | .neg x => match x.ev fr with
    | .int k n => some (.val (.int k (k.wrap (0 - n))) .no)
    | _ => none
  | .cv k x => match x.ev fr with
    | .int _ n => some (.val (.int k (k.wrap n)) .no)
    | _ => none
  | .fn f a b => some (.val (.func (.func f) (a.map (·.ev fr)).toArray (b.map (·.ev fr)).toArray) .no)
  | .fa x off => match x.ev fr with
    | .pointer (some a) => some (.val (.pointer (some (a.add off))) .no)
    | _ => none
  | .fld x off n => match x.ev fr with
    | .agg cs => (partOf cs off n).map (.val · .no)
    | _ => none
  | .iaS x i sz => match x.ev fr, i.ev fr with
    | .slice (some a) len _, .int _ i => if 0 ≤ i ∧ i < len then some (.val (.pointer (some (a.add (i.toNat * sz)))) .no) else none
    | _, _ => none
  | .iaA x i len sz => match x.ev fr, i.ev fr with
    | .pointer (some a), .int _ i => if 0 ≤ i ∧ i < len then some (.val (.pointer (some (a.add (i.toNat * sz)))) .no) else none
    | _, _ => none
  | .ixA x i len sz n => match x.ev fr, i.ev fr with
    | .agg cs, .int _ i => if 0 ≤ i ∧ i < len then (partOf cs (i.toNat * sz) n).map (.val · .no) else none
    | _, _ => none
  | .slS x lo hi mx sz => match x.ev fr with
    | .slice a len cap => if grOk h a sz then match bnds len cap (lo.map (·.ev fr)) (hi.map (·.ev fr)) (mx.map (·.ev fr)) with
      | some (l, h, m) => some (.val (.slice (if m = l then (if mx.isSome then a.map bare else a) else a.map (·.add (l * sz))) (h - l) (m - l)) .no)
      | none => none
      else none
    | _ => none
  | .slA x lo hi mx len sz => match x.ev fr with
    | .pointer (some a) => if noGr h a then match bnds len len (lo.map (·.ev fr)) (hi.map (·.ev fr)) (mx.map (·.ev fr)) with
      | some (l, h, m) => some (.val (.slice (some (if m = l then a else a.add (l * sz))) (h - l) (m - l)) .no)
      | none => none
      else none
    | _ => none
  | .ext x i => match x.ev fr with
    | .tuple vs => (vs[i]?).map (.val · .no)
    | _ => none
  | .call f args => match f.ev fr with
    | .func (.func g) a b => some (.call g (a.toList ++ args.map (·.ev fr) ++ b.toList))
    | .func (.yield l) a _ => if a.isEmpty then some (.yield l (args.map (·.ev fr))) else none
    | _ => none
  | .len x => match x.ev fr with
    | .slice _ n _ => some (.val (.int .i64 n) .no)
    | _ => none
  | .lenS x => match x.ev fr with
    | .string s => some (.val (.int .i64 s.size) .no)
    | _ => none
  | .app s x sz bytes => kapp h (s.ev fr) (x.ev fr) sz bytes
  | .cpy d s sz => kcpy h (d.ev fr) (s.ev fr) sz
  | .clr x z => match x.ev fr with
    | .slice a n _ => if n * z.length = 0 then some (.val (.tuple #[]) .no) else match a with
      | some a => match rowSet h a (List.replicate n z).flatten with
        | some o => some (.val (.tuple #[]) (.upd a.block o))
        | none => none
      | none => none
    | _ => none
  | .mkSl l c z bytes => match l.ev fr, c.ev fr with
    | .int .i64 l, .int .i64 c => if 0 ≤ l ∧ l ≤ c ∧ c.toNat * bytes ≤ roomB then some (.val (.slice (some ⟨h.length, 0, none⟩) l.toNat c.toNat) (.new (.row (List.replicate c.toNat z).flatten true none))) else none
    | _, _ => none
  | .mx l => ((ints (l.map (·.ev fr))).bind most).map fun n => .val (.int .i64 n) .no
  | .mn l => ((ints (l.map (·.ev fr))).bind least).map fun n => .val (.int .i64 n) .no
  | .mkM => some (.val (.map (some h.length)) (.new (.map [] 0)))
  | .ins kd m k v => match m.ev fr with
    | .map (some r) => match h[r]? with
      | some (.map es clock) => if isKey kd (k.ev fr) then match findK kd (k.ev fr) es 0 with
        | some none => some (.val undef (.upd r (.map (es ++ [{ key := k.ev fr, val := v.ev fr, born := clock }]) (clock + 1))))
        | some (some (i, _)) => some (.val undef (.upd r (.map (es.modify i fun e => { e with key := k.ev fr, val := v.ev fr }) clock)))
        | none => none
        else none
      | _ => none
    | _ => none
  | .lk kd m k z ok => if isKey kd (k.ev fr) then match m.ev fr with
    | .map none => some (.val (if ok then .tuple #[z, .bool false] else z) .no)
    | .map (some r) => match h[r]? with
      | some (.map es _) => match findK kd (k.ev fr) es 0 with
        | some none => some (.val (if ok then .tuple #[z, .bool false] else z) .no)
        | some (some (_, v)) => some (.val (if ok then .tuple #[v, .bool true] else v) .no)
        | none => none
      | _ => none
    | _ => none
    else none
  | .ment kd m k z => if isKey kd (k.ev fr) then match m.ev fr with
    | .map (some r) => match h[r]? with
      | some (.map es clock) => match findK kd (k.ev fr) es 0 with
        | some none => some (.val (.tuple #[z, .int .i64 clock]) (.upd r (.map (es ++ [{ key := k.ev fr, val := z, born := clock }]) (clock + 1))))
        | some (some (i, v)) => some (.val (.tuple #[v, .int .i64 (((es[i]?).map (·.born)).getD 0)]) (.upd r (.map (es.modify i fun e => { e with key := k.ev fr }) clock)))
        | none => none
      | _ => none
    | _ => none
    else none
  | .mset m s v => match m.ev fr, s.ev fr with
    | .map (some r), .int _ b => match h[r]? with
      | some (.map es clock) => match es.findIdx? (fun e => (e.born : Int) == b) with
        | some i => some (.val undef (.upd r (.map (es.modify i fun e => { e with val := v.ev fr }) clock)))
        | none => none
      | _ => none
    | _, _ => none
  | .nilc x => match x.ev fr with
    | .pointer (some a) => some (.val (.pointer (some a)) .no)
    | .func (.func g) a b => some (.val (.func (.func g) a b) .no)
    | .func (.yield g) a b => some (.val (.func (.yield g) a b) .no)
    | _ => none
def blkOf : Value → List Nat
  | .pointer (some a) => [a.block]
  | .slice (some a) _ _ => [a.block]
  | .map (some r) => [r]
  | _ => []
/-- The blocks that an operation looks at or changes; a call: all. -/
def rds (op : KOp) (fr : Nat → Value) : List Nat :=
  match op with
  | .ld x _ => blkOf (x.ev fr)
  | .st x _ _ => blkOf (x.ev fr)
  | .app s x _ _ => blkOf (s.ev fr) ++ blkOf (x.ev fr)
  | .cpy d s _ => blkOf (d.ev fr) ++ blkOf (s.ev fr)
  | .clr x _ => blkOf (x.ev fr)
  | .ins _ m _ _ => blkOf (m.ev fr)
  | .lk _ m _ _ _ => blkOf (m.ev fr)
  | .ment _ m _ _ => blkOf (m.ev fr)
  | .mset m _ _ => blkOf (m.ev fr)
  | .slS x _ _ _ _ => blkOf (x.ev fr)
  | .slA x _ _ _ _ _ => blkOf (x.ev fr)
  | _ => []
def isCall : KOp → Bool
  | .call .. => true
  | _ => false
structure LogE where
  ix : Nat
  all : Bool
  rd : List Nat
  hb : Heap
  ha : Heap
/-- What a change hb to ha may be beside one that looks at e's blocks. -/
def clean (hb ha : Heap) (e : LogE) : Prop :=
  if e.all then hb <+: ha else ∀ b ∈ e.rd, b < hb.length → ha[b]? = hb[b]?
def apart (e e' : LogE) : Prop := clean e.hb e.ha e' ∧ clean e'.hb e'.ha e
inductive Ex where
  | normal
  | exit (id : Nat)
  | ret
  deriving DecidableEq
structure St where
  fr : Nat → Value
  h : Heap
  mks : List Nat
def wantedK (g : Option (Nat × Bool)) (fr : Nat → Value) : Bool :=
  match g with
  | none => true
  | some (t, b) => match fr t with
    | .bool c => c == b
    | _ => false
/-- Is a guard's slot told of? -/
def toldK (g : Option (Nat × Bool)) (fr : Nat → Value) : Bool :=
  match g with
  | none => true
  | some (t, _) => match fr t with
    | .bool _ | .tuple _ => true
    | _ => false
def putAll (fr : Nat → Value) : List Nat → List Value → (Nat → Value)
  | d :: ds, v :: vs => putAll (put fr (some d) v) ds vs
  | _, _ => fr
def frOf (args : List Value) : Nat → Value := fun t => args.getD t undef
def resOf (h : Heap) (fr : Nat → Value) : KRes → Option Value
  | .tmp t => some (fr t)
  | .cell t n => match fr t with
    | .pointer (some a) => match n with
      | none => match rowGet h a 1 with
        | some (v :: _) => some v
        | _ => none
      | some n => (rowGet h a n).map fun cs => .agg cs.toArray
    | _ => none
def resultsK (h : Heap) (fr : Nat → Value) (rs : List KRes) : Option Value :=
  match rs.mapM (resOf h fr) with
  | some [v] => some v
  | some vs => some (.tuple vs.toArray)
  | none => none
def isI64 : Value → Bool
  | .int .i64 _ => true
  | _ => false
/-- slices.Insert at whole numbers: what is laid is a row of its own. -/
def kins (args : List Value) (h : Heap) : Option (Value × Eff) :=
  match args with
  | [.slice base n c, .int .i64 i, .slice (some x) m xc] =>
    if c = n ∧ 0 < m ∧ 0 ≤ i ∧ i ≤ n ∧ (n + m) * 8 ≤ roomB then
      match firstC h 1 n (.slice base n c), firstC h 1 m (.slice (some x) m xc) with
      | some old, some new =>
        if old.all isI64 = true ∧ new.all isI64 = true then
          let o := CO.row (old.take i.toNat ++ new ++ old.drop i.toNat) true (some 1)
          let v := Value.slice (some ⟨h.length, 0, none⟩) (n + m) (n + m)
          match base with
          | none => some (v, .new o)
          | some a => if a.spot.isSome = true then (if n = 0 then some (v, .new o) else none) else
            match h[a.block]?, h[x.block]? with
            | some (.row _ _ none), _ => some (v, .new o)
            | some (.row _ true (some 1)), some (.row _ true none) => some (v, .kill a.block o)
            | _, _ => none
        else none
      | _, _ => none
    else none
  | _ => none
section
variable (T : Nat → Option KFunc)
open Classical
mutual
noncomputable def kcode : Nat → FI → KC → St → Option (Ex × St)
  | 0, _, _, _ => none
  | n + 1, fi, c, s =>
    match c with
    | .skip => some (.normal, s)
    | .ret => some (.ret, s)
    | .exit id => some (.exit id, s)
    | .seq a b => match kcode n fi a s with
      | some (.normal, s') => kcode n fi b s'
      | r => r
    | .cond c a b => match c.ev s.fr with
      | .bool t => kcode n fi (if t then a else b) s
      | _ => none
    | .block id a => match kcode n fi a s with
      | some (.exit id', s') => if id' = id then some (.normal, s') else some (.exit id', s')
      | r => r
    | .loop a => match kcode n fi a s with
      | some (.normal, s') => kcode n fi (.loop a) s'
      | r => r
    | .reg ops prs => match kops n fi prs 0 [] ops s with
      | some s' => some (.normal, s')
      | none => none
    | .rf f ps a b => match f.ev s.fr with
      | .func (.func g) x y =>
        match fi.rd with
        | none =>
          let l := s.h.length + 1
          let r : CLoop := { st := .ready, pending := none, fi := { fi with rd := some l }, fr := s.fr, params := ps, assign := a, body := b, blk := s.h.length }
          kafter n l { s with mks := s.h.length :: s.mks } (kcall n g (x.toList ++ [.func (.yield l) #[] #[]] ++ y.toList) (s.h ++ [.mark, .loop r]))
        | some l0 => match s.h[l0]? with
          | some (.loop r0) =>
            let l := s.h.length
            let r : CLoop := { st := .ready, pending := none, fi := { fi with rd := some l }, fr := s.fr, params := ps, assign := a, body := b, blk := r0.blk }
            kafter n l s (kcall n g (x.toList ++ [.func (.yield l) #[] #[]] ++ y.toList) (s.h ++ [.loop r]))
          | _ => none
      | _ => none
/-- Behind the function that was ranged over. -/
noncomputable def kafter : Nat → Nat → St → Option (Value × Heap) → Option (Ex × St)
  | 0, _, _, _ => none
  | _ + 1, l, s, o => match o with
    | some (_, h) => match h[l]? with
      | some (.loop r) => if r.st = .busy then none else
        let s' : St := { s with h := h.set l (.loop { r with st := .exhausted }) }
        match r.pending with
        | none => some (.normal, s')
        | some .ret => some (.ret, s')
        | some (.exit id) => some (.exit id, s')
      | _ => none
    | none => none
noncomputable def kops : Nat → FI → List (Nat × Nat) → Nat → List LogE → List KOper → St → Option St
  | 0, _, _, _, _, _, _ => none
  | n + 1, fi, prs, i, log, ops, s =>
    match ops with
    | [] => some s
    | o :: r =>
      if wantedK o.guard s.fr then
        match kstep n fi o.op s with
        | some (v, h) =>
          if prs.any (fun p => p.1 = i ∨ p.2 = i) then
            let e : LogE := { ix := i, all := isCall o.op, rd := rds o.op s.fr, hb := s.h, ha := h }
            if ∀ e' ∈ log, (e'.ix, i) ∈ prs → apart e' e then kops n fi prs (i + 1) (e :: log) r { s with fr := put s.fr o.dst v, h := h } else none
          else kops n fi prs (i + 1) log r { s with fr := put s.fr o.dst v, h := h }
        | none => none
      else if toldK o.guard s.fr then kops n fi prs (i + 1) log r { s with fr := put s.fr o.dst undef }
      else none
noncomputable def kstep : Nat → FI → KOp → St → Option (Value × Heap)
  | 0, _, _, _ => none
  | n + 1, _, op, s => match kop op s.fr s.h with
    | some (.val v e) => some (v, e.on s.h)
    | some (.call f args) => kcall n f args s.h
    | some (.yield l args) => kround n l args s.h
    | none => none
noncomputable def kcall : Nat → Nat → List Value → Heap → Option (Value × Heap)
  | 0, _, _, _ => none
  | n + 1, f, args, h => match T f with
    | some k =>
      if isIns k.body = true then (match kins args h with | some (v, e) => some (v, e.on h) | none => none) else
      if args.length = k.np then
        match kcode n ⟨f, k.nt, none⟩ k.body ⟨frOf args, h, []⟩ with
        | some (.normal, s) | some (.ret, s) => match resultsK s.h s.fr k.res with
          | some v => if ∀ m ∈ s.mks, s.h[m]? = some .mark then some (v, s.mks.foldl (fun h m => h.set m .gone) s.h) else none
          | none => none
        | _ => none
      else none
    | none => none
noncomputable def kround : Nat → Nat → List Value → Heap → Option (Value × Heap)
  | 0, _, _, _ => none
  | n + 1, l, args, h => match h[l]? with
    | some (.loop r) =>
      if args.length = r.params.length ∧ r.st = .ready ∧ r.fi.rd = some l then
        match kcode n r.fi r.assign ⟨putAll r.fr r.params args, h, []⟩ with
        | some (.normal, s1) => match s1.h[l]?, s1.mks with
          | some (.loop r1), [] => if r1.st = .ready then
            match kcode n r.fi r.body { s1 with h := s1.h.set l (.loop { r1 with st := .busy }) } with
            | some (e, s2) => match s2.h[l]?, s2.mks with
              | some (.loop r2), [] =>
                match e with
                | .normal => some (.bool true, s2.h.set l (.loop { r2 with st := .ready, pending := none }))
                | .ret => some (.bool false, s2.h.set l (.loop { r2 with st := .done, pending := some .ret }))
                | .exit id => some (.bool false, s2.h.set l (.loop { r2 with st := .done, pending := some (.exit id) }))
              | _, _ => none
            | none => none
            else none
          | _, _ => none
        | _ => none
      else none
    | _ => none
end
end
end Go.Canon
namespace Go.Canon
set_option linter.unusedVariables false
set_option linter.unusedSimpArgs false
open Go
open Classical
variable {T : Nat → Option KFunc}
theorem kstep_mono_of {n : Nat} {fi : FI} {op : KOp} {s : St} {r : Value × Heap}
    (hc : ∀ f args h r, kcall T n f args h = some r → kcall T (n + 1) f args h = some r)
    (hr : ∀ l args h r, kround T n l args h = some r → kround T (n + 1) l args h = some r)
    (h : kstep T (n + 1) fi op s = some r) : kstep T (n + 2) fi op s = some r := by
  unfold kstep at h ⊢
  cases hk : kop op s.fr s.h with
  | none => rw [hk] at h; cases h
  | some k =>
    rw [hk] at h
    cases k with
    | val v e => exact h
    | call f args => exact hc _ _ _ _ h
    | yield l args => exact hr _ _ _ _ h
theorem mono_all : ∀ n : Nat,
    (∀ fi c s r, kcode T n fi c s = some r → kcode T (n + 1) fi c s = some r) ∧
    (∀ l s o r, kafter T n l s o = some r → kafter T (n + 1) l s o = some r) ∧
    (∀ ops fi prs i log s r, kops T n fi prs i log ops s = some r → kops T (n + 1) fi prs i log ops s = some r) ∧
    (∀ fi op s r, kstep T n fi op s = some r → kstep T (n + 1) fi op s = some r) ∧
    (∀ f args h r, kcall T n f args h = some r → kcall T (n + 1) f args h = some r) ∧
    (∀ l args h r, kround T n l args h = some r → kround T (n + 1) l args h = some r) := by
  intro n
  induction n with
  | zero =>
    refine ⟨?_, ?_, ?_, ?_, ?_, ?_⟩
    · intro fi c s r h; unfold kcode at h; cases h
    · intro l s o r h; unfold kafter at h; cases h
    · intro ops fi prs i log s r h; unfold kops at h; cases h
    · intro fi op s r h; unfold kstep at h; cases h
    · intro f args h r hh; unfold kcall at hh; cases hh
    · intro l args h r hh; unfold kround at hh; cases hh
  | succ n ih =>
    obtain ⟨hcode, hafter, hops, hstep, hcall, hround⟩ := ih
    refine ⟨?_, ?_, ?_, ?_, ?_, ?_⟩
    · intro fi c s r h
      unfold kcode at h ⊢
      cases c with
      | skip => exact h
      | ret => exact h
      | exit id => exact h
      | reg ops prs =>
        dsimp only at h ⊢
        cases hk : kops T n fi prs 0 [] ops s with
        | none => rw [hk] at h; cases h
        | some s' => rw [hk] at h; rw [hops _ _ _ _ _ _ _ hk]; exact h
      | seq a b =>
        dsimp only at h ⊢
        cases hk : kcode T n fi a s with
        | none => rw [hk] at h; cases h
        | some q =>
          obtain ⟨e, s'⟩ := q
          rw [hk] at h; rw [hcode _ _ _ _ hk]
          cases e with
          | normal => exact hcode _ _ _ _ h
          | exit id => exact h
          | ret => exact h
      | cond k a b =>
        dsimp only at h ⊢
        split at h
        · rename_i t ht; exact hcode _ _ _ _ h
        · cases h
      | block id a =>
        dsimp only at h ⊢
        cases hk : kcode T n fi a s with
        | none => rw [hk] at h; cases h
        | some q => rw [hk] at h; rw [hcode _ _ _ _ hk]; exact h
      | loop a =>
        dsimp only at h ⊢
        cases hk : kcode T n fi a s with
        | none => rw [hk] at h; cases h
        | some q =>
          obtain ⟨e, s'⟩ := q
          rw [hk] at h; rw [hcode _ _ _ _ hk]
          cases e with
          | normal => exact hcode _ _ _ _ h
          | exit id => exact h
          | ret => exact h
      | rf f ps a b =>
        dsimp only at h ⊢
        split at h
        · rename_i g x y hf
          split at h
          · rename_i hrd
            cases hk : kcall T n g (x.toList ++ [.func (.yield (s.h.length + 1)) #[] #[]] ++ y.toList) (s.h ++ [.mark, .loop { st := .ready, pending := none, fi := { fi with rd := some (s.h.length + 1) }, fr := s.fr, params := ps, assign := a, body := b, blk := s.h.length }]) with
            | none => rw [hk] at h; cases n <;> simp [kafter] at h
            | some q => rw [hk] at h; rw [hcall _ _ _ _ hk]; exact hafter _ _ _ _ h
          · rename_i l0 hrd
            split at h
            · rename_i r0 hl0
              cases hk : kcall T n g (x.toList ++ [.func (.yield s.h.length) #[] #[]] ++ y.toList) (s.h ++ [.loop { st := .ready, pending := none, fi := { fi with rd := some s.h.length }, fr := s.fr, params := ps, assign := a, body := b, blk := r0.blk }]) with
              | none => rw [hk] at h; cases n <;> simp [kafter] at h
              | some q => rw [hk] at h; rw [hcall _ _ _ _ hk]; exact hafter _ _ _ _ h
            · cases h
        · cases h
    · intro l s o r h
      unfold kafter at h ⊢
      exact h
    · intro ops fi prs i log s r h
      unfold kops at h ⊢
      cases ops with
      | nil => exact h
      | cons o rest =>
        dsimp only at h ⊢
        split at h
        · rename_i hw
          rw [if_pos hw]
          cases hk : kstep T n fi o.op s with
          | none => rw [hk] at h; cases h
          | some q =>
            obtain ⟨v, h'⟩ := q
            rw [hk] at h; rw [hstep _ _ _ _ hk]
            dsimp only at h ⊢
            split at h
            · rename_i hp
              rw [if_pos hp]
              split at h
              · rename_i ha; rw [if_pos ha]; exact hops _ _ _ _ _ _ _ h
              · cases h
            · rename_i hp; rw [if_neg hp]; exact hops _ _ _ _ _ _ _ h
        · rename_i hw
          rw [if_neg hw]
          split at h
          · rename_i ht; rw [if_pos ht]; exact hops _ _ _ _ _ _ _ h
          · cases h
    · intro fi op s r h
      exact kstep_mono_of hcall hround h
    · intro f args h r hh
      unfold kcall at hh ⊢
      cases hT : T f with
      | none => rw [hT] at hh; cases hh
      | some k =>
        rw [hT] at hh
        dsimp only at hh ⊢
        by_cases hi : isIns k.body = true
        · rw [if_pos hi] at hh ⊢; exact hh
        rw [if_neg hi] at hh ⊢
        split at hh
        · rename_i hl
          rw [if_pos hl]
          cases hk : kcode T n ⟨f, k.nt, none⟩ k.body ⟨frOf args, h, []⟩ with
          | none => rw [hk] at hh; cases hh
          | some q => rw [hk] at hh; rw [hcode _ _ _ _ hk]; exact hh
        · cases hh
    · intro l args h r hh
      unfold kround at hh ⊢
      split at hh
      · rename_i r0 hl
        split at hh
        · rename_i hc
          rw [if_pos hc]
          cases hk : kcode T n r0.fi r0.assign ⟨putAll r0.fr r0.params args, h, []⟩ with
          | none => rw [hk] at hh; cases hh
          | some q =>
            obtain ⟨e, s1⟩ := q
            rw [hk] at hh; rw [hcode _ _ _ _ hk]
            cases e with
            | exit id => cases hh
            | ret => cases hh
            | normal =>
              dsimp only at hh ⊢
              split at hh
              · rename_i r1 hl1 hm1
                split at hh
                · rename_i hs1
                  rw [if_pos hs1]
                  cases hk2 : kcode T n r0.fi r0.body { s1 with h := s1.h.set l (.loop { r1 with st := .busy }) } with
                  | none => rw [hk2] at hh; cases hh
                  | some q2 => rw [hk2] at hh; rw [hcode _ _ _ _ hk2]; exact hh
                · cases hh
              · cases hh
        · cases hh
      · cases hh
theorem up {α : Type} {g : Nat → Option α} (hg : ∀ n r, g n = some r → g (n + 1) = some r) {n m : Nat} (hnm : n ≤ m) {r : α} (h : g n = some r) : g m = some r := by
  obtain ⟨k, rfl⟩ := Nat.exists_eq_add_of_le hnm
  clear hnm
  induction k with
  | zero => exact h
  | succ k ih => exact hg _ _ ih
theorem kcode_up {n m : Nat} (hnm : n ≤ m) {fi c s r} (h : kcode T n fi c s = some r) : kcode T m fi c s = some r := up (fun n r => (mono_all n).1 fi c s r) hnm h
theorem kops_up {n m : Nat} (hnm : n ≤ m) {fi prs i log ops s r} (h : kops T n fi prs i log ops s = some r) : kops T m fi prs i log ops s = some r := up (fun n r => (mono_all n).2.2.1 ops fi prs i log s r) hnm h
theorem kcall_up {n m : Nat} (hnm : n ≤ m) {f args h r} (hh : kcall T n f args h = some r) : kcall T m f args h = some r := up (fun n r => (mono_all n).2.2.2.2.1 f args h r) hnm hh
theorem kround_up {n m : Nat} (hnm : n ≤ m) {l args h r} (hh : kround T n l args h = some r) : kround T m l args h = some r := up (fun n r => (mono_all n).2.2.2.2.2 l args h r) hnm hh
end Go.Canon
namespace Go.Canon
set_option linter.unusedVariables false
set_option linter.unusedSimpArgs false
open Go
open Classical
variable {T : Nat → Option KFunc}
/-- The code c ends, from the frame fr, the objects h, the marks m, in a way that K tells. -/
structure AX (T : Nat → Option KFunc) (fi : FI) (c : KC) (fr : Nat → Value) (h : Heap) (m : List Nat) (K : Ex → (Nat → Value) → Heap → List Nat → Prop) : Prop where
  go : ∃ n e s', kcode T n fi c ⟨fr, h, m⟩ = some (e, s') ∧ K e s'.fr s'.h s'.mks
def AOps (T : Nat → Option KFunc) (fi : FI) (prs : List (Nat × Nat)) (i : Nat) (log : List LogE) (ops : List KOper) (fr : Nat → Value) (h : Heap) (m : List Nat) (K : (Nat → Value) → Heap → List Nat → Prop) : Prop :=
  ∃ n s', kops T n fi prs i log ops ⟨fr, h, m⟩ = some s' ∧ K s'.fr s'.h s'.mks
def ACall (T : Nat → Option KFunc) (f : Nat) (args : List Value) (h : Heap) (K : Value → Heap → Prop) : Prop :=
  ∃ n v h', kcall T n f args h = some (v, h') ∧ K v h'
def ARound (T : Nat → Option KFunc) (l : Nat) (args : List Value) (h : Heap) (K : Value → Heap → Prop) : Prop :=
  ∃ n v h', kround T n l args h = some (v, h') ∧ K v h'
/-- The call hands back v and leaves the objects h'. -/
def Ret (T : Nat → Option KFunc) (f : Nat) (args : List Value) (h : Heap) (v : Value) (h' : Heap) : Prop := ∃ n, kcall T n f args h = some (v, h')
theorem Ret.call {f args h v h'} (H : Ret T f args h v h') {K : Value → Heap → Prop} (k : K v h') : ACall T f args h K :=
  let ⟨n, e⟩ := H; ⟨n, v, h', e, k⟩
variable {fi : FI} {fr : Nat → Value} {h : Heap} {m : List Nat} {K : Ex → (Nat → Value) → Heap → List Nat → Prop}
theorem AX_skip (k : K .normal fr h m) : AX T fi .skip fr h m K := ⟨1, .normal, ⟨fr, h, m⟩, by simp [kcode], k⟩
theorem AX_ret (k : K .ret fr h m) : AX T fi .ret fr h m K := ⟨1, .ret, ⟨fr, h, m⟩, by simp [kcode], k⟩
theorem AX_exit {id : Nat} (k : K (.exit id) fr h m) : AX T fi (.exit id) fr h m K := ⟨1, .exit id, ⟨fr, h, m⟩, by simp [kcode], k⟩
/-- What stands behind a sequence's first half. -/
def thenK (T : Nat → Option KFunc) (fi : FI) (b : KC) (K : Ex → (Nat → Value) → Heap → List Nat → Prop) : Ex → (Nat → Value) → Heap → List Nat → Prop
  | .normal, fr, h, m => AX T fi b fr h m K
  | e, fr, h, m => K e fr h m
theorem AX_seq {a b : KC} (H : AX T fi a fr h m (thenK T fi b K)) : AX T fi (.seq a b) fr h m K := by
  obtain ⟨n, e, s', x, k⟩ := H
  cases e with
  | normal =>
    obtain ⟨n2, e2, s2, x2, k2⟩ := k
    refine ⟨max n n2 + 1, e2, s2, ?_, k2⟩
    unfold kcode
    dsimp only
    rw [kcode_up (Nat.le_max_left n n2) x]
    exact kcode_up (Nat.le_max_right n n2) x2
  | exit id => exact ⟨n + 1, _, s', by unfold kcode; dsimp only; rw [x], k⟩
  | ret => exact ⟨n + 1, _, s', by unfold kcode; dsimp only; rw [x], k⟩
theorem AX_cond {c : KO} {a b : KC} {t : Bool} (hc : c.ev fr = .bool t) (H : AX T fi (if t then a else b) fr h m K) : AX T fi (.cond c a b) fr h m K := by
  obtain ⟨n, e, s', x, k⟩ := H
  exact ⟨n + 1, e, s', by unfold kcode; simp only [hc]; exact x, k⟩
def blockK (id : Nat) (K : Ex → (Nat → Value) → Heap → List Nat → Prop) : Ex → (Nat → Value) → Heap → List Nat → Prop
  | .exit id', fr, h, m => if id' = id then K .normal fr h m else K (.exit id') fr h m
  | e, fr, h, m => K e fr h m
theorem AX_block {id : Nat} {a : KC} (H : AX T fi a fr h m (blockK id K)) : AX T fi (.block id a) fr h m K := by
  obtain ⟨n, e, s', x, k⟩ := H
  cases e with
  | normal => exact ⟨n + 1, _, s', by unfold kcode; dsimp only; rw [x], k⟩
  | ret => exact ⟨n + 1, _, s', by unfold kcode; dsimp only; rw [x], k⟩
  | exit id' =>
    by_cases hid : id' = id
    · exact ⟨n + 1, .normal, s', by unfold kcode; dsimp only; rw [x]; simp [hid], by simpa [blockK, hid] using k⟩
    · exact ⟨n + 1, .exit id', s', by unfold kcode; dsimp only; rw [x]; simp [hid], by simpa [blockK, hid] using k⟩
theorem AX_loop_step {a : KC} (H : AX T fi a fr h m (thenK T fi (.loop a) K)) : AX T fi (.loop a) fr h m K := by
  obtain ⟨n, e, s', x, k⟩ := H
  cases e with
  | normal =>
    obtain ⟨n2, e2, s2, x2, k2⟩ := k
    refine ⟨max n n2 + 1, e2, s2, ?_, k2⟩
    unfold kcode
    dsimp only
    rw [kcode_up (Nat.le_max_left n n2) x]
    exact kcode_up (Nat.le_max_right n n2) x2
  | exit id => exact ⟨n + 1, _, s', by unfold kcode; dsimp only; rw [x], k⟩
  | ret => exact ⟨n + 1, _, s', by unfold kcode; dsimp only; rw [x], k⟩
theorem AX_reg {ops : List KOper} {prs : List (Nat × Nat)} (H : AOps T fi prs 0 [] ops fr h m (fun fr h m => K .normal fr h m)) : AX T fi (.reg ops prs) fr h m K := by
  obtain ⟨n, s', x, k⟩ := H
  exact ⟨n + 1, .normal, s', by unfold kcode; dsimp only; rw [x], k⟩
variable {prs : List (Nat × Nat)} {i : Nat} {log : List LogE} {o : KOper} {r : List KOper} {L : (Nat → Value) → Heap → List Nat → Prop}
theorem AOps_nil (k : L fr h m) : AOps T fi prs i log [] fr h m L := ⟨1, ⟨fr, h, m⟩, by simp [kops], k⟩
theorem AOps_off (hw : wantedK o.guard fr = false) (ht : toldK o.guard fr = true) (H : AOps T fi prs (i + 1) log r (put fr o.dst undef) h m L) : AOps T fi prs i log (o :: r) fr h m L := by
  obtain ⟨n, s', x, k⟩ := H
  exact ⟨n + 1, s', by unfold kops; simp only [hw, ht, Bool.false_eq_true, if_false, if_true]; exact x, k⟩
/-- An operation that is no call. -/
theorem AOps_val {v : Value} {e : Eff} (hp : prs.any (fun p => p.1 = i ∨ p.2 = i) = false) (hw : wantedK o.guard fr = true) (hk : kop o.op fr h = some (.val v e))
    (H : AOps T fi prs (i + 1) log r (put fr o.dst v) (e.on h) m L) : AOps T fi prs i log (o :: r) fr h m L := by
  obtain ⟨n, s', x, k⟩ := H
  refine ⟨n + 2, s', ?_, k⟩
  unfold kops
  have hs : kstep T (n + 1) fi o.op ⟨fr, h, m⟩ = some (v, e.on h) := by unfold kstep; simp only [hk]
  simp only [hw, if_true, hs, hp, Bool.false_eq_true, if_false]
  exact kops_up (Nat.le_succ n) x
theorem AOps_call {f : Nat} {args : List Value} (hp : prs.any (fun p => p.1 = i ∨ p.2 = i) = false) (hw : wantedK o.guard fr = true) (hk : kop o.op fr h = some (.call f args))
    (H : ACall T f args h fun v h' => AOps T fi prs (i + 1) log r (put fr o.dst v) h' m L) : AOps T fi prs i log (o :: r) fr h m L := by
  obtain ⟨n, v, h', x, n2, s', x2, k⟩ := H
  refine ⟨max n n2 + 2, s', ?_, k⟩
  unfold kops
  have hs : kstep T (max n n2 + 1) fi o.op ⟨fr, h, m⟩ = some (v, h') := by unfold kstep; simp only [hk]; exact kcall_up (Nat.le_max_left _ _) x
  simp only [hw, if_true, hs, hp, Bool.false_eq_true, if_false]
  exact kops_up (by omega) x2
theorem AOps_yield {l : Nat} {args : List Value} (hp : prs.any (fun p => p.1 = i ∨ p.2 = i) = false) (hw : wantedK o.guard fr = true) (hk : kop o.op fr h = some (.yield l args))
    (H : ARound T l args h fun v h' => AOps T fi prs (i + 1) log r (put fr o.dst v) h' m L) : AOps T fi prs i log (o :: r) fr h m L := by
  obtain ⟨n, v, h', x, n2, s', x2, k⟩ := H
  refine ⟨max n n2 + 2, s', ?_, k⟩
  unfold kops
  have hs : kstep T (max n n2 + 1) fi o.op ⟨fr, h, m⟩ = some (v, h') := by unfold kstep; simp only [hk]; exact kround_up (Nat.le_max_left _ _) x
  simp only [hw, if_true, hs, hp, Bool.false_eq_true, if_false]
  exact kops_up (by omega) x2
/-- The same, where the order of some pair with this operation is open. -/
theorem AOps_valD {v : Value} {e : Eff} (hw : wantedK o.guard fr = true) (hk : kop o.op fr h = some (.val v e))
    (ha : ∀ e' ∈ log, (e'.ix, i) ∈ prs → apart e' ⟨i, isCall o.op, rds o.op fr, h, e.on h⟩)
    (H : AOps T fi prs (i + 1) (⟨i, isCall o.op, rds o.op fr, h, e.on h⟩ :: log) r (put fr o.dst v) (e.on h) m L)
    (hp : prs.any (fun p => p.1 = i ∨ p.2 = i) = true) : AOps T fi prs i log (o :: r) fr h m L := by
  obtain ⟨n, s', x, k⟩ := H
  refine ⟨n + 2, s', ?_, k⟩
  unfold kops
  have hs : kstep T (n + 1) fi o.op ⟨fr, h, m⟩ = some (v, e.on h) := by unfold kstep; simp only [hk]
  simp only [hw, if_true, hs, hp]
  rw [if_pos ha]
  exact kops_up (Nat.le_succ n) x
theorem AOps_callD {f : Nat} {args : List Value} (hw : wantedK o.guard fr = true) (hk : kop o.op fr h = some (.call f args)) (hp : prs.any (fun p => p.1 = i ∨ p.2 = i) = true)
    (H : ACall T f args h fun v h' => (∀ e' ∈ log, (e'.ix, i) ∈ prs → apart e' ⟨i, isCall o.op, rds o.op fr, h, h'⟩) ∧ AOps T fi prs (i + 1) (⟨i, isCall o.op, rds o.op fr, h, h'⟩ :: log) r (put fr o.dst v) h' m L) : AOps T fi prs i log (o :: r) fr h m L := by
  obtain ⟨n, v, h', x, ha, n2, s', x2, k⟩ := H
  refine ⟨max n n2 + 2, s', ?_, k⟩
  unfold kops
  have hs : kstep T (max n n2 + 1) fi o.op ⟨fr, h, m⟩ = some (v, h') := by unfold kstep; simp only [hk]; exact kcall_up (Nat.le_max_left _ _) x
  simp only [hw, if_true, hs, hp]
  rw [if_pos ha]
  exact kops_up (by omega) x2
/-- What must stand at a function's end. -/
def Fin (k : KFunc) (K : Value → Heap → Prop) : Ex → (Nat → Value) → Heap → List Nat → Prop
  | .exit _, _, _, _ => False
  | _, fr, h', m => ∃ v, resultsK h' fr k.res = some v ∧ (∀ x ∈ m, h'[x]? = some .mark) ∧ K v (m.foldl (fun h x => h.set x .gone) h')
theorem ACall_of {f : Nat} {k : KFunc} {args : List Value} {K : Value → Heap → Prop} (hT : T f = some k) (hl : args.length = k.np)
    (H : AX T ⟨f, k.nt, none⟩ k.body (frOf args) h [] (Fin k K)) (hi : isIns k.body = false) : ACall T f args h K := by
  have hi' : ¬ (isIns k.body = true) := by rw [hi]; decide
  obtain ⟨n, e, s', x, hk⟩ := H
  cases e with
  | exit id => exact hk.elim
  | normal =>
    obtain ⟨v, hv, hm, hK⟩ := hk
    refine ⟨n + 1, v, _, ?_, hK⟩
    unfold kcall
    simp only [hT]
    rw [if_neg hi', if_pos hl, x]
    simp only [hv]
    rw [if_pos hm]
  | ret =>
    obtain ⟨v, hv, hm, hK⟩ := hk
    refine ⟨n + 1, v, _, ?_, hK⟩
    unfold kcall
    simp only [hT]
    rw [if_neg hi', if_pos hl, x]
    simp only [hv]
    rw [if_pos hm]
end Go.Canon
namespace Go.Canon
set_option linter.unusedVariables false
set_option linter.unusedSimpArgs false
open Go
/-- A block is no greater (in cells of elements) than a slice may be. -/
abbrev mxL : Nat := 9223372036854775807
/-- Where an object lies: block and shift; of which objects that is told; of a row that comes of an append: its elements' size, and the cells of the block. -/
structure M where
  f : Nat → Nat × Nat
  V : Nat → Prop
  Z : Nat → Option (Nat × Nat)
  d : Nat
  hZ : ∀ b z S, Z b = some (z, S) → S ≤ z * mxL
/-- What stands where nothing is told. -/
def veil : Value := .chan none
inductive VRel (μ : M) : Value → Value → Prop
  | flat (v : Value) (h : flat0 v = true) : VRel μ v v
  | veil (v : Value) : VRel μ veil v
  | ptr (b o : Nat) (hV : μ.V b) : VRel μ (.pointer (some ⟨b, o, none⟩)) (.pointer (some ⟨(μ.f b).1, (μ.f b).2 + o, none⟩))
  | sl (b o n c o' c' : Nat) (hV : μ.V b) (hn : n ≤ c) (hc : c ≤ c') (ho : c ≠ 0 → o' = (μ.f b).2 + o)
      (hz : ∀ z S, μ.Z b = some (z, S) → o' + c' * z ≤ S) (hz' : μ.Z b = none → c' = c ∧ o' = (μ.f b).2 + o) :
      VRel μ (.slice (some ⟨b, o, none⟩) n c) (.slice (some ⟨(μ.f b).1, o', none⟩) n c')
  | sl2 (b o sp : Nat) (a' : Addr) : VRel μ (.slice (some ⟨b, o, some sp⟩) 0 0) (.slice (some a') 0 0)
  | sl0 (a' : Addr) : VRel μ (.slice (some ⟨μ.d, 0, none⟩) 0 0) (.slice (some a') 0 0)
  | mp (b : Nat) (hV : μ.V b) (hs : (μ.f b).2 = 0) : VRel μ (.map (some b)) (.map (some (μ.f b).1))
  | fn (g : Nat) (p q p' q' : Array Value) (hp : p.size = p'.size) (hq : q.size = q'.size)
      (h1 : ∀ (i : Nat) v v', p[i]? = some v → p'[i]? = some v' → VRel μ v v') (h2 : ∀ (i : Nat) v v', q[i]? = some v → q'[i]? = some v' → VRel μ v v') :
      VRel μ (.func (.func g) p q) (.func (.func g) p' q')
  | yl (l : Nat) (hV : μ.V l) (hs : (μ.f l).2 = 0) : VRel μ (.func (.yield l) #[] #[]) (.func (.yield (μ.f l).1) #[] #[])
  | agg (cs cs' : Array Value) (hs : cs.size = cs'.size) (h : ∀ (i : Nat) v v', cs[i]? = some v → cs'[i]? = some v' → VRel μ v v') : VRel μ (.agg cs) (.agg cs')
  | tup (cs cs' : Array Value) (hs : cs.size = cs'.size) (h : ∀ (i : Nat) v v', cs[i]? = some v → cs'[i]? = some v' → VRel μ v v') : VRel μ (.tuple cs) (.tuple cs')
/-- One list of values beside another. -/
def VRels (μ : M) (vs vs' : List Value) : Prop := vs.length = vs'.length ∧ ∀ (i : Nat) v v', vs[i]? = some v → vs'[i]? = some v' → VRel μ v v'
/-- μ' tells all that μ tells, and what it tells alike. -/
structure M.le (μ μ' : M) : Prop where
  V : ∀ b, μ.V b → μ'.V b
  f : ∀ b, μ.V b → μ'.f b = μ.f b
  Z : ∀ b, μ.V b → μ'.Z b = μ.Z b
  d : μ'.d = μ.d
theorem M.le.refl (μ : M) : μ.le μ := ⟨fun _ h => h, fun _ _ => rfl, fun _ _ => rfl, rfl⟩
theorem M.le.trans {μ ν ξ : M} (a : μ.le ν) (b : ν.le ξ) : μ.le ξ := ⟨fun x h => b.V x (a.V x h), fun x h => (b.f x (a.V x h)).trans (a.f x h), fun x h => (b.Z x (a.V x h)).trans (a.Z x h), b.d.trans a.d⟩
theorem VRel.mono {μ μ' : M} (hle : μ.le μ') {v v' : Value} (h : VRel μ v v') : VRel μ' v v' := by
  induction h with
  | flat v h => exact .flat v h
  | veil v => exact .veil v
  | ptr b o hV => rw [← hle.f b hV]; exact .ptr b o (hle.V b hV)
  | sl b o n c o' c' hV hn hc ho hz hz' =>
    rw [← hle.f b hV] at ho hz' ⊢
    rw [← hle.Z b hV] at hz hz'
    exact .sl b o n c o' c' (hle.V b hV) hn hc ho hz hz'
  | sl0 a' => rw [← hle.d]; exact .sl0 a'
  | sl2 b o sp a' => exact .sl2 b o sp a'
  | mp b hV hs => rw [← hle.f b hV] at hs ⊢; exact .mp b (hle.V b hV) hs
  | fn g p q p' q' hp hq _ _ i1 i2 => exact .fn g p q p' q' hp hq i1 i2
  | yl l hV hs => rw [← hle.f l hV] at hs ⊢; exact .yl l (hle.V l hV) hs
  | agg cs cs' hs _ ih => exact .agg cs cs' hs ih
  | tup cs cs' hs _ ih => exact .tup cs cs' hs ih
theorem VRels.mono {μ μ' : M} (hle : μ.le μ') {v v' : List Value} (h : VRels μ v v') : VRels μ' v v' := ⟨h.1, fun i a b x y => (h.2 i a b x y).mono hle⟩
theorem VRels.nil (μ : M) : VRels μ [] [] := ⟨rfl, fun i v v' h => by simp at h⟩
theorem VRels.cons {μ : M} {v v' : Value} {l l' : List Value} (h : VRel μ v v') (H : VRels μ l l') : VRels μ (v :: l) (v' :: l') := by
  refine ⟨by simp [H.1], fun i a b x y => ?_⟩
  cases i with
  | zero => simp at x y; subst x y; exact h
  | succ i => simp at x y; exact H.2 i a b x y
theorem VRels.head {μ : M} {v v' : Value} {l l' : List Value} (H : VRels μ (v :: l) (v' :: l')) : VRel μ v v' := H.2 0 v v' rfl rfl
theorem VRels.tail {μ : M} {v v' : Value} {l l' : List Value} (H : VRels μ (v :: l) (v' :: l')) : VRels μ l l' :=
  ⟨by have := H.1; simpa using this, fun i a b x y => H.2 (i + 1) a b (by simpa using x) (by simpa using y)⟩
theorem VRels.append {μ : M} {a a' b b' : List Value} (h : VRels μ a a') (k : VRels μ b b') : VRels μ (a ++ b) (a' ++ b') := by
  refine ⟨by simp [h.1, k.1], fun i v v' x y => ?_⟩
  by_cases hi : i < a.length
  · rw [List.getElem?_append_left hi] at x
    rw [List.getElem?_append_left (h.1 ▸ hi)] at y
    exact h.2 i v v' x y
  · rw [List.getElem?_append_right (by omega)] at x
    rw [List.getElem?_append_right (by have := h.1; omega), ← h.1] at y
    exact k.2 _ v v' x y
theorem VRels.take {μ : M} {a a' : List Value} (h : VRels μ a a') (n : Nat) : VRels μ (a.take n) (a'.take n) := by
  refine ⟨by simp [h.1], fun i v v' x y => ?_⟩
  rw [List.getElem?_take] at x y
  split at x
  · rename_i hi; rw [if_pos hi] at y; exact h.2 i v v' x y
  · cases x
theorem VRels.drop {μ : M} {a a' : List Value} (h : VRels μ a a') (n : Nat) : VRels μ (a.drop n) (a'.drop n) := by
  refine ⟨by simp [h.1], fun i v v' x y => ?_⟩
  rw [List.getElem?_drop] at x y
  exact h.2 _ v v' x y
theorem VRels.get {μ : M} {a a' : List Value} (h : VRels μ a a') {i : Nat} {v : Value} (x : a[i]? = some v) : ∃ v', a'[i]? = some v' ∧ VRel μ v v' := by
  have hi : i < a.length := (List.getElem?_eq_some_iff.1 x).1
  have hi' : i < a'.length := h.1 ▸ hi
  exact ⟨a'[i], List.getElem?_eq_getElem hi', h.2 i _ _ x (List.getElem?_eq_getElem hi')⟩
theorem VRels.flat {μ : M} {l : List Value} (h : l.all flat0 = true) : VRels μ l l :=
  ⟨rfl, fun i v v' x y => by rw [x] at y; cases y; exact .flat v (List.all_eq_true.1 h v (List.mem_of_getElem? x))⟩
theorem vrels_of_arr {μ : M} {cs cs' : Array Value} (hs : cs.size = cs'.size) (h : ∀ (i : Nat) v v', cs[i]? = some v → cs'[i]? = some v' → VRel μ v v') : VRels μ cs.toList cs'.toList :=
  ⟨by simpa using hs, fun i v v' x y => h i v v' (by simpa using x) (by simpa using y)⟩
theorem VRels.agg {μ : M} {l l' : List Value} (h : VRels μ l l') : VRel μ (.agg l.toArray) (.agg l'.toArray) :=
  .agg _ _ (by simpa using h.1) (fun i v v' x y => h.2 i v v' (by simpa using x) (by simpa using y))
theorem VRels.aggA {μ : M} {l l' : Array Value} (h : VRels μ l.toList l'.toList) : VRel μ (.agg l) (.agg l') :=
  .agg _ _ (by simpa using h.1) (fun i v v' x y => h.2 i v v' (by simpa using x) (by simpa using y))
theorem VRels.tup {μ : M} {l l' : List Value} (h : VRels μ l l') : VRel μ (.tuple l.toArray) (.tuple l'.toArray) :=
  .tup _ _ (by simpa using h.1) (fun i v v' x y => h.2 i v v' (by simpa using x) (by simpa using y))
theorem vrel_undef (μ : M) : VRel μ undef undef := (VRels.nil μ).tup
theorem vrel_flat1 {μ : M} {v : Value} (h : flat1 v = true) : VRel μ v v := by
  cases v <;> simp only [flat1] at h <;> first | exact .flat _ h | exact (VRels.flat h).aggA
theorem vrel_flat2 {μ : M} {v : Value} (h : flat2 v = true) : VRel μ v v := by
  cases v with
  | tuple vs =>
    simp only [flat2] at h
    exact .tup _ _ rfl fun i v v' x y => by
      rw [x] at y; cases y
      exact vrel_flat1 (List.all_eq_true.1 h v (List.mem_of_getElem? (by simpa using x)))
  | _ => exact vrel_flat1 (by simpa [flat2] using h)
theorem vrel_int {μ : M} {k : IntKind} {n : Int} {v' : Value} (h : VRel μ (.int k n) v') : v' = .int k n := by cases h; rfl
theorem vrel_bool {μ : M} {b : Bool} {v' : Value} (h : VRel μ (.bool b) v') : v' = .bool b := by cases h; rfl
theorem vrel_str {μ : M} {s : ByteArray} {v' : Value} (h : VRel μ (.string s) v') : v' = .string s := by cases h; rfl
theorem vrel_ptr {μ : M} {a : Addr} {v' : Value} (h : VRel μ (.pointer (some a)) v') : a.spot = none ∧ μ.V a.block ∧ v' = .pointer (some ⟨(μ.f a.block).1, (μ.f a.block).2 + a.off, none⟩) := by
  cases h with
  | flat _ h => simp [flat0] at h
  | ptr b o hV => exact ⟨rfl, hV, rfl⟩
theorem vrel_agg {μ : M} {cs : Array Value} {v' : Value} (h : VRel μ (.agg cs) v') : ∃ cs', v' = .agg cs' ∧ VRels μ cs.toList cs'.toList := by
  cases h with
  | flat _ h => simp [flat0] at h
  | agg _ cs' hs h => exact ⟨cs', rfl, vrels_of_arr hs h⟩
/-- What a slice may be. -/
theorem vrel_slice {μ : M} {a : Option Addr} {n c : Nat} {v' : Value} (h : VRel μ (.slice a n c) v') :
    (a = none ∧ n = 0 ∧ c = 0 ∧ v' = .slice none 0 0) ∨
    (∃ x x', a = some x ∧ n = 0 ∧ c = 0 ∧ v' = .slice (some x') 0 0) ∨
    ∃ x o' c', a = some x ∧ x.spot = none ∧ μ.V x.block ∧ n ≤ c ∧ c ≤ c' ∧ (c ≠ 0 → o' = (μ.f x.block).2 + x.off) ∧
      (∀ z S, μ.Z x.block = some (z, S) → o' + c' * z ≤ S) ∧ (μ.Z x.block = none → c' = c ∧ o' = (μ.f x.block).2 + x.off) ∧ v' = .slice (some ⟨(μ.f x.block).1, o', none⟩) n c' := by
  cases h with
  | flat _ h => cases a with
    | none => simp only [flat0] at h; split at h <;> simp_all
    | some x => simp [flat0] at h
  | sl0 a' => exact .inr (.inl ⟨_, a', rfl, rfl, rfl, rfl⟩)
  | sl2 b o sp a' => exact .inr (.inl ⟨_, a', rfl, rfl, rfl, rfl⟩)
  | sl b o n c o' c' hV hn hc ho hz hz' => exact .inr (.inr ⟨⟨b, o, none⟩, o', c', rfl, rfl, hV, hn, hc, ho, hz, hz', rfl⟩)
theorem vrel_dd {μ : M} {a : Addr} {n c : Nat} {v' : Value} (h : VRel μ (.slice (some a) n c) v') (hs : a.spot = none) : μ.V a.block ∨ a.block = μ.d := by
  cases h with
  | flat _ h => simp [flat0] at h
  | sl0 a' => exact .inr rfl
  | sl2 b o sp a' => cases hs
  | sl b o n c o' c' hV hn hc ho hz hz' => exact .inl hV
/-- The cells of two values. -/
theorem vrel_cells {μ : M} {v v' : Value} {l : List Value} (h : VRel μ v v') (hl : cellsOf v = some l) : VRels μ l v'.cells.toList := by
  cases h with
  | veil => simp [cellsOf, veil] at hl
  | agg cs cs' hs h => simp only [cellsOf] at hl; cases hl; exact vrels_of_arr hs h
  | flat v h => cases v <;> first | (simp [flat0] at h; done) | (simp only [cellsOf] at hl; cases hl; exact .cons (.flat _ h) (.nil μ))
  | ptr b o hV => simp only [cellsOf] at hl; cases hl; exact .cons (.ptr b o hV) (.nil μ)
  | sl b o n c o' c' hV hn hc ho hz hz' => simp only [cellsOf] at hl; cases hl; exact .cons (.sl b o n c o' c' hV hn hc ho hz hz') (.nil μ)
  | sl0 a' => simp only [cellsOf] at hl; cases hl; exact .cons (.sl0 a') (.nil μ)
  | sl2 b o sp a' => simp only [cellsOf] at hl; cases hl; exact .cons (.sl2 b o sp a') (.nil μ)
  | mp b hV hs => simp only [cellsOf] at hl; cases hl; exact .cons (.mp b hV hs) (.nil μ)
  | fn g p q p' q' hp hq h1 h2 => simp only [cellsOf] at hl; cases hl; exact .cons (.fn g p q p' q' hp hq h1 h2) (.nil μ)
  | yl l hV hs => simp only [cellsOf] at hl; cases hl; exact .cons (.yl l hV hs) (.nil μ)
  | tup cs cs' hs h => simp [cellsOf] at hl
theorem vrel_isCell {μ : M} {v v' : Value} (h : VRel μ v v') (hc : isCell v = true) : v'.oneCell' = true := by
  cases h <;> first | rfl | (simp [isCell, veil] at hc; done) | skip
  rename_i h
  cases v <;> first | rfl | (simp [isCell] at hc; done)
def ERel (μ : M) (e e' : MapEntry) : Prop := e'.key = e.key ∧ e'.born = e.born ∧ flat1 e.key = true ∧ VRel μ e.val e'.val
def jmp : KJump → Code
  | .ret => .ret
  | .exit id => .exit id
/-- The frame fr beside temporaries. -/
def FRel (μ : M) (nt : Nat) (fr : Nat → Value) (tmps : Array Value) : Prop := tmps.size = nt ∧ ∀ t : Nat, VRel μ (fr t) (tmps.getD t undef)
/-- An object beside a block. -/
def ObR (P : Program) (μ : M) (b : Nat) (o : CO) (o' : Obj) : Prop :=
  match o with
  | .row cs wr gr => ∃ c T fz, o' = .cells c T fz ∧ (wr = true → fz = (0, 0)) ∧ (∀ (i : Nat) v, cs[i]? = some v → ∃ v', c[(μ.f b).2 + i]? = some v' ∧ VRel μ v v') ∧ μ.Z b = gr.map fun z => (z, c.size)
  | .map es clock => ∃ es', o' = .map es' clock ∧ es.length = es'.size ∧ (∀ (i : Nat) e e', es[i]? = some e → es'[i]? = some e' → ERel μ e e') ∧ (μ.f b).2 = 0 ∧ μ.Z b = none
  | .loop r => ∃ fn tmps A B, o' = .loop { state := r.st, pending := r.pending.map jmp, fn, tmps, params := r.params.toArray, assign := A, body := B, defers := (μ.f r.blk).1 } ∧
      FRel μ r.fi.nt r.fr tmps ∧ cC P r.fi.nt A = some r.assign ∧ cC P r.fi.nt B = some r.body ∧ (∀ p ∈ r.params, p < r.fi.nt) ∧ r.fi.rd = some b ∧ (μ.f b).2 = 0 ∧ μ.V r.blk ∧ μ.Z b = none
  | .mark => o' = .deferred (some []) ∧ (μ.f b).2 = 0 ∧ μ.Z b = none
  | .gone => True
  | .other => μ.Z b = none
/-- All that may change. -/
def chg : CO → Bool
  | .row _ wr _ => wr
  | .map .. | .loop _ | .mark => true
  | .gone | .other => false
def live : CO → Bool
  | .gone => false
  | _ => true
theorem FRel.mono {μ μ' : M} (hle : μ.le μ') {nt : Nat} {fr : Nat → Value} {tmps : Array Value} (h : FRel μ nt fr tmps) : FRel μ' nt fr tmps := ⟨h.1, fun t => (h.2 t).mono hle⟩
theorem ObR.mono {P : Program} {μ μ' : M} (hle : μ.le μ') {b : Nat} (hb : μ.V b) {o : CO} {o' : Obj} (h : ObR P μ b o o') : ObR P μ' b o o' := by
  cases o with
  | row cs wr gr =>
    obtain ⟨c, T, fz, rfl, hf, hc, hz⟩ := h
    refine ⟨c, T, fz, rfl, hf, fun i v x => ?_, by rw [hle.Z b hb]; exact hz⟩
    obtain ⟨v', y, r⟩ := hc i v x
    exact ⟨v', by rw [hle.f b hb]; exact y, r.mono hle⟩
  | map es clock =>
    obtain ⟨es', rfl, hl, he, hs, hz⟩ := h
    exact ⟨es', rfl, hl, fun i e e' x y => let ⟨a, b, c, d⟩ := he i e e' x y; ⟨a, b, c, d.mono hle⟩, by rw [hle.f b hb]; exact hs, by rw [hle.Z b hb]; exact hz⟩
  | loop r =>
    obtain ⟨fn, tmps, A, B, rfl, hfr, hA, hB, hp, hrd, hs, hV, hz⟩ := h
    exact ⟨fn, tmps, A, B, by rw [hle.f _ hV], hfr.mono hle, hA, hB, hp, hrd, by rw [hle.f b hb]; exact hs, hle.V _ hV, by rw [hle.Z b hb]; exact hz⟩
  | mark => exact ⟨h.1, by rw [hle.f b hb]; exact h.2.1, by rw [hle.Z b hb]; exact h.2.2⟩
  | gone => trivial
  | other => show _ = none; rw [hle.Z b hb]; exact h
/-- The objects beside the world: each that is told of; none that may change shares its block. -/
structure WR (P : Program) (μ : M) (h : Heap) (w : World) : Prop where
  ob : ∀ b o, μ.V b → h[b]? = some o → ∃ o', w.heap[(μ.f b).1]? = some o' ∧ ObR P μ b o o'
  inj : ∀ b c o q, μ.V b → μ.V c → h[b]? = some o → h[c]? = some q → live o = true → live q = true → (μ.f b).1 = (μ.f c).1 → b = c
  bd : ∀ b, μ.V b → (μ.f b).1 < w.heap.size
  lt : ∀ b, μ.V b → b < h.length
  nd : ¬ μ.V μ.d
  dd : h[μ.d]? = some (.row [] false none)
  gl : ∀ g, g < gN → μ.V g ∧ μ.f g = (g, 0)
/-- What of the world stays: all but its blocks and its counter. -/
structure Kin (w w' : World) : Prop where
  os : w'.os = w.os
  tape : w'.tape = w.tape
  output : w'.output = w.output
theorem Kin.refl (w : World) : Kin w w := ⟨rfl, rfl, rfl⟩
theorem Kin.trans {a b c : World} (x : Kin a b) (y : Kin b c) : Kin a c := ⟨y.os.trans x.os, y.tape.trans x.tape, y.output.trans x.output⟩
/-- A block to which no object leads that may change is as it was. -/
def Frm (μ : M) (h : Heap) (w w' : World) : Prop :=
  w.heap.size ≤ w'.heap.size ∧ ∀ c, c < w.heap.size → (∀ b o, μ.V b → h[b]? = some o → (μ.f b).1 = c → chg o = false) → w'.heap[c]? = w.heap[c]?
end Go.Canon
namespace Go.Canon
set_option linter.unusedVariables false
set_option linter.unusedSimpArgs false
open Go
variable {P : Program} {w : World}
theorem r_typeInfo {t : TypeId} {i : TypeInfo} (h : P.info? t = some i) : (typeInfo t).run P w = .ok i w := by simp [typeInfo, h]
theorem r_sizeOf {t : TypeId} {n : Nat} (h : tySize P t = some n) : (sizeOf t).run P w = .ok n w := by
  unfold tySize at h
  cases hi : P.info? t with
  | none => rw [hi] at h; cases h
  | some i => rw [hi] at h; simp at h; simp [sizeOf, r_typeInfo hi, h]
theorem r_zeroValue {t : TypeId} {z : Value} (h : tyZero P t = some z) : (zeroValue t).run P w = .ok z w := by
  unfold tyZero at h
  cases hi : P.info? t with
  | none => rw [hi] at h; cases h
  | some i => rw [hi] at h; simp at h; simp [zeroValue, r_typeInfo hi, h]
theorem r_isAgg {t : TypeId} {d : TypeDesc} (h : P.underlying t = some d) : (isAgg t).run P w = .ok (tyAgg P t) w := by
  simp only [isAgg, Sem.run_bind, run_underlying h, Result.andThen_ok, tyAgg, h]
  cases d <;> rfl
theorem zeroCells_some {t : TypeId} {l : List Value} (h : zeroCells? P t = some l) : ∃ z, tyZero P t = some z ∧ l = z.cells.toList ∧ l.all flat0 = true ∧ tySize P t = some z.cells.size := by
  unfold zeroCells? at h
  cases hz : tyZero P t with
  | none => rw [hz] at h; cases h
  | some z =>
    rw [hz] at h
    dsimp only at h
    split at h
    · rename_i hc; cases h
      rw [Bool.and_eq_true] at hc
      exact ⟨z, rfl, rfl, hc.1, by simpa using hc.2⟩
    · cases h
theorem tyForm_cases {t : TypeId} {f : Option Nat} (h : tyForm P t = some f) : ∃ d, P.underlying t = some d ∧
    ((tyAgg P t = true ∧ ∃ n, f = some n ∧ tySize P t = some n) ∨ (tyAgg P t = false ∧ f = none ∧ tySize P t = some 1)) := by
  unfold tyForm at h
  cases hu : P.underlying t with
  | none => rw [hu] at h; cases h
  | some d =>
    rw [hu] at h
    refine ⟨d, rfl, ?_⟩
    dsimp only at h
    split at h
    · rename_i ha
      cases hs : tySize P t with
      | none => rw [hs] at h; cases h
      | some n => rw [hs] at h; cases h; exact .inl ⟨ha, n, rfl, rfl⟩
    · rename_i ha
      split at h
      · rename_i hs; cases h; exact .inr ⟨by simpa using ha, rfl, hs⟩
      · cases h
/-- One more object told of. -/
def M.add (μ : M) (n : Nat) (loc : Nat × Nat) (z : Option (Nat × Nat)) : M where
  f := fun b => if b = n then loc else μ.f b
  V := fun b => b = n ∨ μ.V b
  Z := fun b => if b = n then z.filter (fun p => p.2 ≤ p.1 * mxL) else μ.Z b
  d := μ.d
  hZ := fun b z' S h => by
    split at h
    · rw [Option.filter_eq_some_iff] at h; simpa using h.2
    · exact μ.hZ _ _ _ h
theorem M.le_add {μ : M} {n : Nat} {loc : Nat × Nat} {z : Option (Nat × Nat)} (hn : ¬ μ.V n) : μ.le (μ.add n loc z) := by
  have key : ∀ b, μ.V b → b ≠ n := fun b hb e => hn (e ▸ hb)
  exact ⟨fun b h => .inr h, fun b h => by simp [M.add, key b h], fun b h => by simp [M.add, key b h], rfl⟩
@[simp] theorem M.add_f {μ : M} {n : Nat} {loc : Nat × Nat} {z : Option (Nat × Nat)} : (μ.add n loc z).f n = loc := by simp [M.add]
@[simp] theorem M.add_Z0 {μ : M} {n : Nat} {loc : Nat × Nat} : (μ.add n loc none).Z n = none := by simp [M.add]
theorem M.add_Zs {μ : M} {n : Nat} {loc : Nat × Nat} {z S : Nat} (h : S ≤ z * mxL) : (μ.add n loc (some (z, S))).Z n = some (z, S) := by simp only [M.add, if_true]; rw [Option.filter_some, if_pos (by simpa using h)]
theorem M.add_Zi {μ : M} {n : Nat} {loc : Nat × Nat} {z : Option (Nat × Nat)} {p : Nat × Nat} (h : (μ.add n loc z).Z n = some p) : z = some p := by simp only [M.add, if_true] at h; rw [Option.filter_eq_some_iff] at h; exact h.1
theorem M.add_V {μ : M} {n : Nat} {loc : Nat × Nat} {z : Option (Nat × Nat)} : (μ.add n loc z).V n := .inl rfl
/-- What an operation has done to the world, where it does e to the objects. -/
inductive Did (P : Program) (μ : M) (n : Nat) (w : World) : Eff → World → M → Prop
  | no (w' : World) (hk : Kin w w') (hh : w'.heap = w.heap) : Did P μ n w .no w' μ
  | new (ob : CO) (o' : Obj) (z : Option (Nat × Nat)) (w' : World) (hk : Kin w w') (hh : w'.heap = w.heap.push o') (hr : ObR P (μ.add n (w.heap.size, 0) z) n ob o') : Did P μ n w (.new ob) w' (μ.add n (w.heap.size, 0) z)
  | upd (b : Nat) (ob : CO) (o' : Obj) (w' : World) (hV : μ.V b) (hk : Kin w w') (hh : w'.heap = w.heap.setIfInBounds (μ.f b).1 o') (hr : ObR P μ b ob o') : Did P μ n w (.upd b ob) w' μ
  | killN (b : Nat) (ob : CO) (o' : Obj) (z : Option (Nat × Nat)) (w' : World) (hV : μ.V b) (hk : Kin w w') (hh : w'.heap = w.heap.push o') (hr : ObR P (μ.add n (w.heap.size, 0) z) n ob o') : Did P μ n w (.kill b ob) w' (μ.add n (w.heap.size, 0) z)
  | killI (b : Nat) (ob : CO) (o' : Obj) (s : Nat) (z : Option (Nat × Nat)) (w' : World) (hV : μ.V b) (hk : Kin w w') (hh : w'.heap = w.heap.setIfInBounds (μ.f b).1 o') (hr : ObR P (μ.add n ((μ.f b).1, s) z) n ob o') : Did P μ n w (.kill b ob) w' (μ.add n ((μ.f b).1, s) z)
/-- Does it lay a new object? -/
def Eff.lays : Eff → Bool
  | .new _ | .kill .. => true
  | _ => false
/-- How an operation ends. -/
def Out (P : Program) (μ : M) (n : Nat) (ρ : Operand → Value) (o : Oper) (w : World) (v : Value) (e : Eff) : Prop :=
  ∃ v' w' μ', ((execOp ρ o).run P w = .ok (.value v') w' ∨ (v' = undef ∧ (execOp ρ o).run P w = .ok .skip w')) ∧ Did P μ n w e w' μ' ∧ VRel μ' v v'
/-- What is known of the operands. -/
def Rho (μ : M) (op : Op) (fr : Nat → Value) (ρ : Operand → Value) : Prop := ∀ x ∈ op.operands, ∀ kx, cO x = some kx → VRel μ (kx.ev fr) (ρ x)
/-- What is known of the objects that an operation looks at. -/
def Rds (P : Program) (μ : M) (k : KOp) (fr : Nat → Value) (h : Heap) (w : World) : Prop := ∀ b ∈ rds k fr, μ.V b → ∀ ob, h[b]? = some ob → ∃ o', w.heap[(μ.f b).1]? = some o' ∧ ObR P μ b ob o'
variable {μ : M} {n : Nat} {ρ : Operand → Value} {o : Oper} {fr : Nat → Value} {h : Heap} {v : Value} {e : Eff} {k : KOp}
/-- An operation that only reckons. -/
theorem out_pure {v' : Value} (hrun : (execOp ρ o).run P w = .ok (.value v') w) (hv : VRel μ v v') : Out P μ n ρ o w v .no :=
  ⟨v', w, μ, .inl hrun, .no w (Kin.refl w) rfl, hv⟩
theorem cO_const {x : Value} {kx : KO} (h : cO (.const x) = some kx) : kx = .c x ∧ flat2 x = true := by
  unfold cO at h
  split at h <;> simp_all
theorem sim_move {x : Operand} (ho : o.op = .move x ∨ o.op = .assign x) (hρ : Rho μ o.op fr ρ) (hc : cOp P o.op = some k) (hk : kop k fr h = some (.val v e)) : Out P μ n ρ o w v e := by
  have hx : cOp P o.op = (cO x).map .mv := by rcases ho with h | h <;> rw [h] <;> rfl
  rw [hx] at hc
  cases hcx : cO x with
  | none => rw [hcx] at hc; cases hc
  | some kx =>
    rw [hcx] at hc; cases hc
    simp only [kop] at hk
    cases hk
    refine out_pure ?_ (hρ x (by rcases ho with h | h <;> rw [h] <;> simp [Op.operands]) kx hcx)
    rcases ho with h | h <;> simp only [execOp, h] <;> rfl
theorem sim_pick {c a b : Operand} (ho : o.op = .pick c a b) (hρ : Rho μ o.op fr ρ) (hc : cOp P o.op = some k) (hk : kop k fr h = some (.val v e)) : Out P μ n ρ o w v e := by
  rw [ho] at hc hρ
  simp only [cOp] at hc
  split at hc
  · rename_i kc ka kb e1 e2 e3
    cases hc
    have r1 := hρ c (by simp [Op.operands]) kc e1
    have r2 := hρ a (by simp [Op.operands]) ka e2
    have r3 := hρ b (by simp [Op.operands]) kb e3
    simp only [kop] at hk
    split at hk
    · rename_i t ht
      cases hk
      rw [ht] at r1
      refine out_pure (v' := if t then ρ a else ρ b) ?_ (by split <;> assumption)
      simp only [execOp, ho, vrel_bool r1]
      simp [asBool]
    · cases hk
  · cases hc
theorem sim_not {x : Operand} {t : TypeId} (ho : o.op = .unOp .not t x) (hρ : Rho μ o.op fr ρ) (hc : cOp P o.op = some k) (hk : kop k fr h = some (.val v e)) : Out P μ n ρ o w v e := by
  rw [ho] at hc hρ
  simp only [cOp] at hc
  cases hcx : cO x with
  | none => rw [hcx] at hc; cases hc
  | some kx =>
    rw [hcx] at hc; cases hc
    have r := hρ x (by simp [Op.operands]) kx hcx
    simp only [kop] at hk
    split at hk
    · rename_i b hb
      cases hk
      rw [hb] at r
      refine out_pure (v' := .bool !b) ?_ (.flat _ rfl)
      simp only [execOp, ho, vrel_bool r]
      simp [Op.unary]
    · cases hk
theorem sim_neg {x : Operand} {t : TypeId} (ho : o.op = .unOp .neg t x) (hρ : Rho μ o.op fr ρ) (hc : cOp P o.op = some k) (hk : kop k fr h = some (.val v e)) : Out P μ n ρ o w v e := by
  rw [ho] at hc hρ
  simp only [cOp] at hc
  cases hcx : cO x with
  | none => rw [hcx] at hc; cases hc
  | some kx =>
    rw [hcx] at hc; cases hc
    have r := hρ x (by simp [Op.operands]) kx hcx
    simp only [kop] at hk
    split at hk
    · rename_i k' m hm
      cases hk
      rw [hm] at r
      refine out_pure (v' := .int k' (k'.wrap (0 - m))) ?_ (.flat _ rfl)
      simp only [execOp, ho, vrel_int r]
      simp [Op.unary, Op.intArith]
    · cases hk
theorem sim_cv {x : Operand} {s d : TypeId} (ho : o.op = .convert s d x) (hρ : Rho μ o.op fr ρ) (hc : cOp P o.op = some k) (hk : kop k fr h = some (.val v e)) : Out P μ n ρ o w v e := by
  rw [ho] at hc hρ
  simp only [cOp] at hc
  split at hc
  · rename_i i j hs hd
    cases hcx : cO x with
    | none => rw [hcx] at hc; cases hc
    | some kx =>
      rw [hcx] at hc; cases hc
      have r := hρ x (by simp [Op.operands]) kx hcx
      simp only [kop] at hk
      split at hk
      · rename_i k' m hm
        cases hk
        rw [hm] at r
        refine out_pure (v' := .int j (j.wrap m)) ?_ (.flat _ rfl)
        simp only [execOp, ho, vrel_int r]
        simp [convert, run_underlying hs, run_underlying hd, Conv.intToInt]
      · cases hk
  · cases hc
theorem mapM_some {α β : Type} {f : α → Option β} : ∀ {l : List α} {r : List β}, l.mapM f = some r → l.length = r.length ∧ ∀ (i : Nat) x, l[i]? = some x → ∃ y, f x = some y ∧ r[i]? = some y
  | [], r, h => by simp at h; subst h; exact ⟨rfl, fun i x hx => by simp at hx⟩
  | a :: l, r, h => by
    rw [List.mapM_cons] at h
    cases ha : f a with
    | none => rw [ha] at h; cases h
    | some b =>
      rw [ha] at h
      cases hl : l.mapM f with
      | none => rw [hl] at h; cases h
      | some r' =>
        rw [hl] at h
        cases h
        obtain ⟨h1, h2⟩ := mapM_some hl
        refine ⟨by simp [h1], fun i x hx => ?_⟩
        cases i with
        | zero => simp at hx; subst hx; exact ⟨b, ha, rfl⟩
        | succ i => simp at hx; obtain ⟨y, e, z⟩ := h2 i x hx; exact ⟨y, e, by simpa using z⟩
/-- Operands that are listed. -/
theorem vrels_ops {l : List Operand} {ks : List KO} (hl : cOs l = some ks) (hρ : ∀ x ∈ l, ∀ kx, cO x = some kx → VRel μ (kx.ev fr) (ρ x)) : VRels μ (ks.map (·.ev fr)) (l.map ρ) := by
  obtain ⟨h1, h2⟩ := mapM_some hl
  refine ⟨by simp [h1], fun i v v' x y => ?_⟩
  simp only [List.getElem?_map, Option.map_eq_some_iff] at x y
  obtain ⟨kx, hx, rfl⟩ := x
  obtain ⟨z, hz, rfl⟩ := y
  obtain ⟨y', e1, e2⟩ := h2 i z hz
  rw [e2] at hx; cases hx
  exact hρ z (List.mem_of_getElem? hz) _ e1
theorem sim_fn {f : Nat} {p q : Array Operand} (ho : o.op = .makeFunc (.func f) p q) (hρ : Rho μ o.op fr ρ) (hc : cOp P o.op = some k) (hk : kop k fr h = some (.val v e)) : Out P μ n ρ o w v e := by
  rw [ho] at hc hρ
  simp only [cOp] at hc
  split at hc
  · rename_i a b ha hb
    cases hc
    simp only [kop] at hk
    cases hk
    have r1 := vrels_ops (μ := μ) (fr := fr) (ρ := ρ) ha (fun x hx kx e => hρ x (by simp [Op.operands]; exact .inl (by simpa using hx)) kx e)
    have r2 := vrels_ops (μ := μ) (fr := fr) (ρ := ρ) hb (fun x hx kx e => hρ x (by simp [Op.operands]; exact .inr (by simpa using hx)) kx e)
    refine out_pure (v' := .func (.func f) (p.map ρ) (q.map ρ)) ?_ ?_
    · simp only [execOp, ho]; rfl
    · refine .fn f _ _ _ _ (by simpa using r1.1) (by simpa using r2.1) (fun i v v' x y => r1.2 i v v' ?_ ?_) (fun i v v' x y => r2.2 i v v' ?_ ?_)
      · simpa using x
      · simpa [List.getElem?_map] using y
      · simpa using x
      · simpa [List.getElem?_map] using y
  · cases hc
end Go.Canon
namespace Go.Canon
set_option linter.unusedVariables false
set_option linter.unusedSimpArgs false
open Go
variable {P : Program} {w : World} {μ : M} {n : Nat} {ρ : Operand → Value} {o : Oper} {fr : Nat → Value} {h : Heap} {v : Value} {e : Eff} {k : KOp}
theorem kint_run {op : BinOp} {k : IntKind} {a b : Int} {v : Value} {t : TypeId} (hs : op ≠ .shl ∧ op ≠ .shr) (hk : kint op k a b = some v) :
    (binOp op t (.int k a) (.int k b)).run P w = .ok v w ∧ flat0 v = true := by
  cases op <;> simp only [kint] at hk <;> first
    | (simp at hs; done)
    | (simp at hk; done)
    | (split at hk
       · cases hk
       · rename_i hb; cases hk; refine ⟨?_, rfl⟩; simp only [binOp, ne_eq, not_true_eq_false, if_false, Op.intDiv]; rw [if_neg hb]; rfl)
    | (cases hk; refine ⟨?_, rfl⟩; simp only [binOp, ne_eq, not_true_eq_false, if_false]; rfl)
theorem kbin_forms {op : BinOp} {x y v : Value} (hk : kbin op x y = some v) : (∃ k a k' b, x = .int k a ∧ y = .int k' b) ∨ (∃ a b, x = .string a ∧ y = .string b) := by
  cases x <;> cases y <;> first
    | exact .inl ⟨_, _, _, _, rfl, rfl⟩
    | exact .inr ⟨_, _, rfl, rfl⟩
    | (cases op <;> simp [kbin] at hk; done)
theorem kbin_run {op : BinOp} {x y v : Value} {t : TypeId} (hk : kbin op x y = some v) : (binOp op t x y).run P w = .ok v w ∧ flat0 v = true := by
  rcases kbin_forms hk with ⟨k, a, k', b, rfl, rfl⟩ | ⟨a, b, rfl, rfl⟩
  · by_cases h1 : op = .shl
    · subst h1
      simp only [kbin] at hk
      split at hk
      · cases hk
      · rename_i hb; cases hk
        refine ⟨?_, rfl⟩
        simp only [binOp, Op.shift]
        rw [if_neg hb]; rfl
    · by_cases h2 : op = .shr
      · subst h2
        simp only [kbin] at hk
        split at hk
        · cases hk
        · rename_i hb; cases hk
          refine ⟨?_, rfl⟩
          simp only [binOp, Op.shift]
          rw [if_neg hb]; rfl
      · have hk' : (if k = k' then kint op k a b else none) = some v := by cases op <;> first | exact hk | (simp at h1; done) | (simp at h2; done)
        split at hk'
        · rename_i hkk; subst hkk
          exact kint_run ⟨h1, h2⟩ hk'
        · cases hk'
  · have hb : (binOp op t (.string a) (.string b)).run P w = (Op.stringOp op a b).run P w := by cases op <;> rfl
    have hk' : kstr op a b = some v := by cases op <;> exact hk
    rw [hb]
    clear hk hb
    cases op <;> simp only [kstr] at hk' <;> first
      | (simp at hk'; done)
      | (split at hk'
         · cases hk'
         · rename_i hlt; cases hk'; refine ⟨?_, rfl⟩; simp only [Op.stringOp]; rw [if_neg hlt]; rfl)
      | (cases hk'; refine ⟨?_, rfl⟩; rfl)
theorem eqGuard_scalar {op : BinOp} {t : TypeId} {x y : Operand} {a b : Value} (ha : a ≠ .nilIface) (hb : ∀ cs, a ≠ .agg cs) : (eqGuard op t x y a b).run P w = .ok () w := by
  unfold eqGuard
  cases op <;> simp <;> (cases a <;> first | rfl | (simp at ha; done) | (exact absurd rfl (hb _)) | (cases b <;> rfl))
theorem vrel_bin {x y : Value} {op : BinOp} {x' y' v : Value} (hx : VRel μ x x') (hy : VRel μ y y') (hk : kbin op x y = some v) : x' = x ∧ y' = y ∧ x ≠ .nilIface ∧ ∀ cs, x ≠ .agg cs := by
  rcases kbin_forms hk with ⟨k, a, k', b, rfl, rfl⟩ | ⟨a, b, rfl, rfl⟩
  · exact ⟨vrel_int hx, vrel_int hy, by simp, by simp⟩
  · exact ⟨vrel_str hx, vrel_str hy, by simp, by simp⟩
theorem isNil_rel {kd : Nat} {x x' : Value} {b : Bool} (hx : VRel μ x x') (hn : isNil kd x = some b) : isNil kd x' = some b := by
  unfold isNil at hn
  split at hn
  · cases hx <;> simpa [isNil] using hn
  · cases hx; simpa [isNil] using hn
  · cases hx <;> simpa [isNil] using hn
  · cases hx <;> simpa [isNil] using hn
  · cases hx <;> simpa [isNil] using hn
  · cases hn
theorem nilC_eq {kd : Nat} {v : Value} (h : isNilC kd v = true) : (kd = 0 ∧ v = .slice none 0 0) ∨ (kd = 1 ∧ v = .nilFunc) ∨ (kd = 2 ∧ v = .map none) ∨ (kd = 3 ∧ v = .pointer none) := by
  unfold isNilC at h
  split at h <;> simp_all
/-- A value against nil, of a type that is held against nil alone. -/
theorem equalIn_nil {t : TypeId} (m : Nat) {d : TypeDesc} {kd : Nat} {x nv : Value} {b : Bool} (hd : P.underlying t = some d) (hkd : nilKind d = some kd) (hv : isNilC kd nv = true) (hx : isNil kd x = some b) :
    (Op.equalIn (m + 1) t x nv).run P w = .ok b w ∧ (Op.equalIn (m + 1) t nv x).run P w = .ok b w := by
  simp only [Op.equalIn, Sem.run_bind, run_underlying hd, Result.andThen_ok]
  unfold nilKind at hkd
  split at hkd <;> first | (cases hkd; done) | skip
  · cases hkd
    rcases nilC_eq hv with ⟨h1, rfl⟩ | ⟨h1, rfl⟩ | ⟨h1, rfl⟩ | ⟨h1, rfl⟩ <;> first | (cases h1; done) | skip
    cases x <;> first | (simp [isNil] at hx; done) | skip
    rename_i a l c
    cases a <;> simp only [isNil] at hx <;> cases hx <;> constructor <;> rfl
  · cases hkd
    rcases nilC_eq hv with ⟨h1, rfl⟩ | ⟨h1, rfl⟩ | ⟨h1, rfl⟩ | ⟨h1, rfl⟩ <;> first | (cases h1; done) | skip
    cases x <;> first | (simp [isNil] at hx; done) | skip
    · simp only [isNil] at hx; cases hx; constructor <;> rfl
    · simp only [isNil] at hx; cases hx; constructor <;> rfl
  · cases hkd
    rcases nilC_eq hv with ⟨h1, rfl⟩ | ⟨h1, rfl⟩ | ⟨h1, rfl⟩ | ⟨h1, rfl⟩ <;> first | (cases h1; done) | skip
    cases x <;> first | (simp [isNil] at hx; done) | skip
    rename_i a
    cases a <;> simp only [isNil] at hx <;> cases hx <;> constructor <;> rfl
  · cases hkd
    rcases nilC_eq hv with ⟨h1, rfl⟩ | ⟨h1, rfl⟩ | ⟨h1, rfl⟩ | ⟨h1, rfl⟩ <;> first | (cases h1; done) | skip
    cases x <;> first | (simp [isNil] at hx; done) | skip
    rename_i a
    cases a <;> simp only [isNil] at hx <;> cases hx <;> constructor <;> rfl
theorem equal_nil {t : TypeId} {d : TypeDesc} {kd : Nat} {x nv : Value} {b : Bool} (hd : P.underlying t = some d) (hkd : nilKind d = some kd) (hv : isNilC kd nv = true) (hx : isNil kd x = some b) :
    (Op.equal t x nv).run P w = .ok b w ∧ (Op.equal t nv x).run P w = .ok b w := equalIn_nil 9999 hd hkd hv hx
end Go.Canon
namespace Go.Canon
set_option linter.unusedVariables false
set_option linter.unusedSimpArgs false
open Go
variable {P : Program} {w : World} {μ : M} {n : Nat} {ρ : Operand → Value} {o : Oper} {fr : Nat → Value} {h : Heap} {v : Value} {e : Eff} {k : KOp}
theorem eqGuard_nil {op : BinOp} {t : TypeId} {x y : Operand} {a b : Value} {kd : Nat} {c : Bool} (hx : isNil kd a = some c ∨ isNil kd b = some c) : (eqGuard op t x y a b).run P w = .ok () w := by
  unfold eqGuard
  cases op <;> simp
  all_goals
    rcases hx with hx | hx
    · cases a <;> first | rfl | (simp [isNil] at hx; done) | (cases b <;> rfl)
    · cases b <;> first | (simp [isNil] at hx; done) | (cases a <;> rfl)
theorem isNil_of_C {kd : Nat} {v : Value} (h : isNilC kd v = true) : isNil kd v = some true := by
  rcases nilC_eq h with ⟨rfl, rfl⟩ | ⟨rfl, rfl⟩ | ⟨rfl, rfl⟩ | ⟨rfl, rfl⟩ <;> rfl
theorem isNilConst_inv {kd : Nat} {x : Operand} (h : isNilConst kd x = true) : ∃ v, x = .const v ∧ isNilC kd v = true := by
  cases x <;> first | exact ⟨_, rfl, h⟩ | (simp [isNilConst] at h; done)
theorem binOp_eq_run {t : TypeId} {x y : Value} {b : Bool} (hs : ∀ k n, x ≠ .int k n) (hs2 : ∀ k n, x ≠ .float k n) (hs3 : ∀ k a b, x ≠ .complex k a b) (hs4 : ∀ s, x ≠ .string s) (h : (Op.equal t x y).run P w = .ok b w) :
    (binOp .eql t x y).run P w = .ok (.bool b) w ∧ (binOp .neq t x y).run P w = .ok (.bool !b) w := by
  have e1 : binOp .eql t x y = (do pure (.bool (← Op.equal t x y)) : Sem Value) := by
    cases x <;> first | rfl | exact absurd rfl (hs _ _) | exact absurd rfl (hs2 _ _) | exact absurd rfl (hs3 _ _ _) | exact absurd rfl (hs4 _)
  have e2 : binOp .neq t x y = (do pure (.bool (!(← Op.equal t x y))) : Sem Value) := by
    cases x <;> first | rfl | exact absurd rfl (hs _ _) | exact absurd rfl (hs2 _ _) | exact absurd rfl (hs3 _ _ _) | exact absurd rfl (hs4 _)
  rw [e1, e2]
  simp [h]
theorem isNil_noScalar {kd : Nat} {x : Value} {b : Bool} (h : isNil kd x = some b) : (∀ k n, x ≠ .int k n) ∧ (∀ k n, x ≠ .float k n) ∧ (∀ k a b, x ≠ .complex k a b) ∧ ∀ s, x ≠ .string s := by
  cases x <;> simp [isNil] at h ⊢
theorem vrel_nilC {kd : Nat} {v v' : Value} (hv : isNilC kd v = true) (r : VRel μ v v') : v' = v := by
  rcases nilC_eq hv with ⟨_, rfl⟩ | ⟨_, rfl⟩ | ⟨_, rfl⟩ | ⟨_, rfl⟩ <;> cases r <;> rfl
theorem vrel_tup {cs : Array Value} {v' : Value} (h : VRel μ (.tuple cs) v') : ∃ cs', v' = .tuple cs' ∧ VRels μ cs.toList cs'.toList := by
  cases h with
  | flat _ h => simp [flat0] at h
  | tup _ cs' hs h => exact ⟨cs', rfl, vrels_of_arr hs h⟩
/-- Against nil. -/
theorem sim_nil {op : BinOp} {neg : Bool} {t yt : TypeId} {x y : Operand} {d : TypeDesc} {kd : Nat} {a b : KO} (hop : op = if neg then .neq else .eql) (ho : o.op = .binOp op t x y yt) (hρ : Rho μ o.op fr ρ)
    (hd : P.underlying t = some d) (hkd : nilKind d = some kd) (ha : cO x = some a) (hb : cO y = some b) (hc : cNil neg kd x y a b = some k) (hk : kop k fr h = some (.val v e)) : Out P μ n ρ o w v e := by
  rw [ho] at hρ
  have ra := hρ x (by simp [Op.operands]) a ha
  have rb := hρ y (by simp [Op.operands]) b hb
  unfold cNil at hc
  split at hc
  · rename_i hn
    cases hc
    obtain ⟨nv, rfl, hnv⟩ := isNilConst_inv hn
    simp only [kop] at hk
    cases hi : isNil kd (a.ev fr) with
    | none => rw [hi] at hk; cases hk
    | some c =>
      rw [hi] at hk; cases hk
      have hi' := isNil_rel ra hi
      have hy : ρ (.const nv) = nv := by
        obtain ⟨rfl, hf⟩ := cO_const hb
        exact vrel_nilC hnv rb
      have he := (equal_nil (P := P) (w := w) hd hkd hnv hi').1
      obtain ⟨q1, q2, q3, q4⟩ := isNil_noScalar hi'
      obtain ⟨b1, b2⟩ := binOp_eq_run q1 q2 q3 q4 he
      refine out_pure (v' := .bool (neg != c)) ?_ (.flat _ rfl)
      subst hop
      simp only [execOp, ho, hy, Sem.run_bind, eqGuard_nil (P := P) (w := w) (kd := kd) (c := c) (.inl hi'), Result.andThen_ok]
      cases neg
      · simp [b1]
      · simp [b2]
  · split at hc
    · rename_i hn
      cases hc
      obtain ⟨nv, rfl, hnv⟩ := isNilConst_inv hn
      simp only [kop] at hk
      cases hi : isNil kd (b.ev fr) with
      | none => rw [hi] at hk; cases hk
      | some c =>
        rw [hi] at hk; cases hk
        have hi' := isNil_rel rb hi
        have hx : ρ (.const nv) = nv := by
          obtain ⟨rfl, hf⟩ := cO_const ha
          exact vrel_nilC hnv ra
        have he := (equal_nil (P := P) (w := w) hd hkd hnv hi').2
        obtain ⟨q1, q2, q3, q4⟩ := isNil_noScalar (isNil_of_C hnv)
        obtain ⟨b1, b2⟩ := binOp_eq_run q1 q2 q3 q4 he
        refine out_pure (v' := .bool (neg != c)) ?_ (.flat _ rfl)
        subst hop
        simp only [execOp, ho, hx, Sem.run_bind, eqGuard_nil (P := P) (w := w) (kd := kd) (c := c) (.inr hi'), Result.andThen_ok]
        cases neg
        · simp [b1]
        · simp [b2]
    · cases hc
theorem equal_bool {t : TypeId} {a b : Bool} (hd : P.underlying t = some .bool) : (Op.equal t (.bool a) (.bool b)).run P w = .ok (a == b) w := by
  unfold Op.equal Op.maxDepth
  have : ∀ m, (Op.equalIn (m + 1) t (.bool a) (.bool b)).run P w = .ok (a == b) w := fun m => by
    simp only [Op.equalIn, Sem.run_bind, run_underlying hd, Result.andThen_ok]; rfl
  exact this 9999
theorem sim_eqB {op : BinOp} {neg : Bool} {t yt : TypeId} {x y : Operand} {a b : KO} (hop : op = if neg then .neq else .eql) (ho : o.op = .binOp op t x y yt) (hρ : Rho μ o.op fr ρ)
    (hd : P.underlying t = some .bool) (ha : cO x = some a) (hb : cO y = some b) (hk : kop (.eqB neg a b) fr h = some (.val v e)) : Out P μ n ρ o w v e := by
  rw [ho] at hρ
  have ra := hρ x (by simp [Op.operands]) a ha
  have rb := hρ y (by simp [Op.operands]) b hb
  simp only [kop] at hk
  split at hk
  · rename_i p q hp hq
    cases hk
    rw [hp] at ra; rw [hq] at rb
    obtain ⟨b1, b2⟩ := binOp_eq_run (x := .bool p) (by simp) (by simp) (by simp) (by simp) (equal_bool (P := P) (w := w) (a := p) (b := q) hd)
    refine out_pure (v' := .bool (neg != (p == q))) ?_ (.flat _ rfl)
    subst hop
    simp only [execOp, ho, vrel_bool ra, vrel_bool rb, Sem.run_bind, eqGuard_scalar (P := P) (w := w) (a := Value.bool p) (by simp) (by simp), Result.andThen_ok]
    cases neg
    · simp [b1]
    · simp [b2]
  · cases hk
theorem sim_scalar {op : BinOp} {t yt : TypeId} {x y : Operand} {a b : KO} (ho : o.op = .binOp op t x y yt) (hρ : Rho μ o.op fr ρ) (ha : cO x = some a) (hb : cO y = some b) (hk : kop (.bin op a b) fr h = some (.val v e)) : Out P μ n ρ o w v e := by
  rw [ho] at hρ
  have ra := hρ x (by simp [Op.operands]) a ha
  have rb := hρ y (by simp [Op.operands]) b hb
  simp only [kop, Option.map_eq_some_iff] at hk
  obtain ⟨u, hu, hk⟩ := hk
  cases hk
  obtain ⟨e1, e2, q1, q2⟩ := vrel_bin ra rb hu
  obtain ⟨hr, hf⟩ := kbin_run (P := P) (w := w) (t := t) hu
  refine out_pure (v' := v) ?_ (.flat _ hf)
  simp only [execOp, ho, e1, e2, Sem.run_bind, eqGuard_scalar (P := P) (w := w) q1 q2, Result.andThen_ok, hr, Sem.run_pure]
theorem sim_fa {s : TypeId} {x : Operand} {f : Nat} (ho : o.op = .fieldAddr s x f) (hρ : Rho μ o.op fr ρ) (hc : cOp P o.op = some k) (hk : kop k fr h = some (.val v e)) : Out P μ n ρ o w v e := by
  rw [ho] at hc hρ
  simp only [cOp] at hc
  split at hc
  · rename_i fs hu
    split at hc
    · rename_i g hg
      split at hc
      · cases hc
      · rename_i hz
        split at hc
        · rename_i hs
          cases hcx : cO x with
          | none => rw [hcx] at hc; cases hc
          | some kx =>
            rw [hcx] at hc; cases hc
            have r := hρ x (by simp [Op.operands]) kx hcx
            simp only [kop] at hk
            split at hk
            · rename_i a ha
              cases hk
              rw [ha] at r
              obtain ⟨hsp, hV, hρx⟩ := vrel_ptr r
              obtain ⟨m, hm⟩ := Option.isSome_iff_exists.1 hs
              obtain ⟨b, off, sp⟩ := a
              simp only at hsp hV hρx; subst hsp
              refine out_pure (v' := .pointer (some ((⟨(μ.f b).1, (μ.f b).2 + off, none⟩ : Addr).add g.offset))) ?_ ?_
              · simp only [execOp, ho, hρx, Instr.fieldAt, Sem.run_bind, run_underlying hu, Result.andThen_ok, hg, Instr.sureAddr, Sem.run_pure, fieldPlace, r_sizeOf hm]
                rw [if_neg (by rintro rfl; exact hz hm)]
                rfl
              · have e1 : ((⟨b, off, none⟩ : Addr).add g.offset) = ⟨b, off + g.offset, none⟩ := by unfold Addr.add; split <;> simp_all
                have e2 : ((⟨(μ.f b).1, (μ.f b).2 + off, none⟩ : Addr).add g.offset) = ⟨(μ.f b).1, (μ.f b).2 + (off + g.offset), none⟩ := by unfold Addr.add; split <;> simp_all [Nat.add_assoc]
                rw [e1, e2]
                exact .ptr b _ hV
            · cases hk
        · cases hc
    · cases hc
  · cases hc
theorem part_run {t : TypeId} {cs cs' : Array Value} {off : Nat} {f : Option Nat} {u : Value} (hf : tyForm P t = some f) (hcs : VRels μ cs.toList cs'.toList) (hu : partOf cs off f = some u) :
    ∃ u', (part t cs' off).run P w = .ok u' w ∧ VRel μ u u' := by
  obtain ⟨d, hd, ⟨ha, m, rfl, hs⟩ | ⟨ha, rfl, hs⟩⟩ := tyForm_cases hf
  · simp only [partOf] at hu
    split at hu
    · rename_i hle; cases hu
      refine ⟨.agg (cs'.extract off (off + m)), ?_, ?_⟩
      · simp only [part, Sem.run_bind, r_isAgg hd, Result.andThen_ok, ha, if_true, r_sizeOf hs, Sem.run_pure]
      · have := (hcs.drop off).take m
        refine VRels.aggA ?_
        simpa [Array.toList_extract, List.extract_eq_take_drop] using this
    · cases hu
  · simp only [partOf] at hu
    obtain ⟨u', hu', hr⟩ := hcs.get (i := off) (v := u) (by simpa using hu)
    refine ⟨u', ?_, hr⟩
    have hu2 : cs'[off]? = some u' := by simpa using hu'
    simp only [part, Sem.run_bind, r_isAgg hd, Result.andThen_ok, ha, Bool.false_eq_true, if_false, hu2, Sem.run_pure]
theorem sim_fld {s : TypeId} {x : Operand} {f : Nat} (ho : o.op = .field s x f) (hρ : Rho μ o.op fr ρ) (hc : cOp P o.op = some k) (hk : kop k fr h = some (.val v e)) : Out P μ n ρ o w v e := by
  rw [ho] at hc hρ
  simp only [cOp] at hc
  split at hc
  · rename_i fs hu
    split at hc
    · rename_i g hg
      split at hc
      · rename_i m kx hm hcx
        cases hc
        have r := hρ x (by simp [Op.operands]) kx hcx
        simp only [kop] at hk
        split at hk
        · rename_i cs hcs
          rw [hcs] at r
          obtain ⟨cs', hρx, hrs⟩ := vrel_agg r
          simp only [Option.map_eq_some_iff] at hk
          obtain ⟨u, hu', hk⟩ := hk
          cases hk
          obtain ⟨u', hrun, hr⟩ := part_run (P := P) (w := w) hm hrs hu'
          refine out_pure (v' := u') ?_ hr
          simp only [execOp, ho, hρx, Instr.field, Sem.run_bind, run_underlying hu, Result.andThen_ok, hg, asAgg, Sem.run_pure, hrun]
        · cases hk
      · cases hc
    · cases hc
  · cases hc
theorem sim_ext {x : Operand} {i : Nat} (ho : o.op = .extract x i) (hρ : Rho μ o.op fr ρ) (hc : cOp P o.op = some k) (hk : kop k fr h = some (.val v e)) : Out P μ n ρ o w v e := by
  rw [ho] at hc hρ
  simp only [cOp] at hc
  cases hcx : cO x with
  | none => rw [hcx] at hc; cases hc
  | some kx =>
    rw [hcx] at hc; cases hc
    have r := hρ x (by simp [Op.operands]) kx hcx
    simp only [kop] at hk
    split at hk
    · rename_i vs hvs
      rw [hvs] at r
      simp only [Option.map_eq_some_iff] at hk
      obtain ⟨u, hu, hk⟩ := hk
      cases hk
      obtain ⟨ws, hr, hrs⟩ := vrel_tup r
      obtain ⟨u', hu', hru⟩ := hrs.get (i := i) (v := v) (by simpa using hu)
      have hu2 : ws[i]? = some u' := by simpa using hu'
      refine out_pure (v' := u') ?_ hru
      simp only [execOp, ho, hr, Instr.extract, hu2]
      rfl
    · cases hk
end Go.Canon
namespace Go.Canon
set_option linter.unusedVariables false
set_option linter.unusedSimpArgs false
open Go
variable {P : Program} {w : World} {μ : M} {n : Nat} {ρ : Operand → Value} {o : Oper} {fr : Nat → Value} {h : Heap} {v : Value} {e : Eff} {k : KOp}
theorem add_pl (b o n : Nat) : (⟨b, o, none⟩ : Addr).add n = ⟨b, o + n, none⟩ := by unfold Addr.add; split <;> simp_all
theorem sim_iaS {t : TypeId} {x i : Operand} {a b : KO} {s : Nat} {el : TypeId} (ho : o.op = .indexAddr t x i) (hρ : Rho μ o.op fr ρ) (hu : P.underlying t = some (.slice el)) (hs : tySize P el = some s)
    (ha : cO x = some a) (hb : cO i = some b) (hk : kop (.iaS a b s) fr h = some (.val v e)) : Out P μ n ρ o w v e := by
  rw [ho] at hρ
  have rx := hρ x (by simp [Op.operands]) a ha
  have ri := hρ i (by simp [Op.operands]) b hb
  simp only [kop] at hk
  split at hk
  · rename_i ad len cap ki j h1 h2
    split at hk
    · rename_i hj
      cases hk
      rw [h1] at rx; rw [h2] at ri
      rcases vrel_slice rx with ⟨hx, _⟩ | ⟨y, y', _, hl, _⟩ | ⟨y, o', c', hy, hsp, hV, hn, hc, ho', hz, hz', hρx⟩
      · cases hx
      · omega
      · cases hy
        obtain ⟨bb, off, sp⟩ := ad
        simp only at hsp hV ho' hρx; subst hsp
        have ho2 := ho' (by omega)
        subst ho2
        refine out_pure (v' := .pointer (some ⟨(μ.f bb).1, (μ.f bb).2 + (off + j.toNat * s), none⟩)) ?_ ?_
        · simp only [execOp, ho, hρx, vrel_int ri, Instr.indexAt, asIntOf, Sem.run_bind, run_underlying hu, Result.andThen_ok, Sem.run_pure]
          rw [if_pos (by simpa using hj)]
          simp only [Sem.run_bind, r_sizeOf hs, Result.andThen_ok, Sem.run_pure, add_pl, Nat.add_assoc]
        · rw [add_pl]; exact .ptr bb _ hV
    · cases hk
  · cases hk
theorem sim_iaA {t : TypeId} {x i : Operand} {a b : KO} {s len : Nat} {el : TypeId} (ho : o.op = .indexAddr t x i) (hρ : Rho μ o.op fr ρ) (hu : P.underlying t = some (.array len el)) (hs : tySize P el = some s)
    (ha : cO x = some a) (hb : cO i = some b) (hk : kop (.iaA a b len s) fr h = some (.val v e)) : Out P μ n ρ o w v e := by
  rw [ho] at hρ
  have rx := hρ x (by simp [Op.operands]) a ha
  have ri := hρ i (by simp [Op.operands]) b hb
  simp only [kop] at hk
  split at hk
  · rename_i ad ki j h1 h2
    split at hk
    · rename_i hj
      cases hk
      rw [h1] at rx; rw [h2] at ri
      obtain ⟨hsp, hV, hρx⟩ := vrel_ptr rx
      obtain ⟨bb, off, sp⟩ := ad
      simp only at hsp hV hρx; subst hsp
      refine out_pure (v' := .pointer (some ⟨(μ.f bb).1, (μ.f bb).2 + (off + j.toNat * s), none⟩)) ?_ ?_
      · simp only [execOp, ho, hρx, vrel_int ri, Instr.indexAt, asIntOf, Sem.run_bind, run_underlying hu, Result.andThen_ok, Sem.run_pure, Instr.sureAddr]
        rw [if_pos (by simpa using hj)]
        simp only [Sem.run_bind, r_sizeOf hs, Result.andThen_ok, Sem.run_pure, add_pl, Nat.add_assoc]
      · rw [add_pl]; exact .ptr bb _ hV
    · cases hk
  · cases hk
theorem sim_ixA {t : TypeId} {x i : Operand} {a b : KO} {s len : Nat} {el : TypeId} {f : Option Nat} (ho : o.op = .index t x i) (hρ : Rho μ o.op fr ρ) (hu : P.underlying t = some (.array len el)) (hs : tySize P el = some s) (hf : tyForm P el = some f)
    (ha : cO x = some a) (hb : cO i = some b) (hk : kop (.ixA a b len s f) fr h = some (.val v e)) : Out P μ n ρ o w v e := by
  rw [ho] at hρ
  have rx := hρ x (by simp [Op.operands]) a ha
  have ri := hρ i (by simp [Op.operands]) b hb
  simp only [kop] at hk
  split at hk
  · rename_i cs ki j h1 h2
    split at hk
    · rename_i hj
      rw [h1] at rx; rw [h2] at ri
      obtain ⟨cs', hρx, hrs⟩ := vrel_agg rx
      simp only [Option.map_eq_some_iff] at hk
      obtain ⟨u, hu', hk⟩ := hk
      cases hk
      obtain ⟨u', hrun, hr⟩ := part_run (P := P) (w := w) hf hrs hu'
      refine out_pure (v' := u') ?_ hr
      simp only [execOp, ho, hρx, vrel_int ri, Instr.index, asIntOf, Sem.run_bind, run_underlying hu, Result.andThen_ok, Sem.run_pure]
      rw [if_pos (by simpa using hj)]
      simp only [Sem.run_bind, r_sizeOf hs, Result.andThen_ok, hrun, Sem.run_pure]
    · cases hk
  · cases hk
theorem bnd_inv {v : Value} {y i : Nat} (hb : bnd v y = some i) : ∃ k j, v = .int k j ∧ 0 ≤ j ∧ j ≤ y ∧ i = j.toNat := by
  unfold bnd at hb
  split at hb
  · rename_i k j
    split at hb
    · rename_i hj; cases hb; exact ⟨k, j, rfl, hj.1, hj.2, rfl⟩
    · cases hb
  · cases hb
theorem sliceBound_run {v : Value} {y y' i : Nat} {code : BoundsCode} (hy : y ≤ y') (hb : bnd v y = some i) : (Instr.sliceBound v y' code).run P w = .ok i w ∧ i ≤ y := by
  obtain ⟨k, j, rfl, h0, h1, rfl⟩ := bnd_inv hb
  refine ⟨?_, by omega⟩
  simp only [Instr.sliceBound, asIntOf, Sem.run_bind, Sem.run_pure, Result.andThen_ok]
  rw [if_pos ⟨h0, by omega⟩]; rfl
/-- The bounds of a slice expression, where the room may be greater. -/
theorem sliceBounds_run {isS : Bool} {len cap cap' : Nat} (hlc : len ≤ cap) (hcap : cap ≤ cap') {lo hi mx : Option Value} {l h m : Nat} (hb : bnds len cap lo hi mx = some (l, h, m)) :
    (Instr.sliceBounds isS len cap' lo hi mx).run P w = .ok (l, h, if mx.isSome then m else cap') w ∧ (mx = none → m = cap) ∧ l ≤ h ∧ h ≤ m ∧ m ≤ cap := by
  unfold bnds at hb
  cases mx with
  | none =>
    simp only [bnd?] at hb
    cases hi with
    | none =>
      cases lo with
      | none =>
        simp at hb; obtain ⟨rfl, rfl, rfl⟩ := hb
        exact ⟨by simp [Instr.sliceBounds], fun _ => rfl, by omega, by omega, by omega⟩
      | some lv =>
        simp only at hb
        cases hl : bnd lv len with
        | none => rw [hl] at hb; cases hb
        | some i =>
          rw [hl] at hb; cases hb
          obtain ⟨r, hle⟩ := sliceBound_run (P := P) (w := w) (code := .sliceB) (Nat.le_refl len) hl
          exact ⟨by simp [Instr.sliceBounds, r], fun _ => rfl, by omega, by omega, by omega⟩
    | some hv =>
      simp only at hb
      cases hh : bnd hv cap with
      | none => rw [hh] at hb; cases hb
      | some j =>
        rw [hh] at hb
        obtain ⟨r2, hle2⟩ := sliceBound_run (P := P) (w := w) (code := if isS then .sliceAcap else .sliceAlen) hcap hh
        cases lo with
        | none =>
          simp at hb; obtain ⟨rfl, rfl, rfl⟩ := hb
          exact ⟨by simp [Instr.sliceBounds, r2], fun _ => rfl, by omega, by omega, by omega⟩
        | some lv =>
          simp only at hb
          cases hl : bnd lv j with
          | none => rw [hl] at hb; cases hb
          | some i =>
            rw [hl] at hb; cases hb
            obtain ⟨r, hle⟩ := sliceBound_run (P := P) (w := w) (code := .sliceB) (Nat.le_refl h) hl
            exact ⟨by simp [Instr.sliceBounds, r, r2], fun _ => rfl, by omega, by omega, by omega⟩
  | some mv =>
    simp only [bnd?] at hb
    cases hm : bnd mv cap with
    | none => rw [hm] at hb; cases hb
    | some q =>
      rw [hm] at hb
      obtain ⟨r3, hle3⟩ := sliceBound_run (P := P) (w := w) (code := if isS then .slice3Acap else .slice3Alen) hcap hm
      cases hi with
      | none => cases hb
      | some hv =>
        simp only at hb
        cases hh : bnd hv q with
        | none => rw [hh] at hb; cases hb
        | some j =>
          rw [hh] at hb
          obtain ⟨r2, hle2⟩ := sliceBound_run (P := P) (w := w) (code := .slice3B) (Nat.le_refl q) hh
          cases lo with
          | none =>
            simp at hb; obtain ⟨rfl, rfl, rfl⟩ := hb
            exact ⟨by simp [Instr.sliceBounds, r2, r3], (fun e => by cases e), by omega, by omega, by omega⟩
          | some lv =>
            simp only at hb
            cases hl : bnd lv j with
            | none => rw [hl] at hb; cases hb
            | some i =>
              rw [hl] at hb; cases hb
              obtain ⟨r, hle⟩ := sliceBound_run (P := P) (w := w) (code := .slice3C) (Nat.le_refl h) hl
              exact ⟨by simp [Instr.sliceBounds, r, r2, r3], (fun e => by cases e), by omega, by omega, by omega⟩
/-- A bound that may be left out. -/
theorem optO_rel {x : Option Operand} {kx : Option KO} (hx : optO x = some kx) (hρ : ∀ y, x = some y → ∀ ky, cO y = some ky → VRel μ (ky.ev fr) (ρ y)) :
    (kx.map (·.ev fr) = none ∧ x.map ρ = none) ∨ ∃ u u', kx.map (·.ev fr) = some u ∧ x.map ρ = some u' ∧ VRel μ u u' := by
  cases x with
  | none => simp only [optO] at hx; cases hx; exact .inl ⟨rfl, rfl⟩
  | some y =>
    simp only [optO, Option.map_eq_some_iff] at hx
    obtain ⟨ky, hy, rfl⟩ := hx
    exact .inr ⟨_, _, rfl, rfl, hρ y rfl ky hy⟩
/-- Bounds that are told are whole numbers, and the same ones. -/
theorem bnds_same {len cap : Nat} {lo hi mx lo' hi' mx' : Option Value} {r : Nat × Nat × Nat} (hb : bnds len cap lo hi mx = some r)
    (h1 : (lo = none ∧ lo' = none) ∨ ∃ u u', lo = some u ∧ lo' = some u' ∧ VRel μ u u') (h2 : (hi = none ∧ hi' = none) ∨ ∃ u u', hi = some u ∧ hi' = some u' ∧ VRel μ u u') (h3 : (mx = none ∧ mx' = none) ∨ ∃ u u', mx = some u ∧ mx' = some u' ∧ VRel μ u u') :
    lo' = lo ∧ hi' = hi ∧ mx' = mx := by
  have key : ∀ u u' y i, bnd u y = some i → VRel μ u u' → u' = u := fun u u' y i hb hr => by
    obtain ⟨k, j, rfl, _⟩ := bnd_inv hb
    exact vrel_int hr
  unfold bnds at hb
  cases hm : bnd? mx cap cap with
  | none => rw [hm] at hb; cases hb
  | some m =>
    rw [hm] at hb
    have e3 : mx' = mx := by
      rcases h3 with ⟨rfl, rfl⟩ | ⟨u, u', rfl, rfl, hr⟩
      · rfl
      · rw [key u u' _ _ (by simpa [bnd?] using hm) hr]
    dsimp only at hb
    split at hb
    · cases hb
    · cases hh : bnd? hi m len with
      | none => rw [hh] at hb; cases hb
      | some j =>
        rw [hh] at hb
        have e2 : hi' = hi := by
          rcases h2 with ⟨rfl, rfl⟩ | ⟨u, u', rfl, rfl, hr⟩
          · rfl
          · rw [key u u' _ _ (by simpa [bnd?] using hh) hr]
        dsimp only at hb
        cases hl : bnd? lo j 0 with
        | none => rw [hl] at hb; cases hb
        | some i =>
          have e1 : lo' = lo := by
            rcases h1 with ⟨rfl, rfl⟩ | ⟨u, u', rfl, rfl, hr⟩
            · rfl
            · rw [key u u' _ _ (by simpa [bnd?] using hl) hr]
          exact ⟨e1, e2, e3⟩
theorem sim_slS {t : TypeId} {x : Operand} {lo hi mx : Option Operand} {a : KO} {kl kh km : Option KO} {s : Nat} {el : TypeId} (ho : o.op = .slice t x lo hi mx) (hρ : Rho μ o.op fr ρ) (hrd : Rds P μ (.slS a kl kh km s) fr h w)
    (hu : P.underlying t = some (.slice el)) (hs : tySize P el = some s) (ha : cO x = some a) (hl : optO lo = some kl) (hh : optO hi = some kh) (hm : optO mx = some km)
    (hk : kop (.slS a kl kh km s) fr h = some (.val v e)) : Out P μ n ρ o w v e := by
  rw [ho] at hρ
  have rx := hρ x (by simp [Op.operands]) a ha
  have r1 := optO_rel (μ := μ) (fr := fr) (ρ := ρ) hl (fun y hy ky hk => hρ y (by simp [Op.operands, hy]) ky hk)
  have r2 := optO_rel (μ := μ) (fr := fr) (ρ := ρ) hh (fun y hy ky hk => hρ y (by simp [Op.operands, hy]) ky hk)
  have r3 := optO_rel (μ := μ) (fr := fr) (ρ := ρ) hm (fun y hy ky hk => hρ y (by simp [Op.operands, hy]) ky hk)
  simp only [kop] at hk
  split at hk
  · rename_i ad len cap h1
    split at hk
    · rename_i hgr
      split at hk
      · rename_i l j m hb
        cases hk
        rw [h1] at rx
        obtain ⟨e1, e2, e3⟩ := bnds_same hb r1 r2 r3
        rcases vrel_slice rx with ⟨rfl, rfl, rfl, hρx⟩ | ⟨y, y', rfl, rfl, rfl, hρx⟩ | ⟨y, o', c', rfl, hsp, hV, hn, hc, ho', hz, hz', hρx⟩
        · obtain ⟨hrun, hmc, q1, q2, q3⟩ := sliceBounds_run (P := P) (w := w) (isS := true) (Nat.le_refl 0) (Nat.le_refl 0) hb
          obtain rfl : m = 0 := by omega
          obtain rfl : j = 0 := by omega
          obtain rfl : l = 0 := by omega
          refine out_pure (v' := .slice none 0 0) ?_ (by simpa using VRel.flat (μ := μ) (.slice none 0 0) rfl)
          simp only [execOp, ho, hρx, e1, e2, e3, Instr.sliceAt, Instr.slice, Sem.run_bind, run_underlying hu, Result.andThen_ok, hrun, r_sizeOf hs]
          simp
        · obtain ⟨hrun, hmc, q1, q2, q3⟩ := sliceBounds_run (P := P) (w := w) (isS := true) (Nat.le_refl 0) (Nat.le_refl 0) hb
          obtain rfl : m = 0 := by omega
          obtain rfl : j = 0 := by omega
          obtain rfl : l = 0 := by omega
          refine out_pure (v' := .slice (some y') 0 0) ?_ (by
            rw [hρx] at rx
            simp only [if_true, Nat.sub_self]
            split
            · exact .sl2 _ _ _ _
            · exact rx)
          simp only [execOp, ho, hρx, e1, e2, e3, Instr.sliceAt, Instr.slice, Sem.run_bind, run_underlying hu, Result.andThen_ok, hrun, r_sizeOf hs]
          simp
        · obtain ⟨hrun, hmc, q1, q2, q3⟩ := sliceBounds_run (P := P) (w := w) (isS := true) hn hc hb
          obtain ⟨bb, off, sp⟩ := y
          simp only at hsp hV ho' hz hz' hρx; subst hsp
          have hZ : ∀ z S, μ.Z bb = some (z, S) → z = s := by
            intro z S hzz
            cases hob : h[bb]? with
            | none => simp [grOk, hob] at hgr
            | some ob =>
              obtain ⟨o2, _, hor⟩ := hrd bb (by simp [rds, h1, blkOf]) hV ob hob
              simp only [grOk, hob] at hgr
              cases ob with
              | row cs wr gr =>
                obtain ⟨c2, T2, fz, _, _, _, hzr⟩ := hor
                rw [hzz] at hzr
                cases gr with
                | none => cases hzr
                | some z' => simp at hzr hgr; omega
              | _ => simp at hgr
          have hrun2 : (execOp ρ o).run P w = .ok (.value (.slice (if (if (mx.map ρ).isSome then m else c') = l then some ⟨(μ.f bb).1, o', none⟩ else some ((⟨(μ.f bb).1, o', none⟩ : Addr).add (l * s))) (j - l) ((if (mx.map ρ).isSome then m else c') - l))) w := by
            simp only [execOp, ho, hρx, e1, e2, e3, Instr.sliceAt, Instr.slice, Sem.run_bind, run_underlying hu, Result.andThen_ok, hrun, r_sizeOf hs, Sem.run_pure, Option.map_some]
          refine out_pure hrun2 ?_
          rw [e3]
          have hc2 : (if (mx.map ρ).isSome then m else c') = m ∨ (m = cap ∧ (if (mx.map ρ).isSome then m else c') = c') := by
            cases hmx : mx.map ρ with
            | some q => exact .inl (by simp)
            | none => exact .inr ⟨hmc (by rw [← e3, hmx]), by simp⟩
          have hcm : km.isSome = true → (if (mx.map ρ).isSome then m else c') = m := by
            intro hkm
            cases mx with
            | none => simp [optO] at hm; subst hm; cases hkm
            | some q => simp
          rw [← e3]
          generalize (if (mx.map ρ).isSome then m else c') = c2 at hc2 hcm ⊢
          have hmc2 : m ≤ c2 := by rcases hc2 with h | ⟨h, h'⟩ <;> omega
          have hc2' : c2 ≤ c' := by rcases hc2 with h | ⟨h, h'⟩ <;> omega
          by_cases hml : m = l
          · subst hml
            obtain rfl : j = m := by omega
            simp only [if_true, Nat.sub_self]
            by_cases hbare : km.isSome = true
            · rw [if_pos hbare]
              have hcj := hcm hbare
              subst hcj
              simp only [if_true, Nat.sub_self, Option.map_some]
              exact .sl2 bb off 0 _
            rw [if_neg hbare]
            by_cases hcl : c2 = j
            · subst hcl
              simp only [if_true, Nat.sub_self]
              exact .sl bb off 0 0 o' 0 hV (Nat.le_refl 0) (Nat.le_refl 0) (fun h => absurd rfl h) (fun z S hzz => by have := hz z S hzz; omega) (fun hzn => ⟨rfl, (hz' hzn).2⟩)
            · rw [if_neg hcl, add_pl]
              have hoff : o' = (μ.f bb).2 + off ∨ cap = 0 := by by_cases hc0 : cap = 0; exact .inr hc0; exact .inl (ho' hc0)
              refine .sl bb off 0 0 (o' + j * s) (c2 - j) hV (Nat.le_refl 0) (Nat.zero_le _) (fun h => absurd rfl h) (fun z S hzz => ?_) (fun hzn => ?_)
              · have hb1 := hz z S hzz
                obtain rfl := hZ z S hzz
                have : j * z + (c2 - j) * z = c2 * z := by rw [← Nat.add_mul]; congr 1; omega
                have : c2 * z ≤ c' * z := Nat.mul_le_mul_right _ hc2'
                omega
              · have := (hz' hzn).1
                rcases hc2 with h | ⟨h, h'⟩ <;> omega
          · have hcl : c2 ≠ l := by omega
            rw [if_neg hml, if_neg hcl, Option.map_some, add_pl, add_pl]
            have hc0 : cap ≠ 0 := by omega
            have hoo := ho' hc0
            subst hoo
            refine .sl bb (off + l * s) (j - l) (m - l) ((μ.f bb).2 + off + l * s) (c2 - l) hV (by omega) (by omega) (fun _ => by omega) (fun z S hzz => ?_) (fun hzn => ?_)
            · have hb1 := hz z S hzz
              obtain rfl := hZ z S hzz
              have : l * z + (c2 - l) * z = c2 * z := by rw [← Nat.add_mul]; congr 1; omega
              have : c2 * z ≤ c' * z := Nat.mul_le_mul_right _ hc2'
              omega
            · have := (hz' hzn).1
              exact ⟨by rcases hc2 with h | ⟨h, h'⟩ <;> omega, by omega⟩
      · cases hk
    · cases hk
  · cases hk
end Go.Canon
namespace Go.Canon
set_option linter.unusedVariables false
set_option linter.unusedSimpArgs false
open Go
variable {P : Program} {w : World} {μ : M} {n : Nat} {ρ : Operand → Value} {o : Oper} {fr : Nat → Value} {h : Heap} {v : Value} {e : Eff} {k : KOp}
theorem vrels_of_get {l l' : List Value} (hl : l.length ≤ l'.length) (hg : ∀ (i : Nat) v, l[i]? = some v → ∃ v', l'[i]? = some v' ∧ VRel μ v v') : VRels μ l (l'.take l.length) := by
  refine ⟨by simp; omega, fun i v v' x y => ?_⟩
  obtain ⟨u, hu, hr⟩ := hg i v x
  have hi : i < l.length := (List.getElem?_eq_some_iff.1 x).1
  rw [List.getElem?_take, if_pos hi, hu] at y
  cases y; exact hr
/-- What stands in a row, and what stands in the block beside it. -/
theorem rowGet_rel {b off m : Nat} {sp : Option Nat} {l : List Value} (hg : rowGet h ⟨b, off, sp⟩ m = some l) (hob : ∀ ob, h[b]? = some ob → ∃ o', w.heap[(μ.f b).1]? = some o' ∧ ObR P μ b ob o') :
    ∃ l', VRels μ l l' ∧ l'.length = m ∧ ∀ (j : Nat) v, l'[j]? = some v → w.cell? ⟨(μ.f b).1, (μ.f b).2 + off + j, none⟩ = some v := by
  unfold rowGet at hg
  split at hg
  · rename_i cs wr gr hb
    split at hg
    · rename_i hc
      obtain ⟨_, hle⟩ := hc
      dsimp only at hle hg
      cases hg
      obtain ⟨o', ho', c, T, fz, rfl, _, hcs, _⟩ := hob _ hb
      have hlen : (μ.f b).2 + cs.length ≤ c.size ∨ cs.length = 0 := by
        by_cases h0 : cs.length = 0
        · exact .inr h0
        · obtain ⟨u, hu, _⟩ := hcs (cs.length - 1) cs[cs.length - 1] (List.getElem?_eq_getElem (by omega))
          have := (Array.getElem?_eq_some_iff.1 hu).1
          exact .inl (by omega)
      have key : VRels μ cs (((c.toList.drop (μ.f b).2)).take cs.length) := by
        refine vrels_of_get ?_ (fun i v x => ?_)
        · rcases hlen with h | h
          · simp; omega
          · simp [h]
        · obtain ⟨u, hu, hr⟩ := hcs i v x
          exact ⟨u, by rw [List.getElem?_drop]; simpa using hu, hr⟩
      refine ⟨_, (key.drop off).take m, by rw [← ((key.drop off).take m).1]; simp; omega, fun j v hj => ?_⟩
      rw [List.getElem?_take] at hj
      split at hj
      · rename_i hjm
        rw [List.getElem?_drop, List.getElem?_take] at hj
        split at hj
        · rw [List.getElem?_drop] at hj
          have hj' : c[(μ.f b).2 + (off + j)]? = some v := by simpa using hj
          simp [World.cell?, ho', Nat.add_assoc, hj']
        · cases hj
      · cases hj
    · cases hg
  · cases hg
theorem run_loadCells_at {b o m : Nat} {l : List Value} (hl : l.length = m) (hc : ∀ (j : Nat) v, l[j]? = some v → w.cell? ⟨b, o + j, none⟩ = some v) : (loadCells ⟨b, o, none⟩ m).run P w = .ok l.toArray w := by
  subst hl
  exact run_loadCells_list w _ l (fun j v hj => by rw [add_pl]; exact hc j v hj)
theorem blkOf_ptr {a : Addr} {x : Value} (hx : x = .pointer (some a)) : a.block ∈ blkOf x := by subst hx; simp [blkOf]
theorem sim_ld {t : TypeId} {x : Operand} (ho : o.op = .load t x) (hρ : Rho μ o.op fr ρ) (hc : cOp P o.op = some k) (hrd : Rds P μ k fr h w) (hk : kop k fr h = some (.val v e)) : Out P μ n ρ o w v e := by
  rw [ho] at hc hρ
  simp only [cOp] at hc
  split at hc
  · rename_i f kx hf hcx
    cases hc
    have r := hρ x (by simp [Op.operands]) kx hcx
    simp only [kop] at hk
    split at hk
    · rename_i a ha
      have hmem : a.block ∈ rds (.ld kx f) fr := by simp only [rds]; exact blkOf_ptr ha
      rw [ha] at r
      obtain ⟨hsp, hV, hρx⟩ := vrel_ptr r
      obtain ⟨b, off, sp⟩ := a
      simp only at hsp hV hρx hmem; subst hsp
      obtain ⟨d, hd, ⟨hag, m, rfl, hs⟩ | ⟨hag, rfl, hs⟩⟩ := tyForm_cases hf
      · dsimp only at hk
        split at hk
        · rename_i cs hcs
          cases hk
          obtain ⟨l', hl, hlen, hcell⟩ := rowGet_rel (P := P) (w := w) hcs (hrd b hmem hV)
          refine out_pure (v' := .agg l'.toArray) ?_ hl.agg
          simp only [execOp, ho, hρx, Instr.loadAt, Instr.sureAddr, Sem.run_bind, Sem.run_pure, Result.andThen_ok, loadVar, r_isAgg hd, hag, if_true, r_sizeOf hs, run_loadCells_at hlen hcell]
        · cases hk
      · dsimp only at hk
        split at hk
        · rename_i u rest hcs
          cases hk
          obtain ⟨l', hl, hlen, hcell⟩ := rowGet_rel (P := P) (w := w) hcs (hrd b hmem hV)
          obtain ⟨u', hu', hru⟩ := hl.get (i := 0) (v := v) rfl
          refine out_pure (v' := u') ?_ hru
          have hc1 := hcell 0 u' hu'
          simp only [execOp, ho, hρx, Instr.loadAt, Instr.sureAddr, Sem.run_bind, Sem.run_pure, Result.andThen_ok, loadVar, r_isAgg hd, hag, Bool.false_eq_true, if_false, run_load]
          simp only [Nat.add_zero] at hc1
          rw [hc1]
          rfl
        · cases hk
    · cases hk
  · cases hc
theorem setRow_set {g : Nat} {cur c' : Array Value} {t : TypeId} {fz : Nat × Nat} (hg : w.heap[g]? = some (.cells cur t fz)) : (w.setRow g c').heap = w.heap.setIfInBounds g (.cells c' t fz) := by
  have hlt : g < w.heap.size := (Array.getElem?_eq_some_iff.1 hg).1
  apply Array.ext_getElem?
  intro i
  by_cases hi : i = g
  · subst hi
    rw [setRow_heap w i cur c' t fz hg]
    simp [hlt]
  · rw [setRow_other w g i c' hi]
    rw [Array.getElem?_setIfInBounds_ne (by omega)]
/-- A row rewritten in part. -/
theorem rowSet_rel {b off : Nat} {sp : Option Nat} {l l' : List Value} {ob : CO} (hs : rowSet h ⟨b, off, sp⟩ l = some ob) (hl : VRels μ l l') (hob : ∀ ob, h[b]? = some ob → ∃ o', w.heap[(μ.f b).1]? = some o' ∧ ObR P μ b ob o') :
    ∃ w' o', (storeCells ⟨(μ.f b).1, (μ.f b).2 + off, none⟩ l' 0).run P w = .ok () w' ∧ Kin w w' ∧ w'.heap = w.heap.setIfInBounds (μ.f b).1 o' ∧ ObR P μ b ob o' := by
  unfold rowSet at hs
  split at hs
  · rename_i cs gr hb
    split at hs
    · rename_i hc
      obtain ⟨_, hle, hcell⟩ := hc
      dsimp only at hle hs
      cases hs
      obtain ⟨o', ho', c, T, fz, rfl, hfz, hcs, hz⟩ := hob _ hb
      obtain rfl := hfz rfl
      have hone : ∀ v ∈ l', v.oneCell' = true := by
        intro v hv
        obtain ⟨i, hi⟩ := List.mem_iff_getElem?.1 hv
        have hil : i < l.length := by rw [hl.1]; exact (List.getElem?_eq_some_iff.1 hi).1
        exact vrel_isCell (hl.2 i l[i] v (List.getElem?_eq_getElem hil) hi) (List.all_eq_true.1 hcell _ (List.getElem_mem hil))
      have hsz : (μ.f b).2 + cs.length ≤ c.size ∨ cs.length = 0 := by
        by_cases h0 : cs.length = 0
        · exact .inr h0
        · obtain ⟨u, hu, _⟩ := hcs (cs.length - 1) cs[cs.length - 1] (List.getElem?_eq_getElem (by omega))
          have := (Array.getElem?_eq_some_iff.1 hu).1
          exact .inl (by omega)
      by_cases hl0 : l' = []
      · subst hl0
        have : l = [] := List.length_eq_zero_iff.1 (by rw [hl.1]; rfl)
        subst this
        refine ⟨w, .cells c T (0, 0), rfl, Kin.refl w, ?_, c, T, (0, 0), rfl, fun _ => rfl, ?_, hz⟩
        · apply Array.ext_getElem?
          intro i
          by_cases hi : i = (μ.f b).1
          · subst hi; rw [ho']; simp [(Array.getElem?_eq_some_iff.1 ho').1]
          · rw [Array.getElem?_setIfInBounds_ne (by omega)]
        · simpa using hcs
      · have hpos : 0 < l'.length := List.length_pos_iff.2 hl0
        have hll := hl.1
        have hroom : (μ.f b).2 + off + l'.length ≤ c.size := by rcases hsz with h | h <;> omega
        have hrun := run_storeCells_at (P := P) (μ.f b).1 ((μ.f b).2 + off) T l' 0 c w ho' (by omega) hone
        refine ⟨_, _, hrun, ⟨rfl, rfl, rfl⟩, setRow_set ho', _, T, (0, 0), rfl, fun _ => rfl, ?_, ?_⟩
        · intro i v hi
          rw [List.append_assoc, List.getElem?_append] at hi
          have hget : ∀ j, ((c.toList.take ((μ.f b).2 + off + 0) ++ l' ++ c.toList.drop ((μ.f b).2 + off + 0 + l'.length)).toArray)[j]? =
              if j < (μ.f b).2 + off then c[j]? else if j < (μ.f b).2 + off + l'.length then l'[j - ((μ.f b).2 + off)]? else c[j]? := by
            intro j
            simp only [Nat.add_zero, List.getElem?_toArray, List.append_assoc, List.getElem?_append, List.length_take, Array.length_toList, List.getElem?_take, List.getElem?_drop, Array.getElem?_toList]
            have e1 : min ((μ.f b).2 + off) c.size = (μ.f b).2 + off := by omega
            rw [e1]
            split
            · rfl
            · split
              · rw [if_pos (by omega)]
              · rw [if_neg (by omega)]; congr 1; omega
          rw [hget]
          have e2 : (cs.take off).length = off := by simp; omega
          rw [e2] at hi
          split at hi
          · rename_i h1
            rw [if_pos (by omega)]
            rw [List.getElem?_take, if_pos h1] at hi
            exact hcs i v hi
          · rename_i h1
            rw [if_neg (by omega)]
            rw [List.getElem?_append] at hi
            split at hi
            · rename_i h2
              rw [if_pos (by omega)]
              obtain ⟨u, hu, hr⟩ := hl.get hi
              exact ⟨u, by rw [← hu]; congr 1; omega, hr⟩
            · rename_i h2
              rw [if_neg (by omega)]
              rw [List.getElem?_drop] at hi
              have e3 : off + l.length + (i - off - l.length) = i := by omega
              rw [e3] at hi
              exact hcs i v hi
        · rw [hz]
          congr 1
          funext z
          simp only [List.size_toArray, List.length_append, List.length_take, List.length_drop, Array.length_toList]
          congr 1
          omega
    · cases hs
  · cases hs
theorem sim_st {t : TypeId} {x y : Operand} (ho : o.op = .store t x y) (hρ : Rho μ o.op fr ρ) (hc : cOp P o.op = some k) (hrd : Rds P μ k fr h w) (hk : kop k fr h = some (.val v e)) : Out P μ n ρ o w v e := by
  rw [ho] at hc hρ
  simp only [cOp] at hc
  split at hc
  · rename_i m kx ky hs hcx hcy
    cases hc
    have r := hρ x (by simp [Op.operands]) kx hcx
    have ry := hρ y (by simp [Op.operands]) ky hcy
    simp only [kop] at hk
    split at hk
    · rename_i a ha
      have hmem : a.block ∈ rds (.st kx ky m) fr := by simp only [rds]; exact blkOf_ptr ha
      split at hk
      · rename_i l hl
        split at hk
        · rename_i hlm
          split at hk
          · rename_i ob hset
            cases hk
            rw [ha] at r
            obtain ⟨hsp, hV, hρx⟩ := vrel_ptr r
            obtain ⟨b, off, sp⟩ := a
            simp only at hsp hV hρx hmem hset; subst hsp
            have hcells := vrel_cells ry hl
            obtain ⟨w', o', hrun, hkin, hheap, hor⟩ := rowSet_rel (P := P) (w := w) hset hcells (hrd b hmem hV)
            refine ⟨undef, w', μ, .inr ⟨rfl, ?_⟩, .upd b ob o' w' hV hkin hheap hor, vrel_undef μ⟩
            have hsz : (ρ y).cells.size = m := by have := hcells.1; simp at this; omega
            simp only [execOp, ho, hρx, Instr.storeAt, Instr.sureAddr, Sem.run_bind, Sem.run_pure, Result.andThen_ok, storeVar, r_sizeOf hs]
            rw [if_neg (by simp [hsz])]
            simp only [Sem.run_bind, Sem.run_pure, Result.andThen_ok, hrun]
          · cases hk
        · cases hk
      · cases hk
    · cases hk
  · cases hc
end Go.Canon
namespace Go.Canon
set_option linter.unusedVariables false
set_option linter.unusedSimpArgs false
open Go
variable {P : Program} {w : World} {μ : M} {n : Nat} {ρ : Operand → Value} {o : Oper} {fr : Nat → Value} {h : Heap} {v : Value} {e : Eff} {k : KOp}
theorem or_new {l : List Value} {c : Array Value} {T : TypeId} {n s : Nat} {gr : Option Nat} (hn : ¬ μ.V n) (hgr : ∀ z, gr = some z → c.size ≤ z * mxL) (hl : VRels μ l (c.toList.take l.length)) :
    ObR P (μ.add n (s, 0) (gr.map fun z => (z, c.size))) n (.row l true gr) (.cells c T (0, 0)) := by
  refine ⟨c, T, (0, 0), rfl, fun _ => rfl, fun i v x => ?_, by cases gr with | none => simp | some z => exact M.add_Zs (hgr z rfl)⟩
  obtain ⟨v', hv', hr⟩ := hl.get x
  rw [List.getElem?_take] at hv'
  split at hv'
  · exact ⟨v', by simpa using hv', hr.mono (M.le_add hn)⟩
  · cases hv'
theorem or_new0 {l : List Value} {c : Array Value} {T : TypeId} {n s : Nat} (hn : ¬ μ.V n) (hl : VRels μ l c.toList) : ObR P (μ.add n (s, 0) none) n (.row l true none) (.cells c T (0, 0)) := by
  refine or_new (gr := none) hn (fun _ h => by cases h) ?_
  have : c.toList.take l.length = c.toList := List.take_of_length_le (by have := hl.1; omega)
  rw [this]; exact hl
/-- An operation that makes a row. -/
theorem out_new {l : List Value} {c : Array Value} {T : TypeId} {v' : Value} (hn : ¬ μ.V n) (hrun : (execOp ρ o).run P w = .ok (.value v') { w with heap := w.heap.push (.cells c T) }) (hl : VRels μ l c.toList) (hv : VRel (μ.add n (w.heap.size, 0) none) v v') :
    Out P μ n ρ o w v (.new (.row l true none)) :=
  ⟨v', _, _, .inl hrun, .new _ _ none _ ⟨rfl, rfl, rfl⟩ rfl (or_new0 hn hl), hv⟩
theorem vrel_newptr (hn : ¬ μ.V n) {s : Nat} {z : Option (Nat × Nat)} : VRel (μ.add n (s, 0) z) (ptr n 0) (.pointer (some ⟨s, 0, none⟩)) := by
  have := VRel.ptr (μ := μ.add n (s, 0) z) n 0 M.add_V
  simpa [ptr] using this
theorem sim_new {t : TypeId} (hn : e.lays = true → ¬ μ.V h.length) (ho : o.op = .alloc t) (hc : cOp P o.op = some k) (hk : kop k fr h = some (.val v e)) : Out P μ h.length ρ o w v e := by
  rw [ho] at hc
  simp only [cOp, Option.map_eq_some_iff] at hc
  obtain ⟨l, hl, rfl⟩ := hc
  obtain ⟨z, hz, rfl, hfl, _⟩ := zeroCells_some hl
  simp only [kop] at hk
  cases hk
  refine out_new (c := z.cells) (T := t) (v' := .pointer (some ⟨w.heap.size, 0, none⟩)) (hn rfl) ?_ (VRels.flat hfl) (vrel_newptr (hn rfl))
  simp only [execOp, ho, Instr.alloc, Sem.run_bind, r_zeroValue hz, Result.andThen_ok, newVar, newRow, run_newObj, Sem.run_pure]
theorem sim_box {t : TypeId} {x : Operand} (hn : e.lays = true → ¬ μ.V h.length) (ho : o.op = .box t x) (hρ : Rho μ o.op fr ρ) (hc : cOp P o.op = some k) (hk : kop k fr h = some (.val v e)) : Out P μ h.length ρ o w v e := by
  rw [ho] at hc hρ
  simp only [cOp, Option.map_eq_some_iff] at hc
  obtain ⟨kx, hcx, rfl⟩ := hc
  have r := hρ x (by simp [Op.operands]) kx hcx
  simp only [kop] at hk
  split at hk
  · rename_i l hl
    cases hk
    refine out_new (c := (ρ x).cells) (T := t) (v' := .pointer (some ⟨w.heap.size, 0, none⟩)) (hn rfl) ?_ (vrel_cells r hl) (vrel_newptr (hn rfl))
    simp only [execOp, ho, Instr.box, Sem.run_bind, Result.andThen_ok, newVar, newRow, run_newObj, Sem.run_pure]
  · cases hk
theorem foldl_overlay (off : Nat) : ∀ (vs : List Value) (s : Nat) (cs : Array Value), off + s + vs.length ≤ cs.size →
    ((vs.zipIdx s).foldl (fun (cs : Array Value) (p : Value × Nat) => cs.setIfInBounds (off + p.2) p.1) cs).toList = cs.toList.take (off + s) ++ vs ++ cs.toList.drop (off + s + vs.length)
  | [], s, cs, _ => by simp
  | x :: vs, s, cs, hl => by
    simp only [List.length_cons] at hl
    rw [List.zipIdx_cons, List.foldl_cons, foldl_overlay off vs (s + 1) _ (by simp; omega)]
    apply List.ext_getElem?
    intro i
    simp only [Array.toList_setIfInBounds, List.getElem?_append, List.length_append, List.length_take, List.length_set, Array.length_toList, List.getElem?_take, List.getElem?_drop, List.getElem?_set, List.length_cons]
    have e1 : min (off + (s + 1)) cs.size = off + s + 1 := by omega
    have e2 : min (off + s) cs.size = off + s := by omega
    rw [e1, e2]
    by_cases h1 : i < off + s
    · rw [if_pos (by omega), if_pos (by omega), if_pos (by omega), if_neg (by omega), if_pos (by omega), if_pos h1, if_pos h1]
    · by_cases h2 : i = off + s
      · subst h2
        rw [if_pos (by omega), if_pos (by omega), if_pos (by omega), if_pos rfl, if_pos (by omega)]
        simp
      · rw [if_neg (by omega : ¬ i < off + s)]
        by_cases h3 : i < off + s + 1 + vs.length
        · rw [if_pos (by omega), if_neg (by omega), if_pos (by omega)]
          have : i - (off + s) = (i - (off + s + 1)) + 1 := by omega
          rw [this]; simp
        · rw [if_neg (by omega), if_neg (by omega), if_neg (by omega)]
          congr 1; omega
/-- Parts laid into cells, the same on both sides. -/
theorem fill_rel (place : Nat → Option (Nat × Nat)) : ∀ (ps : List (Nat × Value)) (qs : List (Nat × Nat × Value)) (cs : List Value) (cs' : Array Value) (r : List Value),
    qs.length = ps.length → (∀ (i : Nat) p q, ps[i]? = some p → qs[i]? = some q → place p.1 = some (q.1, q.2.1) ∧ VRel μ q.2.2 p.2) → VRels μ cs cs'.toList → overlay cs qs = some r →
    ∃ r', Instr.fill place cs' ps = some r' ∧ VRels μ r r'.toList
  | [], [], cs, cs', r, _, _, hcs, ho => by simp only [overlay] at ho; cases ho; exact ⟨cs', rfl, hcs⟩
  | p :: ps, q :: qs, cs, cs', r, hl, hp, hcs, ho => by
    obtain ⟨i, v'⟩ := p
    obtain ⟨off, size, v⟩ := q
    obtain ⟨h1, h2⟩ := hp 0 _ _ rfl rfl
    simp only at h1 h2
    simp only [overlay] at ho
    split at ho
    · rename_i l hl2
      split at ho
      · rename_i hc
        obtain ⟨hc1, hc2⟩ := hc
        have hv := vrel_cells h2 hl2
        have hvl : v'.cells.size = size := by have := hv.1; simp at this; omega
        have hcl : cs'.size = cs.length := by have := hcs.1; simpa using this.symm
        have hfold := foldl_overlay off v'.cells.toList 0 cs' (by simp; omega)
        have hnext : VRels μ (cs.take off ++ l ++ cs.drop (off + size)) ((v'.cells.zipIdx.foldl (fun (cs : Array Value) (p : Value × Nat) => cs.setIfInBounds (off + p.2) p.1) cs')).toList := by
          have e : (v'.cells.zipIdx.foldl (fun (cs : Array Value) (p : Value × Nat) => cs.setIfInBounds (off + p.2) p.1) cs').toList = cs'.toList.take off ++ v'.cells.toList ++ cs'.toList.drop (off + size) := by
            rw [← Array.foldl_toList, Array.toList_zipIdx]
            have := hfold
            simp only [Nat.add_zero, Array.length_toList, hvl] at this
            exact this
          rw [e]
          exact ((hcs.take off).append hv).append (hcs.drop _)
        obtain ⟨r', e', hr'⟩ := fill_rel place ps qs _ _ r (by simpa using hl) (fun i p q x y => hp (i + 1) p q (by simpa using x) (by simpa using y)) hnext ho
        refine ⟨r', ?_, hr'⟩
        simp only [Instr.fill, h1]
        rw [if_neg (by simp [hvl, hcl]; omega)]
        exact e'
      · cases ho
    · cases ho
  | [], _ :: _, _, _, _, hl, _, _, _ => by simp at hl
  | _ :: _, [], _, _, _, hl, _, _, _ => by simp at hl
theorem partsA_rel {size : Nat} : ∀ {ps : List (Nat × Operand)} {ks : List (Nat × Nat × KO)}, cPartsA size ps = some ks → (∀ x ∈ ps.map (·.2), ∀ kx, cO x = some kx → VRel μ (kx.ev fr) (ρ x)) →
    ks.length = ps.length ∧ ∀ (i : Nat) p q, (ps.map fun p => (p.1, ρ p.2))[i]? = some p → (ks.map fun q => (q.1, q.2.1, q.2.2.ev fr))[i]? = some q → some (p.1 * size, size) = some (q.1, q.2.1) ∧ VRel μ q.2.2 p.2
  | [], ks, hc, _ => by simp only [cPartsA] at hc; cases hc; exact ⟨rfl, fun i p q x y => by simp at x⟩
  | (j, x) :: ps, ks, hc, hρ => by
    simp only [cPartsA] at hc
    split at hc
    · rename_i kx l hx hl
      cases hc
      obtain ⟨h1, h2⟩ := partsA_rel hl (fun y hy => hρ y (by simp at hy ⊢; exact .inr hy))
      refine ⟨by simp [h1], fun i p q a b => ?_⟩
      cases i with
      | zero => simp at a b; subst a b; exact ⟨rfl, hρ x (by simp) kx hx⟩
      | succ i => exact h2 i p q (by simpa using a) (by simpa using b)
    · cases hc
theorem partsS_rel {fs : Array Field} : ∀ {ps : List (Nat × Operand)} {ks : List (Nat × Nat × KO)}, cPartsS P fs ps = some ks → (∀ x ∈ ps.map (·.2), ∀ kx, cO x = some kx → VRel μ (kx.ev fr) (ρ x)) →
    ks.length = ps.length ∧ ∀ (i : Nat) p q, (ps.map fun p => (p.1, ρ p.2))[i]? = some p → (ks.map fun q => (q.1, q.2.1, q.2.2.ev fr))[i]? = some q → (∃ f, fs[p.1]? = some f ∧ f.offset = q.1 ∧ tySize P f.type = some q.2.1) ∧ VRel μ q.2.2 p.2
  | [], ks, hc, _ => by simp only [cPartsS] at hc; cases hc; exact ⟨rfl, fun i p q x y => by simp at x⟩
  | (j, x) :: ps, ks, hc, hρ => by
    simp only [cPartsS] at hc
    split at hc
    · rename_i f kx l hf hx hl
      simp only [Option.map_eq_some_iff] at hc
      obtain ⟨s, hs, rfl⟩ := hc
      obtain ⟨h1, h2⟩ := partsS_rel hl (fun y hy => hρ y (by simp at hy ⊢; exact .inr hy))
      refine ⟨by simp [h1], fun i p q a b => ?_⟩
      cases i with
      | zero => simp at a b; subst a b; exact ⟨⟨f, hf, rfl, hs⟩, hρ x (by simp) kx hx⟩
      | succ i => exact h2 i p q (by simpa using a) (by simpa using b)
    · cases hc
theorem run_placesL : ∀ (fs : List Field), fs.all (fun f => (tySize P f.type).isSome) = true → (fs.mapM fun f => (do pure (f.offset, ← sizeOf f.type) : Sem (Nat × Nat))).run P w = .ok (fs.map fun f => (f.offset, (tySize P f.type).getD 0)) w
  | [], _ => by simp
  | f :: fs, hall => by
    simp only [List.all_cons, Bool.and_eq_true] at hall
    obtain ⟨s, hs⟩ := Option.isSome_iff_exists.1 hall.1
    simp only [List.mapM_cons, Sem.run_bind, r_sizeOf hs, Result.andThen_ok, Sem.run_pure, run_placesL fs hall.2, List.map_cons, hs, Option.getD_some]
theorem run_places (fs : Array Field) (hall : fs.toList.all (fun f => (tySize P f.type).isSome) = true) : (fs.mapM fun f => (do pure (f.offset, ← sizeOf f.type) : Sem (Nat × Nat))).run P w = .ok (fs.map fun f => (f.offset, (tySize P f.type).getD 0)) w := by
  rw [Array.mapM_eq_mapM_toList, Sem.run_map, run_placesL fs.toList hall]
  simp only [Result.andThen_ok]
  congr 1
  apply Array.ext'
  simp
theorem sim_mk {t : TypeId} {ps : Array (Nat × Operand)} (ho : o.op = .build t ps) (hρ : Rho μ o.op fr ρ) (hc : cOp P o.op = some k) (hk : kop k fr h = some (.val v e)) : Out P μ n ρ o w v e := by
  rw [ho] at hc hρ
  have hops : ∀ x ∈ ps.toList.map (·.2), ∀ kx, cO x = some kx → VRel μ (kx.ev fr) (ρ x) := fun x hx kx e => hρ x (by simp only [Op.operands]; simpa using hx) kx e
  have harr : (ps.map fun (p : Nat × Operand) => (p.1, ρ p.2)).toList = ps.toList.map fun p => (p.1, ρ p.2) := by simp
  simp only [cOp] at hc
  split at hc
  · rename_i l fs hz hu
    obtain ⟨z, hz0, rfl, hfl, _⟩ := zeroCells_some hz
    split at hc
    · rename_i hall
      simp only [Option.map_eq_some_iff] at hc
      obtain ⟨ks, hks, rfl⟩ := hc
      simp only [kop] at hk
      split at hk
      · rename_i cs hcs
        cases hk
        obtain ⟨h1, h2⟩ := partsS_rel (μ := μ) (fr := fr) (ρ := ρ) hks hops
        obtain ⟨r', hr', hrel⟩ := fill_rel ((fs.map fun f => (f.offset, (tySize P f.type).getD 0))[·]?) (ps.toList.map fun p => (p.1, ρ p.2)) _ z.cells.toList z.cells cs (by simp [h1]) (fun i p q x y => by
          obtain ⟨⟨f, hf, ho1, ho2⟩, hv⟩ := h2 i p q x y
          exact ⟨by simp [hf, ho1, ho2], hv⟩) (VRels.flat hfl) hcs
        refine out_pure (v' := .agg r') ?_ (VRels.aggA (by simpa using hrel))
        simp only [execOp, ho, Instr.build, Sem.run_bind, r_zeroValue hz0, Result.andThen_ok, run_underlying hu, run_places fs hall, harr, hr', Sem.run_pure]
      · cases hk
    · cases hc
  · rename_i l len el hz hu
    obtain ⟨z, hz0, rfl, hfl, _⟩ := zeroCells_some hz
    split at hc
    · rename_i s hs
      simp only [Option.map_eq_some_iff] at hc
      obtain ⟨ks, hks, rfl⟩ := hc
      simp only [kop] at hk
      split at hk
      · rename_i cs hcs
        cases hk
        obtain ⟨h1, h2⟩ := partsA_rel (μ := μ) (fr := fr) (ρ := ρ) hks hops
        obtain ⟨r', hr', hrel⟩ := fill_rel (fun i => some (i * s, s)) (ps.toList.map fun p => (p.1, ρ p.2)) _ z.cells.toList z.cells cs (by simp [h1]) h2 (VRels.flat hfl) hcs
        refine out_pure (v' := .agg r') ?_ (VRels.aggA (by simpa using hrel))
        simp only [execOp, ho, Instr.build, Sem.run_bind, r_zeroValue hz0, Result.andThen_ok, run_underlying hu, r_sizeOf hs, harr, hr', Sem.run_pure]
      · cases hk
    · cases hc
  · cases hc
theorem zeros_cells {z : Value} (n : Nat) (hz : 0 < z.cells.size) : (Array.range (n * z.cells.size)).map (fun i => z.cells[i % z.cells.size]!) = (List.replicate n z.cells.toList).flatten.toArray := by
  apply Array.ext_getElem?
  intro i
  simp only [Array.getElem?_map, Array.getElem?_range, List.getElem?_toArray]
  induction n generalizing i with
  | zero => simp
  | succ n ih =>
    rw [List.replicate_succ, List.flatten_cons, List.getElem?_append, Array.length_toList]
    by_cases hi : i < z.cells.size
    · rw [if_pos hi]
      have : i < (n + 1) * z.cells.size := by rw [Nat.add_mul]; omega
      simp [this, Nat.mod_eq_of_lt hi, hi]
    · rw [if_neg hi, ← ih]
      have e1 : i - z.cells.size < n * z.cells.size ↔ i < (n + 1) * z.cells.size := by rw [Nat.add_mul]; omega
      have e2 : (i - z.cells.size) % z.cells.size = i % z.cells.size := by
        rw [← Nat.mod_eq_sub_mod (by omega)]
      by_cases hj : i < (n + 1) * z.cells.size
      · rw [if_pos hj, if_pos (e1.2 hj)]; simp [e2]
      · rw [if_neg hj, if_neg (fun h => hj (e1.1 h))]
theorem sim_mkS {t : TypeId} {len : Nat} {ps : Array (Nat × Operand)} (hn : e.lays = true → ¬ μ.V h.length) (ho : o.op = .buildSlice t len ps) (hρ : Rho μ o.op fr ρ) (hc : cOp P o.op = some k) (hk : kop k fr h = some (.val v e)) : Out P μ h.length ρ o w v e := by
  rw [ho] at hc hρ
  have hops : ∀ x ∈ ps.toList.map (·.2), ∀ kx, cO x = some kx → VRel μ (kx.ev fr) (ρ x) := fun x hx kx e => hρ x (by simp only [Op.operands]; simpa using hx) kx e
  have harr : (ps.map fun (p : Nat × Operand) => (p.1, ρ p.2)).toList = ps.toList.map fun p => (p.1, ρ p.2) := by simp
  simp only [cOp] at hc
  split at hc
  · rename_i el hu
    split at hc
    · rename_i l hz
      obtain ⟨z, hz0, rfl, hfl, hsz⟩ := zeroCells_some hz
      split at hc
      · rename_i hcond
        simp only [Bool.and_eq_true, decide_eq_true_eq, Array.length_toList] at hcond
        obtain ⟨hroom, hpos⟩ := hcond
        simp only [Option.map_eq_some_iff] at hc
        obtain ⟨ks, hks, rfl⟩ := hc
        simp only [kop] at hk
        split at hk
        · rename_i cs hcs
          cases hk
          obtain ⟨h1, h2⟩ := partsA_rel (μ := μ) (fr := fr) (ρ := ρ) hks hops
          have hzr : ((List.replicate len z.cells.toList).flatten).all flat0 = true := by
            rw [List.all_flatten, List.all_replicate]
            split <;> simp_all
          obtain ⟨r', hr', hrel⟩ := fill_rel (μ := μ) (fun i => some (i * z.cells.size, z.cells.size)) (ps.toList.map fun p => (p.1, ρ p.2)) _ ((List.replicate len z.cells.toList).flatten) ((List.replicate len z.cells.toList).flatten.toArray) cs (by simp [h1]) (by simpa using h2) (by simpa using VRels.flat hzr) hcs
          have hadd : VRel (μ.add h.length (w.heap.size, 0) none) (.slice (some ⟨h.length, 0, none⟩) len len) (.slice (some ⟨w.heap.size, 0, none⟩) len len) := by
            have := VRel.sl (μ := μ.add h.length (w.heap.size, 0) none) h.length 0 len len 0 len M.add_V (Nat.le_refl _) (Nat.le_refl _) (fun _ => by simp) (fun z S hz => by simp at hz) (fun _ => ⟨rfl, by simp⟩)
            simpa using this
          refine out_new (c := r') (T := el) (v' := .slice (some ⟨w.heap.size, 0, none⟩) len len) (hn rfl) ?_ hrel hadd
          simp only [execOp, ho, Instr.buildSlice, Sem.run_bind, run_underlying hu, Result.andThen_ok, r_sizeOf hsz]
          rw [if_neg (by omega)]
          by_cases h0 : len * z.cells.size = 0
          · have hl0 : len = 0 := by rcases Nat.mul_eq_zero.1 h0 with h | h <;> omega
            subst hl0
            simp only [Nat.zero_mul, if_true, Sem.run_bind, Sem.run_pure, Result.andThen_ok, harr]
            have e0 : (Array.range 0).map (fun i => (#[] : Array Value)[i % (#[] : Array Value).size]!) = (List.replicate 0 z.cells.toList).flatten.toArray := by simp
            rw [e0, hr']
            simp [newRow]
          · rw [if_neg h0]
            simp only [Sem.run_bind, r_zeroValue hz0, Result.andThen_ok, Sem.run_pure, zeros_cells len hpos, harr, hr', newRow, run_newObj]
        · cases hk
      · cases hc
    · cases hc
  · cases hc
end Go.Canon
namespace Go.Canon
set_option linter.unusedVariables false
set_option linter.unusedSimpArgs false
open Go
variable {P : Program} {w : World} {μ : M} {n : Nat} {ρ : Operand → Value} {o : Oper} {fr : Nat → Value} {h : Heap} {v : Value} {e : Eff} {k : KOp}
theorem wrap_small {x : Int} (h0 : 0 ≤ x) (h1 : x ≤ 1099511627776) : IntKind.i64.wrap x = x := by
  have e : IntKind.i64.wrap x = if x % 18446744073709551616 ≥ 9223372036854775808 then x % 18446744073709551616 - 18446744073709551616 else x % 18446744073709551616 := by
    simp [IntKind.wrap, IntKind.bits, IntKind.signed]
  rw [e]
  have : x % 18446744073709551616 = x := by omega
  rw [this]
  split <;> omega
theorem zeroCells_eq {z : Value} (n : Nat) (hz : 0 < z.cells.size) : Builtin.zeroCells z.cells n = (List.replicate n z.cells.toList).flatten.toArray := zeros_cells n hz
theorem zrep_flat {z : List Value} (n : Nat) (hz : z.all flat0 = true) : ((List.replicate n z).flatten).all flat0 = true := by
  rw [List.all_flatten, List.all_replicate]
  split <;> simp_all
theorem zrep_len (z : List Value) (n : Nat) : ((List.replicate n z).flatten).length = n * z.length := by simp [List.length_flatten]
theorem sim_mkSl {t : TypeId} {x y : Operand} (hn : e.lays = true → ¬ μ.V h.length) (ho : o.op = .makeSlice t x y) (hρ : Rho μ o.op fr ρ) (hc : cOp P o.op = some k) (hk : kop k fr h = some (.val v e)) : Out P μ h.length ρ o w v e := by
  rw [ho] at hc hρ
  simp only [cOp] at hc
  split at hc
  · rename_i el hu
    split at hc
    · rename_i i l kx ky hi hz hcx hcy
      obtain ⟨z, hz0, rfl, hfl, hsz⟩ := zeroCells_some hz
      split at hc
      · rename_i hcond
        simp only [Bool.and_eq_true, decide_eq_true_eq, Array.length_toList] at hcond
        obtain ⟨hb, hpos⟩ := hcond
        cases hc
        have rx := hρ x (by simp [Op.operands]) kx hcx
        have ry := hρ y (by simp [Op.operands]) ky hcy
        simp only [kop] at hk
        split at hk
        · rename_i p q hp hq
          split at hk
          · rename_i hpq
            obtain ⟨h0, h1, h2⟩ := hpq
            cases hk
            rw [hp] at rx; rw [hq] at ry
            have hx := vrel_int rx
            have hy := vrel_int ry
            have hroom : roomB = 1099511627776 := rfl
            have hq1 : q.toNat ≤ q.toNat * i.bytes := Nat.le_mul_of_pos_right _ hb
            have hqs : q ≤ 1099511627776 := by omega
            have hwp : IntKind.i64.wrap p = p := wrap_small h0 (by omega)
            have hwq : IntKind.i64.wrap q = q := wrap_small (by omega) hqs
            have hadd : VRel (μ.add h.length (w.heap.size, 0) none) (.slice (some ⟨h.length, 0, none⟩) p.toNat q.toNat) (.slice (some ⟨w.heap.size, 0, none⟩) p.toNat q.toNat) := by
              have := VRel.sl (μ := μ.add h.length (w.heap.size, 0) none) h.length 0 p.toNat q.toNat 0 q.toNat M.add_V (by omega) (Nat.le_refl _) (fun _ => by simp) (fun z S hz => by simp at hz) (fun _ => ⟨rfl, by simp⟩)
              simpa using this
            have hbig : (i.bytes : Int) * q ≤ 2 ^ 48 := by
              have : ((q.toNat * i.bytes : Nat) : Int) ≤ 1099511627776 := by omega
              have e : (i.bytes : Int) * q = ((q.toNat * i.bytes : Nat) : Int) := by
                rw [Nat.mul_comm, Int.natCast_mul, Int.toNat_of_nonneg (by omega)]
              rw [e]
              have : (2 : Int) ^ 48 = 281474976710656 := by decide
              omega
            refine out_new (c := (List.replicate q.toNat z.cells.toList).flatten.toArray) (T := el) (v' := .slice (some ⟨w.heap.size, 0, none⟩) p.toNat q.toNat) (hn rfl) ?_ (by simpa using VRels.flat (zrep_flat q.toNat hfl)) hadd
            simp only [execOp, ho, hx, hy, Instr.makeSlice, asInt, asIntOf, Sem.run_bind, run_underlying hu, Result.andThen_ok, Sem.run_pure, r_typeInfo hi, hwp, hwq]
            rw [if_neg (by simp; omega)]
            simp only [Sem.run_bind, run_askRoom, Result.andThen_ok, r_sizeOf hsz]
            by_cases h0 : q.toNat * z.cells.size = 0
            · have hl0 : q.toNat = 0 := by rcases Nat.mul_eq_zero.1 h0 with h | h <;> omega
              rw [if_pos h0]
              have er : Array.range 0 = #[] := rfl
              simp [hl0, newRow, er]
            · rw [if_neg h0]
              simp only [Sem.run_bind, r_zeroValue hz0, Result.andThen_ok, Sem.run_pure, zeros_cells q.toNat hpos, newRow, run_newObj]
          · cases hk
        · cases hk
      · cases hc
    · cases hc
  · cases hc
/-- The first cells of a slice. -/
theorem firstC_rel {x x' : Value} {sz m : Nat} {l : List Value} (hf : firstC h sz m x = some l) (hx : VRel μ x x') (hlen : ∀ a n c, x = .slice a n c → m ≤ n)
    (hob : ∀ b ∈ blkOf x, μ.V b → ∀ ob, h[b]? = some ob → ∃ o', w.heap[(μ.f b).1]? = some o' ∧ ObR P μ b ob o') :
    ∃ l', (Builtin.firstCells sz m x').run P w = .ok l'.toArray w ∧ VRels μ l l' ∧ l'.length = m * sz := by
  unfold firstC at hf
  split at hf
  · rename_i a n c
    have hmn := hlen _ _ _ rfl
    rcases vrel_slice hx with ⟨hh, _⟩ | ⟨y, y', _, rfl, rfl, rfl⟩ | ⟨y, o', c', hy, hsp, hV, hn, hc, ho', hz, hz', rfl⟩
    · cases hh
    · obtain rfl : m = 0 := by omega
      simp at hf; subst hf
      exact ⟨[], by simp [Builtin.firstCells, loadCells, loadCellsFrom], VRels.nil μ, by simp⟩
    · cases hy
      split at hf
      · rename_i h0
        cases hf
        exact ⟨[], by simp [Builtin.firstCells, h0, loadCells, loadCellsFrom], VRels.nil μ, by simp [h0]⟩
      · rename_i h0
        obtain ⟨b, off, sp⟩ := a
        simp only at hsp hV ho' hz hz' hlen hf; subst hsp
        have hm0 : m ≠ 0 := fun h => h0 (by simp [h])
        have := ho' (by omega)
        subst this
        obtain ⟨l', hl, hll, hcell⟩ := rowGet_rel (P := P) (w := w) hf (hob b (by simp [blkOf]) hV)
        exact ⟨l', by simp only [Builtin.firstCells]; exact run_loadCells_at hll hcell, hl, hll⟩
  · rename_i n c
    split at hf
    · rename_i hm0
      cases hf
      rcases vrel_slice hx with ⟨_, _, _, rfl⟩ | ⟨y, y', hh, _⟩ | ⟨y, o', c', hh, _⟩
      · exact ⟨[], by simp [Builtin.firstCells], VRels.nil μ, by simp [hm0]⟩
      · cases hh
      · cases hh
    · cases hf
  · cases hf
theorem sim_clr {t ty : TypeId} {x : Operand} {args : Array Operand} {ts : Array TypeId} (ho : o.op = .call { callee := .builtin .clear, args, argTypes := ts }) (hax : args.toList = [x]) (hts : ts.toList = [t]) (hρ : Rho μ o.op fr ρ) (hc : cOp P o.op = some k) (hrd : Rds P μ k fr h w) (hk : kop k fr h = some (.val v e)) : Out P μ n ρ o w v e := by
  rw [ho] at hc hρ
  have hargs : args = #[x] := Array.ext' (by simpa using hax)
  have htss : ts = #[t] := Array.ext' (by simpa using hts)
  subst hargs; subst htss
  simp only [cOp, cCall] at hc
  split at hc
  · rename_i el hu
    split at hc
    · rename_i l kx hz hcx
      obtain ⟨z, hz0, rfl, hfl, hsz⟩ := zeroCells_some hz
      split at hc
      · rename_i hpos
        simp only [Array.length_toList] at hpos
        cases hc
        have r := hρ x (by simp [Op.operands, Call.operands]) kx hcx
        simp only [kop] at hk
        split at hk
        · rename_i a m c ha
          rw [ha] at r
          split at hk
          · rename_i h0
            cases hk
            have hm : m = 0 := by rcases Nat.mul_eq_zero.1 h0 with h | h; exact h; rw [Array.length_toList] at h; omega
            subst hm
            refine out_pure (v' := .tuple #[]) ?_ (vrel_undef μ)
            rcases vrel_slice r with ⟨_, _, _, hρx⟩ | ⟨y, y', _, _, _, hρx⟩ | ⟨y, o', c', _, _, _, _, _, _, _, _, hρx⟩ <;>
              simp [execOp, ho, resolve, hρx, invoke, builtin, Builtin.clear_, run_underlying hu]
          · rename_i h0
            split at hk
            · rename_i ad
              split at hk
              · rename_i ob hset
                cases hk
                have hm0 : m ≠ 0 := fun h => h0 (by simp [h])
                rcases vrel_slice r with ⟨hh, _⟩ | ⟨y, y', _, hh, _⟩ | ⟨y, o', c', hy, hsp, hV, hn, hc, ho', hz, hz', hρx⟩
                · cases hh
                · omega
                · cases hy
                  obtain ⟨b, off, sp⟩ := ad
                  simp only at hsp hV ho' hρx hset; subst hsp
                  have := ho' (by omega)
                  subst this
                  obtain ⟨w', o', hrun, hkin, hheap, hor⟩ := rowSet_rel (P := P) (w := w) hset (VRels.flat (zrep_flat m hfl)) (hrd b (by simp [rds, ha, blkOf]) hV)
                  refine ⟨.tuple #[], w', μ, .inl ?_, .upd b ob o' w' hV hkin hheap hor, vrel_undef μ⟩
                  cases m with
                  | zero => omega
                  | succ m =>
                    simp [execOp, ho, resolve, hρx, invoke, builtin, Builtin.clear_, run_underlying hu, r_zeroValue hz0, zeroCells_eq _ hpos, hrun]
              · cases hk
            · cases hk
        · cases hk
      · cases hc
    · cases hc
  · cases hc
end Go.Canon
namespace Go.Canon
set_option linter.unusedVariables false
set_option linter.unusedSimpArgs false
open Go
variable {P : Program} {w : World} {μ : M} {n : Nat} {ρ : Operand → Value} {o : Oper} {fr : Nat → Value} {h : Heap} {v : Value} {e : Eff} {k : KOp}
theorem sim_cpy {t u ty : TypeId} {d s : Operand} {el eu : TypeId} {sz : Nat} {kd ks : KO} (ho : o.op = .call { callee := .builtin .copy, args := #[d, s], argTypes := #[t, u] }) (hρ : Rho μ o.op fr ρ)
    (hu : P.underlying t = some (.slice el)) (hz : tySize P el = some sz) (hd : cO d = some kd) (hs : cO s = some ks) (hrd : Rds P μ (.cpy kd ks sz) fr h w) (hk : kop (.cpy kd ks sz) fr h = some (.val v e)) : Out P μ n ρ o w v e := by
  rw [ho] at hρ
  have rd := hρ d (by simp [Op.operands, Call.operands]) kd hd
  have rs := hρ s (by simp [Op.operands, Call.operands]) ks hs
  simp only [kop, kcpy] at hk
  split at hk
  · rename_i base dl dc sb sl sc h1 h2
    rw [h1] at rd; rw [h2] at rs
    have hds : ∃ a' c', ρ d = .slice a' dl c' := by
      rcases vrel_slice rd with ⟨_, rfl, _, hh⟩ | ⟨y, y', _, rfl, _, hh⟩ | ⟨y, o', c', _, _, _, _, _, _, _, _, hh⟩ <;> exact ⟨_, _, hh⟩
    have hss : ∃ a' c', ρ s = .slice a' sl c' := by
      rcases vrel_slice rs with ⟨_, rfl, _, hh⟩ | ⟨y, y', _, rfl, _, hh⟩ | ⟨y, o', c', _, _, _, _, _, _, _, _, hh⟩ <;> exact ⟨_, _, hh⟩
    obtain ⟨da, dcc, hda⟩ := hds
    obtain ⟨sa, scc, hsa⟩ := hss
    have hmin : Nat.min sl dl = min sl dl := rfl
    split at hk
    · rename_i h0
      cases hk
      refine out_pure (v' := .int .i64 (min sl dl : Nat)) ?_ (.flat _ rfl)
      have hfc : (Builtin.firstCells sz (min sl dl) (.slice sa sl scc)).run P w = .ok #[] w := by
        cases sa with
        | none => rfl
        | some a => simp [Builtin.firstCells, h0, loadCells, loadCellsFrom]
      simp only [execOp, ho, resolve, invoke, builtin, Builtin.copy_, Sem.run_bind, Sem.run_pure, Result.andThen_ok, List.map_toArray, List.map_cons, List.map_nil, hda, hsa, List.getElem?_toArray, List.getElem?_cons_zero, List.getElem?_cons_succ, run_underlying hu, Builtin.lenOf, r_sizeOf hz, hmin, hfc]
      cases da with
      | none => rfl
      | some a => simp [storeCells, goInt]
    · rename_i h0
      split at hk
      · rename_i cs a hf
        split at hk
        · rename_i ob hset
          cases hk
          rw [h2] at hf
          obtain ⟨l', hrunf, hl, _⟩ := firstC_rel (P := P) (w := w) hf rs (fun a n c hh => by cases hh; exact Nat.min_le_left _ _) (fun b hb => hrd b (by simp only [rds, h1, h2]; exact List.mem_append_right _ hb))
          have hm0 : min sl dl ≠ 0 := fun h => h0 (by simp [h])
          rcases vrel_slice rd with ⟨hh, _⟩ | ⟨y, y', _, hh, _⟩ | ⟨y, o', c', hy, hsp, hV, hn, hc, ho', hz1, hz', hρx⟩
          · cases hh
          · omega
          · cases hy
            obtain ⟨b, off, sp⟩ := a
            simp only at hsp hV ho' hρx hset; subst hsp
            have := ho' (by omega)
            subst this
            obtain ⟨w', o', hrun, hkin, hheap, hor⟩ := rowSet_rel (P := P) (w := w) hset hl (hrd b (by simp [rds, h1, blkOf]) hV)
            refine ⟨.int .i64 (min sl dl : Nat), w', μ, .inl ?_, .upd b ob o' w' hV hkin hheap hor, .flat _ rfl⟩
            rw [hsa] at hrunf
            simp only [execOp, ho, resolve, invoke, builtin, Builtin.copy_, Sem.run_bind, Sem.run_pure, Result.andThen_ok, List.map_toArray, List.map_cons, List.map_nil, hρx, hsa, List.getElem?_toArray, List.getElem?_cons_zero, List.getElem?_cons_succ, run_underlying hu, Builtin.lenOf, r_sizeOf hz, hmin, hrunf, hrun, goInt]
        · cases hk
      · cases hk
  · cases hk
theorem growBy_le (m : Nat) : ∀ (r c : Nat), c ≤ m * 2 + 768 → Builtin.growBy m r c ≤ m * 2 + 768
  | 0, c, h => h
  | r + 1, c, h => by
    simp only [Builtin.growBy]
    split
    · exact h
    · exact growBy_le m r _ (by omega)
theorem nextcap_le {m c : Nat} (h : c < m) : Builtin.nextslicecap m c ≤ m * 2 + 768 := by
  unfold Builtin.nextslicecap
  split
  · omega
  · split
    · omega
    · exact growBy_le m 4 c (by omega)
theorem run_app_in {t u el : TypeId} {i : TypeInfo} {ty : TypeId} {a' : Option Addr} {sl c n : Nat} {xa : Option Addr} {xc : Nat} {l' : List Value} {w' : World} {U : TypeId} (hu : P.underlying t = some (.slice el)) (hi : P.info? el = some i) (huu : P.underlying u = some (.slice U))
    (hf : (Builtin.firstCells i.size n (.slice xa n xc)).run P w = .ok l'.toArray w) (hle : sl + n ≤ c) (hst : match a' with | some a => (storeCells (a.add (sl * i.size)) l' 0).run P w = .ok () w' | none => w' = w) :
    (Builtin.append_ #[t, u] ty #[.slice a' sl c, .slice xa n xc]).run P w = .ok (.slice a' (sl + n) c) w' := by
  have hs : tySize P el = some i.size := by simp [tySize, hi]
  simp only [Builtin.append_, Sem.run_bind, Sem.run_pure, Result.andThen_ok, List.getElem?_toArray, List.getElem?_cons_zero, List.getElem?_cons_succ, run_underlying hu, run_underlying huu, r_sizeOf hs, Builtin.lenOf, Bool.not_false, if_true, Bool.false_eq_true, if_false, Bool.not_eq_true']
  rw [if_pos hle]
  simp only [Sem.run_bind, hf, Result.andThen_ok]
  cases a' with
  | none => dsimp only at hst; subst hst; rfl
  | some a => dsimp only at hst; simp [hst]
theorem run_app_new {t u el : TypeId} {i : TypeInfo} {z : Value} {ty : TypeId} {a' : Option Addr} {sl c n : Nat} {xa : Option Addr} {xc : Nat} {l l' : List Value} {U : TypeId} (hu : P.underlying t = some (.slice el)) (hi : P.info? el = some i) (huu : P.underlying u = some (.slice U)) (hz : tyZero P el = some z) (hzp : 0 < z.cells.size)
    (hf0 : (Builtin.firstCells i.size sl (.slice a' sl c)).run P w.drew = .ok l.toArray w.drew) (hf : (Builtin.firstCells i.size n (.slice xa n xc)).run P w.drew = .ok l'.toArray w.drew) (hgt : ¬ sl + n ≤ c) (hb : 0 < i.bytes) (hb2 : i.bytes ≤ 65536) (hroom : (sl + n) * i.bytes ≤ roomB) :
    ∃ nc, sl + n ≤ nc ∧ nc ≤ mxL ∧ (Builtin.append_ #[t, u] ty #[.slice a' sl c, .slice xa n xc]).run P w = .ok (.slice (some ⟨w.heap.size, 0, none⟩) (sl + n) nc) (w.drew.alloc (.cells (l ++ l' ++ (List.replicate (nc - (sl + n)) z.cells.toList).flatten).toArray el)) := by
  have hs : tySize P el = some i.size := by simp [tySize, hi]
  have hnc := nextcap_le (m := sl + n) (c := c) (by omega)
  have hbig : ¬ (Builtin.nextslicecap (sl + n) c * i.bytes > 2 ^ 48) := by
    have h1 : Builtin.nextslicecap (sl + n) c * i.bytes ≤ ((sl + n) * 2 + 768) * i.bytes := Nat.mul_le_mul_right _ hnc
    have h2 : ((sl + n) * 2 + 768) * i.bytes = (sl + n) * i.bytes * 2 + 768 * i.bytes := by rw [Nat.add_mul]; congr 1; rw [Nat.mul_right_comm]
    have h3 : roomB = 1099511627776 := rfl
    have h4 : (2 : Nat) ^ 48 = 281474976710656 := by decide
    omega
  refine ⟨sl + n + w.tape w.drawn (.appendCap (sl + n) c el) % (2 ^ 63 - (sl + n)), by omega, ?_, ?_⟩
  · have h3 : roomB = 1099511627776 := rfl
    have h5 : sl + n ≤ (sl + n) * i.bytes := Nat.le_mul_of_pos_right _ hb
    have := Nat.mod_lt (w.tape w.drawn (.appendCap (sl + n) c el)) (show 0 < 2 ^ 63 - (sl + n) by omega)
    simp only [mxL]; omega
  simp only [Builtin.append_, Sem.run_bind, Sem.run_pure, Result.andThen_ok, List.getElem?_toArray, List.getElem?_cons_zero, List.getElem?_cons_succ, run_underlying hu, run_underlying huu, r_sizeOf hs, Builtin.lenOf, Bool.not_false, if_true, Bool.false_eq_true, if_false, Bool.not_eq_true']
  rw [if_neg hgt]
  simp only [Sem.run_bind, r_typeInfo hi, Result.andThen_ok]
  rw [if_neg (by rintro ⟨_, h | h⟩; exact h; omega)]
  simp only [Sem.run_bind, r_typeInfo hi, Result.andThen_ok]
  rw [if_neg hbig]
  have hfo : (Question.appendCap (sl + n) c el).forced = false := rfl
  simp only [Sem.run_bind, run_choose, hfo, Bool.false_eq_true, if_false, Result.andThen_ok, r_typeInfo hi, run_askRoom, World.drew_eq, hf0, hf, r_zeroValue hz, newRow, run_newObj, Sem.run_pure, zeroCells_eq _ hzp, World.alloc_eq, Question.cut]
  congr 2
  simp
theorem drew_rel {b : Nat} {ob : CO} (hh : ∃ o', w.heap[(μ.f b).1]? = some o' ∧ ObR P μ b ob o') : ∃ o', w.drew.heap[(μ.f b).1]? = some o' ∧ ObR P μ b ob o' := hh
theorem sim_app {t u ty el U : TypeId} {i : TypeInfo} {s x : Operand} {ks kx : KO} (hn : e.lays = true → ¬ μ.V h.length) (hd : ∀ cs wr z, h[μ.d]? ≠ some (.row cs wr (some z))) (ho : o.op = .call { callee := .builtin .append, args := #[s, x], argTypes := #[t, u] }) (hρ : Rho μ o.op fr ρ)
    (hu : P.underlying t = some (.slice el)) (hi : P.info? el = some i) (huu : P.underlying u = some (.slice U)) (hb : 0 < i.bytes) (hb2 : i.bytes ≤ 65536) (hzs : (zeroCells? P el).isSome = true) (hsz : 0 < i.size)
    (hs : cO s = some ks) (hx : cO x = some kx) (hrd : Rds P μ (.app ks kx i.size i.bytes) fr h w) (hk : kop (.app ks kx i.size i.bytes) fr h = some (.val v e)) : Out P μ h.length ρ o w v e := by
  rw [ho] at hρ
  have rs := hρ s (by simp [Op.operands, Call.operands]) ks hs
  have rx := hρ x (by simp [Op.operands, Call.operands]) kx hx
  obtain ⟨zl, hzl⟩ := Option.isSome_iff_exists.1 hzs
  obtain ⟨z, hz0, rfl, hfl, hszz⟩ := zeroCells_some hzl
  have hzi : z.cells.size = i.size := by simp [tySize, hi] at hszz; omega
  simp only [kop, kapp] at hk
  split at hk
  · rename_i base sl sc xb n xc h1 h2
    rw [h1] at rs; rw [h2] at rx
    have hxx : ∃ a' c', ρ x = .slice a' n c' := by
      rcases vrel_slice rx with ⟨_, rfl, _, hh⟩ | ⟨y, y', _, rfl, _, hh⟩ | ⟨y, o', c', _, _, _, _, _, _, _, _, hh⟩ <;> exact ⟨_, _, hh⟩
    obtain ⟨xa, xcc, hxa⟩ := hxx
    have hexec : ∀ a' c', ρ s = .slice a' sl c' → (execOp ρ o).run P w = ((Builtin.append_ #[t, u] o.type #[.slice a' sl c', .slice xa n xcc]).run P w).andThen fun v w => .ok (.value v) w := by
      intro a' c' hsa
      simp only [execOp, ho, resolve, invoke, builtin, Sem.run_bind, Sem.run_pure, Result.andThen_ok, List.map_toArray, List.map_cons, List.map_nil, hsa, hxa]
    split at hk
    · cases hk
    · rename_i new hnew
      rw [h2] at hnew
      obtain ⟨l', hf, hl, hlen'⟩ := firstC_rel (P := P) (w := w) hnew rx (fun a n c hh => by cases hh; exact Nat.le_refl _) (fun b hb => hrd b (by simp only [rds, h1, h2]; exact List.mem_append_right _ hb))
      obtain ⟨l2, hfd, hl2, hlen2⟩ := firstC_rel (P := P) (w := w.drew) hnew rx (fun a n c hh => by cases hh; exact Nat.le_refl _) (fun b hb hV ob hob => drew_rel (hrd b (by simp only [rds, h1, h2]; exact List.mem_append_right _ hb) hV ob hob))
      rw [hxa] at hf hfd
      split at hk
      · rename_i hle
        split at hk
        · rename_i hn0
          cases hk
          subst hn0
          have hnil : l' = [] := by
            cases xa with
            | none => simp only [Builtin.firstCells, Sem.run_pure] at hf; cases hf; rfl
            | some a => simp [Builtin.firstCells, loadCells, loadCellsFrom] at hf; exact hf
          subst hnil
          rcases vrel_slice rs with ⟨rfl, rfl, rfl, hsa⟩ | ⟨y, y', rfl, rfl, rfl, hsa⟩ | ⟨y, o', c', hy, hsp, hV, hnn, hc, ho', hzz, hz', hsa⟩
          · refine out_pure (v' := .slice none 0 0) ?_ (.flat _ rfl)
            rw [hexec _ _ hsa, run_app_in (w' := w) hu hi huu hf (by omega) rfl]; rfl
          · refine out_pure (v' := .slice (some y') 0 0) ?_ (hsa ▸ rs)
            rw [hexec _ _ hsa, run_app_in (w' := w) hu hi huu hf (by omega) (by simp [storeCells])]; rfl
          · refine out_pure (v' := .slice (some ⟨(μ.f y.block).1, o', none⟩) sl c') ?_ (hsa ▸ rs)
            rw [hexec _ _ hsa, run_app_in (w' := w) hu hi huu hf (by omega) (by simp [storeCells])]; rfl
        · rename_i hn0
          split at hk
          · cases hk
          · rename_i a
            split at hk
            · rename_i ob hset
              cases hk
              rcases vrel_slice rs with ⟨hh, _⟩ | ⟨y, y', _, rfl, rfl, hsa⟩ | ⟨y, o', c', hy, hsp, hV, hnn, hc, ho', hzz, hz', hsa⟩
              · cases hh
              · omega
              · cases hy
                obtain ⟨b, off, sp⟩ := a
                simp only at hsp hV ho' hzz hz' hsa hset; subst hsp
                have hoo := ho' (by omega)
                subst hoo
                rw [add_pl] at hset
                obtain ⟨w', o', hrun, hkin, hheap, hor⟩ := rowSet_rel (P := P) (w := w) hset hl (hrd b (by simp [rds, h1, blkOf]) hV)
                refine ⟨.slice (some ⟨(μ.f b).1, (μ.f b).2 + off, none⟩) (sl + n) c', w', μ, .inl ?_, ?_, ?_⟩
                · rw [hexec _ _ hsa, run_app_in (w' := w') hu hi huu hf (by omega) (by dsimp only; rw [add_pl]; simpa [Nat.add_assoc] using hrun)]; rfl
                · exact .upd b ob o' w' hV hkin hheap hor
                · exact .sl b off (sl + n) sc _ c' hV hle hc (fun _ => rfl) hzz hz'
            · cases hk
      · rename_i hgt
        split at hk
        · cases hk
        · rename_i hroom
          split at hk
          · cases hk
          · rename_i old hold
            rw [h1] at hold
            obtain ⟨lo, hfo, hlo, hlen1⟩ := firstC_rel (P := P) (w := w.drew) hold rs (fun a n c hh => by cases hh; exact Nat.le_refl _) (fun b hb hV ob hob => drew_rel (hrd b (by simp only [rds, h1, h2]; exact List.mem_append_left _ hb) hV ob hob))
            -- what a new row comes to
            have hNew : ¬ μ.V h.length → ∀ a' c', ρ s = .slice a' sl c' → ¬ sl + n ≤ c' → ∃ nc o', sl + n ≤ nc ∧ (execOp ρ o).run P w = .ok (.value (.slice (some ⟨w.heap.size, 0, none⟩) (sl + n) nc)) (w.drew.alloc o') ∧
                ObR P (μ.add h.length (w.heap.size, 0) (some (i.size, nc * i.size))) h.length (.row (old ++ new) true (some i.size)) o' ∧
                VRel (μ.add h.length (w.heap.size, 0) (some (i.size, nc * i.size))) (.slice (some ⟨h.length, 0, none⟩) (sl + n) (sl + n)) (.slice (some ⟨w.heap.size, 0, none⟩) (sl + n) nc) := by
              intro hn a' c' hsa hgt'
              rw [hsa] at hfo
              obtain ⟨nc, hnc, hncm, hrun⟩ := run_app_new (ty := o.type) hu hi huu hz0 (by omega) hfo hfd hgt' hb hb2 (by omega)
              refine ⟨nc, _, hnc, by rw [hexec _ _ hsa, hrun]; rfl, ?_, ?_⟩
              · have hcs : ((lo ++ l2 ++ (List.replicate (nc - (sl + n)) z.cells.toList).flatten).toArray).size = nc * i.size := by
                  simp only [List.size_toArray, List.length_append, hlen1, hlen2, zrep_len, Array.length_toList, hzi]
                  rw [← Nat.add_mul, ← Nat.add_mul]; congr 1; omega
                rw [← hcs]
                refine or_new (gr := some i.size) hn (fun z hz => by cases hz; rw [hcs, Nat.mul_comm]; exact Nat.mul_le_mul_left _ hncm) ?_
                have : ((lo ++ l2 ++ (List.replicate (nc - (sl + n)) z.cells.toList).flatten).toArray).toList.take (old ++ new).length = lo ++ l2 := by
                  have e : (old ++ new).length = (lo ++ l2).length := by simp [hlo.1, hl2.1]
                  rw [e]
                  simp only [List.toList_toArray]
                  rw [List.take_left]
                rw [this]
                exact hlo.append hl2
              · have := VRel.sl (μ := μ.add h.length (w.heap.size, 0) (some (i.size, nc * i.size))) h.length 0 (sl + n) (sl + n) 0 nc M.add_V (Nat.le_refl _) hnc (fun _ => by simp) (fun z S hz => by have hz := M.add_Zi hz; simp at hz; obtain ⟨rfl, rfl⟩ := hz; omega) (fun hz => by rw [M.add_Zs (by rw [Nat.mul_comm]; exact Nat.mul_le_mul_left _ hncm)] at hz; cases hz)
                simpa using this
            split at hk
            · cases hk
              rcases vrel_slice rs with ⟨_, rfl, rfl, hsa⟩ | ⟨y, y', hh, _⟩ | ⟨y, o', c', hh, _⟩
              · obtain ⟨nc, o', hnc, hrun, hor, hv⟩ := hNew (hn rfl) _ _ hsa (by omega)
                exact ⟨_, _, _, .inl hrun, .new _ o' _ _ ⟨rfl, rfl, rfl⟩ rfl hor, hv⟩
              · cases hh
              · cases hh
            · rename_i a
              split at hk
              · rename_i hbare
                cases hk
                rcases vrel_slice rs with ⟨hh, _⟩ | ⟨y, y', _, rfl, rfl, hsa⟩ | ⟨y, o', c', hy, hsp, hV, hnn, hc, ho', hzz, hz', hsa⟩
                · cases hh
                · obtain ⟨nc, o', hnc, hrun, hor, hv⟩ := hNew (hn rfl) _ _ hsa (by omega)
                  exact ⟨_, _, _, .inl hrun, .new _ o' _ _ ⟨rfl, rfl, rfl⟩ rfl hor, hv⟩
                · cases hy; rw [hsp] at hbare; cases hbare
              rename_i hbare
              split at hk
              · rename_i cs wr hbl
                cases hk
                have hfresh : ∀ a' c', ρ s = .slice a' sl c' → ¬ sl + n ≤ c' → Out P μ h.length ρ o w (.slice (some ⟨h.length, 0, none⟩) (sl + n) (sl + n)) (.new (.row (old ++ new) true (some i.size))) := by
                  intro a' c' hsa hgt'
                  obtain ⟨nc, o', hnc, hrun, hor, hv⟩ := hNew (hn rfl) _ _ hsa hgt'
                  exact ⟨_, _, _, .inl hrun, .new _ o' _ _ ⟨rfl, rfl, rfl⟩ rfl hor, hv⟩
                rcases vrel_slice rs with ⟨hh, _⟩ | ⟨y, y', _, rfl, rfl, hsa⟩ | ⟨y, o', c', hy, hsp, hV, hnn, hc, ho', hzz, hz', hsa⟩
                · cases hh
                · exact hfresh _ _ hsa (by omega)
                · cases hy
                  obtain ⟨o2, _, hor⟩ := hrd a.block (by simp [rds, h1, blkOf]) hV _ hbl
                  obtain ⟨c2, T2, fz, _, _, _, hzr⟩ := hor
                  have := (hz' hzr).1
                  exact hfresh _ _ hsa (by omega)
              · rename_i cs zz hbl
                split at hk
                · rename_i hzz0
                  obtain ⟨hzz0, hcell⟩ := hzz0
                  cases hk
                  subst hzz0
                  have hVa : μ.V a.block := (vrel_dd rs (by simpa using hbare)).resolve_right (fun hh => hd _ _ _ (hh ▸ hbl))
                  have hfresh : ∀ a' c', ρ s = .slice a' sl c' → ¬ sl + n ≤ c' → Out P μ h.length ρ o w (.slice (some ⟨h.length, 0, none⟩) (sl + n) (sl + n)) (.kill a.block (.row (old ++ new) true (some i.size))) := by
                    intro a' c' hsa hgt'
                    obtain ⟨nc, o', hnc, hrun, hor, hv⟩ := hNew (hn rfl) _ _ hsa hgt'
                    exact ⟨_, _, _, .inl hrun, .killN _ _ o' _ _ hVa ⟨rfl, rfl, rfl⟩ rfl hor, hv⟩
                  rcases vrel_slice rs with ⟨hh, _⟩ | ⟨y, y', _, rfl, rfl, hsa⟩ | ⟨y, o', c', hy, hsp, hV, hnn, hc, ho', hzz, hz', hsa⟩
                  · cases hh
                  · exact hfresh _ _ hsa (by omega)
                  · cases hy
                    by_cases hin : sl + n ≤ c'
                    · obtain ⟨b, off, sp⟩ := a
                      simp only at hsp hV ho' hzz hz' hsa hbl hold; subst hsp
                      obtain ⟨o2, ho2, hor⟩ := hrd b (by simp [rds, h1, blkOf]) hV _ hbl
                      obtain ⟨c2, T2, fz, rfl, hfz, hcs, hzr⟩ := hor
                      obtain rfl := hfz rfl
                      have hroom2 := hzz i.size c2.size (by simpa using hzr)
                      have hone : ∀ v ∈ l', v.oneCell' = true := by
                        intro v hv
                        obtain ⟨q, hq⟩ := List.mem_iff_getElem?.1 hv
                        have hql : q < new.length := by rw [hl.1]; exact (List.getElem?_eq_some_iff.1 hq).1
                        exact vrel_isCell (hl.2 q new[q] v (List.getElem?_eq_getElem hql) hq) (List.all_eq_true.1 hcell _ (List.getElem_mem hql))
                      have hmul : (sl + n) * i.size ≤ c' * i.size := Nat.mul_le_mul_right _ hin
                      have hsum : (sl + n) * i.size = sl * i.size + n * i.size := Nat.add_mul _ _ _
                      have hrun := run_storeCells_at (P := P) (μ.f b).1 (o' + sl * i.size) T2 l' 0 c2 w ho2 (by omega) hone
                      refine ⟨.slice (some ⟨(μ.f b).1, o', none⟩) (sl + n) c', w.setRow (μ.f b).1 (c2.toList.take (o' + sl * i.size + 0) ++ l' ++ c2.toList.drop (o' + sl * i.size + 0 + l'.length)).toArray, _, .inl ?_, .killI b _ (.cells (c2.toList.take (o' + sl * i.size + 0) ++ l' ++ c2.toList.drop (o' + sl * i.size + 0 + l'.length)).toArray T2 (0, 0)) o' (some (i.size, c2.size)) _ hV ⟨rfl, rfl, rfl⟩ (setRow_set ho2) ?_, ?_⟩
                      · rw [hexec _ _ hsa, run_app_in hu hi huu hf hin (by dsimp only; rw [add_pl]; exact hrun)]; rfl
                      · have hasz : ((c2.toList.take (o' + sl * i.size + 0) ++ l' ++ c2.toList.drop (o' + sl * i.size + 0 + l'.length)).toArray).size = c2.size := by
                          simp only [List.size_toArray, List.length_append, List.length_take, List.length_drop, Array.length_toList]; omega
                        refine ⟨_, T2, (0, 0), rfl, fun _ => rfl, fun j v hj => ?_, by rw [hasz]; exact M.add_Zs (μ.hZ _ _ _ (by simpa using hzr))⟩
                        have hget : ∀ q, ((c2.toList.take (o' + sl * i.size + 0) ++ l' ++ c2.toList.drop (o' + sl * i.size + 0 + l'.length)).toArray)[q]? =
                            if q < o' + sl * i.size then c2[q]? else if q < o' + sl * i.size + l'.length then l'[q - (o' + sl * i.size)]? else c2[q]? := by
                          intro q
                          simp only [Nat.add_zero, List.getElem?_toArray, List.append_assoc, List.getElem?_append, List.length_take, Array.length_toList, List.getElem?_take, List.getElem?_drop, Array.getElem?_toList]
                          have e1 : min (o' + sl * i.size) c2.size = o' + sl * i.size := by omega
                          rw [e1]
                          split
                          · rfl
                          · split
                            · rw [if_pos (by omega)]
                            · rw [if_neg (by omega)]; congr 1; omega
                        simp only [M.add_f]
                        rw [hget]
                        have holen : old.length = sl * i.size := by rw [hlo.1, hlen1]
                        rw [List.getElem?_append] at hj
                        split at hj
                        · rename_i hjo
                          rw [if_pos (by omega)]
                          have hsl0 : sl * i.size ≠ 0 := by omega
                          have hsc0 : sc ≠ 0 := by
                            intro hh
                            have : sl = 0 := by omega
                            subst this; simp at hsl0
                          have hoo := ho' hsc0
                          simp only [firstC, if_neg hsl0, rowGet, hbl] at hold
                          split at hold
                          · cases hold
                            rw [List.getElem?_take] at hj
                            split at hj
                            · rw [List.getElem?_drop] at hj
                              obtain ⟨v', hv', hr⟩ := hcs _ v hj
                              exact ⟨v', by rw [← hv', hoo]; congr 1; omega, hr.mono (M.le_add (hn rfl))⟩
                            · cases hj
                          · cases hold
                        · rename_i hjo
                          rw [if_neg (by omega)]
                          obtain ⟨v', hv', hr⟩ := hl.get hj
                          have hjl : j - old.length < l'.length := (List.getElem?_eq_some_iff.1 hv').1
                          rw [if_pos (by omega)]
                          exact ⟨v', by rw [← hv']; congr 1; omega, hr.mono (M.le_add (hn rfl))⟩
                      · have := VRel.sl (μ := μ.add h.length ((μ.f b).1, o') (some (i.size, c2.size))) h.length 0 (sl + n) (sl + n) o' c' M.add_V (Nat.le_refl _) hin (fun _ => by simp) (fun z S hz => by have hz := M.add_Zi hz; simp at hz; obtain ⟨rfl, rfl⟩ := hz; exact hroom2) (fun hz => by rw [M.add_Zs (μ.hZ _ _ _ (by simpa using hzr))] at hz; cases hz)
                        simpa using this
                    · exact hfresh _ _ hsa hin
                · cases hk
              · cases hk
  · cases hk
end Go.Canon
namespace Go.Canon
set_option linter.unusedVariables false
set_option linter.unusedSimpArgs false
open Go
variable {P : Program} {w : World} {μ : M} {n : Nat} {ρ : Operand → Value} {o : Oper} {fr : Nat → Value} {h : Heap} {v : Value} {e : Eff} {k : KOp}
theorem cellsEq_split : ∀ (k1 k2 : List Nat) (a b : List Value) (r : Bool), cellsEq (k1 ++ k2) a b = some r → ∃ r1 r2, cellsEq k1 a b = some r1 ∧ cellsEq k2 (a.drop k1.length) (b.drop k1.length) = some r2 ∧ r = (r1 && r2)
  | [], k2, a, b, r, h => ⟨true, r, rfl, by simpa using h, by simp⟩
  | k :: k1, k2, a, b, r, h => by
    cases a with
    | nil => simp [cellsEq] at h
    | cons x xs =>
      cases b with
      | nil => simp [cellsEq] at h
      | cons y ys =>
        simp only [List.cons_append, cellsEq] at h
        split at h
        · rename_i p q hp hq
          cases h
          obtain ⟨r1, r2, h1, h2, rfl⟩ := cellsEq_split k1 k2 xs ys q hq
          exact ⟨p && r1, r2, by simp [cellsEq, hp, h1], by simpa using h2, by simp [Bool.and_assoc]⟩
        · cases h
theorem cellsEq_take : ∀ (ks : List Nat) (a b : List Value) (m : Nat), ks.length ≤ m → cellsEq ks (a.take m) (b.take m) = cellsEq ks a b
  | [], a, b, m, _ => rfl
  | k :: ks, a, b, m, hm => by
    cases m with
    | zero => simp at hm
    | succ m =>
      cases a with
      | nil => simp [cellsEq]
      | cons x xs =>
        cases b with
        | nil => simp [cellsEq]
        | cons y ys =>
          simp only [List.take_succ_cons, cellsEq]
          rw [cellsEq_take ks xs ys m (by simpa using hm)]
/-- Two values of a plain type. -/
theorem equalIn_plain : ∀ (n : Nat) (t : TypeId) (ks : List Nat), plainKinds P n t = some ks → ∀ (m : Nat), n ≤ m → ∀ (xs ys : Array Value) (r : Bool),
    (∀ off, cellsEq ks (xs.toList.drop off) (ys.toList.drop off) = some r → tySize P t = some ks.length →
      ∃ x y, (part t xs off).run P w = .ok x w ∧ (part t ys off).run P w = .ok y w ∧ (Op.equalIn m t x y).run P w = .ok r w) ∧
    (tyAgg P t = true → cellsEq ks xs.toList ys.toList = some r → (Op.equalIn m t (.agg xs) (.agg ys)).run P w = .ok r w) := by
  intro n
  induction n with
  | zero => intro t ks h; simp [plainKinds] at h
  | succ n ih =>
    intro t ks hks m hm xs ys r
    obtain ⟨m, rfl⟩ : ∃ q, m = q + 1 := ⟨m - 1, by omega⟩
    -- a scalar
    have scalar : ∀ d kd, P.underlying t = some d → tyAgg P t = false → ks = [kd] → (∀ x y r, cellEq kd x y = some r → (Op.equalIn (m + 1) t x y).run P w = .ok r w) →
        (∀ off, cellsEq ks (xs.toList.drop off) (ys.toList.drop off) = some r → tySize P t = some ks.length →
          ∃ x y, (part t xs off).run P w = .ok x w ∧ (part t ys off).run P w = .ok y w ∧ (Op.equalIn (m + 1) t x y).run P w = .ok r w) ∧
        (tyAgg P t = true → cellsEq ks xs.toList ys.toList = some r → (Op.equalIn (m + 1) t (.agg xs) (.agg ys)).run P w = .ok r w) := by
      intro d kd hd hag hkd heq
      subst hkd
      refine ⟨fun off hc _ => ?_, fun h => by rw [hag] at h; cases h⟩
      cases hx : xs.toList.drop off with
      | nil => rw [hx] at hc; simp [cellsEq] at hc
      | cons x xr =>
        cases hy : ys.toList.drop off with
        | nil => rw [hx, hy] at hc; simp [cellsEq] at hc
        | cons y yr =>
          rw [hx, hy] at hc
          simp only [cellsEq] at hc
          split at hc
          · rename_i p q hp hq
            cases hq; cases hc
            have e1 : xs[off]? = some x := by
              have := congrArg (fun l => l[0]?) hx; simpa using this
            have e2 : ys[off]? = some y := by
              have := congrArg (fun l => l[0]?) hy; simpa using this
            refine ⟨x, y, ?_, ?_, by simpa using heq x y p hp⟩
            · simp only [part, Sem.run_bind, r_isAgg hd, Result.andThen_ok, hag, Bool.false_eq_true, if_false, e1, Sem.run_pure]
            · simp only [part, Sem.run_bind, r_isAgg hd, Result.andThen_ok, hag, Bool.false_eq_true, if_false, e2, Sem.run_pure]
          · cases hc
    -- an aggregate: from the second half
    have aggr : ∀ d, P.underlying t = some d → tyAgg P t = true → (∀ (X Y : Array Value) r, cellsEq ks X.toList Y.toList = some r → (Op.equalIn (m + 1) t (.agg X) (.agg Y)).run P w = .ok r w) →
        (∀ off, cellsEq ks (xs.toList.drop off) (ys.toList.drop off) = some r → tySize P t = some ks.length →
          ∃ x y, (part t xs off).run P w = .ok x w ∧ (part t ys off).run P w = .ok y w ∧ (Op.equalIn (m + 1) t x y).run P w = .ok r w) ∧
        (tyAgg P t = true → cellsEq ks xs.toList ys.toList = some r → (Op.equalIn (m + 1) t (.agg xs) (.agg ys)).run P w = .ok r w) := by
      intro d hd hag heq
      refine ⟨fun off hc hs => ⟨_, _, ?_, ?_, heq (xs.extract off (off + ks.length)) (ys.extract off (off + ks.length)) r ?_⟩, fun _ hc => heq xs ys r hc⟩
      · simp only [part, Sem.run_bind, r_isAgg hd, Result.andThen_ok, hag, if_true, r_sizeOf hs, Sem.run_pure]
      · simp only [part, Sem.run_bind, r_isAgg hd, Result.andThen_ok, hag, if_true, r_sizeOf hs, Sem.run_pure]
      · have e1 : ∀ X : Array Value, (X.extract off (off + ks.length)).toList = (X.toList.drop off).take ks.length := fun X => by
          simp [Array.toList_extract, List.extract_eq_take_drop]
        rw [e1, e1, cellsEq_take _ _ _ _ (Nat.le_refl _)]
        exact hc
    simp only [plainKinds] at hks
    split at hks
    · rename_i hu
      split at hks
      · cases hks
        refine scalar _ 0 hu (by simp [tyAgg, hu]) rfl (fun x y r hc => ?_)
        cases x <;> cases y <;> simp only [cellEq] at hc <;> first | (cases hc; done) | skip
        cases hc
        simp only [Op.equalIn, Sem.run_bind, run_underlying hu, Result.andThen_ok]; rfl
      · cases hks
    · rename_i hu
      split at hks
      · cases hks
        refine scalar _ 1 hu (by simp [tyAgg, hu]) rfl (fun x y r hc => ?_)
        cases x <;> cases y <;> simp only [cellEq] at hc <;> first | (cases hc; done) | skip
        split at hc
        · rename_i hkk; subst hkk; cases hc
          exact run_equalIn_int w m t _ _ _ _ hu
        · cases hc
      · cases hks
    · rename_i hu
      split at hks
      · cases hks
        refine scalar _ 2 hu (by simp [tyAgg, hu]) rfl (fun x y r hc => ?_)
        cases x <;> cases y <;> simp only [cellEq] at hc <;> first | (cases hc; done) | skip
        cases hc
        simp only [Op.equalIn, Sem.run_bind, run_underlying hu, Result.andThen_ok]; rfl
      · cases hks
    · rename_i fs hu
      split at hks
      · cases hks
      · rename_i hst
        refine aggr _ hu (by simp [tyAgg, hu]) (fun X Y r hc => ?_)
        have hfo : P.fieldsOf t = fs := by simp [Program.fieldsOf, hu]
        rw [run_equalIn_struct (P := P) w m t X Y (by rw [hfo]; exact hu) (by simpa using hst), hfo]
        have key : ∀ (fl : List Field) (cur : Nat) (ks : List Nat) (r : Bool), fieldKinds P (plainKinds P n) fl cur = some ks → cellsEq ks (X.toList.drop cur) (Y.toList.drop cur) = some r → (Op.eqFields m X Y fl).run P w = .ok r w := by
          intro fl
          induction fl with
          | nil => intro cur ks r hk hc; simp only [fieldKinds] at hk; cases hk; simp only [cellsEq] at hc; cases hc; simp [Op.eqFields]
          | cons f fl ihf =>
            intro cur ks r hk hc
            simp only [fieldKinds] at hk
            split at hk
            · rename_i hcur
              obtain ⟨hname, rfl⟩ := hcur
              split at hk
              · rename_i k1 hk1
                split at hk
                · rename_i hsz
                  simp only [Option.map_eq_some_iff] at hk
                  obtain ⟨k2, hk2, rfl⟩ := hk
                  obtain ⟨r1, r2, h1, h2, rfl⟩ := cellsEq_split k1 k2 _ _ r hc
                  obtain ⟨x, y, p1, p2, p3⟩ := (ih f.type k1 hk1 m (by omega) X Y r1).1 f.offset h1 hsz
                  have h2' := ihf _ k2 r2 hk2 (by simpa [List.drop_drop] using h2)
                  simp only [Op.eqFields, if_pos hname, Sem.run_bind, p1, p2, p3, Result.andThen_ok]
                  cases r1
                  · simp
                  · simpa using h2'
                · cases hk
              · cases hk
            · cases hk
        exact key fs.toList 0 ks r hks (by simpa using hc)
    · rename_i len el hu
      split at hks
      · rename_i k1 hk1
        split at hks
        · rename_i hsz
          cases hks
          refine aggr _ hu (by simp [tyAgg, hu]) (fun X Y r hc => ?_)
          obtain ⟨i, hi, his⟩ : ∃ i, P.info? el = some i ∧ i.size = k1.length := by
            unfold tySize at hsz
            cases hi : P.info? el with
            | none => rw [hi] at hsz; cases hsz
            | some i => rw [hi] at hsz; simp at hsz; exact ⟨i, rfl, hsz⟩
          have hcells : P.cellsOf el = k1.length := by simp [Program.cellsOf, hi, his]
          rw [run_equalIn_array w m X Y hu hi, hcells]
          have key : ∀ (c s : Nat) (r : Bool), cellsEq (List.replicate c k1).flatten (X.toList.drop (s * k1.length)) (Y.toList.drop (s * k1.length)) = some r → (Op.eqItems m el k1.length X Y (List.range' s c)).run P w = .ok r w := by
            intro c
            induction c with
            | zero => intro s r hc; simp [cellsEq] at hc; subst hc; simp [Op.eqItems]
            | succ c ihc =>
              intro s r hc
              rw [List.replicate_succ, List.flatten_cons] at hc
              obtain ⟨r1, r2, h1, h2, rfl⟩ := cellsEq_split k1 _ _ _ r hc
              obtain ⟨x, y, p1, p2, p3⟩ := (ih el k1 hk1 m (by omega) X Y r1).1 (s * k1.length) h1 hsz
              have h2' := ihc (s + 1) r2 (by rw [List.drop_drop, List.drop_drop] at h2; simpa [Nat.add_mul] using h2)
              rw [List.range'_succ]
              simp only [Op.eqItems, Sem.run_bind, p1, p2, p3, Result.andThen_ok]
              cases r1
              · simp
              · simpa using h2'
          rw [List.range_eq_range']
          exact key len 0 r (by simpa using hc)
        · cases hks
      · cases hks
    · cases hks
end Go.Canon
namespace Go.Canon
set_option linter.unusedVariables false
set_option linter.unusedSimpArgs false
open Go
variable {P : Program} {w : World} {μ : M} {n : Nat} {ρ : Operand → Value} {o : Oper} {fr : Nat → Value} {h : Heap} {v : Value} {e : Eff} {k : KOp}
theorem cellEq_rel {kd : Nat} {x y x' y' : Value} {r : Bool} (hx : VRel μ x x') (hy : VRel μ y y') (hc : cellEq kd x y = some r) : cellEq kd x' y' = some r := by
  unfold cellEq at hc
  split at hc
  · rw [vrel_bool hx, vrel_bool hy]; exact hc
  · rw [vrel_int hx, vrel_int hy]; exact hc
  · rw [vrel_str hx, vrel_str hy]; exact hc
  · cases hc
theorem cellsEq_rel : ∀ (ks : List Nat) {a b a' b' : List Value} {r : Bool}, VRels μ a a' → VRels μ b b' → cellsEq ks a b = some r → cellsEq ks a' b' = some r
  | [], a, b, a', b', r, _, _, h => h
  | k :: ks, a, b, a', b', r, ha, hb, h => by
    cases a with
    | nil => simp [cellsEq] at h
    | cons x xs =>
      cases b with
      | nil => simp [cellsEq] at h
      | cons y ys =>
        cases a' with
        | nil => have := ha.1; simp at this
        | cons x' xs' =>
          cases b' with
          | nil => have := hb.1; simp at this
          | cons y' ys' =>
            simp only [cellsEq] at h ⊢
            split at h
            · rename_i p q hp hq
              rw [cellEq_rel ha.head hb.head hp, cellsEq_rel ks ha.tail hb.tail hq]
              exact h
            · cases h
theorem sim_eqA {op : BinOp} {neg : Bool} {t yt : TypeId} {x y : Operand} {a b : KO} {ks : List Nat} (hop : op = if neg then .neq else .eql) (ho : o.op = .binOp op t x y yt) (hρ : Rho μ o.op fr ρ)
    (hks : plainKinds P 40 t = some ks) (hag : tyAgg P t = true) (hg : P.eqGuardType P.depth t = false) (ha : cO x = some a) (hb : cO y = some b) (hk : kop (.eqA neg ks a b) fr h = some (.val v e)) : Out P μ n ρ o w v e := by
  rw [ho] at hρ
  have ra := hρ x (by simp [Op.operands]) a ha
  have rb := hρ y (by simp [Op.operands]) b hb
  simp only [kop] at hk
  split at hk
  · rename_i p q hp hq
    simp only [Option.map_eq_some_iff] at hk
    obtain ⟨r, hr, hk⟩ := hk
    cases hk
    rw [hp] at ra; rw [hq] at rb
    obtain ⟨p', hρx, hpp⟩ := vrel_agg ra
    obtain ⟨q', hρy, hqq⟩ := vrel_agg rb
    have he : (Op.equal t (.agg p') (.agg q')).run P w = .ok r w := ((equalIn_plain (P := P) (w := w) 40 t ks hks 10000 (by omega) p' q' r).2 hag (cellsEq_rel ks hpp hqq hr))
    obtain ⟨b1, b2⟩ := binOp_eq_run (x := .agg p') (by simp) (by simp) (by simp) (by simp) he
    have hgd : (eqGuard op t x y (.agg p') (.agg q')).run P w = .ok () w := by
      unfold eqGuard
      subst hop
      cases neg <;> simp [hg]
    refine out_pure (v' := .bool (neg != r)) ?_ (.flat _ rfl)
    simp only [execOp, ho, hρx, hρy, Sem.run_bind, hgd, Result.andThen_ok]
    subst hop
    cases neg
    · simp [b1]
    · simp [b2]
  · cases hk
theorem sim_bin {op : BinOp} {t yt : TypeId} {x y : Operand} (ho : o.op = .binOp op t x y yt) (hρ : Rho μ o.op fr ρ) (hc : cOp P o.op = some k) (hk : kop k fr h = some (.val v e)) : Out P μ n ρ o w v e := by
  rw [ho] at hc
  simp only [cOp, cBin] at hc
  split at hc
  · rename_i a b ha hb
    split at hc
    · cases hc; exact sim_scalar ho hρ ha hb hk
    · cases hc; exact sim_scalar ho hρ ha hb hk
    · rename_i hu
      split at hc
      · cases hc; exact sim_eqB (neg := false) rfl ho hρ hu ha hb hk
      · cases hc; exact sim_eqB (neg := true) rfl ho hρ hu ha hb hk
      · cases hc
    · rename_i fs hu
      split at hc
      · rename_i ks hks hg
        split at hc
        · cases hc; exact sim_eqA (neg := false) rfl ho hρ hks (by simp [tyAgg, hu]) hg ha hb hk
        · cases hc; exact sim_eqA (neg := true) rfl ho hρ hks (by simp [tyAgg, hu]) hg ha hb hk
        · cases hc
      · cases hc
    · rename_i len el hu
      split at hc
      · rename_i ks hks hg
        split at hc
        · cases hc; exact sim_eqA (neg := false) rfl ho hρ hks (by simp [tyAgg, hu]) hg ha hb hk
        · cases hc; exact sim_eqA (neg := true) rfl ho hρ hks (by simp [tyAgg, hu]) hg ha hb hk
        · cases hc
      · cases hc
    · rename_i d _ _ _ _ _ hu
      split at hc
      · rename_i kd hkd
        split at hc
        · exact sim_nil (neg := false) rfl ho hρ hu hkd ha hb hc hk
        · exact sim_nil (neg := true) rfl ho hρ hu hkd ha hb hc hk
        · cases hc
      · cases hc
    · cases hc
  · cases hc
theorem sim_nilc {x : Operand} (ho : o.op = .nilCheck x) (hρ : Rho μ o.op fr ρ) (hc : cOp P o.op = some k) (hk : kop k fr h = some (.val v e)) : Out P μ n ρ o w v e := by
  rw [ho] at hc hρ
  simp only [cOp, Option.map_eq_some_iff] at hc
  obtain ⟨kx, hcx, rfl⟩ := hc
  have r := hρ x (by simp [Op.operands]) kx hcx
  simp only [kop] at hk
  split at hk
  · rename_i a ha
    cases hk
    rw [ha] at r
    obtain ⟨_, _, hρx⟩ := vrel_ptr r
    refine out_pure (v' := ρ x) ?_ r
    simp only [execOp, ho, hρx]; rfl
  · rename_i g p q ha
    cases hk
    rw [ha] at r
    have hz : ∃ p' q', ρ x = .func (.func g) p' q' := by
      generalize ρ x = z at r
      cases r with
      | flat => exact ⟨_, _, rfl⟩
      | fn => exact ⟨_, _, rfl⟩
    obtain ⟨p', q', hρx⟩ := hz
    refine out_pure (v' := ρ x) ?_ r
    simp only [execOp, ho, hρx]; rfl
  · rename_i g p q ha
    cases hk
    rw [ha] at r
    have hz : ∃ g' p' q', ρ x = .func (.yield g') p' q' := by
      generalize ρ x = z at r
      cases r with
      | flat _ hf => simp [flat0] at hf
      | yl => exact ⟨_, _, _, rfl⟩
    obtain ⟨g', p', q', hρx⟩ := hz
    refine out_pure (v' := ρ x) ?_ r
    simp only [execOp, ho, hρx]; rfl
  · cases hk
theorem sim_len {x : Operand} {t el : TypeId} {kx : KO} (ho : o.op = .call { callee := .builtin .len, args := #[x], argTypes := #[t] }) (hρ : Rho μ o.op fr ρ) (hu : P.underlying t = some (.slice el)) (hcx : cO x = some kx) (hk : kop (.len kx) fr h = some (.val v e)) : Out P μ n ρ o w v e := by
  rw [ho] at hρ
  have r := hρ x (by simp [Op.operands, Call.operands]) kx hcx
  simp only [kop] at hk
  split at hk
  · rename_i a m c ha
    cases hk
    rw [ha] at r
    have hs : ∃ a' c', ρ x = .slice a' m c' := by
      rcases vrel_slice r with ⟨_, rfl, _, hh⟩ | ⟨y, y', _, rfl, _, hh⟩ | ⟨y, o', c', _, _, _, _, _, _, _, _, hh⟩ <;> exact ⟨_, _, hh⟩
    obtain ⟨a', c', hρx⟩ := hs
    refine out_pure (v' := .int .i64 m) ?_ (.flat _ rfl)
    simp [execOp, ho, resolve, invoke, builtin, Builtin.len_, hρx, run_underlying hu, goInt]
  · cases hk
theorem sim_lenS {x : Operand} {t : TypeId} {kx : KO} (ho : o.op = .call { callee := .builtin .len, args := #[x], argTypes := #[t] }) (hρ : Rho μ o.op fr ρ) (hu : P.underlying t = some .string) (hcx : cO x = some kx) (hk : kop (.lenS kx) fr h = some (.val v e)) : Out P μ n ρ o w v e := by
  rw [ho] at hρ
  have r := hρ x (by simp [Op.operands, Call.operands]) kx hcx
  simp only [kop] at hk
  split at hk
  · rename_i s ha
    cases hk
    rw [ha] at r
    refine out_pure (v' := .int .i64 s.size) ?_ (.flat _ rfl)
    simp [execOp, ho, resolve, invoke, builtin, Builtin.len_, vrel_str r, run_underlying hu, goInt]
  · cases hk
theorem sim_lenA {x : Operand} {t : TypeId} {m : Nat} {el : TypeId} (ho : o.op = .call { callee := .builtin .len, args := #[x], argTypes := #[t] }) (hu : P.underlying t = some (.array m el) ∨ ∃ r, P.underlying t = some (.pointer r) ∧ P.underlying r = some (.array m el)) (hk : kop (.mv (.c (.int .i64 m))) fr h = some (.val v e)) : Out P μ n ρ o w v e := by
  simp only [kop, KO.ev] at hk
  cases hk
  refine out_pure (v' := .int .i64 m) ?_ (.flat _ rfl)
  rcases hu with hu | ⟨r, hu, hr⟩
  · simp [execOp, ho, resolve, invoke, builtin, Builtin.len_, run_underlying hu, goInt]
  · simp [execOp, ho, resolve, invoke, builtin, Builtin.len_, run_underlying hu, run_underlying hr, goInt]
theorem ints_rel : ∀ {l l' : List Value} {is : List Int}, ints l = some is → VRels μ l l' → l' = is.map (Value.int .i64) ∧ l = is.map (Value.int .i64)
  | [], l', is, hi, hl => by
    have : l' = [] := List.length_eq_zero_iff.1 hl.1.symm
    subst this
    simp [ints] at hi; subst hi; exact ⟨rfl, rfl⟩
  | x :: l, l', is, hi, hl => by
    cases l' with
    | nil => have := hl.1; simp at this
    | cons x' l' =>
      unfold ints at hi
      rw [List.mapM_cons] at hi
      cases hx : asI64 x with
      | none => rw [hx] at hi; cases hi
      | some n =>
        rw [hx] at hi
        cases hr : ints l with
        | none => unfold ints at hr; rw [hr] at hi; cases hi
        | some is' =>
          have hr2 := hr
          unfold ints at hr
          rw [hr] at hi
          cases hi
          obtain ⟨e1, e2⟩ := ints_rel hr2 hl.tail
          have hxx : x = .int .i64 n := by
            unfold asI64 at hx
            split at hx
            · cases hx; rfl
            · cases hx
          subst hxx
          have := vrel_int hl.head
          subst this
          exact ⟨by rw [e1]; rfl, by rw [e2]; rfl⟩
theorem run_max_fold : ∀ (l : List Int) (a : Int), ((l.map (Value.int .i64)).foldlM Builtin.max2 (.int .i64 a)).run P w = .ok (.int .i64 (l.foldl (fun a y => if y > a then y else a) a)) w
  | [], a => rfl
  | y :: l, a => by
    simp only [List.map_cons, List.foldlM_cons, Sem.run_bind, Builtin.max2, Sem.run_pure, Result.andThen_ok, List.foldl_cons]
    exact run_max_fold l _
theorem run_min_fold : ∀ (l : List Int) (a : Int), ((l.map (Value.int .i64)).foldlM Builtin.min2 (.int .i64 a)).run P w = .ok (.int .i64 (l.foldl (fun a y => if y < a then y else a) a)) w
  | [], a => rfl
  | y :: l, a => by
    simp only [List.map_cons, List.foldlM_cons, Sem.run_bind, Builtin.min2, Sem.run_pure, Result.andThen_ok, List.foldl_cons]
    exact run_min_fold l _
theorem sim_mx {args : Array Operand} {ts : Array TypeId} {kl : List KO} (ho : o.op = .call { callee := .builtin .max, args, argTypes := ts }) (hρ : Rho μ o.op fr ρ) (hcl : cOs args.toList = some kl) (hk : kop (.mx kl) fr h = some (.val v e)) : Out P μ n ρ o w v e := by
  rw [ho] at hρ
  have r := vrels_ops (μ := μ) (fr := fr) (ρ := ρ) hcl (fun x hx kx e => hρ x (by simp only [Op.operands, Call.operands]; simpa using hx) kx e)
  simp only [kop, Option.map_eq_some_iff, Option.bind_eq_some_iff] at hk
  obtain ⟨m, ⟨is, hi, hm⟩, hk⟩ := hk
  cases hk
  obtain ⟨e1, _⟩ := ints_rel hi r
  cases is with
  | nil => simp [most] at hm
  | cons a is =>
    simp only [most] at hm
    cases hm
    refine out_pure (v' := .int .i64 _) ?_ (.flat _ rfl)
    have hal : (args.map ρ).toList = Value.int .i64 a :: is.map (Value.int .i64) := by rw [Array.toList_map, e1]; rfl
    simp only [execOp, ho, resolve, invoke, builtin, Builtin.max_, Sem.run_bind, Sem.run_pure, Result.andThen_ok, hal, run_max_fold]
theorem sim_mn {args : Array Operand} {ts : Array TypeId} {kl : List KO} (ho : o.op = .call { callee := .builtin .min, args, argTypes := ts }) (hρ : Rho μ o.op fr ρ) (hcl : cOs args.toList = some kl) (hk : kop (.mn kl) fr h = some (.val v e)) : Out P μ n ρ o w v e := by
  rw [ho] at hρ
  have r := vrels_ops (μ := μ) (fr := fr) (ρ := ρ) hcl (fun x hx kx e => hρ x (by simp only [Op.operands, Call.operands]; simpa using hx) kx e)
  simp only [kop, Option.map_eq_some_iff, Option.bind_eq_some_iff] at hk
  obtain ⟨m, ⟨is, hi, hm⟩, hk⟩ := hk
  cases hk
  obtain ⟨e1, _⟩ := ints_rel hi r
  cases is with
  | nil => simp [least] at hm
  | cons a is =>
    simp only [least] at hm
    cases hm
    refine out_pure (v' := .int .i64 _) ?_ (.flat _ rfl)
    have hal : (args.map ρ).toList = Value.int .i64 a :: is.map (Value.int .i64) := by rw [Array.toList_map, e1]; rfl
    simp only [execOp, ho, resolve, invoke, builtin, Builtin.min_, Sem.run_bind, Sem.run_pure, Result.andThen_ok, hal, run_min_fold]
end Go.Canon
namespace Go.Canon
set_option linter.unusedVariables false
set_option linter.unusedSimpArgs false
open Go
variable {P : Program} {w : World} {μ : M}
/-- A key of a plain type can be told apart. -/
theorem checkKey_kinds {em : Bool} : ∀ (n : Nat) (t : TypeId) (ks : List Nat), plainKinds P n t = some ks → ∀ (m : Nat), n ≤ m → ∀ (xs : Array Value),
    (∀ off, off + ks.length ≤ xs.size → tySize P t = some ks.length → ∃ x, (part t xs off).run P w = .ok x w ∧ (Instr.checkKey em m t x).run P w = .ok () w) ∧
    (tyAgg P t = true → ks.length ≤ xs.size → (Instr.checkKey em m t (.agg xs)).run P w = .ok () w) := by
  intro n
  induction n with
  | zero => intro t ks h; simp [plainKinds] at h
  | succ n ih =>
    intro t ks hks m hm xs
    obtain ⟨m, rfl⟩ : ∃ q, m = q + 1 := ⟨m - 1, by omega⟩
    have scalar : ∀ d kd, P.underlying t = some d → tyAgg P t = false → ks = [kd] → (∀ x, (Instr.checkKey em (m + 1) t x).run P w = .ok () w) →
        (∀ off, off + ks.length ≤ xs.size → tySize P t = some ks.length → ∃ x, (part t xs off).run P w = .ok x w ∧ (Instr.checkKey em (m + 1) t x).run P w = .ok () w) ∧
        (tyAgg P t = true → ks.length ≤ xs.size → (Instr.checkKey em (m + 1) t (.agg xs)).run P w = .ok () w) := by
      intro d kd hd hag hkd heq
      subst hkd
      refine ⟨fun off hc _ => ⟨xs[off]'(by simp at hc; omega), ?_, heq _⟩, fun h => by rw [hag] at h; cases h⟩
      have e1 : xs[off]? = some (xs[off]'(by simp at hc; omega)) := Array.getElem?_eq_getElem (by simp at hc; omega)
      simp only [part, Sem.run_bind, r_isAgg hd, Result.andThen_ok, hag, Bool.false_eq_true, if_false, e1, Sem.run_pure]
    have aggr : ∀ d, P.underlying t = some d → tyAgg P t = true → (∀ (X : Array Value), ks.length ≤ X.size → (Instr.checkKey em (m + 1) t (.agg X)).run P w = .ok () w) →
        (∀ off, off + ks.length ≤ xs.size → tySize P t = some ks.length → ∃ x, (part t xs off).run P w = .ok x w ∧ (Instr.checkKey em (m + 1) t x).run P w = .ok () w) ∧
        (tyAgg P t = true → ks.length ≤ xs.size → (Instr.checkKey em (m + 1) t (.agg xs)).run P w = .ok () w) := by
      intro d hd hag heq
      refine ⟨fun off hc hs => ⟨.agg (xs.extract off (off + ks.length)), ?_, heq _ (by simp; omega)⟩, fun _ hc => heq xs hc⟩
      simp only [part, Sem.run_bind, r_isAgg hd, Result.andThen_ok, hag, if_true, r_sizeOf hs, Sem.run_pure]
    simp only [plainKinds] at hks
    split at hks
    · rename_i hu
      split at hks
      · cases hks
        exact scalar _ 0 hu (by simp [tyAgg, hu]) rfl (fun x => by simp only [Instr.checkKey, Sem.run_bind, run_underlying hu, Result.andThen_ok]; rfl)
      · cases hks
    · rename_i hu
      split at hks
      · cases hks
        exact scalar _ 1 hu (by simp [tyAgg, hu]) rfl (fun x => by simp only [Instr.checkKey, Sem.run_bind, run_underlying hu, Result.andThen_ok]; rfl)
      · cases hks
    · rename_i hu
      split at hks
      · cases hks
        exact scalar _ 2 hu (by simp [tyAgg, hu]) rfl (fun x => by simp only [Instr.checkKey, Sem.run_bind, run_underlying hu, Result.andThen_ok]; rfl)
      · cases hks
    · rename_i fs hu
      split at hks
      · cases hks
      · refine aggr _ hu (by simp [tyAgg, hu]) (fun X hX => ?_)
        rw [Instr.checkKey]
        simp only [Sem.run_bind, run_underlying hu, Result.andThen_ok]
        rw [← Array.forIn_toList]
        have key : ∀ (fl : List Field) (cur : Nat) (ks : List Nat), fieldKinds P (plainKinds P n) fl cur = some ks → cur + ks.length ≤ X.size → ∀ f ∈ fl, f.name ≠ "_" ∧ ∃ x, (part f.type X f.offset).run P w = .ok x w ∧ (Instr.checkKey em m f.type x).run P w = .ok () w := by
          intro fl
          induction fl with
          | nil => intro cur ks hk hc f hf; simp at hf
          | cons f fl ihf =>
            intro cur ks hk hc
            simp only [fieldKinds] at hk
            split at hk
            · rename_i hcur
              obtain ⟨hname, rfl⟩ := hcur
              split at hk
              · rename_i k1 hk1
                split at hk
                · rename_i hsz
                  simp only [Option.map_eq_some_iff] at hk
                  obtain ⟨k2, hk2, rfl⟩ := hk
                  simp only [List.length_append] at hc
                  intro g hg
                  rcases List.mem_cons.1 hg with rfl | hg
                  · exact ⟨hname, (ih g.type k1 hk1 m (by omega) X).1 g.offset (by omega) hsz⟩
                  · exact ihf _ k2 hk2 (by omega) g hg
                · cases hk
              · cases hk
            · cases hk
        have each := key fs.toList 0 ks hks (by omega)
        clear key hks
        generalize fs.toList = L at each
        induction L with
        | nil => simp
        | cons f L ihL =>
          obtain ⟨hn, x, p1, p2⟩ := each f (by simp)
          simp only [List.forIn_cons, Sem.run_bind, hn, ne_eq, not_false_eq_true, if_true, Result.andThen_ok, p1, p2, Sem.run_pure]
          exact ihL (fun y hy => each y (by simp [hy]))
    · rename_i len el hu
      split at hks
      · rename_i k1 hk1
        split at hks
        · rename_i hsz
          cases hks
          refine aggr _ hu (by simp [tyAgg, hu]) (fun X hX => ?_)
          have hX : len * k1.length ≤ X.size := by simpa [List.length_flatten] using hX
          rw [Instr.checkKey]
          simp only [Sem.run_bind, run_underlying hu, Result.andThen_ok]
          simp only [Std.Legacy.Range.forIn_eq_forIn_range', Std.Legacy.Range.size, Nat.sub_zero, Nat.add_one_sub_one, Nat.div_one]
          have each : ∀ i ∈ List.range' 0 len, ∃ x, (part el X (i * k1.length)).run P w = .ok x w ∧ (Instr.checkKey em m el x).run P w = .ok () w := fun i hi => by
            have hi : i < len := by simpa using hi
            exact (ih el k1 hk1 m (by omega) X).1 (i * k1.length) (by have := Nat.mul_le_mul_right k1.length (show i + 1 ≤ len by omega); rw [Nat.add_mul, Nat.one_mul] at this; omega) hsz
          generalize List.range' 0 len = is at each
          induction is with
          | nil => simp
          | cons j is ihL =>
            obtain ⟨x, p1, p2⟩ := each j (by simp)
            simp only [List.forIn_cons, Sem.run_bind, r_sizeOf hsz, Result.andThen_ok, p1, p2, Sem.run_pure]
            exact ihL (fun y hy => each y (by simp [hy]))
        · cases hks
      · cases hks
    · cases hks
end Go.Canon
