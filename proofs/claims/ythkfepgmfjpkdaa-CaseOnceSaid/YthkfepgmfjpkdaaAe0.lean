/- An evaluator of the program's code over plain data, and its soundness (part 0). No condition. -/
import GoSem.Step
import Derived.Orders
import Derived.Calls
import Derived.Laws.World
import Derived.RowKit3
import Derived.Below
import Derived.Laws.IdiomCopy
import Derived.Laws.Cells
import Derived.Laws.Entries
set_option linter.all false

section
namespace Go.AE
open Go

/-- immutable data: scalars, slices as rows of cells, pointers into such rows, structs as cells, functions, tuples -/
inductive P where
  | sc (v : Value)
  | sl (w : Nat) (rows : List (List P))
  | ep (w : Nat) (rows : List (List P)) (i off : Nat)
  | agg (ps : List P)
  | fn (f : FuncId) (caps : List P)
  | ifc (t : TypeId) (p : P)
  | tup (ps : List P)
  deriving Inhabited

/-- what a frame holds -/
inductive D where
  | p (x : P)
  | own (w : Nat) (rows : List (List P))
  | lp (s off : Nat)
  | ref (id off : Nat)
  | ms (w id lo n : Nat)
  | mp (id : Nat)
  | agg (ds : List D)
  | fn (f : FuncId) (caps : List D)
  | tup (ds : List D)
  | dead
  deriving Inhabited

inductive Box where
  | none
  | live (ds : List D)
  | sealed (ps : List P)
  deriving Inhabited

inductive Blk where
  | cells (ds : List D)
  | froz (ps : List P)
  | map (es : List (P × D × Nat)) (clock : Nat)
  | dead
  deriving Inhabited

structure St where
  r : List D
  b : List Box
  h : List Blk
  df : List (FuncId × List D) := []
  deriving Inhabited

inductive Res where
  | ret (d : D)
  | pan (p : P)

inductive Ex where
  | normal
  | exit (id : Nat)
  | ret
  | pan (p : P)

def setL {α : Type} : List α → Nat → α → List α
  | [], _, _ => []
  | _ :: xs, 0, a => a :: xs
  | x :: xs, n + 1, a => x :: setL xs n a
def getL {α : Type} : List α → Nat → Option α
  | [], _ => none
  | x :: _, 0 => some x
  | _ :: xs, n + 1 => getL xs n
def setN {α : Type} : List α → Nat → List α → List α
  | l, _, [] => l
  | l, off, x :: xs => setN (setL l off x) (off + 1) xs

/-- a value without addresses, of one cell -/
def plain : Value → Bool
  | .bool _ | .int .. | .float .. | .string _ | .nilFunc | .nilIface => true
  | .pointer none | .map none | .slice none 0 0 => true
  | .func (.func _) first caps => first.isEmpty && caps.isEmpty
  | .iface _ v => plain v
  | _ => false

def ofVal : Value → P
  | .agg cs => .agg (cs.toList.map .sc)
  | .tuple vs => .tup (vs.toList.map fun | .agg cs => .agg (cs.toList.map .sc) | v => .sc v)
  | v => .sc v
def plainAll (vs : List Value) : Bool := vs.all plain
def plainV : Value → Bool
  | .agg cs => plainAll cs.toList
  | .tuple vs => vs.toList.all fun | .agg cs => plainAll cs.toList | v => plain v
  | v => plain v

def scs : List P → Option (List Value)
  | [] => some []
  | .sc v :: r => (scs r).map (v :: ·)
  | _ :: _ => none
def P.val : P → Option Value
  | .sc v => some v
  | .agg ps => (scs ps).map fun vs => .agg vs.toArray
  | _ => none
def P.cells : P → List P
  | .agg ps => ps
  | x => [x]

mutual
def D.toP : D → Option P
  | .p x => some x
  | .own w rows => some (.sl w rows)
  | .agg ds => (toPs ds).map .agg
  | .fn f caps => (toPs caps).map (.fn f)
  | .tup ds => (toPs ds).map .tup
  | _ => none
def toPs : List D → Option (List P)
  | [] => some []
  | d :: r => match d.toP with
    | some x => (toPs r).map (x :: ·)
    | none => none
end
def D.val (d : D) : Option Value := d.toP.bind P.val
def D.cells : D → List D
  | .p (.agg ps) => ps.map .p
  | .agg ds => ds
  | x => [x]

/-- data of one cell -/
def cellP : P → Bool
  | .agg _ | .tup _ => false
  | _ => true
def cellD : D → Bool
  | .p x => cellP x
  | .agg _ | .tup _ | .dead => false
  | _ => true
/-- what may be laid into memory -/
def okCells : D → Bool
  | .p (.agg ps) => ps.all cellP
  | .agg ds => ds.all cellD
  | d => cellD d

mutual
/-- no pointer to a frame's own boxes -/
def okArg : D → Bool
  | .lp _ _ => false
  | .agg ds | .fn _ ds | .tup ds => okArgs ds
  | _ => true
def okArgs : List D → Bool
  | [] => true
  | d :: ds => okArg d && okArgs ds
end

mutual
def mentions (s : Nat) : D → Bool
  | .lp s' _ => s == s'
  | .agg ds | .fn _ ds | .tup ds => mentionsAny s ds
  | _ => false
def mentionsAny (s : Nat) : List D → Bool
  | [] => false
  | d :: ds => mentions s d || mentionsAny s ds
end
def boxed (st : St) (s : Nat) : Bool := match getL st.b s with | some (.live _) | some (.sealed _) => true | _ => false
/-- a new box in a register's name: whatever pointed to the old one is forgotten -/
def newBox (st : St) (d : Nat) (ds : List D) : St :=
  { st with r := if boxed st d then st.r.map (fun x => if mentions d x then .dead else x) else st.r, b := setL st.b d (.live ds) }
def newBlk (st : St) (ds : List D) : St := { st with h := st.h ++ [.cells ds] }

/-- a copy: it does not hold the tail -/
def down1 : D → D
  | .own w rows => .p (.sl w rows)
  | d => d
def downD : D → D
  | .own w rows => .p (.sl w rows)
  | .agg ds => .agg (ds.map down1)
  | .tup ds => .tup (ds.map down1)
  | d => d

def pureRun {α : Type} (T : Program) : Sem α → Option α
  | .pure a => some a
  | .program k => pureRun T (k T)
  | .mark _ k => pureRun T k
  | _ => none

/-- what an evaluation comes to: a truth, or a computed answer -/
structure Ans (R : Type) where
  fail : R
  br : Bool → R → R → R
  req : (c : Prop) → [Decidable c] → R → R
  row : List (List P) → Nat → (List P → R) → R
  loop : (St → (Ex → St → R) → R) → St → (Ex → St → R) → R
  call : FuncId → List D → List Blk → (Res → List Blk → R) → R
  calln : FuncId → List D → List Blk → (Res → List Blk → R) → R
  dfr : List (FuncId × List D) → Ex → List Blk → (Ex → List Blk → R) → R

section
variable (T : Program) {R : Type} (A : Ans R)

def isAggT (t : TypeId) : Bool := match T.underlying t with | some (.struct _) | some (.array _ _) => true | _ => false
def infoT (t : TypeId) : Option TypeInfo := T.info? t
def sizeT (t : TypeId) : Nat := match T.info? t with | some i => i.size | none => 0
def notTup : Value → Bool
  | .tuple _ => false
  | _ => true
def zeroT (t : TypeId) : Option P := match (T.info? t).bind (·.zero) with
  | some v => if plainV v && notTup v then some (ofVal v) else none
  | none => none
def elemT (t : TypeId) : Option TypeId := match T.underlying t with | some (.slice e) => if (T.info? e).isSome then some e else none | _ => none
def fieldT (t : TypeId) (f : Nat) : Option (Nat × TypeId) := match T.underlying t with
  | some (.struct fs) => match fs[f]? with
    | some x => if (T.underlying x.type).isSome then some (x.offset, x.type) else none
    | none => none
  | _ => none

def opdD (r : List D) : Operand → D
  | .tmp t => (getL r t).getD .dead
  | .const v => if plainV v then .p (ofVal v) else .dead
  | .func f => .fn f []
  | .global _ => .dead

def valsOf (r : List D) : List Operand → Option (List Value)
  | [] => some []
  | x :: xs => match (opdD r x).val with
    | some v => (valsOf r xs).map (v :: ·)
    | none => none

/-- a valuation for the operands of an operation that are all scalars -/
def valOf (r : List D) (x : Operand) : Value := ((opdD r x).val).getD undef

def scalarOp (r : List D) (o : Oper) : Option D :=
  match valsOf r o.op.operands.toList with
  | some _ => match pureRun T (execOp (valOf r) o) with
    | some (.value v) => if plainV v then some (.p (ofVal v)) else none
    | _ => none
  | none => none

/-- the builtins that take scalars -/
def builtinS (b : Builtin) (argTypes : Array TypeId) (type : TypeId) (vs : List Value) : Sem Value :=
  match b with
  | .len => Builtin.len_ argTypes type vs.toArray
  | .min => Builtin.min_ argTypes type vs.toArray
  | .max => Builtin.max_ argTypes type vs.toArray
  | _ => stuck ""

def CD (k : D → R) : Option D → R
  | some d => k d
  | none => A.fail

/-- how many rows has a slice? -/
def lenOf : D → Option Nat
  | .p (.sl _ rows) => some rows.length
  | .own _ rows => some rows.length
  | .ms _ _ _ n => some n
  | _ => none
def slOf : D → Option (Nat × List (List P))
  | .p (.sl w rows) => some (w, rows)
  | .own w rows => some (w, rows)
  | _ => none
def isNilSl : D → Bool
  | .p (.sc (.slice none 0 0)) => true
  | _ => false
def intOf? : D → Option Int
  | .p (.sc (.int _ n)) => some n
  | _ => none

def bytesOf : List (List P) → Option (List UInt8)
  | [] => some []
  | [.sc (.int .u8 n)] :: r => (bytesOf r).map (UInt8.ofNat n.toNat :: ·)
  | _ => none
def rowsOfBytes (l : List UInt8) : List (List P) := l.map fun b => [.sc (.int .u8 b.toNat)]

def fillD (place : Nat → Option (Nat × Nat)) : List D → List (Nat × D) → Option (List D)
  | z, [] => some z
  | z, (i, d) :: r => match place i with
    | some (o, n) => if okCells d = true ∧ d.cells.length = n ∧ o + n ≤ z.length then fillD place (setN z o d.cells) r else none
    | none => none
def chunk (w : Nat) : Nat → List P → List (List P)
  | 0, _ => []
  | n + 1, l => l.take w :: chunk w n (l.drop w)

/-- operations over structured operands that touch no memory -/
def structOp (r : List D) (o : Oper) : Option D :=
  match o.op with
  | .fieldAddr s x f => match fieldT T s f, opdD r x with
    | some (off, t), .lp s o => if sizeT T t = 0 then none else some (.lp s (o + off))
    | some (off, t), .ref s o => if sizeT T t = 0 then none else some (.ref s (o + off))
    | some (off, t), .p (.ep w rows i o) => if sizeT T t = 0 then none else some (.p (.ep w rows i (o + off)))
    | _, _ => none
  | .field s x f => match fieldT T s f, downD (opdD r x) with
    | some (off, t), .agg ds => if isAggT T t then (if off + sizeT T t ≤ ds.length then some (.agg ((ds.drop off).take (sizeT T t))) else none) else getL ds off
    | some (off, t), .p (.agg ps) => if isAggT T t then (if off + sizeT T t ≤ ps.length then some (.p (.agg ((ps.drop off).take (sizeT T t)))) else none) else (getL ps off).map .p
    | _, _ => none
  | .build t parts => match T.underlying t, zeroT T t with
    | some (.struct fs), some z => if fs.toList.all (fun f => (T.info? f.type).isSome) then
        (fillD (fun i => (fs[i]?).map fun f => (f.offset, sizeT T f.type)) (z.cells.map .p) (parts.toList.map fun (i, x) => (i, downD (opdD r x)))).map .agg else none
    | _, _ => none
  | .extract x i => match downD (opdD r x) with
    | .tup ds => getL ds i
    | .p (.tup ps) => (getL ps i).map .p
    | _ => none
  | .nilCheck x => match opdD r x with
    | .lp s o => some (.lp s o)
    | .ref s o => some (.ref s o)
    | .p (.ep w rows i o) => some (.p (.ep w rows i o))
    | _ => none
  | .binOp .eql t x y _ => match elemT T t, lenOf (opdD r x), isNilSl (opdD r y) with
    | some _, some _, true => some (.p (.sc (.bool false)))
    | _, _, _ => none
  | .binOp .neq t x y _ => match elemT T t, lenOf (opdD r x), isNilSl (opdD r y) with
    | some _, some _, true => some (.p (.sc (.bool true)))
    | _, _, _ => none
  | .call { callee := .builtin .len, args, argTypes } => match (args[0]? : Option Operand), (argTypes[0]? : Option TypeId) with
    | some x, some t => match elemT T t, lenOf (opdD r x) with
      | some _, some n => some (.p (.sc (.int .i64 n)))
      | _, _ => none
    | _, _ => none
  | _ => none

def loadD (st : St) (t : TypeId) : D → Option D
  | .lp s off => match getL st.b s with
    | some (.live ds) => if isAggT T t then (if off + sizeT T t ≤ ds.length then some (downD (.agg ((ds.drop off).take (sizeT T t)))) else none) else (getL ds off).map downD
    | some (.sealed ps) => if isAggT T t then (if off + sizeT T t ≤ ps.length then some (.p (.agg ((ps.drop off).take (sizeT T t)))) else none) else (getL ps off).map .p
    | _ => none
  | .ref id off => match getL st.h id with
    | some (.cells ds) => if isAggT T t then (if off + sizeT T t ≤ ds.length then some (downD (.agg ((ds.drop off).take (sizeT T t)))) else none) else (getL ds off).map downD
    | some (.froz ps) => if isAggT T t then (if off + sizeT T t ≤ ps.length then some (.p (.agg ((ps.drop off).take (sizeT T t)))) else none) else (getL ps off).map .p
    | _ => none
  | _ => none

/-- a cell gives its tail away -/
def takeD (st : St) : D → Option (D × St)
  | .lp s off => match getL st.b s with
    | some (.live ds) => match getL ds off with
      | some (.own w rows) => some (.own w rows, { st with b := setL st.b s (.live (setL ds off (.p (.sl w rows)))) })
      | _ => none
    | _ => none
  | .ref id off => match getL st.h id with
    | some (.cells ds) => match getL ds off with
      | some (.own w rows) => some (.own w rows, { st with h := setL st.h id (.cells (setL ds off (.p (.sl w rows)))) })
      | _ => none
    | _ => none
  | _ => none
def inAp (ap : List Tmp) : Option Tmp → Bool
  | some d => ap.contains d
  | none => false
def storeD (st : St) (t : TypeId) (v : D) : D → Option St
  | .lp s off => match getL st.b s with
    | some (.live ds) => if okCells v = true ∧ okArg v = true ∧ v.cells.length = sizeT T t ∧ off + sizeT T t ≤ ds.length then some { st with b := setL st.b s (.live (setN ds off v.cells)) } else none
    | _ => none
  | .ref id off => match getL st.h id with
    | some (.cells ds) => if okCells v = true ∧ okArg v = true ∧ v.cells.length = sizeT T t ∧ off + sizeT T t ≤ ds.length then some { st with h := setL st.h id (.cells (setN ds off v.cells)) } else none
    | _ => none
  | _ => none

def sealSt (st : St) : D → Option (D × St)
  | .lp s o => match getL st.b s with
    | some (.live ds) => (toPs ds).map fun ps => (.p (.ep ps.length [ps] 0 o), { st with b := setL st.b s (.sealed ps) })
    | some (.sealed ps) => some (.p (.ep ps.length [ps] 0 o), st)
    | _ => none
  | d => if okArg d then some (downD d, st) else none
def sealAll (st : St) : List D → Option (List D × St)
  | [] => some ([], st)
  | d :: r => match sealSt st d with
    | some (d, st) => match sealAll st r with
      | some (ds, st) => some (d :: ds, st)
      | none => none
    | none => none

def calleeOf (r : List D) : Callee → Option (FuncId × List D)
  | .value f => match opdD r f with
    | .fn f caps => some (f, caps)
    | .p (.fn f caps) => some (f, caps.map .p)
    | .p (.sc (.func (.func f) _ _)) => some (f, [])
    | _ => none
  | _ => none

/-- the registers that are appended to in a region: what is put there takes the tail along -/
def apSrc (ops : List Oper) : List Tmp := ops.filterMap fun o => match o.op with
  | .call { callee := .builtin .append, args, .. } => (match (args[0]? : Option Operand) with | some (.tmp t) => some t | _ => none)
  | _ => none

def putR (st : St) (dst : Option Tmp) (d : D) : St := match dst with
  | some t => { st with r := setL st.r t d }
  | none => st
/-- a register gives its tail away -/
def giveR (st : St) (t : Tmp) : St := { st with r := setL st.r t (downD ((getL st.r t).getD .dead)) }

def optR {α : Type} (k : α → R) : Option α → R
  | some a => k a
  | none => A.fail

def takeR (st : St) : Operand → St
  | .tmp t => giveR st t
  | _ => st
/-- what is appended -/
def ysOf (sz : Nat) : D → Option (Nat × List (List P))
  | .p (.sc (.string s)) => some (1, rowsOfBytes s.data.toList)
  | .p (.sc (.slice none 0 0)) => some (sz, [])
  | .p (.sl w rows) => some (w, rows)
  | .own w rows => some (w, rows)
  | _ => none
/-- what is appended from an array that may change -/
def ysS (st : St) (sz : Nat) : D → Option (Nat × List (List P))
  | .ms w id lo n => match getL st.h id with
    | some (.cells ds) => if w ≠ 0 ∧ (lo + n) * w ≤ ds.length then (toPs ds).map fun ps => (w, chunk w n (ps.drop (lo * w))) else none
    | some (.froz ps) => if w ≠ 0 ∧ (lo + n) * w ≤ ps.length then some (w, chunk w n (ps.drop (lo * w))) else none
    | _ => none
  | d => ysOf sz d
def notIntT (T : Program) (u : TypeId) : Bool := match T.underlying u with
  | some (.int _) => false
  | some _ => true
  | none => false
/-- 1: bytes to a string; 2: a string to bytes -/
def convT (T : Program) (src dst : TypeId) : Nat := match T.underlying src, T.underlying dst with
  | some (.slice e), some .string => (match T.underlying e with | some (.int .u8) => 1 | _ => 0)
  | some .string, some (.slice e) => (match T.underlying e with | some (.int .u8) => 2 | _ => 0)
  | _, _ => 0
def concT (T : Program) (t : TypeId) : Bool := match T.underlying t with
  | some (.interface _) => false
  | some _ => true
  | none => false
/-- a register that holds a slice with its tail -/
def ownOf : Operand → D → Option (Tmp × Nat × List (List P))
  | .tmp t, .own w rows => some (t, w, rows)
  | _, _ => none

/-- a register that there is not: what is built is an array that may change -/
def mutS : Tmp := 1000003
/-- one operation -/
def eop (esc ap : List Tmp) (st : St) (o : Oper) (k : D → St → R) (kp : P → St → R) : R :=
  match o.op with
  | .assign (.tmp t) => k (opdD st.r (.tmp t)) (giveR st t)
  | .assign x => k (opdD st.r x) st
  | .move (.tmp t) => match o.dst with
    | some d => if ap.contains d then k (opdD st.r (.tmp t)) (giveR st t) else k (downD (opdD st.r (.tmp t))) st
    | none => k (downD (opdD st.r (.tmp t))) st
  | .move x => k (opdD st.r x) st
  | .pick c a b => match opdD st.r c with
    | .p (.sc (.bool c)) => A.br c (k (downD (opdD st.r a)) st) (k (downD (opdD st.r b)) st)
    | _ => A.fail
  | .alloc t => match o.dst, zeroT T t with
    | some d, some z => if esc.contains d then k (.ref st.h.length 0) (newBlk st (z.cells.map .p))
      else if d < st.b.length then k (.lp d 0) (newBox st d (z.cells.map .p)) else A.fail
    | _, _ => A.fail
  | .box _ x => match o.dst with
    | some d => if okCells (opdD st.r x) && okArg (opdD st.r x) then (if esc.contains d then k (.ref st.h.length 0) (newBlk st (downD (opdD st.r x)).cells)
      else if d < st.b.length then k (.lp d 0) (newBox st d (downD (opdD st.r x)).cells) else A.fail) else A.fail
    | none => A.fail
  | .load t x => if (T.underlying t).isNone then A.fail else match opdD st.r x with
    | .p (.ep _ rows i off) => A.row rows i fun row =>
        if isAggT T t then (if off + sizeT T t ≤ row.length then k (.p (.agg ((row.drop off).take (sizeT T t)))) st else A.fail)
        else optR A (fun x => k (.p x) st) (getL row off)
    | a => if inAp ap o.dst && !isAggT T t then (match takeD st a with
      | some (d, st) => k d st
      | none => optR A (fun d => k d st) (loadD T st t a)) else optR A (fun d => k d st) (loadD T st t a)
  | .store t a v => if (T.underlying t).isNone then A.fail else match ownOf v (opdD st.r v) with
    | some (v, w, rows) => optR A (fun st => k .dead (giveR st v)) (storeD T st t (.own w rows) (opdD st.r a))
    | none => optR A (fun st => k .dead st) (storeD T st t (downD (opdD st.r v)) (opdD st.r a))
  | .indexAddr t x i => match elemT T t, slOf (opdD st.r x), intOf? (opdD st.r i) with
    | some e, some (w, rows), some i => if w = sizeT T e then A.req (0 ≤ i ∧ i < rows.length) (k (.p (.ep w rows i.toNat 0)) st) else A.fail
    | _, _, _ => match T.underlying t, opdD st.r x, intOf? (opdD st.r i) with
      | some (.slice e), .ms w id lo n, some i => if w = sizeT T e ∧ (T.info? e).isSome then A.req (0 ≤ i ∧ i < n) (k (.ref id ((lo + i.toNat) * w)) st) else A.fail
      | some (.array n e), .lp s off, some i => if (T.info? e).isSome then A.req (0 ≤ i ∧ i < n) (k (.lp s (off + i.toNat * sizeT T e)) st) else A.fail
      | _, _, _ => A.fail
  | .buildSlice t len parts => match elemT T t with
    | some e => match zeroT T e with
      | some z => if z.cells.length = sizeT T e ∧ len * sizeT T e ≤ 16777216 then
          if esc.contains mutS && decide (0 < len) then
            optR A (fun cs => k (.ms (sizeT T e) st.h.length 0 len) (newBlk st cs))
              ((fillD (fun i => some (i * sizeT T e, sizeT T e)) ((List.replicate len z.cells).flatten.map .p) (parts.toList.map fun (i, x) => (i, downD (opdD st.r x)))).bind fun cs => if cs.all (fun d => cellD d && okArg d) then some cs else none)
          else
          optR A (fun ps => k (.own (sizeT T e) (chunk (sizeT T e) len ps)) st)
            ((fillD (fun i => some (i * sizeT T e, sizeT T e)) ((List.replicate len z.cells).flatten.map .p) (parts.toList.map fun (i, x) => (i, downD (opdD st.r x)))).bind fun cs => if cs.all cellD then toPs cs else none)
        else A.fail
      | none => A.fail
    | none => A.fail
  | .slice t x lo hi mx => match elemT T t, slOf (opdD st.r x) with
    | some e, some (w, rows) =>
      if w ≠ sizeT T e then A.fail else
      match (match lo with | some x => intOf? (opdD st.r x) | none => some 0), (match hi with | some x => intOf? (opdD st.r x) | none => some (rows.length : Int)) with
      | some l, some h => A.req (0 ≤ l ∧ l ≤ h ∧ h ≤ rows.length)
          (match mx with
          | none => k (.p (.sl w ((rows.drop l.toNat).take (h - l).toNat))) st
          | some m => if hi.isNone then A.fail else match intOf? (opdD st.r m) with
            | some m => A.req (m = h) (k (.own w ((rows.drop l.toNat).take (h - l).toNat)) st)
            | none => A.fail)
      | _, _ => A.fail
    | _, _ => CD A (fun d => k d st) (scalarOp T st.r o)
  | .convert src dst x => match convT T src dst, opdD st.r x with
    | 1, d => match slOf d with
      | some (_, rows) => optR A (fun bs => k (.p (.sc (.string ⟨bs.toArray⟩))) st) (bytesOf rows)
      | none => CD A (fun d => k d st) (scalarOp T st.r o)
    | 2, .p (.sc (.string s)) => k (.own 1 (rowsOfBytes s.data.toList)) st
    | _, _ => CD A (fun d => k d st) (scalarOp T st.r o)
  | .panic x => match (opdD st.r x).toP with
    | some (.sc (.iface t v)) => kp (.sc (.iface t v)) st
    | some (.ifc t p) => kp (.ifc t p) st
    | _ => A.fail
  | .makeInterface t x => if concT T t then match (opdD st.r x).toP with
      | some (.sc v) => k (.p (.sc (.iface t v))) st
      | some p => k (.p (.ifc t p)) st
      | none => A.fail
    else A.fail
  | .makeFunc (.func f) first captured => if first.isEmpty then optR A (fun (ds, st) => k (.fn f ds) st) (sealAll st (captured.toList.map (opdD st.r))) else A.fail
  | .defer c => match calleeOf st.r c.callee with
    | some (f, caps) => optR A (fun (ds, st) => k .dead { st with df := (f, ds) :: st.df }) (sealAll st (c.args.toList.map (opdD st.r) ++ caps))
    | none => A.fail
  | .call { callee := .builtin .append, args, argTypes } => match (args[0]? : Option Operand), (args[1]? : Option Operand), (argTypes[0]? : Option TypeId), (argTypes[1]? : Option TypeId) with
    | some x, some y, some t, some u => match elemT T t, notIntT T u with
      | some e, true => match infoT T e, zeroT T e with
        | some i, some z => if z.cells.length = i.size then
            match ysS st i.size (opdD st.r y) with
            | some (wy, ys) => if wy = i.size then
                match opdD st.r x with
                | .p (.sc (.slice none 0 0)) => A.br ys.isEmpty (k (.p (.sc (.slice none 0 0))) st) (A.req (ys.length ≤ 2 ^ 46 ∧ ys.length * i.bytes ≤ 2 ^ 46) (k (.own i.size ys) st))
                | .own w xs => if w = i.size then A.br ys.isEmpty (k (.own w xs) (takeR st x)) (A.req (xs.length + ys.length ≤ 2 ^ 46 ∧ (xs.length + ys.length) * i.bytes ≤ 2 ^ 46) (k (.own w (xs ++ ys)) (takeR st x))) else A.fail
                | .p (.sl w xs) => A.req (ys.isEmpty = true) (k (.p (.sl w xs)) st)
                | _ => A.fail
              else A.fail
            | none => A.fail
          else A.fail
        | _, _ => A.fail
      | _, _ => A.fail
    | _, _, _, _ => A.fail
  | .call c => match c.callee with
    | .builtin b => match structOp T st.r o with
      | some d => k d st
      | none => match valsOf st.r c.args.toList with
        | some vs => match pureRun T (builtinS b c.argTypes o.type vs) with
          | some v => if plainV v then k (.p (ofVal v)) st else A.fail
          | none => A.fail
        | none => A.fail
    | .invoke .. => A.fail
    | .value f => match calleeOf st.r (.value f) with
      | some (f, caps) =>
        if ((T.funcs[f]?).bind (·.body)).isNone then
          if caps.isEmpty then match valsOf st.r c.args.toList with
          | some vs => match pureRun T (callFunc f vs.toArray) with
            | some (.value v) => if plainV v then k (.p (ofVal v)) st else A.fail
            | _ => A.fail
          | none => A.fail
          else A.fail
        else match sealAll st (c.args.toList.map (opdD st.r) ++ caps) with
          | some (ds, st) => A.call f ds st.h fun
            | .ret d, h => k d { st with h }
            | .pan p, h => kp p { st with h }
          | none => A.fail
      | none => A.fail
  | .select _ _ => A.fail
  | _ => match structOp T st.r o with
    | some d => k d st
    | none => CD A (fun d => k d st) (scalarOp T st.r o)

/-- is an operation carried out? by the guard's register -/
def wantedD (ops : List Oper) (st : St) (o : Oper) (yes no : R) : R :=
  match o.guard with
  | none => yes
  | some (j, want) => match (getL ops j).bind (·.dst) with
    | some d => match getL st.r d with
      | some (.p (.sc (.bool b))) => if want then A.br b yes no else A.br b no yes
      | some (.tup []) => no
      | _ => A.fail
    | none => A.fail

def eops (esc ap : List Tmp) (ops : List Oper) : List Oper → St → (Ex → St → R) → R
  | [], st, k => k .normal st
  | o :: rest, st, k =>
    wantedD A ops st o
      (eop T A esc ap st o (fun d st => eops esc ap ops rest (putR st o.dst d) k) (fun p st => k (.pan p) st))
      (eops esc ap ops rest (putR st o.dst (.tup [])) k)

/-- a value only: no memory is written, nothing is given away, nothing is called -/
def neutral (ap : List Tmp) (o : Oper) : Bool := match o.op with
  | .move (.tmp _) => (match o.dst with | some d => !ap.contains d | none => true)
  | .load .. => !inAp ap o.dst
  | .move _ | .pick .. | .indexAddr .. | .fieldAddr .. | .field .. | .build .. | .extract .. | .nilCheck _ | .binOp .. | .unOp .. | .convert .. | .makeInterface .. => true
  | .slice _ _ _ _ none => true
  | .call c => match c.callee with
    | .builtin .len | .builtin .min | .builtin .max => true
    | .value (.func f) => ((T.funcs[f]?).bind (·.body)).isNone
    | _ => false
  | _ => false

/-! ### regions whose order is open -/
abbrev Ent := Nat × Oper × Nat
def pmask (done : List Nat) (o : Oper) : Nat := o.after.toList.foldl (fun s e => if Region.binds .any e then s ||| 2 ^ e.on ||| ((getL done e.on).getD 0) else s) 0
def tabGo (done : List Nat) : Nat → List Oper → List Ent
  | _, [] => []
  | i, o :: r => (i, o, pmask done o) :: tabGo (done ++ [pmask done o]) (i + 1) r
def tabOf (ops : List Oper) : List Ent := tabGo [] 0 ops
/-- the registers that an operation looks at -/
def looks (ops : List Oper) (o : Oper) : List Tmp :=
  (o.op.operands.toList.filterMap fun | .tmp t => some t | _ => none) ++
  (match o.guard with
   | some (g, _) => match (getL ops g).bind (·.dst) with | some d => [d] | none => []
   | none => [])
/-- a box that may be made at any time -/
def isA (esc : List Tmp) (o : Oper) : Bool := match o.op, o.dst with
  | .alloc _, some d => !esc.contains d && o.after.isEmpty && o.guard.isNone
  | _, _ => false
def statOK (ops : List Oper) (tab : List Ent) : Bool := tab.all fun (i, o, m) =>
  (looks ops o).all (fun t => tab.all fun (j, o', m') => o'.dst != some t || j == i || m.testBit j || m'.testBit i) &&
  (match o.dst with | some t => tab.all fun (j, o', _) => j == i || o'.dst != some t | none => true) &&
  o.after.toList.all (fun e => !Region.binds .any e || Nat.blt e.on i)
def ordOf (esc ap : List Tmp) (tab : List Ent) : List Ent :=
  let evs := tab.filter fun (_, o, _) => !neutral T ap o && !isA esc o
  let rank := fun (q : Ent) => (evs.filter fun (e, _, _) => e == q.1 || q.2.2.testBit e).length
  tab.filter (fun q => isA esc q.2.1) ++ (List.range (evs.length + 1)).flatMap fun r => tab.filter fun q => !isA esc q.2.1 && rank q == r
def covOK (tab ord : List Ent) : Bool := tab.all fun q => ord.any fun q' => q'.1 == q.1

def isMem (st : St) (o : Oper) : Bool := match o.op with
  | .load _ x => (match opdD st.r x with | .p _ => false | _ => true)
  | _ => false
/-- a box is forgotten -/
def dropB (st : St) (d : Tmp) : St := if boxed st d then { st with r := st.r.map (fun x => if mentions d x then .dead else x), b := setL st.b d .none } else st
def dstsOf (ops : List Oper) : List Tmp := ops.filterMap (·.dst)
def wipeR : List Tmp → List D → List D
  | [], r => r
  | t :: ts, r => wipeR ts (setL r t .dead)
def wipe (ops : List Oper) (st : St) : St := { st with r := wipeR (dstsOf ops) (st.r.map fun d => if okArg d then d else .dead), b := st.b.map fun _ => .none }

/-- a call in the midst of others -/
def ecallN (st : St) (o : Oper) (k : D → List Blk → R) (kp : P → List Blk → R) : R := match o.op with
  | .call c => match calleeOf st.r c.callee with
    | some (f, caps) => if ((T.funcs[f]?).bind (·.body)).isNone then A.fail else
        if okArgs (c.args.toList.map (opdD st.r) ++ caps) then A.calln f ((c.args.toList.map (opdD st.r) ++ caps).map downD) st.h fun
          | .ret d, h => k d h
          | .pan p, h => kp p h
        else A.fail
    | none => A.fail
  | _ => A.fail
def estoreN (st : St) (o : Oper) (k : St → R) : R := match o.op with
  | .store t a v => match ownOf v (opdD st.r v) with
    | some _ => A.fail
    | none => if (T.underlying t).isNone then A.fail else optR A k (storeD T st t (downD (opdD st.r v)) (opdD st.r a))
  | _ => A.fail

def edraw (esc ap : List Tmp) (ops : List Oper) (al : Nat) : Nat → Nat → List Ent → St → (Ex → St → R) → R
  | _, _, [], st, k => k .normal st
  | dn, me, (i, o, m) :: rest, st, k =>
    if dn.testBit i || (m &&& dn) != m then A.fail
    else if neutral T ap o then
      wantedD A ops st o (eop T A esc ap st o (fun d _ => edraw esc ap ops al (dn ||| 2 ^ i) (if isMem st o then me ||| 2 ^ i else me) rest (putR st o.dst d) k) (fun _ _ => A.fail))
        (edraw esc ap ops al (dn ||| 2 ^ i) me rest (putR st o.dst (.tup [])) k)
    else if isA esc o then
      if me == 0 then eop T A esc ap st o (fun d st => edraw esc ap ops al (dn ||| 2 ^ i) me rest (putR st o.dst d) k) (fun _ _ => A.fail) else A.fail
    else if rest.any (fun q => !q.2.2.testBit i) then A.fail
    else if (dn &&& m) == dn then
      wantedD A ops st o (eop T A esc ap st o (fun d st => edraw esc ap ops al (dn ||| 2 ^ i) me rest (putR st o.dst d) k) (fun p st => k (.pan p) st))
        (edraw esc ap ops al (dn ||| 2 ^ i) me rest (putR st o.dst (.tup [])) k)
    else
      wantedD A ops st o (match o.op with
        | .call _ => ecallN T A st o (fun d h => edraw esc ap ops al (dn ||| 2 ^ i) me rest (putR { st with h } o.dst d) k) (fun p h => k (.pan p) (wipe ops { st with h }))
        | _ => if (me &&& m) == me && (al &&& m) == al then estoreN T A st o (fun st => edraw esc ap ops al (dn ||| 2 ^ i) me rest (putR st o.dst .dead) k) else A.fail)
        (edraw esc ap ops al (dn ||| 2 ^ i) me rest (putR st o.dst (.tup [])) k)

def alOf (esc : List Tmp) (tab : List Ent) : Nat := tab.foldl (fun s q => if isA esc q.2.1 then s ||| 2 ^ q.1 else s) 0
def eregion (esc : List Tmp) (ops : List Oper) (st : St) (k : Ex → St → R) : R :=
  if statOK ops (tabOf ops) && covOK (tabOf ops) (ordOf T esc (apSrc ops) (tabOf ops)) then
    edraw T A esc (apSrc ops) ops (alOf esc (tabOf ops)) 0 0 (ordOf T esc (apSrc ops) (tabOf ops)) (((tabOf ops).filter fun q => isA esc q.2.1).foldl (fun st q => match q.2.1.dst with | some d => dropB st d | none => st) st) k
  else A.fail

def ecode (esc : List Tmp) : Code → St → (Ex → St → R) → R
  | .skip, st, k => k .normal st
  | .region _ ops draw, st, k => if draw then eregion T A esc ops.toList st k else eops T A esc (apSrc ops.toList) ops.toList ops.toList st k
  | .seq a b, st, k => ecode esc a st fun
    | .normal, st => ecode esc b st k
    | x, st => k x st
  | .cond c a b, st, k => match opdD st.r c with
    | .p (.sc (.bool c)) => A.br c (ecode esc a st k) (ecode esc b st k)
    | _ => A.fail
  | .block id c, st, k => ecode esc c st fun
    | .exit id', st => if id' == id then k .normal st else k (.exit id') st
    | x, st => k x st
  | .loop c, st, k => A.loop (ecode esc c) st k
  | .exit id, st, k => k (.exit id) st
  | .ret, st, k => k .ret st
  | _, _, _ => A.fail

end
end Go.AE
end

section
namespace Go.AE
open Go

/-- the registers whose boxes are handed to others -/
def tmpsOf (xs : List Operand) : List Tmp := xs.filterMap fun | .tmp t => some t | _ => none
def escOps (ops : List Oper) : List Tmp := ops.flatMap fun o => match o.op with
  | .call { callee := .builtin _, .. } => []
  | .call c | .defer c => tmpsOf c.args.toList
  | .store _ _ v => tmpsOf [v]
  | .build _ ps | .buildSlice _ _ ps => tmpsOf (ps.toList.map (·.2))
  | _ => []
def backOps (ops : List Oper) (e : List Tmp) : List Tmp := ops.foldl (fun e o => match o.op, o.dst with
  | .move (.tmp s), some d | .assign (.tmp s), some d | .nilCheck (.tmp s), some d => if e.contains d && !e.contains s then s :: e else e
  | _, _ => e) e
def bxOps (ops : List Oper) : List Tmp := ops.filterMap fun o => match o.op with
  | .alloc _ | .box .. => o.dst
  | _ => none
def codeOps : Code → List Oper
  | .region _ ops _ => ops.toList
  | .seq a b | .cond _ a b => codeOps a ++ codeOps b
  | .block _ c | .loop c | .scope c => codeOps c
  | _ => []
def escList (c : Code) : List Tmp := let ops := codeOps c; let es := backOps ops.reverse (backOps ops.reverse (escOps ops)); (bxOps ops).filter fun t => es.contains t

/-! ### the same memory -/
def eqV : Value → Value → Bool
  | .bool a, x => (match x with | .bool b => a == b | _ => false)
  | .int k a, x => (match x with | .int l b => k == l && a == b | _ => false)
  | .float k a, x => (match x with | .float l b => k == l && a == b | _ => false)
  | .string a, x => (match x with | .string b => a.data == b.data | _ => false)
  | .iface t a, x => (match x with | .iface u b => t == u && eqV a b | _ => false)
  | .func f a c, x => (match x with | .func g b d => (match f, g with | .func f, .func g => f == g && a.isEmpty && b.isEmpty && c.isEmpty && d.isEmpty | _, _ => false) | _ => false)
  | .nilFunc, x => (match x with | .nilFunc => true | _ => false)
  | .nilIface, x => (match x with | .nilIface => true | _ => false)
  | .slice a n c, x => (match x with | .slice b m d => a.isNone && b.isNone && n == m && c == d | _ => false)
  | .pointer a, x => (match x with | .pointer b => a.isNone && b.isNone | _ => false)
  | .map a, x => (match x with | .map b => a.isNone && b.isNone | _ => false)
  | _, _ => false
mutual
def eqP : P → P → Bool
  | .sc a, .sc b => eqV a b
  | .sl w a, .sl w' b => w == w' && eqPss a b
  | .ep w a i o, .ep w' b i' o' => w == w' && i == i' && o == o' && eqPss a b
  | .agg a, .agg b => eqPs a b
  | .fn f a, .fn g b => f == g && eqPs a b
  | .ifc t a, .ifc u b => t == u && eqP a b
  | .tup a, .tup b => eqPs a b
  | _, _ => false
def eqPs : List P → List P → Bool
  | [], [] => true
  | a :: x, b :: y => eqP a b && eqPs x y
  | _, _ => false
def eqPss : List (List P) → List (List P) → Bool
  | [], [] => true
  | a :: x, b :: y => eqPs a b && eqPss x y
  | _, _ => false
end
mutual
def eqD : D → D → Bool
  | .p a, .p b => eqP a b
  | .own w a, .own w' b => w == w' && eqPss a b
  | .lp a b, .lp c d => a == c && b == d
  | .ref a b, .ref c d => a == c && b == d
  | .ms a b c d, .ms a' b' c' d' => a == a' && b == b' && c == c' && d == d'
  | .mp a, .mp b => a == b
  | .agg a, .agg b => eqDs a b
  | .fn f a, .fn g b => f == g && eqDs a b
  | .tup a, .tup b => eqDs a b
  | .dead, .dead => true
  | _, _ => false
def eqDs : List D → List D → Bool
  | [], [] => true
  | a :: x, b :: y => eqD a b && eqDs x y
  | _, _ => false
end
def eqEs : List (P × D × Nat) → List (P × D × Nat) → Bool
  | [], [] => true
  | (a, b, c) :: x, (d, e, f) :: y => eqP a d && eqD b e && c == f && eqEs x y
  | _, _ => false
def eqBlk : Blk → Blk → Bool
  | .cells a, .cells b => eqDs a b
  | .froz a, .froz b => eqPs a b
  | .map a c, .map b d => eqEs a b && c == d
  | .dead, .dead => true
  | _, _ => false
/-- nothing has changed, but there may be more -/
def preBlks : List Blk → List Blk → Bool
  | [], _ => true
  | a :: x, b :: y => eqBlk a b && preBlks x y
  | _, _ => false

section
variable (T : Program)
abbrev RO := Option (Res × List Blk)

def loopO {α : Type} (body : St → (Ex → St → Option α) → Option α) : Nat → St → (Ex → St → Option α) → Option α
  | 0, _, _ => none
  | n + 1, st, k => body st fun
    | .normal, st => loopO body n st k
    | x, st => k x st

/-- the deferred calls of an evaluation: none, or one that turns a panic of a type of integers into a number behind a pointer -/
def dfrO {α : Type} (caught : FuncId → Option TypeId) : List (FuncId × List D) → Ex → List Blk → (Ex → List Blk → Option α) → Option α
  | [], x, h, k => k x h
  | [(f, [.ref id off])], x, h, k => match caught f, x with
    | some _, .ret => k .ret h
    | some _, .normal => k .normal h
    | some t, .pan (.sc (.iface t' (.int kd n))) => if t = t' then (match getL h id with
      | some (.cells ds) => if off < ds.length then k .ret (setL h id (.cells (setL ds off (.p (.sc (.int kd n)))))) else none
      | _ => none) else none
    | _, _ => none
  | _, _, _, _ => none

/-- calls: what they come to; and, where memory is left as it is, the answer alone -/
structure RunF where
  call : FuncId → List D → List Blk → RO
  keep : FuncId → List D → List Blk → Option Res

/-- a call with immutable data, whatever the memory -/
def pureCall (runf : RunF) (f : FuncId) (ds : List D) (h : List Blk) : Option Res := match toPs ds with
  | some ps => match runf.call f (ps.map .p) [] with
    | some (.ret (.p p), []) => some (.ret (.p p))
    | some (.pan p, []) => some (.pan p)
    | _ => none
  | none => runf.keep f ds h

def AO {α : Type} (caught : FuncId → Option TypeId) (runf : RunF) (n : Nat) : Ans (Option α) where
  fail := none
  br b x y := match b with | true => x | false => y
  req c _ k := if c then k else none
  row rows i k := match getL rows i with | some r => k r | none => none
  loop body st k := loopO body n st k
  call f ds h k := match runf.call f ds h with | some (r, h) => k r h | none => none
  calln f ds h k := match pureCall runf f ds h with
    | some r => k r h
    | none => match runf.call f ds h with | some (r, h') => if preBlks h h' then k r h' else none | none => none
  dfr := dfrO caught

def startSt (f : Func) (args : List D) (h : List Blk) : St :=
  { r := args ++ List.replicate (f.ntmps - args.length) .dead, b := List.replicate f.ntmps .none, h }

def resD (st : St) : List ResultVar → Option (List D)
  | [] => some []
  | .tmp t :: r => match getL st.r t with | some d => (resD st r).map (d :: ·) | none => none
  | .cell a t :: r => if (T.underlying t).isNone then none else match (getL st.r a).bind (loadD T st t) with | some d => (resD st r).map (d :: ·) | none => none

section
variable {R : Type} (A : Ans R)
def efn (es : List Tmp) (f : Func) (args : List D) (h : List Blk) (k : Res → List Blk → R) : R :=
  match f.body with
  | none => A.fail
  | some body => ecode T A (es ++ escList body) body (startSt f args h) fun x st =>
    A.dfr st.df x st.h fun x h => match x with
      | .pan p => k (.pan p) h
      | .ret | .normal => match resD T { st with h } f.results.toList with
        | some ds => match ds with
          | [d] => if okArg d then k (.ret d) h else A.fail
          | ds => if okArgs ds then k (.ret (.tup (ds.map down1))) h else A.fail
        | none => A.fail
      | _ => A.fail
end

mutual
/-- what may change will change no more -/
def frzA : Nat → D → List Blk → Option (P × List Blk)
  | 0, _, _ => none
  | n + 1, d, h => match d with
    | .p x => some (x, h)
    | .own w rows => some (.sl w rows, h)
    | .ms w id lo m => match getL h id with
      | some (.froz ps) => if (lo + m) * w ≤ ps.length then some (.sl w (chunk w m (ps.drop (lo * w))), h) else none
      | some (.cells ds) => match frzAs n ds h with
        | some (ps, h') => match getL h' id with
          | some (.cells ds2) => if (lo + m) * w ≤ ps.length ∧ ps.length = ds2.length then some (.sl w (chunk w m (ps.drop (lo * w))), setL h' id (.froz ps)) else none
          | _ => none
        | none => none
      | _ => none
    | .agg ds => (frzAs n ds h).map fun (ps, h) => (.agg ps, h)
    | .fn f ds => (frzAs n ds h).map fun (ps, h) => (.fn f ps, h)
    | .tup ds => (frzAs n ds h).map fun (ps, h) => (.tup ps, h)
    | _ => none
def frzAs : Nat → List D → List Blk → Option (List P × List Blk)
  | 0, _, _ => none
  | _ + 1, [], h => some ([], h)
  | n + 1, d :: ds, h => match frzA n d h with
    | some (p, h) => (frzAs n ds h).map fun (ps, h) => (p :: ps, h)
    | none => none
end

/-- how a function is evaluated -/
inductive RMode where
  | norm
  | imp
  | mut
  | frz
  | spec (F : List D → List Blk → RO)
  | keep (F : List D → List Blk → Option Res)

/-- a call with immutable data: its memory is its own -/
def runP (sub : RunF) (caught : FuncId → Option TypeId) (fn : Func) (ps : List P) (h : List Blk) : RO :=
  efn T (AO caught sub 1000) [] fn (ps.map .p) [] fun
    | .ret d, h1 => match frzA 1000 d h1 with
      | some (p, _) => some (.ret (.p p), h)
      | none => none
    | .pan p, _ => some (.pan p, h)
def runI (sub : RunF) (caught : FuncId → Option TypeId) (es : List Tmp) (fn : Func) (args : List D) (h : List Blk) : RO :=
  efn T (AO caught sub 1000) es fn args h fun r h => some (r, h)

def run (caught : FuncId → Option TypeId) (mode : FuncId → FuncId → RMode) : Nat → FuncId → RunF
  | 0, _ => ⟨fun _ _ _ => none, fun _ _ _ => none⟩
  | d + 1, g => ⟨fun f args h => match T.funcs[f]? with
    | none => none
    | some fn => match mode g f with
      | .spec F => F args h
      | .keep F => (F args h).map fun r => (r, h)
      | .imp => runI T (run caught mode d f) caught [] fn args h
      | .mut => runI T (run caught mode d f) caught [mutS] fn args h
      | .frz => match frzAs 1000 args h with
        | some (ps, h1) => runP T (run caught mode d f) caught fn ps h1
        | none => none
      | .norm => match toPs args with
        | some ps => runP T (run caught mode d f) caught fn ps h
        | none => runI T (run caught mode d f) caught [] fn args h,
    fun f args h => match T.funcs[f]? with
    | none => none
    | some _ => match mode g f with
      | .keep F => F args h
      | _ => none⟩

/-- slices.Clone, for an array that may change -/
def cloneM : List D → List Blk → RO
  | [.p (.sc (.slice none 0 0))], h => some (.ret (.p (.sc (.slice none 0 0))), h)
  | [.p (.sl w rows)], h => if rows.isEmpty then none else some (.ret (.ms w h.length 0 rows.length), h ++ [.cells (rows.flatten.map .p)])
  | _, _ => none
/-- slices.Insert into no slice -/
def insertNil : List D → List Blk → RO
  | [.p (.sc (.slice none 0 0)), .p (.sc (.int .i64 0)), .p (.sl w rows)], h => some (.ret (.own w rows), h)
  | _, _ => none
end
end Go.AE
end

section
namespace Go.AE
open Go

@[irreducible] def pbr (b : Bool) (x y : Prop) : Prop := match b with | true => x | false => y
@[irreducible] def preq (c : Prop) (x : Prop) : Prop := c ∧ x
@[irreducible] def prow (rows : List (List P)) (i : Nat) (k : List P → Prop) : Prop := ∃ r, getL rows i = some r ∧ k r
def ploop (body : St → (Ex → St → Prop) → Prop) (st : St) (k : Ex → St → Prop) : Prop :=
  ∀ X : St → Prop, (∀ s, body s (fun x s' => match x with | .normal => X s' | x => k x s') → X s) → X st

@[irreducible] def pcalln (C : FuncId → List D → List Blk → (Res → List Blk → Prop) → Prop) (f : FuncId) (ds : List D) (h : List Blk) (k : Res → List Blk → Prop) : Prop :=
  ∃ r e, C f ds h (fun r' h' => r' = r ∧ h' = h ++ e) ∧ k r (h ++ e)

theorem pbr_true {x y : Prop} (h : x) : pbr true x y := by unfold pbr; exact h
theorem pbr_false {x y : Prop} (h : y) : pbr false x y := by unfold pbr; exact h
theorem preq_mk {c x : Prop} (hc : c) (h : x) : preq c x := by unfold preq; exact ⟨hc, h⟩
theorem prow_mk {rows : List (List P)} {i : Nat} {k : List P → Prop} (r : List P) (h : getL rows i = some r) (hk : k r) : prow rows i k := by
  unfold prow; exact ⟨r, h, hk⟩

/-- the answer is a truth; calls are asked of a predicate -/
def AP (C : FuncId → List D → List Blk → (Res → List Blk → Prop) → Prop) (F : List (FuncId × List D) → Ex → List Blk → (Ex → List Blk → Prop) → Prop) : Ans Prop where
  fail := False
  br := pbr
  req c _ k := preq c k
  row := prow
  loop := ploop
  call := C
  calln := pcalln C
  dfr := F
end Go.AE
end

section
namespace Go.AE
open Go

/-! ### lists -/
theorem getL_setL {α : Type} : ∀ (l : List α) (i j : Nat) (a : α), getL (setL l i a) j = if i = j ∧ j < l.length then some a else getL l j
  | [], i, j, a => by simp [setL, getL]
  | x :: xs, 0, 0, a => by simp [setL, getL]
  | x :: xs, 0, j + 1, a => by simp [setL, getL]
  | x :: xs, i + 1, 0, a => by simp [setL, getL]
  | x :: xs, i + 1, j + 1, a => by simp [setL, getL, getL_setL xs i j a]
theorem length_setL {α : Type} : ∀ (l : List α) (i : Nat) (a : α), (setL l i a).length = l.length
  | [], _, _ => rfl
  | _ :: _, 0, _ => rfl
  | _ :: xs, n + 1, a => by simp [setL, length_setL xs n a]
theorem getL_eq {α : Type} : ∀ (l : List α) (i : Nat), getL l i = l[i]?
  | [], i => by simp [getL]
  | x :: xs, 0 => by simp [getL]
  | x :: xs, n + 1 => by simp [getL, getL_eq xs n]
theorem setL_eq {α : Type} : ∀ (l : List α) (i : Nat) (a : α), setL l i a = l.set i a
  | [], _, _ => rfl
  | _ :: _, 0, _ => rfl
  | _ :: xs, n + 1, a => by simp [setL, setL_eq xs n a]
theorem length_setN {α : Type} : ∀ (xs l : List α) (off : Nat), (setN l off xs).length = l.length
  | [], l, _ => by simp [setN]
  | x :: xs, l, off => by simp [setN, length_setN xs, length_setL]
theorem getL_setN {α : Type} : ∀ (xs l : List α) (off j : Nat), off + xs.length ≤ l.length →
    getL (setN l off xs) j = if off ≤ j ∧ j < off + xs.length then getL xs (j - off) else getL l j
  | [], l, off, j, _ => by simp only [setN, List.length_nil]; rw [if_neg (by omega)]
  | x :: xs, l, off, j, h => by
    simp only [List.length_cons] at h
    simp only [setN, List.length_cons]
    rw [getL_setN xs _ _ _ (by rw [length_setL]; omega), getL_setL]
    by_cases hj : j = off
    · subst hj
      rw [if_neg (by omega), if_pos (by omega), if_pos (by omega)]
      simp [getL]
    · by_cases h1 : off + 1 ≤ j ∧ j < off + 1 + xs.length
      · rw [if_pos h1, if_pos (by omega)]
        obtain ⟨m, hm⟩ : ∃ m, j - off = m + 1 := ⟨j - off - 1, by omega⟩
        rw [hm, show j - (off + 1) = m by omega]; simp [getL]
      · rw [if_neg h1, if_neg (by omega), if_neg (by omega)]
theorem getL_lt {α : Type} {l : List α} {i : Nat} {a : α} (h : getL l i = some a) : i < l.length := by
  rw [getL_eq] at h; exact (List.getElem?_eq_some_iff.1 h).1
theorem getL_append_left {α : Type} {l m : List α} {i : Nat} (h : i < l.length) : getL (l ++ m) i = getL l i := by
  rw [getL_eq, getL_eq, List.getElem?_append_left h]
theorem getL_concat {α : Type} {l : List α} {a : α} : getL (l ++ [a]) l.length = some a := by
  rw [getL_eq]; simp
theorem getL_map {α β : Type} (f : α → β) (l : List α) (i : Nat) : getL (l.map f) i = (getL l i).map f := by
  rw [getL_eq, getL_eq, List.getElem?_map]

/-! ### what values stand for data -/
inductive K where
  | box (s : Nat)
  | blk (id : Nat)
  deriving DecidableEq

structure Ctx where
  β : K → Nat
  al : Nat → Prop
  nh : Nat
  Φ : Nat → Nat → Option Value

def isCell : Value → Bool
  | .agg _ | .tuple _ => false
  | _ => true

section
variable (Φ : Nat → Nat → Option Value)
mutual
def RepP : P → Value → Prop
  | .sc u, v => v = u ∧ plain u = true
  | .sl w rows, v => ∃ b o cap, v = .slice (some ⟨b, o, none⟩) rows.length cap ∧ rows.length ≤ cap ∧ RepRows w b rows o
  | .ep w rows i off, v => ∃ b o, v = .pointer (some ⟨b, o + i * w + off, none⟩) ∧ RepRows w b rows o
  | .agg ps, v => ∃ vs, v = .agg vs ∧ RepPs ps vs.toList
  | .fn f caps, v => ∃ cs, v = .func (.func f) #[] cs ∧ RepPs caps cs.toList
  | .ifc t p, v => ∃ u, v = .iface t u ∧ RepP p u
  | .tup ps, v => ∃ vs, v = .tuple vs ∧ RepPs ps vs.toList
def RepPs : List P → List Value → Prop
  | [], vs => vs = []
  | p :: ps, vs => ∃ v vs', vs = v :: vs' ∧ RepP p v ∧ RepPs ps vs'
def RepCells (b : Nat) : List P → Nat → Prop
  | [], _ => True
  | p :: ps, o => (∃ v, Φ b o = some v ∧ isCell v = true ∧ RepP p v) ∧ RepCells b ps (o + 1)
def RepRows (w b : Nat) : List (List P) → Nat → Prop
  | [], _ => True
  | r :: rs, o => r.length = w ∧ RepCells b r o ∧ RepRows w b rs (o + w)
end
end

section
variable (C : Ctx)
mutual
def RepD : D → Value → Prop
  | .p x, v => RepP C.Φ x v
  | .own w rows, v => RepP C.Φ (.sl w rows) v
  | .lp s off, v => C.al s ∧ v = .pointer (some ⟨C.β (.box s), off, none⟩)
  | .ref id off, v => id < C.nh ∧ v = .pointer (some ⟨C.β (.blk id), off, none⟩)
  | .ms w id lo n, v => id < C.nh ∧ ∃ cap, v = .slice (some ⟨C.β (.blk id), lo * w, none⟩) n cap ∧ n ≤ cap
  | .mp id, v => id < C.nh ∧ v = .map (some (C.β (.blk id)))
  | .agg ds, v => ∃ vs, v = .agg vs ∧ RepDs ds vs.toList
  | .fn f caps, v => ∃ cs, v = .func (.func f) #[] cs ∧ RepDs caps cs.toList
  | .tup ds, v => ∃ vs, v = .tuple vs ∧ RepDs ds vs.toList
  | .dead, _ => True
def RepDs : List D → List Value → Prop
  | [], vs => vs = []
  | d :: ds, vs => ∃ v vs', vs = v :: vs' ∧ RepD d v ∧ RepDs ds vs'
end
end

/-! ### more is known: what stood for data still does -/
def Le (Φ Ψ : Nat → Nat → Option Value) : Prop := ∀ b o v, Φ b o = some v → Ψ b o = some v
theorem Le.refl (Φ : Nat → Nat → Option Value) : Le Φ Φ := fun _ _ _ h => h
theorem Le.trans {Φ Ψ Ξ : Nat → Nat → Option Value} (h : Le Φ Ψ) (k : Le Ψ Ξ) : Le Φ Ξ := fun b o v e => k b o v (h b o v e)

mutual
theorem RepP.mono {Φ Ψ : Nat → Nat → Option Value} (hle : Le Φ Ψ) : ∀ (p : P) (v : Value), RepP Φ p v → RepP Ψ p v
  | .sc u, v, h => by simp only [RepP] at h ⊢; exact h
  | .sl w rows, v, h => by
    simp only [RepP] at h ⊢
    obtain ⟨b, o, cap, h1, h2, h3⟩ := h
    exact ⟨b, o, cap, h1, h2, RepRows.mono hle w b rows o h3⟩
  | .ep w rows i off, v, h => by
    simp only [RepP] at h ⊢
    obtain ⟨b, o, h1, h3⟩ := h
    exact ⟨b, o, h1, RepRows.mono hle w b rows o h3⟩
  | .agg ps, v, h => by
    simp only [RepP] at h ⊢
    obtain ⟨vs, h1, h2⟩ := h
    exact ⟨vs, h1, RepPs.mono hle ps _ h2⟩
  | .fn f caps, v, h => by
    simp only [RepP] at h ⊢
    obtain ⟨vs, h1, h2⟩ := h
    exact ⟨vs, h1, RepPs.mono hle caps _ h2⟩
  | .ifc t p, v, h => by
    simp only [RepP] at h ⊢
    obtain ⟨u, h1, h2⟩ := h
    exact ⟨u, h1, RepP.mono hle p _ h2⟩
  | .tup ps, v, h => by
    simp only [RepP] at h ⊢
    obtain ⟨vs, h1, h2⟩ := h
    exact ⟨vs, h1, RepPs.mono hle ps _ h2⟩
theorem RepPs.mono {Φ Ψ : Nat → Nat → Option Value} (hle : Le Φ Ψ) : ∀ (ps : List P) (vs : List Value), RepPs Φ ps vs → RepPs Ψ ps vs
  | [], vs, h => by simp only [RepPs] at h ⊢; exact h
  | p :: ps, vs, h => by
    simp only [RepPs] at h ⊢
    obtain ⟨v, vs', h1, h2, h3⟩ := h
    exact ⟨v, vs', h1, RepP.mono hle p v h2, RepPs.mono hle ps vs' h3⟩
theorem RepCells.mono {Φ Ψ : Nat → Nat → Option Value} (hle : Le Φ Ψ) (b : Nat) : ∀ (ps : List P) (o : Nat), RepCells Φ b ps o → RepCells Ψ b ps o
  | [], o, _ => by simp only [RepCells]
  | p :: ps, o, h => by
    simp only [RepCells] at h ⊢
    obtain ⟨⟨v, h1, h2, h3⟩, h4⟩ := h
    exact ⟨⟨v, hle _ _ _ h1, h2, RepP.mono hle p v h3⟩, RepCells.mono hle b ps (o + 1) h4⟩
theorem RepRows.mono {Φ Ψ : Nat → Nat → Option Value} (hle : Le Φ Ψ) (w b : Nat) : ∀ (rs : List (List P)) (o : Nat), RepRows Φ w b rs o → RepRows Ψ w b rs o
  | [], o, _ => by simp only [RepRows]
  | r :: rs, o, h => by
    simp only [RepRows] at h ⊢
    exact ⟨h.1, RepCells.mono hle b r o h.2.1, RepRows.mono hle w b rs (o + w) h.2.2⟩
end

mutual
/-- which boxes a datum points to -/
def lpD (S : Nat → Prop) : D → Prop
  | .lp s _ => S s
  | .agg ds | .fn _ ds | .tup ds => lpDs S ds
  | _ => True
def lpDs (S : Nat → Prop) : List D → Prop
  | [] => True
  | d :: ds => lpD S d ∧ lpDs S ds
end
mutual
theorem lpD_all {S : Nat → Prop} (h : ∀ s, S s) : ∀ d : D, lpD S d
  | .lp s _ => by simp only [lpD]; exact h s
  | .agg ds => by simp only [lpD]; exact lpDs_all h ds
  | .fn _ ds => by simp only [lpD]; exact lpDs_all h ds
  | .tup ds => by simp only [lpD]; exact lpDs_all h ds
  | .p _ => by simp [lpD]
  | .own _ _ => by simp [lpD]
  | .ref _ _ => by simp [lpD]
  | .ms _ _ _ _ => by simp [lpD]
  | .mp _ => by simp [lpD]
  | .dead => by simp [lpD]
theorem lpDs_all {S : Nat → Prop} (h : ∀ s, S s) : ∀ ds : List D, lpDs S ds
  | [] => by simp [lpDs]
  | d :: ds => by simp only [lpDs]; exact ⟨lpD_all h d, lpDs_all h ds⟩
end
mutual
theorem okArg_lpD {S : Nat → Prop} : ∀ {d : D}, okArg d = true → lpD S d
  | .lp s _, h => by simp [okArg] at h
  | .agg ds, h => by simp only [okArg] at h; simp only [lpD]; exact okArgs_lpDs h
  | .fn _ ds, h => by simp only [okArg] at h; simp only [lpD]; exact okArgs_lpDs h
  | .tup ds, h => by simp only [okArg] at h; simp only [lpD]; exact okArgs_lpDs h
  | .p _, _ => by simp [lpD]
  | .own _ _, _ => by simp [lpD]
  | .ref _ _, _ => by simp [lpD]
  | .ms _ _ _ _, _ => by simp [lpD]
  | .mp _, _ => by simp [lpD]
  | .dead, _ => by simp [lpD]
theorem okArgs_lpDs {S : Nat → Prop} : ∀ {ds : List D}, okArgs ds = true → lpDs S ds
  | [], _ => by simp [lpDs]
  | d :: ds, h => by
    simp only [okArgs, Bool.and_eq_true] at h
    simp only [lpDs]; exact ⟨okArg_lpD h.1, okArgs_lpDs h.2⟩
end

/-- a context that knows more, but for boxes outside S -/
structure CLe (S : Nat → Prop) (C C' : Ctx) : Prop where
  Φ : Le C.Φ C'.Φ
  nh : C.nh ≤ C'.nh
  blk : ∀ id, id < C.nh → C'.β (.blk id) = C.β (.blk id)
  box : ∀ s, S s → C.al s → C'.al s ∧ C'.β (.box s) = C.β (.box s)

mutual
theorem RepD.mono {S : Nat → Prop} {C C' : Ctx} (h : CLe S C C') : ∀ (d : D) (v : Value), lpD S d → RepD C d v → RepD C' d v
  | .p x, v, _, r => by simp only [RepD] at r ⊢; exact RepP.mono h.Φ x v r
  | .own w rows, v, _, r => by simp only [RepD] at r ⊢; exact RepP.mono h.Φ _ v r
  | .lp s off, v, l, r => by
    simp only [lpD] at l
    simp only [RepD] at r ⊢
    obtain ⟨h1, h2⟩ := h.box s l r.1
    rw [h2]; exact ⟨h1, r.2⟩
  | .ref id off, v, _, r => by simp only [RepD] at r ⊢; rw [h.blk id r.1]; exact ⟨Nat.lt_of_lt_of_le r.1 h.nh, r.2⟩
  | .ms w id lo n, v, _, r => by simp only [RepD] at r ⊢; rw [h.blk id r.1]; exact ⟨Nat.lt_of_lt_of_le r.1 h.nh, r.2⟩
  | .mp id, v, _, r => by simp only [RepD] at r ⊢; rw [h.blk id r.1]; exact ⟨Nat.lt_of_lt_of_le r.1 h.nh, r.2⟩
  | .agg ds, v, l, r => by
    simp only [lpD] at l
    simp only [RepD] at r ⊢
    obtain ⟨vs, h1, h2⟩ := r
    exact ⟨vs, h1, RepDs.mono h ds _ l h2⟩
  | .fn f ds, v, l, r => by
    simp only [lpD] at l
    simp only [RepD] at r ⊢
    obtain ⟨vs, h1, h2⟩ := r
    exact ⟨vs, h1, RepDs.mono h ds _ l h2⟩
  | .tup ds, v, l, r => by
    simp only [lpD] at l
    simp only [RepD] at r ⊢
    obtain ⟨vs, h1, h2⟩ := r
    exact ⟨vs, h1, RepDs.mono h ds _ l h2⟩
  | .dead, v, _, _ => by simp only [RepD]
theorem RepDs.mono {S : Nat → Prop} {C C' : Ctx} (h : CLe S C C') : ∀ (ds : List D) (vs : List Value), lpDs S ds → RepDs C ds vs → RepDs C' ds vs
  | [], vs, _, r => by simp only [RepDs] at r ⊢; exact r
  | d :: ds, vs, l, r => by
    simp only [lpDs] at l
    simp only [RepDs] at r ⊢
    obtain ⟨v, vs', h1, h2, h3⟩ := r
    exact ⟨v, vs', h1, RepD.mono h d v l.1 h2, RepDs.mono h ds vs' l.2 h3⟩
end

/-! ### positions -/
theorem RepDs.length {C : Ctx} : ∀ {ds : List D} {vs : List Value}, RepDs C ds vs → ds.length = vs.length
  | [], vs, h => by simp only [RepDs] at h; simp [h]
  | d :: ds, vs, h => by
    simp only [RepDs] at h
    obtain ⟨v, vs', rfl, _, h3⟩ := h
    simp [h3.length]
theorem RepDs.get {C : Ctx} : ∀ {ds : List D} {vs : List Value} {i : Nat} {d : D}, RepDs C ds vs → getL ds i = some d → ∃ v, vs[i]? = some v ∧ RepD C d v
  | [], _, _, _, _, e => by simp [getL] at e
  | d :: ds, vs, 0, d', h, e => by
    simp only [RepDs] at h
    obtain ⟨v, vs', rfl, h2, h3⟩ := h
    simp only [getL, Option.some.injEq] at e; subst e
    exact ⟨v, by simp, h2⟩
  | d :: ds, vs, i + 1, d', h, e => by
    simp only [RepDs] at h
    obtain ⟨v, vs', rfl, h2, h3⟩ := h
    simp only [getL] at e
    obtain ⟨u, h4, h5⟩ := RepDs.get h3 e
    exact ⟨u, by simpa using h4, h5⟩
theorem RepDs.mk {C : Ctx} : ∀ {ds : List D} {vs : List Value}, ds.length = vs.length → (∀ i d v, getL ds i = some d → vs[i]? = some v → RepD C d v) → RepDs C ds vs
  | [], [], _, _ => by simp [RepDs]
  | [], _ :: _, h, _ => by simp at h
  | _ :: _, [], h, _ => by simp at h
  | d :: ds, v :: vs, h, r => by
    simp only [RepDs]
    refine ⟨v, vs, rfl, r 0 d v (by simp [getL]) (by simp), RepDs.mk (by simpa using h) fun i d' v' e e' => r (i + 1) d' v' (by simpa [getL] using e) (by simpa using e')⟩
theorem RepPs.toD {C : Ctx} : ∀ {ps : List P} {vs : List Value}, RepPs C.Φ ps vs → RepDs C (ps.map .p) vs
  | [], vs, h => by simp only [RepPs] at h; simp [RepDs, h]
  | p :: ps, vs, h => by
    simp only [RepPs] at h
    obtain ⟨v, vs', rfl, h2, h3⟩ := h
    simp only [List.map_cons, RepDs, RepD]
    exact ⟨v, vs', rfl, h2, h3.toD⟩
theorem RepPs.length {Φ : Nat → Nat → Option Value} : ∀ {ps : List P} {vs : List Value}, RepPs Φ ps vs → ps.length = vs.length
  | [], vs, h => by simp only [RepPs] at h; simp [h]
  | d :: ds, vs, h => by
    simp only [RepPs] at h
    obtain ⟨v, vs', rfl, _, h3⟩ := h
    simp [h3.length]
theorem RepPs.get {Φ : Nat → Nat → Option Value} : ∀ {ds : List P} {vs : List Value} {i : Nat} {d : P}, RepPs Φ ds vs → getL ds i = some d → ∃ v, vs[i]? = some v ∧ RepP Φ d v
  | [], _, _, _, _, e => by simp [getL] at e
  | d :: ds, vs, 0, d', h, e => by
    simp only [RepPs] at h
    obtain ⟨v, vs', rfl, h2, h3⟩ := h
    simp only [getL, Option.some.injEq] at e; subst e
    exact ⟨v, by simp, h2⟩
  | d :: ds, vs, i + 1, d', h, e => by
    simp only [RepPs] at h
    obtain ⟨v, vs', rfl, h2, h3⟩ := h
    simp only [getL] at e
    obtain ⟨u, h4, h5⟩ := RepPs.get h3 e
    exact ⟨u, by simpa using h4, h5⟩
theorem RepPs.mk {Φ : Nat → Nat → Option Value} : ∀ {ds : List P} {vs : List Value}, ds.length = vs.length → (∀ i d v, getL ds i = some d → vs[i]? = some v → RepP Φ d v) → RepPs Φ ds vs
  | [], [], _, _ => by simp [RepPs]
  | [], _ :: _, h, _ => by simp at h
  | _ :: _, [], h, _ => by simp at h
  | d :: ds, v :: vs, h, r => by
    simp only [RepPs]
    refine ⟨v, vs, rfl, r 0 d v (by simp [getL]) (by simp), RepPs.mk (by simpa using h) fun i d' v' e e' => r (i + 1) d' v' (by simpa [getL] using e) (by simpa using e')⟩
theorem RepCells.get {Φ : Nat → Nat → Option Value} {b : Nat} : ∀ {ps : List P} {o i : Nat} {p : P}, RepCells Φ b ps o → getL ps i = some p → ∃ v, Φ b (o + i) = some v ∧ isCell v = true ∧ RepP Φ p v
  | [], _, _, _, _, e => by simp [getL] at e
  | q :: ps, o, 0, p, h, e => by
    simp only [RepCells] at h
    simp only [getL, Option.some.injEq] at e; subst e
    simpa using h.1
  | q :: ps, o, i + 1, p, h, e => by
    simp only [RepCells] at h
    simp only [getL] at e
    have := RepCells.get h.2 e
    rwa [show o + 1 + i = o + (i + 1) by omega] at this
theorem RepCells.mk {Φ : Nat → Nat → Option Value} {b : Nat} : ∀ {ps : List P} {o : Nat}, (∀ i p, getL ps i = some p → ∃ v, Φ b (o + i) = some v ∧ isCell v = true ∧ RepP Φ p v) → RepCells Φ b ps o
  | [], _, _ => by simp [RepCells]
  | q :: ps, o, h => by
    simp only [RepCells]
    refine ⟨by simpa using h 0 q (by simp [getL]), RepCells.mk fun i p e => ?_⟩
    have := h (i + 1) p (by simpa [getL] using e)
    rwa [show o + 1 + i = o + (i + 1) by omega]
theorem RepRows.get {Φ : Nat → Nat → Option Value} {w b : Nat} : ∀ {rs : List (List P)} {o i : Nat} {r : List P}, RepRows Φ w b rs o → getL rs i = some r → r.length = w ∧ RepCells Φ b r (o + i * w)
  | [], _, _, _, _, e => by simp [getL] at e
  | q :: rs, o, 0, r, h, e => by
    simp only [RepRows] at h
    simp only [getL, Option.some.injEq] at e; subst e
    simpa using ⟨h.1, h.2.1⟩
  | q :: rs, o, i + 1, r, h, e => by
    simp only [RepRows] at h
    simp only [getL] at e
    have := RepRows.get h.2.2 e
    rwa [show o + w + i * w = o + (i + 1) * w by rw [Nat.succ_mul]; omega] at this
theorem RepRows.mk {Φ : Nat → Nat → Option Value} {w b : Nat} : ∀ {rs : List (List P)} {o : Nat}, (∀ i r, getL rs i = some r → r.length = w ∧ RepCells Φ b r (o + i * w)) → RepRows Φ w b rs o
  | [], _, _ => by simp [RepRows]
  | q :: rs, o, h => by
    simp only [RepRows]
    have h0 := h 0 q (by simp [getL])
    refine ⟨h0.1, by simpa using h0.2, RepRows.mk fun i r e => ?_⟩
    have := h (i + 1) r (by simpa [getL] using e)
    rwa [show o + w + i * w = o + (i + 1) * w by rw [Nat.succ_mul]; omega]

end Go.AE
end

section
namespace Go.AE
open Go

theorem plain_isCell : ∀ {v : Value}, plain v = true → isCell v = true := by
  intro v h; cases v <;> simp_all [plain, isCell]

theorem RepPs_sc {Φ : Nat → Nat → Option Value} : ∀ (vs : List Value), plainAll vs = true → RepPs Φ (vs.map .sc) vs
  | [], _ => by simp [RepPs]
  | v :: vs, h => by
    simp only [plainAll, List.all_cons, Bool.and_eq_true] at h
    simp only [List.map_cons, RepPs, RepP]
    exact ⟨v, vs, rfl, ⟨rfl, h.1⟩, RepPs_sc vs h.2⟩

theorem RepP_ofVal {Φ : Nat → Nat → Option Value} (v : Value) (h : plainV v = true) : RepP Φ (ofVal v) v := by
  unfold plainV at h
  split at h
  · rename_i cs
    simp only [ofVal, RepP]
    exact ⟨cs, rfl, by simpa using RepPs_sc cs.toList h⟩
  · rename_i vs
    simp only [ofVal, RepP]
    refine ⟨vs, rfl, ?_⟩
    refine RepPs.mk (by simp) fun i d v e e' => ?_
    rw [getL_map, getL_eq, e'] at e
    simp only [Option.map_some, Option.some.injEq] at e
    have hm : v ∈ vs.toList := List.mem_of_getElem? e'
    have hp := List.all_eq_true.1 h v hm
    subst e
    split at hp
    · rename_i cs
      simp only [RepP]
      exact ⟨cs, rfl, by simpa using RepPs_sc cs.toList hp⟩
    · simp only [RepP]; exact ⟨trivial, hp⟩
  · rename_i h1 h2
    unfold ofVal
    split
    · exact absurd rfl (h1 _)
    · exact absurd rfl (h2 _)
    · simp only [RepP]; exact ⟨trivial, h⟩

theorem scs_rep {Φ : Nat → Nat → Option Value} : ∀ {ps : List P} {vs us : List Value}, scs ps = some us → RepPs Φ ps vs → vs = us
  | [], vs, us, h, r => by simp only [scs, Option.some.injEq] at h; simp only [RepPs] at r; rw [r, h]
  | p :: ps, vs, us, h, r => by
    cases p <;> simp only [scs, reduceCtorEq] at h
    rename_i u
    simp only [Option.map_eq_some_iff] at h
    obtain ⟨us', h1, rfl⟩ := h
    simp only [RepPs, RepP] at r
    obtain ⟨v, vs', rfl, ⟨rfl, _⟩, h3⟩ := r
    rw [scs_rep h1 h3]

theorem P.val_rep {Φ : Nat → Nat → Option Value} {p : P} {u v : Value} (h : p.val = some u) (r : RepP Φ p v) : v = u := by
  cases p <;> simp only [P.val, Option.some.injEq, reduceCtorEq] at h
  · subst h; simp only [RepP] at r; exact r.1
  · simp only [Option.map_eq_some_iff] at h
    obtain ⟨us, h1, rfl⟩ := h
    simp only [RepP] at r
    obtain ⟨vs, rfl, h2⟩ := r
    have := scs_rep h1 h2
    subst this; simp

mutual
theorem D.toP_rep {C : Ctx} : ∀ {d : D} {p : P} {v : Value}, d.toP = some p → RepD C d v → RepP C.Φ p v
  | .p x, p, v, h, r => by simp only [D.toP, Option.some.injEq] at h; simp only [RepD] at r; subst h; exact r
  | .own w rows, p, v, h, r => by simp only [D.toP, Option.some.injEq] at h; simp only [RepD] at r; subst h; exact r
  | .lp _ _, _, _, h, _ => by simp [D.toP] at h
  | .ref _ _, _, _, h, _ => by simp [D.toP] at h
  | .ms _ _ _ _, _, _, h, _ => by simp [D.toP] at h
  | .mp _, _, _, h, _ => by simp [D.toP] at h
  | .dead, _, _, h, _ => by simp [D.toP] at h
  | .agg ds, p, v, h, r => by
    simp only [D.toP, Option.map_eq_some_iff] at h
    obtain ⟨ps, h1, rfl⟩ := h
    simp only [RepD] at r
    obtain ⟨vs, rfl, h2⟩ := r
    simp only [RepP]
    exact ⟨vs, rfl, toPs_rep h1 h2⟩
  | .fn f ds, p, v, h, r => by
    simp only [D.toP, Option.map_eq_some_iff] at h
    obtain ⟨ps, h1, rfl⟩ := h
    simp only [RepD] at r
    obtain ⟨vs, rfl, h2⟩ := r
    simp only [RepP]
    exact ⟨vs, rfl, toPs_rep h1 h2⟩
  | .tup ds, p, v, h, r => by
    simp only [D.toP, Option.map_eq_some_iff] at h
    obtain ⟨ps, h1, rfl⟩ := h
    simp only [RepD] at r
    obtain ⟨vs, rfl, h2⟩ := r
    simp only [RepP]
    exact ⟨vs, rfl, toPs_rep h1 h2⟩
theorem toPs_rep {C : Ctx} : ∀ {ds : List D} {ps : List P} {vs : List Value}, toPs ds = some ps → RepDs C ds vs → RepPs C.Φ ps vs
  | [], ps, vs, h, r => by simp only [toPs, Option.some.injEq] at h; simp only [RepDs] at r; subst h; simp [RepPs, r]
  | d :: ds, ps, vs, h, r => by
    simp only [toPs] at h
    split at h
    · rename_i x hx
      simp only [Option.map_eq_some_iff] at h
      obtain ⟨ps', h1, rfl⟩ := h
      simp only [RepDs] at r
      obtain ⟨v, vs', rfl, h2, h3⟩ := r
      simp only [RepPs]
      exact ⟨v, vs', rfl, D.toP_rep hx h2, toPs_rep h1 h3⟩
    · simp at h
end

theorem toPs_length : ∀ {ds : List D} {ps : List P}, toPs ds = some ps → ps.length = ds.length
  | [], ps, h => by simp only [toPs, Option.some.injEq] at h; subst h; rfl
  | d :: ds, ps, h => by
    simp only [toPs] at h
    split at h
    · simp only [Option.map_eq_some_iff] at h
      obtain ⟨ps', h1, rfl⟩ := h
      simp [toPs_length h1]
    · simp at h

theorem toPs_get : ∀ {ds : List D} {ps : List P} {i : Nat} {p : P}, toPs ds = some ps → getL ps i = some p → ∃ d, getL ds i = some d ∧ d.toP = some p
  | [], ps, i, p, h, e => by simp only [toPs, Option.some.injEq] at h; subst h; simp [getL] at e
  | d :: ds, ps, i, p, h, e => by
    simp only [toPs] at h
    split at h
    · rename_i x hx
      simp only [Option.map_eq_some_iff] at h
      obtain ⟨ps', h1, rfl⟩ := h
      cases i with
      | zero => simp only [getL, Option.some.injEq] at e; subst e; exact ⟨d, by simp [getL], hx⟩
      | succ i => simp only [getL] at e ⊢; exact toPs_get h1 e
    · simp at h

theorem D.val_rep {C : Ctx} {d : D} {u v : Value} (h : d.val = some u) (r : RepD C d v) : v = u := by
  simp only [D.val, Option.bind_eq_some_iff] at h
  obtain ⟨p, h1, h2⟩ := h
  exact P.val_rep h2 (D.toP_rep h1 r)

theorem RepD.down1 {C : Ctx} {d : D} {v : Value} (r : RepD C d v) : RepD C (down1 d) v := by
  cases d <;> simp only [Go.AE.down1] <;> first | exact r | (simp only [RepD] at r ⊢; exact r)
theorem RepDs.down1 {C : Ctx} : ∀ {ds : List D} {vs : List Value}, RepDs C ds vs → RepDs C (ds.map Go.AE.down1) vs
  | [], vs, h => by simpa [RepDs] using h
  | d :: ds, vs, h => by
    simp only [RepDs] at h
    obtain ⟨v, vs', rfl, h2, h3⟩ := h
    simp only [List.map_cons, RepDs]
    exact ⟨v, vs', rfl, h2.down1, h3.down1⟩
theorem RepD.down {C : Ctx} {d : D} {v : Value} (r : RepD C d v) : RepD C (downD d) v := by
  cases d with
  | own w rows => simp only [downD, RepD] at r ⊢; exact r
  | agg ds =>
    simp only [downD, RepD] at r ⊢
    obtain ⟨vs, h1, h2⟩ := r
    exact ⟨vs, h1, h2.down1⟩
  | tup ds =>
    simp only [downD, RepD] at r ⊢
    obtain ⟨vs, h1, h2⟩ := r
    exact ⟨vs, h1, h2.down1⟩
  | _ => exact r

theorem cellP_isCell {Φ : Nat → Nat → Option Value} {p : P} {v : Value} (h : cellP p = true) (r : RepP Φ p v) : isCell v = true := by
  cases p <;> simp only [cellP, Bool.false_eq_true] at h <;> simp only [RepP] at r
  · rw [r.1]; exact plain_isCell r.2
  · obtain ⟨b, o, cap, rfl, _⟩ := r; rfl
  · obtain ⟨b, o, rfl, _⟩ := r; rfl
  · obtain ⟨cs, rfl, _⟩ := r; rfl
  · obtain ⟨cs, rfl, _⟩ := r; rfl
theorem cellD_isCell {C : Ctx} {d : D} {v : Value} (h : cellD d = true) (r : RepD C d v) : isCell v = true := by
  cases d <;> simp only [cellD, Bool.false_eq_true] at h <;> simp only [RepD] at r
  · exact cellP_isCell h r
  · simp only [RepP] at r; obtain ⟨b, o, cap, rfl, _⟩ := r; rfl
  · rw [r.2]; rfl
  · rw [r.2]; rfl
  · obtain ⟨_, cap, rfl, _⟩ := r; rfl
  · rw [r.2]; rfl
  · obtain ⟨cs, rfl, _⟩ := r; rfl

/-- the cells of what may be laid into memory -/
theorem okCells_rep {C : Ctx} {d : D} {v : Value} (h : okCells d = true) (r : RepD C d v) :
    RepDs C d.cells v.cells.toList ∧ ∀ u ∈ v.cells.toList, isCell u = true := by
  unfold okCells at h
  split at h
  · rename_i ps
    simp only [RepD, RepP] at r
    obtain ⟨vs, rfl, h2⟩ := r
    simp only [D.cells, Value.cells]
    refine ⟨h2.toD, fun u hu => ?_⟩
    obtain ⟨i, hi⟩ := List.getElem?_of_mem hu
    have hl := h2.length
    have hlt : i < ps.length := by rw [hl]; exact (List.getElem?_eq_some_iff.1 hi).1
    obtain ⟨u', e1, e2⟩ := h2.get (i := i) (d := ps[i]) (by rw [getL_eq]; simp [hlt])
    rw [hi, Option.some.injEq] at e1; subst e1
    exact cellP_isCell (List.all_eq_true.1 h _ (List.getElem_mem hlt)) e2
  · rename_i ds
    simp only [RepD] at r
    obtain ⟨vs, rfl, h2⟩ := r
    simp only [D.cells, Value.cells]
    refine ⟨h2, fun u hu => ?_⟩
    obtain ⟨i, hi⟩ := List.getElem?_of_mem hu
    have hl := h2.length
    have hlt : i < ds.length := by rw [hl]; exact (List.getElem?_eq_some_iff.1 hi).1
    obtain ⟨u', e1, e2⟩ := h2.get (i := i) (d := ds[i]) (by rw [getL_eq]; simp [hlt])
    rw [hi, Option.some.injEq] at e1; subst e1
    exact cellD_isCell (List.all_eq_true.1 h _ (List.getElem_mem hlt)) e2
  · rename_i h1 h2
    have hc := cellD_isCell h r
    have e1 : d.cells = [d] := by
      cases d with
      | p x => cases x with
        | agg ps => exact absurd rfl (h1 _)
        | _ => rfl
      | agg ds => exact absurd rfl (h2 _)
      | _ => rfl
    have e2 : v.cells = #[v] := by
      cases v <;> simp_all [Value.cells, isCell]
    rw [e1, e2]
    exact ⟨by simp [RepDs, r], by simpa using hc⟩

/-! ### pure runs -/
theorem pureRun_run {α : Type} {T : Program} : ∀ {s : Sem α} {x : α}, pureRun T s = some x → ∀ w, s.run T w = .ok x w
  | .pure _, x, h, w => by simp only [pureRun, Option.some.injEq] at h; subst h; rfl
  | .program k, x, h, w => by simp only [pureRun] at h; simp only [Sem.run]; exact pureRun_run h w
  | .mark _ k, x, h, w => by simp only [pureRun] at h; simp only [Sem.run]; exact pureRun_run h w
  | .load .., _, h, _ => by simp [pureRun] at h
  | .store .., _, h, _ => by simp [pureRun] at h
  | .new .., _, h, _ => by simp [pureRun] at h
  | .shape .., _, h, _ => by simp [pureRun] at h
  | .freeze .., _, h, _ => by simp [pureRun] at h
  | .frozen .., _, h, _ => by simp [pureRun] at h
  | .getObj .., _, h, _ => by simp [pureRun] at h
  | .setObj .., _, h, _ => by simp [pureRun] at h
  | .choose .., _, h, _ => by simp [pureRun] at h
  | .sys .., _, h, _ => by simp [pureRun] at h
  | .halt .., _, h, _ => by simp [pureRun] at h

theorem valsOf_get {r : List D} : ∀ {xs : List Operand} {vs : List Value}, valsOf r xs = some vs → ∀ x ∈ xs, ∃ v, (opdD r x).val = some v
  | [], _, _, x, hx => by simp at hx
  | y :: ys, vs, h, x, hx => by
    simp only [valsOf] at h
    split at h
    · rename_i v hv
      simp only [Option.map_eq_some_iff] at h
      obtain ⟨vs', h1, _⟩ := h
      rcases List.mem_cons.1 hx with rfl | hx
      · exact ⟨v, hv⟩
      · exact valsOf_get h1 x hx
    · simp at h
theorem valsOf_map {r : List D} (g : Operand → Value) : ∀ {xs : List Operand} {vs : List Value}, valsOf r xs = some vs → (∀ x ∈ xs, ∀ v, (opdD r x).val = some v → g x = v) → xs.map g = vs
  | [], vs, h, _ => by simp only [valsOf, Option.some.injEq] at h; simp [← h]
  | y :: ys, vs, h, hg => by
    simp only [valsOf] at h
    split at h
    · rename_i v hv
      simp only [Option.map_eq_some_iff] at h
      obtain ⟨vs', h1, rfl⟩ := h
      rw [List.map_cons, hg y (by simp) v hv, valsOf_map g h1 fun x hx => hg x (by simp [hx])]
    · simp at h

end Go.AE
end

section
namespace Go.AE
open Go

/-! ### a state and what it stands for -/
def cellsOf (st : St) : K → Option (List D)
  | .box s => match getL st.b s with | some (.live ds) => some ds | _ => none
  | .blk id => match getL st.h id with | some (.cells ds) => some ds | _ => none
/-- blocks that nobody else holds -/
def liveK (st : St) : K → Bool
  | .box s => match getL st.b s with | some (.live _) => true | _ => false
  | .blk id => match getL st.h id with | some (.cells _) => true | some (.map _ _) => true | _ => false

inductive Pos where
  | reg (i : Nat)
  | cell (k : K) (j : Nat)
  | ex (j : Nat)
  | blk (k : K)
  deriving DecidableEq

def both {α β : Type} : Option α → Option β → Option (α × β)
  | some a, some b => some (a, b)
  | _, _ => none

def loose : D → Bool
  | .own .. => false
  | _ => true

/-- what stands where -/
def atPos (C : Ctx) (st : St) (tm : Array Value) (w : World) (ex : List (D × Value)) : Pos → Option (D × Value)
  | .reg i => both (getL st.r i) tm[i]?
  | .cell k j => both ((cellsOf st k).bind (getL · j)) (w.cell? ⟨C.β k, j, none⟩)
  | .ex j => getL ex j
  | .blk _ => none

/-- the block whose places behind the end are somebody's alone -/
def tailBlk : D → Value → Option Nat
  | .own _ _, .slice (some a) n cap => if n < cap then some a.block else none
  | _, _ => none

def xb (C : Ctx) (st : St) (tm : Array Value) (w : World) (ex : List (D × Value)) : Pos → Option Nat
  | .blk k => if liveK st k then some (C.β k) else none
  | p => (atPos C st tm w ex p).bind fun q => tailBlk q.1 q.2

/-- places behind the end: nobody reads them, and they may be written -/
def TailOK (C : Ctx) (w : World) : D → Value → Prop
  | .own wd _, .slice (some a) n cap => n < cap →
      (∀ o, a.off + n * wd ≤ o → C.Φ a.block o = none) ∧
      (∀ o, a.off + n * wd ≤ o → o < a.off + cap * wd → (w.cell? ⟨a.block, o, none⟩).isSome = true ∧ w.frozen? ⟨a.block, o, none⟩ = false)
  | _, _ => True

/-- the world as it was when the function began -/
structure Base where
  w : World
  Φ : Nat → Nat → Option Value
  X : Nat → Prop
  nh : Nat
  β : Nat → Nat

def SubΦ (Φ : Nat → Nat → Option Value) (w : World) : Prop := ∀ b o v, Φ b o = some v → w.cell? ⟨b, o, none⟩ = some v

structure Frm (B : Base) (Φ : Nat → Nat → Option Value) (w : World) : Prop where
  os : w.os = B.w.os
  tape : w.tape = B.w.tape
  output : w.output = B.w.output
  size : B.w.heap.size ≤ w.heap.size
  block : ∀ b, b < B.w.heap.size → ¬ B.X b → w.heap[b]? = B.w.heap[b]?
  Φblock : ∀ b, b < B.w.heap.size → ¬ B.X b → ∀ o, Φ b o = B.Φ b o
  Φle : Le B.Φ Φ

def DefR (C : Ctx) : (FuncId × List D) → Deferred → Prop
  | (f, ds), d => okArgs ds = true ∧ ∃ cs, d.target = .fn (.func f) cs ∧ RepDs C ds (d.args.toList ++ cs.toList)

def MapR (C : Ctx) (es : List (P × D × Nat)) (ms : Array MapEntry) : Prop :=
  ms.size = es.length ∧ ∀ i q me, getL es i = some q → ms[i]? = some me → me.born = q.2.2 ∧ RepP C.Φ q.1 me.key ∧ RepD C q.2.1 me.val ∧ okArg q.2.1 = true ∧ loose q.2.1 = true

structure Rel (B : Base) (C : Ctx) (st : St) (a : Act) (w : World) (ex : List (D × Value)) : Prop where
  len : a.tmps.size = st.r.length
  regs : ∀ i d v, getL st.r i = some d → a.tmps[i]? = some v → RepD C d v
  exs : ∀ i q, getL ex i = some q → RepD C q.1 q.2
  cells : ∀ k ds j d, cellsOf st k = some ds → getL ds j = some d →
    okArg d = true ∧ ∃ v, w.cell? ⟨C.β k, j, none⟩ = some v ∧ isCell v = true ∧ RepD C d v ∧ w.frozen? ⟨C.β k, j, none⟩ = false
  al : ∀ s, C.al s ↔ boxed st s = true
  seals : ∀ s ps, getL st.b s = some (.sealed ps) → RepCells C.Φ (C.β (.box s)) ps 0
  frzs : ∀ id ps, getL st.h id = some (.froz ps) → RepCells C.Φ (C.β (.blk id)) ps 0
  nh : C.nh = st.h.length
  hb : B.nh ≤ st.h.length ∧ ∀ id, id < B.nh → C.β (.blk id) = B.β id
  tails : ∀ p d v, atPos C st a.tmps w ex p = some (d, v) → TailOK C w d v
  inj : ∀ p q n, xb C st a.tmps w ex p = some n → xb C st a.tmps w ex q = some n → p = q
  bound : ∀ p n, xb C st a.tmps w ex p = some n → n < w.heap.size ∧ (B.w.heap.size ≤ n ∨ B.X n)
  empty : ∀ k, liveK st k = true → ∀ o, C.Φ (C.β k) o = none
  sub : SubΦ C.Φ w
  frm : Frm B C.Φ w
  defs : st.df.length = a.defers.length
  defr : ∀ i q d, getL st.df i = some q → a.defers[i]? = some d → DefR C q d
  maps : ∀ id es clock, getL st.h id = some (.map es clock) → ∃ ms, w.heap[C.β (.blk id)]? = some (.map ms clock) ∧ MapR C es ms

end Go.AE
end

section
namespace Go.AE
open Go

def isRE : Pos → Bool
  | .reg _ | .ex _ => true
  | _ => false

theorem tailBlk_loose {d : D} {v : Value} (h : loose d = true) : tailBlk d v = none := by
  cases d <;> simp_all [loose, tailBlk]
theorem TailOK_loose {C : Ctx} {w : World} {d : D} {v : Value} (h : loose d = true) : TailOK C w d v := by
  cases d <;> simp_all [loose, TailOK]
theorem TailOK_none {C : Ctx} {w : World} {d : D} {v : Value} (h : tailBlk d v = none) : TailOK C w d v := by
  unfold tailBlk at h
  unfold TailOK
  split
  · simp only [] at h
    intro hn
    rw [if_pos hn] at h; cases h
  · trivial
theorem loose_down1 (d : D) : loose (down1 d) = true := by cases d <;> rfl
theorem loose_downD (d : D) : loose (downD d) = true := by cases d <;> rfl

section
variable {B : Base} {C : Ctx} {st st' : St} {a a' : Act} {w : World} {ex ex' : List (D × Value)}

theorem xb_nonRE {p : Pos} (hp : isRE p = false) (hb : st'.b = st.b) (hh : st'.h = st.h) :
    xb C st' a'.tmps w ex' p = xb C st a.tmps w ex p ∧ atPos C st' a'.tmps w ex' p = atPos C st a.tmps w ex p := by
  have hc : ∀ k, cellsOf st' k = cellsOf st k := by intro k; cases k <;> simp [cellsOf, hb, hh]
  have hl : ∀ k, liveK st' k = liveK st k := by intro k; cases k <;> simp [liveK, hb, hh]
  cases p with
  | reg i => simp [isRE] at hp
  | ex j => simp [isRE] at hp
  | cell k j => simp [xb, atPos, hc]
  | blk k => simp [xb, hl, atPos]

theorem xb_RE {p : Pos} {n : Nat} (hp : isRE p = true) (h : xb C st a.tmps w ex p = some n) :
    ∃ d v, atPos C st a.tmps w ex p = some (d, v) ∧ tailBlk d v = some n := by
  cases p with
  | reg i => simp only [xb, Option.bind_eq_some_iff] at h; obtain ⟨⟨d, v⟩, h1, h2⟩ := h; exact ⟨d, v, h1, h2⟩
  | ex j => simp only [xb, Option.bind_eq_some_iff] at h; obtain ⟨⟨d, v⟩, h1, h2⟩ := h; exact ⟨d, v, h1, h2⟩
  | cell k j => simp [isRE] at hp
  | blk k => simp [isRE] at hp
theorem xb_of_RE {p : Pos} {n : Nat} {d : D} {v : Value} (hp : isRE p = true) (h : atPos C st a.tmps w ex p = some (d, v)) (ht : tailBlk d v = some n) :
    xb C st a.tmps w ex p = some n := by
  cases p with
  | reg i => simp only [xb, h, Option.bind_some, ht]
  | ex j => simp only [xb, h, Option.bind_some, ht]
  | cell k j => simp [isRE] at hp
  | blk k => simp [isRE] at hp

/-- registers move about; memory stays -/
theorem Rel.shift (R : Rel B C st a w ex) (hb : st'.b = st.b) (hh : st'.h = st.h) (hlen : a'.tmps.size = st'.r.length)
    (hdl : st'.df.length = a'.defers.length) (hdr : ∀ i q d, getL st'.df i = some q → a'.defers[i]? = some d → DefR C q d)
    (f : Pos → Pos) (hfre : ∀ p, isRE p = true → isRE (f p) = true)
    (hat : ∀ p d v, isRE p = true → atPos C st' a'.tmps w ex' p = some (d, v) → RepD C d v ∧ (tailBlk d v = none ∨ atPos C st a.tmps w ex (f p) = some (d, v)))
    (hinj : ∀ p q d v d' v', isRE p = true → isRE q = true → atPos C st' a'.tmps w ex' p = some (d, v) → atPos C st' a'.tmps w ex' q = some (d', v') →
      tailBlk d v ≠ none → tailBlk d' v' ≠ none → f p = f q → p = q) : Rel B C st' a' w ex' := by
  have hc : ∀ k, cellsOf st' k = cellsOf st k := by intro k; cases k <;> simp [cellsOf, hb, hh]
  have hl : ∀ k, liveK st' k = liveK st k := by intro k; cases k <;> simp [liveK, hb, hh]
  have back : ∀ p n, isRE p = true → xb C st' a'.tmps w ex' p = some n → xb C st a.tmps w ex (f p) = some n ∧ ∃ d v, atPos C st' a'.tmps w ex' p = some (d, v) ∧ tailBlk d v ≠ none := by
    intro p n hp h
    obtain ⟨d, v, h1, h2⟩ := xb_RE hp h
    obtain ⟨_, h3⟩ := hat p d v hp h1
    have hd : tailBlk d v ≠ none := by rw [h2]; simp
    rcases h3 with h3 | h3
    · exact absurd h3 hd
    · exact ⟨xb_of_RE (hfre p hp) h3 h2, d, v, h1, hd⟩
  refine { len := hlen, regs := ?_, exs := ?_, cells := ?_, seals := by rw [hb]; exact R.seals, frzs := by rw [hh]; exact R.frzs, nh := by rw [hh]; exact R.nh, hb := by rw [hh]; exact R.hb, tails := ?_, inj := ?_,
             bound := ?_, empty := ?_, sub := R.sub, frm := R.frm, defs := hdl, defr := hdr, maps := by rw [hh]; exact R.maps, al := by intro s; rw [R.al s]; simp [boxed, hb] }
  · intro i d v h1 h2
    exact (hat (.reg i) d v rfl (by simp [atPos, both, h1, h2])).1
  · intro i q h
    exact (hat (.ex i) q.1 q.2 rfl (by simp [atPos, h])).1
  · intro k ds j d h1 h2
    rw [hc] at h1
    exact R.cells k ds j d h1 h2
  · intro p d v h
    cases hp : isRE p with
    | true =>
      obtain ⟨_, h3⟩ := hat p d v hp h
      rcases h3 with h3 | h3
      · exact TailOK_none h3
      · exact R.tails _ _ _ h3
    | false =>
      cases p with
      | reg i => simp [isRE] at hp
      | ex j => simp [isRE] at hp
      | cell k j => rw [(xb_nonRE (a := a) (a' := a') (ex := ex) (ex' := ex') (C := C) (w := w) hp hb hh).2] at h; exact R.tails _ _ _ h
      | blk k => simp [atPos] at h
  · intro p q n h1 h2
    cases hp : isRE p with
    | true =>
      obtain ⟨b1, d, v, e1, l1⟩ := back p n hp h1
      cases hq : isRE q with
      | true =>
        obtain ⟨b2, d', v', e2, l2⟩ := back q n hq h2
        exact hinj p q d v d' v' hp hq e1 e2 l1 l2 (R.inj _ _ n b1 b2)
      | false =>
        rw [(xb_nonRE (a := a) (a' := a') (ex := ex) (ex' := ex') (C := C) (w := w) hq hb hh).1] at h2
        have := R.inj _ _ n b1 h2
        have := hfre p hp
        simp_all
    | false =>
      rw [(xb_nonRE (a := a) (a' := a') (ex := ex) (ex' := ex') (C := C) (w := w) hp hb hh).1] at h1
      cases hq : isRE q with
      | true =>
        obtain ⟨b2, d', v', e2, l2⟩ := back q n hq h2
        have := R.inj _ _ n h1 b2
        have := hfre q hq
        simp_all
      | false =>
        rw [(xb_nonRE (a := a) (a' := a') (ex := ex) (ex' := ex') (C := C) (w := w) hq hb hh).1] at h2
        exact R.inj _ _ n h1 h2
  · intro p n h
    cases hp : isRE p with
    | true => exact R.bound _ n (back p n hp h).1
    | false => rw [(xb_nonRE (a := a) (a' := a') (ex := ex) (ex' := ex') (C := C) (w := w) hp hb hh).1] at h; exact R.bound _ n h
  · intro k h
    rw [hl] at h
    exact R.empty k h
end
end Go.AE
end

section
namespace Go.AE
open Go
section
variable {B : Base} {C : Ctx} {st st' : St} {a a' : Act} {w : World} {ex ex' : List (D × Value)}

theorem both_some {α β : Type} {x : Option α} {y : Option β} {q : α × β} : both x y = some q ↔ x = some q.1 ∧ y = some q.2 := by
  cases x <;> cases y <;> simp [both]
  rename_i a b
  constructor
  · rintro rfl; exact ⟨rfl, rfl⟩
  · rintro ⟨rfl, rfl⟩; rfl

theorem Rel.at {p : Pos} {d : D} {v : Value} (R : Rel B C st a w ex) (hp : isRE p = true) (h : atPos C st a.tmps w ex p = some (d, v)) : RepD C d v := by
  cases p with
  | reg i => simp only [atPos, both_some] at h; exact R.regs i d v h.1 h.2
  | ex j => simp only [atPos] at h; exact R.exs j _ h
  | cell k j => simp [isRE] at hp
  | blk k => simp [isRE] at hp

theorem Rel.drop {q : D × Value} (R : Rel B C st a w (q :: ex)) : Rel B C st a w ex := by
  refine R.shift rfl rfl R.len R.defs R.defr (fun | .ex j => .ex (j + 1) | p => p) ?_ ?_ ?_
  · intro p hp; cases p <;> simp_all [isRE]
  · intro p d v hp h
    cases p with
    | reg i => exact ⟨R.at (p := .reg i) rfl h, .inr h⟩
    | ex j => exact ⟨R.at (p := .ex (j + 1)) rfl (by simpa [atPos, getL] using h), .inr (by simpa [atPos, getL] using h)⟩
    | cell k j => simp [isRE] at hp
    | blk k => simp [isRE] at hp
  · intro p q d v d' v' hp hq _ _ _ _ e
    cases p <;> cases q <;> simp_all [isRE]

theorem Rel.pushT {d : D} {v : Value} (R : Rel B C st a w ex) (hl : tailBlk d v = none) (hr : RepD C d v) : Rel B C st a w ((d, v) :: ex) := by
  refine R.shift rfl rfl R.len R.defs R.defr (fun | .ex (j + 1) => .ex j | p => p) ?_ ?_ ?_
  · intro p hp
    cases p with
    | reg i => rfl
    | ex j => cases j <;> rfl
    | cell k j => simp [isRE] at hp
    | blk k => simp [isRE] at hp
  · intro p d' v' hp h
    cases p with
    | reg i => exact ⟨R.at (p := .reg i) rfl h, .inr h⟩
    | ex j =>
      cases j with
      | zero => simp only [atPos, getL, Option.some.injEq, Prod.mk.injEq] at h; obtain ⟨rfl, rfl⟩ := h; exact ⟨hr, .inl hl⟩
      | succ j => exact ⟨R.at (p := .ex j) rfl (by simpa [atPos, getL] using h), .inr (by simpa [atPos, getL] using h)⟩
    | cell k j => simp [isRE] at hp
    | blk k => simp [isRE] at hp
  · intro p q d1 v1 d2 v2 hp hq h1 h2 l1 l2 e
    have nz : ∀ {d1 v1}, atPos C st a.tmps w ((d, v) :: ex) (.ex 0) = some (d1, v1) → tailBlk d1 v1 = none := by
      intro d1 v1 h; simp only [atPos, getL, Option.some.injEq, Prod.mk.injEq] at h; rw [← h.1, ← h.2]; exact hl
    cases p with
    | cell k j => simp [isRE] at hp
    | blk k => simp [isRE] at hp
    | reg i =>
      cases q with
      | cell k j => simp [isRE] at hq
      | blk k => simp [isRE] at hq
      | reg j => simpa using e
      | ex j => cases j <;> simp at e
    | ex i =>
      cases i with
      | zero => exact absurd (nz h1) l1
      | succ i =>
        cases q with
        | cell k j => simp [isRE] at hq
        | blk k => simp [isRE] at hq
        | reg j => simp at e
        | ex j =>
          cases j with
          | zero => exact absurd (nz h2) l2
          | succ j => simpa using e

theorem Rel.push {d : D} {v : Value} (R : Rel B C st a w ex) (hl : loose d = true) (hr : RepD C d v) : Rel B C st a w ((d, v) :: ex) :=
  R.pushT (tailBlk_loose hl) hr

theorem Rel.put {dst : Option Tmp} {d : D} {v : Value} (R : Rel B C st a w ((d, v) :: ex)) : Rel B C (putR st dst d) (a.put dst v) w ex := by
  cases dst with
  | none => exact R.drop
  | some t =>
    by_cases ht : t < st.r.length
    case neg =>
      have e1 : putR st (some t) d = st := by
        simp only [putR]; rw [setL_eq, List.set_eq_of_length_le (Nat.le_of_not_lt ht)]
      have e2 : a.put (some t) v = a := by
        simp only [Act.put]; rw [Array.setIfInBounds_eq_of_size_le (by rw [R.len]; exact Nat.le_of_not_lt ht)]
      rw [e1, e2]; exact R.drop
    have ha : (a.put (some t) v).tmps = a.tmps.setIfInBounds t v := rfl
    have ht' : t < a.tmps.size := by rw [R.len]; exact ht
    refine R.shift rfl rfl (by simp [putR, ha, length_setL, R.len]) R.defs R.defr (fun | .reg i => if i = t then .ex 0 else .reg i | .ex j => .ex (j + 1) | p => p) ?_ ?_ ?_
    · intro p hp
      cases p with
      | reg i => simp only []; split <;> rfl
      | ex j => rfl
      | cell k j => simp [isRE] at hp
      | blk k => simp [isRE] at hp
    · intro p d' v' hp h
      cases p with
      | reg i =>
        simp only [atPos, putR, ha, both_some, getL_setL, Array.getElem?_setIfInBounds] at h
        by_cases hi : i = t
        · subst hi
          simp only [true_and, ht, ht', if_true, Option.some.injEq] at h
          obtain ⟨rfl, rfl⟩ := h
          exact ⟨R.exs 0 (d, v) (by simp [getL]), .inr (by simp [atPos, getL])⟩
        · rw [if_neg (by omega), if_neg (by omega)] at h
          refine ⟨R.regs i d' v' h.1 h.2, .inr ?_⟩
          simp only [hi, if_false, atPos, both_some]; exact h
      | ex j => exact ⟨R.at (p := .ex (j + 1)) rfl (by simpa [atPos, getL] using h), .inr (by simpa [atPos, getL] using h)⟩
      | cell k j => simp [isRE] at hp
      | blk k => simp [isRE] at hp
    · intro p q d1 v1 d2 v2 hp hq h1 h2 l1 l2 e
      cases p with
      | cell k j => simp [isRE] at hp
      | blk k => simp [isRE] at hp
      | reg i =>
        cases q with
        | cell k j => simp [isRE] at hq
        | blk k => simp [isRE] at hq
        | reg j =>
          simp only [] at e
          by_cases hi : i = t <;> by_cases hj : j = t <;> simp_all
        | ex j => simp only [] at e; split at e <;> simp at e
      | ex i =>
        cases q with
        | cell k j => simp [isRE] at hq
        | blk k => simp [isRE] at hq
        | reg j => simp only [] at e; split at e <;> simp at e
        | ex j => simpa using e

theorem Act.eval_tmp (a : Act) (t : Tmp) : a.eval (.tmp t) = (a.tmps[t]?).getD undef := by
  simp [Act.eval, Array.getD_eq_getD_getElem?]

/-- what an operand stands for -/
theorem Rel.opd (R : Rel B C st a w ex) (x : Operand) : RepD C (opdD st.r x) (a.eval x) := by
  cases x with
  | tmp t =>
    simp only [opdD]
    rw [Act.eval_tmp]
    cases h : getL st.r t with
    | none => simp [RepD]
    | some d =>
      have ht : t < a.tmps.size := by rw [R.len]; exact getL_lt h
      have hv : a.tmps[t]? = some a.tmps[t] := by simp [ht]
      rw [hv]
      exact R.regs t d _ h hv
  | const v =>
    simp only [opdD, Act.eval]
    split
    · rename_i hp; simp only [RepD]; exact RepP_ofVal v hp
    · simp [RepD]
  | global g => simp [opdD, RepD]
  | func f =>
    simp only [opdD, Act.eval, RepD]
    exact ⟨#[], rfl, by simp [RepDs]⟩

/-- a register hands its tail on -/
theorem Rel.give (R : Rel B C st a w ex) (t : Tmp) : Rel B C (giveR st t) a w ((opdD st.r (.tmp t), a.eval (.tmp t)) :: ex) := by
  have hop := R.opd (.tmp t)
  cases hg : getL st.r t with
  | none =>
    have e1 : giveR st t = st := by
      simp only [giveR]; rw [setL_eq, List.set_eq_of_length_le]
      rw [getL_eq] at hg; exact List.getElem?_eq_none_iff.1 hg
    rw [e1]
    refine R.push ?_ hop
    simp [opdD, hg, loose]
  | some dt =>
    have ht := getL_lt hg
    have ht' : t < a.tmps.size := by rw [R.len]; exact ht
    have hd : opdD st.r (.tmp t) = dt := by simp [opdD, hg]
    have hv : a.tmps[t]? = some (a.eval (.tmp t)) := by rw [Act.eval_tmp]; simp [ht']
    have hgr : (giveR st t).r = setL st.r t (downD dt) := by simp [giveR, hg]
    refine R.shift rfl rfl (by simp [hgr, length_setL, R.len]) R.defs R.defr (fun | .ex 0 => .reg t | .ex (j + 1) => .ex j | p => p) ?_ ?_ ?_
    · intro p hp
      cases p with
      | reg i => rfl
      | ex j => cases j <;> rfl
      | cell k j => simp [isRE] at hp
      | blk k => simp [isRE] at hp
    · intro p d' v' hp h
      cases p with
      | reg i =>
        simp only [atPos, hgr, both_some, getL_setL] at h
        by_cases hi : i = t
        · subst hi
          simp only [true_and, ht, if_true, Option.some.injEq] at h
          obtain ⟨rfl, h2⟩ := h
          rw [hv] at h2; simp only [Option.some.injEq] at h2; subst h2
          exact ⟨(R.regs _ _ _ hg hv).down, .inl (tailBlk_loose (loose_downD _))⟩
        · rw [if_neg (by omega)] at h
          exact ⟨R.regs i d' v' h.1 h.2, .inr (by simp only [atPos, both_some]; exact h)⟩
      | ex j =>
        cases j with
        | zero =>
          simp only [atPos, getL, Option.some.injEq, Prod.mk.injEq] at h
          obtain ⟨rfl, rfl⟩ := h
          exact ⟨hop, .inr (by simp only [atPos, both_some, hd]; exact ⟨hg, hv⟩)⟩
        | succ j => exact ⟨R.at (p := .ex j) rfl (by simpa [atPos, getL] using h), .inr (by simpa [atPos, getL] using h)⟩
      | cell k j => simp [isRE] at hp
      | blk k => simp [isRE] at hp
    · intro p q d1 v1 d2 v2 hp hq h1 h2 l1 l2 e
      have nt : ∀ {d1 v1}, atPos C (giveR st t) a.tmps w ((opdD st.r (.tmp t), a.eval (.tmp t)) :: ex) (.reg t) = some (d1, v1) → tailBlk d1 v1 = none := by
        intro d1 v1 h
        simp only [atPos, hgr, both_some, getL_setL, ht, and_self, if_true, Option.some.injEq] at h
        rw [← h.1]; exact tailBlk_loose (loose_downD _)
      cases p with
      | cell k j => simp [isRE] at hp
      | blk k => simp [isRE] at hp
      | reg i =>
        cases q with
        | cell k j => simp [isRE] at hq
        | blk k => simp [isRE] at hq
        | reg j => simpa using e
        | ex j =>
          cases j with
          | zero => simp only [Pos.reg.injEq] at e; subst e; exact absurd (nt h1) l1
          | succ j => simp at e
      | ex i =>
        cases q with
        | cell k j => simp [isRE] at hq
        | blk k => simp [isRE] at hq
        | reg j =>
          cases i with
          | zero => simp only [Pos.reg.injEq] at e; subst e; exact absurd (nt h2) l2
          | succ i => simp at e
        | ex j =>
          cases i with
          | zero => cases j with
            | zero => rfl
            | succ j => simp at e
          | succ i => cases j with
            | zero => simp at e
            | succ j => simpa using e
end
end Go.AE
end

section
namespace Go.AE
open Go

mutual
theorem RepD_al {C : Ctx} : ∀ {d : D} {v : Value}, RepD C d v → lpD C.al d
  | .lp s _, v, h => by simp only [RepD] at h; simp only [lpD]; exact h.1
  | .agg ds, v, h => by simp only [RepD] at h; obtain ⟨vs, _, h⟩ := h; simp only [lpD]; exact RepDs_al h
  | .fn _ ds, v, h => by simp only [RepD] at h; obtain ⟨vs, _, h⟩ := h; simp only [lpD]; exact RepDs_al h
  | .tup ds, v, h => by simp only [RepD] at h; obtain ⟨vs, _, h⟩ := h; simp only [lpD]; exact RepDs_al h
  | .p _, _, _ => by simp [lpD]
  | .own _ _, _, _ => by simp [lpD]
  | .ref _ _, _, _ => by simp [lpD]
  | .ms _ _ _ _, _, _ => by simp [lpD]
  | .mp _, _, _ => by simp [lpD]
  | .dead, _, _ => by simp [lpD]
theorem RepDs_al {C : Ctx} : ∀ {ds : List D} {vs : List Value}, RepDs C ds vs → lpDs C.al ds
  | [], _, _ => by simp [lpDs]
  | d :: ds, vs, h => by
    simp only [RepDs] at h
    obtain ⟨v, vs', _, h2, h3⟩ := h
    simp only [lpDs]; exact ⟨RepD_al h2, RepDs_al h3⟩
end
mutual
theorem lpD_mono {S S' : Nat → Prop} (h : ∀ s, S s → S' s) : ∀ {d : D}, lpD S d → lpD S' d
  | .lp s _, l => by simp only [lpD] at l ⊢; exact h s l
  | .agg ds, l => by simp only [lpD] at l ⊢; exact lpDs_mono h l
  | .fn _ ds, l => by simp only [lpD] at l ⊢; exact lpDs_mono h l
  | .tup ds, l => by simp only [lpD] at l ⊢; exact lpDs_mono h l
  | .p _, _ => by simp [lpD]
  | .own _ _, _ => by simp [lpD]
  | .ref _ _, _ => by simp [lpD]
  | .ms _ _ _ _, _ => by simp [lpD]
  | .mp _, _ => by simp [lpD]
  | .dead, _ => by simp [lpD]
theorem lpDs_mono {S S' : Nat → Prop} (h : ∀ s, S s → S' s) : ∀ {ds : List D}, lpDs S ds → lpDs S' ds
  | [], _ => by simp [lpDs]
  | d :: ds, l => by simp only [lpDs] at l ⊢; exact ⟨lpD_mono h l.1, lpDs_mono h l.2⟩
end
mutual
theorem mentions_lpD {s : Nat} : ∀ {d : D}, mentions s d = false → lpD (· ≠ s) d
  | .lp s' _, h => by simp only [mentions, beq_eq_false_iff_ne] at h; simp only [lpD]; exact fun e => h e.symm
  | .agg ds, h => by simp only [mentions] at h; simp only [lpD]; exact mentions_lpDs h
  | .fn _ ds, h => by simp only [mentions] at h; simp only [lpD]; exact mentions_lpDs h
  | .tup ds, h => by simp only [mentions] at h; simp only [lpD]; exact mentions_lpDs h
  | .p _, _ => by simp [lpD]
  | .own _ _, _ => by simp [lpD]
  | .ref _ _, _ => by simp [lpD]
  | .ms _ _ _ _, _ => by simp [lpD]
  | .mp _, _ => by simp [lpD]
  | .dead, _ => by simp [lpD]
theorem mentions_lpDs {s : Nat} : ∀ {ds : List D}, mentionsAny s ds = false → lpDs (· ≠ s) ds
  | [], _ => by simp [lpDs]
  | d :: ds, h => by simp only [mentionsAny, Bool.or_eq_false_iff] at h; simp only [lpDs]; exact ⟨mentions_lpD h.1, mentions_lpDs h.2⟩
end

theorem cell?_lt {w : World} {b o : Nat} {v : Value} (h : w.cell? ⟨b, o, none⟩ = some v) : b < w.heap.size := by
  simp only [World.cell?] at h
  cases e : w.heap[b]? with
  | none => rw [e] at h; simp at h
  | some x => exact (Array.getElem?_eq_some_iff.1 e).1
theorem cell?_of_heap {w w' : World} {b o : Nat} (h : w'.heap[b]? = w.heap[b]?) : w'.cell? ⟨b, o, none⟩ = w.cell? ⟨b, o, none⟩ := by
  simp only [World.cell?, h]
theorem frozen?_of_heap {w w' : World} {b o : Nat} (h : w'.heap[b]? = w.heap[b]?) : w'.frozen? ⟨b, o, none⟩ = w.frozen? ⟨b, o, none⟩ := by
  simp only [World.frozen?, h]
theorem heap_alloc_lt {w : World} {o : Obj} {b : Nat} (h : b < w.heap.size) : (w.alloc o).heap[b]? = w.heap[b]? := by
  show (w.heap.push o)[b]? = _
  rw [Array.getElem?_push, if_neg (by omega)]
theorem heap_alloc_new {w : World} {o : Obj} : (w.alloc o).heap[w.heap.size]? = some o := by
  show (w.heap.push o)[w.heap.size]? = _
  simp
theorem size_alloc {w : World} {o : Obj} : (w.alloc o).heap.size = w.heap.size + 1 := by
  show (w.heap.push o).size = _
  simp

section
variable {B : Base} {C C' : Ctx} {st st' : St} {a : Act} {w w' : World}

theorem liveK_of_cells {k : K} {ds : List D} (h : cellsOf st k = some ds) : liveK st k = true := by
  cases k with
  | box s => simp only [cellsOf] at h; split at h <;> simp_all [liveK]
  | blk id => simp only [cellsOf] at h; split at h <;> simp_all [liveK]

theorem Rel.β_lt {ex : List (D × Value)} (R : Rel B C st a w ex) {k : K} (h : liveK st k = true) : C.β k < w.heap.size :=
  (R.bound (.blk k) (C.β k) (by simp [xb, h])).1

theorem DefR.mono {S : Nat → Prop} {q : FuncId × List D} {d : Deferred} (h : CLe S C C') (r : DefR C q d) : DefR C' q d := by
  obtain ⟨f, ds⟩ := q
  obtain ⟨h1, cs, h2, h3⟩ := r
  exact ⟨h1, cs, h2, RepDs.mono h _ _ (okArgs_lpDs h1) h3⟩
theorem MapR.mono {S : Nat → Prop} {es : List (P × D × Nat)} {ms : Array MapEntry} (h : CLe S C C') (r : MapR C es ms) : MapR C' es ms :=
  ⟨r.1, fun i q me e1 e2 => by
    obtain ⟨h1, h2, h3, h4, h5⟩ := r.2 i q me e1 e2
    exact ⟨h1, RepP.mono h.Φ _ _ h2, RepD.mono h _ _ (okArg_lpD h4) h3, h4, h5⟩⟩

/-- a new block that is the function's own -/
theorem Rel.fresh (R : Rel B C st a w []) (S : Nat → Prop) (k : K) (ds : List D) (vs : List Value) (arr : Array Value) (ty : TypeId)
    (hle : CLe S C C') (hΦ : C'.Φ = C.Φ) (hβ : ∀ k', k' ≠ k → C'.β k' = C.β k') (hβk : C'.β k = w.heap.size)
    (hds : RepDs C ds vs) (hcell : ∀ v ∈ vs, isCell v = true) (harr : ∀ (j : Nat) (v : Value), vs[j]? = some v → arr[j]? = some v) (hlo : ∀ i d, getL ds i = some d → loose d = true ∧ okArg d = true)
    (hr : ∀ i d, getL st'.r i = some d → d = .dead ∨ (getL st.r i = some d ∧ lpD S d)) (hrl : st'.r.length = st.r.length)
    (hk : cellsOf st' k = some ds) (hc : ∀ k', k' ≠ k → cellsOf st' k' = cellsOf st k') (hl : ∀ k', k' ≠ k → liveK st' k' = liveK st k')
    (hs : ∀ s ps, getL st'.b s = some (.sealed ps) → getL st.b s = some (.sealed ps) ∧ K.box s ≠ k)
    (hnh : C'.nh = st'.h.length) (hm : ∀ id es clock, getL st'.h id = some (.map es clock) → getL st.h id = some (.map es clock) ∧ K.blk id ≠ k)
    (hfz : ∀ id ps, getL st'.h id = some (.froz ps) → getL st.h id = some (.froz ps) ∧ K.blk id ≠ k)
    (hkb : ∀ id, id < st.h.length → K.blk id ≠ k) (hhl : st.h.length ≤ st'.h.length) (hal : ∀ s, C'.al s ↔ boxed st' s = true) (hdf : st'.df = st.df) {dp : D} {vp : Value} (hp : RepD C' dp vp) (hpl : loose dp = true) :
    Rel B C' st' a (w.alloc (.cells arr ty)) [(dp, vp)] := by
  have old : ∀ {b o v}, w.cell? ⟨b, o, none⟩ = some v → (w.alloc (.cells arr ty)).cell? ⟨b, o, none⟩ = some v ∧
      (w.alloc (.cells arr ty)).frozen? ⟨b, o, none⟩ = w.frozen? ⟨b, o, none⟩ := by
    intro b o v h
    have := heap_alloc_lt (w := w) (o := .cells arr ty) (cell?_lt h)
    exact ⟨by rw [cell?_of_heap this]; exact h, frozen?_of_heap this⟩
  have new : ∀ j v, vs[j]? = some v → (w.alloc (.cells arr ty)).cell? ⟨w.heap.size, j, none⟩ = some v := by
    intro j v h
    simp only [World.cell?, heap_alloc_new]
    simpa using harr j v h
  have newf : ∀ j, (w.alloc (.cells arr ty)).frozen? ⟨w.heap.size, j, none⟩ = false := by
    intro j
    simp only [World.frozen?, heap_alloc_new]
    simp
  have βne : ∀ k', liveK st k' = true → C.β k' ≠ w.heap.size := fun k' h => by have := R.β_lt h; omega
  have tl : ∀ d v, TailOK C w d v → TailOK C' (w.alloc (.cells arr ty)) d v := by
    intro d v h
    unfold TailOK at h ⊢
    split
    · simp only [] at h
      intro hn
      obtain ⟨h1, h2⟩ := h hn
      refine ⟨by rw [hΦ]; exact h1, fun o ho1 ho2 => ?_⟩
      obtain ⟨h3, h4⟩ := h2 o ho1 ho2
      obtain ⟨u, hu⟩ := Option.isSome_iff_exists.1 h3
      obtain ⟨h5, h6⟩ := old hu
      exact ⟨by rw [h5]; rfl, by rw [h6]; exact h4⟩
    · trivial
  -- what stands where, seen from before
  have atR : ∀ i d v, atPos C' st' a.tmps (w.alloc (.cells arr ty)) [(dp, vp)] (.reg i) = some (d, v) → d = .dead ∨ (atPos C st a.tmps w [] (.reg i) = some (d, v) ∧ lpD S d) := by
    intro i d v h
    simp only [atPos, both_some] at h ⊢
    rcases hr i d h.1 with h1 | ⟨h1, h2⟩
    · exact .inl h1
    · exact .inr ⟨⟨h1, h.2⟩, h2⟩
  have atC : ∀ k' j, k' ≠ k → atPos C' st' a.tmps (w.alloc (.cells arr ty)) [(dp, vp)] (.cell k' j) = atPos C st a.tmps w [] (.cell k' j) := by
    intro k' j hne
    simp only [atPos, hc k' hne, hβ k' hne]
    cases hcs : cellsOf st k' with
    | none => rfl
    | some ds' =>
      simp only [Option.bind_some]
      cases hg : getL ds' j with
      | none => rfl
      | some d' =>
        obtain ⟨_, v, h1, _⟩ := R.cells k' ds' j d' hcs hg
        rw [h1, (old h1).1]
  have atK : ∀ j d v, atPos C' st' a.tmps (w.alloc (.cells arr ty)) [(dp, vp)] (.cell k j) = some (d, v) → loose d = true := by
    intro j d v h
    simp only [atPos, hk, Option.bind_some, both_some] at h
    exact (hlo j d h.1).1
  have atE : ∀ j d v, atPos C' st' a.tmps (w.alloc (.cells arr ty)) [(dp, vp)] (.ex j) = some (d, v) → loose d = true ∧ RepD C' d v := by
    intro j d v h
    cases j with
    | zero => simp only [atPos, getL, Option.some.injEq, Prod.mk.injEq] at h; obtain ⟨rfl, rfl⟩ := h; exact ⟨hpl, hp⟩
    | succ j => simp [atPos, getL] at h
  -- exclusive blocks
  have xback : ∀ p n, xb C' st' a.tmps (w.alloc (.cells arr ty)) [(dp, vp)] p = some n → (p = .blk k ∧ n = w.heap.size) ∨ (p ≠ .blk k ∧ xb C st a.tmps w [] p = some n) := by
    intro p n h
    cases p with
    | reg i =>
      simp only [xb, Option.bind_eq_some_iff] at h
      obtain ⟨⟨d, v⟩, h1, h2⟩ := h
      rcases atR i d v h1 with rfl | ⟨h3, _⟩
      · simp [tailBlk] at h2
      · exact .inr ⟨by simp, by simp only [xb, h3, Option.bind_some]; exact h2⟩
    | ex j =>
      simp only [xb, Option.bind_eq_some_iff] at h
      obtain ⟨⟨d, v⟩, h1, h2⟩ := h
      rw [tailBlk_loose (atE j d v h1).1] at h2; cases h2
    | cell k' j =>
      by_cases hne : k' = k
      · subst hne
        simp only [xb, Option.bind_eq_some_iff] at h
        obtain ⟨⟨d, v⟩, h1, h2⟩ := h
        rw [tailBlk_loose (atK j d v h1)] at h2; cases h2
      · refine .inr ⟨by simp, ?_⟩
        simp only [xb, atC k' j hne] at h ⊢; exact h
    | blk k' =>
      by_cases hne : k' = k
      · subst hne
        simp only [xb, liveK_of_cells hk, if_true, Option.some.injEq, hβk] at h
        exact .inl ⟨rfl, h.symm⟩
      · refine .inr ⟨by simpa using hne, ?_⟩
        simp only [xb, hl k' hne, hβ k' hne] at h ⊢; exact h
  refine { len := by rw [hrl]; exact R.len, regs := ?_, exs := ?_, cells := ?_, seals := ?_, frzs := fun id ps h => (by rw [hΦ, hβ _ (hfz id ps h).2]; exact R.frzs id ps (hfz id ps h).1), nh := hnh, hb := ⟨Nat.le_trans R.hb.1 hhl, fun id h => by rw [hβ _ (hkb id (Nat.lt_of_lt_of_le h R.hb.1))]; exact R.hb.2 id h⟩, tails := ?_, inj := ?_, bound := ?_, empty := ?_, sub := ?_,
           frm := ?_, defs := by rw [hdf]; exact R.defs, defr := ?_, maps := ?_, al := hal }
  · intro i d v h1 h2
    rcases hr i d h1 with rfl | ⟨h3, h4⟩
    · simp [RepD]
    · exact RepD.mono hle d v h4 (R.regs i d v h3 h2)
  · intro i q h
    exact (atE i q.1 q.2 (by simpa [atPos] using h)).2
  · intro k' ds' j d h1 h2
    by_cases hne : k' = k
    · subst hne
      rw [hk, Option.some.injEq] at h1; subst h1
      obtain ⟨v, h3, h4⟩ := hds.get h2
      refine ⟨(hlo j d h2).2, v, by rw [hβk]; exact new j v h3, hcell v (List.mem_of_getElem? h3), RepD.mono hle d v (okArg_lpD (hlo j d h2).2) h4, by rw [hβk]; exact newf j⟩
    · rw [hc k' hne] at h1
      obtain ⟨h3, v, h4, h5, h6, h7⟩ := R.cells k' ds' j d h1 h2
      obtain ⟨h8, h9⟩ := old h4
      exact ⟨h3, v, by rw [hβ k' hne]; exact h8, h5, RepD.mono hle d v (okArg_lpD h3) h6, by rw [hβ k' hne, h9]; exact h7⟩
  · intro s ps h
    obtain ⟨h1, h2⟩ := hs s ps h
    rw [hΦ, hβ _ h2]
    exact R.seals s ps h1
  · intro p d v h
    cases p with
    | reg i =>
      rcases atR i d v h with rfl | ⟨h3, _⟩
      · simp [TailOK]
      · exact tl d v (R.tails (.reg i) d v h3)
    | ex j => exact TailOK_loose (atE j d v h).1
    | cell k' j =>
      by_cases hne : k' = k
      · subst hne; exact TailOK_loose (atK j d v h)
      · rw [atC k' j hne] at h; exact tl d v (R.tails (.cell k' j) d v h)
    | blk k' => simp [atPos] at h
  · intro p q n h1 h2
    rcases xback p n h1 with ⟨rfl, rfl⟩ | ⟨hp1, hp2⟩
    · rcases xback q _ h2 with ⟨rfl, _⟩ | ⟨hq1, hq2⟩
      · rfl
      · have := (R.bound q _ hq2).1; omega
    · rcases xback q n h2 with ⟨rfl, rfl⟩ | ⟨hq1, hq2⟩
      · have := (R.bound p _ hp2).1; omega
      · exact R.inj p q n hp2 hq2
  · intro p n h
    rw [size_alloc]
    rcases xback p n h with ⟨rfl, rfl⟩ | ⟨hp1, hp2⟩
    · exact ⟨by omega, .inl R.frm.size⟩
    · have := R.bound p n hp2; exact ⟨by omega, this.2⟩
  · intro k' h o
    by_cases hne : k' = k
    · subst hne
      rw [hβk, hΦ]
      cases e : C.Φ w.heap.size o with
      | none => rfl
      | some v => have := cell?_lt (R.sub _ _ _ e); omega
    · rw [hl k' hne] at h; rw [hβ k' hne, hΦ]; exact R.empty k' h o
  · intro b o v h
    rw [hΦ] at h
    exact (old (R.sub b o v h)).1
  · rw [hΦ]
    refine ⟨R.frm.os, R.frm.tape, R.frm.output, by rw [size_alloc]; have := R.frm.size; omega, fun b hb hx => ?_, R.frm.Φblock, R.frm.Φle⟩
    rw [heap_alloc_lt (Nat.lt_of_lt_of_le hb R.frm.size)]
    exact R.frm.block b hb hx
  · intro i q d h1 h2
    rw [hdf] at h1
    exact (R.defr i q d h1 h2).mono hle
  · intro id es clock h
    obtain ⟨h1, h2⟩ := hm id es clock h
    obtain ⟨ms, h3, h4⟩ := R.maps id es clock h1
    refine ⟨ms, ?_, h4.mono hle⟩
    rw [hβ _ h2, heap_alloc_lt (Array.getElem?_eq_some_iff.1 h3).1]
    exact h3
end
end Go.AE
end

section
namespace Go.AE
open Go
section
variable {B : Base} {C : Ctx} {st : St} {a : Act} {w : World}

theorem boxed_setL {st : St} {d : Nat} {x : Box} (hd : d < st.b.length) (s : Nat) (r : List D) :
    boxed { st with r, b := setL st.b d x } s = if s = d then (match x with | .live _ | .sealed _ => true | _ => false) else boxed st s := by
  simp only [boxed, getL_setL]
  by_cases h : s = d
  · subst h; simp only [true_and, hd, if_true]; cases x <;> rfl
  · rw [if_neg (by omega), if_neg h]

/-- a new box of the frame's own -/
theorem Rel.newBox (R : Rel B C st a w []) {d : Nat} {ds : List D} {vs : List Value} (ty : TypeId) (hd : d < st.b.length)
    (hds : RepDs C ds vs) (hcell : ∀ v ∈ vs, isCell v = true) (hlo : ∀ i x, getL ds i = some x → loose x = true ∧ okArg x = true) :
    ∃ C', Rel B C' (newBox st d ds) a (w.alloc (.cells vs.toArray ty)) [(.lp d 0, .pointer (some ⟨w.heap.size, 0, none⟩))] := by
  refine ⟨{ β := fun k => if k = .box d then w.heap.size else C.β k, al := fun s => s = d ∨ C.al s, nh := C.nh, Φ := C.Φ }, ?_⟩
  have hle : CLe (· ≠ d) C { β := fun k => if k = .box d then w.heap.size else C.β k, al := fun s => s = d ∨ C.al s, nh := C.nh, Φ := C.Φ } :=
    ⟨Le.refl _, Nat.le_refl _, fun id _ => by simp, fun s hs ha => ⟨.inr ha, by simp [hs]⟩⟩
  refine R.fresh (st' := AE.newBox st d ds) (dp := .lp d 0) (vp := .pointer (some ⟨w.heap.size, 0, none⟩)) (· ≠ d) (.box d) ds vs vs.toArray ty hle rfl (fun k' h => by simp [h]) (by simp) hds hcell (fun j v h => by simpa using h) hlo ?_ ?_ ?_ ?_ ?_ ?_ ?_ ?_ (fun id ps h => ⟨by simpa [Go.AE.newBox] using h, by simp⟩) (by intro id _; simp) (by exact Nat.le_refl _) ?_ rfl ?_ (by rfl)
  · intro i x h
    simp only [Go.AE.newBox] at h
    split at h
    · rw [getL_map] at h
      simp only [Option.map_eq_some_iff] at h
      obtain ⟨y, h1, h2⟩ := h
      split at h2
      · exact .inl h2.symm
      · rename_i hm
        subst h2
        exact .inr ⟨h1, mentions_lpD (by simpa using hm)⟩
    · rename_i hb
      right
      refine ⟨h, ?_⟩
      have hi : i < a.tmps.size := by rw [R.len]; exact getL_lt h
      have hr := R.regs i x a.tmps[i] h (by simp [hi])
      refine lpD_mono ?_ (RepD_al hr)
      intro s hs e
      subst e
      exact hb ((R.al s).1 hs)
  · simp only [Go.AE.newBox]; split <;> simp
  · simp only [cellsOf, Go.AE.newBox, getL_setL, hd, and_self, if_true]
  · intro k' hne
    cases k' with
    | box s =>
      have : s ≠ d := fun e => hne (by rw [e])
      simp only [cellsOf, Go.AE.newBox, getL_setL]; rw [if_neg (by omega)]
    | blk id => simp [cellsOf, Go.AE.newBox]
  · intro k' hne
    cases k' with
    | box s =>
      have : s ≠ d := fun e => hne (by rw [e])
      simp only [liveK, Go.AE.newBox, getL_setL]; rw [if_neg (by omega)]
    | blk id => simp [liveK, Go.AE.newBox]
  · intro s ps h
    simp only [Go.AE.newBox, getL_setL] at h
    by_cases e : s = d
    · subst e; simp [hd] at h
    · rw [if_neg (by omega)] at h
      exact ⟨h, by simpa using e⟩
  · exact R.nh
  · intro id es clock h
    exact ⟨by simpa [Go.AE.newBox] using h, by simp⟩
  · intro s
    have := boxed_setL (st := st) (x := .live ds) hd s (if boxed st d = true then st.r.map (fun x => if mentions d x = true then .dead else x) else st.r)
    simp only [Go.AE.newBox]
    rw [this]
    by_cases e : s = d
    · simp [e]
    · simp only [e, false_or, if_false]; exact R.al s
  · simp only [RepD]; exact ⟨.inl trivial, by simp⟩

/-- a new block that may be handed to others -/
theorem Rel.newBlkD (R : Rel B C st a w []) {ds : List D} {vs : List Value} (arr : Array Value) (ty : TypeId) {dp : D} {vp : Value}
    (harr : ∀ (j : Nat) (v : Value), vs[j]? = some v → arr[j]? = some v) (hds : RepDs C ds vs) (hcell : ∀ v ∈ vs, isCell v = true) (hlo : ∀ i x, getL ds i = some x → loose x = true ∧ okArg x = true)
    (hpl : loose dp = true) (hp : ∀ C' : Ctx, C'.nh = st.h.length + 1 → C'.β (.blk st.h.length) = w.heap.size → RepD C' dp vp) :
    ∃ C', Rel B C' (newBlk st ds) a (w.alloc (.cells arr ty)) [(dp, vp)] := by
  refine ⟨{ β := fun k => if k = .blk st.h.length then w.heap.size else C.β k, al := C.al, nh := C.nh + 1, Φ := C.Φ }, ?_⟩
  have hnh := R.nh
  have hle : CLe (fun _ => True) C { β := fun k => if k = .blk st.h.length then w.heap.size else C.β k, al := C.al, nh := C.nh + 1, Φ := C.Φ } :=
    ⟨Le.refl _, Nat.le_succ _, fun id h => by simp only []; rw [if_neg]; simp only [K.blk.injEq]; omega, fun s _ ha => ⟨ha, by simp⟩⟩
  have hget : ∀ id, id ≠ st.h.length → getL (st.h ++ [.cells ds]) id = getL st.h id := by
    intro id h
    by_cases hlt : id < st.h.length
    · exact getL_append_left hlt
    · rw [getL_eq, getL_eq, List.getElem?_eq_none (by simp; omega), List.getElem?_eq_none (by omega)]
  refine R.fresh (st' := AE.newBlk st ds) (dp := dp) (vp := vp) (fun _ => True) (.blk st.h.length) ds vs arr ty hle rfl (fun k' h => by simp [h]) (by simp) hds hcell harr hlo ?_ rfl ?_ ?_ ?_ ?_ ?_ ?_ (fun id ps h => (by
      simp only [Go.AE.newBlk] at h
      by_cases e : id = st.h.length
      · subst e; simp [getL_concat] at h
      · rw [hget id e] at h; exact ⟨h, by simpa using e⟩)) (by intro id h; simp; omega) (by simp [AE.newBlk]) ?_ rfl ?_ hpl
  · intro i x h
    exact .inr ⟨h, lpD_all (fun _ => trivial) x⟩
  · simp [cellsOf, Go.AE.newBlk, getL_concat]
  · intro k' hne
    cases k' with
    | box s => simp [cellsOf, Go.AE.newBlk]
    | blk id =>
      have : id ≠ st.h.length := fun e => hne (by rw [e])
      simp only [cellsOf, Go.AE.newBlk, hget id this]
  · intro k' hne
    cases k' with
    | box s => simp [liveK, Go.AE.newBlk]
    | blk id =>
      have : id ≠ st.h.length := fun e => hne (by rw [e])
      simp only [liveK, Go.AE.newBlk, hget id this]
  · intro s ps h
    exact ⟨h, by simp⟩
  · simp [Go.AE.newBlk, hnh]
  · intro id es clock h
    simp only [Go.AE.newBlk] at h
    by_cases e : id = st.h.length
    · subst e; simp [getL_concat] at h
    · rw [hget id e] at h; exact ⟨h, by simpa using e⟩
  · intro s; exact R.al s
  · exact hp _ (by show C.nh + 1 = _; rw [hnh]) (by simp)

theorem Rel.newBlk (R : Rel B C st a w []) {ds : List D} {vs : List Value} (ty : TypeId)
    (hds : RepDs C ds vs) (hcell : ∀ v ∈ vs, isCell v = true) (hlo : ∀ i x, getL ds i = some x → loose x = true ∧ okArg x = true) :
    ∃ C', Rel B C' (newBlk st ds) a (w.alloc (.cells vs.toArray ty)) [(.ref st.h.length 0, .pointer (some ⟨w.heap.size, 0, none⟩))] :=
  R.newBlkD vs.toArray ty (fun j v h => by simpa using h) hds hcell hlo rfl fun C' h1 h2 => by simp only [RepD]; exact ⟨by omega, by rw [h2]⟩

end
end Go.AE
end

section
namespace Go.AE
open Go

def setC (st : St) (ds : List D) : K → St
  | .box s => { st with b := setL st.b s (.live ds) }
  | .blk id => { st with h := setL st.h id (.cells ds) }

section
variable {B : Base} {C : Ctx} {st : St} {a : Act} {w : World}

theorem cellsOf_setC {k k' : K} {ds ds' : List D} (hk : cellsOf st k = some ds) : cellsOf (setC st ds' k) k' = if k' = k then some ds' else cellsOf st k' := by
  cases k with
  | box s =>
    simp only [cellsOf] at hk
    split at hk <;> simp at hk
    rename_i x hx
    have hlt := getL_lt hx
    cases k' with
    | box s' =>
      simp only [cellsOf, setC, getL_setL, K.box.injEq]
      by_cases e : s' = s
      · subst e; simp [hlt]
      · rw [if_neg (by omega), if_neg e]
    | blk id => simp [cellsOf, setC]
  | blk id =>
    simp only [cellsOf] at hk
    split at hk <;> simp at hk
    rename_i x hx
    have hlt := getL_lt hx
    cases k' with
    | box s' => simp [cellsOf, setC]
    | blk id' =>
      simp only [cellsOf, setC, getL_setL, K.blk.injEq]
      by_cases e : id' = id
      · subst e; simp [hlt]
      · rw [if_neg (by omega), if_neg e]
theorem liveK_setC {k k' : K} {ds ds' : List D} (hk : cellsOf st k = some ds) : liveK (setC st ds' k) k' = liveK st k' := by
  have hl := liveK_of_cells hk
  cases k with
  | box s =>
    cases k' with
    | box s' =>
      simp only [cellsOf] at hk
      split at hk <;> simp at hk
      rename_i x hx
      have hlt := getL_lt hx
      simp only [liveK, setC, getL_setL]
      by_cases e : s' = s
      · subst e; simp [hlt, hx]
      · rw [if_neg (by omega)]
    | blk id => simp [liveK, setC]
  | blk id =>
    cases k' with
    | box s' => simp [liveK, setC]
    | blk id' =>
      simp only [cellsOf] at hk
      split at hk <;> simp at hk
      rename_i x hx
      have hlt := getL_lt hx
      simp only [liveK, setC, getL_setL]
      by_cases e : id' = id
      · subst e; simp [hlt, hx]
      · rw [if_neg (by omega)]
theorem boxed_setC {k : K} {ds ds' : List D} (hk : cellsOf st k = some ds) (s : Nat) : boxed (setC st ds' k) s = boxed st s := by
  cases k with
  | box s' =>
    simp only [cellsOf] at hk
    split at hk <;> simp at hk
    rename_i x hx
    have hlt := getL_lt hx
    simp only [boxed, setC, getL_setL]
    by_cases e : s = s'
    · subst e; simp [hlt, hx]
    · rw [if_neg (by omega)]
  | blk id => simp [boxed, setC]

theorem heap_setCells_ne {b b' : Nat} (h : b' ≠ b) : ∀ (vs : List Value) (o : Nat) (w : World), (w.setCells b o vs).heap[b']? = w.heap[b']?
  | [], _, _ => rfl
  | v :: r, o, w => by
    rw [World.setCells, heap_setCells_ne h r (o + 1) _]
    simp only [World.setCell, Array.getElem?_modify]
    rw [if_neg (by omega)]
theorem size_setCells {b : Nat} : ∀ (vs : List Value) (o : Nat) (w : World), (w.setCells b o vs).heap.size = w.heap.size
  | [], _, _ => rfl
  | v :: r, o, w => by rw [World.setCells, size_setCells r (o + 1) _]; simp [World.setCell]
theorem os_setCells {b : Nat} : ∀ (vs : List Value) (o : Nat) (w : World), (w.setCells b o vs).os = w.os ∧ (w.setCells b o vs).tape = w.tape ∧ (w.setCells b o vs).output = w.output
  | [], _, _ => ⟨rfl, rfl, rfl⟩
  | v :: r, o, w => by rw [World.setCells]; exact os_setCells r (o + 1) _

/-- cells of a block of one's own are written; 'ex' may hand its tail to the one cell -/
theorem Rel.store {ex : List (D × Value)} (R : Rel B C st a w ex) {k : K} {ds xs : List D} {vs : List Value} {off : Nat} (hk : cellsOf st k = some ds)
    (hx : RepDs C xs vs) (hcell : ∀ v ∈ vs, isCell v = true) (hok : ∀ i x, getL xs i = some x → okArg x = true) (hlen : off + xs.length ≤ ds.length)
    {ex' : List (D × Value)} (g : Nat → Nat) (hg : ∀ i j, g i = g j → i = j) (hex : ∀ j q, getL ex' j = some q → getL ex (g j) = some q)
    (hlo : ∀ i x v, getL xs i = some x → vs[i]? = some v → loose x = true ∨ (xs.length = 1 ∧ ∃ j, getL ex j = some (x, v) ∧ ∀ i, g i ≠ j)) :
    Rel B C (setC st (setN ds off xs) k) a (w.setCells (C.β k) off vs) ex' := by
  have hlive := liveK_of_cells hk
  have hvl := hx.length
  have hold : ∀ j, off ≤ j → j < off + xs.length → ∃ u, w.cell? ⟨C.β k, j, none⟩ = some u := by
    intro j h1 h2
    obtain ⟨d, hd⟩ : ∃ d, getL ds j = some d := by rw [getL_eq]; exact ⟨ds[j]'(by omega), by simp <;> omega⟩
    obtain ⟨_, u, hu, _⟩ := R.cells k ds j d hk hd
    exact ⟨u, hu⟩
  have hin : ∀ i (hi : i < vs.length), (w.setCells (C.β k) off vs).cell? ⟨C.β k, off + i, none⟩ = some vs[i] :=
    World.cell?_setCells_in (C.β k) vs off w fun j hj => by
      obtain ⟨u, hu⟩ := hold (off + j) (by omega) (by omega)
      rw [hu]; rfl
  have hout : ∀ b o, (b = C.β k → o < off ∨ off + vs.length ≤ o) → (w.setCells (C.β k) off vs).cell? ⟨b, o, none⟩ = w.cell? ⟨b, o, none⟩ := by
    intro b o h
    exact World.cell?_setCells_out (C.β k) vs off w ⟨b, o, none⟩ fun h1 _ => h h1
  have hfz : ∀ x, (w.setCells (C.β k) off vs).frozen? x = w.frozen? x := World.frozen?_setCells (C.β k) vs off w
  have hΦ := R.empty k hlive
  have βne : ∀ k', liveK st k' = true → k' ≠ k → C.β k' ≠ C.β k := by
    intro k' h hne e
    have := R.inj (.blk k') (.blk k) (C.β k) (by simp [xb, h, e]) (by simp [xb, hlive])
    simp only [Pos.blk.injEq] at this
    exact hne this
  have tailne : ∀ p d v, atPos C st a.tmps w ex p = some (d, v) → ∀ n, tailBlk d v = some n → n ≠ C.β k := by
    intro p d v h n hn e
    have hxp : xb C st a.tmps w ex p = some n := by
      cases p with
      | blk k' => simp [atPos] at h
      | reg i => simp only [xb, h, Option.bind_some, hn]
      | ex i => simp only [xb, h, Option.bind_some, hn]
      | cell k' i => simp only [xb, h, Option.bind_some, hn]
    have := R.inj p (.blk k) n hxp (by simp [xb, hlive, e])
    subst this
    simp [atPos] at h
  have tl : ∀ p d v, atPos C st a.tmps w ex p = some (d, v) → TailOK C (w.setCells (C.β k) off vs) d v := by
    intro p d v hp
    have h := R.tails p d v hp
    unfold TailOK at h ⊢
    split
    · rename_i wd rows ad n cap
      simp only [] at h
      intro hn
      obtain ⟨h1, h2⟩ := h hn
      refine ⟨h1, fun o ho1 ho2 => ?_⟩
      obtain ⟨h3, h4⟩ := h2 o ho1 ho2
      have hne := tailne p _ _ hp ad.block (by simp [tailBlk, hn])
      rw [hout _ _ (fun e => absurd e hne), hfz]
      exact ⟨h3, h4⟩
    · trivial
  have atR : ∀ i, atPos C (setC st (setN ds off xs) k) a.tmps (w.setCells (C.β k) off vs) ex' (.reg i) = atPos C st a.tmps w ex (.reg i) := by
    intro i; cases k <;> rfl
  have atE : ∀ j d v, atPos C (setC st (setN ds off xs) k) a.tmps (w.setCells (C.β k) off vs) ex' (.ex j) = some (d, v) → atPos C st a.tmps w ex (.ex (g j)) = some (d, v) := by
    intro j d v h
    exact hex j (d, v) h
  have atO : ∀ k' j, k' ≠ k → atPos C (setC st (setN ds off xs) k) a.tmps (w.setCells (C.β k) off vs) ex' (.cell k' j) = atPos C st a.tmps w ex (.cell k' j) := by
    intro k' j hne
    simp only [atPos, cellsOf_setC hk, if_neg hne]
    cases hcs : cellsOf st k' with
    | none => rfl
    | some ds' =>
      rw [hout _ _ (fun e => absurd e (βne k' (liveK_of_cells hcs) hne))]
  have atK : ∀ j d v, atPos C (setC st (setN ds off xs) k) a.tmps (w.setCells (C.β k) off vs) ex' (.cell k j) = some (d, v) →
      (off ≤ j ∧ j < off + xs.length ∧ getL xs (j - off) = some d ∧ vs[j - off]? = some v) ∨
      (¬ (off ≤ j ∧ j < off + xs.length) ∧ atPos C st a.tmps w ex (.cell k j) = some (d, v)) := by
    intro j d v h
    simp only [atPos, cellsOf_setC hk, if_true, Option.bind_some, both_some, getL_setN xs ds off j hlen] at h
    by_cases hj : off ≤ j ∧ j < off + xs.length
    · rw [if_pos hj] at h
      left
      refine ⟨hj.1, hj.2, h.1, ?_⟩
      have := hin (j - off) (by omega)
      rw [show off + (j - off) = j by omega, h.2] at this
      rw [List.getElem?_eq_getElem (by omega)]
      exact this.symm
    · rw [if_neg hj] at h
      right
      refine ⟨hj, ?_⟩
      simp only [atPos, hk, Option.bind_some, both_some]
      rw [← hout (C.β k) j (fun _ => by omega)]
      exact h
  -- where an exclusive block was
  have back : ∀ p n, xb C (setC st (setN ds off xs) k) a.tmps (w.setCells (C.β k) off vs) ex' p = some n →
      ∃ p', xb C st a.tmps w ex p' = some n ∧ (p' = (match p with | .ex j => .ex (g j) | p => p) ∨
        (xs.length = 1 ∧ p = .cell k off ∧ ∃ j, p' = .ex j ∧ ∀ i, g i ≠ j)) := by
    intro p n h
    cases p with
    | reg i => exact ⟨.reg i, by simp only [xb, atR] at h ⊢; exact h, .inl rfl⟩
    | ex j =>
      simp only [xb, Option.bind_eq_some_iff] at h
      obtain ⟨⟨d, v⟩, h1, h2⟩ := h
      exact ⟨.ex (g j), by simp only [xb, atE j d v h1, Option.bind_some]; exact h2, .inl rfl⟩
    | blk k' =>
      refine ⟨.blk k', ?_, .inl rfl⟩
      simp only [xb, liveK_setC hk] at h ⊢; exact h
    | cell k' j =>
      by_cases hne : k' = k
      · subst hne
        simp only [xb, Option.bind_eq_some_iff] at h
        obtain ⟨⟨d, v⟩, h1, h2⟩ := h
        rcases atK j d v h1 with ⟨h3, h4, h5, h6⟩ | ⟨_, h3⟩
        · rcases hlo (j - off) d v h5 h6 with h7 | ⟨h7, j', h8, h9⟩
          · rw [tailBlk_loose h7] at h2; cases h2
          · refine ⟨.ex j', by simp only [xb, atPos, h8, Option.bind_some]; exact h2, .inr ⟨h7, ?_, j', rfl, h9⟩⟩
            rw [show j = off by omega]
        · exact ⟨.cell k' j, by simp only [xb, h3, Option.bind_some]; exact h2, .inl rfl⟩
      · exact ⟨.cell k' j, by simp only [xb, atO k' j hne] at h ⊢; exact h, .inl rfl⟩
  have hdf : (setC st (setN ds off xs) k).df = st.df := by cases k <;> rfl
  have hr' : (setC st (setN ds off xs) k).r = st.r := by cases k <;> rfl
  refine { len := by rw [hr']; exact R.len, regs := by rw [hr']; exact R.regs, exs := fun i q h => R.exs (g i) q (hex i q h), cells := ?_, seals := ?_, frzs := ?_,
           nh := ?_, hb := by cases k <;> first | exact R.hb | (simp only [setC, length_setL]; exact R.hb), tails := ?_, inj := ?_, bound := ?_, empty := ?_, sub := ?_, frm := ?_, defs := by rw [hdf]; exact R.defs, defr := by rw [hdf]; exact R.defr,
           maps := ?_, al := fun s => by rw [boxed_setC hk]; exact R.al s }
  · intro k' ds' j d h1 h2
    rw [cellsOf_setC hk] at h1
    by_cases hne : k' = k
    · subst hne
      rw [if_pos rfl, Option.some.injEq] at h1; subst h1
      rw [getL_setN xs ds off j hlen] at h2
      rw [hfz]
      by_cases hj : off ≤ j ∧ j < off + xs.length
      · rw [if_pos hj] at h2
        obtain ⟨v, h3, h4⟩ := hx.get h2
        have hiv : j - off < vs.length := by omega
        have := hin (j - off) hiv
        rw [show off + (j - off) = j by omega] at this
        rw [List.getElem?_eq_getElem hiv, Option.some.injEq] at h3
        rw [h3] at this
        obtain ⟨d0, hd0⟩ : ∃ d, getL ds j = some d := by rw [getL_eq]; exact ⟨ds[j]'(by omega), by simp <;> omega⟩
        obtain ⟨_, u, _, _, _, hf⟩ := R.cells k' ds j d0 hk hd0
        exact ⟨hok _ _ h2, v, this, hcell v (by rw [← h3]; exact List.getElem_mem hiv), h4, hf⟩
      · rw [if_neg hj] at h2
        rw [hout _ _ (fun _ => by omega)]
        exact R.cells k' ds j d hk h2
    · rw [if_neg hne] at h1
      rw [hfz, hout _ _ (fun e => absurd e (βne k' (liveK_of_cells h1) hne))]
      exact R.cells k' ds' j d h1 h2
  · intro s ps h
    refine R.seals s ps ?_
    cases k with
    | box s' =>
      simp only [setC, getL_setL] at h
      split at h
      · simp at h
      · exact h
    | blk id => exact h
  · intro id ps h
    refine R.frzs id ps ?_
    cases k with
    | box s' => exact h
    | blk id' =>
      simp only [setC, getL_setL] at h
      split at h
      · simp at h
      · exact h
  · cases k with
    | box s' => exact R.nh
    | blk id => simp only [setC, length_setL]; exact R.nh
  · intro p d v h
    cases p with
    | reg i => rw [atR] at h; exact tl _ d v h
    | ex j => exact tl _ d v (atE j d v h)
    | blk k' => simp [atPos] at h
    | cell k' j =>
      by_cases hne : k' = k
      · subst hne
        rcases atK j d v h with ⟨_, _, h5, h6⟩ | ⟨_, h3⟩
        · rcases hlo (j - off) d v h5 h6 with h7 | ⟨_, j', h8, _⟩
          · exact TailOK_loose h7
          · exact tl (.ex j') d v h8
        · exact tl _ d v h3
      · rw [atO k' j hne] at h; exact tl _ d v h
  · intro p q n h1 h2
    obtain ⟨p', h3, h4⟩ := back p n h1
    obtain ⟨q', h5, h6⟩ := back q n h2
    have e := R.inj p' q' n h3 h5
    rcases h4 with rfl | ⟨_, rfl, j, rfl, hj⟩
    · rcases h6 with rfl | ⟨_, rfl, j', rfl, hj'⟩
      · cases p <;> cases q <;> simp only [Pos.reg.injEq, Pos.cell.injEq, Pos.blk.injEq, Pos.ex.injEq, reduceCtorEq] at e ⊢ <;> first | exact e | exact hg _ _ e
      · cases p <;> simp only [reduceCtorEq, Pos.ex.injEq] at e
        exact absurd e (hj' _)
    · rcases h6 with rfl | ⟨_, rfl, j', rfl, hj'⟩
      · cases q <;> simp only [reduceCtorEq, Pos.ex.injEq] at e
        exact absurd e.symm (hj _)
      · rfl
  · intro p n h
    obtain ⟨p', h3, _⟩ := back p n h
    rw [size_setCells]
    exact R.bound p' n h3
  · intro k' h
    rw [liveK_setC hk] at h
    exact R.empty k' h
  · intro b o v h
    rw [hout b o]
    · exact R.sub b o v h
    · intro e
      rw [e, hΦ o] at h; cases h
  · obtain ⟨h1, h2, h3⟩ := os_setCells (b := C.β k) vs off w
    refine ⟨h1.trans R.frm.os, h2.trans R.frm.tape, h3.trans R.frm.output, by rw [size_setCells]; exact R.frm.size, fun b hb hX => ?_, R.frm.Φblock, R.frm.Φle⟩
    rw [heap_setCells_ne]
    · exact R.frm.block b hb hX
    · intro e
      rcases (R.bound (.blk k) (C.β k) (by simp [xb, hlive])).2 with h | h
      · omega
      · rw [e] at hX; exact hX h
  · intro id es clock h
    have hne : K.blk id ≠ k := by
      rintro rfl
      simp only [setC, getL_setL] at h
      simp only [cellsOf] at hk
      split at hk <;> simp at hk
      rename_i x hx'
      simp [getL_lt hx'] at h
    have h' : getL st.h id = some (.map es clock) := by
      cases k with
      | box s => exact h
      | blk id' =>
        simp only [setC, getL_setL] at h
        rw [if_neg (by intro e; exact hne (by rw [e.1]))] at h
        exact h
    obtain ⟨ms, h1, h2⟩ := R.maps id es clock h'
    refine ⟨ms, ?_, h2⟩
    rw [heap_setCells_ne (βne (.blk id) (by simp [liveK, h']) hne)]
    exact h1
end
end Go.AE
end

section
namespace Go.AE
open Go
set_option linter.unusedSimpArgs false
set_option linter.unusedVariables false
section
variable {T : Program} {B : Base} {C : Ctx} {st st' : St} {a : Act} {w w' : World} {o : Oper}

/-- a cell gives its tail away -/
theorem Rel.takeCell (R : Rel B C st a w []) {k : K} {ds : List D} {off wd : Nat} {rows : List (List P)} (hk : cellsOf st k = some ds) (hd : getL ds off = some (.own wd rows)) :
    ∃ v, w.cell? ⟨C.β k, off, none⟩ = some v ∧ Rel B C (setC st (setL ds off (.p (.sl wd rows))) k) a w [(.own wd rows, v)] := by
  obtain ⟨_, v, hv, hvc, hvr, hvf⟩ := R.cells k ds off _ hk hd
  refine ⟨v, hv, ?_⟩
  have hoff := getL_lt hd
  have hcell : ∀ k', cellsOf (setC st (setL ds off (.p (.sl wd rows))) k) k' = if k' = k then some (setL ds off (.p (.sl wd rows))) else cellsOf st k' := fun k' => cellsOf_setC hk
  have hr' : (setC st (setL ds off (.p (.sl wd rows))) k).r = st.r := by cases k <;> rfl
  have hdf : (setC st (setL ds off (.p (.sl wd rows))) k).df = st.df := by cases k <;> rfl
  let f : Pos → Pos := fun | .ex 0 => .cell k off | p => p
  have hat : ∀ p d u, atPos C (setC st (setL ds off (.p (.sl wd rows))) k) a.tmps w [(.own wd rows, v)] p = some (d, u) →
      (p = .cell k off ∧ d = .p (.sl wd rows) ∧ u = v) ∨ (p ≠ .cell k off ∧ atPos C st a.tmps w [] (f p) = some (d, u)) := by
    intro p d u e
    cases p with
    | reg i => rw [show atPos C (setC st (setL ds off (.p (.sl wd rows))) k) a.tmps w [(.own wd rows, v)] (.reg i) = atPos C st a.tmps w [] (.reg i) by simp only [atPos, hr']] at e; exact .inr ⟨by simp, e⟩
    | ex j =>
      cases j with
      | zero =>
        simp only [atPos, getL, Option.some.injEq, Prod.mk.injEq] at e
        obtain ⟨rfl, rfl⟩ := e
        refine .inr ⟨by simp, ?_⟩
        simp only [f, atPos, both_some, hk, Option.bind_some]
        exact ⟨hd, hv⟩
      | succ j => simp [atPos, getL] at e
    | cell k' j =>
      simp only [atPos, both_some, hcell] at e
      by_cases hkk : k' = k
      · subst hkk
        simp only [if_true, Option.bind_some, getL_setL] at e
        by_cases hj : off = j
        · subst hj
          rw [if_pos ⟨rfl, hoff⟩] at e
          obtain ⟨e1, e2⟩ := e
          simp only [Option.some.injEq] at e1
          rw [hv, Option.some.injEq] at e2
          exact .inl ⟨rfl, e1.symm, e2.symm⟩
        · rw [if_neg (by simp [hj])] at e
          refine .inr ⟨by simp only [ne_eq, Pos.cell.injEq, true_and]; exact fun h => hj h.symm, ?_⟩
          simp only [f, atPos, both_some, hk, Option.bind_some]; exact e
      · rw [if_neg hkk] at e
        refine .inr ⟨by simp [hkk], ?_⟩
        simp only [f, atPos, both_some]; exact e
    | blk k => simp [atPos] at e
  have hx : ∀ p n, xb C (setC st (setL ds off (.p (.sl wd rows))) k) a.tmps w [(.own wd rows, v)] p = some n → p ≠ .cell k off ∧ xb C st a.tmps w [] (f p) = some n := by
    intro p n e
    have nb : ∀ {p}, (atPos C (setC st (setL ds off (.p (.sl wd rows))) k) a.tmps w [(.own wd rows, v)] p).bind (fun q => tailBlk q.1 q.2) = some n → p ≠ .cell k off ∧ (atPos C st a.tmps w [] (f p)).bind (fun q => tailBlk q.1 q.2) = some n := by
      intro p e
      rw [Option.bind_eq_some_iff] at e
      obtain ⟨⟨d, u⟩, h1, h2⟩ := e
      rcases hat p d u h1 with ⟨_, rfl, _⟩ | ⟨h3, h4⟩
      · simp [tailBlk] at h2
      · exact ⟨h3, by rw [h4]; exact h2⟩
    cases p with
    | blk k' =>
      refine ⟨by simp, ?_⟩
      simp only [xb, liveK_setC hk] at e
      exact e
    | reg i => exact nb e
    | ex j =>
      obtain ⟨h1, h2⟩ := nb (p := .ex j) e
      refine ⟨h1, ?_⟩
      cases j with
      | zero => exact h2
      | succ j => simp [atPos, getL, f] at h2
    | cell k' j => exact nb e
  have finj : ∀ p q, p ≠ .cell k off → q ≠ .cell k off → f p = f q → p = q := by
    intro p q hp hq e
    cases p with
    | ex i => cases i with
      | zero =>
        cases q with
        | ex j => cases j with
          | zero => rfl
          | succ j => simp [f] at e
        | cell k' j => simp only [f] at e; exact absurd e.symm hq
        | _ => simp [f] at e
      | succ i =>
        cases q with
        | ex j => cases j with
          | zero => simp [f] at e
          | succ j => exact e
        | _ => simp [f] at e
    | cell k' i =>
      cases q with
      | ex j => cases j with
        | zero => simp only [f] at e; exact absurd e hp
        | succ j => simp [f] at e
      | _ => first | exact e | simp [f] at e
    | reg i =>
      cases q with
      | ex j => cases j <;> simp [f] at e
      | _ => first | exact e | simp [f] at e
    | blk k' =>
      cases q with
      | ex j => cases j <;> simp [f] at e
      | _ => first | exact e | simp [f] at e
  refine { len := by rw [hr']; exact R.len, regs := by rw [hr']; exact R.regs, exs := ?_, cells := ?_, seals := ?_, frzs := ?_,
           nh := ?_, hb := ?_, tails := ?_, inj := fun p q n h1 h2 => finj p q (hx p n h1).1 (hx q n h2).1 (R.inj _ _ n (hx p n h1).2 (hx q n h2).2), bound := fun p n h => R.bound _ n (hx p n h).2, empty := fun k' h => R.empty k' (by rw [← liveK_setC hk]; exact h), sub := R.sub, frm := R.frm,
           defs := by rw [hdf]; exact R.defs, defr := by rw [hdf]; exact R.defr, maps := ?_, al := fun s => by rw [boxed_setC hk]; exact R.al s }
  · intro i q h
    cases i with
    | zero => simp only [getL, Option.some.injEq] at h; subst h; exact hvr
    | succ i => simp [getL] at h
  · intro k' ds' j d h1 h2
    rw [hcell] at h1
    by_cases hkk : k' = k
    · subst hkk
      rw [if_pos rfl, Option.some.injEq] at h1; subst h1
      rw [getL_setL] at h2
      by_cases hj : off = j
      · subst hj
        rw [if_pos ⟨rfl, hoff⟩, Option.some.injEq] at h2; subst h2
        exact ⟨rfl, v, hv, hvc, by simp only [RepD] at hvr ⊢; exact hvr, hvf⟩
      · rw [if_neg (by simp [hj])] at h2
        exact R.cells k' ds j d hk h2
    · rw [if_neg hkk] at h1
      exact R.cells k' ds' j d h1 h2
  · intro s ps h
    refine R.seals s ps ?_
    cases k with
    | box s' =>
      simp only [setC, getL_setL] at h
      split at h
      · simp at h
      · exact h
    | blk id => exact h
  · intro id ps h
    refine R.frzs id ps ?_
    cases k with
    | box s' => exact h
    | blk id' =>
      simp only [setC, getL_setL] at h
      split at h
      · simp at h
      · exact h
  · cases k with
    | box s' => exact R.nh
    | blk id => simp only [setC, length_setL]; exact R.nh
  · cases k with
    | box s' => exact R.hb
    | blk id => simp only [setC, length_setL]; exact R.hb
  · intro p d u e
    rcases hat p d u e with ⟨_, rfl, _⟩ | ⟨_, h⟩
    · exact TailOK_loose rfl
    · exact R.tails _ d u h
  · intro id es clock h
    refine R.maps id es clock ?_
    cases k with
    | box s' => exact h
    | blk id' =>
      simp only [setC, getL_setL] at h
      split at h
      · simp at h
      · exact h
end
end Go.AE
end

section
namespace Go.AE
open Go

section
variable {T : Program} {B : Base} {C : Ctx} {st : St} {a : Act} {w w' : World} {o : Oper}

def NK (B : Base) (o : Oper) (k : D → St → Prop) : Act → World → Prop := fun a' w' =>
  ∃ d st' C' v a0, k d st' ∧ Rel B C' st' a0 w' [(d, v)] ∧ a' = a0.put o.dst v
def QK (B : Base) (kp : P → St → Prop) : Exit → Act → World → Prop := fun e a' w' =>
  ∃ p st' C' v, e = .panic [{ v, recovered := false }] ∧ kp p st' ∧ Rel B C' st' a' w' [(.p p, v)]
def OpOK (T : Program) (B : Base) (o : Oper) (a : Act) (w : World) (k : D → St → Prop) (kp : P → St → Prop) : Prop := o.wp T a w (NK B o k) (QK B kp)

theorem ok_value {C' : Ctx} {st' : St} {k : D → St → Prop} {kp : P → St → Prop} {d : D} {v : Value} (h : (execOp a.eval o).run T w = .ok (.value v) w')
    (hk : k d st') (R : Rel B C' st' a w' [(d, v)]) : OpOK T B o a w k kp := by
  unfold OpOK Oper.wp
  rw [h]
  exact ⟨d, st', C', v, a, hk, R, rfl⟩
theorem ok_skip {C' : Ctx} {st' : St} {k : D → St → Prop} {kp : P → St → Prop} (h : (execOp a.eval o).run T w = .ok .skip w')
    (hk : k .dead st') (R : Rel B C' st' a w' []) : OpOK T B o a w k kp := by
  unfold OpOK Oper.wp
  rw [h]
  exact ⟨.dead, st', C', undef, a, hk, R.push rfl (by simp [RepD]), rfl⟩
theorem ok_panic {C' : Ctx} {st' : St} {k : D → St → Prop} {kp : P → St → Prop} {p : P} {v : Value} (h : (execOp a.eval o).run T w = .halt (.panic v) w')
    (hk : kp p st') (R : Rel B C' st' a w' [(.p p, v)]) : OpOK T B o a w k kp := by
  unfold OpOK Oper.wp
  rw [h]
  exact ⟨p, st', C', v, rfl, hk, R⟩

theorem opdD_loose {r : List D} {x : Operand} (h : ∀ t, x ≠ .tmp t) : loose (opdD r x) = true := by
  cases x with
  | tmp t => exact absurd rfl (h t)
  | const v => simp only [opdD]; split <;> rfl
  | global g => rfl
  | func f => rfl

/-- a copy -/
theorem Rel.copy {ex : List (D × Value)} (R : Rel B C st a w ex) (x : Operand) : Rel B C st a w ((downD (opdD st.r x), a.eval x) :: ex) :=
  R.push (loose_downD _) (R.opd x).down

theorem valOf_eval {ex : List (D × Value)} (R : Rel B C st a w ex) {x : Operand} {v : Value} (h : (opdD st.r x).val = some v) : a.eval x = valOf st.r x := by
  have := D.val_rep h (R.opd x)
  rw [this, valOf, h]; rfl

theorem scalarOp_ok (R : Rel B C st a w []) (hs : ∀ cs b, o.op ≠ .select cs b) {d : D} (h : scalarOp T st.r o = some d) :
    ∃ v, (execOp a.eval o).run T w = .ok (.value v) w ∧ Rel B C st a w [(d, v)] := by
  unfold scalarOp at h
  split at h
  · rename_i vs hvs
    split at h
    · rename_i v hv
      split at h
      · rename_i hp
        simp only [Option.some.injEq] at h; subst h
        have he : execOp a.eval o = execOp (valOf st.r) o := execOp_congr o hs fun x hx => by
          obtain ⟨u, hu⟩ := valsOf_get hvs x (by simpa using hx)
          exact valOf_eval R hu
        refine ⟨v, by rw [he]; exact pureRun_run hv w, R.push rfl ?_⟩
        simp only [RepD]; exact RepP_ofVal v hp
      · simp at h
    · simp at h
  · simp at h

theorem run_typeInfoT {t : TypeId} {i : TypeInfo} (h : T.info? t = some i) (w : World) : (typeInfo t).run T w = .ok i w := by
  simp [typeInfo, h, Result.andThen]
theorem run_sizeT {t : TypeId} {i : TypeInfo} (h : T.info? t = some i) (w : World) : (sizeOf t).run T w = .ok (sizeT T t) w := by
  simp [sizeOf, run_typeInfoT h, sizeT, h, Result.andThen]
theorem info_of_underlying {t : TypeId} {d : TypeDesc} (h : T.underlying t = some d) : ∃ i, T.info? t = some i := by
  unfold Program.underlying at h
  cases e : T.info? t with
  | none => rw [e] at h; simp at h
  | some i => exact ⟨i, rfl⟩
theorem run_isAggT {t : TypeId} {d : TypeDesc} (h : T.underlying t = some d) (w : World) : (isAgg t).run T w = .ok (isAggT T t) w := by
  simp only [isAgg, Sem.run_bind, run_underlying h, Result.andThen_ok, isAggT, h]
  cases d <;> rfl
theorem zeroT_spec {t : TypeId} {z : P} (h : zeroT T t = some z) : ∃ v, (∀ w, (zeroValue t).run T w = .ok v w) ∧ plainV v = true ∧ z = ofVal v ∧ (∀ vs, v ≠ .tuple vs) := by
  unfold zeroT at h
  split at h
  · rename_i v hv
    split at h
    · rename_i hp
      simp only [Option.some.injEq] at h
      simp only [Option.bind_eq_some_iff] at hv
      obtain ⟨i, h1, h2⟩ := hv
      simp only [Bool.and_eq_true] at hp
      refine ⟨v, fun w => ?_, hp.1, h.symm, fun vs e => ?_⟩
      · simp [zeroValue, run_typeInfoT h1, h2, Result.andThen]
      · subst e; simp [notTup] at hp
    · simp at h
  · simp at h

/-- the cells of a plain value -/
theorem ofVal_cells {v : Value} (h : plainV v = true) (ht : ∀ vs, v ≠ .tuple vs) (Φ : Nat → Nat → Option Value) :
    RepPs Φ (ofVal v).cells v.cells.toList ∧ (∀ u ∈ v.cells.toList, isCell u = true) := by
  cases v with
  | agg cs =>
    simp only [plainV] at h
    simp only [ofVal, P.cells, Value.cells]
    refine ⟨RepPs_sc cs.toList h, fun u hu => plain_isCell (List.all_eq_true.1 h u hu)⟩
  | tuple vs => exact absurd rfl (ht vs)
  | _ =>
    simp only [ofVal, P.cells, Value.cells, RepPs]
    refine ⟨⟨_, [], rfl, ?_, rfl⟩, ?_⟩
    · simp only [RepP]; exact ⟨trivial, h⟩
    · intro u hu; simp only [List.mem_singleton] at hu; subst hu; exact plain_isCell h

theorem mapP_loose {ps : List P} {i : Nat} {d : D} (h : getL (ps.map D.p) i = some d) : loose d = true ∧ okArg d = true := by
  rw [getL_map] at h
  simp only [Option.map_eq_some_iff] at h
  obtain ⟨p, _, rfl⟩ := h
  exact ⟨rfl, by simp [okArg]⟩

theorem alloc_ok {t : TypeId} {z : P} (R : Rel B C st a w []) (hz : zeroT T t = some z) (hop : o.op = .alloc t)
    {esc : List Tmp} {k : D → St → Prop} {kp : P → St → Prop} {d : Tmp}
    (h : if esc.contains d then k (.ref st.h.length 0) (newBlk st (z.cells.map .p)) else if d < st.b.length then k (.lp d 0) (newBox st d (z.cells.map .p)) else False) :
    OpOK T B o a w k kp := by
  obtain ⟨v, hv, hp, rfl, hnt⟩ := zeroT_spec hz
  obtain ⟨h1, h2⟩ := ofVal_cells hp hnt C.Φ
  have hrun : (execOp a.eval o).run T w = .ok (.value (.pointer (some ⟨w.heap.size, 0, none⟩))) (w.alloc (.cells v.cells t)) := by
    unfold execOp
    rw [hop]
    simp [Instr.alloc, hv, newVar, newRow, Result.andThen]
  have hvc : (Obj.cells v.cells t) = Obj.cells v.cells.toList.toArray t := by simp
  split at h
  · obtain ⟨C', R'⟩ := R.newBlk t h1.toD h2 (fun i x hx => mapP_loose hx)
    exact ok_value hrun h (by rw [hvc]; exact R')
  · split at h
    · rename_i hd
      obtain ⟨C', R'⟩ := R.newBox t hd h1.toD h2 (fun i x hx => mapP_loose hx)
      exact ok_value hrun h (by rw [hvc]; exact R')
    · exact h.elim

theorem loose_cells {d : D} (hok : okCells d = true) (ha : okArg d = true) : ∀ i x, getL (downD d).cells i = some x → loose x = true ∧ okArg x = true := by
  intro i x hx
  cases d with
  | p q =>
    cases q with
    | agg ps => exact mapP_loose hx
    | _ => simp only [downD, D.cells] at hx; cases i <;> simp [getL] at hx; subst hx; exact ⟨rfl, by simp [okArg]⟩
  | own w rows => simp only [downD, D.cells] at hx; cases i <;> simp [getL] at hx; subst hx; exact ⟨rfl, by simp [okArg]⟩
  | agg ds =>
    simp only [downD, D.cells, getL_map, Option.map_eq_some_iff] at hx
    obtain ⟨y, h1, rfl⟩ := hx
    refine ⟨loose_down1 y, ?_⟩
    simp only [okArg] at ha
    have : ∀ (ds : List D) i y, okArgs ds = true → getL ds i = some y → okArg y = true := by
      intro ds
      induction ds with
      | nil => intro i y _ h; simp [getL] at h
      | cons z zs ih =>
        intro i y hz h
        simp only [okArgs, Bool.and_eq_true] at hz
        cases i with
        | zero => simp only [getL, Option.some.injEq] at h; subst h; exact hz.1
        | succ i => exact ih i y hz.2 (by simpa [getL] using h)
    have hy := this ds i y ha h1
    cases y <;> simp_all [down1, okArg]
  | lp s off => simp [okArg] at ha
  | tup ds => simp [okCells, cellD] at hok
  | dead => simp [okCells, cellD] at hok
  | ref _ _ => simp only [downD, D.cells] at hx; cases i <;> simp [getL] at hx; subst hx; exact ⟨rfl, ha⟩
  | ms _ _ _ _ => simp only [downD, D.cells] at hx; cases i <;> simp [getL] at hx; subst hx; exact ⟨rfl, ha⟩
  | mp _ => simp only [downD, D.cells] at hx; cases i <;> simp [getL] at hx; subst hx; exact ⟨rfl, ha⟩
  | fn _ _ => simp only [downD, D.cells] at hx; cases i <;> simp [getL] at hx; subst hx; exact ⟨rfl, ha⟩

theorem okCells_down {d : D} (h : okCells d = true) : okCells (downD d) = true := by
  cases d with
  | own w rows => rfl
  | agg ds =>
    simp only [downD, okCells, List.all_map, List.all_eq_true] at h ⊢
    intro x hx
    have := h x hx
    cases x <;> simp_all [down1, cellD, cellP]
  | tup ds => simp [okCells, cellD] at h
  | _ => exact h

theorem box_ok {t : TypeId} {x : Operand} (R : Rel B C st a w []) (hop : o.op = .box t x) (hok : okCells (opdD st.r x) = true) (ha : okArg (opdD st.r x) = true)
    {esc : List Tmp} {k : D → St → Prop} {kp : P → St → Prop} {d : Tmp}
    (h : if esc.contains d then k (.ref st.h.length 0) (newBlk st (downD (opdD st.r x)).cells) else if d < st.b.length then k (.lp d 0) (newBox st d (downD (opdD st.r x)).cells) else False) :
    OpOK T B o a w k kp := by
  obtain ⟨h1, h2⟩ := okCells_rep (okCells_down hok) (R.opd x).down
  have hrun : (execOp a.eval o).run T w = .ok (.value (.pointer (some ⟨w.heap.size, 0, none⟩))) (w.alloc (.cells (a.eval x).cells t)) := by
    unfold execOp
    rw [hop]
    simp [Instr.box, newVar, newRow, Result.andThen]
  have hvc : (Obj.cells (a.eval x).cells t) = Obj.cells (a.eval x).cells.toList.toArray t := by simp
  split at h
  · obtain ⟨C', R'⟩ := R.newBlk t h1 h2 (loose_cells hok ha)
    exact ok_value hrun h (by rw [hvc]; exact R')
  · split at h
    · rename_i hd
      obtain ⟨C', R'⟩ := R.newBox t hd h1 h2 (loose_cells hok ha)
      exact ok_value hrun h (by rw [hvc]; exact R')
    · exact h.elim
end
end Go.AE
end

