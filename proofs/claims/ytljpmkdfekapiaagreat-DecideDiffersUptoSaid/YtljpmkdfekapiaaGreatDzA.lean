/- The evaluator, and its laws on single steps. -/
import GoSem.Dispatch
import GoSem.Step
import Derived.CallsIn
import Derived.Laws.Sem
import Derived.Laws.World
import Derived.Laws.Cells
import Derived.ChangeKeysEq
import Derived.Laws.Tables
import Derived.Laws.Unary
set_option linter.unusedVariables false
set_option linter.unusedSimpArgs false
namespace Go.Ev
open Go

/-! ### A trie: partial maps from numbers -/
inductive Tr (α : Type) where
  | nil : Tr α
  | node (l : Tr α) (v : Option α) (r : Tr α) : Tr α
namespace Tr
variable {α : Type}
def get : Tr α → Nat → Option α
  | .nil, _ => none
  | .node l v r, n => bif Nat.beq n 0 then v else bif Nat.beq (n % 2) 1 then get l (n / 2) else get r (n / 2 - 1)
def mkL (l : Tr α) (v : Option α) (r : Tr α) : Tr α := match l with
  | .nil => .node .nil v r
  | .node a b c => .node (.node a b c) v r
def mkR (l : Tr α) (v : Option α) (r : Tr α) : Tr α := match r with
  | .nil => .node l v .nil
  | .node a b c => .node l v (.node a b c)
def putF (v : Option α) : Nat → Tr α → Nat → Tr α
  | 0, t, _ => t
  | f + 1, .nil, n => bif Nat.beq n 0 then .node .nil v .nil else bif Nat.beq (n % 2) 1 then mkL (putF v f .nil (n / 2)) none .nil else mkR .nil none (putF v f .nil (n / 2 - 1))
  | f + 1, .node l w r, n => bif Nat.beq n 0 then .node l v r else bif Nat.beq (n % 2) 1 then mkL (putF v f l (n / 2)) w r else mkR l w (putF v f r (n / 2 - 1))
def put (t : Tr α) (n : Nat) (v : Option α) : Tr α := putF v (n + 1) t n
end Tr

/-! ### The abstract heap -/
inductive AObj where
  | o (x : Obj)
  | loop (g : Tr Value) (n : Nat) (ps : List Tmp) (assign body : Code)
  | marks
structure H where
  objs : Tr AObj
  next : Nat
  fz : Nat → Option (Nat → Option Value)
def H.new (h : H) (o : AObj) : Nat × H := match h.next with
  | 0 => (0, ⟨h.objs.put 0 (some o), 1, h.fz⟩)
  | n + 1 => (n + 1, ⟨h.objs.put (n + 1) (some o), n + 2, h.fz⟩)
def H.set (h : H) (n : Nat) (o : Option AObj) : H := ⟨h.objs.put n o, h.next, h.fz⟩
def H.cells (h : H) (a : Addr) : Option (List Value × TypeId) :=
  match a.spot with
  | some _ => none
  | none => match h.objs.get a.block with
    | some (.o (.cells c e _)) => some (c.toList, e)
    | _ => none
/-- What can be read: an object of the run's own, or one that is only read. -/
def cut (l : List Value) (off n : Nat) : Option (List Value) :=
  let s := (l.drop off).take n
  bif Nat.beq s.length n then some s else none
def fcut (f : Nat → Option Value) (off : Nat) : Nat → Option (List Value)
  | 0 => some []
  | n + 1 => (f off).bind fun v => (fcut f (off + 1) n).map (v :: ·)
def H.rcut (h : H) (a : Addr) (n : Nat) : Option (List Value) :=
  match a.spot with
  | some _ => none
  | none => match h.objs.get a.block with
    | some (.o (.cells c _ _)) => cut c.toList a.off n
    | some _ => none
    | none => match h.fz a.block with
      | some f => fcut f a.off n
      | none => none
def H.map (h : H) (n : Nat) : Option (List MapEntry × Nat) := match h.objs.get n with
  | some (.o (.map es k)) => some (es.toList, k)
  | _ => none

/-! ### Values without addresses -/
def plainS : Value → Bool
  | .bool _ | .int _ _ | .string _ | .float _ _ | .nilFunc | .nilIface | .pointer none | .map none => true
  | .slice none l c => Nat.beq l 0 && Nat.beq c 0
  | .func (.func _) a b => a.toList.isEmpty && b.toList.isEmpty
  | _ => false
def plainV : Value → Bool
  | .agg cs => cs.toList.all plainS
  | .tuple cs => cs.toList.all plainS
  | v => plainS v
def cellsL : Value → List Value
  | .agg cs => cs.toList
  | v => [v]

/-- A run that touches nothing. -/
def prun {α : Type} (P : Program) : Sem α → Option α
  | .pure a => some a
  | .program k => prun P (k P)
  | .mark _ k => prun P k
  | _ => none

structure T where
  g : Tr Value
  n : Nat
  ds : List Nat
  rd : Bool
def putT (g : Tr Value) (n d : Nat) (v : Value) : Tr Value := bif Nat.blt d n then g.put d (some v) else g
def T.put (t : T) (d : Option Tmp) (v : Value) : T := match d with
  | some d => { t with g := putT t.g t.n d v }
  | none => t

def evalO (g : Tr Value) : Operand → Option Value
  | .tmp t => g.get t
  | .const v => bif plainV v then some v else none
  | .global _ => none
  | .func f => some (.func (.func f) #[] #[])

def setMany : List Value → Nat → List Value → List Value
  | l, _, [] => l
  | [], _, _ => []
  | x :: l, 0, v :: vs => v :: setMany l 0 vs
  | x :: l, n + 1, vs => x :: setMany l n vs

def isAggD : TypeDesc → Bool
  | .struct _ | .array _ _ => true
  | _ => false
def sizeT (P : Program) (t : TypeId) : Option Nat := (P.info? t).map (·.size)
def aggT (P : Program) (t : TypeId) : Option Bool := (P.underlying t).map isAggD
def zeroT (P : Program) (t : TypeId) : Option Value := (P.info? t).bind (·.zero)

def loadE (P : Program) (t : TypeId) (h : H) (a : Addr) : Option Value :=
  (aggT P t).bind fun ag =>
    bif ag then (sizeT P t).bind fun n => (h.rcut a n).map fun s => .agg ⟨s⟩
    else (h.rcut a 1).bind List.head?
def newE (P : Program) (h : H) (cs : List Value) (e : TypeId) : Option (Addr × H) := match sizeT P e with
  | none => none
  | some _ => match h.new (.o (.cells ⟨cs⟩ e)) with
    | (n, h') => some (⟨n, 0, none⟩, h')
/-- A type's zero value, cell by cell. -/
def zcells (P : Program) (e : TypeId) : Option (List Value) := (zeroT P e).bind fun z => bif (cellsL z).all plainS then some (cellsL z) else none
def ptrE (r : Option (Addr × H)) : Option (Value × H) := match r with
  | some (a, h) => some (.pointer (some a), h)
  | none => none
def sliE (r : Option (Addr × H)) (l c : Nat) : Option (Value × H) := match r with
  | some (a, h) => some (.slice (some a) l c, h)
  | none => none
def partE (P : Program) (t : TypeId) (cs : List Value) (off : Nat) : Option Value :=
  (aggT P t).bind fun ag => bif ag then (sizeT P t).bind fun n => (cut cs off n).map fun s => .agg ⟨s⟩ else cs[off]?
def repL (z : List Value) : Nat → List Value
  | 0 => []
  | n + 1 => z ++ repL z n
def isTuple : Value → Bool
  | .tuple _ => true
  | _ => false
def fillE (place : Nat → Option (Nat × Nat)) (cells : List Value) : List (Nat × Value) → Option (List Value)
  | [] => some cells
  | (i, v) :: rest => match place i with
    | none => none
    | some (off, size) =>
      bif !(isTuple v) && Nat.beq (cellsL v).length size && Nat.ble (off + size) cells.length then fillE place (setMany cells off (cellsL v)) rest else none

/-- The capacity as it is known: 0: none; 1: at least the length, and so much is there; 2: at least the length. -/
def capE (l : Nat) (exactly : Bool) : Nat := bif Nat.beq l 0 then (bif exactly then 0 else 1) else 1

def evalL (g : Tr Value) : List Operand → Option (List Value)
  | [] => some []
  | x :: xs => (evalO g x).bind fun v => (evalL g xs).bind fun vs => some (v :: vs)
def evalP (g : Tr Value) : List (Nat × Operand) → Option (List (Nat × Value))
  | [] => some []
  | (i, x) :: xs => (evalO g x).bind fun v => (evalP g xs).bind fun vs => some ((i, v) :: vs)
def allPlain : List Value → Bool
  | [] => true
  | v :: vs => plainV v && allPlain vs

def nilCmp (d : TypeDesc) (x y : Value) : Option Bool :=
  match d, x, y with
  | .slice _, .slice (some _) _ _, .slice none _ c => bif Nat.beq c 0 then some false else none
  | .slice _, .slice none _ c, .slice (some _) _ _ => bif Nat.beq c 0 then some false else none
  | .map _ _, .map (some _), .map none => some false
  | .map _ _, .map none, .map (some _) => some false
  | .pointer _, .pointer (some _), .pointer none => some false
  | .pointer _, .pointer none, .pointer (some _) => some false
  | _, _, _ => none

/-- The first key that is equal. -/
def keyIdx (P : Program) (K : TypeId) (k : Value) : List MapEntry → Nat → Option (Option Nat)
  | [], _ => some none
  | e :: es, i => bif plainV e.key then match prun P (Op.equal K k e.key) with
      | some true => some (some i)
      | some false => keyIdx P K k es (i + 1)
      | none => none
    else none
def modL (l : List MapEntry) (i : Nat) (f : MapEntry → MapEntry) : List MapEntry := match l, i with
  | [], _ => []
  | e :: es, 0 => f e :: es
  | e :: es, i + 1 => e :: modL es i f
def idxBorn (b : Int) : List MapEntry → Nat → Option Nat
  | [], _ => none
  | e :: es, i => bif decide ((e.born : Int) = b) then some i else idxBorn b es (i + 1)

def intV : Value → Option Int
  | .int _ n => some n
  | _ => none
/-- A bound of a slice expression. -/
def boundE (v : Option Value) (dflt : Nat) (most : Nat) : Option Nat :=
  match v with
  | none => some dflt
  | some (.int _ n) => bif decide (0 ≤ n) && Nat.ble n.toNat most then some n.toNat else none
  | some _ => none
def capOk : Value → Bool
  | .pointer (some _) => true
  | v => plainS v
def oEval (g : Tr Value) : Option Operand → Option (Option Value)
  | none => some none
  | some x => (evalO g x).map some

def strBytes (s : ByteArray) : List Value := s.data.toList.map fun b => .int .u8 b.toNat

/-- What is appended, or copied: how many elements, and their cells. -/
def srcE (h : H) (size : Nat) (x : Value) : Option (Nat × List Value) :=
  match x with
  | .slice none n _ => bif Nat.beq n 0 then some (0, []) else none
  | .slice (some b) n _ => match h.rcut b (n * size) with
    | some c => some (n, c)
    | none => none
  | .string st => bif Nat.beq size 1 then some (st.size, strBytes st) else none
  | _ => none
def isIntD : TypeDesc → Bool
  | .int _ => true
  | _ => false
def zerosE (P : Program) (argTypes : Array TypeId) : Option Bool :=
  match argTypes[1]? with
  | some xt => (P.underlying xt).map isIntD
  | none => some false
/-- append: always a new row; the elder one is gone (it may be the same memory). -/
def appendE (P : Program) (argTypes : Array TypeId) (h : H) (s x : Value) : Option (Value × H) :=
  match argTypes[0]?, s with
  | some sType, .slice base sLen acap => match P.underlying sType with
    | some (.slice elem) => match P.info? elem, zcells P elem, zerosE P argTypes with
      | some info, some z, some false =>
        match srcE h info.size x with
        | some (n, new) =>
          bif Nat.beq n 0 then some (s, h)
          else bif Nat.ble (((sLen + n) * 4 + 1000) * info.bytes) 1099511627776 && Nat.ble (sLen + n) 4294967296 && Nat.blt 0 info.bytes && Nat.beq z.length info.size && Nat.blt 0 n then match base with
            | none => bif Nat.beq sLen 0 && Nat.beq acap 0 then sliE (newE P h new elem) n 1 else none
            | some a => match h.cells a with
              | some (l, e) => bif Nat.beq e elem && (Nat.beq acap 1 || Nat.beq acap 0) then match cut l a.off (sLen * info.size) with
                  | some old => sliE (newE P (bif Nat.beq acap 0 && Nat.beq sLen 0 then h else h.set a.block none) (old ++ new) elem) (sLen + n) 1
                  | none => none
                else none
              | none => bif Nat.beq sLen 0 && Nat.beq acap 0 then sliE (newE P h new elem) n 1 else none
          else none
        | none => none
      | _, _, _ => none
    | _ => none
  | _, _ => none

/-- Cells are laid over an object. -/
def layE (h : H) (a : Addr) (cs : List Value) : Option H := match h.cells a with
  | some (l, e) => bif Nat.ble (a.off + cs.length) l.length then some (h.set a.block (some (.o (.cells ⟨setMany l a.off cs⟩ e)))) else none
  | none => none
def storeE (P : Program) (t : TypeId) (h : H) (a : Addr) (v : Value) : Option H :=
  bif isTuple v then none else match sizeT P t with
  | some n => bif Nat.beq (cellsL v).length n then layE h a (cellsL v) else none
  | none => none
def copyE (P : Program) (argTypes : Array TypeId) (h : H) (d x : Value) : Option (Value × H) :=
  match argTypes[0]?, d with
  | some dType, .slice base dLen _ => match P.underlying dType with
    | some (.slice elem) => match sizeT P elem with
      | some size => match srcE h size x with
        | some (n, new) =>
          let m := Nat.min n dLen
          bif Nat.beq m 0 then some (goInt 0, h) else match base with
            | none => none
            | some a => (layE h a (new.take (m * size))).map fun h' => (goInt m, h')
        | none => none
      | none => none
    | _ => none
  | _, _ => none
def clearE (P : Program) (argTypes : Array TypeId) (h : H) (x : Value) : Option (Value × H) :=
  match x with
  | .slice none _ _ => bif ((argTypes[0]?).bind P.underlying).isSome then some (.tuple #[], h) else none
  | .slice (some a) n _ => match (argTypes[0]?).bind P.underlying with
    | some (.slice elem) => bif Nat.beq n 0 then some (.tuple #[], h) else match zcells P elem with
      | some z => (layE h a (repL z n)).map fun h' => (.tuple #[], h')
      | none => none
    | _ => none
  | _ => none

def lenE (P : Program) (argTypes : Array TypeId) (type : TypeId) (h : H) (vs : List Value) : Option Value :=
  match vs with
  | [.slice _ n _] => (match (argTypes[0]?).bind P.underlying with
      | some (.slice _) => some (goInt n)
      | _ => none)
  | [.map (some r)] => (match (argTypes[0]?).bind P.underlying, h.map r with
      | some (.map _ _), some (es, _) => some (goInt es.length)
      | _, _ => none)
  | vs => bif allPlain vs then match prun P (Builtin.len_ argTypes type ⟨vs⟩) with
      | some v => bif plainV v then some v else none
      | none => none
    else none
def plE (r : Option Value) (h : H) : Option (Value × H) := match r with
  | some v => bif plainV v then some (v, h) else none
  | none => none
def builtinE (P : Program) (b : Builtin) (argTypes : Array TypeId) (type : TypeId) (h : H) (vs : List Value) : Option (Value × H) :=
  match b, vs with
  | .append, [s, x] => appendE P argTypes h s x
  | .copy, [d, x] => copyE P argTypes h d x
  | .clear, [x] => clearE P argTypes h x
  | .len, vs => (lenE P argTypes type h vs).map (·, h)
  | .min, vs => bif allPlain vs then plE (prun P (Builtin.min_ argTypes type ⟨vs⟩)) h else none
  | .max, vs => bif allPlain vs then plE (prun P (Builtin.max_ argTypes type ⟨vs⟩)) h else none
  | _, _ => none

def nextE (h : H) (it : Value) (isString : Bool) : Option (Value × H) :=
  match it with
  | .pointer (some a) => bif Nat.beq a.off 0 && a.spot.isNone then match h.objs.get a.block, isString with
    | some (.o (.mapIter none _ _ _)), false => some (.tuple #[.bool false], h)
    | some (.o (.mapIter (some m) since seen last)), false => match h.map m with
      | none => none
      | some (es, clock) =>
      bif !seen.toList.isEmpty && !es.isEmpty && es.all (fun e => Nat.ble last e.born) then none else
      let left := es.filter fun e => !(seen.toList.contains e.born)
      let old := left.filter fun e => Nat.blt e.born since
      let new := left.filter fun e => Nat.ble since e.born
      match old, new with
      | [], [] => some (.tuple #[.bool false], h)
      | [e], [] => bif isTuple e.val then none else some (.tuple #[.bool true, e.key, e.val], h.set a.block (some (.o (.mapIter (some m) since ⟨seen.toList ++ [e.born]⟩ clock))))
      | _, _ => none
    | _, _ => none
  else none
  | _ => none

def placesOf (P : Program) (fs : Array Field) : Option (List (Nat × Nat)) := fs.toList.mapM fun f => (P.info? f.type).map fun i => (f.offset, i.size)
def plV (r : Option Value) : Option Value := match r with
  | some v => bif plainV v then some v else none
  | none => none
def sliceE (P : Program) (t : TypeId) (v : Value) (lo hi mx : Option Value) : Option Value :=
  match v, P.underlying t with
  | .slice a l c, some (.slice e) => match sizeT P e, mx with
    | some s, none => match boundE hi l l with
      | some hh => match boundE lo 0 hh with
        | some ll => (match a with
          | none => bif Nat.beq l 0 && Nat.beq c 0 then some (.slice none 0 0) else bif Nat.beq l 0 && Nat.beq c 1 then some (.slice none 0 1) else none
          | some a => bif Nat.beq ll 0 then some (.slice (some a) hh c)
            else bif Nat.beq hh ll then some (.slice none 0 1) else some (.slice (some (a.add (ll * s))) (hh - ll) 2))
        | none => none
      | none => none
    | some s, some m => match boundE (some m) 0 l, hi with
      | some mm, some hv => match boundE (some hv) 0 mm with
        | some hh => match boundE lo 0 hh with
          | some ll => (match a with
            | none => bif Nat.beq l 0 && Nat.beq c 0 then some (.slice none 0 0) else bif Nat.beq l 0 && Nat.beq c 1 then some (.slice none 0 1) else none
            | some a => bif Nat.beq mm ll then some (.slice (some a) 0 0) else some (.slice (some (a.add (ll * s))) (hh - ll) 2))
          | none => none
        | none => none
      | _, _ => none
    | none, _ => none
  | .string s, some .string => match mx, boundE hi s.size s.size with
    | none, some hh => match boundE lo 0 hh with
      | some ll => some (.string (s.extract ll hh))
      | none => none
    | _, _ => none
  | _, _ => none
def binE (P : Program) (op : BinOp) (t : TypeId) (x y : Operand) (a b : Value) : Option Value :=
  bif plainV a && plainV b then plV (prun P (do eqGuard op t x y a b; binOp op t a b))
  else match op, P.underlying t with
    | .eql, some d => (nilCmp d a b).map .bool
    | .neq, some d => (nilCmp d a b).map fun r => .bool !r
    | _, _ => none
def convE (P : Program) (s d : TypeId) (h : H) (a : Value) : Option (Value × H) :=
  bif plainV a then (match P.underlying s, P.underlying d, a with
    | some .string, some (.slice e), .string st => match P.underlying e with
      | some (.int .u8) => bif Nat.blt st.size 4294967296 && (sizeT P e == some 1) then sliE (newE P h (strBytes st) e) st.size 1 else none
      | _ => none
    | _, _, _ => (plV (prun P (convert s d a))).map (·, h))
  else none
def newMapE (r : Nat × H) : Value × H := match r with | (n, h) => (.map (some n), h)
def newPtrE (r : Nat × H) : Value × H := match r with | (n, h) => (.pointer (some ⟨n, 0, none⟩), h)
def mkSliceE (P : Program) (t : TypeId) (h : H) (l c : Int) : Option (Value × H) := match P.underlying t with
  | some (.slice e) => match P.info? e, zcells P e with
    | some i, some z => bif Nat.beq z.length i.size && decide (0 ≤ l) && decide (l ≤ c) && Nat.ble (c.toNat * i.bytes) 1099511627776 && decide (c < 4294967296) && Nat.blt 0 i.size then
        sliE (newE P h (repL z c.toNat) e) l.toNat (bif Nat.beq c.toNat 0 then 0 else 1)
      else none
    | _, _ => none
  | _ => none
def idxAddrE (P : Program) (t : TypeId) (x i : Value) : Option Value := match x, i, P.underlying t with
  | .slice (some a) l _, .int _ n, some (.slice e) => match sizeT P e with
    | some s => bif decide (0 ≤ n) && Nat.blt n.toNat l then some (.pointer (some (a.add (n.toNat * s)))) else none
    | none => none
  | .pointer (some a), .int _ n, some (.array l e) => match sizeT P e with
    | some s => bif decide (0 ≤ n) && Nat.blt n.toNat l then some (.pointer (some (a.add (n.toNat * s)))) else none
    | none => none
  | _, _, _ => none
def indexE (P : Program) (t : TypeId) (x i : Value) : Option Value := match x, i with
  | .string s, .int k n => plV (prun P (Instr.index t (.string s) (.int k n)))
  | .agg cs, .int _ n => match P.underlying t with
    | some (.array l e) => match sizeT P e with
      | some s => bif decide (0 ≤ n) && Nat.blt n.toNat l then partE P e cs.toList (n.toNat * s) else none
      | none => none
    | _ => none
  | _, _ => none
/-- What a map's operations look at: the entries and the place of a key. -/
def keyOk (v : Value) : Bool := plainV v && !(isTuple v)
def findE (P : Program) (K : TypeId) (empty : Bool) (k : Value) (es : List MapEntry) : Option (Option (Nat × MapEntry)) :=
  bif keyOk k then match prun P (Instr.checkKey empty 10000 K k), keyIdx P K k es 0 with
    | some (), some none => some none
    | some (), some (some i) => (es[i]?).map fun e => some (i, e)
    | _, _ => none
  else none
def okE (ok : Bool) (v : Value) (b : Bool) : Value := bif ok then .tuple #[v, .bool b] else v
def lookTailE (P : Program) (K E : TypeId) (k : Value) (ok : Bool) (es : List MapEntry) : Option Value :=
  match findE P K es.isEmpty k es with
  | some (some (_, e)) => bif ok && isTuple e.val then none else some (okE ok e.val true)
  | some none => match zeroT P E with
    | some z => bif plainV z && !(isTuple z) then some (okE ok z false) else none
    | none => none
  | none => none
def lookupE (P : Program) (t : TypeId) (h : H) (x k : Value) (ok : Bool) : Option Value := match P.underlying t, x with
  | some (.map K E), .map none => lookTailE P K E k ok []
  | some (.map K E), .map (some r) => match h.map r with
    | some (es, _) => lookTailE P K E k ok es
    | none => none
  | _, _ => none
def setMapE (h : H) (r : Nat) (es : List MapEntry) (clock : Nat) : H := h.set r (some (.o (.map ⟨es⟩ clock)))
def updateE (P : Program) (t : TypeId) (h : H) (m k v : Value) : Option H := match P.underlying t, m with
  | some (.map K _), .map (some r) => match h.map r with
    | some (es, clock) => match findE P K false k es with
      | some (some (i, e)) => bif Instr.sameBits 10000 e.key k then some (setMapE h r (modL es i fun e => { e with key := k, val := v }) clock) else none
      | some none => some (setMapE h r (es ++ [{ key := k, val := v, born := clock }]) (clock + 1))
      | none => none
    | none => none
  | _, _ => none
def entryE (P : Program) (t : TypeId) (h : H) (m k : Value) : Option (Value × H) := match P.underlying t, m with
  | some (.map K E), .map (some r) => match h.map r with
    | some (es, clock) => match findE P K false k es with
      | some (some (i, e)) => bif Instr.sameBits 10000 e.key k && !(isTuple e.val) then some (.tuple #[e.val, goInt e.born], setMapE h r (modL es i fun e => { e with key := k }) clock) else none
      | some none => match zeroT P E with
        | some z => bif plainV z && !(isTuple z) then some (.tuple #[z, goInt clock], setMapE h r (es ++ [{ key := k, val := z, born := clock }]) (clock + 1)) else none
        | none => none
      | none => none
    | none => none
  | _, _ => none
def entryStoreE (h : H) (m s v : Value) : Option H := match m, s with
  | .map (some r), .int _ b => match h.map r with
    | some (es, clock) => match idxBorn b es 0 with
      | some i => some (setMapE h r (modL es i fun e => { e with val := v }) clock)
      | none => none
    | none => none
  | _, _ => none
def rangeE (P : Program) (t : TypeId) (h : H) (x : Value) : Option (Value × H) := match P.underlying t, x with
  | some (.map _ _), .map none => some (newPtrE (h.new (.o (.mapIter none 0 #[] 0))))
  | some (.map _ _), .map (some m) => match h.map m with
    | some (_, clock) => some (newPtrE (h.new (.o (.mapIter (some m) clock #[] clock))))
    | none => none
  | _, _ => none
def stepE (h : H) (it : Value) : Option Value := match it with
  | .pointer (some a) => bif Nat.beq a.off 0 && a.spot.isNone then match h.objs.get a.block with
    | some (.o (.mapIter (some m) _ seen stepped)) => match seen.toList.getLast?, h.map m with
      | some st, some (es, clock) => bif Nat.beq clock stepped then match es.find? fun e => e.born == st with
          | some e => bif isTuple e.val then none else some (.tuple #[e.key, e.val])
          | none => none
        else none
      | _, _ => none
    | _ => none
  else none
  | _ => none
/-- The operations that call nothing. -/
def opE (P : Program) (g : Tr Value) (h : H) (o : Op) : Option (Value × H) :=
  match o with
  | .move x | .assign x => match evalO g x with
    | some v => some (v, h)
    | none => none
  | .pick c a b => match evalO g c with
    | some (.bool t) => match (bif t then evalO g a else evalO g b) with
      | some v => some (v, h)
      | none => none
    | _ => none
  | .alloc e => match zcells P e with
    | some z => ptrE (newE P h z e)
    | none => none
  | .box e x => match evalO g x with
    | some v => bif isTuple v then none else ptrE (newE P h (cellsL v) e)
    | none => none
  | .build t ps => match evalP g ps.toList, zcells P t, P.underlying t with
    | some vs, some z, some (.struct fs) => match placesOf P fs with
      | some pl => match fillE (fun i => pl[i]?) z vs with
        | some cs => some (.agg ⟨cs⟩, h)
        | none => none
      | none => none
    | some vs, some z, some (.array _ e) => match sizeT P e with
      | some s => match fillE (fun i => some (i * s, s)) z vs with
        | some cs => some (.agg ⟨cs⟩, h)
        | none => none
      | none => none
    | _, _, _ => none
  | .buildSlice t n ps => match evalP g ps.toList, P.underlying t with
    | some vs, some (.slice e) => match sizeT P e, zcells P e with
      | some s, some z => bif Nat.beq z.length s && Nat.ble (n * s) 16777216 && Nat.blt 0 s then
          match fillE (fun j => some (j * s, s)) (repL z n) vs with
          | some cs => sliE (newE P h cs e) n (capE n true)
          | none => none
        else none
      | _, _ => none
    | _, _ => none
  | .load t x => match evalO g x with
    | some (.pointer (some a)) => match loadE P t h a with
      | some v => some (v, h)
      | none => none
    | _ => none
  | .store t x v => match evalO g x, evalO g v with
    | some (.pointer (some a)), some v => match storeE P t h a v with
      | some h' => some (.tuple #[], h')
      | none => none
    | _, _ => none
  | .nilCheck x => match evalO g x with
    | some (.pointer (some a)) => some (.pointer (some a), h)
    | some (.func (.func f) a b) => some (.func (.func f) a b, h)
    | _ => none
  | .binOp op t x y _ => match evalO g x, evalO g y with
    | some a, some b => match binE P op t x y a b with
      | some v => some (v, h)
      | none => none
    | _, _ => none
  | .unOp op _ x => match evalO g x with
    | some a => bif plainV a then (match prun P (Op.unary op a) with
        | some v => bif plainV v then some (v, h) else none
        | none => none) else none
    | _ => none
  | .convert s d x => match evalO g x with
    | some a => convE P s d h a
    | none => none
  | .makeFunc f first cap => match f, evalL g cap.toList with
    | .func f, some vs => bif first.toList.isEmpty && vs.all capOk then some (.func (.func f) #[] ⟨vs⟩, h) else none
    | _, _ => none
  | .makeMap _ none => some (newMapE (h.new (.o (.map #[] 0))))
  | .makeSlice t l c => match evalO g l, evalO g c with
    | some (.int .i64 l), some (.int .i64 c) => mkSliceE P t h l c
    | _, _ => none
  | .slice t x lo hi mx => match evalO g x, oEval g lo, oEval g hi, oEval g mx with
    | some v, some lo, some hi, some mx => match sliceE P t v lo hi mx with
      | some v => some (v, h)
      | none => none
    | _, _, _, _ => none
  | .fieldAddr s x f => match evalO g x, P.underlying s with
    | some (.pointer (some a)), some (.struct fs) => match fs[f]? with
      | some f => match sizeT P f.type with
        | some n => bif Nat.beq n 0 then none else some (.pointer (some (a.add f.offset)), h)
        | none => none
      | none => none
    | _, _ => none
  | .field t x f => match evalO g x, P.underlying t with
    | some (.agg cs), some (.struct fs) => match fs[f]? with
      | some f => match partE P f.type cs.toList f.offset with
        | some v => some (v, h)
        | none => none
      | none => none
    | _, _ => none
  | .indexAddr t x i => match evalO g x, evalO g i with
    | some x, some i => match idxAddrE P t x i with
      | some v => some (v, h)
      | none => none
    | _, _ => none
  | .index t x i => match evalO g x, evalO g i with
    | some x, some i => match indexE P t x i with
      | some v => some (v, h)
      | none => none
    | _, _ => none
  | .lookup t x i ok => match evalO g x, evalO g i with
    | some x, some k => match lookupE P t h x k ok with
      | some v => some (v, h)
      | none => none
    | _, _ => none
  | .mapUpdate t m k v | .insert t m k v => match evalO g m, evalO g k, evalO g v with
    | some m, some k, some v => match updateE P t h m k v with
      | some h' => some (.tuple #[], h')
      | none => none
    | _, _, _ => none
  | .mapEntry t m k => match evalO g m, evalO g k with
    | some m, some k => entryE P t h m k
    | _, _ => none
  | .entryStore _ m s v => match evalO g m, evalO g s, evalO g v with
    | some m, some s, some v => match entryStoreE h m s v with
      | some h' => some (.tuple #[], h')
      | none => none
    | _, _, _ => none
  | .range t x => match evalO g x with
    | some x => rangeE P t h x
    | none => none
  | .next x isS => match evalO g x with
    | some it => nextE h it isS
    | none => none
  | .entry x => match evalO g x with
    | some it => match stepE h it with
      | some v => some (v, h)
      | none => none
    | none => none
  | .extract x i => match evalO g x with
    | some (.tuple vs) => match vs.toList[i]? with
      | some v => some (v, h)
      | none => none
    | _ => none
  | _ => none

inductive Ex where
  | nrm | ret | exit (id : Nat)

abbrev Rec := Code → T → H → Option (Ex × T × H)
/-- What is known of a function: its code, or what it comes to. -/
inductive FO where
  | code (fn : Func)
  | orc (o : List Value → H → Option (Value × H))

def argsT : List Value → Nat → Tr Value → Tr Value
  | [], _, g => g
  | v :: vs, i, g => argsT vs (i + 1) (g.put i (some v))

def dropMarks : List Nat → H → Option H
  | [], h => some h
  | n :: ns, h => match h.objs.get n with
    | some .marks => dropMarks ns (h.set n none)
    | _ => none
def resE (P : Program) (g : Tr Value) (h : H) : List ResultVar → Option (List Value)
  | [] => some []
  | r :: rs => (match r with
    | .tmp t => g.get t
    | .cell a t => match g.get a with
      | some (.pointer (some ad)) => loadE P t h ad
      | _ => none).bind fun v => (resE P g h rs).map (v :: ·)
def oneOf : List Value → Option Value
  | [v] => some v
  | vs => bif vs.all (fun v => !(isTuple v)) then some (.tuple ⟨vs⟩) else none

def callE (rec : Rec) (F : Nat → Option FO) (P : Program) (f : FuncId) (args : List Value) (h : H) : Option (Value × H) :=
  match F f with
  | some (.code fn) => match fn.body with
    | some c => match rec c ⟨argsT args 0 .nil, args.length + (fn.ntmps - args.length), [], false⟩ h with
      | some (e, t, h') => match e with
        | .exit _ => none
        | _ => (dropMarks t.ds h').bind fun h'' => (resE P t.g h'' fn.results.toList).bind fun vs => (oneOf vs).map fun v => (v, h'')
      | none => none
    | none => none
  | some (.orc o) => o args h
  | none => none

def putArgs : List Tmp → List Value → Tr Value → Nat → Tr Value
  | p :: ps, v :: vs, g, n => putArgs ps vs (putT g n p v) n
  | _, _, g, _ => g
def yieldE (rec : Rec) (l : Nat) (args : List Value) (h : H) : Option (Value × H) :=
  match h.objs.get l with
  | some (.loop g n ps assign body) => bif Nat.beq ps.length args.length then
      match rec assign ⟨putArgs ps args g n, n, [], true⟩ (h.set l none) with
      | some (.nrm, t, h1) => match rec body t h1 with
        | some (.nrm, t', h2) => match t'.ds with
          | [] => some (.bool true, h2.set l (some (.loop g n ps assign body)))
          | _ => none
        | _ => none
      | _ => none
    else none
  | _ => none

def callVal (rec : Rec) (F : Nat → Option FO) (P : Program) (fv : Value) (args : List Value) (h : H) : Option (Value × H) :=
  match fv with
  | .func (.func f) first cap => callE rec F P f (first.toList ++ args ++ cap.toList) h
  | .func (.yield l) first _ => bif first.toList.isEmpty then yieldE rec l args h else none
  | _ => none

def operE (rec : Rec) (F : Nat → Option FO) (P : Program) (g : Tr Value) (h : H) (o : Oper) : Option (Value × H) :=
  match o.op with
  | .call c => match c.callee with
    | .value f => (evalO g f).bind fun fv => (evalL g c.args.toList).bind fun vs => callVal rec F P fv vs h
    | .builtin b => (evalL g c.args.toList).bind fun vs => builtinE P b c.argTypes o.type h vs
    | .invoke _ _ => none
  | op => opE P g h op

/-- Is the operation carried out? -/
def wantE (ops : Array Oper) (g : Tr Value) (o : Oper) : Option Bool :=
  match o.guard with
  | none => some true
  | some (j, want) => match (ops[j]?).bind (·.dst) with
    | none => some false
    | some d => match g.get d with
      | some (.bool b) => some (b == want)
      | some _ => some false
      | none => none

def opsE (rec : Rec) (F : Nat → Option FO) (P : Program) (ops : Array Oper) : List Oper → T → H → Option (T × H)
  | [], t, h => some (t, h)
  | o :: os, t, h => match wantE ops t.g o with
    | some true => match operE rec F P t.g h o with
      | some (v, h') => opsE rec F P ops os (t.put o.dst v) h'
      | none => none
    | some false => opsE rec F P ops os (t.put o.dst (.tuple #[])) h
    | none => none

/-! ### A region whose order is open -/
def befMask (acc : List Nat) : List Edge → Nat
  | [] => 0
  | e :: es => bif Region.binds .any e then Nat.lor (Nat.lor (2 ^ e.on) (acc.getD e.on 0)) (befMask acc es) else befMask acc es
def befs : List Oper → List Nat → List Nat
  | [], acc => acc
  | o :: os, acc => befs os (acc ++ [befMask acc o.after.toList])
def isCallO (o : Oper) : Bool := match o.op with
  | .call c => (match c.callee with | .builtin _ => false | _ => true)
  | _ => false
/-- The next one: the first that may come and calls nothing, else the first call that may come. -/
def pick1 (bs : List Nat) (done : Nat) (calls : Bool) : List Oper → Nat → Option Nat
  | [], _ => none
  | o :: os, i => bif !(done.testBit i) && Nat.beq (Nat.land (bs.getD i 0) done) (bs.getD i 0) && (isCallO o == calls) then some i else pick1 bs done calls os (i + 1)
def orderE (bs : List Nat) (ops : List Oper) : Nat → Nat → List Nat
  | 0, _ => []
  | n + 1, done => match pick1 bs done false ops 0 with
    | some i => i :: orderE bs ops n (Nat.lor done (2 ^ i))
    | none => match pick1 bs done true ops 0 with
      | some i => i :: orderE bs ops n (Nat.lor done (2 ^ i))
      | none => []

def addrN : Value → List Nat
  | .pointer (some a) => [a.block]
  | .slice (some a) _ _ => [a.block]
  | .map (some n) => [n]
  | _ => []
def namesO (g : Tr Value) (x : Operand) : List Nat := ((evalO g x).map addrN).getD []
/-- What an operation reads, and what it writes. -/
def footR (g : Tr Value) (o : Op) : List Nat :=
  match o with
  | .load _ x | .lookup _ x _ _ | .range _ x => namesO g x
  | .call c => (match c.callee with
    | .builtin .len => c.args.toList.flatMap (namesO g)
    | .builtin .append => (match c.args.toList with | [_, x] => namesO g x | _ => [])
    | _ => [])
  | _ => []
def footW (g : Tr Value) (o : Op) : List Nat :=
  match o with
  | .store _ x _ | .mapUpdate _ x _ _ | .insert _ x _ _ | .mapEntry _ x _ | .entryStore _ x _ _ => namesO g x
  | .call c => (match c.callee with
    | .builtin .len => []
    | .builtin .append => (match c.args.toList with | [s, _] => namesO g s | _ => [])
    | _ => c.args.toList.flatMap (namesO g))
  | _ => []
def restrict (h : H) : List Nat → Tr AObj → Tr AObj
  | [], t => t
  | n :: ns, t => match h.objs.get n with
    | some o => restrict h ns (t.put n (some o))
    | none => restrict h ns t
def putBack (from_ : H) : List Nat → Tr AObj → Tr AObj
  | [], t => t
  | n :: ns, t => putBack from_ ns (t.put n (from_.objs.get n))
def hide : List Nat → Tr AObj → Tr AObj
  | [], t => t
  | n :: ns, t => hide ns (t.put n none)
def rangeL (a : Nat) : Nat → List Nat
  | 0 => []
  | n + 1 => a :: rangeL (a + 1) n

/-- What is known of an operation that has been carried out: its number, whether it calls, what it touched. -/
structure Done where
  i : Nat
  call : Bool
  reads : List Nat
  writes : List Nat
def ordered (bs : List Nat) (i j : Nat) : Bool := (bs.getD i 0).testBit j || (bs.getD j 0).testBit i
def disj : List Nat → List Nat → Bool
  | [], _ => true
  | x :: xs, ys => !(ys.contains x) && disj xs ys
def tmpsOf (ops : Array Oper) (o : Oper) : List Nat :=
  (match o.guard with
    | none => []
    | some (j, _) => match (ops[j]?).bind (·.dst) with
      | some d => [d]
      | none => []) ++ o.op.operands.toList.filterMap fun | .tmp t => some t | _ => none
def dstOf (o : Oper) : List Nat := match o.dst with | some d => [d] | none => []
/-- Do two operations agree about the temporaries, whatever their order? -/
def tmpsFree (ops : Array Oper) (o p : Oper) : Bool := disj (dstOf o) (tmpsOf ops p) && disj (dstOf p) (tmpsOf ops o) && disj (dstOf o) (dstOf p)
def freeOf (bs : List Nat) (i : Nat) (dn : List Done) : List Done := dn.filter fun d => !(ordered bs i d.i)
def mayBe (ops : Array Oper) (bs : List Nat) (i done : Nat) (o : Oper) (free : List Done) : Bool :=
  !(done.testBit i) && Nat.beq (Nat.land (bs.getD i 0) done) (bs.getD i 0) && free.all fun d => match ops[d.i]? with | some p => tmpsFree ops o p | none => false

def drawE (rec : Rec) (F : Nat → Option FO) (P : Program) (ops : Array Oper) (bs : List Nat) : List Nat → Nat → List Done → T → H → Option (T × H)
  | [], done, _, t, h => bif Nat.beq done (2 ^ ops.size - 1) then some (t, h) else none
  | i :: is, done, dn, t, h => match ops[i]? with
    | none => none
    | some o =>
      let free := freeOf bs i dn
      bif mayBe ops bs i done o free then
      match wantE ops t.g o with
      | none => none
      | some false => drawE rec F P ops bs is (Nat.lor done (2 ^ i)) (⟨i, false, [], []⟩ :: dn) (t.put o.dst (.tuple #[])) h
      | some true =>
        bif isCallO o then
          bif free.any (·.call) then none else
          let hid := free.flatMap fun d => d.reads ++ d.writes
          match operE rec F P t.g ⟨hide hid h.objs, h.next, h.fz⟩ o with
          | some (v, h') => drawE rec F P ops bs is (Nat.lor done (2 ^ i)) (⟨i, true, [], []⟩ :: dn) (t.put o.dst v) ⟨putBack h hid h'.objs, h'.next, h'.fz⟩
          | none => none
        else
          let fr := footR t.g o.op
          let fw := footW t.g o.op
          bif free.all (fun d => disj fw (d.reads ++ d.writes) && disj fr d.writes && (!d.call || (fr.isEmpty && fw.isEmpty))) then
          match operE rec F P t.g ⟨restrict h (fr ++ fw) .nil, h.next, h.fz⟩ o with
          | some (v, h') =>
            let new := rangeL h.next (h'.next - h.next)
            drawE rec F P ops bs is (Nat.lor done (2 ^ i)) (⟨i, false, fr, fw ++ new⟩ :: dn) (t.put o.dst v) ⟨putBack h' (fw ++ new) h.objs, h'.next, h'.fz⟩
          | none => none
          else none
      else none

/-- One step of the recursion: fuel is spent at loops, calls and parts of code alike. -/
def body (rec : Rec) (F : Nat → Option FO) (P : Program) (c : Code) (t : T) (h : H) : Option (Ex × T × H) :=
  match c with
  | .skip => some (.nrm, t, h)
  | .region _ ops false => (opsE rec F P ops ops.toList t h).map fun (t, h) => (.nrm, t, h)
  | .region _ ops true =>
    let bs := befs ops.toList []
    (drawE rec F P ops bs (orderE bs ops.toList ops.size 0) 0 [] t h).map fun (t, h) => (.nrm, t, h)
  | .seq a b => match rec a t h with
    | some (.nrm, t', h') => rec b t' h'
    | r => r
  | .cond c a b => match evalO t.g c with
    | some (.bool true) => rec a t h
    | some (.bool false) => rec b t h
    | _ => none
  | .block id c => match rec c t h with
    | some (.exit j, t', h') => some (bif Nat.beq j id then .nrm else .exit j, t', h')
    | r => r
  | .loop c => match rec c t h with
    | some (.nrm, t', h') => rec (.loop c) t' h'
    | r => r
  | .rangeFunc f ps assign body => bif t.rd then none else match evalO t.g f with
    | some (.func (.func gf) first cap) =>
      let (d, h1) := h.new .marks
      let (l, h2) := h1.new (.loop t.g t.n ps.toList assign body)
      match callE rec F P gf (first.toList ++ [.func (.yield l) #[] #[]] ++ cap.toList) h2 with
      | some (_, h3) => match h3.objs.get l with
        | some (.loop _ _ _ _ _) => some (.nrm, { t with ds := d :: t.ds }, h3.set l none)
        | _ => none
      | none => none
    | _ => none
  | .exit id => some (.exit id, t, h)
  | .ret => some (.ret, t, h)
  | _ => none

def ev (F : Nat → Option FO) (P : Program) : Nat → Rec
  | 0 => fun _ _ _ => none
  | k + 1 => body (ev F P k) F P

/-- A call from nothing. -/
def run (F : Nat → Option FO) (P : Program) (k : Nat) (f : FuncId) (args : List Value) : Option (Value × H) := callE (ev F P k) F P f args ⟨.nil, 0, fun _ => none⟩
end Go.Ev
namespace Go.Ev
open Go

/-! ### Lists, two by two -/
inductive All2 {α β : Type} (R : α → β → Prop) : List α → List β → Prop where
  | nil : All2 R [] []
  | cons {a b as bs} : R a b → All2 R as bs → All2 R (a :: as) (b :: bs)
namespace All2
variable {α β : Type} {R S : α → β → Prop} {as : List α} {bs : List β}
theorem length (h : All2 R as bs) : as.length = bs.length := by induction h <;> simp_all
theorem mono (hRS : ∀ a b, R a b → S a b) (h : All2 R as bs) : All2 S as bs := by
  induction h with
  | nil => exact .nil
  | cons h _ ih => exact .cons (hRS _ _ h) ih
theorem get (h : All2 R as bs) : ∀ {i : Nat} {a : α}, as[i]? = some a → ∃ b, bs[i]? = some b ∧ R a b := by
  induction h with
  | nil => intro i a h; simp at h
  | cons h _ ih =>
    intro i a hi
    cases i with
    | zero => simp at hi; subst hi; exact ⟨_, rfl, h⟩
    | succ i => simp at hi; simpa using ih hi
theorem append {cs : List α} {ds : List β} (h : All2 R as bs) (k : All2 R cs ds) : All2 R (as ++ cs) (bs ++ ds) := by
  induction h with
  | nil => exact k
  | cons h _ ih => exact .cons h ih
theorem drop (h : All2 R as bs) (n : Nat) : All2 R (as.drop n) (bs.drop n) := by
  induction h generalizing n with
  | nil => simp; exact .nil
  | cons h hs ih => cases n with
    | zero => exact .cons h hs
    | succ n => simpa using ih n
theorem take (h : All2 R as bs) (n : Nat) : All2 R (as.take n) (bs.take n) := by
  induction h generalizing n with
  | nil => simp; exact .nil
  | cons h hs ih => cases n with
    | zero => simp; exact .nil
    | succ n => simpa using All2.cons h (ih n)
theorem of_get (hl : as.length = bs.length) (h : ∀ (i : Nat) a b, as[i]? = some a → bs[i]? = some b → R a b) : All2 R as bs := by
  induction as generalizing bs with
  | nil => cases bs with | nil => exact .nil | cons => simp at hl
  | cons a as ih => cases bs with
    | nil => simp at hl
    | cons b bs => exact .cons (h 0 a b rfl rfl) (ih (by simpa using hl) fun i x y hx hy => h (i + 1) x y (by simpa using hx) (by simpa using hy))
theorem refl_of {R : α → α → Prop} {as : List α} (h : ∀ a ∈ as, R a a) : All2 R as as := by
  induction as with
  | nil => exact .nil
  | cons a as ih => exact .cons (h a (by simp)) (ih fun b hb => h b (by simp [hb]))
theorem snoc_inv {a : α} (h : All2 R (as ++ [a]) bs) : ∃ cs b, bs = cs ++ [b] ∧ All2 R as cs ∧ R a b := by
  induction as generalizing bs with
  | nil => cases h with | cons h hs => cases hs; exact ⟨[], _, rfl, .nil, h⟩
  | cons x as ih => cases h with
    | cons h hs => obtain ⟨cs, b, rfl, h1, h2⟩ := ih hs; exact ⟨_ :: cs, b, rfl, .cons h h1, h2⟩
end All2

theorem nbeq_f {n m : Nat} (h : n ≠ m) : Nat.beq n m = false := by
  cases hb : Nat.beq n m with
  | false => rfl
  | true => exact absurd (Nat.eq_of_beq_eq_true hb) h
theorem nbeq_t {n m : Nat} (h : n = m) : Nat.beq n m = true := by subst h; exact Nat.beq_refl n
theorem nbeq_e {n m : Nat} (h : Nat.beq n m = true) : n = m := Nat.eq_of_beq_eq_true h
theorem nblt_e {n m : Nat} (h : Nat.blt n m = true) : n < m := Nat.le_of_ble_eq_true h
theorem nble_e {n m : Nat} (h : Nat.ble n m = true) : n ≤ m := Nat.le_of_ble_eq_true h
/-! ### The trie -/
namespace Tr
variable {α : Type}
theorem mkL_eq (l : Tr α) (v : Option α) (r : Tr α) : mkL l v r = .node l v r := by cases l <;> rfl
theorem mkR_eq (l : Tr α) (v : Option α) (r : Tr α) : mkR l v r = .node l v r := by cases r <;> rfl
theorem get_putF (v : Option α) : ∀ (f : Nat) (t : Tr α) (n m : Nat), n < f → (putF v f t n).get m = if m = n then v else t.get m := by
  intro f
  induction f with
  | zero => intro t n m h; omega
  | succ f ih =>
    intro t n m hn
    have key : ∀ (l : Tr α) (w : Option α) (r : Tr α),
        (bif Nat.beq n 0 then node l v r else bif Nat.beq (n % 2) 1 then mkL (putF v f l (n / 2)) w r else mkR l w (putF v f r (n / 2 - 1))).get m
          = if m = n then v else (node l w r).get m := by
      intro l w r
      by_cases h0 : n = 0
      · subst h0
        by_cases hm : m = 0
        · subst hm; simp [get]
        · have : Nat.beq m 0 = false := nbeq_f hm
          simp [get, hm, this]
      · have e0 : Nat.beq n 0 = false := nbeq_f h0
        simp only [e0, cond_false]
        by_cases h1 : n % 2 = 1
        · have e1 : Nat.beq (n % 2) 1 = true := nbeq_t h1
          simp only [e1, cond_true, mkL_eq, get]
          by_cases hm : m = 0
          · subst hm; simp [Ne.symm h0]
          · have : Nat.beq m 0 = false := nbeq_f hm
            simp only [this, cond_false]
            by_cases hp : m % 2 = 1
            · have e2 : Nat.beq (m % 2) 1 = true := nbeq_t hp
              simp only [e2, cond_true]
              rw [ih l (n / 2) (m / 2) (by omega)]
              by_cases he : m = n
              · subst he; simp
              · rw [if_neg (by omega), if_neg he]
            · have e2 : Nat.beq (m % 2) 1 = false := nbeq_f hp
              simp only [e2, cond_false]
              rw [if_neg (by omega)]
        · have e1 : Nat.beq (n % 2) 1 = false := nbeq_f h1
          simp only [e1, cond_false, mkR_eq, get]
          by_cases hm : m = 0
          · subst hm; simp [Ne.symm h0]
          · have : Nat.beq m 0 = false := nbeq_f hm
            simp only [this, cond_false]
            by_cases hp : m % 2 = 1
            · have e2 : Nat.beq (m % 2) 1 = true := nbeq_t hp
              simp only [e2, cond_true]
              rw [if_neg (by omega)]
            · have e2 : Nat.beq (m % 2) 1 = false := nbeq_f hp
              simp only [e2, cond_false]
              rw [ih r (n / 2 - 1) (m / 2 - 1) (by omega)]
              by_cases he : m = n
              · subst he; simp
              · rw [if_neg (by omega), if_neg he]
    cases t with
    | nil =>
      have := key .nil none .nil
      simp only [putF]
      rw [this]
      simp [get]
    | node l w r => simp only [putF]; exact key l w r
theorem get_put (t : Tr α) (n m : Nat) (v : Option α) : (t.put n v).get m = if m = n then v else t.get m := get_putF v _ t n m (by omega)
@[simp] theorem get_nil (n : Nat) : (Tr.nil : Tr α).get n = none := rfl
end Tr

/-! ### The names' blocks -/
structure Loc where
  block : Nat
  delta : Nat
  size : Nat
  es : Nat
abbrev Ren := Nat → Option Loc

/-- The place of a name. -/
structure AR (ρ : Ren) (a b : Addr) : Prop where
  spot : a.spot = none
  loc : ∃ L, ρ a.block = some L ∧ b = ⟨L.block, L.delta + a.off, none⟩

inductive PV (ρ : Ren) : Value → Value → Prop where
  | same {v} : plainS v = true → PV ρ v v
  | ptr {a b} : AR ρ a b → PV ρ (.pointer (some a)) (.pointer (some b))

/-- Values of one cell. -/
inductive SV (ρ : Ren) : Value → Value → Prop where
  | same {v} : plainS v = true → SV ρ v v
  | ptr {a b} : AR ρ a b → SV ρ (.pointer (some a)) (.pointer (some b))
  | slice {a b l c c'} : AR ρ a b → l ≤ c' → (c = 0 → c' = 0) → (c = 1 → ∀ L, ρ a.block = some L → L.delta + a.off + c' * L.es ≤ L.size) →
      SV ρ (.slice (some a) l c) (.slice (some b) l c')
  | empty {b c'} : SV ρ (.slice none 0 1) (.slice b 0 c')
  | map {n L} : ρ n = some L → SV ρ (.map (some n)) (.map (some L.block))
  | func {f ca ca'} : All2 (PV ρ) ca.toList ca'.toList → SV ρ (.func (.func f) #[] ca) (.func (.func f) #[] ca')
  | yield {l L} : ρ l = some L → SV ρ (.func (.yield l) #[] #[]) (.func (.yield L.block) #[] #[])

inductive AV (ρ : Ren) : Value → Value → Prop where
  | s {v v'} : SV ρ v v' → AV ρ v v'
  | agg {cs cs'} : All2 (SV ρ) cs.toList cs'.toList → AV ρ (.agg cs) (.agg cs')
inductive VR (ρ : Ren) : Value → Value → Prop where
  | a {v v'} : AV ρ v v' → VR ρ v v'
  | tuple {vs vs'} : All2 (AV ρ) vs.toList vs'.toList → VR ρ (.tuple vs) (.tuple vs')

def Ext (ρ ρ' : Ren) : Prop := ∀ n L, ρ n = some L → ρ' n = some L
theorem Ext.refl (ρ : Ren) : Ext ρ ρ := fun _ _ h => h
theorem Ext.trans {a b c : Ren} (h : Ext a b) (k : Ext b c) : Ext a c := fun n L e => k n L (h n L e)
section
variable {ρ ρ' : Ren}
theorem AR.mono (hE : Ext ρ ρ') {a b : Addr} (h : AR ρ a b) : AR ρ' a b := ⟨h.spot, let ⟨L, h1, h2⟩ := h.loc; ⟨L, hE _ _ h1, h2⟩⟩
theorem PV.mono (hE : Ext ρ ρ') {a b : Value} (h : PV ρ a b) : PV ρ' a b := by
  cases h with
  | same h => exact .same h
  | ptr h => exact .ptr (h.mono hE)
theorem SV.mono (hE : Ext ρ ρ') {a b : Value} (h : SV ρ a b) : SV ρ' a b := by
  cases h with
  | same h => exact .same h
  | ptr h => exact .ptr (h.mono hE)
  | slice h h1 h2 h3 =>
    refine .slice (h.mono hE) h1 h2 fun hc1 L hL => ?_
    obtain ⟨L', e, _⟩ := h.loc
    rw [hE _ _ e] at hL
    cases hL
    exact h3 hc1 _ e
  | empty => exact .empty
  | map h => exact .map (hE _ _ h)
  | func h => exact .func (h.mono fun _ _ => PV.mono hE)
  | yield h => exact .yield (hE _ _ h)
theorem AV.mono (hE : Ext ρ ρ') {a b : Value} (h : AV ρ a b) : AV ρ' a b := by
  cases h with
  | s h => exact .s (h.mono hE)
  | agg h => exact .agg (h.mono fun _ _ => SV.mono hE)
theorem VR.mono (hE : Ext ρ ρ') {a b : Value} (h : VR ρ a b) : VR ρ' a b := by
  cases h with
  | a h => exact .a (h.mono hE)
  | tuple h => exact .tuple (h.mono fun _ _ => AV.mono hE)

theorem VR.s {a b : Value} (h : SV ρ a b) : VR ρ a b := .a (.s h)

/-! ### Values without addresses stand for themselves -/
theorem PV.plain {a b : Value} (h : PV ρ a b) (hp : plainS a = true) : a = b := by
  cases h with
  | same _ => rfl
  | ptr h => simp [plainS] at hp
theorem SV.plain {a b : Value} (h : SV ρ a b) (hp : plainS a = true) : a = b := by
  cases h with
  | same _ => rfl
  | ptr _ => simp [plainS] at hp
  | slice => simp [plainS] at hp
  | empty => simp [plainS] at hp
  | map => simp [plainS] at hp
  | @func f ca ca' hc =>
    simp only [plainS, Bool.and_eq_true, List.isEmpty_iff] at hp
    have h1 : ca = #[] := by simpa using hp.2
    subst h1
    have : ca'.toList = [] := by have := hc.length; simpa using this.symm
    have : ca' = #[] := by simpa using this
    rw [this]
  | yield => simp [plainS] at hp
theorem all2_plain {as bs : List Value} (h : All2 (SV ρ) as bs) (hp : as.all plainS = true) : as = bs := by
  induction h with
  | nil => rfl
  | cons h _ ih =>
    simp only [List.all_cons, Bool.and_eq_true] at hp
    rw [h.plain hp.1, ih hp.2]
theorem plainV_s {v : Value} (h : plainV v = true) : plainS v = true ∨ (∃ cs, v = .agg cs ∧ cs.toList.all plainS = true) ∨ (∃ cs, v = .tuple cs ∧ cs.toList.all plainS = true) := by
  cases v <;> simp_all [plainV]
theorem plainV_of_S {v : Value} (h : plainS v = true) : plainV v = true := by cases v <;> simp_all [plainV, plainS]
theorem plainS_agg (cs : Array Value) : plainS (.agg cs) = false := rfl
theorem plainS_tuple (cs : Array Value) : plainS (.tuple cs) = false := rfl
theorem AV.plain {a b : Value} (h : AV ρ a b) (hp : plainV a = true) : a = b := by
  cases h with
  | s h =>
    rcases plainV_s hp with hp | ⟨cs, rfl, _⟩ | ⟨cs, rfl, _⟩
    · exact h.plain hp
    · cases h; simp [plainS] at *
    · cases h; simp [plainS] at *
  | agg h =>
    have := all2_plain h (by simpa [plainV] using hp)
    congr 1
    exact Array.toList_inj.1 this
theorem VR.plain {a b : Value} (h : VR ρ a b) (hp : plainV a = true) : a = b := by
  cases h with
  | a h => exact h.plain hp
  | tuple h =>
    have hp' := (show List.all _ plainS = true from hp)
    congr 1
    refine Array.toList_inj.1 ?_
    generalize hx : Array.toList _ = xs at h hp' ⊢
    generalize hy : Array.toList _ = ys at h ⊢
    clear hx hy hp
    induction h with
    | nil => rfl
    | cons h _ ih =>
      simp only [List.all_cons, Bool.and_eq_true] at hp'
      rw [h.plain (plainV_of_S hp'.1), ih hp'.2]
theorem SV.of_plain {v : Value} (h : plainS v = true) : SV ρ v v := .same h
theorem all2_of_plain {l : List Value} (h : l.all plainS = true) : All2 (SV ρ) l l := All2.refl_of fun a ha => .same (List.all_eq_true.1 h a ha)
theorem VR.of_plain {v : Value} (h : plainV v = true) : VR ρ v v := by
  rcases plainV_s h with h | ⟨cs, rfl, h⟩ | ⟨cs, rfl, h⟩
  · exact .a (.s (.same h))
  · exact .a (.agg (all2_of_plain h))
  · exact .tuple (All2.refl_of fun a ha => .s (.same (List.all_eq_true.1 h a ha)))
theorem cells_plain {v : Value} (h : plainV v = true) (hn : ∀ cs, v ≠ .tuple cs) : (cellsL v).all plainS = true := by
  rcases plainV_s h with h | ⟨cs, rfl, h⟩ | ⟨cs, rfl, h⟩
  · cases v <;> simp_all [cellsL, plainS]
  · exact h
  · exact absurd rfl (hn cs)

theorem cellsL_eq (v : Value) : cellsL v = v.cells.toList := by cases v <;> rfl
theorem SV.cells {a b : Value} (h : SV ρ a b) : All2 (SV ρ) (cellsL a) (cellsL b) := by
  have key : ∀ v, (∀ cs, v ≠ .agg cs) → cellsL v = [v] := fun v h => by cases v <;> first | rfl | exact absurd rfl (h _)
  have ha : cellsL a = [a] := key a (by rintro cs rfl; cases h; simp_all [plainS])
  have hb : cellsL b = [b] := key b (by rintro cs rfl; cases h; simp_all [plainS])
  rw [ha, hb]
  exact .cons h .nil
theorem VR.cells {a b : Value} (h : VR ρ a b) (hn : ∀ cs, a ≠ .tuple cs) : All2 (SV ρ) (cellsL a) (cellsL b) := by
  cases h with
  | a h => cases h with
    | s h => exact h.cells
    | agg h => exact h
  | tuple h => exact absurd rfl (hn _)
theorem SV.oneCell {a b : Value} (h : SV ρ a b) : b.oneCell' = true := by
  cases h with
  | same hv => cases a <;> simp_all [plainS, Value.oneCell']
  | _ => rfl
theorem SV.not_agg {a b : Value} (h : SV ρ a b) : (∀ cs, a ≠ .agg cs) ∧ (∀ cs, a ≠ .tuple cs) := by
  constructor <;> (intro cs e; rw [e] at h; cases h; simp_all [plainS])
end
end Go.Ev
namespace Go.Ev
open Go

structure TR (ρ : Ren) (g : Tr Value) (n : Nat) (a : Array Value) : Prop where
  size : a.size = n
  get : ∀ d v, g.get d = some v → ∃ v', a[d]? = some v' ∧ VR ρ v v'
structure ER (ρ : Ren) (e e' : MapEntry) : Prop where
  plain : keyOk e.key = true
  key : e'.key = e.key
  val : VR ρ e.val e'.val
  born : e'.born = e.born

/-- An object, and the block that stands for it. -/
inductive OR (P : Program) (ρ : Ren) (L : Loc) : AObj → Obj → Prop where
  | cells {c e fr c' fr'} : L.size = c'.size → L.delta + c.size ≤ c'.size → All2 (SV ρ) c.toList ((c'.toList.drop L.delta).take c.size) →
      (P.info? e).map (·.size) = some L.es → (∀ i, i < c'.size → (decide (fr'.1 ≤ i) && decide (i < fr'.2)) = false) → OR P ρ L (.o (.cells c e fr)) (.cells c' e fr')
  | map {es k es'} : All2 (ER ρ) es.toList es'.toList → OR P ρ L (.o (.map es k)) (.map es' k)
  | iterN {s seen st} : L.delta = 0 → OR P ρ L (.o (.mapIter none s seen st)) (.mapIter none s seen st)
  | iter {m L' s seen st} : L.delta = 0 → ρ m = some L' → OR P ρ L (.o (.mapIter (some m) s seen st)) (.mapIter (some L'.block) s seen st)
  | loop {g n ps assign body r} : r.state = .ready → TR ρ g n r.tmps → r.params.toList = ps → r.assign = assign → r.body = body → r.pending = none → OR P ρ L (.loop g n ps assign body) (.loop r)
  | marks : OR P ρ L .marks (.deferred (some []))

section
variable {P : Program} {ρ ρ' : Ren} {B : Nat} {h h' : H} {w w' : World}
theorem TR.mono (hE : Ext ρ ρ') {g : Tr Value} {n : Nat} {a : Array Value} (t : TR ρ g n a) : TR ρ' g n a :=
  ⟨t.size, fun d v hv => let ⟨v', h1, h2⟩ := t.get d v hv; ⟨v', h1, h2.mono hE⟩⟩
theorem ER.mono (hE : Ext ρ ρ') {e e' : MapEntry} (t : ER ρ e e') : ER ρ' e e' := ⟨t.plain, t.key, t.val.mono hE, t.born⟩
theorem OR.mono (hE : Ext ρ ρ') {L : Loc} {o : AObj} {ob : Obj} (t : OR P ρ L o ob) : OR P ρ' L o ob := by
  cases t with
  | cells h1 h2 h3 h4 h5 => exact .cells h1 h2 (h3.mono fun _ _ => SV.mono hE) h4 h5
  | map h1 => exact .map (h1.mono fun _ _ => ER.mono hE)
  | iterN h1 => exact .iterN h1
  | iter h1 h2 => exact .iter h1 (hE _ _ h2)
  | loop h1 h2 h3 h4 h5 h6 => exact .loop h1 (h2.mono hE) h3 h4 h5 h6
  | marks => exact .marks

/-- What is only read: it lies in the world as it is known. -/
structure FZ (ρ : Ren) (c : Nat → Option Value) (w : World) (L : Loc) : Prop where
  lt : L.block < w.heap.size
  cell : ∀ o v, c o = some v → ∃ v', w.cell? ⟨L.block, L.delta + o, none⟩ = some v' ∧ SV ρ v v'
theorem FZ.keep (hE : Ext ρ ρ') {c : Nat → Option Value} {L : Loc} (k : FZ ρ c w L) (hw : w'.heap[L.block]? = w.heap[L.block]?) : FZ ρ' c w' L := by
  refine ⟨?_, fun o v hv => ?_⟩
  · have h1 := k.lt
    rw [Array.getElem?_eq_getElem h1] at hw
    exact (Array.getElem?_eq_some_iff.1 hw).1
  · obtain ⟨v', h1, h2⟩ := k.cell o v hv
    refine ⟨v', ?_, h2.mono hE⟩
    simp only [World.cell?, hw] at h1 ⊢
    exact h1
structure WR (P : Program) (ρ : Ren) (h : H) (B : Nat) (w : World) : Prop where
  obj : ∀ n o, h.objs.get n = some o → ∃ L ob, ρ n = some L ∧ B ≤ L.block ∧ w.heap[L.block]? = some ob ∧ OR P ρ L o ob
  inj : ∀ n m L L', (h.objs.get n).isSome → (h.objs.get m).isSome → ρ n = some L → ρ m = some L' → L.block = L'.block → n = m
  new : ∀ n, h.next ≤ n → ρ n = none
  fz : ∀ n c, h.fz n = some c → ∃ L, ρ n = some L ∧ FZ ρ c w L
  sep : ∀ n m L L', (h.objs.get n).isSome → (h.fz m).isSome → ρ n = some L → ρ m = some L' → L.block ≠ L'.block
/-- What is only read stays where its blocks stay. -/
theorem WR.fzk (t : WR P ρ h B w) (hE : Ext ρ ρ') (hz : h'.fz = h.fz) (hk : ∀ m L, (h.fz m).isSome → ρ m = some L → L.block < w.heap.size → w'.heap[L.block]? = w.heap[L.block]?) :
    ∀ n c, h'.fz n = some c → ∃ L, ρ' n = some L ∧ FZ ρ' c w' L := fun n c hn => by
  rw [hz] at hn
  obtain ⟨L, h1, h2⟩ := t.fz n c hn
  exact ⟨L, hE _ _ h1, h2.keep hE (hk n L (by simp [hn]) h1 h2.lt)⟩
theorem WR.fzl (t : WR P ρ h B w) {m : Nat} {L : Loc} (hm : (h.fz m).isSome) (hL : ρ m = some L) : L.block < w.heap.size := by
  obtain ⟨c, hc⟩ := Option.isSome_iff_exists.1 hm
  obtain ⟨L', h1, h2⟩ := t.fz m c hc
  rw [h1] at hL; cases hL
  exact h2.lt
theorem WR.fzo (t : WR P ρ h B w) {m : Nat} (hm : (h.fz m).isSome) : ∃ L, ρ m = some L := by
  obtain ⟨c, hc⟩ := Option.isSome_iff_exists.1 hm
  obtain ⟨L, h1, _⟩ := t.fz m c hc
  exact ⟨L, h1⟩
theorem WR.fzn (t : WR P ρ h B w) {m : Nat} (hm : (h.fz m).isSome) : m < h.next := by
  obtain ⟨L, h1⟩ := t.fzo hm
  rcases Nat.lt_or_ge m h.next with h2 | h2
  · exact h2
  · rw [t.new m h2] at h1; cases h1
theorem WR.lt (t : WR P ρ h B w) {n : Nat} (hn : (h.objs.get n).isSome) : n < h.next := by
  obtain ⟨o, ho⟩ := Option.isSome_iff_exists.1 hn
  obtain ⟨L, _, hL, _⟩ := t.obj n o ho
  rcases Nat.lt_or_ge n h.next with h1 | h1
  · exact h1
  · rw [t.new n h1] at hL; cases hL

/-- What a piece of the run leaves. -/
structure Out (P : Program) (B : Nat) (ρ : Ren) (h : H) (w : World) (ρ' : Ren) (h' : H) (w' : World) : Prop where
  wr : WR P ρ' h' B w'
  fr : ∀ b, b < w.heap.size → (∀ n L, (h.objs.get n).isSome → ρ n = some L → L.block ≠ b) → w'.heap[b]? = w.heap[b]?
  size : w.heap.size ≤ w'.heap.size
  os : w'.os = w.os
  tape : w'.tape = w.tape
  output : w'.output = w.output
  dr : w.drawn ≤ w'.drawn
  nx : h.next ≤ h'.next
  dom : ∀ n, n < h.next → ρ' n = ρ n
  live : ∀ n, n < h.next → (h'.objs.get n).isSome → (h.objs.get n).isSome
  own : ∀ n L, h.next ≤ n → ρ' n = some L → w.heap.size ≤ L.block ∨ ∃ m Lm, (h.objs.get m).isSome ∧ ρ m = some Lm ∧ Lm.block = L.block
  fz : h'.fz = h.fz
theorem Out.ext (t : WR P ρ h B w) (o : Out P B ρ h w ρ' h' w') : Ext ρ ρ' := fun n L hL => by
  rcases Nat.lt_or_ge n h.next with h1 | h1
  · rw [o.dom n h1]; exact hL
  · rw [t.new n h1] at hL; cases hL
theorem Out.refl (t : WR P ρ h B w) : Out P B ρ h w ρ h w :=
  ⟨t, fun _ _ _ => rfl, Nat.le_refl _, rfl, rfl, rfl, Nat.le_refl _, Nat.le_refl _, fun _ _ => rfl, fun _ _ h => h, fun n L hn hL => (by rw [t.new n hn] at hL; cases hL), rfl⟩
theorem Out.trans {ρ₁ ρ₂ : Ren} {h₁ h₂ : H} {w₁ w₂ : World} (t : WR P ρ h B w) (a : Out P B ρ h w ρ₁ h₁ w₁) (b : Out P B ρ₁ h₁ w₁ ρ₂ h₂ w₂) : Out P B ρ h w ρ₂ h₂ w₂ := by
  refine ⟨b.wr, ?_, Nat.le_trans a.size b.size, b.os.trans a.os, b.tape.trans a.tape, b.output.trans a.output, Nat.le_trans a.dr b.dr, Nat.le_trans a.nx b.nx, ?_, ?_, ?_, b.fz.trans a.fz⟩
  · intro x hx hfar
    rw [b.fr x (Nat.lt_of_lt_of_le hx a.size) ?_, a.fr x hx hfar]
    intro n L hn hL he
    rcases Nat.lt_or_ge n h.next with h1 | h1
    · exact hfar n L (a.live n h1 hn) (by rw [← a.dom n h1]; exact hL) he
    · rcases a.own n L h1 hL with h2 | ⟨m, Lm, hm, hm2, hm3⟩
      · omega
      · exact hfar m Lm hm hm2 (hm3.trans he)
  · intro n hn; rw [b.dom n (Nat.lt_of_lt_of_le hn a.nx), a.dom n hn]
  · intro n hn h2; exact a.live n hn (b.live n (Nat.lt_of_lt_of_le hn a.nx) h2)
  · intro n L hn hL
    rcases Nat.lt_or_ge n h₁.next with h1 | h1
    · exact a.own n L hn (by rw [← b.dom n h1]; exact hL)
    · rcases b.own n L h1 hL with h2 | ⟨m, Lm, hm, hm2, hm3⟩
      · exact .inl (Nat.le_trans a.size h2)
      · rcases Nat.lt_or_ge m h.next with h3 | h3
        · exact .inr ⟨m, Lm, a.live m h3 hm, by rw [← a.dom m h3]; exact hm2, hm3⟩
        · rcases a.own m Lm h3 hm2 with h4 | ⟨m', Lm', k1, k2, k3⟩
          · exact .inl (by omega)
          · exact .inr ⟨m', Lm', k1, k2, k3.trans hm3⟩
/-- A draw. -/
theorem WR.of_heap {w' : World} (t : WR P ρ h B w) (hh : w'.heap = w.heap) : WR P ρ h B w' := ⟨by rw [hh]; exact t.obj, t.inj, t.new, t.fzk (.refl ρ) rfl (fun _ _ _ _ _ => by rw [hh]), t.sep⟩
theorem Out.of_heap {w'' : World} (o : Out P B ρ h w ρ' h' w') (hh : w''.heap = w'.heap) (h1 : w''.os = w'.os) (h2 : w''.tape = w'.tape) (h3 : w''.output = w'.output) (h4 : w'.drawn ≤ w''.drawn) : Out P B ρ h w ρ' h' w'' :=
  ⟨o.wr.of_heap hh, by rw [hh]; exact o.fr, by rw [hh]; exact o.size, h1.trans o.os, h2.trans o.tape, h3.trans o.output, Nat.le_trans o.dr h4, o.nx, o.dom, o.live, o.own, o.fz⟩

theorem new_eq (h : H) (o : AObj) : h.new o = (h.next, ⟨h.objs.put h.next (some o), h.next + 1, h.fz⟩) := by
  unfold H.new
  cases hn : h.next <;> rfl
def upd (ρ : Ren) (n : Nat) (L : Loc) : Ren := fun m => if m = n then some L else ρ m
theorem upd_ext (t : WR P ρ h B w) (L : Loc) : Ext ρ (upd ρ h.next L) := fun n L' hL => by
  unfold upd
  rw [if_neg]
  · exact hL
  · rintro rfl; rw [t.new _ (Nat.le_refl _)] at hL; cases hL

/-- A new object. -/
theorem out_new (t : WR P ρ h B w) (hB : B ≤ w.heap.size) {o : AObj} {ob : Obj} {L : Loc} (hL : L.block = w.heap.size) (ho : OR P ρ L o ob)
    (hw : w' = { w with heap := w.heap.push ob }) : Out P B ρ h w (upd ρ h.next L) (h.new o).2 w' := by
  subst hw
  have hE := upd_ext t L
  rw [new_eq]
  refine ⟨⟨?_, ?_, ?_, t.fzk hE rfl ?_, ?_⟩, ?_, by simp, rfl, rfl, rfl, Nat.le_refl _, by simp, ?_, ?_, ?_, rfl⟩
  · intro n o' hn
    simp only [Tr.get_put] at hn
    by_cases e : n = h.next
    · rw [if_pos e] at hn
      cases hn
      exact ⟨L, ob, by simp [upd, e], by omega, by simp [hL], ho.mono hE⟩
    · rw [if_neg e] at hn
      obtain ⟨L', ob', h1, h2, h3, h4⟩ := t.obj n o' hn
      refine ⟨L', ob', hE _ _ h1, h2, ?_, h4.mono hE⟩
      have : L'.block < w.heap.size := (Array.getElem?_eq_some_iff.1 h3).1
      simp only [Array.getElem?_push]
      rw [if_neg (by omega)]; exact h3
  · intro n m L1 L2 hn hm h1 h2 he
    simp only [Tr.get_put] at hn hm
    have lt : ∀ k Lk, (h.objs.get k).isSome → ρ k = some Lk → Lk.block < w.heap.size := fun k Lk hk hk2 => by
      obtain ⟨ok, hok⟩ := Option.isSome_iff_exists.1 hk
      obtain ⟨L', ob', a1, a2, a3, a4⟩ := t.obj k ok hok
      rw [a1] at hk2; cases hk2
      exact (Array.getElem?_eq_some_iff.1 a3).1
    simp only [upd] at h1 h2
    by_cases e1 : n = h.next <;> by_cases e2 : m = h.next
    · omega
    · rw [if_pos e1] at h1; rw [if_neg e2] at h2 hm; cases h1
      have := lt m L2 hm h2; omega
    · rw [if_neg e1] at h1 hn; rw [if_pos e2] at h2; cases h2
      have := lt n L1 hn h1; omega
    · rw [if_neg e1] at h1 hn; rw [if_neg e2] at h2 hm
      exact t.inj n m L1 L2 hn hm h1 h2 he
  · intro n hn
    simp only at hn
    simp only [upd]; rw [if_neg (by omega)]; exact t.new n (by omega)
  · intro m Lm _ _ hlt
    simp only [Array.getElem?_push]; rw [if_neg (by omega)]
  · intro n m L1 L2 hn hm h1 h2
    simp only [Tr.get_put] at hn
    simp only at hm
    have hmn := t.fzn hm
    simp only [upd] at h1 h2
    rw [if_neg (by omega)] at h2
    by_cases e : n = h.next
    · rw [if_pos e] at h1; cases h1
      have := t.fzl hm h2
      omega
    · rw [if_neg e] at h1 hn
      exact t.sep n m L1 L2 hn hm h1 h2
  · intro b hb _
    simp only [Array.getElem?_push]; rw [if_neg (by omega)]
  · intro n hn; simp only [upd]; rw [if_neg (by omega)]
  · intro n hn h2
    simp only [Tr.get_put] at h2
    rw [if_neg (by omega)] at h2; exact h2
  · intro n L' hn hL'
    simp only [upd] at hL'
    by_cases e : n = h.next
    · rw [if_pos e] at hL'; cases hL'; exact .inl (by omega)
    · rw [if_neg e, t.new n hn] at hL'; cases hL'

/-- An object is written, or goes. -/
theorem out_set (t : WR P ρ h B w) {n : Nat} {L : Loc} (hn : (h.objs.get n).isSome) (hL : ρ n = some L) (o : Option AObj) (ob : Obj)
    (ho : ∀ x, o = some x → OR P ρ L x ob) (hw : w'.heap = w.heap.setIfInBounds L.block ob) (h1 : w'.os = w.os) (h2 : w'.tape = w.tape) (h3 : w'.output = w.output) (h4 : w.drawn ≤ w'.drawn := by exact Nat.le_refl _) :
    Out P B ρ h w ρ (h.set n o) w' := by
  obtain ⟨o0, ho0⟩ := Option.isSome_iff_exists.1 hn
  obtain ⟨L0, ob0, a1, a2, a3, a4⟩ := t.obj n o0 ho0
  rw [hL] at a1; cases a1
  have hlt : L.block < w.heap.size := (Array.getElem?_eq_some_iff.1 a3).1
  refine ⟨⟨?_, ?_, t.new, t.fzk (.refl ρ) rfl (fun m Lm hm hLm _ => by rw [hw, Array.getElem?_setIfInBounds, if_neg (t.sep n m L Lm hn hm hL hLm)]), ?_⟩, ?_, by rw [hw]; simp, h1, h2, h3, h4, Nat.le_refl _, fun _ _ => rfl, ?_, fun m Lm hm hLm => (by rw [t.new m hm] at hLm; cases hLm), rfl⟩
  · intro m x hm
    simp only [H.set, Tr.get_put] at hm
    by_cases e : m = n
    · rw [if_pos e] at hm
      subst e
      exact ⟨L, ob, hL, a2, by rw [hw]; simp [hlt], ho x hm⟩
    · rw [if_neg e] at hm
      obtain ⟨L', ob', b1, b2, b3, b4⟩ := t.obj m x hm
      refine ⟨L', ob', b1, b2, ?_, b4⟩
      rw [hw, Array.getElem?_setIfInBounds]
      rw [if_neg]
      · exact b3
      · intro he
        exact e (t.inj m n L' L (by rw [hm]; rfl) hn b1 hL he.symm)
  · intro m k L1 L2 hm hk c1 c2 he
    simp only [H.set, Tr.get_put] at hm hk
    refine t.inj m k L1 L2 ?_ ?_ c1 c2 he
    · by_cases e : m = n
      · subst e; exact hn
      · rw [if_neg e] at hm; exact hm
    · by_cases e : k = n
      · subst e; exact hn
      · rw [if_neg e] at hk; exact hk
  · intro m k L1 L2 hm hk c1 c2
    simp only [H.set, Tr.get_put] at hm hk
    refine t.sep m k L1 L2 ?_ hk c1 c2
    by_cases e : m = n
    · subst e; exact hn
    · rw [if_neg e] at hm; exact hm
  · intro b hb hfar
    rw [hw, Array.getElem?_setIfInBounds, if_neg (hfar n L hn hL)]
  · intro m hm h4
    simp only [H.set, Tr.get_put] at h4
    by_cases e : m = n
    · subst e; exact hn
    · rw [if_neg e] at h4; exact h4
/-- An object goes; the world stays. -/
theorem out_kill (t : WR P ρ h B w) (n : Nat) : Out P B ρ h w ρ (h.set n none) w := by
  refine ⟨⟨?_, ?_, t.new, t.fz, ?_⟩, fun _ _ _ => rfl, Nat.le_refl _, rfl, rfl, rfl, Nat.le_refl _, Nat.le_refl _, fun _ _ => rfl, ?_, fun m Lm hm hLm => (by rw [t.new m hm] at hLm; cases hLm), rfl⟩
  · intro m x hm
    simp only [H.set, Tr.get_put] at hm
    by_cases e : m = n
    · rw [if_pos e] at hm; cases hm
    · rw [if_neg e] at hm; exact t.obj m x hm
  · intro m k L1 L2 hm hk c1 c2 he
    simp only [H.set, Tr.get_put] at hm hk
    refine t.inj m k L1 L2 ?_ ?_ c1 c2 he
    · by_cases e : m = n
      · rw [if_pos e] at hm; cases hm
      · rw [if_neg e] at hm; exact hm
    · by_cases e : k = n
      · rw [if_pos e] at hk; cases hk
      · rw [if_neg e] at hk; exact hk
  · intro m k L1 L2 hm hk c1 c2
    simp only [H.set, Tr.get_put] at hm hk
    refine t.sep m k L1 L2 ?_ hk c1 c2
    by_cases e : m = n
    · rw [if_pos e] at hm; cases hm
    · rw [if_neg e] at hm; exact hm
  · intro m hm h4
    simp only [H.set, Tr.get_put] at h4
    by_cases e : m = n
    · rw [if_pos e] at h4; cases h4
    · rw [if_neg e] at h4; exact h4
/-- A name takes over the block of another one that goes; the block may be written. -/
theorem out_move (t : WR P ρ h B w) {n : Nat} {L L' : Loc} (hn : (h.objs.get n).isSome) (hL : ρ n = some L) (hLL : L'.block = L.block) {o : AObj} {ob : Obj}
    (ho : OR P ρ L' o ob) (hw : w'.heap = w.heap.setIfInBounds L.block ob) (h1 : w'.os = w.os) (h2 : w'.tape = w.tape) (h3 : w'.output = w.output) (hdr : w.drawn ≤ w'.drawn := by exact Nat.le_refl _) :
    Out P B ρ h w (upd ρ h.next L') ((h.set n none).new o).2 w' := by
  obtain ⟨o0, ho0⟩ := Option.isSome_iff_exists.1 hn
  obtain ⟨L0, ob0, a1, a2, a3, a4⟩ := t.obj n o0 ho0
  rw [hL] at a1; cases a1
  have hlt : L.block < w.heap.size := (Array.getElem?_eq_some_iff.1 a3).1
  have hE := upd_ext t L'
  have hnn : n < h.next := t.lt hn
  rw [new_eq]
  refine ⟨⟨?_, ?_, ?_, t.fzk hE rfl (fun m Lm hm hLm _ => by rw [hw, Array.getElem?_setIfInBounds, if_neg (t.sep n m L Lm hn hm hL hLm)]), ?_⟩, ?_, by rw [hw]; simp, h1, h2, h3, hdr, by simp [H.set], ?_, ?_, ?_, rfl⟩
  · intro m x hm
    simp only [H.set, Tr.get_put] at hm
    by_cases e : m = h.next
    · rw [if_pos e] at hm
      cases hm
      exact ⟨L', ob, by simp [upd, e], by omega, by rw [hw, hLL]; simp [hlt], ho.mono hE⟩
    · rw [if_neg e] at hm
      by_cases e2 : m = n
      · rw [if_pos e2] at hm; cases hm
      · rw [if_neg e2] at hm
        obtain ⟨L1, ob1, b1, b2, b3, b4⟩ := t.obj m x hm
        refine ⟨L1, ob1, hE _ _ b1, b2, ?_, b4.mono hE⟩
        rw [hw, Array.getElem?_setIfInBounds, if_neg]
        · exact b3
        · intro he
          exact e2 (t.inj m n L1 L (by rw [hm]; rfl) hn b1 hL he.symm)
  · intro m k L1 L2 hm hk c1 c2 he
    simp only [H.set, Tr.get_put] at hm hk
    simp only [upd] at c1 c2
    have other : ∀ j Lj, j ≠ h.next → (if j = h.next then some o else if j = n then none else h.objs.get j).isSome = true → ρ j = some Lj → Lj.block = L.block → False := by
      intro j Lj e1 hj hj2 hj3
      rw [if_neg e1] at hj
      by_cases e2 : j = n
      · rw [if_pos e2] at hj; cases hj
      · rw [if_neg e2] at hj
        exact e2 (t.inj j n Lj L hj hn hj2 hL hj3)
    by_cases e1 : m = h.next <;> by_cases e2 : k = h.next
    · omega
    · rw [if_pos e1] at c1; rw [if_neg e2] at c2; cases c1
      exact (other k L2 e2 hk c2 (by omega)).elim
    · rw [if_neg e1] at c1; rw [if_pos e2] at c2; cases c2
      exact (other m L1 e1 hm c1 (by omega)).elim
    · rw [if_neg e1] at c1 hm; rw [if_neg e2] at c2 hk
      by_cases e3 : m = n
      · rw [if_pos e3] at hm; cases hm
      by_cases e4 : k = n
      · rw [if_pos e4] at hk; cases hk
      rw [if_neg e3] at hm; rw [if_neg e4] at hk
      exact t.inj m k L1 L2 hm hk c1 c2 he
  · intro m hm
    simp only [H.set] at hm
    simp only [upd]; rw [if_neg (by omega)]; exact t.new m (by omega)
  · intro m k L1 L2 hm hk c1 c2
    simp only [H.set, Tr.get_put] at hm
    simp only [H.set] at hk
    have hkn := t.fzn hk
    simp only [upd] at c1 c2
    rw [if_neg (by omega)] at c2
    by_cases e1 : m = h.next
    · rw [if_pos e1] at c1; cases c1
      rw [hLL]; exact t.sep n k L L2 hn hk hL c2
    · rw [if_neg e1] at c1 hm
      by_cases e3 : m = n
      · rw [if_pos e3] at hm; cases hm
      rw [if_neg e3] at hm
      exact t.sep m k L1 L2 hm hk c1 c2
  · intro b hb hfar
    rw [hw, Array.getElem?_setIfInBounds, if_neg (hfar n L hn hL)]
  · intro m hm; simp only [upd]; rw [if_neg (by omega)]
  · intro m hm h4
    simp only [H.set, Tr.get_put] at h4
    rw [if_neg (by omega)] at h4
    by_cases e : m = n
    · rw [if_pos e] at h4; cases h4
    · rw [if_neg e] at h4; exact h4
  · intro m Lm hm hLm
    simp only [upd] at hLm
    by_cases e : m = h.next
    · rw [if_pos e] at hLm; cases hLm; exact .inr ⟨n, L, hn, hL, hLL.symm⟩
    · rw [if_neg e, t.new m hm] at hLm; cases hLm
end
end Go.Ev
namespace Go.Ev
open Go
section
variable {P : Program} {ρ ρ' : Ren} {B : Nat} {h h' : H} {w w' : World} {g : Tr Value} {n : Nat} {a : Act}

theorem prun_run {α : Type} {s : Sem α} {x : α} (hs : prun P s = some x) (w : World) : s.run P w = .ok x w := by
  induction s with
  | pure a => simp only [prun, Option.some.injEq] at hs; subst hs; rfl
  | program k ih => simp only [prun] at hs; simpa [Sem.run] using ih P hs
  | mark m k ih => simp only [prun] at hs; simpa [Sem.run] using ih hs
  | _ => simp [prun] at hs

theorem evalO_sound (t : TR ρ g n a.tmps) {x : Operand} {v : Value} (hx : evalO g x = some v) : VR ρ v (a.eval x) := by
  cases x with
  | tmp d =>
    obtain ⟨v', h1, h2⟩ := t.get d v hx
    have : a.eval (.tmp d) = v' := by simp [Act.eval, Array.getD_eq_getD_getElem?, h1]
    rw [this]; exact h2
  | const c =>
    simp only [evalO] at hx
    cases hp : plainV c with
    | false => simp [hp] at hx
    | true => simp only [hp, cond_true, Option.some.injEq] at hx; subst hx; exact .of_plain hp
  | global => simp [evalO] at hx
  | func f => simp only [evalO, Option.some.injEq] at hx; subst hx; exact .of_plain (by simp [plainV, plainS])
theorem evalO_plain (t : TR ρ g n a.tmps) {x : Operand} {v : Value} (hx : evalO g x = some v) (hp : plainV v = true) : a.eval x = v := ((evalO_sound t hx).plain hp).symm
theorem evalL_sound (t : TR ρ g n a.tmps) : ∀ {xs : List Operand} {vs : List Value}, evalL g xs = some vs → All2 (VR ρ) vs (xs.map a.eval)
  | [], vs, hx => by simp only [evalL, Option.some.injEq] at hx; subst hx; exact .nil
  | x :: xs, vs, hx => by
    simp only [evalL, Option.bind_eq_some_iff, Option.some.injEq] at hx
    obtain ⟨v, h1, ws, h2, rfl⟩ := hx
    exact .cons (evalO_sound t h1) (evalL_sound t h2)
theorem evalL_plain (t : TR ρ g n a.tmps) : ∀ {xs : List Operand} {vs : List Value}, evalL g xs = some vs → allPlain vs = true → xs.map a.eval = vs
  | [], vs, hx, _ => by simp only [evalL, Option.some.injEq] at hx; subst hx; rfl
  | x :: xs, vs, hx, hp => by
    simp only [evalL, Option.bind_eq_some_iff, Option.some.injEq] at hx
    obtain ⟨v, h1, ws, h2, rfl⟩ := hx
    simp only [allPlain, Bool.and_eq_true] at hp
    simp [evalO_plain t h1 hp.1, evalL_plain t h2 hp.2]
/-- A pair that hangs together: a number and a value. -/
inductive NV (ρ : Ren) : Nat × Value → Nat × Value → Prop where
  | mk {i v v'} : VR ρ v v' → NV ρ (i, v) (i, v')
theorem evalP_sound (t : TR ρ g n a.tmps) : ∀ {xs : List (Nat × Operand)} {vs : List (Nat × Value)}, evalP g xs = some vs → All2 (NV ρ) vs (xs.map fun (i, x) => (i, a.eval x))
  | [], vs, hx => by simp only [evalP, Option.some.injEq] at hx; subst hx; exact .nil
  | (i, x) :: xs, vs, hx => by
    simp only [evalP, Option.bind_eq_some_iff, Option.some.injEq] at hx
    obtain ⟨v, h1, ws, h2, rfl⟩ := hx
    exact .cons (.mk (evalO_sound t h1)) (evalP_sound t h2)

/-- What an operation's run comes to. -/
def Does (P : Program) (B : Nat) (ρ : Ren) (h : H) (w : World) (r : Result Next) (v : Value) (h' : H) : Prop :=
  ∃ nx v' w' ρ', r = .ok nx w' ∧ (nx = .value v' ∨ (nx = .skip ∧ v' = undef)) ∧ VR ρ' v v' ∧ Out P B ρ h w ρ' h' w'
theorem does_value {r : Result Next} {v v' : Value} (hr : r = .ok (.value v') w') (hv : VR ρ' v v') (ho : Out P B ρ h w ρ' h' w') : Does P B ρ h w r v h' :=
  ⟨_, v', w', ρ', hr, .inl rfl, hv, ho⟩
theorem does_pure (t : WR P ρ h B w) {r : Result Next} {v v' : Value} (hr : r = .ok (.value v') w) (hv : VR ρ v v') : Does P B ρ h w r v h :=
  ⟨_, v', w, ρ, hr, .inl rfl, hv, .refl t⟩
theorem does_skip {r : Result Next} (hr : r = .ok .skip w') (ho : Out P B ρ h w ρ' h' w') : Does P B ρ h w r (.tuple #[]) h' :=
  ⟨_, undef, w', ρ', hr, .inr ⟨rfl, rfl⟩, .of_plain rfl, ho⟩

/-! ### Objects made of cells -/
structure Cells (P : Program) (ρ : Ren) (B : Nat) (h : H) (w : World) (ad bd : Addr) (l : List Value) (e : TypeId) (L : Loc) (c' : Array Value) (fr' : Nat × Nat) : Prop where
  loc : ρ ad.block = some L
  addr : bd = ⟨L.block, L.delta + ad.off, none⟩
  heap : w.heap[L.block]? = some (.cells c' e fr')
  size : L.size = c'.size
  len : L.delta + l.length ≤ c'.size
  all : All2 (SV ρ) l ((c'.toList.drop L.delta).take l.length)
  es : (P.info? e).map (·.size) = some L.es
  froz : ∀ i, i < c'.size → (decide (fr'.1 ≤ i) && decide (i < fr'.2)) = false
  base : B ≤ L.block
  live : (h.objs.get ad.block).isSome
theorem cells_of (t : WR P ρ h B w) {ad bd : Addr} {l : List Value} {e : TypeId} (hc : h.cells ad = some (l, e)) (hA : AR ρ ad bd) :
    ∃ L c' fr', Cells P ρ B h w ad bd l e L c' fr' := by
  unfold H.cells at hc
  rw [hA.spot] at hc
  simp only at hc
  cases ho : h.objs.get ad.block with
  | none => simp [ho] at hc
  | some o =>
    obtain ⟨L, ob, h1, h2, h3, h4⟩ := t.obj _ _ ho
    cases h4 with
    | @cells c e0 fr c' fr' k1 k2 k3 k4 k5 =>
      simp only [ho, Option.some.injEq, Prod.mk.injEq] at hc
      obtain ⟨rfl, rfl⟩ := hc
      obtain ⟨L', e1, e2⟩ := hA.loc
      rw [h1] at e1; cases e1
      exact ⟨L, c', fr', h1, e2, h3, k1, by simpa using k2, by simpa using k3, k4, k5, h2, by simp [ho]⟩
    | map => simp [ho] at hc
    | iterN => simp [ho] at hc
    | iter => simp [ho] at hc
    | loop => simp [ho] at hc
    | marks => simp [ho] at hc
theorem Cells.cell {ad bd : Addr} {l : List Value} {e : TypeId} {L : Loc} {c' : Array Value} {fr' : Nat × Nat} (k : Cells P ρ B h w ad bd l e L c' fr') {i : Nat} {v : Value} (hi : l[i]? = some v) :
    ∃ v', c'[L.delta + i]? = some v' ∧ w.cell? ⟨L.block, L.delta + i, none⟩ = some v' ∧ SV ρ v v' := by
  obtain ⟨v', h1, h2⟩ := k.all.get hi
  have hl : i < l.length := (List.getElem?_eq_some_iff.1 hi).1
  have h3 : c'[L.delta + i]? = some v' := by
    rw [List.getElem?_take, if_pos hl, List.getElem?_drop] at h1
    simpa using h1
  exact ⟨v', h3, by simp [World.cell?, k.heap, h3], h2⟩

theorem cut_some {l s : List Value} {off m : Nat} (hc : cut l off m = some s) : s = (l.drop off).take m ∧ s.length = m := by
  unfold cut at hc
  cases hb : Nat.beq ((l.drop off).take m).length m with
  | false => simp only [hb, cond_false] at hc; cases hc
  | true => simp only [hb, cond_true, Option.some.injEq] at hc; subst hc; exact ⟨rfl, nbeq_e hb⟩
theorem addr_add (b o j : Nat) : (⟨b, o, none⟩ : Addr).add j = ⟨b, o + j, none⟩ := by unfold Addr.add; split <;> simp_all
/-- A stretch of cells is read. -/
theorem Cells.load {ad bd : Addr} {l s : List Value} {e : TypeId} {L : Loc} {c' : Array Value} {fr' : Nat × Nat} (k : Cells P ρ B h w ad bd l e L c' fr') {m : Nat} (hc : cut l ad.off m = some s) :
    ∃ cs', (loadCells bd m).run P w = .ok cs' w ∧ All2 (SV ρ) s cs'.toList := by
  obtain ⟨rfl, hlen⟩ := cut_some hc
  have hlen' : m ≤ l.length - ad.off := by simp at hlen; omega
  let cs := ((c'.toList.drop L.delta).drop ad.off).take m
  have hcl : cs.length = m := by
    have := k.len
    simp [cs]; omega
  refine ⟨cs.toArray, ?_, ?_⟩
  · have := run_loadCells_list (P := P) w bd cs (fun j v hj => ?_)
    · rw [hcl] at this; exact this
    · rw [k.addr, addr_add]
      have hjm : j < m := by rw [← hcl]; exact (List.getElem?_eq_some_iff.1 hj).1
      simp only [cs, List.getElem?_take, if_pos hjm, List.getElem?_drop] at hj
      simp only [World.cell?, k.heap]
      simpa [Nat.add_assoc] using hj
  · have h1 := (k.all.drop ad.off).take m
    have : ((c'.toList.drop L.delta).take l.length).drop ad.off = (((c'.toList.drop L.delta).drop ad.off).take (l.length - ad.off)) := by
      rw [List.drop_take]
    rw [this, List.take_take, Nat.min_eq_left hlen'] at h1
    simpa [cs] using h1

theorem fcut_length {f : Nat → Option Value} : ∀ {n off : Nat} {s : List Value}, fcut f off n = some s → s.length = n
  | 0, off, s, h => by simp only [fcut, Option.some.injEq] at h; subst h; rfl
  | n + 1, off, s, h => by
    simp only [fcut, Option.bind_eq_some_iff, Option.map_eq_some_iff] at h
    obtain ⟨v, _, vs, h2, rfl⟩ := h
    simp [fcut_length h2]
theorem fcut_get {f : Nat → Option Value} : ∀ {n off : Nat} {s : List Value}, fcut f off n = some s → ∀ j v, s[j]? = some v → f (off + j) = some v
  | 0, off, s, h, j, v, hj => by simp only [fcut, Option.some.injEq] at h; subst h; simp at hj
  | n + 1, off, s, h, j, v, hj => by
    simp only [fcut, Option.bind_eq_some_iff, Option.map_eq_some_iff] at h
    obtain ⟨u, h1, vs, h2, rfl⟩ := h
    cases j with
    | zero => simp at hj; subst hj; simpa using h1
    | succ j =>
      have := fcut_get h2 j v (by simpa using hj)
      rwa [show off + 1 + j = off + (j + 1) by omega] at this
theorem fcut_take {f : Nat → Option Value} : ∀ {n off : Nat} {s : List Value}, fcut f off n = some s → ∀ m, m ≤ n → fcut f off m = some (s.take m)
  | n, off, s, h, 0, hm => by simp [fcut]
  | 0, off, s, h, m + 1, hm => by omega
  | n + 1, off, s, h, m + 1, hm => by
    simp only [fcut, Option.bind_eq_some_iff, Option.map_eq_some_iff] at h
    obtain ⟨u, h1, vs, h2, rfl⟩ := h
    simp [fcut, h1, fcut_take h2 m (by omega)]
theorem cut_take {l s : List Value} {off n : Nat} (hc : cut l off n = some s) (m : Nat) (hm : m ≤ n) : cut l off m = some (s.take m) := by
  obtain ⟨rfl, hlen⟩ := cut_some hc
  have e1 : (l.drop off).take m = ((l.drop off).take n).take m := by rw [List.take_take, Nat.min_eq_left hm]
  unfold cut
  simp only
  rw [e1]
  have e2 : (((l.drop off).take n).take m).length = m := by rw [List.length_take, hlen, Nat.min_eq_left hm]
  rw [nbeq_t e2]; rfl
theorem rcut_length {a : Addr} {n : Nat} {s : List Value} (hc : h.rcut a n = some s) : s.length = n := by
  unfold H.rcut at hc
  split at hc
  · cases hc
  · split at hc
    · exact (cut_some hc).2
    · cases hc
    · split at hc
      · exact fcut_length hc
      · cases hc
theorem rcut_take {a : Addr} {n : Nat} {s : List Value} (hc : h.rcut a n = some s) (m : Nat) (hm : m ≤ n) : h.rcut a m = some (s.take m) := by
  unfold H.rcut at hc ⊢
  cases hs : a.spot with
  | some x => simp [hs] at hc
  | none =>
    simp only [hs] at hc ⊢
    cases ho : h.objs.get a.block with
    | none =>
      simp only [ho] at hc ⊢
      cases hf : h.fz a.block with
      | none => simp [hf] at hc
      | some f => simp only [hf] at hc ⊢; exact fcut_take hc m hm
    | some o =>
      simp only [ho] at hc ⊢
      cases o with
      | o x =>
        cases x with
        | cells c e fr => exact cut_take hc m hm
        | _ => cases hc
      | _ => cases hc
/-- A stretch of cells is read, whoever owns it. -/
theorem rcut_sound (t : WR P ρ h B w) {ad bd : Addr} {m : Nat} {s : List Value} (hc : h.rcut ad m = some s) (hA : AR ρ ad bd) : ∃ cs', (loadCells bd m).run P w = .ok cs' w ∧ All2 (SV ρ) s cs'.toList := by
  cases ho : h.objs.get ad.block with
  | none =>
    unfold H.rcut at hc
    rw [hA.spot] at hc
    simp only [ho] at hc
    split at hc
    case h_2 => cases hc
    rename_i f hf
    obtain ⟨L, h1, h2⟩ := t.fz _ _ hf
    obtain ⟨L', e1, e2⟩ := hA.loc
    rw [h1] at e1; cases e1
    have hl := fcut_length hc
    have hcell : ∀ j v, s[j]? = some v → ∃ v', w.cell? (bd.add j) = some v' ∧ SV ρ v v' := fun j v hj => by
      obtain ⟨v', k1, k2⟩ := h2.cell _ v (fcut_get hc j v hj)
      refine ⟨v', ?_, k2⟩
      rw [e2, addr_add, Nat.add_assoc]; exact k1
    have hch : ∀ j, ∃ v', j < s.length → ∃ v, s[j]? = some v ∧ w.cell? (bd.add j) = some v' ∧ SV ρ v v' := fun j => by
      by_cases hj : j < s.length
      · obtain ⟨v', k1, k2⟩ := hcell j _ (List.getElem?_eq_getElem hj)
        exact ⟨v', fun _ => ⟨_, List.getElem?_eq_getElem hj, k1, k2⟩⟩
      · exact ⟨undef, fun h => absurd h hj⟩
    let g : Nat → Value := fun j => Classical.choose (hch j)
    have hg : ∀ j, j < s.length → ∃ v, s[j]? = some v ∧ w.cell? (bd.add j) = some (g j) ∧ SV ρ v (g j) := fun j => Classical.choose_spec (hch j)
    let cs := (List.range s.length).map g
    have hcl : cs.length = m := by simp [cs, hl]
    refine ⟨cs.toArray, ?_, ?_⟩
    · have := run_loadCells_list (P := P) w bd cs (fun j v hj => ?_)
      · rw [hcl] at this; exact this
      · have hjl : j < s.length := by have := (List.getElem?_eq_some_iff.1 hj).1; simpa [cs] using this
        obtain ⟨_, _, k2, _⟩ := hg j hjl
        have : cs[j]? = some (g j) := by simp [cs, hjl]
        rw [this] at hj; cases hj
        exact k2
    · refine All2.of_get (by simp [cs]) fun j a b ha hb => ?_
      have hjl : j < s.length := (List.getElem?_eq_some_iff.1 ha).1
      obtain ⟨v, k1, k2, k3⟩ := hg j hjl
      have : cs[j]? = some (g j) := by simp [cs, hjl]
      simp only at hb
      rw [this] at hb; cases hb
      rw [ha] at k1; cases k1
      exact k3
  | some o =>
    have : ∃ l e, h.cells ad = some (l, e) ∧ cut l ad.off m = some s := by
      unfold H.rcut at hc
      unfold H.cells
      rw [hA.spot] at hc ⊢
      simp only [ho] at hc ⊢
      split at hc
      · rename_i heq
        cases heq
        exact ⟨_, _, rfl, hc⟩
      · cases hc
      · rename_i heq; cases heq
    obtain ⟨l, e, hc2, hcut⟩ := this
    obtain ⟨L, c', fr', k⟩ := cells_of t hc2 hA
    exact k.load hcut
theorem rcut_cell (t : WR P ρ h B w) {ad bd : Addr} {v : Value} (hc : h.rcut ad 1 = some [v]) (hA : AR ρ ad bd) : ∃ v', w.cell? bd = some v' ∧ SV ρ v v' := by
  cases ho : h.objs.get ad.block with
  | none =>
    unfold H.rcut at hc
    rw [hA.spot] at hc
    simp only [ho] at hc
    split at hc
    case h_2 => cases hc
    rename_i f hf
    obtain ⟨L, h1, h2⟩ := t.fz _ _ hf
    obtain ⟨L', e1, e2⟩ := hA.loc
    rw [h1] at e1; cases e1
    obtain ⟨v', k1, k2⟩ := h2.cell _ v (fcut_get hc 0 v rfl)
    exact ⟨v', by rw [e2]; exact k1, k2⟩
  | some o =>
    have : ∃ l e, h.cells ad = some (l, e) ∧ cut l ad.off 1 = some [v] := by
      unfold H.rcut at hc
      unfold H.cells
      rw [hA.spot] at hc ⊢
      simp only [ho] at hc ⊢
      split at hc
      · rename_i heq
        cases heq
        exact ⟨_, _, rfl, hc⟩
      · cases hc
      · rename_i heq; cases heq
    obtain ⟨l, e, hc2, hcut⟩ := this
    obtain ⟨L, c', fr', k⟩ := cells_of t hc2 hA
    have hl : l[ad.off]? = some v := by
      have h1 := (cut_some hcut).1
      have h2 : ([v] : List Value)[0]? = some v := rfl
      rw [h1, List.getElem?_take, if_pos (by omega), List.getElem?_drop] at h2
      simpa using h2
    obtain ⟨v', _, k2, k3⟩ := k.cell hl
    exact ⟨v', by rw [k.addr]; exact k2, k3⟩
theorem All2.setMany {R : Value → Value → Prop} {as bs : List Value} (hA : All2 R as bs) : ∀ {vs ws : List Value} (k : Nat), All2 R vs ws → All2 R (Ev.setMany as k vs) (Ev.setMany bs k ws) := by
  induction hA with
  | nil => intro vs ws k hv; cases hv <;> cases k <;> simp [Ev.setMany] <;> exact .nil
  | cons h0 hs ih =>
    intro vs ws k hv
    cases hv with
    | nil => cases k <;> simp only [Ev.setMany] <;> exact .cons h0 hs
    | cons h1 h2 => cases k with
      | zero => simp only [Ev.setMany]; exact .cons h1 (ih 0 h2)
      | succ k => simp only [Ev.setMany]; exact .cons h0 (ih k (.cons h1 h2))
@[simp] theorem setMany_nil (l : List Value) (k : Nat) : setMany l k [] = l := by cases l <;> cases k <;> rfl
@[simp] theorem setMany_length (l : List Value) : ∀ (k : Nat) (vs : List Value), (setMany l k vs).length = l.length := by
  induction l with
  | nil => intro k vs; cases vs <;> cases k <;> rfl
  | cons x l ih => intro k vs; cases vs <;> cases k <;> simp [setMany, ih]
theorem setMany_drop (l : List Value) : ∀ (d k : Nat) (vs : List Value), (setMany l (d + k) vs).drop d = setMany (l.drop d) k vs := by
  induction l with
  | nil => intro d k vs; cases vs <;> cases d <;> cases k <;> simp [setMany]
  | cons x l ih =>
    intro d k vs
    cases d with
    | zero => simp
    | succ d =>
      cases vs with
      | nil => simp
      | cons v vs =>
        rw [show d + 1 + k = (d + k) + 1 by omega]
        simp only [setMany, List.drop_succ_cons]
        exact ih d k (v :: vs)
theorem setMany_take (l : List Value) : ∀ (m k : Nat) (vs : List Value), k + vs.length ≤ m → (setMany l k vs).take m = setMany (l.take m) k vs := by
  induction l with
  | nil => intro m k vs _; cases vs <;> cases k <;> simp [setMany]
  | cons x l ih =>
    intro m k vs hm
    cases vs with
    | nil => simp
    | cons v vs =>
      cases m with
      | zero => simp at hm
      | succ m =>
        cases k with
        | zero => simp only [setMany, List.take_succ_cons]; rw [ih m 0 vs (by simpa using hm)]
        | succ k => simp only [setMany, List.take_succ_cons]; rw [ih m k (v :: vs) (by simp at hm ⊢; omega)]
theorem setMany_set (l : List Value) : ∀ (k : Nat) (v : Value) (vs : List Value), setMany (l.set k v) (k + 1) vs = setMany l k (v :: vs) := by
  induction l with
  | nil => intro k v vs; cases vs <;> rfl
  | cons x l ih =>
    intro k v vs
    cases k with
    | zero => cases vs <;> simp [setMany]
    | succ k =>
      cases vs with
      | nil => have := ih k v []; simp only [setMany_nil] at this; simp [setMany, this]
      | cons y ys => simp only [List.set_cons_succ, setMany]; rw [ih k v (y :: ys)]
/-- A stretch of cells is written. -/
theorem run_storeCells_blk (g o : Nat) (e : TypeId) (fr : Nat × Nat) : ∀ (vs : List Value) (i : Nat) (cur : Array Value) (w : World), w.heap[g]? = some (.cells cur e fr) →
    o + i + vs.length ≤ cur.size → (∀ v ∈ vs, v.oneCell' = true) → (∀ i, i < cur.size → (decide (fr.1 ≤ i) && decide (i < fr.2)) = false) →
    (storeCells ⟨g, o, none⟩ vs i).run P w = .ok () { w with heap := w.heap.setIfInBounds g (.cells ⟨setMany cur.toList (o + i) vs⟩ e fr) }
  | [], i, cur, w, hg, _, _, _ => by
    simp only [storeCells, Sem.run_pure, setMany_nil]
    have hlt := (Array.getElem?_eq_some_iff.1 hg).1
    have : w.heap.setIfInBounds g (.cells cur e fr) = w.heap := by
      apply Array.ext'
      simp only [Array.toList_setIfInBounds]
      apply List.ext_getElem?
      intro j
      by_cases hj : j = g
      · subst hj
        rw [Array.getElem?_eq_getElem hlt, Option.some.injEq] at hg
        simp [hlt, hg]
      · rw [List.getElem?_set_ne (fun x => hj x.symm)]
    rw [this]
  | v :: vs, i, cur, w, hg, hl, h1, hf => by
    have hlt := (Array.getElem?_eq_some_iff.1 hg).1
    simp only [List.length_cons] at hl
    have hi : o + i < cur.size := by omega
    have hc : w.cell? ⟨g, o + i, none⟩ = some cur[o + i] := by simp [World.cell?, hg, hi]
    have hfz : w.frozen? ⟨g, o + i, none⟩ = false := by simp only [World.frozen?, hg]; exact hf _ hi
    simp only [storeCells, Sem.run_bind, addr_add, run_store P w _ v .plain (h1 v (by simp)), hc, hfz, if_false, Result.andThen_ok, Bool.false_eq_true]
    have hg' : (w.setCell ⟨g, o + i, none⟩ v).heap[g]? = some (.cells (cur.setIfInBounds (o + i) v) e fr) := by
      simp only [World.setCell, Array.getElem?_modify, hg]; simp
    rw [run_storeCells_blk g o e fr vs (i + 1) (cur.setIfInBounds (o + i) v) _ hg' (by simp; omega) (fun u hu => h1 u (by simp [hu])) (by simpa using hf)]
    congr 1
    simp only [World.setCell]
    congr 1
    apply Array.ext'
    simp only [Array.toList_setIfInBounds]
    apply List.ext_getElem?
    intro j
    by_cases hj : j = g
    · subst hj
      rw [List.getElem?_set_self (by simpa using hlt), List.getElem?_set_self (by simpa using hlt)]
      rw [show o + (i + 1) = (o + i) + 1 by omega, setMany_set]
    · rw [List.getElem?_set_ne (fun x => hj x.symm), List.getElem?_set_ne (fun x => hj x.symm)]
      simp [Ne.symm hj]
theorem Cells.store (t : WR P ρ h B w) {ad bd : Addr} {l cs cs' : List Value} {e : TypeId} {L : Loc} {c' : Array Value} {fr' : Nat × Nat} (hc : h.cells ad = some (l, e)) (k : Cells P ρ B h w ad bd l e L c' fr')
    (hlen : ad.off + cs.length ≤ l.length) (hv : All2 (SV ρ) cs cs') :
    ∃ w', (storeCells bd cs').run P w = .ok () w' ∧ Out P B ρ h w ρ (h.set ad.block (some (.o (.cells ⟨setMany l ad.off cs⟩ e)))) w' := by
  have hl := hv.length
  have hkl := k.len
  have h1 : ∀ v ∈ cs', v.oneCell' = true := by
    intro v hm
    obtain ⟨i, hi, rfl⟩ := List.mem_iff_getElem.1 hm
    obtain ⟨u, _, hs⟩ : ∃ u, cs[i]? = some u ∧ SV ρ u cs'[i] := by
      have : i < cs.length := by omega
      obtain ⟨u', hu', hs⟩ := hv.get (List.getElem?_eq_getElem this)
      rw [List.getElem?_eq_getElem hi] at hu'; cases hu'
      exact ⟨_, List.getElem?_eq_getElem this, hs⟩
    exact hs.oneCell
  refine ⟨_, by rw [k.addr]; exact run_storeCells_blk (P := P) L.block (L.delta + ad.off) e fr' cs' 0 c' w k.heap (by omega) h1 k.froz, ?_⟩
  refine out_set t k.live k.loc _ (.cells ⟨setMany c'.toList (L.delta + ad.off + 0) cs'⟩ e fr') ?_ rfl rfl rfl rfl
  intro x hx
  cases hx
  refine .cells (by simp [k.size]) (by simpa using hkl) ?_ k.es (by simpa using k.froz)
  simp only [Nat.add_zero]
  rw [setMany_drop, List.size_toArray, setMany_length, setMany_take _ _ _ _ (by omega)]
  exact k.all.setMany ad.off hv
end
end Go.Ev
namespace Go.Ev
open Go
section
variable {P : Program} {ρ ρ' : Ren} {B : Nat} {h h' : H} {w w' : World} {g : Tr Value} {n : Nat} {a : Act}

theorem sizeT_info {t : TypeId} {s : Nat} (hs : sizeT P t = some s) : ∃ i, P.info? t = some i ∧ i.size = s := by
  unfold sizeT at hs
  cases hi : P.info? t with
  | none => simp [hi] at hs
  | some i => simp [hi] at hs; exact ⟨i, rfl, hs⟩
theorem run_sizeT {t : TypeId} {s : Nat} (hs : sizeT P t = some s) (w : World) : (sizeOf t).run P w = .ok s w := by
  obtain ⟨i, h1, h2⟩ := sizeT_info hs
  simp [sizeOf, typeInfo, h1, h2]
theorem run_zeroT {t : TypeId} {z : Value} (hz : zeroT P t = some z) (w : World) : (zeroValue t).run P w = .ok z w := by
  unfold zeroT at hz
  cases hi : P.info? t with
  | none => simp [hi] at hz
  | some i => simp [hi] at hz; simp [zeroValue, typeInfo, hi, hz]
theorem zcells_some {t : TypeId} {z : List Value} (hz : zcells P t = some z) : ∃ v, zeroT P t = some v ∧ z = cellsL v ∧ z.all plainS = true := by
  unfold zcells at hz
  cases hv : zeroT P t with
  | none => simp [hv] at hz
  | some v =>
    simp only [hv, Option.bind_some] at hz
    cases hb : (cellsL v).all plainS with
    | false => simp [hb] at hz
    | true => simp only [hb, cond_true, Option.some.injEq] at hz; exact ⟨v, rfl, hz.symm, by rw [← hz]; exact hb⟩
theorem run_isAgg {t : TypeId} {d : TypeDesc} (hd : P.underlying t = some d) (w : World) : (isAgg t).run P w = .ok (isAggD d) w := by
  simp only [isAgg, Sem.run_bind, run_underlying hd, Result.andThen_ok]
  cases d <;> rfl
theorem aggT_some {t : TypeId} {b : Bool} (hb : aggT P t = some b) : ∃ d, P.underlying t = some d ∧ isAggD d = b := by
  unfold aggT at hb
  cases hd : P.underlying t with
  | none => simp [hd] at hb
  | some d => simp [hd] at hb; exact ⟨d, rfl, hb⟩
theorem nat_beq_self (n : Nat) : Nat.beq n n = true := Nat.beq_refl n

theorem AR.add {x y : Addr} (h : AR ρ x y) (k : Nat) : AR ρ (x.add k) (y.add k) := by
  obtain ⟨b, o, s⟩ := x
  obtain ⟨hs, L, h1, h2⟩ := h
  simp only at hs; subst hs
  rw [addr_add, h2, addr_add]
  exact ⟨rfl, L, h1, by simp [Nat.add_assoc]⟩
theorem AR.off {x y : Addr} (h : AR ρ x y) : x = ⟨x.block, x.off, none⟩ := by obtain ⟨b, o, s⟩ := x; have := h.spot; simp only at this; subst this; rfl

/-! ### Reading -/
theorem loadE_sound (t : WR P ρ h B w) {ty : TypeId} {x y : Addr} (hA : AR ρ x y) {v : Value} (hv : loadE P ty h x = some v) :
    ∃ v', (Instr.loadAt ty (.pointer (some y))).run P w = .ok v' w ∧ VR ρ v v' := by
  unfold loadE at hv
  cases hag : aggT P ty with
  | none => simp [hag] at hv
  | some ag =>
    obtain ⟨d, hd, rfl⟩ := aggT_some hag
    simp only [hag, Option.bind_some] at hv
    simp only [Instr.loadAt, Instr.sureAddr, loadVar, Sem.run_bind, Sem.run_pure, Result.andThen_ok, run_isAgg hd]
    cases hb : isAggD d with
    | true =>
      simp only [hb, cond_true] at hv
      cases hs : sizeT P ty with
      | none => simp [hs] at hv
      | some s =>
        simp only [hs, Option.bind_some, Option.map_eq_some_iff] at hv
        obtain ⟨cs, hcut, rfl⟩ := hv
        obtain ⟨cs', h1, h2⟩ := rcut_sound t hcut hA
        exact ⟨.agg cs', by simp [run_sizeT hs, h1], .a (.agg h2)⟩
    | false =>
      simp only [hb, cond_false, Option.bind_eq_some_iff] at hv
      obtain ⟨cs, hcut, hhead⟩ := hv
      have hl := rcut_length hcut
      obtain ⟨v0, rfl⟩ := List.length_eq_one_iff.1 hl
      simp only [List.head?_cons, Option.some.injEq] at hhead
      subst hhead
      obtain ⟨v', h1, h2⟩ := rcut_cell t hcut hA
      exact ⟨v', by simp [h1], .s h2⟩
theorem extract_toList (cs : Array Value) (o m : Nat) : (cs.extract o (o + m)).toList = (cs.toList.drop o).take m := by
  simp [Array.toList_extract, List.extract]
theorem partE_sound {ty : TypeId} {cs cs' : Array Value} {off : Nat} {v : Value} (hc : All2 (SV ρ) cs.toList cs'.toList) (hv : partE P ty cs.toList off = some v) (w : World) :
    ∃ v', (part ty cs' off).run P w = .ok v' w ∧ AV ρ v v' := by
  unfold partE at hv
  cases hag : aggT P ty with
  | none => simp [hag] at hv
  | some ag =>
    obtain ⟨d, hd, rfl⟩ := aggT_some hag
    simp only [hag, Option.bind_some] at hv
    simp only [part, Sem.run_bind, run_isAgg hd, Result.andThen_ok]
    cases hb : isAggD d with
    | true =>
      simp only [hb, cond_true] at hv
      cases hs : sizeT P ty with
      | none => simp [hs] at hv
      | some s =>
        simp only [hs, Option.bind_some, Option.map_eq_some_iff] at hv
        obtain ⟨c1, hcut, rfl⟩ := hv
        obtain ⟨rfl, hlen⟩ := cut_some hcut
        exact ⟨.agg (cs'.extract off (off + s)), by simp [run_sizeT hs], .agg (by rw [extract_toList]; exact (hc.drop off).take s)⟩
    | false =>
      simp only [hb, cond_false] at hv
      obtain ⟨v', h1, h2⟩ := hc.get hv
      have h3 : cs'[off]? = some v' := by simpa using h1
      exact ⟨v', by simp [h3], .s h2⟩

/-! ### New rows -/
theorem out_row (t : WR P ρ h B w) (hB : B ≤ w.heap.size) {cs cs' : List Value} {e : TypeId} {r : Addr × H} (hr : newE P h cs e = some r) (hv : All2 (SV ρ) cs cs')
    {extra : List Value} {fr : Nat × Nat} {dr : Nat} (hf : ∀ i, i < (cs' ++ extra).length → (decide (fr.1 ≤ i) && decide (i < fr.2)) = false) (hdr : w.drawn ≤ dr) :
    ∃ ρ' es, sizeT P e = some es ∧ r.1 = ⟨h.next, 0, none⟩ ∧ ρ' h.next = some ⟨w.heap.size, 0, (cs' ++ extra).length, es⟩ ∧
      Out P B ρ h w ρ' r.2 { w with heap := w.heap.push (.cells ⟨cs' ++ extra⟩ e fr), drawn := dr } := by
  unfold newE at hr
  cases hs : sizeT P e with
  | none => simp [hs] at hr
  | some es =>
    simp only [hs, new_eq, Option.some.injEq] at hr
    subst hr
    refine ⟨upd ρ h.next ⟨w.heap.size, 0, (cs' ++ extra).length, es⟩, es, rfl, rfl, by simp [upd], ?_⟩
    have := out_new (L := ⟨w.heap.size, 0, (cs' ++ extra).length, es⟩) (o := .o (.cells ⟨cs⟩ e)) (ob := .cells ⟨cs' ++ extra⟩ e fr) t hB rfl ?_ rfl
    · rw [new_eq] at this
      exact this.of_heap rfl rfl rfl rfl hdr
    · have hl := hv.length
      refine .cells (by simp) (by simp; omega) ?_ ?_ (by simpa using hf)
      · simp only [List.drop_zero, List.size_toArray]
        rw [hl, List.take_left' rfl]; exact hv
      · obtain ⟨i, h1, h2⟩ := sizeT_info hs
        simp [h1, h2]
theorem nofr {k : Nat} : ∀ i, i < k → (decide ((0, 0).1 ≤ i) && decide (i < (0, 0).2)) = false := fun i _ => by simp
theorem repL_length (z : List Value) : ∀ k, (repL z k).length = k * z.length
  | 0 => by simp [repL]
  | k + 1 => by simp [repL, repL_length z k, Nat.succ_mul, Nat.add_comm]
theorem repL_get (z : List Value) : ∀ (k i : Nat), i < k * z.length → (repL z k)[i]? = z[i % z.length]?
  | 0, i, hi => by simp at hi
  | k + 1, i, hi => by
    rw [Nat.succ_mul] at hi
    simp only [repL]
    by_cases hlt : i < z.length
    · rw [List.getElem?_append_left hlt, Nat.mod_eq_of_lt hlt]
    · rw [List.getElem?_append_right (by omega), repL_get z k (i - z.length) (by omega)]
      rw [Nat.mod_eq_sub_mod (by omega : i ≥ z.length)]
theorem range_map_eq (z : Array Value) (k : Nat) : ((Array.range (k * z.size)).map fun i => z[i % z.size]!).toList = repL z.toList k := by
  apply List.ext_getElem?
  intro i
  by_cases hi : i < k * z.size
  · have hp : 0 < z.size := by
      rcases Nat.eq_zero_or_pos z.size with h0 | h0
      · rw [h0] at hi; simp at hi
      · exact h0
    have hm : i % z.size < z.size := Nat.mod_lt _ hp
    rw [repL_get _ _ _ (by simpa using hi)]
    simp [hi, hm, getElem!_pos]
  · rw [List.getElem?_eq_none (by simp; omega), List.getElem?_eq_none (by rw [repL_length]; simpa using Nat.le_of_not_lt hi)]
theorem repL_plain {z : List Value} (hz : z.all plainS = true) : ∀ k, (repL z k).all plainS = true
  | 0 => rfl
  | k + 1 => by simp only [repL, List.all_append, hz, repL_plain hz k, Bool.and_self]

/-! ### Filling -/
theorem foldl_setMany (vs : List Value) : ∀ (k off : Nat) (arr : Array Value), off + k + vs.length ≤ arr.size →
    (((vs.zipIdx k).foldl (fun (cs : Array Value) (p : Value × Nat) => cs.setIfInBounds (off + p.2) p.1) arr).toList) = setMany arr.toList (off + k) vs := by
  induction vs with
  | nil => intro k off arr _; simp
  | cons v vs ih =>
    intro k off arr hl
    simp only [List.length_cons] at hl
    simp only [List.zipIdx_cons, List.foldl_cons]
    rw [ih (k + 1) off _ (by simp; omega)]
    simp only [Array.toList_setIfInBounds]
    rw [show off + (k + 1) = (off + k) + 1 by omega, setMany_set]
theorem fillE_sound (place : Nat → Option (Nat × Nat)) : ∀ {parts parts' : List (Nat × Value)} {cells cs : List Value} {cells' : Array Value}, All2 (NV ρ) parts parts' → All2 (SV ρ) cells cells'.toList →
    fillE place cells parts = some cs → ∃ cs', Instr.fill place cells' parts' = some cs' ∧ All2 (SV ρ) cs cs'.toList := by
  intro parts parts' cells cs cells' hp
  induction hp generalizing cells cells' with
  | nil => intro hc hf; simp only [fillE, Option.some.injEq] at hf; subst hf; exact ⟨cells', rfl, hc⟩
  | cons h0 hs ih =>
    intro hc hf
    cases h0 with
    | @mk i v v' hv =>
      simp only [fillE] at hf
      cases hpl : place i with
      | none => simp [hpl] at hf
      | some p =>
        obtain ⟨off, size⟩ := p
        simp only [hpl] at hf
        cases hb : (!(isTuple v) && Nat.beq (cellsL v).length size && Nat.ble (off + size) cells.length) with
        | false => simp [hb] at hf
        | true =>
          simp only [hb, cond_true] at hf
          simp only [Bool.and_eq_true, Bool.not_eq_true'] at hb
          obtain ⟨⟨hb1, hb2⟩, hb3⟩ := hb
          have e2 := nbeq_e hb2
          have e3 := nble_e hb3
          have hcs := hv.cells (by rintro x rfl; simp [isTuple] at hb1)
          have hl := hcs.length
          have hcl := hc.length
          rw [cellsL_eq v'] at hcs
          have e4 : v'.cells.size = size := by have := hcs.length; simp at this; omega
          have hfill : (v'.cells.zipIdx.foldl (fun cs (c, j) => cs.setIfInBounds (off + j) c) cells').toList = setMany cells'.toList off v'.cells.toList := by
            have := foldl_setMany v'.cells.toList 0 off cells' (by simp at hcl ⊢; omega)
            rw [Nat.add_zero] at this
            rw [← this, ← Array.foldl_toList, Array.toList_zipIdx]
          obtain ⟨cs', h1, h2⟩ := ih (cells' := v'.cells.zipIdx.foldl (fun cs (c, j) => cs.setIfInBounds (off + j) c) cells') (by rw [hfill]; exact hc.setMany off hcs) hf
          refine ⟨cs', ?_, h2⟩
          simp only [Instr.fill, hpl]
          rw [if_neg]
          · exact h1
          · simp at hcl ⊢; omega
end
end Go.Ev
namespace Go.Ev
open Go
section
variable {P : Program} {ρ ρ' : Ren} {B : Nat} {h h' : H} {w w' : World} {g : Tr Value} {n : Nat} {a : Act}

theorem isT_false {v : Value} (h : isTuple v = false) : ∀ cs, v ≠ .tuple cs := by rintro cs rfl; simp [isTuple] at h
theorem plV_some {r : Option Value} {v : Value} (h : plV r = some v) : r = some v ∧ plainV v = true := by
  unfold plV at h
  cases r with
  | none => simp at h
  | some u =>
    cases hp : plainV u with
    | false => simp [hp] at h
    | true => simp only [hp, cond_true, Option.some.injEq] at h; subst h; exact ⟨rfl, hp⟩
theorem VR.int {k : IntKind} {i : Int} {v : Value} (h : VR ρ (.int k i) v) : v = .int k i := (h.plain rfl).symm
theorem VR.str {s : ByteArray} {v : Value} (h : VR ρ (.string s) v) : v = .string s := (h.plain rfl).symm
theorem VR.bool {b : Bool} {v : Value} (h : VR ρ (.bool b) v) : v = .bool b := (h.plain rfl).symm
theorem VR.ptr {x : Addr} {v : Value} (h : VR ρ (.pointer (some x)) v) : ∃ y, v = .pointer (some y) ∧ AR ρ x y := by
  cases h with
  | a h => cases h with
    | s h => cases h with
      | same h => simp [plainS] at h
      | ptr h => exact ⟨_, rfl, h⟩
theorem VR.mapS {m : Nat} {v : Value} (h : VR ρ (.map (some m)) v) : ∃ L, v = .map (some L.block) ∧ ρ m = some L := by
  cases h with
  | a h => cases h with
    | s h => cases h with
      | same h => simp [plainS] at h
      | map h => exact ⟨_, rfl, h⟩
theorem VR.mapN {v : Value} (h : VR ρ (.map none) v) : v = .map none := (h.plain rfl).symm
theorem VR.aggI {cs : Array Value} {v : Value} (h : VR ρ (.agg cs) v) : ∃ cs', v = .agg cs' ∧ All2 (SV ρ) cs.toList cs'.toList := by
  cases h with
  | a h => cases h with
    | s h => exact absurd rfl (h.not_agg.1 cs)
    | agg h => exact ⟨_, rfl, h⟩
theorem VR.tupI {cs : Array Value} {v : Value} (h : VR ρ (.tuple cs) v) : ∃ cs', v = .tuple cs' ∧ All2 (AV ρ) cs.toList cs'.toList := by
  cases h with
  | a h => cases h with
    | s h => exact absurd rfl (h.not_agg.2 cs)
  | tuple h => exact ⟨_, rfl, h⟩
theorem VR.av {x v : Value} (h : VR ρ x v) (hn : isTuple x = false) : AV ρ x v := by
  cases h with
  | a h => exact h
  | tuple => simp [isTuple] at hn
/-- What a slice's value stands for. -/
theorem VR.sliceI {b : Option Addr} {l c : Nat} {v : Value} (h : VR ρ (.slice b l c) v) :
    (b = none ∧ l = 0 ∧ c = 0 ∧ v = .slice none 0 0) ∨ (b = none ∧ l = 0 ∧ c = 1 ∧ ∃ b' c', v = .slice b' 0 c') ∨
    (∃ x y c', b = some x ∧ v = .slice (some y) l c' ∧ AR ρ x y ∧ l ≤ c' ∧ (c = 0 → c' = 0) ∧ (c = 1 → ∀ L, ρ x.block = some L → L.delta + x.off + c' * L.es ≤ L.size)) := by
  cases h with
  | a h => cases h with
    | s h => cases h with
      | same h =>
        cases b with
        | none => simp only [plainS, Bool.and_eq_true] at h; have h1 := nbeq_e h.1; have h2 := nbeq_e h.2; subst h1; subst h2; exact .inl ⟨rfl, rfl, rfl, rfl⟩
        | some x => simp [plainS] at h
      | slice h1 h2 h3 h4 => exact .inr (.inr ⟨_, _, _, rfl, rfl, h1, h2, h3, h4⟩)
      | empty => exact .inr (.inl ⟨rfl, rfl, rfl, _, _, rfl⟩)

theorem ex_value (s : Sem Value) (w : World) : (do pure (Next.value (← s)) : Sem Next).run P w = (s.run P w).andThen fun x w' => .ok (.value x) w' := by simp
theorem ex_skip (s : Sem Unit) (w : World) : (do s; pure Next.skip : Sem Next).run P w = (s.run P w).andThen fun _ w' => .ok .skip w' := by simp

/-! ### The operations, kind by kind -/
theorem s_move (t : WR P ρ h B w) (tr : TR ρ g n a.tmps) {x : Operand} {v : Value} (hx : evalO g x = some v) : Does P B ρ h w (.ok (.value (a.eval x)) w) v h :=
  does_pure t rfl (evalO_sound tr hx)
theorem s_ptr (t : WR P ρ h B w) (hB : B ≤ w.heap.size) {cs cs' : List Value} {e : TypeId} {v : Value} {h' : H} (hr : ptrE (newE P h cs e) = some (v, h')) (hv : All2 (SV ρ) cs cs') :
    Does P B ρ h w (.ok (.value (.pointer (some ⟨w.heap.size, 0, none⟩))) { w with heap := w.heap.push (.cells ⟨cs'⟩ e) }) v h' := by
  unfold ptrE at hr
  cases hn : newE P h cs e with
  | none => simp [hn] at hr
  | some r =>
    obtain ⟨ρ', es, h1, h2, h3, h4⟩ := out_row (extra := []) (fr := (0, 0)) (dr := w.drawn) t hB hn hv nofr (Nat.le_refl _)
    simp only [hn, Option.some.injEq, Prod.mk.injEq] at hr
    obtain ⟨rfl, rfl⟩ := hr
    simp only [List.append_nil] at h4
    refine does_value rfl (.s (.ptr ?_)) h4
    rw [h2]
    exact ⟨rfl, _, h3, rfl⟩
theorem s_sli (t : WR P ρ h B w) (hB : B ≤ w.heap.size) {cs cs' extra : List Value} {e : TypeId} {v : Value} {h' : H} {l c c' es : Nat} (hes : sizeT P e = some es) (hr : sliE (newE P h cs e) l c = some (v, h')) (hv : All2 (SV ρ) cs cs')
    {fr : Nat × Nat} {dr : Nat} (hf : ∀ i, i < (cs' ++ extra).length → (decide (fr.1 ≤ i) && decide (i < fr.2)) = false) (h1 : l ≤ c') (h2 : c = 0 → c' = 0) (h3 : c' * es ≤ (cs' ++ extra).length) (hdr : w.drawn ≤ dr := by omega) :
    ∃ ρ', VR ρ' v (.slice (some ⟨w.heap.size, 0, none⟩) l c') ∧ Out P B ρ h w ρ' h' { w with heap := w.heap.push (.cells ⟨cs' ++ extra⟩ e fr), drawn := dr } := by
  unfold sliE at hr
  cases hn : newE P h cs e with
  | none => simp [hn] at hr
  | some r =>
    obtain ⟨ρ', es', k1, k2, k3, k4⟩ := out_row (extra := extra) (fr := fr) (dr := dr) t hB hn hv hf hdr
    rw [hes] at k1; cases k1
    simp only [hn, Option.some.injEq, Prod.mk.injEq] at hr
    obtain ⟨rfl, rfl⟩ := hr
    refine ⟨ρ', .s (.slice ?_ h1 h2 ?_), k4⟩
    · rw [k2]; exact ⟨rfl, _, k3, rfl⟩
    · intro _ L hL
      rw [k2] at hL
      simp only [k3, Option.some.injEq] at hL
      subst hL
      rw [k2]
      simpa using h3
theorem zcells_run {t : TypeId} {z : List Value} (hz : zcells P t = some z) : ∃ v, zeroT P t = some v ∧ v.cells.toList = z ∧ z.all plainS = true := by
  obtain ⟨v, h1, h2, h3⟩ := zcells_some hz
  exact ⟨v, h1, by rw [h2, cellsL_eq], h3⟩

theorem s_alloc (t : WR P ρ h B w) (hB : B ≤ w.heap.size) {e : TypeId} {z : List Value} {v : Value} (hz : zcells P e = some z) (hr : ptrE (newE P h z e) = some (v, h')) :
    Does P B ρ h w ((do pure (Next.value (← Instr.alloc e true (.tuple #[]))) : Sem Next).run P w) v h' := by
  obtain ⟨zv, h1, h2, h3⟩ := zcells_run hz
  have := s_ptr (cs' := z) t hB hr (all2_of_plain h3)
  have e1 : (Instr.alloc e true (.tuple #[])).run P w = .ok (.pointer (some ⟨w.heap.size, 0, none⟩)) { w with heap := w.heap.push (.cells ⟨z⟩ e) } := by
    simp [Instr.alloc, run_zeroT h1, newVar, newRow, ← h2]
  rw [ex_value, e1]; exact this
theorem s_box (t : WR P ρ h B w) (hB : B ≤ w.heap.size) {e : TypeId} {x v v' : Value} (hx : VR ρ x v') (hn : isTuple x = false) (hr : ptrE (newE P h (cellsL x) e) = some (v, h')) :
    Does P B ρ h w ((do pure (Next.value (← Instr.box e v')) : Sem Next).run P w) v h' := by
  have hc := hx.cells (isT_false hn)
  rw [cellsL_eq v'] at hc
  have := s_ptr (cs' := v'.cells.toList) t hB hr hc
  have e1 : (Instr.box e v').run P w = .ok (.pointer (some ⟨w.heap.size, 0, none⟩)) { w with heap := w.heap.push (.cells ⟨v'.cells.toList⟩ e) } := by
    simp [Instr.box, newVar, newRow]
  rw [ex_value, e1]; exact this
theorem s_build_struct (t : WR P ρ h B w) {ty : TypeId} {fs : Array Field} {vs : List (Nat × Value)} {vs' : Array (Nat × Value)} {z cs : List Value} {pl : List (Nat × Nat)} (hv : All2 (NV ρ) vs vs'.toList) (hz : zcells P ty = some z)
    (hu : P.underlying ty = some (.struct fs)) (hp : placesOf P fs = some pl) (hf : fillE (fun i => pl[i]?) z vs = some cs) :
    Does P B ρ h w ((do pure (Next.value (← Instr.build ty vs')) : Sem Next).run P w) (.agg ⟨cs⟩) h := by
  obtain ⟨zv, h1, h2, h3⟩ := zcells_run hz
  obtain ⟨cs', k1, k2⟩ := fillE_sound (cells' := zv.cells) (fun i => pl[i]?) hv (by rw [h2]; exact all2_of_plain h3) hf
  obtain ⟨it, hi⟩ := info_of_underlying hu
  have hzi : it.zero = some zv := by unfold zeroT at h1; simpa [hi] using h1
  have e1 : P.built ty vs'.toList = some cs' := by
    unfold Program.built
    simp only [hi, hu, hzi]
    have : fs.toList.mapM (fun f => (P.info? f.type).map fun i => (f.offset, i.size)) = some pl := hp
    rw [this]
    simp only
    have hpl : (fun i : Nat => pl.toArray[i]?) = fun i : Nat => pl[i]? := by funext i; simp
    rw [hpl]; exact k1
  rw [ex_value, run_build w ty vs' cs' e1]
  exact does_pure t rfl (.a (.agg k2))
theorem s_build_array (t : WR P ρ h B w) {ty e : TypeId} {m s : Nat} {vs : List (Nat × Value)} {vs' : Array (Nat × Value)} {z cs : List Value} (hv : All2 (NV ρ) vs vs'.toList) (hz : zcells P ty = some z)
    (hu : P.underlying ty = some (.array m e)) (hs : sizeT P e = some s) (hf : fillE (fun i => some (i * s, s)) z vs = some cs) :
    Does P B ρ h w ((do pure (Next.value (← Instr.build ty vs')) : Sem Next).run P w) (.agg ⟨cs⟩) h := by
  obtain ⟨zv, h1, h2, h3⟩ := zcells_run hz
  obtain ⟨cs', k1, k2⟩ := fillE_sound (cells' := zv.cells) (fun i => some (i * s, s)) hv (by rw [h2]; exact all2_of_plain h3) hf
  obtain ⟨it, hi⟩ := info_of_underlying hu
  obtain ⟨ie, hie, rfl⟩ := sizeT_info hs
  have hzi : it.zero = some zv := by unfold zeroT at h1; simpa [hi] using h1
  have e1 : P.built ty vs'.toList = some cs' := by
    unfold Program.built
    simp only [hi, hu, hzi, hie]
    exact k1
  rw [ex_value, run_build w ty vs' cs' e1]
  exact does_pure t rfl (.a (.agg k2))
theorem s_buildSlice (t : WR P ρ h B w) (hB : B ≤ w.heap.size) {ty e : TypeId} {m s : Nat} {vs : List (Nat × Value)} {vs' : Array (Nat × Value)} {z cs : List Value} {v : Value} (hv : All2 (NV ρ) vs vs'.toList)
    (hu : P.underlying ty = some (.slice e)) (hs : sizeT P e = some s) (hz : zcells P e = some z) (hzs : z.length = s) (hm : m * s ≤ 16777216) (hs0 : 0 < s)
    (hf : fillE (fun j => some (j * s, s)) (repL z m) vs = some cs) (hr : sliE (newE P h cs e) m (capE m true) = some (v, h')) :
    Does P B ρ h w ((do pure (Next.value (← Instr.buildSlice ty m vs')) : Sem Next).run P w) v h' := by
  obtain ⟨zv, h1, h2, h3⟩ := zcells_run hz
  have hzz : zv.cells.size = s := by rw [← hzs, ← h2]; simp
  have e00 : ((Array.range (m * s)).map fun i => (if m * s = 0 then #[] else zv.cells)[i % (if m * s = 0 then #[] else zv.cells).size]!).toList = repL z m := by
    by_cases h0 : m * s = 0
    · have : m = 0 := by
        rcases Nat.mul_eq_zero.1 h0 with h | h
        · exact h
        · omega
      subst this
      simp [repL]
    · simp only [h0, if_false]
      rw [← hzz, range_map_eq, h2]
  obtain ⟨cs', k1, k2⟩ := fillE_sound (cells' := (Array.range (m * s)).map fun i => (if m * s = 0 then #[] else zv.cells)[i % (if m * s = 0 then #[] else zv.cells).size]!) (fun j => some (j * s, s)) hv
    (by rw [e00]; exact all2_of_plain (repL_plain h3 m)) hf
  have hlen : cs'.size = m * s := by
    have hfl : ∀ (pl : Nat → Option (Nat × Nat)) (ps : List (Nat × Value)) (c c1 : Array Value), Instr.fill pl c ps = some c1 → c1.size = c.size := by
      intro pl ps
      induction ps with
      | nil => intro c c1 hh; simp only [Instr.fill, Option.some.injEq] at hh; rw [hh]
      | cons p ps ih =>
        intro c c1 hh
        simp only [Instr.fill] at hh
        split at hh
        · cases hh
        · split at hh
          · cases hh
          · rw [ih _ _ hh]
            have : ∀ (l : List (Value × Nat)) (o : Nat) (c : Array Value), (l.foldl (fun cs (q : Value × Nat) => cs.setIfInBounds (o + q.2) q.1) c).size = c.size := by
              intro l o; induction l with
              | nil => intro c; rfl
              | cons q l ih => intro c; simp only [List.foldl_cons]; rw [ih]; simp
            rw [← Array.foldl_toList]
            exact this _ _ _
    rw [hfl _ _ _ _ k1]; simp
  obtain ⟨ρ', r1, r2⟩ := s_sli (extra := []) (c' := m) (fr := (0, 0)) (dr := w.drawn) t hB hs hr k2 nofr (Nat.le_refl _) (by
    unfold capE
    cases m with
    | zero => simp
    | succ m => simp [Nat.beq]) (by simp [hlen])
  have e1 : (Instr.buildSlice ty m vs').run P w = .ok (.slice (some ⟨w.heap.size, 0, none⟩) m m) { w with heap := w.heap.push (.cells cs' e) } := by
    have hle : ¬ m * s > 2 ^ 24 := by omega
    by_cases h0 : m * s = 0
    · simp only [h0, if_true] at k1
      simp only [Instr.buildSlice, Sem.run_bind, run_underlying hu, Result.andThen_ok, run_sizeT hs, Sem.run_ite, h0, if_true, Sem.run_pure, k1, newRow, run_newObj]
      rfl
    · simp only [h0, if_false] at k1
      simp only [Instr.buildSlice, Sem.run_bind, run_underlying hu, Result.andThen_ok, run_sizeT hs, Sem.run_ite, hle, if_false, h0, Sem.run_pure, run_zeroT h1, k1, newRow, run_newObj]
  rw [ex_value, e1]
  simp only [List.append_nil] at r2
  exact does_value rfl r1 r2
theorem s_load (t : WR P ρ h B w) {ty : TypeId} {x y : Addr} (hA : AR ρ x y) {v : Value} (hv : loadE P ty h x = some v) : Does P B ρ h w ((do pure (Next.value (← Instr.loadAt ty (.pointer (some y)))) : Sem Next).run P w) v h := by
  obtain ⟨v', h1, h2⟩ := loadE_sound t hA hv
  rw [ex_value, h1]; exact does_pure t rfl h2
theorem layE_sound (t : WR P ρ h B w) {x y : Addr} (hA : AR ρ x y) {cs cs' : List Value} (hv : All2 (SV ρ) cs cs') (hl : layE h x cs = some h') :
    ∃ w', (storeCells y cs').run P w = .ok () w' ∧ Out P B ρ h w ρ h' w' := by
  unfold layE at hl
  cases hc : h.cells x with
  | none => simp [hc] at hl
  | some p =>
    obtain ⟨l, e⟩ := p
    simp only [hc] at hl
    cases hb : Nat.ble (x.off + cs.length) l.length with
    | false => simp [hb] at hl
    | true =>
      simp only [hb, cond_true, Option.some.injEq] at hl
      subst hl
      obtain ⟨L, c', fr', k⟩ := cells_of t hc hA
      exact k.store t hc (nble_e hb) hv
theorem s_store (t : WR P ρ h B w) {ty : TypeId} {x y : Addr} (hA : AR ρ x y) {v v' : Value} (hv : VR ρ v v') (hs : storeE P ty h x v = some h') :
    Does P B ρ h w ((do Instr.storeAt ty (.pointer (some y)) v'; pure Next.skip : Sem Next).run P w) (.tuple #[]) h' := by
  unfold storeE at hs
  cases hn : isTuple v with
  | true => simp [hn] at hs
  | false =>
    simp only [hn, cond_false] at hs
    cases hz : sizeT P ty with
    | none => simp [hz] at hs
    | some s =>
      simp only [hz] at hs
      cases hb : Nat.beq (cellsL v).length s with
      | false => simp [hb] at hs
      | true =>
        simp only [hb, cond_true] at hs
        have hc := hv.cells (isT_false hn)
        rw [cellsL_eq v'] at hc
        obtain ⟨w', h1, h2⟩ := layE_sound t hA hc hs
        have e1 : v'.cells.size = s := by
          have l1 := hc.length
          have l2 := nbeq_e hb
          rw [← l2, l1]; simp
        rw [ex_skip]
        have : (Instr.storeAt ty (.pointer (some y)) v').run P w = .ok () w' := by
          simp [Instr.storeAt, Instr.sureAddr, storeVar, run_sizeT hz, e1, h1]
        rw [this]
        exact does_skip rfl h2
end
end Go.Ev
namespace Go.Ev
open Go
section
variable {P : Program} {ρ ρ' : Ren} {B : Nat} {h h' : H} {w w' : World} {g : Tr Value} {n : Nat} {a : Act}

theorem VR.funcI {f : FuncId} {fi ca : Array Value} {v : Value} (h : VR ρ (.func (.func f) fi ca) v) : fi = #[] ∧ ∃ ca', v = .func (.func f) #[] ca' ∧ All2 (PV ρ) ca.toList ca'.toList := by
  cases h with
  | a h => cases h with
    | s h => cases h with
      | same h =>
        simp only [plainS, Bool.and_eq_true, List.isEmpty_iff] at h
        have h1 : fi = #[] := by simpa using h.1
        have h2 : ca = #[] := by simpa using h.2
        subst h1; subst h2
        exact ⟨rfl, #[], rfl, .nil⟩
      | func h => exact ⟨rfl, _, rfl, h⟩
theorem s_nilCheck (t : WR P ρ h B w) {x : Operand} {v : Value} (hv : VR ρ v (a.eval x)) (hk : (∃ y, v = .pointer (some y)) ∨ (∃ f b c, v = .func (.func f) b c)) {o : Oper} (ho : o.op = .nilCheck x) :
    Does P B ρ h w ((execOp a.eval o).run P w) v h := by
  rcases hk with ⟨y, rfl⟩ | ⟨f, b, c, rfl⟩
  · obtain ⟨z, e, hA⟩ := hv.ptr
    rw [e] at hv
    exact does_pure t (by simp [execOp, ho, e]) hv
  · obtain ⟨rfl, ca', e, _⟩ := hv.funcI
    rw [e] at hv
    exact does_pure t (by simp [execOp, ho, e]) hv
theorem eqGuard_other {op : BinOp} {ty : TypeId} {x y : Operand} {u v : Value} (h1 : u ≠ .nilIface) (h2 : ∀ cs, u ≠ .agg cs) : (eqGuard op ty x y u v).run P w = .ok () w := by
  unfold eqGuard
  cases op <;> simp <;> (cases u <;> first | (simp; done) | (exact absurd rfl h1) | (exact absurd rfl (h2 _)))
theorem equal_succ (ty : TypeId) (x y : Value) : Op.equal ty x y = Op.equalIn (9999 + 1) ty x y := rfl
section
variable {ty e k v : TypeId} (d : Nat)
theorem eq_sn (hd : P.underlying ty = some (.slice e)) (x : Addr) (l c : Nat) : (Op.equalIn (d + 1) ty (.slice (some x) l c) (.slice none 0 0)).run P w = .ok false w := by
  unfold Op.equalIn; simp [run_underlying hd]
theorem eq_ns (hd : P.underlying ty = some (.slice e)) (x : Addr) (l c : Nat) : (Op.equalIn (d + 1) ty (.slice none 0 0) (.slice (some x) l c)).run P w = .ok false w := by
  unfold Op.equalIn; simp [run_underlying hd]
theorem eq_mn (hd : P.underlying ty = some (.map k v)) (x : Nat) : (Op.equalIn (d + 1) ty (.map (some x)) (.map none)).run P w = .ok false w := by
  unfold Op.equalIn; simp [run_underlying hd]
theorem eq_nm (hd : P.underlying ty = some (.map k v)) (x : Nat) : (Op.equalIn (d + 1) ty (.map none) (.map (some x))).run P w = .ok false w := by
  unfold Op.equalIn; simp [run_underlying hd]
theorem eq_pn (hd : P.underlying ty = some (.pointer e)) (x : Addr) : (Op.equalIn (d + 1) ty (.pointer (some x)) (.pointer none)).run P w = .ok false w := by
  unfold Op.equalIn; simp [run_underlying hd]
theorem eq_np (hd : P.underlying ty = some (.pointer e)) (x : Addr) : (Op.equalIn (d + 1) ty (.pointer none) (.pointer (some x))).run P w = .ok false w := by
  unfold Op.equalIn; simp [run_underlying hd]
end
theorem s_nilCmp {d : TypeDesc} {ty : TypeId} {u v u' v' : Value} {r : Bool} (hd : P.underlying ty = some d) (hu : VR ρ u u') (hv : VR ρ v v') (hr : nilCmp d u v = some r) :
    (Op.equal ty u' v').run P w = .ok r w ∧ u' ≠ .nilIface ∧ (∀ cs, u' ≠ .agg cs) := by
  unfold nilCmp at hr
  split at hr
  · rename_i e x l c l2 c2
    cases hb : Nat.beq c2 0 with
    | false => simp [hb] at hr
    | true =>
      simp only [hb, cond_true, Option.some.injEq] at hr
      subst hr
      rcases hu.sliceI with ⟨h, _⟩ | ⟨h, _⟩ | ⟨x1, y1, c1, _, rfl, _⟩
      · cases h
      · cases h
      · rcases hv.sliceI with ⟨_, _, _, rfl⟩ | ⟨_, _, h, _⟩ | ⟨_, _, _, h, _⟩
        · exact ⟨eq_sn _ hd _ _ _, by simp, by simp⟩
        · rw [h] at hb; cases hb
        · cases h
  · rename_i e l c x l2 c2
    cases hb : Nat.beq c 0 with
    | false => simp [hb] at hr
    | true =>
      simp only [hb, cond_true, Option.some.injEq] at hr
      subst hr
      rcases hv.sliceI with ⟨h, _⟩ | ⟨h, _⟩ | ⟨x1, y1, c1, _, rfl, _⟩
      · cases h
      · cases h
      · rcases hu.sliceI with ⟨_, _, _, rfl⟩ | ⟨_, _, h, _⟩ | ⟨_, _, _, h, _⟩
        · exact ⟨eq_ns _ hd _ _ _, by simp, by simp⟩
        · rw [h] at hb; cases hb
        · cases h
  · cases hr
    obtain ⟨L, rfl, _⟩ := hu.mapS
    obtain rfl := hv.mapN
    exact ⟨eq_mn _ hd _, by simp, by simp⟩
  · cases hr
    obtain ⟨L, rfl, _⟩ := hv.mapS
    obtain rfl := hu.mapN
    exact ⟨eq_nm _ hd _, by simp, by simp⟩
  · cases hr
    obtain ⟨y, rfl, _⟩ := hu.ptr
    obtain rfl : v' = .pointer none := (hv.plain rfl).symm
    exact ⟨eq_pn _ hd _, by simp, by simp⟩
  · cases hr
    obtain ⟨y, rfl, _⟩ := hv.ptr
    obtain rfl : u' = .pointer none := (hu.plain rfl).symm
    exact ⟨eq_np _ hd _, by simp, by simp⟩
  · cases hr
theorem nilCmp_binOp {d : TypeDesc} {ty : TypeId} {u v u' v' : Value} {r : Bool} (hu : VR ρ u u') (hv : VR ρ v v') (hr : nilCmp d u v = some r) :
    (binOp .eql ty u' v' = do pure (.bool (← Op.equal ty u' v'))) ∧ (binOp .neq ty u' v' = do pure (.bool (!(← Op.equal ty u' v')))) := by
  unfold nilCmp at hr
  split at hr
  · rcases hu.sliceI with ⟨h, _⟩ | ⟨h, _⟩ | ⟨x1, y1, c1, _, rfl, _⟩
    · cases h
    · cases h
    · rcases hv.sliceI with ⟨_, _, _, rfl⟩ | ⟨_, _, h, b', c', rfl⟩ | ⟨_, _, _, h, _⟩ <;> exact ⟨rfl, rfl⟩
  · rcases hv.sliceI with ⟨h, _⟩ | ⟨h, _⟩ | ⟨x1, y1, c1, _, rfl, _⟩
    · cases h
    · cases h
    · rcases hu.sliceI with ⟨_, _, _, rfl⟩ | ⟨_, _, h, b', c', rfl⟩ | ⟨_, _, _, h, _⟩ <;> first | exact ⟨rfl, rfl⟩ | cases h
  · obtain ⟨L, rfl, _⟩ := hu.mapS
    obtain rfl := hv.mapN
    exact ⟨rfl, rfl⟩
  · obtain ⟨L, rfl, _⟩ := hv.mapS
    obtain rfl := hu.mapN
    exact ⟨rfl, rfl⟩
  · obtain ⟨y, rfl, _⟩ := hu.ptr
    obtain rfl : v' = .pointer none := (hv.plain rfl).symm
    exact ⟨rfl, rfl⟩
  · obtain ⟨y, rfl, _⟩ := hv.ptr
    obtain rfl : u' = .pointer none := (hu.plain rfl).symm
    exact ⟨rfl, rfl⟩
  · cases hr
theorem s_bin (t : WR P ρ h B w) {op : BinOp} {ty yt : TypeId} {x y : Operand} {u v r : Value} (hu : VR ρ u (a.eval x)) (hv : VR ρ v (a.eval y)) (hr : binE P op ty x y u v = some r)
    {o : Oper} (ho : o.op = .binOp op ty x y yt) : Does P B ρ h w ((execOp a.eval o).run P w) r h := by
  unfold binE at hr
  cases hb : (plainV u && plainV v) with
  | true =>
    simp only [hb, cond_true] at hr
    obtain ⟨h1, h2⟩ := plV_some hr
    simp only [Bool.and_eq_true] at hb
    have e1 := hu.plain hb.1
    have e2 := hv.plain hb.2
    refine does_pure t (v' := r) ?_ (.of_plain h2)
    have e3 := prun_run h1 w
    simp only [execOp, ho]
    rw [← e1, ← e2, ex_value, e3]; rfl
  | false =>
    simp only [hb, cond_false] at hr
    split at hr
    · rename_i d hd
      cases hn : nilCmp d u v with
      | none => simp [hn] at hr
      | some q =>
        simp only [hn, Option.map_some, Option.some.injEq] at hr
        subst hr
        obtain ⟨k1, k2, k3⟩ := s_nilCmp (w := w) hd hu hv hn
        obtain ⟨k4, k5⟩ := nilCmp_binOp (ty := ty) hu hv hn
        refine does_pure t (v' := .bool q) ?_ (.of_plain rfl)
        simp only [execOp, ho]
        rw [ex_value]
        simp [eqGuard_other k2 k3, k4, k1]
    · rename_i d hd
      cases hn : nilCmp d u v with
      | none => simp [hn] at hr
      | some q =>
        simp only [hn, Option.map_some, Option.some.injEq] at hr
        subst hr
        obtain ⟨k1, k2, k3⟩ := s_nilCmp (w := w) hd hu hv hn
        obtain ⟨k4, k5⟩ := nilCmp_binOp (ty := ty) hu hv hn
        refine does_pure t (v' := .bool !q) ?_ (.of_plain rfl)
        simp only [execOp, ho]
        rw [ex_value]
        simp [eqGuard_other k2 k3, k5, k1]
    · cases hr
theorem s_unOp (t : WR P ρ h B w) {op : UnOp} {ty : TypeId} {x : Operand} {u r : Value} (hu : VR ρ u (a.eval x)) (hp : plainV u = true) (hr : prun P (Op.unary op u) = some r) (h2 : plainV r = true)
    {o : Oper} (ho : o.op = .unOp op ty x) : Does P B ρ h w ((execOp a.eval o).run P w) r h := by
  have e1 := hu.plain hp
  refine does_pure t (v' := r) ?_ (.of_plain h2)
  simp only [execOp, ho]
  rw [← e1, ex_value, prun_run hr w]; rfl
theorem strBytes_eq (s : ByteArray) : (s.data.map fun b : UInt8 => Value.int .u8 b.toNat).toList = strBytes s := by simp [strBytes]
theorem strBytes_plain (s : ByteArray) : (strBytes s).all plainS = true := by
  rw [List.all_eq_true]
  intro x hx
  simp only [strBytes, List.mem_map] at hx
  obtain ⟨b, _, rfl⟩ := hx
  rfl
theorem strBytes_length (s : ByteArray) : (strBytes s).length = s.size := by simp [strBytes]
theorem s_conv (t : WR P ρ h B w) (hB : B ≤ w.heap.size) {sT dT : TypeId} {x : Operand} {u r : Value} (hu : VR ρ u (a.eval x)) (hr : convE P sT dT h u = some (r, h'))
    {o : Oper} (ho : o.op = .convert sT dT x) : Does P B ρ h w ((execOp a.eval o).run P w) r h' := by
  unfold convE at hr
  cases hp : plainV u with
  | false => simp [hp] at hr
  | true =>
    simp only [hp, cond_true] at hr
    have e1 := hu.plain hp
    simp only [execOp, ho]
    rw [ex_value, ← e1]
    split at hr
    · rename_i e st hs hd
      split at hr
      · rename_i he
        cases hb : (Nat.blt st.size 4294967296 && (sizeT P e == some 1)) with
        | false => simp [hb] at hr
        | true =>
          simp only [hb, cond_true] at hr
          simp only [Bool.and_eq_true, beq_iff_eq] at hb
          have hlt := nblt_e hb.1
          have hes := hb.2
          let cap : Nat := (Question.appendCap st.size 0 e).cut (w.tape w.drawn (.appendCap st.size 0 e))
          have hcap : st.size ≤ cap := by simp only [cap, Question.cut]; omega
          let extra : List Value := List.replicate (cap - st.size) (.int .u8 0)
          have hlen : (strBytes st ++ extra).length = cap := by simp [strBytes_length, extra]; omega
          obtain ⟨ρ', r1, r2⟩ := s_sli (extra := extra) (c' := cap) (fr := (cap, cap + 1)) (dr := w.drawn + 1) t hB hes hr (all2_of_plain (strBytes_plain st))
            (fun i hi => by rw [hlen] at hi; simp; omega) hcap (by simp) (by rw [hlen]; omega)
          refine does_value (v' := .slice (some ⟨w.heap.size, 0, none⟩) st.size cap) ?_ r1 r2
          have harr : (st.data.map fun b : UInt8 => Value.int .u8 b.toNat) ++ Array.replicate (cap - st.size) (.int .u8 0) = ⟨strBytes st ++ extra⟩ := by
            apply Array.ext'
            simp [strBytes, extra]
          have hfz : ∀ (x : Obj), ({ w with heap := w.heap.push x, drawn := w.drawn + 1 } : World).heap[w.heap.size]? = some x := fun x => by simp
          have : (convert sT dT (.string st)).run P w = .ok (.slice (some ⟨w.heap.size, 0, none⟩) st.size cap) { w with heap := w.heap.push (.cells ⟨strBytes st ++ extra⟩ e (cap, cap + 1)), drawn := w.drawn + 1 } := by
            simp only [convert, Sem.run_bind, run_underlying hs, run_underlying hd, run_underlying he, Result.andThen_ok, Conv.stringToBytes, run_choose, Question.forced, Bool.false_eq_true, if_false, newRow, run_newObj, Sem.run_pure, markStringish, run_shape]
            have e5 : (Question.appendCap st.size 0 e).cut (w.tape w.drawn (.appendCap st.size 0 e)) = cap := rfl
            rw [e5, harr]
            simp only [World.shape?, hfz, run_freeze, Result.andThen_ok]
            congr 1
            simp only [World.freeze]
            rw [if_neg (by omega)]
            congr 1
            apply Array.ext'
            apply List.ext_getElem?
            intro j
            simp only [Array.getElem?_toList, Array.getElem?_modify, Array.getElem?_push]
            by_cases hj : w.heap.size = j
            · subst hj; simp [hlen]
            · rw [if_neg hj, if_neg (fun e => hj e.symm), if_neg (fun e => hj e.symm)]
          rw [this]; rfl
      · cases hr
    · simp only [Option.map_eq_some_iff] at hr
      obtain ⟨q, hq, he⟩ := hr
      cases he
      obtain ⟨h1, h2⟩ := plV_some hq
      rw [prun_run h1 w]
      exact does_pure t rfl (.of_plain h2)
theorem capOk_sound {v v' : Value} (hc : capOk v = true) (hv : VR ρ v v') : PV ρ v v' := by
  unfold capOk at hc
  split at hc
  · obtain ⟨y, rfl, h⟩ := hv.ptr; exact .ptr h
  · have := hv.plain (plainV_of_S hc); rw [← this]; exact .same hc
theorem s_makeFunc (t : WR P ρ h B w) {f : FuncId} {first cap : Array Operand} {vs : List Value} (hf : first.toList.isEmpty = true) (hv : All2 (VR ρ) vs (cap.toList.map a.eval)) (hc : vs.all capOk = true)
    {o : Oper} (ho : o.op = .makeFunc (.func f) first cap) : Does P B ρ h w ((execOp a.eval o).run P w) (.func (.func f) #[] ⟨vs⟩) h := by
  have h0 : first = #[] := by simpa using hf
  subst h0
  refine does_pure t (v' := .func (.func f) #[] (cap.map a.eval)) (by simp [execOp, ho, Instr.makeFunc]) (.s (.func ?_))
  simp only [Array.toList_map]
  clear ho t
  generalize cap.toList.map a.eval = ws at hv
  induction hv with
  | nil => exact .nil
  | cons h0 _ ih =>
    simp only [List.all_cons, Bool.and_eq_true] at hc
    exact .cons (capOk_sound hc.1 h0) (ih hc.2)
theorem s_newObj (t : WR P ρ h B w) (hB : B ≤ w.heap.size) {o : AObj} {ob : Obj} (ho : ∀ L : Loc, L.delta = 0 → OR P ρ L o ob) :
    ∃ ρ' L, ρ' h.next = some L ∧ L.block = w.heap.size ∧ L.delta = 0 ∧ (h.new o).1 = h.next ∧ Out P B ρ h w ρ' (h.new o).2 { w with heap := w.heap.push ob } :=
  ⟨upd ρ h.next ⟨w.heap.size, 0, 0, 0⟩, ⟨w.heap.size, 0, 0, 0⟩, by simp [upd], rfl, rfl, by rw [new_eq], out_new t hB rfl (ho _ rfl) rfl⟩
theorem s_makeMap (t : WR P ρ h B w) (hB : B ≤ w.heap.size) {ty : TypeId} : Does P B ρ h w ((do pure (Next.value (← Instr.makeMap ty none)) : Sem Next).run P w) (newMapE (h.new (.o (.map #[] 0)))).1 (newMapE (h.new (.o (.map #[] 0)))).2 := by
  obtain ⟨ρ', L, h1, h2, h3, h4, h5⟩ := s_newObj (o := .o (.map #[] 0)) (ob := .map #[] 0) t hB (fun L _ => .map .nil)
  refine does_value (v' := .map (some w.heap.size)) (by simp [Instr.makeMap]) ?_ h5
  simp only [newMapE, h4, ← h2]
  exact .s (.map h1)
end
end Go.Ev
