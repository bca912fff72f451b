/- The engine, first half: an evaluator of a program over a heap of its own, and that each step of the program is as it says. No conditions. -/
import Derived.Laws.IdiomCopy
import Derived.Laws.Entries
import Derived.Orders
import Derived.Below
import Derived.Laws.Tables
import Derived.Laws.BytesArg
import Derived.Tactics
set_option linter.unusedVariables false
set_option linter.unusedSimpArgs false
section
/- The engine: an executable evaluator of the translated code over a heap of lists. Definitions alone. -/
namespace Go.Eng

/-- What lies in one cell. -/
inductive CV where
  | bool (b : Bool)
  | int (k : IntKind) (n : Int)
  | str (s : ByteArray)
  | nil
  | em
  | sl (i off len sz : Nat)
  | sn (i off len sz : Nat)
  | ptr (i off : Nat)
  | fn (f : Fn) (first captured : List CV)
  deriving Inhabited

inductive AV where
  | c (v : CV)
  | agg (cs : List CV)
  | tup (vs : List AV)
  | np
  deriving Inhabited

def AV.cells : AV → List CV
  | .agg cs => cs
  | .c v => [v]
  | .tup _ => []
  | .np => []

/-- Is it no tuple? -/
def AV.one : AV → Bool
  | .tup _ => false
  | .np => false
  | _ => true

def AV.cell : AV → Option CV
  | .c v => some v
  | _ => none

/-- An object of the heap. -/
inductive AO where
  | ints (k : IntKind) (l : List Int)
  | vals (l : List CV)
  | dead
  deriving Inhabited

def AO.cells : AO → List CV
  | .ints k l => l.map (.int k)
  | .vals l => l
  | .dead => []

abbrev AH := List AO
abbrev Env := List (Nat × Option AV)

/-- What a call leaves (no: it is not carried out): with a list of kinds its result is packed; else as it is, with the heap cut back where nothing new is told (drop) or whole. -/
inductive PM where
  | whole | drop | pack (ks : List IntKind) | no

/-- How an append is held: as it is; as one to what is fresh; as one that may go ahead of a literal. -/
inductive AK where
  | no | pure | late
  deriving DecidableEq

structure Cfg where
  pure : FuncId → Bool
  keep : FuncId → Nat → List Nat
  pack : FuncId → PM
  clone : FuncId → Option IntKind
  glob : Nat → Option CV
  rounds : Nat
  wary : FuncId → Nat → Bool
  emt : TypeId → Bool
  papp : Array Operand → AK
  ord : FuncId → Nat → Option (List Nat)

def ofC : Value → Option CV
  | .bool b => some (.bool b)
  | .int k n => some (.int k n)
  | .string s => some (.str s)
  | .slice none 0 0 => some .nil
  | _ => none

def ofCs : List Value → Option (List CV)
  | [] => some []
  | v :: r => (ofC v).bind fun x => (ofCs r).map fun l => x :: l

def ofV : Value → Option AV
  | .agg cs => (ofCs cs.toList).map .agg
  | v => (ofC v).map .c

/-- A constant: the nil pointer too. -/
def ofK : Value → Option AV
  | .pointer none => some .np
  | v => ofV v

def get : Env → Nat → Option AV
  | [], _ => none
  | (k, v) :: r, t => if k = t then v else get r t

def put (dst : Option Nat) (v : AV) (e : Env) : Env :=
  match dst with
  | some d => (d, some v) :: e
  | none => e

def keepOnly : List Nat → Env → Env
  | [], _ => []
  | t :: r, e => (t, get e t) :: keepOnly r e

def ev (c : Cfg) (e : Env) : Operand → Option AV
  | .tmp t => get e t
  | .const v => ofK v
  | .func f => some (.c (.fn (.func f) [] []))
  | .global g => (c.glob g).map .c

def evC (c : Cfg) (e : Env) (x : Operand) : Option CV := (ev c e x).bind AV.cell

def evs (c : Cfg) (e : Env) : List Operand → Option (List AV)
  | [] => some []
  | x :: r => (ev c e x).bind fun v => (evs c e r).map fun l => v :: l

def evCs (c : Cfg) (e : Env) : List Operand → Option (List CV)
  | [] => some []
  | x :: r => (evC c e x).bind fun v => (evCs c e r).map fun l => v :: l

/-! ### the heap -/

def AO.sub : AO → Nat → Nat → Option AO
  | .ints k l, off, n => if off + n ≤ l.length then some (.ints k ((l.drop off).take n)) else none
  | .vals l, off, n => if off + n ≤ l.length then some (.vals ((l.drop off).take n)) else none
  | .dead, _, _ => none

def AO.cat : AO → AO → Option AO
  | .ints k a, .ints k' b => if k = k' then some (.ints k (a ++ b)) else none
  | .vals a, .vals b => some (.vals (a ++ b))
  | _, _ => none

def toInts (k : IntKind) : List CV → Option (List Int)
  | [] => some []
  | .int k' n :: r => if k = k' then (toInts k r).map fun l => n :: l else none
  | _ :: _ => none

/-- An object of these cells: of whole numbers, where the element's kind says so. -/
def mkO (ko : Option IntKind) (cs : List CV) : Option AO :=
  match ko with
  | some k => (toInts k cs).map fun l => .ints k l
  | none => some (.vals cs)

def ld (h : AH) (i off : Nat) : Option CV :=
  match h[i]? with
  | some (.ints k l) => (l[off]?).map (.int k)
  | some (.vals l) => l[off]?
  | _ => none

def AO.set1 : AO → Nat → CV → Option AO
  | .ints k l, off, .int k' n => if k = k' ∧ off < l.length then some (.ints k (l.set off n)) else none
  | .vals l, off, v => if off < l.length then some (.vals (l.set off v)) else none
  | _, _, _ => none

def AO.sets (x : AO) (off : Nat) : List CV → Option AO
  | [] => some x
  | v :: r => (x.set1 off v).bind fun y => y.sets (off + 1) r

/-! ### types -/

def kindOf (P : Program) (t : TypeId) : Option IntKind :=
  match P.underlying t with
  | some (.int k) => some k
  | _ => none

def aggT (P : Program) (t : TypeId) : Option Bool :=
  match P.underlying t with
  | some (.struct _) | some (.array _ _) => some true
  | some _ => some false
  | none => none

def elemS (P : Program) (t : TypeId) : Option TypeId :=
  match P.underlying t with
  | some (.slice e) => some e
  | _ => none

def sizeT (P : Program) (t : TypeId) : Option Nat := (P.info? t).map (·.size)
def bytesT (P : Program) (t : TypeId) : Option Nat := (P.info? t).map (·.bytes)
def zeroT (P : Program) (t : TypeId) : Option AV := ((P.info? t).bind (·.zero)).bind ofV

/-! ### operations -/

def setAll (cs : List CV) (off : Nat) : List CV → List CV
  | [] => cs
  | v :: r => setAll (cs.set off v) (off + 1) r

def fillA (place : Nat → Option (Nat × Nat)) (cs : List CV) : List (Nat × AV) → Option (List CV)
  | [] => some cs
  | (i, v) :: r => (place i).bind fun p => if v.one = true ∧ v.cells.length = p.2 ∧ p.1 + p.2 ≤ cs.length then fillA place (setAll cs p.1 v.cells) r else none

def evParts (c : Cfg) (e : Env) : List (Nat × Operand) → Option (List (Nat × AV))
  | [] => some []
  | (i, x) :: r => (ev c e x).bind fun v => (evParts c e r).map fun l => (i, v) :: l

def placesT (P : Program) : List Field → Option (List (Nat × Nat))
  | [] => some []
  | f :: r => (sizeT P f.type).bind fun s => (placesT P r).map fun l => (f.offset, s) :: l

def placesB (P : Program) (t : TypeId) : Option (List (Nat × Nat)) :=
  match P.underlying t with
  | some (.struct fs) => placesT P fs.toList
  | _ => none

def buildA (P : Program) (t : TypeId) (parts : List (Nat × AV)) : Option AV :=
  (zeroT P t).bind fun z => (placesB P t).bind fun ps => (fillA (ps[·]?) z.cells parts).map .agg

def reps (n : Nat) (cs : List CV) : List CV := (List.replicate n cs).flatten

/-- n elements that are zero. -/
def zerosO (P : Program) (elem : TypeId) (n : Nat) : Option AO :=
  match kindOf P elem with
  | some k => (zeroT P elem).bind fun z => match z with
    | .c (.int k' m) => if k = k' ∧ m = 0 then some (.ints k (List.replicate n 0)) else none
    | _ => none
  | none => (zeroT P elem).map fun z => .vals (reps n z.cells)

def buildSliceA (P : Program) (em : Bool) (t : TypeId) (len : Nat) (parts : List (Nat × AV)) (h : AH) : Option (CV × AH) :=
  (elemS P t).bind fun el => (sizeT P el).bind fun s => (zeroT P el).bind fun z =>
    if len * s ≤ 16777216 ∧ z.cells.length = s then
      (fillA (fun i => some (i * s, s)) (reps len z.cells) parts).bind fun cs => (mkO (kindOf P el) cs).map fun o => (if em = true ∧ len = 0 then .em else .sl h.length 0 len s, h ++ [o])
    else none

def loadA (P : Program) (t : TypeId) (h : AH) (i off : Nat) : Option AV :=
  match aggT P t with
  | some true => (sizeT P t).bind fun s => (h[i]?).bind fun o => (o.sub off s).map fun x => .agg x.cells
  | some false => (ld h i off).map .c
  | none => none

def storeA (P : Program) (t : TypeId) (fl : Nat) (h : AH) (i off : Nat) (v : AV) : Option AH :=
  if fl ≤ i then (sizeT P t).bind fun s => if v.one = true ∧ v.cells.length = s then (h[i]?).bind fun o => (o.sets off v.cells).map fun x => h.set i x else none else none

def binA (op : BinOp) (x y : CV) : Option CV :=
  match x, y with
  | .int k a, .int k' b =>
    match op with
    | .shl => if b < 0 then none else some (.int k (k.wrap (a * 2 ^ (min b.toNat k.bits))))
    | .shr => if b < 0 then none else some (.int k (a.fdiv (2 ^ (min b.toNat k.bits))))
    | .add => if k = k' then some (.int k (k.wrap (a + b))) else none
    | .sub => if k = k' then some (.int k (k.wrap (a - b))) else none
    | .mul => if k = k' then some (.int k (k.wrap (a * b))) else none
    | .quo => if k = k' then (if b = 0 then none else some (.int k (k.wrap (a.tdiv b)))) else none
    | .rem => if k = k' then (if b = 0 then none else some (.int k (a.tmod b))) else none
    | .and => if k = k' then some (.int k (k.wrap (BitVec.ofInt k.bits a &&& BitVec.ofInt k.bits b).toNat)) else none
    | .or => if k = k' then some (.int k (k.wrap (BitVec.ofInt k.bits a ||| BitVec.ofInt k.bits b).toNat)) else none
    | .xor => if k = k' then some (.int k (k.wrap (BitVec.ofInt k.bits a ^^^ BitVec.ofInt k.bits b).toNat)) else none
    | .andNot => if k = k' then some (.int k (k.wrap (BitVec.ofInt k.bits a &&& ~~~ BitVec.ofInt k.bits b).toNat)) else none
    | .eql => if k = k' then some (.bool (a == b)) else none
    | .neq => if k = k' then some (.bool (a != b)) else none
    | .lss => if k = k' then some (.bool (decide (a < b))) else none
    | .leq => if k = k' then some (.bool (decide (a ≤ b))) else none
    | .gtr => if k = k' then some (.bool (decide (a > b))) else none
    | .geq => if k = k' then some (.bool (decide (a ≥ b))) else none
  | .str a, .str b =>
    match op with
    | .eql => some (.bool (a.toList == b.toList))
    | .neq => some (.bool (!(a.toList == b.toList)))
    | _ => none
  | _, _ => none

/-- == and != of bools and of slices with nil. -/
def eqA (P : Program) (t : TypeId) (op : BinOp) (x y : CV) : Option CV :=
  match op, P.underlying t, x, y with
  | .eql, some .bool, .bool a, .bool b => some (.bool (a == b))
  | .neq, some .bool, .bool a, .bool b => some (.bool (!(a == b)))
  | .eql, some (.slice _), .nil, .nil => some (.bool true)
  | .neq, some (.slice _), .nil, .nil => some (.bool false)
  | .eql, some (.slice _), .sn _ _ _ _, .nil => some (.bool false)
  | .neq, some (.slice _), .sn _ _ _ _, .nil => some (.bool true)
  | .eql, some (.slice _), .sl _ _ len _, .nil => if 0 < len then some (.bool false) else none
  | .neq, some (.slice _), .sl _ _ len _, .nil => if 0 < len then some (.bool true) else none
  | _, _, _, _ => none

def binE (P : Program) (op : BinOp) (t : TypeId) (x y : CV) : Option CV :=
  match x, y with
  | .int _ _, .int _ _ => binA op x y
  | .str _, .str _ => binA op x y
  | _, _ => eqA P t op x y

def unA (op : UnOp) (x : CV) : Option CV :=
  match op, x with
  | .neg, .int k n => some (.int k (k.wrap (0 - n)))
  | .not, .bool b => some (.bool (!b))
  | _, _ => none

def bytesO (s : ByteArray) : AO := .ints .u8 (s.data.toList.map fun b => (b.toNat : Int))

/-- The cells that a slice or a string has, of elements of size cells. -/
def srcO (ko : Option IntKind) (size : Nat) (h : AH) (x : CV) : Option (AO × Nat) :=
  match x with
  | .nil => (mkO ko []).map fun o => (o, 0)
  | .sl j off n sz => if sz = size then (h[j]?).bind fun o => (o.sub off (n * sz)).map fun y => (y, n) else none
  | .sn j off n sz => if sz = size then (h[j]?).bind fun o => (o.sub off (n * sz)).map fun y => (y, n) else none
  | .str s => if size = 1 then some (bytesO s, s.size) else none
  | _ => none

def CV.notStr : CV → Bool
  | .str _ => false
  | _ => true

def convA (P : Program) (src dst : TypeId) (x : CV) (h : AH) : Option (CV × AH) :=
  match P.underlying src, P.underlying dst, x with
  | some (.int _), some (.int k), .int _ n => some (.int k (k.wrap n), h)
  | some .string, some .string, .str s => some (.str s, h)
  | some .string, some (.slice e), .str s => if kindOf P e = some .u8 then some (.sl h.length 0 s.size 1, h ++ [bytesO s]) else none
  | some (.slice e), some .string, x => if kindOf P e = some .u8 ∧ x.notStr = true then
      (srcO (some .u8) 1 h x).bind fun o => match o.1 with
        | .ints .u8 l => some (.str ⟨(l.map fun n => UInt8.ofNat n.toNat).toArray⟩, h)
        | _ => none
    else none
  | _, _, _ => none

def liveB (h : AH) (i : Nat) : Bool := match h[i]? with
  | some .dead => false
  | some _ => true
  | none => false
/-- A slice of bytes that is converted to its own type: nothing but a mark. -/
def convS (P : Program) (fl : Nat) (src dst : TypeId) (x : CV) (h : AH) : Option (CV × AH) :=
  match P.underlying src, P.underlying dst, x with
  | some (.slice _), some (.slice e), .sl i off n sz => if src = dst ∧ kindOf P e = some .u8 ∧ 0 < n ∧ fl ≤ i ∧ liveB h i = true then some (.sl i off n sz, h) else none
  | _, _, _ => none
def convB (P : Program) (fl : Nat) (src dst : TypeId) (x : CV) (h : AH) : Option (CV × AH) := match convA P src dst x h with
  | some r => some r
  | none => convS P fl src dst x h

def makeSliceA (P : Program) (t : TypeId) (l c : CV) (h : AH) : Option (CV × AH) :=
  match l, c with
  | .int .i64 l, .int .i64 c => (elemS P t).bind fun el => (sizeT P el).bind fun s => (bytesT P el).bind fun b =>
      if 0 ≤ l ∧ l ≤ c ∧ c ≤ 140737488355328 ∧ c * b ≤ 140737488355328 then (zerosO P el l.toNat).bind fun o => if o.cells.length = l.toNat * s then some (.sl h.length 0 l.toNat s, h ++ [o]) else none else none
  | _, _ => none

def bound (x : Option CV) (d : Nat) : Option Int :=
  match x with
  | none => some d
  | some (.int _ n) => some n
  | _ => none

def sliceA (P : Program) (t : TypeId) (x : CV) (lo hi mx : Option CV) : Option CV :=
  match mx, x with
  | none, .sl i off len sz => (elemS P t).bind fun el => (sizeT P el).bind fun s => (bound lo 0).bind fun l => (bound hi len).bind fun u =>
      if s = sz ∧ 0 ≤ l ∧ l ≤ u ∧ u ≤ len then some (.sl i (off + l.toNat * sz) (u - l).toNat sz) else none
  | none, .nil => (elemS P t).bind fun el => (sizeT P el).bind fun _ => (bound lo 0).bind fun l => (bound hi 0).bind fun u => if l = 0 ∧ u = 0 then some .nil else none
  | none, .str s => if P.underlying t matches some .string then (bound lo 0).bind fun l => (bound hi s.size).bind fun u =>
      if 0 ≤ l ∧ l ≤ u ∧ u ≤ s.size then some (.str (s.extract l.toNat u.toNat)) else none else none
  | _, _ => none

def fieldOf (P : Program) (t : TypeId) (f : Nat) : Option (Nat × Nat × Bool) :=
  match P.underlying t with
  | some (.struct fs) => (fs[f]?).bind fun x => (sizeT P x.type).bind fun s => (aggT P x.type).map fun a => (x.offset, s, a)
  | _ => none

def fieldAddrA (P : Program) (t : TypeId) (x : CV) (f : Nat) : Option CV :=
  match x with
  | .ptr i off => (fieldOf P t f).bind fun p => if 0 < p.2.1 then some (.ptr i (off + p.1)) else none
  | _ => none

def fieldA (P : Program) (t : TypeId) (x : AV) (f : Nat) : Option AV :=
  match x with
  | .agg cs => (fieldOf P t f).bind fun p => if p.2.2 then (if p.1 + p.2.1 ≤ cs.length then some (.agg ((cs.drop p.1).take p.2.1)) else none) else (cs[p.1]?).map .c
  | _ => none

def indexAddrA (P : Program) (t : TypeId) (x ix : CV) : Option CV :=
  match ix with
  | .int _ n =>
    match x with
    | .sl i off len sz => (elemS P t).bind fun el => (sizeT P el).bind fun s => if s = sz ∧ 0 ≤ n ∧ n < len then some (.ptr i (off + n.toNat * sz)) else none
    | .ptr i off => match P.underlying t with
      | some (.array len el) => (sizeT P el).bind fun s => if 0 ≤ n ∧ n < len then some (.ptr i (off + n.toNat * s)) else none
      | _ => none
    | _ => none
  | _ => none

def indexA (P : Program) (t : TypeId) (x ix : CV) : Option CV :=
  match ix, x with
  | .int _ n, .str s => if P.underlying t matches some .string then (if 0 ≤ n ∧ n < s.size then some (.int .u8 ((s.data.getD n.toNat 0).toNat : Int)) else none) else none
  | _, _ => none

def extractA (x : AV) (i : Nat) : Option AV :=
  match x with
  | .tup vs => vs[i]?
  | _ => none

def lenA (P : Program) (t : TypeId) (x : CV) : Option CV :=
  match P.underlying t, x with
  | some .string, .str s => some (.int .i64 s.size)
  | some (.slice _), .nil => some (.int .i64 0)
  | some (.slice _), .sl _ _ n _ => some (.int .i64 n)
  | some (.slice _), .sn _ _ n _ => some (.int .i64 n)
  | _, _ => none

/-- Are zeros appended? -/
def zerosT (P : Program) : Option TypeId → Option Bool
  | none => some false
  | some t => match P.underlying t with
    | some (.int _) => some true
    | some _ => some false
    | none => none

/-- What is appended. -/
def newO (P : Program) (el : TypeId) (size : Nat) (zs : Bool) (h : AH) (x : CV) : Option (AO × Nat) :=
  if zs then match x with
    | .int .i64 n => if 0 ≤ n ∧ n ≤ 140737488355328 then (zerosO P el n.toNat).bind fun o => if o.cells.length = n.toNat * size then some (o, n.toNat) else none else none
    | _ => none
  else srcO (kindOf P el) size h x

/-- What it is appended to: it is no more to be used. -/
def oldO (P : Program) (el : TypeId) (size fl : Nat) (h : AH) (s : CV) : Option (AO × Nat × AH) :=
  match s with
  | .nil => (mkO (kindOf P el) []).map fun o => (o, 0, h)
  | .em => (mkO (kindOf P el) []).map fun o => (o, 0, h)
  | .sl i off len sz => if fl ≤ i ∧ sz = size then (h[i]?).bind fun o => (o.sub off (len * sz)).map fun y => (y, len, h.set i .dead) else none
  | _ => none

def appendA (P : Program) (fl : Nat) (sT : TypeId) (xT : Option TypeId) (s x : CV) (h : AH) : Option (CV × AH) :=
  (elemS P sT).bind fun el => (sizeT P el).bind fun size => (bytesT P el).bind fun b => (zeroT P el).bind fun z => (zerosT P xT).bind fun zs =>
    (newO P el size zs h x).bind fun new => (oldO P el size fl h s).bind fun old =>
      if z.cells.length = size ∧ old.2.1 + new.2 ≤ 140737488355328 ∧ (old.2.1 + new.2) * b ≤ 140737488355328 then (old.1.cat new.1).map fun y => (.sl h.length 0 (old.2.1 + new.2) size, old.2.2 ++ [y]) else none

/-- Nil, or a literal without elements: an append to it writes nothing that there was. -/
def CV.fresh : CV → Bool
  | .nil => true
  | .em => true
  | _ => false
/-- Nil, or what has an element: if it is memory it has a place. -/
def CV.solid : CV → Bool
  | .nil => true
  | .em => true
  | .sl _ _ len _ => decide (0 < len)
  | _ => false
def AK.ok : AK → CV → Bool
  | .no, _ => true
  | .pure, s => s.fresh
  | .late, s => s.solid
def appendB (b : AK) (P : Program) (fl : Nat) (sT : TypeId) (xT : Option TypeId) (s x : CV) (h : AH) : Option (CV × AH) :=
  if b.ok s = true then appendA P fl sT xT s x h else none
theorem appendB_some {b : AK} {P : Program} {fl : Nat} {sT : TypeId} {xT : Option TypeId} {s x : CV} {h : AH} {r : CV × AH} (hr : appendB b P fl sT xT s x h = some r) : appendA P fl sT xT s x h = some r := by
  unfold appendB at hr; split at hr
  · exact hr
  · simp at hr
theorem appendB_ok {b : AK} {P : Program} {fl : Nat} {sT : TypeId} {xT : Option TypeId} {s x : CV} {h : AH} {r : CV × AH} (hr : appendB b P fl sT xT s x h = some r) : b.ok s = true := by
  unfold appendB at hr; split at hr
  · assumption
  · simp at hr
theorem appendB_fl (P : Program) (fl fl' : Nat) (sT : TypeId) (xT : Option TypeId) (s x : CV) (h : AH) : appendB .pure P fl sT xT s x h = appendB .pure P fl' sT xT s x h := by
  unfold appendB
  cases s <;> first | rfl | (simp [AK.ok, CV.fresh]; done)
/-- What an append changes of what there was. -/
theorem append_keep {P : Program} {fl : Nat} {sT : TypeId} {xT : Option TypeId} {s x : CV} {h : AH} {r : CV} {h' : AH} (hr : appendA P fl sT xT s x h = some (r, h')) : (∃ y, h' = h ++ [y]) ∨ ∃ i off len sz y, s = .sl i off len sz ∧ h' = h.set i .dead ++ [y] := by
  unfold appendA at hr
  obtain ⟨el, -, hr⟩ := Option.bind_eq_some_iff.1 hr
  obtain ⟨size, -, hr⟩ := Option.bind_eq_some_iff.1 hr
  obtain ⟨b, -, hr⟩ := Option.bind_eq_some_iff.1 hr
  obtain ⟨z, -, hr⟩ := Option.bind_eq_some_iff.1 hr
  obtain ⟨zs, -, hr⟩ := Option.bind_eq_some_iff.1 hr
  obtain ⟨new, -, hr⟩ := Option.bind_eq_some_iff.1 hr
  obtain ⟨old, ho, hr⟩ := Option.bind_eq_some_iff.1 hr
  split at hr
  · obtain ⟨y, -, hr⟩ := Option.map_eq_some_iff.1 hr
    simp only [Prod.mk.injEq] at hr
    obtain ⟨-, rfl⟩ := hr
    unfold oldO at ho
    cases s with
    | nil => obtain ⟨o, -, rfl⟩ := Option.map_eq_some_iff.1 ho; exact .inl ⟨y, rfl⟩
    | em => obtain ⟨o, -, rfl⟩ := Option.map_eq_some_iff.1 ho; exact .inl ⟨y, rfl⟩
    | sl i off len sz =>
      simp only at ho
      split at ho
      · obtain ⟨o, -, ho⟩ := Option.bind_eq_some_iff.1 ho
        obtain ⟨q, -, rfl⟩ := Option.map_eq_some_iff.1 ho
        exact .inr ⟨i, off, len, sz, y, rfl, rfl⟩
      · simp at ho
    | _ => simp at ho
  · simp at hr

/-- copy, of elements of one cell: what it copies to is the call's own. -/
def copyA (P : Program) (fl : Nat) (dT : TypeId) (d s : CV) (h : AH) : Option (CV × AH) :=
  (elemS P dT).bind fun el => if sizeT P el = some 1 ∧ s.notStr = true then (srcO (kindOf P el) 1 h s).bind fun new => match d with
    | .nil => some (.int .i64 0, h)
    | .sl i off len sz => if sz = 1 then (if min new.2 len = 0 then some (.int .i64 0, h) else if fl ≤ i then
        (h[i]?).bind fun x => (x.sets off (new.1.cells.take (min new.2 len))).map fun y => (.int .i64 (min new.2 len : Nat), h.set i y) else none) else none
    | _ => none
  else none

def minmaxA (mx : Bool) : List CV → Option CV
  | [.int k x, .int _ y] => some (.int k (if mx then (if x < y then y else x) else (if y < x then y else x)))
  | _ => none

abbrev CallF := Nat → FuncId → List AV → AH → Option (AV × AH)

def outC (r : Option (CV × AH)) : Option (AV × AH) := r.map fun x => (.c x.1, x.2)

/-- The floor of a call. -/
def floorOf (cf : Cfg) (fl n : Nat) : Operand → Nat
  | .func g => if cf.pure g then n else fl
  | _ => n

theorem floorOf_ge (cf : Cfg) {fl n : Nat} (h : fl ≤ n) (f : Operand) : fl ≤ floorOf cf fl n f := by
  unfold floorOf; split
  · split <;> omega
  · exact h
theorem floorOf_le (cf : Cfg) {fl n : Nat} (h : fl ≤ n) (f : Operand) : floorOf cf fl n f ≤ n := by
  unfold floorOf; split
  · split <;> omega
  · exact Nat.le_refl _

def evCall (P : Program) (cf : Cfg) (call : CallF) (fl : Nat) (e : Env) (h : AH) (c : Call) : Option (AV × AH) :=
  match c.callee with
  | .value f => (evs cf e c.args.toList).bind fun args => (evC cf e f).bind fun g => match g with
    | .fn (.func g) first captured => call (floorOf cf fl h.length f) g (first.map .c ++ args ++ captured.map .c) h
    | _ => none
  | .builtin .len => (evCs cf e c.args.toList).bind fun args => match args with | [x] => ((c.argTypes[0]?).bind fun t => lenA P t x).map fun v => (.c v, h) | _ => none
  | .builtin .append => (evCs cf e c.args.toList).bind fun args => match args with | [s, x] => (c.argTypes[0]?).bind fun t => outC (appendB (cf.papp c.args) P fl t (c.argTypes[1]?) s x h) | _ => none
  | .builtin .copy => (evCs cf e c.args.toList).bind fun args => match args with | [d, s] => (c.argTypes[0]?).bind fun t => outC (copyA P fl t d s h) | _ => none
  | .builtin .max => (evCs cf e c.args.toList).bind fun args => (minmaxA true args).map fun v => (.c v, h)
  | .builtin .min => (evCs cf e c.args.toList).bind fun args => (minmaxA false args).map fun v => (.c v, h)
  | _ => none

def evO (cf : Cfg) (e : Env) : Option Operand → Option (Option CV)
  | none => some none
  | some x => (evC cf e x).map some

def evOp (P : Program) (cf : Cfg) (call : CallF) (fl : Nat) (e : Env) (h : AH) (op : Op) : Option (AV × AH) :=
  match op with
  | .move x => (ev cf e x).map fun v => (v, h)
  | .assign x => (ev cf e x).map fun v => (v, h)
  | .pick c a b => (evC cf e c).bind fun t => match t with | .bool t => (if t then ev cf e a else ev cf e b).map fun v => (v, h) | _ => none
  | .alloc t => (zeroT P t).bind fun z => if z.one then some (.c (.ptr h.length 0), h ++ [.vals z.cells]) else none
  | .box _ x => (ev cf e x).bind fun v => if v.one then some (.c (.ptr h.length 0), h ++ [.vals v.cells]) else none
  | .build t parts => (evParts cf e parts.toList).bind fun ps => (buildA P t ps).map fun v => (v, h)
  | .buildSlice t len parts => (evParts cf e parts.toList).bind fun ps => outC (buildSliceA P (cf.emt t) t len ps h)
  | .load t a => (evC cf e a).bind fun p => match p with | .ptr i off => (loadA P t h i off).map fun v => (v, h) | _ => none
  | .store t a x => (evC cf e a).bind fun p => (ev cf e x).bind fun v => match p with | .ptr i off => (storeA P t fl h i off v).map fun h' => (.tup [], h') | _ => none
  | .nilCheck x => (evC cf e x).bind fun p => match p with | .ptr i off => some (.c (.ptr i off), h) | _ => none
  | .binOp op t x y _ => (evC cf e x).bind fun a => (evC cf e y).bind fun b => (binE P op t a b).map fun v => (.c v, h)
  | .unOp op _ x => (evC cf e x).bind fun a => (unA op a).map fun v => (.c v, h)
  | .convert s d x => (evC cf e x).bind fun a => outC (convB P fl s d a h)
  | .makeFunc f first captured => (evCs cf e first.toList).bind fun a => (evCs cf e captured.toList).map fun b => (.c (.fn f a b), h)
  | .makeSlice t l c => (evC cf e l).bind fun a => (evC cf e c).bind fun b => outC (makeSliceA P t a b h)
  | .slice t x lo hi mx => (evC cf e x).bind fun a => (evO cf e lo).bind fun l => (evO cf e hi).bind fun u => (evO cf e mx).bind fun m => (sliceA P t a l u m).map fun v => (.c v, h)
  | .fieldAddr t x f => (evC cf e x).bind fun a => (fieldAddrA P t a f).map fun v => (.c v, h)
  | .field t x f => (ev cf e x).bind fun a => (fieldA P t a f).map fun v => (v, h)
  | .indexAddr t x ix => (evC cf e x).bind fun a => (evC cf e ix).bind fun b => (indexAddrA P t a b).map fun v => (.c v, h)
  | .index t x ix => (evC cf e x).bind fun a => (evC cf e ix).bind fun b => (indexA P t a b).map fun v => (.c v, h)
  | .extract x i => (ev cf e x).bind fun a => (extractA a i).map fun v => (v, h)
  | .call c => evCall P cf call fl e h c
  | _ => none

/-- Does it read, make or write memory? -/
def touchOp : Op → Bool
  | .alloc _ | .box _ _ | .buildSlice _ _ _ | .load _ _ | .store _ _ _ | .convert _ _ _ | .makeSlice _ _ _ => true
  | .call c => match c.callee with
    | .value _ => true
    | .builtin .append => true
    | .builtin .copy => true
    | .builtin _ => false
    | .invoke _ _ => true
  | _ => false

/-- Is an operation carried out? -/
def wantA (ops : Array Oper) (e : Env) (o : Oper) : Option Bool :=
  match o.guard with
  | none => some true
  | some (g, want) => ((ops[g]?).bind (·.dst)).bind fun d => (get e d).bind fun v => match v with
    | .c (.bool b) => some (b == want)
    | .tup [] => some false
    | _ => none

def evOps (P : Program) (cf : Cfg) (call : CallF) (fl : Nat) (ops : Array Oper) : List Oper → Env → AH → Option (Env × AH)
  | [], e, h => some (e, h)
  | o :: r, e, h => (wantA ops e o).bind fun b =>
    if b then (evOp P cf call fl e h o.op).bind fun x => evOps P cf call fl ops r (put o.dst x.1 e) x.2
    else evOps P cf call fl ops r (put o.dst (.tup []) e) h

def isLoad : Op → Bool
  | .load _ _ => true
  | _ => false

/-- Are they the same for certain? -/
def CV.same : CV → CV → Bool
  | .bool a, .bool b => a == b
  | .int k n, .int k' n' => decide (k = k') && decide (n = n')
  | .nil, .nil => true
  | .sl i o n s, .sl i' o' n' s' => decide (i = i') && decide (o = o') && decide (n = n') && decide (s = s')
  | .ptr i o, .ptr i' o' => decide (i = i') && decide (o = o')
  | _, _ => false
def sames : List CV → List CV → Bool
  | [], [] => true
  | a :: r, b :: s => a.same b && sames r s
  | _, _ => false
def AV.same : AV → AV → Bool
  | .c a, .c b => a.same b
  | .agg a, .agg b => sames a b
  | _, _ => false
def sameAt (P : Program) (cf : Cfg) (call : CallF) (fl : Nat) (h : AH) (p : Env × Op × AV) : Bool :=
  match evOp P cf call fl p.1 h p.2.1 with
  | some (v, _) => v.same p.2.2
  | none => false
/-- In a region that is carried out in any order: what has been loaded would be loaded later all the same. -/
def stdy (P : Program) (cf : Cfg) (call : CallF) (fl : Nat) (ops : Array Oper) : List Oper → Env → AH → List (Env × Op × AV) → Bool
  | [], _, _, _ => true
  | o :: r, e, h, pend => match wantA ops e o with
    | some true => match evOp P cf call fl e h o.op with
      | some (v, h') => pend.all (sameAt P cf call fl h') && stdy P cf call fl ops r (put o.dst v e) h' (if isLoad o.op then (e, o.op, v) :: pend else pend)
      | none => true
    | _ => stdy P cf call fl ops r (put o.dst (.tup []) e) h pend

inductive AX where
  | norm | exit (id : Nat) | ret

def iter (body : Env → AH → Option (AX × Env × AH)) : Nat → Env → AH → Option (AX × Env × AH)
  | 0, _, _ => none
  | n + 1, e, h => (body e h).bind fun r => match r.1 with | .norm => iter body n r.2.1 r.2.2 | x => some (x, r.2)

/-- The order in which a region that draws its order is looked at. -/
def ordR (o : Option (List Nat)) (l : List Oper) : List Oper := match o with
  | none => l
  | some π => π.filterMap fun i => l[i]?
def regL (cf : Cfg) (f : FuncId) (id : Nat) (d : Bool) (l : List Oper) : List Oper := if d then ordR (cf.ord f id) l else l

def evCode (P : Program) (cf : Cfg) (call : CallF) (fl : Nat) (f : FuncId) : Code → Env → AH → Option (AX × Env × AH)
  | .skip, e, h => some (.norm, e, h)
  | .region id ops d, e, h => (evOps P cf call fl ops (regL cf f id d ops.toList) e h).bind fun r => if (d && cf.wary f id && !stdy P cf call fl ops (regL cf f id d ops.toList) e h []) = true then none else some (.norm, keepOnly (cf.keep f id) r.1, r.2)
  | .seq a b, e, h => (evCode P cf call fl f a e h).bind fun r => match r.1 with | .norm => evCode P cf call fl f b r.2.1 r.2.2 | x => some (x, r.2)
  | .cond c a b, e, h => (evC cf e c).bind fun v => match v with | .bool t => if t then evCode P cf call fl f a e h else evCode P cf call fl f b e h | _ => none
  | .block id c, e, h => (evCode P cf call fl f c e h).map fun r => match r.1 with | .exit id' => if id' = id then (.norm, r.2) else r | _ => r
  | .loop c, e, h => iter (evCode P cf call fl f c) cf.rounds e h
  | .exit id, e, h => some (.exit id, e, h)
  | .ret, e, h => some (.ret, e, h)
  | .label _, e, h => some (.norm, e, h)
  | _, _, _ => none

def resultA (P : Program) (e : Env) (h : AH) : ResultVar → Option AV
  | .tmp t => get e t
  | .cell a t => (get e a).bind fun v => match v with
    | .c (.ptr i off) => loadA P t h i off
    | _ => none

def resultsA (P : Program) (e : Env) (h : AH) : List ResultVar → Option (List AV)
  | [] => some []
  | x :: r => (resultA P e h x).bind fun v => (resultsA P e h r).map fun l => v :: l

def tupA : List AV → AV
  | [v] => v
  | vs => .tup vs

/-- The slices of a result (of whole numbers) are laid in objects of their own, behind n. -/
def packC (n : Nat) : CV → AH → List IntKind → List AO → Option (CV × AH × List IntKind × List AO)
  | .nil, h, k :: ks, acc => some (.sl (n + acc.length) 0 0 1, h, ks, acc ++ [.ints k []])
  | .sl i off len sz, h, k :: ks, acc => if n ≤ i ∧ sz = 1 then (h[i]?).bind fun o => (o.sub off len).bind fun y => match y with
      | .ints k' l => if k = k' then some (.sl (n + acc.length) 0 len 1, h.set i .dead, ks, acc ++ [.ints k l]) else none
      | _ => none
    else none
  | .bool b, h, ks, acc => some (.bool b, h, ks, acc)
  | .int k x, h, ks, acc => some (.int k x, h, ks, acc)
  | .str s, h, ks, acc => some (.str s, h, ks, acc)
  | _, _, _, _ => none
def packCs (n : Nat) : List CV → AH → List IntKind → List AO → Option (List CV × AH × List IntKind × List AO)
  | [], h, ks, acc => some ([], h, ks, acc)
  | v :: r, h, ks, acc => (packC n v h ks acc).bind fun x => (packCs n r x.2.1 x.2.2.1 x.2.2.2).map fun y => (x.1 :: y.1, y.2)
def packV (n : Nat) : AV → AH → List IntKind → List AO → Option (AV × AH × List IntKind × List AO)
  | .c v, h, ks, acc => (packC n v h ks acc).map fun r => (.c r.1, r.2)
  | .agg cs, h, ks, acc => (packCs n cs h ks acc).map fun r => (.agg r.1, r.2)
  | .tup _, _, _, _ => none
  | .np, _, _, _ => none
def packVs (n : Nat) : List AV → AH → List IntKind → List AO → Option (List AV × AH × List IntKind × List AO)
  | [], h, ks, acc => some ([], h, ks, acc)
  | v :: r, h, ks, acc => (packV n v h ks acc).bind fun x => (packVs n r x.2.1 x.2.2.1 x.2.2.2).map fun y => (x.1 :: y.1, y.2)
/-- Nothing of the heap behind n is told. -/
def CV.isBelow (n : Nat) : CV → Bool
  | .sl i _ _ _ | .sn i _ _ _ | .ptr i _ => decide (i < n)
  | .fn _ _ _ => false
  | _ => true
def AV.isBelow (n : Nat) : AV → Bool
  | .c v => v.isBelow n
  | .agg cs => cs.all (·.isBelow n)
  | .tup _ => false
  | .np => false

def leave (m : PM) (fl n : Nat) (vs : List AV) (h : AH) : Option (AV × AH) :=
  match m with
  | .whole => some (tupA vs, h)
  | .drop => if fl = n ∧ vs.all (·.isBelow n) = true then some (tupA vs, h.take n) else none
  | .pack ks => if fl = n then (packVs n vs h ks []).bind fun r => match r.2.2.1 with | [] => some (tupA r.1, h.take n ++ r.2.2.2) | _ => none else none
  | .no => none

def entry : List AV → Nat → Env
  | [], _ => []
  | v :: r, i => (i, some v) :: entry r (i + 1)

def runBody (P : Program) (cf : Cfg) (call : CallF) (fl : Nat) (f : FuncId) (args : List AV) (h : AH) : Option (AV × AH) :=
  (P.funcs[f]?).bind fun fn => (fn.body).bind fun c =>
    (evCode P cf call fl f c (entry args 0) h).bind fun r => match r.1 with
      | .exit _ => none
      | _ => (resultsA P r.2.1 r.2.2 fn.results.toList).bind fun vs => leave (cf.pack f) fl h.length vs r.2.2

/-- What a slice of whole numbers reads as. -/
def rdI (k : IntKind) (h : AH) (x : CV) : Option (List Int) :=
  match x with
  | .nil => some []
  | .sl i off len sz => if sz = 1 then (h[i]?).bind fun o => (o.sub off len).bind fun y => match y with | .ints k' l => if k = k' then some l else none | _ => none else none
  | .sn i off len sz => if sz = 1 then (h[i]?).bind fun o => (o.sub off len).bind fun y => match y with | .ints k' l => if k = k' then some l else none | _ => none else none
  | _ => none

/-- What is copied: it is not longer than Go's memory lets a slice be. -/
def rdC (k : IntKind) (h : AH) (x : CV) : Option (List Int) := (rdI k h x).bind fun l => if l.length ≤ 1000000000000 then some l else none
theorem rdC_some {k : IntKind} {h : AH} {x : CV} {l : List Int} (hr : rdC k h x = some l) : rdI k h x = some l ∧ l.length ≤ 1000000000000 := by
  unfold rdC at hr
  obtain ⟨m, h1, hr⟩ := Option.bind_eq_some_iff.1 hr
  split at hr
  · injection hr with hr; subst hr; exact ⟨h1, by assumption⟩
  · simp at hr

def run (P : Program) (cf : Cfg) : Nat → CallF
  | 0, _, _, _, _ => none
  | d + 1, fl, f, args, h => match cf.clone f with
    | some k => match args with
      | [.c a] => (rdC k h a).map fun l => (.c (.sl h.length 0 l.length 1), h ++ [.ints k l])
      | _ => none
    | none => runBody P cf (run P cf d) fl f args h
end Go.Eng
end
section
/- The engine: how its heap stands for the machine's memory. No conditions. -/
namespace Go.Eng

/-- Where an object lies: block, place, how many cells there are from there on. -/
abbrev Pl := Nat → Option (Nat × Nat × Nat)

mutual
inductive VC (μ : Pl) : CV → Value → Prop
  | bool (b : Bool) : VC μ (.bool b) (.bool b)
  | int (k : IntKind) (n : Int) : VC μ (.int k n) (.int k n)
  | str (s : ByteArray) : VC μ (.str s) (.string s)
  | nil : VC μ .nil (.slice none 0 0)
  | em (a : Addr) : VC μ .em (.slice (some a) 0 0)
  | sl (i off len sz b o e cap : Nat) : μ i = some (b, o, e) → len ≤ cap → off + cap * sz ≤ e → VC μ (.sl i off len sz) (.slice (some ⟨b, o + off, none⟩) len cap)
  | sz (i off sz : Nat) (a : Option Addr) : VC μ (.sl i off 0 sz) (.slice a 0 0)
  | sn (i off len sz b o e cap : Nat) : μ i = some (b, o, e) → len ≤ cap → off + cap * sz ≤ e → VC μ (.sn i off len sz) (.slice (some ⟨b, o + off, none⟩) len cap)
  | snz (i off sz : Nat) (a : Addr) : VC μ (.sn i off 0 sz) (.slice (some a) 0 0)
  | ptr (i off b o e : Nat) : μ i = some (b, o, e) → VC μ (.ptr i off) (.pointer (some ⟨b, o + off, none⟩))
  | fn (f : Fn) (a b : List CV) (a' b' : Array Value) : VCs μ a a'.toList → VCs μ b b'.toList → VC μ (.fn f a b) (.func f a' b')
inductive VCs (μ : Pl) : List CV → List Value → Prop
  | nil : VCs μ [] []
  | cons (a : CV) (v : Value) (l : List CV) (vs : List Value) : VC μ a v → VCs μ l vs → VCs μ (a :: l) (v :: vs)
end

mutual
inductive VA (μ : Pl) : AV → Value → Prop
  | c (a : CV) (v : Value) : VC μ a v → VA μ (.c a) v
  | agg (cs : List CV) (vs : Array Value) : VCs μ cs vs.toList → VA μ (.agg cs) (.agg vs)
  | tup (cs : List AV) (vs : Array Value) : VAs μ cs vs.toList → VA μ (.tup cs) (.tuple vs)
  | np : VA μ .np (.pointer none)
inductive VAs (μ : Pl) : List AV → List Value → Prop
  | nil : VAs μ [] []
  | cons (a : AV) (v : Value) (l : List AV) (vs : List Value) : VA μ a v → VAs μ l vs → VAs μ (a :: l) (v :: vs)
end

/-- What is told stays told. -/
def Pl.le (μ μ' : Pl) : Prop := ∀ i p, μ i = some p → μ' i = some p
theorem Pl.le.refl (μ : Pl) : Pl.le μ μ := fun _ _ h => h
theorem Pl.le.trans {a b c : Pl} (h : Pl.le a b) (k : Pl.le b c) : Pl.le a c := fun i p x => k i p (h i p x)

theorem VC.mono {μ μ' : Pl} (hm : Pl.le μ μ') {a : CV} {v : Value} (h : VC μ a v) : VC μ' a v :=
  VC.rec (motive_1 := fun a v _ => VC μ' a v) (motive_2 := fun l vs _ => VCs μ' l vs)
    (fun b => .bool b) (fun k n => .int k n) (fun s => .str s) .nil (fun a => .em a) (fun i off len sz b o e cap h1 h2 h3 => .sl i off len sz b o e cap (hm _ _ h1) h2 h3) (fun i off sz a => .sz i off sz a)
    (fun i off len sz b o e cap h1 h2 h3 => .sn i off len sz b o e cap (hm _ _ h1) h2 h3) (fun i off sz a => .snz i off sz a)
    (fun i off b o e h1 => .ptr i off b o e (hm _ _ h1)) (fun f a b a' b' _ _ h1 h2 => .fn f a b a' b' h1 h2) .nil (fun a v l vs _ _ h1 h2 => .cons a v l vs h1 h2) h

theorem VCs.mono {μ μ' : Pl} (hm : Pl.le μ μ') : ∀ {l : List CV} {vs : List Value}, VCs μ l vs → VCs μ' l vs
  | _, _, .nil => .nil
  | _, _, .cons a v l vs h t => .cons a v l vs (h.mono hm) (t.mono hm)

theorem VA.mono {μ μ' : Pl} (hm : Pl.le μ μ') {a : AV} {v : Value} (h : VA μ a v) : VA μ' a v :=
  VA.rec (motive_1 := fun a v _ => VA μ' a v) (motive_2 := fun l vs _ => VAs μ' l vs)
    (fun a v h => .c a v (h.mono hm)) (fun cs vs h => .agg cs vs (h.mono hm)) (fun cs vs _ h => .tup cs vs h) .np .nil (fun a v l vs _ _ h t => .cons a v l vs h t) h

theorem VAs.mono {μ μ' : Pl} (hm : Pl.le μ μ') : ∀ {l : List AV} {vs : List Value}, VAs μ l vs → VAs μ' l vs
  | _, _, .nil => .nil
  | _, _, .cons a v l vs h t => .cons a v l vs (h.mono hm) (t.mono hm)

theorem VCs.length {μ : Pl} : ∀ {l : List CV} {vs : List Value}, VCs μ l vs → vs.length = l.length
  | _, _, .nil => rfl
  | _, _, .cons _ _ _ _ _ t => by simp [t.length]

theorem VCs.get {μ : Pl} : ∀ {l : List CV} {vs : List Value}, VCs μ l vs → ∀ (i : Nat) (a : CV), l[i]? = some a → ∃ v, vs[i]? = some v ∧ VC μ a v
  | _, _, .nil, i, a, h => by simp at h
  | _, _, .cons x v l vs hx t, 0, a, h => by simp at h; subst h; exact ⟨v, by simp, hx⟩
  | _, _, .cons x v l vs hx t, i + 1, a, h => by
    obtain ⟨u, h1, h2⟩ := t.get i a (by simpa using h)
    exact ⟨u, by simpa using h1, h2⟩

theorem VCs.of_get {μ : Pl} : ∀ {l : List CV} {vs : List Value}, vs.length = l.length → (∀ (i : Nat) (a : CV) (v : Value), l[i]? = some a → vs[i]? = some v → VC μ a v) → VCs μ l vs
  | [], [], _, _ => .nil
  | [], _ :: _, h, _ => by simp at h
  | _ :: _, [], h, _ => by simp at h
  | a :: l, v :: vs, h, k => .cons a v l vs (k 0 a v (by simp) (by simp)) (VCs.of_get (by simpa using h) fun i x u h1 h2 => k (i + 1) x u (by simpa using h1) (by simpa using h2))

theorem VCs.append {μ : Pl} : ∀ {l : List CV} {vs : List Value} {l' : List CV} {vs' : List Value}, VCs μ l vs → VCs μ l' vs' → VCs μ (l ++ l') (vs ++ vs')
  | _, _, _, _, .nil, k => k
  | _, _, _, _, .cons a v l vs h t, k => .cons a v _ _ h (t.append k)

theorem VAs.append {μ : Pl} : ∀ {l : List AV} {vs : List Value} {l' : List AV} {vs' : List Value}, VAs μ l vs → VAs μ l' vs' → VAs μ (l ++ l') (vs ++ vs')
  | _, _, _, _, .nil, k => k
  | _, _, _, _, .cons a v l vs h t, k => .cons a v _ _ h (t.append k)

theorem VAs.length {μ : Pl} : ∀ {l : List AV} {vs : List Value}, VAs μ l vs → vs.length = l.length
  | _, _, .nil => rfl
  | _, _, .cons _ _ _ _ _ t => by simp [t.length]

theorem VAs.of_cs {μ : Pl} : ∀ {l : List CV} {vs : List Value}, VCs μ l vs → VAs μ (l.map .c) vs
  | _, _, .nil => .nil
  | _, _, .cons a v l vs h t => .cons _ v _ _ (.c a v h) (VAs.of_cs t)

theorem VC.one {μ : Pl} {a : CV} {v : Value} (h : VC μ a v) : v.oneCell' = true := by
  cases h <;> rfl

theorem VCs.one {μ : Pl} : ∀ {l : List CV} {vs : List Value}, VCs μ l vs → ∀ v ∈ vs, v.oneCell' = true
  | _, _, .nil, v, h => by simp at h
  | _, _, .cons a u l vs h t, v, hv => by
    simp at hv
    rcases hv with rfl | hv
    · exact h.one
    · exact t.one v hv

theorem VA.cells {μ : Pl} {a : AV} {v : Value} (h : VA μ a v) (ho : a.one = true) : VCs μ a.cells v.cells.toList := by
  cases h with
  | c a v h => 
    have : v.cells = #[v] := by cases h <;> rfl
    rw [this]; exact .cons _ _ _ _ h .nil
  | agg cs vs h => exact h
  | tup => simp [AV.one] at ho
  | np => simp [AV.one] at ho

/-! ### the relation -/

def Live (h : AH) (i : Nat) : Prop := h[i]? ≠ some .dead

/-- May be read-only, now or after a mark. -/
def wfz (w : World) (b x : Nat) : Bool := match w.heap[b]? with
  | some (.cells _ _ (lo, hi)) => decide (lo ≠ hi) && decide (lo ≤ x)
  | _ => false
theorem wfz_frozen {w : World} {b x : Nat} (h : wfz w b x = false) : w.frozen? ⟨b, x, none⟩ = false := by
  unfold wfz at h
  unfold World.frozen?
  simp only
  cases hb : w.heap[b]? with
  | none => rfl
  | some o =>
    rw [hb] at h
    cases o <;> first | rfl | (rename_i cs t fz; obtain ⟨lo, hi⟩ := fz; simp at h ⊢; omega)
structure Rel (cf : Cfg) (n0 : Nat) (μ : Pl) (w : World) (h : AH) : Prop where
  lt : ∀ i p, μ i = some p → i < h.length
  blk : ∀ i b o e, μ i = some (b, o, e) → ∃ cs t fz, w.heap[b]? = some (.cells cs t fz) ∧ o + e ≤ cs.size
  frz : ∀ i b o e, μ i = some (b, o, e) → n0 ≤ i → ∀ x, x < o + e → wfz w b x = false
  val : ∀ i b o e x, μ i = some (b, o, e) → h[i]? = some x → x.cells.length ≤ e ∧ ∀ c a, x.cells[c]? = some a → ∃ v, w.cell? ⟨b, o + c, none⟩ = some v ∧ VC μ a v
  sep : ∀ i j p q, i ≠ j → μ i = some p → μ j = some q → n0 ≤ j → Live h i → Live h j → p.1 ≠ q.1
  glob : ∀ g a, cf.glob g = some a → VC μ a (.pointer (some ⟨g, 0, none⟩))

theorem Rel.blt {cf : Cfg} {n0 : Nat} {μ : Pl} {w : World} {h : AH} (R : Rel cf n0 μ w h) {i : Nat} {p : Nat × Nat × Nat} (hi : μ i = some p) : p.1 < w.heap.size := by
  obtain ⟨b, o, e⟩ := p
  obtain ⟨cs, t, fz, h1, _⟩ := R.blk i b o e hi
  exact (Array.getElem?_eq_some_iff.1 h1).1

structure Step (cf : Cfg) (n0 fl : Nat) (μ : Pl) (w : World) (h : AH) (μ' : Pl) (w' : World) (h' : AH) : Prop where
  rel : Rel cf n0 μ' w' h'
  len : h.length ≤ h'.length
  ext : ∀ i, i < h.length → μ' i = μ i
  dead : ∀ i, i < h.length → Live h' i → Live h i
  keep : ∀ i, i < fl → i < h.length → h'[i]? = h[i]?
  new : ∀ i p, h.length ≤ i → μ' i = some p → w.heap.size ≤ p.1 ∨ ∃ j q, fl ≤ j ∧ μ j = some q ∧ Live h j ∧ q.1 = p.1
  os : w'.os = w.os
  tape : w'.tape = w.tape
  out : w'.output = w.output
  size : w.heap.size ≤ w'.heap.size
  frame : ∀ b, b < w.heap.size → (∀ j q, fl ≤ j → μ j = some q → Live h j → q.1 ≠ b) → w'.heap[b]? = w.heap[b]?

section
variable {cf : Cfg} {n0 fl : Nat} {μ μ1 μ2 : Pl} {w w1 w2 : World} {h h1 h2 : AH}

theorem Step.le (s : Step cf n0 fl μ w h μ1 w1 h1) (R : Rel cf n0 μ w h) : Pl.le μ μ1 := fun i p hp => by rw [s.ext i (R.lt i p hp)]; exact hp

theorem Step.refl (R : Rel cf n0 μ w h) : Step cf n0 fl μ w h μ w h :=
  ⟨R, Nat.le_refl _, fun _ _ => rfl, fun _ _ x => x, fun _ _ _ => rfl, fun i p hi hp => absurd (R.lt i p hp) (by omega), rfl, rfl, rfl, Nat.le_refl _, fun _ _ _ => rfl⟩

theorem Step.trans (s : Step cf n0 fl μ w h μ1 w1 h1) (t : Step cf n0 fl μ1 w1 h1 μ2 w2 h2) : Step cf n0 fl μ w h μ2 w2 h2 where
  rel := t.rel
  len := Nat.le_trans s.len t.len
  ext i hi := (t.ext i (Nat.lt_of_lt_of_le hi s.len)).trans (s.ext i hi)
  dead i hi hl := s.dead i hi (t.dead i (Nat.lt_of_lt_of_le hi s.len) hl)
  keep i hi hl := (t.keep i hi (Nat.lt_of_lt_of_le hl s.len)).trans (s.keep i hi hl)
  new i p hi hp := by
    have key : ∀ j q, fl ≤ j → μ1 j = some q → Live h1 j → w.heap.size ≤ q.1 ∨ ∃ j' q', fl ≤ j' ∧ μ j' = some q' ∧ Live h j' ∧ q'.1 = q.1 := fun j q hj hq hl => by
      by_cases hjl : j < h.length
      · exact .inr ⟨j, q, hj, (s.ext j hjl) ▸ hq, s.dead j hjl hl, rfl⟩
      · exact s.new j q (by omega) hq
    by_cases hil : i < h1.length
    · rw [t.ext i hil] at hp; exact s.new i p hi hp
    · rcases t.new i p (by omega) hp with hx | ⟨j, q, hj, hq, hl, he⟩
      · exact .inl (Nat.le_trans s.size hx)
      · rcases key j q hj hq hl with hx | ⟨j', q', a1, a2, a3, a4⟩
        · exact .inl (he ▸ hx)
        · exact .inr ⟨j', q', a1, a2, a3, a4.trans he⟩
  os := t.os.trans s.os
  tape := t.tape.trans s.tape
  out := t.out.trans s.out
  size := Nat.le_trans s.size t.size
  frame b hb hn := by
    rw [t.frame b (Nat.lt_of_lt_of_le hb s.size) ?_, s.frame b hb hn]
    intro j q hj hq hl
    by_cases hjl : j < h.length
    · exact hn j q hj ((s.ext j hjl) ▸ hq) (s.dead j hjl hl)
    · rcases s.new j q (by omega) hq with hx | ⟨j', q', a1, a2, a3, a4⟩
      · omega
      · rw [← a4]; exact hn j' q' a1 a2 a3

/-- A lower floor says less. -/
theorem Step.floor {fl' : Nat} (s : Step cf n0 fl' μ w h μ1 w1 h1) (hf : fl ≤ fl') : Step cf n0 fl μ w h μ1 w1 h1 where
  rel := s.rel
  len := s.len
  ext := s.ext
  dead := s.dead
  keep i hi hl := s.keep i (by omega) hl
  new i p hi hp := (s.new i p hi hp).imp id fun ⟨j, q, a, b⟩ => ⟨j, q, by omega, b⟩
  os := s.os
  tape := s.tape
  out := s.out
  size := s.size
  frame b hb hn := s.frame b hb fun j q hj => hn j q (by omega)

/-- A world whose heap is the same. -/
theorem Rel.same (R : Rel cf n0 μ w h) (hh : w1.heap = w.heap) : Rel cf n0 μ w1 h where
  lt := R.lt
  blk i b o e hi := by rw [hh]; exact R.blk i b o e hi
  frz i b o e hi hn x hx := by
    have := R.frz i b o e hi hn x hx
    unfold wfz at *; rw [hh]; exact this
  val i b o e x hi hx := by
    refine ⟨(R.val i b o e x hi hx).1, fun c a hc => ?_⟩
    obtain ⟨v, h1, h2⟩ := (R.val i b o e x hi hx).2 c a hc
    exact ⟨v, by unfold World.cell? at *; rw [hh]; exact h1, h2⟩
  sep := R.sep
  glob := R.glob

theorem Step.same (s : Step cf n0 fl μ w h μ1 w1 h1) (hh : w2.heap = w1.heap) (ho : w2.os = w1.os) (ht : w2.tape = w1.tape) (hp : w2.output = w1.output) : Step cf n0 fl μ w h μ1 w2 h1 where
  rel := s.rel.same hh
  len := s.len
  ext := s.ext
  dead := s.dead
  keep := s.keep
  new := s.new
  os := ho.trans s.os
  tape := ht.trans s.tape
  out := hp.trans s.out
  size := by rw [hh]; exact s.size
  frame b hb hn := by rw [hh]; exact s.frame b hb hn
end

end Go.Eng
end
section
/- The engine: how its heap's moves stand for the machine's. No conditions. -/
namespace Go.Eng

theorem getElem?_modify_self {α : Type} (xs : Array α) (i : Nat) (f : α → α) (x : α) (h : xs[i]? = some x) : (xs.modify i f)[i]? = some (f x) := by
  simp [Array.getElem?_modify, h]

/-- What storing cells makes of the heap. -/
theorem setCells_heap (b : Nat) : ∀ (vs : List Value) (o : Nat) (w : World) (cs : Array Value) (t : TypeId) (fz : Nat × Nat), w.heap[b]? = some (.cells cs t fz) →
    ∃ cs', (w.setCells b o vs).heap[b]? = some (.cells cs' t fz) ∧ cs'.size = cs.size ∧ (∀ j, j < vs.length → o + j < cs.size → cs'[o + j]? = vs[j]?) ∧ (∀ j, j < o ∨ o + vs.length ≤ j → cs'[j]? = cs[j]?)
  | [], o, w, cs, t, fz, h => ⟨cs, h, rfl, fun j hj => by simp at hj, fun _ _ => rfl⟩
  | v :: r, o, w, cs, t, fz, h => by
    have h1 : (w.setCell ⟨b, o, none⟩ v).heap[b]? = some (.cells (cs.setIfInBounds o v) t fz) := by
      simp [World.setCell, Array.getElem?_modify, h]
    obtain ⟨cs', a1, a2, a3, a4⟩ := setCells_heap b r (o + 1) (w.setCell ⟨b, o, none⟩ v) _ t fz h1
    refine ⟨cs', a1, by simpa using a2, fun j hj hl => ?_, fun j hj => ?_⟩
    · cases j with
      | zero =>
        rw [a4 _ (.inl (by omega))]
        simp at hl
        simp [hl]
      | succ j =>
        have := a3 j (by simpa using hj) (by simp; omega)
        rw [show o + (j + 1) = o + 1 + j by omega, this]; simp
    · rw [a4 j (by simp at hj; omega), Array.getElem?_setIfInBounds_ne (by simp at hj; omega)]

theorem setCells_other (b : Nat) : ∀ (vs : List Value) (o : Nat) (w : World) (k : Nat), k ≠ b → (w.setCells b o vs).heap[k]? = w.heap[k]?
  | [], _, _, _, _ => rfl
  | v :: r, o, w, k, hk => by
    rw [World.setCells, setCells_other b r (o + 1) _ k hk]
    simp [World.setCell, Array.getElem?_modify, Ne.symm hk]

theorem setCells_rest (b : Nat) : ∀ (vs : List Value) (o : Nat) (w : World), (w.setCells b o vs).os = w.os ∧ (w.setCells b o vs).tape = w.tape ∧ (w.setCells b o vs).output = w.output ∧ (w.setCells b o vs).heap.size = w.heap.size
  | [], _, _ => ⟨rfl, rfl, rfl, rfl⟩
  | v :: r, o, w => by
    obtain ⟨a, b', c, d⟩ := setCells_rest b r (o + 1) (w.setCell ⟨b, o, none⟩ v)
    exact ⟨a, b', c, by rw [World.setCells, d]; simp [World.setCell]⟩

section
variable {cf : Cfg} {n0 fl : Nat} {μ : Pl} {w w' : World} {h : AH}

theorem frozen_of (w : World) (b x : Nat) (cs : Array Value) (t : TypeId) (lo hi : Nat) (h : w.heap[b]? = some (.cells cs t (lo, hi))) : w.frozen? ⟨b, x, none⟩ = (decide (lo ≤ x) && decide (x < hi)) := by
  simp [World.frozen?, h]

theorem cell_of (w : World) (b x : Nat) (cs : Array Value) (t : TypeId) (fz : Nat × Nat) (h : w.heap[b]? = some (.cells cs t fz)) : w.cell? ⟨b, x, none⟩ = cs[x]? := by
  simp [World.cell?, h]

theorem cell_eq {w w' : World} {b : Nat} (h : w'.heap[b]? = w.heap[b]?) (x : Nat) : w'.cell? ⟨b, x, none⟩ = w.cell? ⟨b, x, none⟩ := by
  simp [World.cell?, h]

theorem fz_of (w : World) (b x : Nat) (cs : Array Value) (t : TypeId) (lo hi : Nat) (h : w.heap[b]? = some (.cells cs t (lo, hi))) : wfz w b x = (decide (lo ≠ hi) && decide (lo ≤ x)) := by
  simp [wfz, h]

theorem fz_eq {w w' : World} {b : Nat} (h : w'.heap[b]? = w.heap[b]?) (x : Nat) : wfz w' b x = wfz w b x := by
  simp [wfz, h]

theorem frozen_eq {w w' : World} {b : Nat} (h : w'.heap[b]? = w.heap[b]?) (x : Nat) : w'.frozen? ⟨b, x, none⟩ = w.frozen? ⟨b, x, none⟩ := by
  simp [World.frozen?, h]

theorem getElem?_push_lt {α : Type} (xs : Array α) (x : α) (i : Nat) (h : i < xs.size) : (xs.push x)[i]? = xs[i]? := by
  rw [Array.getElem?_push, if_neg (by omega)]

/-- A new object in a new block. -/
theorem Step.alloc (R : Rel cf n0 μ w h) (x : AO) (cs : Array Value) (t : TypeId) (lo hi : Nat) (hh : w'.heap = w.heap.push (.cells cs t (lo, hi))) (hf : lo = hi ∨ cs.size ≤ lo)
    (ho : w'.os = w.os) (ht : w'.tape = w.tape) (hp : w'.output = w.output) (hx : x.cells.length ≤ cs.size) (hc : ∀ (c : Nat) (a : CV), x.cells[c]? = some a → ∃ v, cs[c]? = some v ∧ VC μ a v) :
    Step cf n0 fl μ w h (fun i => if i = h.length then some (w.heap.size, 0, cs.size) else μ i) w' (h ++ [x]) := by
  have le : Pl.le μ (fun i => if i = h.length then some (w.heap.size, 0, cs.size) else μ i) := fun i p hi => by
    have := R.lt i p hi
    simp [show i ≠ h.length by omega, hi]
  have old : ∀ b, b < w.heap.size → w'.heap[b]? = w.heap[b]? := fun b hb => by rw [hh, getElem?_push_lt _ _ _ hb]
  have new : w'.heap[w.heap.size]? = some (.cells cs t (lo, hi)) := by rw [hh]; simp
  have Live' : ∀ i, i < h.length → Live (h ++ [x]) i → Live h i := fun i hi hl => by unfold Live at *; rwa [List.getElem?_append_left hi] at hl
  refine ⟨⟨?_, ?_, ?_, ?_, ?_, ?_⟩, by simp, fun i hi => by simp [show i ≠ h.length by omega], Live', fun i _ hi => by rw [List.getElem?_append_left hi], ?_, ho, ht, hp, by rw [hh]; simp, fun b hb _ => old b hb⟩
  · intro i p hi
    by_cases e : i = h.length
    · simp [e]
    · simp only [e, if_false] at hi; have := R.lt i p hi; simp; omega
  · intro i b o e hi
    by_cases e' : i = h.length
    · simp only [e', if_true, Option.some.injEq, Prod.mk.injEq] at hi
      obtain ⟨rfl, rfl, rfl⟩ := hi
      exact ⟨cs, t, _, new, by omega⟩
    · simp only [e', if_false] at hi
      rw [old b (R.blt hi)]; exact R.blk i b o e hi
  · intro i b o e hi hn y hy
    by_cases e' : i = h.length
    · simp only [e', if_true, Option.some.injEq, Prod.mk.injEq] at hi
      obtain ⟨rfl, rfl, rfl⟩ := hi
      rw [fz_of _ _ _ _ _ _ _ new]
      rcases hf with hf | hf
      · simp; omega
      · simp; omega
    · simp only [e', if_false] at hi
      rw [fz_eq (old b (R.blt hi))]; exact R.frz i b o e hi hn y hy
  · intro i b o e y hi hy
    by_cases e' : i = h.length
    · simp only [e', if_true, Option.some.injEq, Prod.mk.injEq] at hi
      obtain ⟨rfl, rfl, rfl⟩ := hi
      subst e'
      simp at hy; subst hy
      refine ⟨hx, fun c a hca => ?_⟩
      obtain ⟨v, h1, h2⟩ := hc c a hca
      exact ⟨v, by rw [cell_of _ _ _ _ _ _ new]; simpa using h1, h2.mono le⟩
    · simp only [e', if_false] at hi
      have hlt := R.lt i _ hi
      rw [List.getElem?_append_left hlt] at hy
      obtain ⟨k1, k2⟩ := R.val i b o e y hi hy
      refine ⟨k1, fun c a hca => ?_⟩
      obtain ⟨v, h1, h2⟩ := k2 c a hca
      exact ⟨v, by rw [cell_eq (old b (R.blt hi))]; exact h1, h2.mono le⟩
  · intro i j p q hij hi hj hn hl hl'
    by_cases e1 : i = h.length
    · by_cases e2 : j = h.length
      · omega
      · simp only [e1, e2, if_true, if_false, Option.some.injEq] at hi hj
        have := R.blt hj; rw [← hi]; simp; omega
    · by_cases e2 : j = h.length
      · simp only [e1, e2, if_true, if_false, Option.some.injEq] at hi hj
        have := R.blt hi; rw [← hj]; simp; omega
      · simp only [e1, e2, if_false] at hi hj
        exact R.sep i j p q hij hi hj hn (Live' i (R.lt i p hi) hl) (Live' j (R.lt j q hj) hl')
  · exact fun g a hg => (R.glob g a hg).mono le
  · intro i p hi hp'
    by_cases e' : i = h.length
    · simp only [e', if_true, Option.some.injEq] at hp'
      exact .inl (by rw [← hp']; exact Nat.le_refl _)
    · simp only [e', if_false] at hp'
      have := R.lt i p hp'; omega

/-- A new object that lies nowhere. -/
theorem Step.ghost (R : Rel cf n0 μ w h) (l : List AO) : Step cf n0 fl μ w h μ w (h ++ l) := by
  refine ⟨⟨?_, R.blk, R.frz, ?_, ?_, R.glob⟩, by simp, fun _ _ => rfl, ?_, fun i _ hi => by rw [List.getElem?_append_left hi], ?_, rfl, rfl, rfl, Nat.le_refl _, fun _ _ _ => rfl⟩
  · intro i p hi; have := R.lt i p hi; simp; omega
  · intro i b o e y hi hy; rw [List.getElem?_append_left (R.lt i _ hi)] at hy; exact R.val i b o e y hi hy
  · intro i j p q hij hi hj hn hl hl'
    unfold Live at *
    rw [List.getElem?_append_left (R.lt i _ hi)] at hl
    rw [List.getElem?_append_left (R.lt j _ hj)] at hl'
    exact R.sep i j p q hij hi hj hn hl hl'
  · intro i hi hl; unfold Live at *; rwa [List.getElem?_append_left hi] at hl
  · intro i p hi hp; have := R.lt i p hp; omega

theorem live_set {h : AH} {i j : Nat} {y : AO} (hl : Live h i) (k : Live (h.set i y) j) : Live h j := by
  by_cases e : j = i
  · subst e; exact hl
  · unfold Live at *; rwa [List.getElem?_set_ne (Ne.symm e)] at k

/-- An object's cells are written. -/
theorem Step.write (R : Rel cf n0 μ w h) (hn : n0 ≤ fl) (i b o e : Nat) (y : AO) (hfl : fl ≤ i) (hi : μ i = some (b, o, e)) (hl : Live h i) (cs cs' : Array Value) (t : TypeId) (fz : Nat × Nat)
    (hb : w.heap[b]? = some (.cells cs t fz)) (hb' : w'.heap[b]? = some (.cells cs' t fz)) (hs : cs'.size = cs.size) (hoth : ∀ k, k ≠ b → w'.heap[k]? = w.heap[k]?) (hz : w'.heap.size = w.heap.size)
    (ho : w'.os = w.os) (ht : w'.tape = w.tape) (hp : w'.output = w.output)
    (hy : y.cells.length ≤ e) (hc : ∀ (c : Nat) (a : CV), y.cells[c]? = some a → ∃ v, cs'[o + c]? = some v ∧ VC μ a v) : Step cf n0 fl μ w h μ w' (h.set i y) := by
  obtain ⟨lo, hi'⟩ := fz
  have other : ∀ j p, j ≠ i → μ j = some p → Live h j → w'.heap[p.1]? = w.heap[p.1]? := fun j p hj hp' hlj => hoth _ (R.sep j i p _ hj hp' hi (by omega) hlj hl)
  have fzs : ∀ k x, wfz w' k x = wfz w k x := fun k x => by
    by_cases e : k = b
    · subst e; rw [fz_of _ _ _ _ _ _ _ hb, fz_of _ _ _ _ _ _ _ hb']
    · exact fz_eq (hoth k e) x
  refine ⟨⟨?_, ?_, ?_, ?_, ?_, R.glob⟩, by simp, fun _ _ => rfl, fun j _ k => live_set hl k, fun j hj _ => by rw [List.getElem?_set_ne (by omega)], fun j p hj hp' => by have := R.lt j p hp'; omega, ho, ht, hp, by omega, ?_⟩
  · intro j p hj; have := R.lt j p hj; simpa using this
  · intro j b1 o1 e1 hj
    obtain ⟨c1, t1, f1, k1, k2⟩ := R.blk j b1 o1 e1 hj
    by_cases eb : b1 = b
    · subst eb; rw [hb] at k1; cases k1; exact ⟨cs', t, _, hb', by omega⟩
    · exact ⟨c1, t1, f1, by rw [hoth b1 eb]; exact k1, k2⟩
  · intro j b1 o1 e1 hj hnj x hx; rw [fzs]; exact R.frz j b1 o1 e1 hj hnj x hx
  · intro j b1 o1 e1 x hj hx
    by_cases ej : j = i
    · subst ej
      rw [hi] at hj; cases hj
      rw [List.getElem?_set_self (R.lt j _ hi)] at hx; cases hx
      refine ⟨hy, fun c a hca => ?_⟩
      obtain ⟨v, h1, h2⟩ := hc c a hca
      exact ⟨v, by rw [cell_of _ _ _ _ _ _ hb']; exact h1, h2⟩
    · rw [List.getElem?_set_ne (Ne.symm ej)] at hx
      obtain ⟨k1, k2⟩ := R.val j b1 o1 e1 x hj hx
      refine ⟨k1, fun c a hca => ?_⟩
      obtain ⟨v, h1, h2⟩ := k2 c a hca
      refine ⟨v, ?_, h2⟩
      have hlj : Live h j := fun hd => by rw [hx] at hd; cases hd; simp [AO.cells] at hca
      rw [cell_eq (other j _ ej hj hlj)]; exact h1
  · intro j k p q hjk hj hk hn' hlj hlk; exact R.sep j k p q hjk hj hk hn' (live_set hl hlj) (live_set hl hlk)
  · intro k hk hne
    exact hoth k fun e => hne i _ hfl hi hl e.symm

/-- An object is marked, behind its end. -/
theorem Step.mark (R : Rel cf n0 μ w h) (i b o e : Nat) (hfl : fl ≤ i) (hi : μ i = some (b, o, e)) (hl : Live h i) (cs : Array Value) (t : TypeId) (lo hi' : Nat)
    (hb : w.heap[b]? = some (.cells cs t (lo, hi'))) (hb' : w'.heap[b]? = some (.cells cs t (if (lo == hi') = true then (cs.size, cs.size + 1) else (min lo cs.size, max hi' (cs.size + 1))))) (hoth : ∀ k, k ≠ b → w'.heap[k]? = w.heap[k]?) (hz : w'.heap.size = w.heap.size)
    (ho : w'.os = w.os) (ht : w'.tape = w.tape) (hp : w'.output = w.output) : Step cf n0 fl μ w h μ w' h := by
  refine ⟨⟨R.lt, ?_, ?_, ?_, R.sep, R.glob⟩, Nat.le_refl _, fun _ _ => rfl, fun _ _ x => x, fun _ _ _ => rfl, fun j p hj hp' => by have := R.lt j p hp'; omega, ho, ht, hp, by omega, ?_⟩
  · intro j b1 o1 e1 hj
    obtain ⟨c1, t1, f1, k1, k2⟩ := R.blk j b1 o1 e1 hj
    by_cases eb : b1 = b
    · subst eb; rw [hb] at k1; cases k1; exact ⟨_, _, _, hb', k2⟩
    · exact ⟨c1, t1, f1, by rw [hoth b1 eb]; exact k1, k2⟩
  · intro j b1 o1 e1 hj hnj x hx
    have hold := R.frz j b1 o1 e1 hj hnj x hx
    by_cases eb : b1 = b
    · subst eb
      obtain ⟨c1, t1, f1, k1, k2⟩ := R.blk j b1 o1 e1 hj
      rw [hb] at k1; cases k1
      rw [fz_of _ _ _ _ _ _ _ hb] at hold
      by_cases hlh : lo = hi'
      · rw [if_pos (by simp [hlh])] at hb'
        rw [fz_of _ _ _ _ _ _ _ hb']; simp; omega
      · rw [if_neg (by simp [hlh])] at hb'
        rw [fz_of _ _ _ _ _ _ _ hb']
        simp [hlh] at hold ⊢
        omega
    · rw [fz_eq (hoth b1 eb)]; exact hold
  · intro j b1 o1 e1 x hj hx
    obtain ⟨k1, k2⟩ := R.val j b1 o1 e1 x hj hx
    refine ⟨k1, fun c a hca => ?_⟩
    obtain ⟨v, h1, h2⟩ := k2 c a hca
    refine ⟨v, ?_, h2⟩
    by_cases eb : b1 = b
    · subst eb
      rw [cell_of _ _ _ _ _ _ hb]  at h1
      rw [cell_of _ _ _ _ _ _ hb']; exact h1
    · rw [cell_eq (hoth b1 eb)]; exact h1
  · intro k hk hne
    exact hoth k fun e => hne i _ hfl hi hl e.symm

/-- An object is no more used. -/
theorem Step.kill (R : Rel cf n0 μ w h) (i : Nat) (hfl : fl ≤ i) : Step cf n0 fl μ w h μ w (h.set i .dead) := by
  have lv : ∀ j, Live (h.set i .dead) j → j < h.length → Live h j ∧ j ≠ i := fun j hl hj => by
    by_cases e : j = i
    · subst e; unfold Live at hl; rw [List.getElem?_set_self hj] at hl; exact absurd rfl hl
    · unfold Live at *; rw [List.getElem?_set_ne (Ne.symm e)] at hl; exact ⟨hl, e⟩
  refine ⟨⟨?_, R.blk, R.frz, ?_, ?_, R.glob⟩, by simp, fun _ _ => rfl, fun j hj k => (lv j k hj).1, fun j hj _ => by rw [List.getElem?_set_ne (by omega)], fun j p hj hp => by have := R.lt j p hp; omega, rfl, rfl, rfl, Nat.le_refl _, fun _ _ _ => rfl⟩
  · intro j p hj; have := R.lt j p hj; simpa using this
  · intro j b o e x hj hx
    by_cases ej : j = i
    · subst ej; rw [List.getElem?_set_self (R.lt j _ hj)] at hx; cases hx; simp [AO.cells]
    · rw [List.getElem?_set_ne (Ne.symm ej)] at hx; exact R.val j b o e x hj hx
  · intro j k p q hjk hj hk hn hlj hlk; exact R.sep j k p q hjk hj hk hn (lv j hlj (R.lt j p hj)).1 (lv k hlk (R.lt k q hk)).1

/-- A new object takes a dead one's block over. -/
theorem Step.heir (R : Rel cf n0 μ w h) (hn : n0 ≤ fl) (i b o e o' e' : Nat) (y : AO) (hfl : fl ≤ i) (hi : μ i = some (b, o, e)) (hl : Live h i) (cs cs' : Array Value) (t : TypeId) (fz : Nat × Nat)
    (hb : w.heap[b]? = some (.cells cs t fz)) (hb' : w'.heap[b]? = some (.cells cs' t fz)) (hs : cs'.size = cs.size) (hoth : ∀ k, k ≠ b → w'.heap[k]? = w.heap[k]?) (hz : w'.heap.size = w.heap.size)
    (ho : w'.os = w.os) (ht : w'.tape = w.tape) (hp : w'.output = w.output) (he : o' + e' ≤ o + e)
    (hy : y.cells.length ≤ e') (hc : ∀ (c : Nat) (a : CV), y.cells[c]? = some a → ∃ v, cs'[o' + c]? = some v ∧ VC μ a v) :
    Step cf n0 fl μ w h (fun j => if j = h.length then some (b, o', e') else μ j) w' (h.set i .dead ++ [y]) := by
  obtain ⟨lo, hi'⟩ := fz
  have hil := R.lt i _ hi
  have le : Pl.le μ (fun j => if j = h.length then some (b, o', e') else μ j) := fun j p hj => by
    have := R.lt j p hj
    simp [show j ≠ h.length by omega, hj]
  have hlen : (h.set i AO.dead).length = h.length := by simp
  have lv : ∀ j, j < h.length → Live (h.set i .dead ++ [y]) j → Live h j ∧ j ≠ i := fun j hj hl => by
    unfold Live at *
    rw [List.getElem?_append_left (by simpa using hj)] at hl
    by_cases e : j = i
    · subst e; rw [List.getElem?_set_self hj] at hl; exact absurd rfl hl
    · rw [List.getElem?_set_ne (Ne.symm e)] at hl; exact ⟨hl, e⟩
  have other : ∀ j p, j ≠ i → μ j = some p → Live h j → p.1 ≠ b := fun j p hj hp' hlj => R.sep j i p _ hj hp' hi (by omega) hlj hl
  have fzs : ∀ k x, wfz w' k x = wfz w k x := fun k x => by
    by_cases e : k = b
    · subst e; rw [fz_of _ _ _ _ _ _ _ hb, fz_of _ _ _ _ _ _ _ hb']
    · exact fz_eq (hoth k e) x
  refine ⟨⟨?_, ?_, ?_, ?_, ?_, fun g a hg => (R.glob g a hg).mono le⟩, by simp, fun j hj => by simp [show j ≠ h.length by omega], fun j hj k => (lv j hj k).1, fun j hj hjl => by rw [List.getElem?_append_left (by simpa using hjl), List.getElem?_set_ne (by omega)], ?_, ho, ht, hp, by omega, ?_⟩
  · intro j p hj
    by_cases e1 : j = h.length
    · simp [e1]
    · simp only [e1, if_false] at hj; have := R.lt j p hj; simp; omega
  · intro j b1 o1 e1 hj
    by_cases ej : j = h.length
    · simp only [ej, if_true, Option.some.injEq, Prod.mk.injEq] at hj
      obtain ⟨rfl, rfl, rfl⟩ := hj
      obtain ⟨c1, t1, f1, k1, k2⟩ := R.blk i _ o e hi
      rw [hb] at k1; cases k1
      exact ⟨cs', t, _, hb', by omega⟩
    · simp only [ej, if_false] at hj
      obtain ⟨c1, t1, f1, k1, k2⟩ := R.blk j b1 o1 e1 hj
      by_cases eb : b1 = b
      · subst eb; rw [hb] at k1; cases k1; exact ⟨cs', t, _, hb', by omega⟩
      · exact ⟨c1, t1, f1, by rw [hoth b1 eb]; exact k1, k2⟩
  · intro j b1 o1 e1 hj hnj x hx
    rw [fzs]
    by_cases ej : j = h.length
    · simp only [ej, if_true, Option.some.injEq, Prod.mk.injEq] at hj
      obtain ⟨rfl, rfl, rfl⟩ := hj
      exact R.frz i _ o e hi (by omega) x (by omega)
    · simp only [ej, if_false] at hj; exact R.frz j b1 o1 e1 hj hnj x hx
  · intro j b1 o1 e1 x hj hx
    by_cases ej : j = h.length
    · simp only [ej, if_true, Option.some.injEq, Prod.mk.injEq] at hj
      obtain ⟨rfl, rfl, rfl⟩ := hj
      subst ej
      rw [List.getElem?_append_right (by simp)] at hx
      simp at hx; subst hx
      refine ⟨hy, fun c a hca => ?_⟩
      obtain ⟨v, h1, h2⟩ := hc c a hca
      exact ⟨v, by rw [cell_of _ _ _ _ _ _ hb']; exact h1, h2.mono le⟩
    · simp only [ej, if_false] at hj
      have hjl := R.lt j _ hj
      rw [List.getElem?_append_left (by simpa using hjl)] at hx
      by_cases ei : j = i
      · subst ei; rw [List.getElem?_set_self hjl] at hx; cases hx; simp [AO.cells]
      · rw [List.getElem?_set_ne (Ne.symm ei)] at hx
        obtain ⟨k1, k2⟩ := R.val j b1 o1 e1 x hj hx
        refine ⟨k1, fun c a hca => ?_⟩
        obtain ⟨v, h1, h2⟩ := k2 c a hca
        have hlj : Live h j := fun hd => by rw [hx] at hd; cases hd; simp [AO.cells] at hca
        exact ⟨v, by rw [cell_eq (hoth _ (other j _ ei hj hlj))]; exact h1, h2.mono le⟩
  · intro j k p q hjk hj hk hn' hlj hlk
    by_cases e1 : j = h.length
    · have e2 : k ≠ h.length := by omega
      simp only [e1, e2, if_true, if_false, Option.some.injEq] at hj hk
      obtain ⟨a1, a2⟩ := lv k (R.lt k q hk) hlk
      have := other k q a2 hk a1
      rw [← hj]; exact fun e => this e.symm
    · by_cases e2 : k = h.length
      · simp only [e1, e2, if_true, if_false, Option.some.injEq] at hj hk
        obtain ⟨a1, a2⟩ := lv j (R.lt j p hj) hlj
        rw [← hk]; exact other j p a2 hj a1
      · simp only [e1, e2, if_false] at hj hk
        exact R.sep j k p q hjk hj hk hn' (lv j (R.lt j p hj) hlj).1 (lv k (R.lt k q hk) hlk).1
  · intro j p hj hp'
    by_cases ej : j = h.length
    · simp only [ej, if_true, Option.some.injEq] at hp'
      exact .inr ⟨i, _, hfl, hi, hl, by rw [← hp']⟩
    · simp only [ej, if_false] at hp'
      have := R.lt j p hp'; omega
  · intro k hk hne
    exact hoth k fun e => hne i _ hfl hi hl e.symm

end
end Go.Eng
end
section
/- The engine: operands, and the operations that leave the memory as it is. No conditions. -/
namespace Go.Eng

theorem ofC_rel {v : Value} {x : CV} (h : ofC v = some x) (μ : Pl) : VC μ x v := by
  unfold ofC at h
  split at h <;> first | (injection h with h; subst h; constructor) | (simp at h)

theorem ofCs_rel (μ : Pl) : ∀ {l : List Value} {xs : List CV}, ofCs l = some xs → VCs μ xs l
  | [], xs, h => by simp [ofCs] at h; subst h; exact .nil
  | v :: r, xs, h => by
    simp only [ofCs, Option.bind_eq_some_iff, Option.map_eq_some_iff] at h
    obtain ⟨x, h1, l, h2, rfl⟩ := h
    exact .cons _ _ _ _ (ofC_rel h1 μ) (ofCs_rel μ h2)

theorem ofV_rel {v : Value} {x : AV} (h : ofV v = some x) (μ : Pl) : VA μ x v := by
  unfold ofV at h
  split at h
  · simp only [Option.map_eq_some_iff] at h
    obtain ⟨l, h1, rfl⟩ := h
    exact .agg _ _ (ofCs_rel μ h1)
  · simp only [Option.map_eq_some_iff] at h
    obtain ⟨l, h1, rfl⟩ := h
    exact .c _ _ (ofC_rel h1 μ)

theorem ofK_rel {v : Value} {x : AV} (h : ofK v = some x) (μ : Pl) : VA μ x v := by
  unfold ofK at h
  split at h
  · cases h; exact .np
  · exact ofV_rel h μ

/-- An operand means what the engine says. -/
def Ok (cf : Cfg) (μ : Pl) (e : Env) (ρ : Operand → Value) (x : Operand) : Prop := ∀ v, ev cf e x = some v → VA μ v (ρ x)

theorem VA.inv_c {μ : Pl} {a : CV} {v : Value} (h : VA μ (.c a) v) : VC μ a v := by cases h; assumption
theorem VA.inv_agg {μ : Pl} {a : List CV} {v : Value} (h : VA μ (.agg a) v) : ∃ vs, v = .agg vs ∧ VCs μ a vs.toList := by cases h; exact ⟨_, rfl, by assumption⟩
theorem VA.inv_tup {μ : Pl} {a : List AV} {v : Value} (h : VA μ (.tup a) v) : ∃ vs, v = .tuple vs ∧ VAs μ a vs.toList := by cases h; exact ⟨_, rfl, by assumption⟩

section
variable {cf : Cfg} {μ : Pl} {e : Env} {ρ : Operand → Value}

theorem evC_rel {x : Operand} (hx : Ok cf μ e ρ x) {v : CV} (h : evC cf e x = some v) : VC μ v (ρ x) := by
  unfold evC at h
  obtain ⟨a, h1, h2⟩ := Option.bind_eq_some_iff.1 h
  cases a <;> simp [AV.cell] at h2
  subst h2
  exact (hx _ h1).inv_c

theorem evs_rel : ∀ {l : List Operand} {vs : List AV}, (∀ x ∈ l, Ok cf μ e ρ x) → evs cf e l = some vs → VAs μ vs (l.map ρ)
  | [], vs, _, h => by simp [evs] at h; subst h; exact .nil
  | x :: r, vs, hx, h => by
    simp only [evs, Option.bind_eq_some_iff, Option.map_eq_some_iff] at h
    obtain ⟨v, h1, l, h2, rfl⟩ := h
    exact .cons _ _ _ _ (hx x (by simp) v h1) (evs_rel (fun y hy => hx y (by simp [hy])) h2)

theorem evCs_rel : ∀ {l : List Operand} {vs : List CV}, (∀ x ∈ l, Ok cf μ e ρ x) → evCs cf e l = some vs → VCs μ vs (l.map ρ)
  | [], vs, _, h => by simp [evCs] at h; subst h; exact .nil
  | x :: r, vs, hx, h => by
    simp only [evCs, Option.bind_eq_some_iff, Option.map_eq_some_iff] at h
    obtain ⟨v, h1, l, h2, rfl⟩ := h
    exact .cons _ _ _ _ (evC_rel (hx x (by simp)) h1) (evCs_rel (fun y hy => hx y (by simp [hy])) h2)

theorem evO_rel {x : Option Operand} (hx : ∀ y ∈ x.toArray, Ok cf μ e ρ y) {v : Option CV} (h : evO cf e x = some v) : (x = none ∧ v = none) ∨ ∃ y u, x = some y ∧ v = some u ∧ VC μ u (ρ y) := by
  cases x with
  | none => simp [evO] at h; exact .inl ⟨rfl, h.symm⟩
  | some y =>
    simp only [evO, Option.map_eq_some_iff] at h
    obtain ⟨u, h1, rfl⟩ := h
    exact .inr ⟨y, u, rfl, rfl, evC_rel (hx y (by simp)) h1⟩
end

/-- What an operation came to is what the engine says. -/
def Did (P : Program) (cf : Cfg) (n0 fl : Nat) (μ : Pl) (w : World) (h : AH) (r : Result Next) (v : AV) (h' : AH) : Prop :=
  (∃ u μ' w', (r = .ok (.value u) w' ∨ (r = .ok .skip w' ∧ u = undef)) ∧ VA μ' v u ∧ Step cf n0 fl μ w h μ' w' h') ∨
  (∃ g as, r = .ok (.enter g as) w ∧ Calls P g as w (fun en w' => ∃ u μ', en = .returned u ∧ VA μ' v u ∧ Step cf n0 fl μ w h μ' w' h'))

section
variable {P : Program} {cf : Cfg} {n0 fl : Nat} {μ : Pl} {w w' : World} {h : AH} {r : Result Next} {v : AV} {h' : AH}

theorem Did.wp {o : Oper} {a : Act} (d : Did P cf n0 fl μ w h ((execOp a.eval o).run P w) v h') {K : Act → World → Prop} {Q : Exit → Act → World → Prop}
    (hK : ∀ u μ' w', VA μ' v u → Step cf n0 fl μ w h μ' w' h' → K (a.put o.dst u) w') : o.wp P a w K Q := by
  unfold Oper.wp
  rcases d with ⟨u, μ', w', hr, hv, hs⟩ | ⟨g, as, hr, hc⟩
  · rcases hr with hr | ⟨hr, rfl⟩
    · rw [hr]; exact hK u μ' w' hv hs
    · rw [hr]; exact hK undef μ' w' hv hs
  · rw [hr]
    refine hc.mono fun en w' ⟨u, μ', he, hv, hs⟩ => ?_
    subst he
    exact hK u μ' w' hv hs

/-- An operation that yields a value and leaves all as it is. -/
theorem Did.same (R : Rel cf n0 μ w h) {u : Value} (hr : r = .ok (.value u) w) (hv : VA μ v u) : Did P cf n0 fl μ w h r v h :=
  .inl ⟨u, μ, w, .inl hr, hv, .refl R⟩

theorem run_v {s : Sem Value} {u : Value} (hs : s.run P w = .ok u w') : (do pure (Next.value (← s)) : Sem Next).run P w = .ok (.value u) w' := by
  simp [Sem.run_bind, hs]

theorem run_info {t : TypeId} {i : TypeInfo} (hi : P.info? t = some i) : (typeInfo t).run P w = .ok i w := by
  simp [typeInfo, hi]

theorem run_size {t : TypeId} {s : Nat} (hi : sizeT P t = some s) : (sizeOf t).run P w = .ok s w := by
  unfold sizeT at hi
  obtain ⟨i, h1, rfl⟩ := Option.map_eq_some_iff.1 hi
  simp [sizeOf, Sem.run_bind, run_info h1]

theorem run_zero {t : TypeId} {z : AV} (hz : zeroT P t = some z) (μ : Pl) : ∃ u, (zeroValue t).run P w = .ok u w ∧ VA μ z u := by
  unfold zeroT at hz
  obtain ⟨u, h1, h2⟩ := Option.bind_eq_some_iff.1 hz
  obtain ⟨i, h3, h4⟩ := Option.bind_eq_some_iff.1 h1
  refine ⟨u, ?_, ofV_rel h2 μ⟩
  simp [zeroValue, Sem.run_bind, run_info h3, h4]

theorem run_aggT {t : TypeId} {b : Bool} (hb : aggT P t = some b) : (isAgg t).run P w = .ok b w := by
  unfold aggT at hb
  cases hu : P.underlying t with
  | none => simp [hu] at hb
  | some d =>
    simp only [hu] at hb
    cases d <;> simp at hb <;> subst hb <;> simp [isAgg, Sem.run_bind, run_underlying hu]

/-! ### whole numbers, bools, strings -/

theorem equal_run {t : TypeId} {d : TypeDesc} (hu : P.underlying t = some d) {a b : Value} {r : Bool}
    (h : (match d, a, b with
      | .bool, .bool a, .bool b => some (a == b)
      | .slice _, .slice none _ _, .slice b _ _ => some b.isNone
      | .slice _, .slice (some _) _ _, .slice none _ _ => some false
      | _, _, _ => none) = some r) : (Op.equal t a b).run P w = .ok r w := by
  show (Op.equalIn (9999 + 1) t a b).run P w = _
  rw [Op.equalIn]
  simp only [Sem.run_bind, run_underlying hu, Result.andThen_ok]
  split at h <;> simp at h <;> subst h <;> simp

theorem eqA_run {op : BinOp} {t : TypeId} {x y : CV} {v : CV} {a b : Value} (hv : eqA P t op x y = some v) (hx : VC μ x a) (hy : VC μ y b) : ∃ u, (binOp op t a b).run P w = .ok u w ∧ VC μ v u := by
  have nn : ∀ {i off len sz : Nat} {a : Value}, 0 < len → VC μ (.sl i off len sz) a → ∃ p n c, a = .slice (some p) n c := fun hl hx => by
    cases hx with
    | sl i off len sz b o e cap => exact ⟨_, _, _, rfl⟩
    | sz => omega
  unfold eqA at hv
  split at hv
  · rename_i a b hu; cases hx; cases hy; injection hv with hv; subst hv
    exact ⟨_, by simp [binOp, Sem.run_bind, equal_run hu (a := .bool a) (b := .bool b) rfl], .bool _⟩
  · rename_i a b hu; cases hx; cases hy; injection hv with hv; subst hv
    exact ⟨_, by simp [binOp, Sem.run_bind, equal_run hu (a := .bool a) (b := .bool b) rfl], .bool _⟩
  · rename_i hu; cases hx; cases hy; injection hv with hv; subst hv
    exact ⟨_, by simp [binOp, Sem.run_bind, equal_run hu (a := .slice none 0 0) (b := .slice none 0 0) rfl], .bool _⟩
  · rename_i hu; cases hx; cases hy; injection hv with hv; subst hv
    exact ⟨_, by simp [binOp, Sem.run_bind, equal_run hu (a := .slice none 0 0) (b := .slice none 0 0) rfl], .bool _⟩
  · rename_i i off len sz hu; cases hy; injection hv with hv; subst hv
    have : ∃ p n c, a = .slice (some p) n c := by cases hx <;> exact ⟨_, _, _, rfl⟩
    obtain ⟨p, n, c, rfl⟩ := this
    exact ⟨_, by simp [binOp, Sem.run_bind, equal_run hu (a := .slice (some p) n c) (b := .slice none 0 0) rfl], .bool _⟩
  · rename_i i off len sz hu; cases hy; injection hv with hv; subst hv
    have : ∃ p n c, a = .slice (some p) n c := by cases hx <;> exact ⟨_, _, _, rfl⟩
    obtain ⟨p, n, c, rfl⟩ := this
    exact ⟨_, by simp [binOp, Sem.run_bind, equal_run hu (a := .slice (some p) n c) (b := .slice none 0 0) rfl], .bool _⟩
  · rename_i i off len sz hu; cases hy; split at hv
    · rename_i hl; injection hv with hv; subst hv
      obtain ⟨p, n, c, rfl⟩ := nn hl hx
      exact ⟨_, by simp [binOp, Sem.run_bind, equal_run hu (a := .slice (some p) n c) (b := .slice none 0 0) rfl], .bool _⟩
    · simp at hv
  · rename_i i off len sz hu; cases hy; split at hv
    · rename_i hl; injection hv with hv; subst hv
      obtain ⟨p, n, c, rfl⟩ := nn hl hx
      exact ⟨_, by simp [binOp, Sem.run_bind, equal_run hu (a := .slice (some p) n c) (b := .slice none 0 0) rfl], .bool _⟩
    · simp at hv
  · simp at hv

theorem binA_run {op : BinOp} {t : TypeId} {x y : CV} {v : CV} {a b : Value} (hv : binE P op t x y = some v) (hx : VC μ x a) (hy : VC μ y b) : ∃ u, (binOp op t a b).run P w = .ok u w ∧ VC μ v u := by
  unfold binE at hv
  split at hv
  · rename_i k n k' m
    cases hx; cases hy
    unfold binA at hv
    cases op <;> simp only at hv <;> (split at hv <;> first | (simp at hv; done) | skip) <;>
      (try subst_vars) <;> (try (split at hv <;> first | (simp at hv; done) | skip)) <;> injection hv with hv <;> subst hv <;>
      (refine ⟨_, ?_, by constructor⟩; first | (simp_all [binOp, Op.shift, Op.intArith, Op.intDiv, Op.intBits, Op.intCmp]; done) | (simp [binOp, Op.shift]; intro; omega))
  · rename_i s u
    cases hx; cases hy
    unfold binA at hv
    cases op <;> simp at hv <;> subst hv <;> (refine ⟨_, ?_, by constructor⟩; simp [binOp, Op.stringOp])
  · exact eqA_run hv hx hy

theorem eqGuard_run {op : BinOp} {t : TypeId} {x y : Operand} {a b : CV} {u v : Value} (hx : VC μ a u) (hy : VC μ b v) : (eqGuard op t x y u v).run P w = .ok () w := by
  unfold eqGuard
  cases hx <;> cases hy <;> cases op <;> simp

theorem unA_run {op : UnOp} {x : CV} {v : CV} {a : Value} (hv : unA op x = some v) (hx : VC μ x a) : ∃ u, (Op.unary op a).run P w = .ok u w ∧ VC μ v u := by
  unfold unA at hv
  split at hv <;> first | (simp at hv; done) | skip
  all_goals (cases hx; injection hv with hv; subst hv; refine ⟨_, ?_, by constructor⟩; simp [Op.unary, Op.intArith])

theorem extractA_run {x : AV} {i : Nat} {v : AV} {a : Value} (hv : extractA x i = some v) (hx : VA μ x a) : ∃ u, (Instr.extract a i).run P w = .ok u w ∧ VA μ v u := by
  unfold extractA at hv
  split at hv
  · rename_i vs
    obtain ⟨us, rfl, h1⟩ := hx.inv_tup
    have key : ∀ {l : List AV} {ws : List Value}, VAs μ l ws → ∀ (i : Nat) (a : AV), l[i]? = some a → ∃ v, ws[i]? = some v ∧ VA μ a v := by
      intro l ws hl
      induction l generalizing ws with
      | nil => intro i a h; simp at h
      | cons y l ih =>
        cases hl with
        | cons _ u _ us' hu ht =>
          intro i a h
          cases i with
          | zero => simp at h; subst h; exact ⟨u, by simp, hu⟩
          | succ i => obtain ⟨v, h1, h2⟩ := ih ht i a (by simpa using h); exact ⟨v, by simpa using h1, h2⟩
    obtain ⟨u, h2, h3⟩ := key h1 i v hv
    refine ⟨u, ?_, h3⟩
    have : us[i]? = some u := by simpa using h2
    simp [Instr.extract, this]
  · simp at hv

theorem lenA_run {t : TypeId} {x v : CV} {a : Value} {ty : TypeId} {ts : Array TypeId} (ht : ts[0]? = some t) (hv : lenA P t x = some v) (hx : VC μ x a) : ∃ u, (Builtin.len_ ts ty #[a]).run P w = .ok u w ∧ VC μ v u := by
  unfold lenA at hv
  split at hv <;> first | (simp at hv; done) | skip
  all_goals
    rename_i hu
    injection hv with hv; subst hv
    cases hx <;> (refine ⟨_, ?_, .int _ _⟩; simp [Builtin.len_, ht, Sem.run_bind, run_underlying hu, goInt])

theorem minmax_run {mx : Bool} {args : List CV} {v : CV} {as : List Value} {ts : Array TypeId} {ty : TypeId} (hv : minmaxA mx args = some v) (hx : VCs μ args as) :
    ∃ u, ((if mx then Builtin.max_ ts ty as.toArray else Builtin.min_ ts ty as.toArray)).run P w = .ok u w ∧ VC μ v u := by
  unfold minmaxA at hv
  split at hv
  · rename_i k x k' y
    injection hv with hv; subst hv
    cases hx with
    | cons _ a _ l h1 h2 =>
      cases h2 with
      | cons _ b _ l h3 h4 =>
        cases h4; cases h1; cases h3
        cases mx
        · refine ⟨_, ?_, .int _ _⟩; simp [Builtin.min_, Builtin.min2]
        · refine ⟨_, ?_, .int _ _⟩; simp [Builtin.max_, Builtin.max2]
  · simp at hv
end
end Go.Eng
end
section
/- The engine: the operations on the memory. No conditions. -/
namespace Go.Eng

theorem choose_list {α : Type} (p : Nat → α → Prop) : ∀ (n : Nat), (∀ j, j < n → ∃ v, p j v) → ∃ vs : List α, vs.length = n ∧ ∀ j v, vs[j]? = some v → p j v
  | 0, _ => ⟨[], rfl, fun j v h => by simp at h⟩
  | n + 1, h => by
    obtain ⟨vs, h1, h2⟩ := choose_list p n fun j hj => h j (by omega)
    obtain ⟨v, hv⟩ := h n (by omega)
    refine ⟨vs ++ [v], by simp [h1], fun j u hj => ?_⟩
    by_cases e : j < n
    · rw [List.getElem?_append_left (by omega)] at hj; exact h2 j u hj
    · rw [List.getElem?_append_right (by omega)] at hj
      by_cases e' : j = n
      · subst e'; simp [h1] at hj; subst hj; exact hv
      · rw [show j - vs.length = (j - n - 1) + 1 by omega] at hj; simp at hj

theorem sub_cells {x y : AO} {off n : Nat} (h : x.sub off n = some y) : y.cells = (x.cells.drop off).take n ∧ off + n ≤ x.cells.length ∧ x ≠ .dead ∧ y ≠ .dead := by
  cases x <;> simp only [AO.sub] at h
  · split at h
    · injection h with h; subst h; simp_all [AO.cells, List.map_take, List.map_drop]
    · simp at h
  · split at h
    · injection h with h; subst h; simp_all [AO.cells]
    · simp at h
  · simp at h

theorem ld_cells {h : AH} {i off : Nat} {a : CV} (hl : ld h i off = some a) : ∃ x, h[i]? = some x ∧ x.cells[off]? = some a ∧ x ≠ .dead := by
  unfold ld at hl
  split at hl
  · rename_i k l hx
    exact ⟨_, hx, by simpa [AO.cells] using hl, by simp⟩
  · rename_i l hx
    exact ⟨_, hx, hl, by simp⟩
  · simp at hl

theorem set1_cells {x y : AO} {off : Nat} {a : CV} (h : x.set1 off a = some y) : y.cells = x.cells.set off a ∧ off < x.cells.length ∧ x ≠ .dead ∧ y ≠ .dead := by
  unfold AO.set1 at h
  split at h
  · split at h
    · rename_i hk; obtain ⟨rfl, hl⟩ := hk; injection h with h; subst h; simp_all [AO.cells, List.map_set]
    · simp at h
  · split at h
    · injection h with h; subst h; simp_all [AO.cells]
    · simp at h
  · simp at h

theorem sets_cells : ∀ {vs : List CV} {x y : AO} {off : Nat}, x.sets off vs = some y → x ≠ .dead → y ≠ .dead ∧ y.cells.length = x.cells.length ∧ (vs = [] ∨ off + vs.length ≤ x.cells.length) ∧
    (∀ j, j < vs.length → y.cells[off + j]? = vs[j]?) ∧ (∀ j, j < off ∨ off + vs.length ≤ j → y.cells[j]? = x.cells[j]?)
  | [], x, y, off, h, hd => by simp [AO.sets] at h; subst h; exact ⟨hd, rfl, .inl rfl, fun j hj => by simp at hj, fun _ _ => rfl⟩
  | v :: r, x, y, off, h, hd => by
    simp only [AO.sets, Option.bind_eq_some_iff] at h
    obtain ⟨z, h1, h2⟩ := h
    obtain ⟨a1, a2, _, a4⟩ := set1_cells h1
    obtain ⟨b1, b2, b3, b4, b5⟩ := sets_cells h2 a4
    have hz : z.cells.length = x.cells.length := by rw [a1]; simp
    refine ⟨b1, by omega, .inr ?_, fun j hj => ?_, fun j hj => ?_⟩
    · rcases b3 with rfl | b3
      · simp; omega
      · simp; omega
    · cases j with
      | zero => 
        rw [b5 _ (.inl (by omega)), a1]; simp [a2]
      | succ j =>
        have := b4 j (by simpa using hj)
        rw [show off + (j + 1) = off + 1 + j by omega, this]; simp
    · have hj' : j < off ∨ off + (r.length + 1) ≤ j := by simpa using hj
      rw [b5 j (by omega), a1, List.getElem?_set_ne (by omega)]

section
variable {P : Program} {cf : Cfg} {n0 fl : Nat} {μ : Pl} {w w' : World} {h : AH}

/-- The cells of a part of an object. -/
theorem window (R : Rel cf n0 μ w h) {i b o e off n : Nat} {x y : AO} (hi : μ i = some (b, o, e)) (hx : h[i]? = some x) (hs : x.sub off n = some y) :
    ∃ vs : List Value, vs.length = n ∧ VCs μ y.cells vs ∧ ∀ (j : Nat) (v : Value), vs[j]? = some v → w.cell? ⟨b, o + off + j, none⟩ = some v := by
  obtain ⟨h1, h2, _, _⟩ := sub_cells hs
  obtain ⟨_, hv⟩ := R.val i b o e x hi hx
  have hc : ∀ j, j < n → ∃ v, w.cell? ⟨b, o + off + j, none⟩ = some v ∧ ∃ a, y.cells[j]? = some a ∧ VC μ a v := fun j hj => by
    have hlt : off + j < x.cells.length := by omega
    obtain ⟨v, k1, k2⟩ := hv (off + j) x.cells[off + j] (List.getElem?_eq_getElem hlt)
    refine ⟨v, by rw [Nat.add_assoc]; exact k1, _, ?_, k2⟩
    rw [h1, List.getElem?_take_of_lt hj, List.getElem?_drop, List.getElem?_eq_getElem hlt]
  obtain ⟨vs, v1, v2⟩ := choose_list _ n hc
  have hl : y.cells.length = n := by rw [h1]; simp; omega
  refine ⟨vs, v1, VCs.of_get (by omega) fun j a v ha hv' => ?_, fun j v hv' => (v2 j v hv').1⟩
  obtain ⟨_, a', ha', hr⟩ := v2 j v hv'
  rw [ha] at ha'; cases ha'; exact hr

theorem load_run (R : Rel cf n0 μ w h) {t : TypeId} {i off : Nat} {v : AV} {b o e : Nat} (hi : μ i = some (b, o, e)) (hv : loadA P t h i off = some v) :
    ∃ u, (loadVar t ⟨b, o + off, none⟩).run P w = .ok u w ∧ VA μ v u := by
  unfold loadA at hv
  split at hv
  · rename_i ha
    obtain ⟨s, h1, hv⟩ := Option.bind_eq_some_iff.1 hv
    obtain ⟨x, h2, hv⟩ := Option.bind_eq_some_iff.1 hv
    obtain ⟨y, h3, rfl⟩ := Option.map_eq_some_iff.1 hv
    obtain ⟨vs, v1, v2, v3⟩ := window R hi h2 h3
    have := run_loadCells_list (P := P) w ⟨b, o + off, none⟩ vs (fun j v hj => by rw [Addr.add_lit]; exact v3 j v hj)
    rw [v1] at this
    refine ⟨.agg vs.toArray, ?_, .agg _ _ (by simpa using v2)⟩
    simp [loadVar, Sem.run_bind, run_aggT ha, run_size h1, this]
  · rename_i ha
    obtain ⟨a, hv', rfl⟩ := Option.map_eq_some_iff.1 hv
    obtain ⟨x, h1, h2, _⟩ := ld_cells hv'
    obtain ⟨u, k1, k2⟩ := (R.val i b o e x hi h1).2 off a h2
    refine ⟨u, ?_, .c _ _ k2⟩
    simp [loadVar, Sem.run_bind, run_aggT ha, load, Sem.run, k1]
  · simp at hv

theorem store_run (R : Rel cf n0 μ w h) (hn : n0 ≤ fl) {t : TypeId} {i off : Nat} {v : AV} {u : Value} {h' : AH} {b o e : Nat} (hi : μ i = some (b, o, e)) (hv : storeA P t fl h i off v = some h') (hu : VA μ v u) :
    ∃ w', (storeVar t ⟨b, o + off, none⟩ u).run P w = .ok () w' ∧ Step cf n0 fl μ w h μ w' h' := by
  unfold storeA at hv
  split at hv
  · rename_i hfl
    obtain ⟨s, h1, hv⟩ := Option.bind_eq_some_iff.1 hv
    split at hv
    · rename_i hs
      obtain ⟨ho, hs⟩ := hs
      obtain ⟨x, h2, hv⟩ := Option.bind_eq_some_iff.1 hv
      obtain ⟨y, h3, rfl⟩ := Option.map_eq_some_iff.1 hv
      have hcs := hu.cells ho
      have hlen := hcs.length
      have hdx : x ≠ .dead ∨ v.cells = [] := by
        by_cases e : x = .dead
        · subst e; cases hc : v.cells with
          | nil => exact .inr rfl
          | cons a r => rw [hc] at h3; simp [AO.sets, AO.set1] at h3
        · exact .inl e
      obtain ⟨cs, ty, fz, k1, k2⟩ := R.blk i b o e hi
      obtain ⟨cs', a1, a2, a3, a4⟩ := setCells_heap b u.cells.toList (o + off) w cs ty fz k1
      obtain ⟨r1, r2, r3, r4⟩ := setCells_rest b u.cells.toList (o + off) w
      rcases hdx with hdx | hnil
      · obtain ⟨b1, b2, b3, b4, b5⟩ := sets_cells h3 hdx
        obtain ⟨v1, v2⟩ := R.val i b o e x hi h2
        have hbd : v.cells.length = 0 ∨ off + v.cells.length ≤ x.cells.length := by
          rcases b3 with e | e
          · left; rw [e]; rfl
          · exact .inr e
        have hst := run_storeCells_cells (P := P) b (o + off) u.cells.toList 0 w
          (fun j hj => by
            have hlt : off + j < x.cells.length := by omega
            obtain ⟨z, z1, _⟩ := v2 (off + j) _ (List.getElem?_eq_getElem hlt)
            rw [show o + off + 0 + j = o + (off + j) by omega, z1]; rfl)
          (fun j hj => wfz_frozen (R.frz i b o e hi (by omega) _ (by omega))) (hcs.one)
        refine ⟨w.setCells b (o + off) u.cells.toList, ?_, ?_⟩
        · have hsz : u.cells.size = s := by rw [← hs, ← hlen]; simp
          simp [storeVar, Sem.run_bind, run_size h1, hsz]
          simpa using hst
        · refine Step.write R hn i b o e y hfl hi (fun hd => hdx (by rw [h2] at hd; cases hd; rfl)) cs cs' ty fz k1 a1 a2 (fun k hk => setCells_other b _ _ _ k hk) r4 r1 r2 r3 (by omega) fun c a hc => ?_
          by_cases hin : off ≤ c ∧ c < off + v.cells.length
          · obtain ⟨j, rfl⟩ : ∃ j, c = off + j := ⟨c - off, by omega⟩
            rw [b4 j (by omega)] at hc
            obtain ⟨z, z1, z2⟩ := hcs.get j a hc
            refine ⟨z, ?_, z2⟩
            rw [← Nat.add_assoc, a3 j (by omega) (by omega)]; exact z1
          · rw [b5 c (by omega)] at hc
            obtain ⟨z, z1, z2⟩ := v2 c a hc
            refine ⟨z, ?_, z2⟩
            rw [a4 (o + c) (by omega)]
            rw [cell_of _ _ _ _ _ _ k1] at z1; exact z1
      · rw [hnil] at h3 hs hlen
        simp [AO.sets] at h3; subst h3
        have hnl : u.cells.toList = [] := List.eq_nil_of_length_eq_zero (by simpa using hlen)
        have hset : h.set i x = h := by
          obtain ⟨hlt, rfl⟩ := List.getElem?_eq_some_iff.1 h2
          simp
        refine ⟨w, ?_, by rw [hset]; exact Step.refl R⟩
        have hsz : u.cells.size = s := by rw [← hs]; simpa using hlen
        simp [storeVar, Sem.run_bind, run_size h1, hsz, hnl, storeCells]
    · simp at hv
  · simp at hv

/-! ### addresses -/

theorem slInv {i off len sz : Nat} {a : Value} (hx : VC μ (.sl i off len sz) a) : (∃ b o e cap, μ i = some (b, o, e) ∧ len ≤ cap ∧ off + cap * sz ≤ e ∧ a = .slice (some ⟨b, o + off, none⟩) len cap) ∨ (len = 0 ∧ ∃ p, a = .slice p 0 0) := by
  cases hx with
  | sl i off len sz b o e cap h1 h2 h3 => exact .inl ⟨b, o, e, cap, h1, h2, h3, rfl⟩
  | sz i off sz p => exact .inr ⟨rfl, p, rfl⟩

theorem ptrInv {i off : Nat} {a : Value} (hx : VC μ (.ptr i off) a) : ∃ b o e, μ i = some (b, o, e) ∧ a = .pointer (some ⟨b, o + off, none⟩) := by
  cases hx with
  | ptr i off b o e h1 => exact ⟨b, o, e, h1, rfl⟩

theorem intInv {k : IntKind} {n : Int} {a : Value} (hx : VC μ (.int k n) a) : a = .int k n := by cases hx; rfl

theorem fieldOf_run {t : TypeId} {f : Nat} {p : Nat × Nat × Bool} (hp : fieldOf P t f = some p) : ∃ fs x, P.underlying t = some (.struct fs) ∧ fs[f]? = some x ∧ sizeT P x.type = some p.2.1 ∧ aggT P x.type = some p.2.2 ∧ x.offset = p.1 := by
  unfold fieldOf at hp
  split at hp
  · rename_i fs hu
    obtain ⟨x, h1, hp⟩ := Option.bind_eq_some_iff.1 hp
    obtain ⟨s, h2, hp⟩ := Option.bind_eq_some_iff.1 hp
    obtain ⟨a, h3, rfl⟩ := Option.map_eq_some_iff.1 hp
    exact ⟨fs, x, hu, h1, h2, h3, rfl⟩
  · simp at hp

theorem fieldAddr_run {t : TypeId} {x v : CV} {f : Nat} {a : Value} (hv : fieldAddrA P t x f = some v) (hx : VC μ x a) : ∃ u, (Instr.fieldAt t a f).run P w = .ok u w ∧ VC μ v u := by
  unfold fieldAddrA at hv
  split at hv
  · rename_i i off
    obtain ⟨p, h1, hv⟩ := Option.bind_eq_some_iff.1 hv
    split at hv
    · rename_i hp
      injection hv with hv; subst hv
      obtain ⟨fs, y, h2, h3, h4, h5, h6⟩ := fieldOf_run h1
      obtain ⟨b, o, e, hi, rfl⟩ := ptrInv hx
      refine ⟨.pointer (some ⟨b, o + (off + p.1), none⟩), ?_, .ptr _ _ b o e hi⟩
      have hne : ¬ p.2.1 = 0 := by omega
      simp [Instr.fieldAt, Sem.run_bind, run_underlying h2, h3, Instr.sureAddr, fieldPlace, run_size h4, hne, h6, Nat.add_assoc, Addr.add_lit]
    · simp at hv
  · simp at hv

theorem field_run {t : TypeId} {x v : AV} {f : Nat} {a : Value} (hv : fieldA P t x f = some v) (hx : VA μ x a) : ∃ u, (Instr.field t a f).run P w = .ok u w ∧ VA μ v u := by
  unfold fieldA at hv
  split at hv
  · rename_i cs
    obtain ⟨p, h1, hv⟩ := Option.bind_eq_some_iff.1 hv
    obtain ⟨fs, y, h2, h3, h4, h5, h6⟩ := fieldOf_run h1
    obtain ⟨vs, rfl, hvs⟩ := hx.inv_agg
    split at hv
    · rename_i hp
      rw [hp] at h5
      split at hv
      · rename_i hl
        injection hv with hv; subst hv
        refine ⟨.agg (vs.extract p.1 (p.1 + p.2.1)), ?_, .agg _ _ ?_⟩
        · simp [Instr.field, Sem.run_bind, run_underlying h2, h3, asAgg, part, run_aggT h5, run_size h4, h6]
        · have hlen := hvs.length
          refine VCs.of_get (by simp; simp at hlen; omega) fun j a v ha hv => ?_
          have hj : j < p.2.1 := by
            rcases Nat.lt_or_ge j p.2.1 with hj | hj
            · exact hj
            · rw [List.getElem?_take_eq_none hj] at ha; simp at ha
          rw [List.getElem?_take_of_lt hj, List.getElem?_drop] at ha
          obtain ⟨z, z1, z2⟩ := hvs.get _ a ha
          have : v = z := by
            have e : (vs.extract p.1 (p.1 + p.2.1)).toList[j]? = vs.toList[p.1 + j]? := by
              have hlv : p.1 + p.2.1 ≤ vs.size := by simpa using (hlen ▸ hl : p.1 + p.2.1 ≤ vs.toList.length)
              rw [Array.getElem?_toList, Array.getElem?_extract, Array.getElem?_toList, if_pos (by omega)]
            rw [e, z1] at hv; cases hv; rfl
          rw [this]; exact z2
      · simp at hv
    · rename_i hp
      have hp' : p.2.2 = false := by simpa using hp
      rw [hp'] at h5
      obtain ⟨a, h7, rfl⟩ := Option.map_eq_some_iff.1 hv
      obtain ⟨z, z1, z2⟩ := hvs.get _ a h7
      refine ⟨z, ?_, .c _ _ z2⟩
      have z1' : vs[p.1]? = some z := by simpa using z1
      simp [Instr.field, Sem.run_bind, run_underlying h2, h3, asAgg, part, run_aggT h5, h6, z1']
  · simp at hv

theorem indexAddr_run {t : TypeId} {x ix v : CV} {a b : Value} (hv : indexAddrA P t x ix = some v) (hx : VC μ x a) (hy : VC μ ix b) : ∃ u, (Instr.indexAt t a b).run P w = .ok u w ∧ VC μ v u := by
  unfold indexAddrA at hv
  split at hv
  · rename_i k n
    have := intInv hy; subst this
    split at hv
    · rename_i i off len sz
      obtain ⟨el, h1, hv⟩ := Option.bind_eq_some_iff.1 hv
      obtain ⟨s, h2, hv⟩ := Option.bind_eq_some_iff.1 hv
      split at hv
      · rename_i hc
        obtain ⟨rfl, hn1, hn2⟩ := hc
        injection hv with hv; subst hv
        have hu : P.underlying t = some (.slice el) := by
          unfold elemS at h1; split at h1 <;> simp at h1; subst h1; assumption
        rcases slInv hx with ⟨b, o, e, cap, hi, hl, he, rfl⟩ | ⟨h0, _⟩
        · refine ⟨.pointer (some ⟨b, o + (off + n.toNat * s), none⟩), ?_, .ptr _ _ b o e hi⟩
          have hcond : 0 ≤ n ∧ n < (len : Int) := ⟨hn1, hn2⟩
          simp [Instr.indexAt, Sem.run_bind, asIntOf, run_underlying hu, run_size h2, hcond, Nat.add_assoc, Addr.add_lit]
        · omega
      · simp at hv
    · rename_i i off
      split at hv
      · rename_i len el hu
        obtain ⟨s, h2, hv⟩ := Option.bind_eq_some_iff.1 hv
        split at hv
        · rename_i hc
          injection hv with hv; subst hv
          obtain ⟨b, o, e, hi, rfl⟩ := ptrInv hx
          refine ⟨.pointer (some ⟨b, o + (off + n.toNat * s), none⟩), ?_, .ptr _ _ b o e hi⟩
          simp [Instr.indexAt, Sem.run_bind, asIntOf, run_underlying hu, run_size h2, hc, Instr.sureAddr, Nat.add_assoc, Addr.add_lit]
        · simp at hv
      · simp at hv
    · simp at hv
  · simp at hv

theorem index_run {t : TypeId} {x ix v : CV} {a b : Value} (hv : indexA P t x ix = some v) (hx : VC μ x a) (hy : VC μ ix b) : ∃ u, (Instr.index t a b).run P w = .ok u w ∧ VC μ v u := by
  unfold indexA at hv
  split at hv
  · rename_i k n s
    have := intInv hy; subst this
    have : a = .string s := by cases hx; rfl
    subst this
    cases hu : P.underlying t with
    | none => simp [hu] at hv
    | some d =>
      rw [hu] at hv
      cases d <;> simp at hv
      obtain ⟨hc, rfl⟩ := hv
      have hlt : n.toNat < s.size := by omega
      have hd : s[n.toNat]? = some s[n.toNat] := by simp [hlt]
      refine ⟨.int .u8 (s[n.toNat].toNat : Int), ?_, ?_⟩
      · simp [Instr.index, Sem.run_bind, asIntOf, run_underlying hu, hc.1, hd]
      · have : s.data.getD n.toNat 0 = s[n.toNat] := by
          rw [Array.getD, dif_pos (by simpa using hlt)]; rfl
        simp at this
        simp [this]
        exact .int _ _
  · simp at hv
end
end Go.Eng
end
section
/- The engine: the operations that make memory. No conditions. -/
namespace Go.Eng

theorem VCs.set {μ : Pl} : ∀ {l : List CV} {vs : List Value}, VCs μ l vs → ∀ (i : Nat) {a : CV} {v : Value}, VC μ a v → VCs μ (l.set i a) (vs.set i v)
  | _, _, .nil, i, _, _, _ => by simp; exact .nil
  | _, _, .cons a v l vs h t, 0, _, _, k => .cons _ _ _ _ k t
  | _, _, .cons a v l vs h t, i + 1, _, _, k => .cons _ _ _ _ h (t.set i k)

theorem fold_set {μ : Pl} : ∀ {vs : List CV} {us : List Value}, VCs μ vs us → ∀ (off k : Nat) {cs : List CV} {arr : Array Value}, VCs μ cs arr.toList →
    VCs μ (setAll cs (off + k) vs) ((us.zipIdx k).foldl (fun (cs : Array Value) (p : Value × Nat) => cs.setIfInBounds (off + p.2) p.1) arr).toList
  | _, _, .nil, off, k, cs, arr, h => by simpa [setAll] using h
  | _, _, .cons a v l vs ha t, off, k, cs, arr, h => by
    simp only [List.zipIdx_cons, List.foldl_cons, setAll]
    have := fold_set t off (k + 1) (cs := cs.set (off + k) a) (arr := arr.setIfInBounds (off + k) v) (by simpa using h.set (off + k) ha)
    simpa [Nat.add_assoc] using this

theorem VA.csize {μ : Pl} {a : AV} {v : Value} (h : VA μ a v) (ho : a.one = true) : v.cells.size = a.cells.length := by
  have := (h.cells ho).length; simpa using this

section
variable {P : Program} {cf : Cfg} {n0 fl : Nat} {μ : Pl} {w : World} {h : AH} {e : Env} {ρ : Operand → Value}

theorem fill_run {place : Nat → Option (Nat × Nat)} : ∀ {ps : List (Nat × Operand)} {qs : List (Nat × AV)} {cs cs' : List CV} {arr : Array Value}, (∀ x ∈ ps.map (·.2), Ok cf μ e ρ x) → evParts cf e ps = some qs →
    fillA place cs qs = some cs' → VCs μ cs arr.toList → ∃ arr', Instr.fill place arr (ps.map fun p => (p.1, ρ p.2)) = some arr' ∧ VCs μ cs' arr'.toList
  | [], qs, cs, cs', arr, _, hq, hf, h => by
    simp [evParts] at hq; subst hq
    simp [fillA] at hf; subst hf
    exact ⟨arr, rfl, h⟩
  | (i, x) :: r, qs, cs, cs', arr, hx, hq, hf, h => by
    simp only [evParts, Option.bind_eq_some_iff, Option.map_eq_some_iff] at hq
    obtain ⟨v, h1, l, h2, rfl⟩ := hq
    simp only [fillA, Option.bind_eq_some_iff] at hf
    obtain ⟨p, h3, hf⟩ := hf
    split at hf
    · rename_i hc
      obtain ⟨ho, hl1, hl2⟩ := hc
      have hv := hx x (by simp) v h1
      have hsz := hv.csize ho
      have hal : arr.size = cs.length := by have := h.length; simpa using this
      have hfold := fold_set (hv.cells ho) p.1 0 h
      obtain ⟨arr', k1, k2⟩ := fill_run (arr := (ρ x).cells.zipIdx.foldl (fun cs (c, j) => cs.setIfInBounds (p.1 + j) c) arr) (fun y hy => hx y (by simp at hy ⊢; exact .inr hy)) h2 hf (by
        rw [← Array.foldl_toList, Array.toList_zipIdx]; simpa using hfold)
      refine ⟨arr', ?_, k2⟩
      obtain ⟨off, size⟩ := p
      simp only [List.map_cons, Instr.fill, h3]
      simp only at hl1 hl2
      rw [if_neg (by simp; omega)]
      exact k1
    · simp at hf

theorem places_run : ∀ {fs : List Field} {ps : List (Nat × Nat)}, placesT P fs = some ps → fs.mapM (fun f => (P.info? f.type).map fun i => (f.offset, i.size)) = some ps
  | [], ps, h => by simp [placesT] at h; subst h; simp
  | f :: r, ps, h => by
    simp only [placesT, Option.bind_eq_some_iff, Option.map_eq_some_iff, sizeT] at h
    obtain ⟨s, ⟨i, h1, rfl⟩, l, h2, rfl⟩ := h
    simp [List.mapM_cons, h1, places_run h2]

theorem zeroT_info {t : TypeId} {z : AV} (hz : zeroT P t = some z) : ∃ i u, P.info? t = some i ∧ i.zero = some u ∧ ofV u = some z := by
  unfold zeroT at hz
  obtain ⟨u, h1, h2⟩ := Option.bind_eq_some_iff.1 hz
  obtain ⟨i, h3, h4⟩ := Option.bind_eq_some_iff.1 h1
  exact ⟨i, u, h3, h4, h2⟩

theorem ofV_one {u : Value} {z : AV} (h : ofV u = some z) : z.one = true := by
  unfold ofV at h
  split at h
  · obtain ⟨l, _, rfl⟩ := Option.map_eq_some_iff.1 h; rfl
  · obtain ⟨l, _, rfl⟩ := Option.map_eq_some_iff.1 h; rfl

theorem build_run {t : TypeId} {parts : Array (Nat × Operand)} {ps : List (Nat × AV)} {v : AV} (hx : ∀ x ∈ parts.toList.map (·.2), Ok cf μ e ρ x) (hp : evParts cf e parts.toList = some ps) (hv : buildA P t ps = some v) :
    ∃ u, (Instr.build t (parts.map fun (i, x) => (i, ρ x))).run P w = .ok u w ∧ VA μ v u := by
  unfold buildA at hv
  obtain ⟨z, h1, hv⟩ := Option.bind_eq_some_iff.1 hv
  obtain ⟨i, u, h2, h3, h4⟩ := zeroT_info h1
  obtain ⟨places, h5, hv⟩ := Option.bind_eq_some_iff.1 hv
  obtain ⟨cs', h6, rfl⟩ := Option.map_eq_some_iff.1 hv
  unfold placesB at h5
  split at h5
  · rename_i fs hu
    obtain ⟨arr', k1, k2⟩ := fill_run hx hp h6 ((ofV_rel h4 μ).cells (ofV_one h4))
    refine ⟨.agg arr', run_build w t _ arr' ?_, .agg _ _ k2⟩
    unfold Program.built
    simp only [h2, hu, h3, places_run h5]
    simpa using k1
  · simp at h5

theorem alloc_run (R : Rel cf n0 μ w h) {t : TypeId} {z : AV} (hz : zeroT P t = some z) :
    ∃ μ' w', (Instr.alloc t true (.tuple #[])).run P w = .ok (.pointer (some ⟨w.heap.size, 0, none⟩)) w' ∧ VC μ' (.ptr h.length 0) (.pointer (some ⟨w.heap.size, 0, none⟩)) ∧ Step cf n0 fl μ w h μ' w' (h ++ [.vals z.cells]) := by
  obtain ⟨i, u, h2, h3, h4⟩ := zeroT_info hz
  have hc := (ofV_rel h4 μ).cells (ofV_one h4)
  have hl := hc.length
  refine ⟨fun i => if i = h.length then some (w.heap.size, 0, u.cells.size) else μ i, { w with heap := w.heap.push (.cells u.cells t) }, ?_, .ptr _ _ w.heap.size 0 u.cells.size (by simp), Step.alloc R (.vals z.cells) u.cells t 0 0 rfl (.inl (by omega)) rfl rfl rfl (by simp [AO.cells]; simp at hl; omega) fun c a ha => ?_⟩
  · simp [Instr.alloc, Sem.run_bind, zeroValue, run_info h2, h3, newVar, newRow, newObj, Sem.run]
  · obtain ⟨v, k1, k2⟩ := hc.get c a ha
    exact ⟨v, by simpa using k1, k2⟩

theorem box_run (R : Rel cf n0 μ w h) {t : TypeId} {v : AV} {u : Value} (hv : VA μ v u) (ho : v.one = true) :
    ∃ μ' w', (Instr.box t u).run P w = .ok (.pointer (some ⟨w.heap.size, 0, none⟩)) w' ∧ VC μ' (.ptr h.length 0) (.pointer (some ⟨w.heap.size, 0, none⟩)) ∧ Step cf n0 fl μ w h μ' w' (h ++ [.vals v.cells]) := by
  have hc := hv.cells ho
  have hl := hc.length
  refine ⟨fun i => if i = h.length then some (w.heap.size, 0, u.cells.size) else μ i, { w with heap := w.heap.push (.cells u.cells t) }, ?_, .ptr _ _ w.heap.size 0 u.cells.size (by simp), Step.alloc R (.vals v.cells) u.cells t 0 0 rfl (.inl (by omega)) rfl rfl rfl (by simp [AO.cells]; simp at hl; omega) fun c a ha => ?_⟩
  · simp [Instr.box, Sem.run_bind, newVar, newRow, newObj, Sem.run]
  · obtain ⟨v, k1, k2⟩ := hc.get c a ha
    exact ⟨v, by simpa using k1, k2⟩

theorem elemS_u {t el : TypeId} (h : elemS P t = some el) : P.underlying t = some (.slice el) := by
  unfold elemS at h; split at h <;> simp at h; subst h; assumption

theorem toInts_cells {k : IntKind} : ∀ {cs : List CV} {l : List Int}, toInts k cs = some l → l.map (CV.int k) = cs
  | [], l, h => by simp [toInts] at h; subst h; rfl
  | .int k' n :: r, l, h => by
    simp only [toInts] at h
    split at h
    · rename_i hk; subst hk
      obtain ⟨l', h1, rfl⟩ := Option.map_eq_some_iff.1 h
      simp [toInts_cells h1]
    · simp at h
  | .bool _ :: _, _, h | .str _ :: _, _, h | .nil :: _, _, h | .sl _ _ _ _ :: _, _, h | .sn _ _ _ _ :: _, _, h | .ptr _ _ :: _, _, h | .fn _ _ _ :: _, _, h => by simp [toInts] at h

theorem mkO_cells {ko : Option IntKind} {cs : List CV} {o : AO} (h : mkO ko cs = some o) : o.cells = cs ∧ o ≠ .dead := by
  unfold mkO at h
  split at h
  · obtain ⟨l, h1, rfl⟩ := Option.map_eq_some_iff.1 h; exact ⟨toInts_cells h1, by simp⟩
  · injection h with h; subst h; exact ⟨rfl, by simp⟩

theorem reps_length (n : Nat) (cs : List CV) : (reps n cs).length = n * cs.length := by
  simp [reps, List.length_flatten]

theorem reps_get (cs : List CV) : ∀ (n j : Nat), j < n * cs.length → (reps n cs)[j]? = cs[j % cs.length]?
  | 0, j, h => by simp at h
  | n + 1, j, h => by
    have e : reps (n + 1) cs = cs ++ reps n cs := by simp [reps, List.replicate_succ]
    rw [e]
    by_cases hj : j < cs.length
    · rw [List.getElem?_append_left hj, Nat.mod_eq_of_lt hj]
    · have h' : j < n * cs.length + cs.length := by rwa [Nat.add_mul, Nat.one_mul] at h
      rw [List.getElem?_append_right (by omega), reps_get cs n (j - cs.length) (by omega), ← Nat.mod_eq_sub_mod (by omega)]

theorem replicate_flatten_int (k : IntKind) (n : Nat) : (List.replicate n (0 : Int)).map (CV.int k) = reps n [CV.int k 0] := by
  induction n with
  | zero => rfl
  | succ n ih =>
    have e : reps (n + 1) [CV.int k 0] = CV.int k 0 :: reps n [CV.int k 0] := by simp [reps, List.replicate_succ]
    rw [e, ← ih, List.replicate_succ, List.map_cons]

/-- An array of a repeated value's cells. -/
theorem range_rel {z : AV} {u : Value} (hz : VCs μ z.cells u.cells.toList) (n : Nat) : VCs μ (reps n z.cells) ((Array.range (n * z.cells.length)).map (u.cells[· % u.cells.size]!)).toList := by
  have hl := hz.length
  have hs : u.cells.size = z.cells.length := by simpa using hl
  refine VCs.of_get (by simp [reps_length]) fun j a v ha hv => ?_
  have hj : j < n * z.cells.length := by
    have := (List.getElem?_eq_some_iff.1 ha).1; rwa [reps_length] at this
  rw [reps_get _ _ _ hj] at ha
  obtain ⟨x, h1, h2⟩ := hz.get _ a ha
  have hmod : j % z.cells.length < u.cells.size := by rw [hs]; exact Nat.mod_lt _ (Nat.pos_of_ne_zero fun e => by rw [e] at hj; omega)
  have : v = x := by
    simp [hj, hs] at hv
    rw [← hv]
    have h1' : u.cells[j % z.cells.length]? = some x := by simpa using h1
    have e2 : u.cells[j % z.cells.length]! = u.cells[j % z.cells.length] := getElem!_pos u.cells _ hmod
    rw [e2]
    rw [Array.getElem?_eq_getElem hmod] at h1'; injection h1'
  rw [this]; exact h2

/-- A zero of a kind of whole numbers. -/
theorem zeroO_cells {el : TypeId} {n : Nat} {o : AO} (hz : zerosO P el n = some o) : ∃ z, zeroT P el = some z ∧ o.cells = reps n z.cells ∧ o ≠ .dead := by
  unfold zerosO at hz
  split at hz
  · rename_i k hk
    obtain ⟨z, h1, hz⟩ := Option.bind_eq_some_iff.1 hz
    split at hz
    · split at hz
      · rename_i hc; obtain ⟨rfl, rfl⟩ := hc
        injection hz with hz; subst hz
        exact ⟨_, h1, by rw [AO.cells, AV.cells, replicate_flatten_int], by simp⟩
      · simp at hz
    · simp at hz
  · obtain ⟨z, h1, rfl⟩ := Option.map_eq_some_iff.1 hz
    exact ⟨z, h1, rfl, by simp⟩
end
end Go.Eng
end
section
/- The engine: slices made and cut. No conditions. -/
namespace Go.Eng

theorem setAll_length : ∀ (vs : List CV) (cs : List CV) (off : Nat), (setAll cs off vs).length = cs.length
  | [], _, _ => rfl
  | v :: r, cs, off => by rw [setAll, setAll_length r]; simp

theorem fillA_length {place : Nat → Option (Nat × Nat)} : ∀ {qs : List (Nat × AV)} {cs cs' : List CV}, fillA place cs qs = some cs' → cs'.length = cs.length
  | [], cs, cs', h => by simp [fillA] at h; subst h; rfl
  | (i, v) :: r, cs, cs', h => by
    simp only [fillA, Option.bind_eq_some_iff] at h
    obtain ⟨p, _, h⟩ := h
    split at h
    · rw [fillA_length h, setAll_length]
    · simp at h

theorem wrap_in {n : Int} (h0 : 0 ≤ n) (h : n ≤ 140737488355328) : IntKind.i64.wrap n = n := by
  have e : (IntKind.i64.bits : Nat) = 64 := rfl
  have e2 : IntKind.i64.signed = true := rfl
  unfold IntKind.wrap
  rw [e, e2]
  have hm : n % (2 ^ 64 : Int) = n := by omega
  simp only [hm]
  have : ¬ (n ≥ (2 ^ (64 - 1) : Int)) := by omega
  simp [this]
  intro; omega

section
variable {P : Program} {cf : Cfg} {n0 fl : Nat} {μ : Pl} {w : World} {h : AH} {e : Env} {ρ : Operand → Value}

theorem buildSlice_run (R : Rel cf n0 μ w h) {t : TypeId} {len : Nat} {parts : Array (Nat × Operand)} {ps : List (Nat × AV)} {v : CV} {h' : AH} (hx : ∀ x ∈ parts.toList.map (·.2), Ok cf μ e ρ x)
    (hp : evParts cf e parts.toList = some ps) (hv : buildSliceA P (cf.emt t) t len ps h = some (v, h')) :
    ∃ u μ' w', (Instr.buildSlice t len (parts.map fun (i, x) => (i, ρ x))).run P w = .ok u w' ∧ VC μ' v u ∧ Step cf n0 fl μ w h μ' w' h' := by
  unfold buildSliceA at hv
  obtain ⟨el, h1, hv⟩ := Option.bind_eq_some_iff.1 hv
  obtain ⟨s, h2, hv⟩ := Option.bind_eq_some_iff.1 hv
  obtain ⟨z, h3, hv⟩ := Option.bind_eq_some_iff.1 hv
  split at hv
  · rename_i hc
    obtain ⟨hc1, hc2⟩ := hc
    obtain ⟨cs, h4, hv⟩ := Option.bind_eq_some_iff.1 hv
    obtain ⟨o, h5, hv⟩ := Option.map_eq_some_iff.1 hv
    injection hv with hv1 hv2; subst hv1; subst hv2
    have hu := elemS_u h1
    obtain ⟨i, u, h6, h7, h8⟩ := zeroT_info h3
    have hz := (ofV_rel h8 μ).cells (ofV_one h8)
    have hzl := hz.length
    let zero : Array Value := if len * s = 0 then #[] else u.cells
    have hzero : (if len * s = 0 then (pure #[] : Sem (Array Value)) else do pure (← zeroValue el).cells).run P w = .ok zero w := by
      show _ = Result.ok (if len * s = 0 then #[] else u.cells) w
      split
      · rfl
      · simp [Sem.run_bind, zeroValue, run_info h6, h7]
    have hbase : VCs μ (reps len z.cells) ((Array.range (len * s)).map (zero[· % zero.size]!)).toList := by
      by_cases e : len * s = 0
      · have e2 : len * z.cells.length = 0 := by rw [hc2]; exact e
        have : reps len z.cells = [] := List.eq_nil_of_length_eq_zero (by rw [reps_length]; exact e2)
        rw [this, e]; simp; exact .nil
      · have := range_rel hz len
        rw [hc2] at this
        show VCs μ _ ((Array.range (len * s)).map ((if len * s = 0 then #[] else u.cells)[· % (if len * s = 0 then #[] else u.cells).size]!)).toList
        simp only [e, if_false]; exact this
    obtain ⟨arr, k1, k2⟩ := fill_run hx hp h4 hbase
    have hcl : cs.length = len * s := by rw [fillA_length h4, reps_length, hc2]
    have hal := k2.length
    obtain ⟨o1, o2⟩ := mkO_cells h5
    refine ⟨.slice (some ⟨w.heap.size, 0, none⟩) len len, fun i => if i = h.length then some (w.heap.size, 0, arr.size) else μ i, { w with heap := w.heap.push (.cells arr el) }, ?_, ?_, ?_⟩
    · have hle : ¬ len * s > 2 ^ 24 := by omega
      have k1' : Instr.fill (fun i => some (i * s, s)) ((Array.range (len * s)).map (zero[· % zero.size]!)) ((parts.map fun (i, x) => (i, ρ x)).toList) = some arr := by simpa using k1
      by_cases e0 : len * s = 0
      · have hzz : zero = #[] := by simp [zero, e0]
        rw [hzz] at k1'
        simp only [Instr.buildSlice, Sem.run_bind, run_underlying hu, Result.andThen_ok, run_size h2, hle, if_false, if_pos e0, Sem.run_pure, k1']
        simp [newRow, newObj, Sem.run, Sem.run_bind]
      · have hzz : zero = u.cells := by simp [zero, e0]
        rw [hzz] at k1'
        have hzr : (zeroValue el).run P w = .ok u w := by simp [zeroValue, Sem.run_bind, run_info h6, h7]
        simp only [Instr.buildSlice, Sem.run_bind, run_underlying hu, Result.andThen_ok, run_size h2, hle, if_false, if_neg e0, hzr, Sem.run_pure, k1']
        simp [newRow, newObj, Sem.run, Sem.run_bind]
    · by_cases hl0 : cf.emt t = true ∧ len = 0
      · rw [if_pos hl0, hl0.2]; exact .em _
      · rw [if_neg hl0]
        have := VC.sl (μ := fun i => if i = h.length then some (w.heap.size, 0, arr.size) else μ i) h.length 0 len s w.heap.size 0 arr.size len (by simp) (Nat.le_refl _) (by simp at hal; omega)
        simpa using this
    · refine Step.alloc R o arr el 0 0 rfl (.inl (by omega)) rfl rfl rfl (by rw [o1]; simp at hal; omega) fun c a ha => ?_
      rw [o1] at ha
      obtain ⟨v, q1, q2⟩ := k2.get c a ha
      exact ⟨v, by simpa using q1, q2⟩
  · simp at hv

theorem makeSlice_run (R : Rel cf n0 μ w h) {t : TypeId} {l c v : CV} {a b : Value} {h' : AH} (ha : VC μ l a) (hb : VC μ c b) (hv : makeSliceA P t l c h = some (v, h')) :
    ∃ u μ' w', (Instr.makeSlice t a b).run P w = .ok u w' ∧ VC μ' v u ∧ Step cf n0 fl μ w h μ' w' h' := by
  unfold makeSliceA at hv
  split at hv
  · rename_i l c
    have := intInv ha; subst this
    have := intInv hb; subst this
    obtain ⟨el, h1, hv⟩ := Option.bind_eq_some_iff.1 hv
    obtain ⟨s, h2, hv⟩ := Option.bind_eq_some_iff.1 hv
    obtain ⟨by', h3, hv⟩ := Option.bind_eq_some_iff.1 hv
    split at hv
    · rename_i hc
      obtain ⟨c1, c2, c3, c4⟩ := hc
      obtain ⟨o, h4, hv⟩ := Option.bind_eq_some_iff.1 hv
      split at hv
      · rename_i hol
        injection hv with hv; injection hv with hv1 hv2; subst hv1; subst hv2
        obtain ⟨z, z1, z2, z3⟩ := zeroO_cells h4
        obtain ⟨i, u, h6, h7, h8⟩ := zeroT_info z1
        have hz := (ofV_rel h8 μ).cells (ofV_one h8)
        have hzl := hz.length
        have hu := elemS_u h1
        have hb' : i.bytes = by' := by unfold bytesT at h3; rw [h6] at h3; simpa using h3
        have hs' : i.size = s := by unfold sizeT at h2; rw [h6] at h2; simpa using h2
        let n := c.toNat * s
        let zero : Array Value := if n = 0 then #[] else u.cells
        have hzero : (if n = 0 then (pure #[] : Sem (Array Value)) else do pure (← zeroValue el).cells).run P w = .ok zero w := by
          show _ = Result.ok (if n = 0 then #[] else u.cells) w
          split
          · rfl
          · simp [Sem.run_bind, zeroValue, run_info h6, h7]
        let arr : Array Value := (Array.range n).map (zero[· % zero.size]!)
        have harr : arr.size = n := by simp [arr]
        refine ⟨.slice (some ⟨w.heap.size, 0, none⟩) l.toNat c.toNat, fun i => if i = h.length then some (w.heap.size, 0, arr.size) else μ i, { w with heap := w.heap.push (.cells arr el) }, ?_, ?_, ?_⟩
        · have hwl := wrap_in c1 (by omega)
          have hwc := wrap_in (n := c) (by omega) c3
          have t1 : ¬ ((c : Int) < 0) := by omega
          have t2 : ¬ ((by' : Int) * c > 2 ^ 48) := by
            rw [Int.mul_comm]; omega
          have t3 : ¬ (l < 0) := by omega
          have t4 : ¬ (l > c) := by omega
          have hroom : ∀ (k : Nat), (askRoom k).run P w = .ok () w := fun k => by unfold askRoom; split <;> simp [mark, Sem.run]
          simp only [Instr.makeSlice, Sem.run_bind, run_underlying hu, Result.andThen_ok, asInt, asIntOf, Sem.run_pure, hwl, hwc, run_info h6, hb', t1, t2, t3, t4, decide_false, Bool.or_self, Bool.false_eq_true, if_false, hroom, run_size h2]
          by_cases e0 : c.toNat * s = 0
          · have hzz : zero = #[] := by simp [zero, n, e0]
            simp only [if_pos e0, Sem.run_bind, Sem.run_pure, Result.andThen_ok]
            simp only [arr, hzz, n]
            simp [newRow, newObj, Sem.run, Sem.run_bind]
          · have hzz : zero = u.cells := by simp [zero, n, e0]
            have hzr : (zeroValue el).run P w = .ok u w := by simp [zeroValue, Sem.run_bind, run_info h6, h7]
            simp only [if_neg e0, Sem.run_bind, Sem.run_pure, Result.andThen_ok, hzr]
            simp only [arr, hzz, n]
            simp [newRow, newObj, Sem.run, Sem.run_bind]
        · have := VC.sl (μ := fun i => if i = h.length then some (w.heap.size, 0, arr.size) else μ i) h.length 0 l.toNat s w.heap.size 0 arr.size c.toNat (by simp) (by omega) (by rw [harr]; simp [n])
          simpa using this
        · have hcz : l.toNat * z.cells.length = l.toNat * s := by rw [← hol, z2, reps_length]
          have hbase : ∀ c a, (reps l.toNat z.cells)[c]? = some a → ∃ v, arr[c]? = some v ∧ VC μ a v := fun j a hj => by
            have hlt : j < l.toNat * z.cells.length := by
              have := (List.getElem?_eq_some_iff.1 hj).1; rwa [reps_length] at this
            have hpos : 0 < l.toNat := Nat.pos_of_ne_zero fun e => by rw [e] at hlt; omega
            have hzs : z.cells.length = s := Nat.eq_of_mul_eq_mul_left hpos hcz
            have hn : n ≠ 0 := by
              have : 0 < s := Nat.pos_of_ne_zero fun e => by rw [hzs, e] at hlt; omega
              have : 0 < c.toNat * s := Nat.mul_pos (by omega) this
              omega
            have hle : l.toNat * s ≤ c.toNat * s := Nat.mul_le_mul_right _ (by omega)
            have := range_rel hz c.toNat
            rw [hzs] at this
            have e : (reps c.toNat z.cells)[j]? = some a := by
              rw [reps_get _ _ _ (by rw [hzs]; omega), ← reps_get _ _ _ hlt]; exact hj
            obtain ⟨v, q1, q2⟩ := this.get j a e
            have hzz : zero = u.cells := by simp only [zero]; rw [if_neg hn]
            refine ⟨v, ?_, q2⟩
            simp only [arr, hzz, n]
            rw [← Array.getElem?_toList]; exact q1
          exact Step.alloc R o arr el 0 0 rfl (.inl (by omega)) rfl rfl rfl (by rw [hol, harr]; exact Nat.mul_le_mul_right _ (by omega)) fun c a ha => hbase c a (by rw [z2] at ha; exact ha)
      · simp at hv
    · simp at hv
  · simp at hv

theorem bound_run {x : Option CV} {d : Nat} {n : Int} (hb : bound x d = some n) : (x = none ∧ n = d) ∨ ∃ k, x = some (.int k n) := by
  unfold bound at hb
  split at hb
  · injection hb with hb; exact .inl ⟨rfl, hb.symm⟩
  · injection hb with hb; subst hb; exact .inr ⟨_, rfl⟩
  · simp at hb

theorem sliceBound_run {k : IntKind} {n : Int} {y : Nat} {code : BoundsCode} (h0 : 0 ≤ n) (h1 : n ≤ y) : (Instr.sliceBound (.int k n) y code).run P w = .ok n.toNat w := by
  simp [Instr.sliceBound, asIntOf, Sem.run_bind, h0, h1]

theorem optInv {x : Option CV} {u : Option Value} (hr : (x = none ∧ u = none) ∨ ∃ a v, x = some a ∧ u = some v ∧ VC μ a v) {k : IntKind} {n : Int} (hx : x = some (.int k n)) : u = some (.int k n) := by
  rcases hr with ⟨h1, _⟩ | ⟨a, v, h1, h2, h3⟩
  · rw [h1] at hx; cases hx
  · rw [h1] at hx; cases hx; rw [intInv h3] at h2; exact h2

theorem sliceBounds_run {isS : Bool} {len cap : Nat} {lo hi : Option CV} {lv hv' : Option Value} {l u : Int} (hl : bound lo 0 = some l) (hu : bound hi len = some u) (h0 : 0 ≤ l) (h1 : l ≤ u) (h2 : u ≤ cap) (hlc : len ≤ cap)
    (rl : (lo = none ∧ lv = none) ∨ ∃ a v, lo = some a ∧ lv = some v ∧ VC μ a v) (rh : (hi = none ∧ hv' = none) ∨ ∃ a v, hi = some a ∧ hv' = some v ∧ VC μ a v) :
    (Instr.sliceBounds isS len cap lv hv' none).run P w = .ok (l.toNat, u.toNat, cap) w := by
  have eh : ∀ (a : CV) (v : Value) (code : BoundsCode), hi = some a → VC μ a v → (Instr.sliceBound v cap code).run P w = .ok u.toNat w := fun a v code e hv => by
    rcases bound_run hu with ⟨e', _⟩ | ⟨k, e'⟩
    · rw [e] at e'; cases e'
    · rw [e] at e'; cases e'; rw [intInv hv]; exact sliceBound_run (by omega) h2
  have el : ∀ (a : CV) (v : Value) (code : BoundsCode), lo = some a → VC μ a v → (Instr.sliceBound v u.toNat code).run P w = .ok l.toNat w := fun a v code e hv => by
    rcases bound_run hl with ⟨e', _⟩ | ⟨k, e'⟩
    · rw [e] at e'; cases e'
    · rw [e] at e'; cases e'; rw [intInv hv]; exact sliceBound_run (by omega) (by omega)
  have nh : hi = none → len = u.toNat := fun e => by
    rcases bound_run hu with ⟨_, e'⟩ | ⟨k, e'⟩
    · omega
    · rw [e] at e'; cases e'
  have nl : lo = none → 0 = l.toNat := fun e => by
    rcases bound_run hl with ⟨_, e'⟩ | ⟨k, e'⟩
    · omega
    · rw [e] at e'; cases e'
  rcases rl with ⟨l1, rfl⟩ | ⟨la, lw, l1, rfl, l3⟩ <;> rcases rh with ⟨r1, rfl⟩ | ⟨ra, rw', r1, rfl, r3⟩
  · simp only [Instr.sliceBounds, Sem.run_bind, Sem.run_pure, Result.andThen_ok, ← nh r1, ← nl l1]
  · simp only [Instr.sliceBounds, Sem.run_bind, Sem.run_pure, Result.andThen_ok, eh ra rw' _ r1 r3, ← nl l1]
  · simp only [Instr.sliceBounds, Sem.run_bind, Sem.run_pure, Result.andThen_ok, nh r1, el la lw _ l1 l3]
  · simp only [Instr.sliceBounds, Sem.run_bind, Sem.run_pure, Result.andThen_ok, eh ra rw' _ r1 r3, el la lw _ l1 l3]

theorem slice_run {t : TypeId} {x v : CV} {lo hi mx : Option CV} {a : Value} {lv hv' mv : Option Value} (hx : VC μ x a) (hv : sliceA P t x lo hi mx = some v)
    (rl : (lo = none ∧ lv = none) ∨ ∃ a v, lo = some a ∧ lv = some v ∧ VC μ a v) (rh : (hi = none ∧ hv' = none) ∨ ∃ a v, hi = some a ∧ hv' = some v ∧ VC μ a v) (rm : (mx = none ∧ mv = none) ∨ ∃ a v, mx = some a ∧ mv = some v ∧ VC μ a v) :
    ∃ u, (Instr.sliceAt t a lv hv' mv).run P w = .ok u w ∧ VC μ v u := by
  have hmx : mx = none → mv = none := fun e => match rm with
    | .inl ⟨_, r⟩ => r
    | .inr ⟨a, v, r, _⟩ => by rw [r] at e; cases e
  unfold sliceA at hv
  split at hv
  · rename_i i off len sz
    have := hmx rfl; subst this
    obtain ⟨el, h1, hv⟩ := Option.bind_eq_some_iff.1 hv
    obtain ⟨s, h2, hv⟩ := Option.bind_eq_some_iff.1 hv
    obtain ⟨l, h3, hv⟩ := Option.bind_eq_some_iff.1 hv
    obtain ⟨u, h4, hv⟩ := Option.bind_eq_some_iff.1 hv
    split at hv
    · rename_i hc
      obtain ⟨rfl, c1, c2, c3⟩ := hc
      injection hv with hv; subst hv
      have hu := elemS_u h1
      rcases slInv hx with ⟨b, o, e, cap, hi', hl, he, rfl⟩ | ⟨rfl, p, rfl⟩
      · have hb := sliceBounds_run (P := P) (w := w) (isS := true) h3 h4 c1 c2 (by omega) hl rl rh
        refine ⟨.slice (if cap = l.toNat then some ⟨b, o + off, none⟩ else some ⟨b, o + off + l.toNat * s, none⟩) (u.toNat - l.toNat) (cap - l.toNat), ?_, ?_⟩
        · simp only [Instr.sliceAt, Instr.slice, Sem.run_bind, run_underlying hu, Result.andThen_ok, hb, run_size h2]
          split
          · simp_all
          · simp [Addr.add_lit, *]
        · have hln : (u - l).toNat = u.toNat - l.toNat := by omega
          rw [hln]
          by_cases hcl : cap = l.toNat
          · have : u.toNat - l.toNat = 0 := by omega
            rw [this, if_pos hcl, show cap - l.toNat = 0 by omega]
            exact .sz _ _ _ _
          · rw [if_neg hcl]
            have hmul : cap * s = l.toNat * s + (cap - l.toNat) * s := by rw [← Nat.add_mul]; congr 1; omega
            have := VC.sl (μ := μ) i (off + l.toNat * s) (u.toNat - l.toNat) s b o e (cap - l.toNat) hi' (by omega) (by omega)
            rw [← Nat.add_assoc] at this; exact this
      · have hb := sliceBounds_run (P := P) (w := w) (isS := true) (len := 0) (cap := 0) h3 h4 c1 c2 (by omega) (Nat.le_refl _) rl rh
        have hl0 : l.toNat = 0 := by omega
        have hu0 : u.toNat = 0 := by omega
        refine ⟨.slice p 0 0, ?_, ?_⟩
        · simp only [Instr.sliceAt, Instr.slice, Sem.run_bind, run_underlying hu, Result.andThen_ok, hb, run_size h2, hl0, hu0]
          simp
        · have : (u - l).toNat = 0 := by omega
          rw [this]; exact .sz _ _ _ _
    · simp at hv
  · have := hmx rfl; subst this
    obtain ⟨el, h1, hv1⟩ := Option.bind_eq_some_iff.1 hv
    obtain ⟨s, h2, hv2⟩ := Option.bind_eq_some_iff.1 hv1
    obtain ⟨l, h3, hv3⟩ := Option.bind_eq_some_iff.1 hv2
    obtain ⟨u, h4, hv4⟩ := Option.bind_eq_some_iff.1 hv3
    split at hv4
    · rename_i hc
      obtain ⟨c1, c2⟩ := hc
      injection hv4 with hv5; subst hv5
      have hu := elemS_u h1
      have : a = .slice none 0 0 := by cases hx; rfl
      subst this
      have hb := sliceBounds_run (P := P) (w := w) (isS := true) (len := 0) (cap := 0) h3 h4 (by omega) (by omega) (by omega) (Nat.le_refl _) rl rh
      refine ⟨.slice none 0 0, ?_, .nil⟩
      simp only [Instr.sliceAt, Instr.slice, Sem.run_bind, run_underlying hu, Result.andThen_ok, hb, run_size h2, c1, c2]
      simp
    · simp at hv4
  · rename_i s
    have := hmx rfl; subst this
    have : a = .string s := by cases hx; rfl
    subst this
    split at hv
    · rename_i hu
      rw [if_pos rfl] at hv
      obtain ⟨l, h3, hv1⟩ := Option.bind_eq_some_iff.1 hv
      obtain ⟨u, h4, hv2⟩ := Option.bind_eq_some_iff.1 hv1
      split at hv2
      · rename_i hc
        obtain ⟨c1, c2, c3⟩ := hc
        injection hv2 with hv3; subst hv3
        have hb := sliceBounds_run (P := P) (w := w) (isS := false) h3 h4 c1 c2 c3 (Nat.le_refl _) rl rh
        refine ⟨.string (s.extract l.toNat u.toNat), ?_, .str _⟩
        simp [Instr.sliceAt, Instr.slice, Sem.run_bind, run_underlying hu, hb]
      · simp at hv2
    · simp at hv
  · simp at hv
end
end Go.Eng
end
section
/- The engine: conversions and append. No conditions. -/
namespace Go.Eng

theorem modify_push {α : Type} (xs : Array α) (x : α) (f : α → α) : (xs.push x).modify xs.size f = xs.push (f x) := by
  apply Array.ext_getElem?
  intro i
  rw [Array.getElem?_modify, Array.getElem?_push, Array.getElem?_push]
  by_cases e : i = xs.size
  · subst e; simp
  · rw [if_neg (fun h => e h.symm), if_neg e, if_neg e]

theorem bytesO_rel (μ : Pl) (s : ByteArray) : VCs μ (bytesO s).cells (s.data.map fun b => Value.int .u8 b.toNat).toList := by
  refine VCs.of_get (by simp [bytesO, AO.cells]) fun i a v ha hv => ?_
  simp only [bytesO, AO.cells, List.getElem?_map, Array.toList_map] at ha hv
  cases hb : s.data.toList[i]? with
  | none => rw [hb] at ha; simp at ha
  | some b =>
    rw [hb] at ha hv
    simp at ha hv
    subst ha; subst hv
    exact .int _ _

theorem kindOf_u {P : Program} {t : TypeId} {k : IntKind} (h : kindOf P t = some k) : P.underlying t = some (.int k) := by
  unfold kindOf at h; split at h <;> simp at h; subst h; assumption

theorem vcs_ints {μ : Pl} {k : IntKind} : ∀ {l : List Int} {vs : List Value}, VCs μ (l.map (CV.int k)) vs → vs = l.map (Value.int k)
  | [], vs, h => by cases h; rfl
  | n :: l, vs, h => by
    simp only [List.map_cons] at h
    cases h with
    | cons _ v _ ws h1 h2 => rw [intInv h1, vcs_ints h2]; rfl

section
variable {P : Program} {cf : Cfg} {n0 fl : Nat} {μ : Pl} {w : World} {h : AH}

/-- What is read of a slice or a string. -/
theorem src_run (R : Rel cf n0 μ w h) {ko : Option IntKind} {size n : Nat} {x : CV} {o : AO} {a : Value} (hs : srcO ko size h x = some (o, n)) (hx : VC μ x a) :
    (Builtin.lenOf a).run P w = .ok n w ∧ ∃ vs : List Value, (∀ w1 : World, w1.heap = w.heap → (Builtin.firstCells size n a).run P w1 = .ok vs.toArray w1) ∧ VCs μ o.cells vs ∧ vs.length = n * size := by
  have key : ∀ {j off n' sz : Nat} {y : AO}, sz = size → ((h[j]?).bind fun o => (o.sub off (n' * sz)).map fun y => (y, n')) = some (y, n) → ∀ b o' e' cap, μ j = some (b, o', e') →
      ∃ vs : List Value, (∀ w1 : World, w1.heap = w.heap → (Builtin.firstCells size n (.slice (some ⟨b, o' + off, none⟩) n cap)).run P w1 = .ok vs.toArray w1) ∧ VCs μ y.cells vs ∧ vs.length = n * size := by
    intro j off n' sz y hsz hh b o' e' cap hj
    obtain ⟨x', h1, hh⟩ := Option.bind_eq_some_iff.1 hh
    obtain ⟨y', h2, hh⟩ := Option.map_eq_some_iff.1 hh
    injection hh with e1 e2; subst e1; subst e2; subst hsz
    obtain ⟨vs, v1, v2, v3⟩ := window R hj h1 h2
    refine ⟨vs, fun w1 hw => ?_, v2, v1⟩
    have := run_loadCells_list (P := P) w1 ⟨b, o' + off, none⟩ vs (fun j v hj => by
      rw [Addr.add_lit]; have := v3 j v hj; unfold World.cell? at *; rw [hw]; exact this)
    rw [v1] at this
    simpa [Builtin.firstCells] using this
  have zero : ∀ {j off n' sz : Nat} {y : AO}, n' = 0 → ((h[j]?).bind fun o => (o.sub off (n' * sz)).map fun y => (y, n')) = some (y, n) → y.cells = [] ∧ n = 0 := by
    intro j off n' sz y hz hh
    obtain ⟨x', h1, hh⟩ := Option.bind_eq_some_iff.1 hh
    obtain ⟨y', h2, hh⟩ := Option.map_eq_some_iff.1 hh
    injection hh with e1 e2; subst e1; subst e2
    rw [(sub_cells h2).1, hz]; simp
  have load0 : ∀ (p : Option Addr) (w1 : World), (Builtin.firstCells size 0 (.slice p 0 0)).run P w1 = .ok #[] w1 := fun p w1 => by
    cases p with
    | none => simp [Builtin.firstCells]
    | some p =>
      have := run_loadCells_list (P := P) w1 p [] (fun j v hj => by simp at hj)
      simpa [Builtin.firstCells] using this
  unfold srcO at hs
  split at hs
  · obtain ⟨o', h1, hs⟩ := Option.map_eq_some_iff.1 hs
    injection hs with e1 e2; subst e1; subst e2
    cases hx
    refine ⟨by simp [Builtin.lenOf], [], fun w1 _ => load0 none w1, ?_, by simp⟩
    rw [(mkO_cells h1).1]; exact .nil
  · split at hs
    · rename_i j off m sz hsz
      rcases slInv hx with ⟨b, o', e', cap, hj, hl, he, rfl⟩ | ⟨h0, p, rfl⟩
      · have hn : n = m := by
          obtain ⟨x', h1, hh⟩ := Option.bind_eq_some_iff.1 hs
          obtain ⟨y', h2, hh⟩ := Option.map_eq_some_iff.1 hh
          injection hh with e1 e2; exact e2.symm
        subst hn
        exact ⟨by simp [Builtin.lenOf], key hsz hs b o' e' cap hj⟩
      · obtain ⟨z1, z2⟩ := zero h0 hs
        subst z2; subst h0
        exact ⟨by simp [Builtin.lenOf], [], fun w1 _ => load0 p w1, by rw [z1]; exact .nil, by simp⟩
    · simp at hs
  · split at hs
    · rename_i i off m sz hsz
      cases hx with
      | sn _ _ _ _ b o' e' cap hj hl he =>
        have hn : n = m := by
          obtain ⟨x', h1, hh⟩ := Option.bind_eq_some_iff.1 hs
          obtain ⟨y', h2, hh⟩ := Option.map_eq_some_iff.1 hh
          injection hh with e1 e2; exact e2.symm
        subst hn
        exact ⟨by simp [Builtin.lenOf], key hsz hs b o' e' cap hj⟩
      | snz i off sz p =>
        obtain ⟨z1, z2⟩ := zero rfl hs
        subst z2
        exact ⟨by simp [Builtin.lenOf], [], fun w1 _ => load0 (some p) w1, by rw [z1]; exact .nil, by simp⟩
    · simp at hs
  · split at hs
    · rename_i s hsz
      injection hs with hs; injection hs with e1 e2; subst e1; subst e2; subst hsz
      cases hx
      refine ⟨by simp [Builtin.lenOf], _, fun w1 _ => ?_, bytesO_rel μ s, by simp⟩
      have : s.extract 0 s.size = s := by simp
      simp [Builtin.firstCells, this]
      apply Array.ext'; simp
    · simp at hs
  · simp at hs

theorem convert_run (R : Rel cf n0 μ w h) {s d : TypeId} {x v : CV} {a : Value} {h' : AH} (hx : VC μ x a) (hv : convA P s d x h = some (v, h')) :
    ∃ u μ' w', (convert s d a).run P w = .ok u w' ∧ VC μ' v u ∧ Step cf n0 fl μ w h μ' w' h' := by
  unfold convA at hv
  split at hv
  · rename_i k0 k k' n h1 h2
    injection hv with hv; injection hv with e1 e2; subst e1; subst e2
    rw [intInv hx]
    exact ⟨_, μ, w, by simp [convert, Sem.run_bind, run_underlying h1, run_underlying h2, Conv.intToInt], .int _ _, .refl R⟩
  · rename_i t h1 h2
    injection hv with hv; injection hv with e1 e2; subst e1; subst e2
    cases hx
    exact ⟨_, μ, w, by simp [convert, Sem.run_bind, run_underlying h1, run_underlying h2], .str _, .refl R⟩
  · rename_i e t h1 h2
    split at hv
    · rename_i hk
      injection hv with hv; injection hv with e1 e2; subst e1; subst e2
      cases hx
      have hu := kindOf_u hk
      let cap := (Question.appendCap t.size 0 e).cut (w.tape w.drawn (.appendCap t.size 0 e))
      have hcap : t.size ≤ cap := by simp [cap, Question.cut]
      let arr : Array Value := (t.data.map fun b => Value.int .u8 b.toNat) ++ Array.replicate (cap - t.size) (.int .u8 0)
      have harr : arr.size = cap := by
        have : t.data.size = t.size := rfl
        simp [arr, this]; omega
      refine ⟨.slice (some ⟨w.heap.size, 0, none⟩) t.size cap, fun i => if i = h.length then some (w.heap.size, 0, arr.size) else μ i, { w with heap := w.heap.push (.cells arr e (cap, cap + 1)), drawn := w.drawn + 1 }, ?_, ?_, ?_⟩
      · simp only [convert, Sem.run_bind, run_underlying h1, run_underlying h2, Result.andThen_ok, run_underlying hu, Conv.stringToBytes, choose, Sem.run, Question.forced, newRow, newObj, markStringish, shape, World.shape?, freeze]
        have hpush : ∀ (x : Obj), (w.heap.push x)[w.heap.size]? = some x := by simp
        have hsz : ((t.data.map fun b => Value.int .u8 b.toNat) ++ Array.replicate (cap - t.size) (Value.int .u8 0)).size = cap := harr
        simp only [Bool.false_eq_true, if_false, Result.andThen_ok, Sem.run_pure, hpush, Sem.run, World.freeze, Nat.succ_ne_zero, modify_push]
        show Result.ok (Value.slice (some ⟨w.heap.size, 0, none⟩) t.size cap) _ = _
        congr 3
        show Obj.cells arr e (if (0 == 0) = true then (arr.size, arr.size + 1) else _) = _
        rw [show ((0 : Nat) == 0) = true from rfl, if_pos rfl, harr]
      · have := VC.sl (μ := fun i => if i = h.length then some (w.heap.size, 0, arr.size) else μ i) h.length 0 t.size 1 w.heap.size 0 arr.size cap (by simp) hcap (by omega)
        simpa using this
      · refine Step.alloc R (bytesO t) arr e cap (cap + 1) rfl (.inr (by omega)) rfl rfl rfl (by rw [harr]; simp [bytesO, AO.cells]; exact hcap) fun c a ha => ?_
        obtain ⟨v, q1, q2⟩ := (bytesO_rel μ t).get c a ha
        have hl := (List.getElem?_eq_some_iff.1 q1).1
        refine ⟨v, ?_, q2⟩
        simp only [arr]
        rw [Array.getElem?_append_left (by simpa using hl)]
        simpa using q1
    · simp at hv
  · rename_i x' e h1 h2
    split at hv
    · rename_i hk'
      obtain ⟨hk, hk2⟩ := hk'
      obtain ⟨o, h3, hv⟩ := Option.bind_eq_some_iff.1 hv
      obtain ⟨o, n⟩ := o
      split at hv
      · rename_i l hl
        injection hv with hv; injection hv with e1 e2; subst e1; subst e2
        simp only at hl; subst hl
        obtain ⟨_, vs, k2, k3, k4⟩ := src_run (P := P) R h3 hx
        have hvs := vcs_ints k3
        have hu := kindOf_u hk
        have hsl : ∃ p m c, a = .slice p m c := by
          cases hx <;> first | exact ⟨_, _, _, rfl⟩ | (simp [CV.notStr] at hk2; done) | (simp [srcO] at h3; done)
        obtain ⟨p, m, c, rfl⟩ := hsl
        obtain ⟨k1, vs', k2', k3', k4'⟩ := src_run (P := P) R h3 hx
        have hm : m = n := by simpa [Builtin.lenOf] using k1
        subst hm
        have hvs' := vcs_ints k3'
        refine ⟨.string ⟨(l.map fun n => UInt8.ofNat n.toNat).toArray⟩, μ, w, ?_, .str _, .refl R⟩
        rw [run_convert_bytes_string w s d e p m c h1 hu h2]
        have hload := k2' w rfl
        cases p with
        | none =>
          have : vs' = [] := by simpa [Builtin.firstCells] using hload
          have hl0 : l = [] := by rw [hvs'] at this; simpa using this
          subst hl0
          simp [Conv.bytesToString]; rfl
        | some p =>
          have hl : (loadCells p m).run P w = .ok (l.map (Value.int .u8)).toArray w := by
            rw [← hvs']; simpa [Builtin.firstCells] using hload
          rw [run_bytesToString w p m c l hl, foldl_push_bytes]
          simp [ByteArray.empty, ByteArray.emptyWithCapacity]
          rfl
      · simp at hv
    · simp at hv
  · simp at hv
theorem convB_run (R : Rel cf n0 μ w h) {s d : TypeId} {x v : CV} {a : Value} {h' : AH} (hx : VC μ x a) (hv : convB P fl s d x h = some (v, h')) :
    ∃ u μ' w', (convert s d a).run P w = .ok u w' ∧ VC μ' v u ∧ Step cf n0 fl μ w h μ' w' h' := by
  unfold convB at hv
  split at hv
  · rename_i r hr; injection hv with hv; subst hv; exact convert_run R hx hr
  · unfold convS at hv
    split at hv
    · rename_i eS e i off n sz h1 h2 hno
      split at hv
      · rename_i hc
        obtain ⟨hsd, hk, hn, hfl, hlv⟩ := hc
        injection hv with hv; injection hv with e1 e2; subst e1; subst e2
        have hu := kindOf_u hk
        have hl : Live h i := fun hd => by unfold liveB at hlv; rw [hd] at hlv; simp at hlv
        cases hx with
        | sz => omega
        | sl _ _ _ _ b o ext cap hi hle hext =>
          obtain ⟨cs, t, fz, hb, hsz⟩ := R.blk i b o ext hi
          obtain ⟨lo, hi'⟩ := fz
          refine ⟨.slice (some ⟨b, o + off, none⟩) n cap, μ, w.freeze ⟨b, cs.size, none⟩ 1, ?_, .sl _ _ _ _ _ _ _ _ hi hle hext, Step.mark (w' := w.freeze ⟨b, cs.size, none⟩ 1) R i b o ext hfl hi hl cs t lo hi' hb ?_ ?_ ?_ rfl rfl rfl⟩
          · simp [convert, Sem.run_bind, run_underlying h1, run_underlying h2, run_underlying hu, markStringish, shape, World.shape?, freeze, hb, hsd, Sem.run]
          · simp [World.freeze, Array.getElem?_modify, hb]
          · intro k hk; simp [World.freeze, Array.getElem?_modify, Ne.symm hk]
          · simp [World.freeze]
      · simp at hv
    · simp at hv
end
end Go.Eng
end
section
/- The engine: append. No conditions. -/
namespace Go.Eng

theorem cat_cells {a b y : AO} (h : a.cat b = some y) : y.cells = a.cells ++ b.cells ∧ y ≠ .dead := by
  unfold AO.cat at h
  split at h
  · split at h
    · rename_i hk; subst hk; injection h with h; subst h; simp [AO.cells]
    · simp at h
  · injection h with h; subst h; simp [AO.cells]
  · simp at h

theorem growBy_le (need : Nat) : ∀ (r c : Nat), 256 ≤ c → c ≤ 2 * need → Builtin.growBy need r c ≤ 2 * need
  | 0, c, _, h => h
  | r + 1, c, h0, h => by
    unfold Builtin.growBy
    split
    · exact h
    · exact growBy_le need r _ (by omega) (by omega)

theorem nextcap_le (need old : Nat) (h : old < need) : Builtin.nextslicecap need old ≤ 2 * need := by
  unfold Builtin.nextslicecap
  split
  · omega
  · split
    · omega
    · exact growBy_le need 4 old (by omega) (by omega)

section
variable {P : Program} {cf : Cfg} {n0 fl : Nat} {μ : Pl} {w : World} {h : AH}

/-- What is appended, as it is met. -/
def NewOK (P : Program) (el : TypeId) (size n b : Nat) (zs : Bool) (xv : Value) (w : World) (vs : List Value) : Prop :=
  match zs with
  | true => ∃ m u, xv = .int .i64 m ∧ 0 ≤ m ∧ m ≤ 140737488355328 ∧ m.toNat = n ∧ n * b ≤ 140737488355328 ∧ (∀ w1 : World, (zeroValue el).run P w1 = .ok u w1) ∧ vs = if n * size = 0 then [] else (Builtin.zeroCells u.cells n).toList
  | false => (Builtin.lenOf xv).run P w = .ok n w ∧ ∀ w1 : World, w1.heap = w.heap → (Builtin.firstCells size n xv).run P w1 = .ok vs.toArray w1

theorem new_run (R : Rel cf n0 μ w h) {el : TypeId} {size n b : Nat} {zs : Bool} {x : CV} {o : AO} {a : Value} (hs : newO P el size zs h x = some (o, n)) (hx : VC μ x a) (hnb : n * b ≤ 140737488355328) :
    ∃ vs : List Value, NewOK P el size n b zs a w vs ∧ VCs μ o.cells vs ∧ vs.length = n * size := by
  unfold newO at hs
  split at hs
  · rename_i hz; subst hz
    split at hs
    · rename_i m
      split at hs
      · rename_i hm
        obtain ⟨o', h1, hs⟩ := Option.bind_eq_some_iff.1 hs
        split at hs
        · rename_i hl
          injection hs with hs; injection hs with e1 e2; subst e1; subst e2
          rw [intInv hx]
          obtain ⟨z, z1, z2, z3⟩ := zeroO_cells h1
          obtain ⟨i, u, h6, h7, h8⟩ := zeroT_info z1
          have hzz := (ofV_rel h8 μ).cells (ofV_one h8)
          have hr := range_rel hzz m.toNat
          have hus : u.cells.size = z.cells.length := by have := hzz.length; simpa using this
          refine ⟨if m.toNat * size = 0 then [] else (Builtin.zeroCells u.cells m.toNat).toList, ⟨m, u, rfl, hm.1, hm.2, rfl, hnb, fun w1 => by simp [zeroValue, Sem.run_bind, run_info h6, h7], rfl⟩, ?_, ?_⟩
          · by_cases e0 : m.toNat * size = 0
            · rw [if_pos e0, List.eq_nil_of_length_eq_zero (hl.trans e0)]; exact .nil
            · rw [if_neg e0, z2]
              have : Builtin.zeroCells u.cells m.toNat = (Array.range (m.toNat * z.cells.length)).map (u.cells[· % u.cells.size]!) := by
                unfold Builtin.zeroCells; rw [hus]
              rw [this]; exact hr
          · by_cases e0 : m.toNat * size = 0
            · rw [if_pos e0, e0]; rfl
            · rw [if_neg e0]
              have := hl; rw [z2, reps_length] at this
              simp [Builtin.zeroCells, hus, this]
        · simp at hs
      · simp at hs
    · simp at hs
  · rename_i hz
    have hz' : zs = false := by simpa using hz
    subst hz'
    obtain ⟨k1, vs, k2, k3, k4⟩ := src_run (P := P) R hs hx
    exact ⟨vs, ⟨k1, k2⟩, k3, k4⟩

section
variable {sT el : TypeId} {ts : Array TypeId} {ty : TypeId} {xv : Value} {base : Option Addr} {len cap size n b : Nat} {zs : Bool} {vs : List Value}

set_option maxRecDepth 20000 in
theorem app_in (hts : ts[0]? = some sT) (hu : P.underlying sT = some (.slice el)) (h2 : sizeT P el = some size) (h3 : bytesT P el = some b) (hz : zerosT P (ts[1]?) = some zs) (hnew : NewOK P el size n b zs xv w vs) (hle : len + n ≤ cap) :
    (Builtin.append_ ts ty #[.slice base len cap, xv]).run P w = (match base with
      | some a => (storeCells (a.add (len * size)) vs).run P w
      | none => .ok () w).andThen fun _ w' => .ok (.slice base (len + n) cap) w' := by
  obtain ⟨i, h6, hi⟩ : ∃ i, P.info? el = some i ∧ i.bytes = b := by
    unfold bytesT at h3; obtain ⟨i, a, c⟩ := Option.map_eq_some_iff.1 h3; exact ⟨i, a, c⟩
  have hty : ∀ t, ts[1]? = some t → ∃ d, P.underlying t = some d ∧ zs = (match d with | .int _ => true | _ => false) := fun t ht => by
    rw [ht] at hz; unfold zerosT at hz
    cases hd : P.underlying t with
    | none => simp [hd] at hz
    | some d => refine ⟨d, rfl, ?_⟩; simp only [hd] at hz; cases d <;> simp at hz <;> simp [hz]
  cases zs with
  | false =>
    obtain ⟨hl, hf⟩ := hnew
    have hf := hf w rfl
    cases h1 : ts[1]? with
    | none =>
      cases base <;> simp only [Builtin.append_, hts, h1, List.getElem?_toArray, List.getElem?_cons_zero, List.getElem?_cons_succ, Sem.run_bind, run_underlying hu, Result.andThen_ok, run_size h2, Sem.run_pure, Bool.false_eq_true, if_false, hl, if_pos hle, Bool.not_false, if_true, hf]
    | some t =>
      obtain ⟨d, hd, hdz⟩ := hty t h1
      simp only [Builtin.append_, hts, h1, List.getElem?_toArray, List.getElem?_cons_zero, List.getElem?_cons_succ, Sem.run_bind, run_underlying hu, Result.andThen_ok, run_size h2, run_underlying hd, Sem.run_pure]
      cases d <;> first | (simp at hdz; done) | (cases base <;> simp only [Sem.run_bind, Result.andThen_ok, Sem.run_pure, Bool.false_eq_true, if_false, hl, if_pos hle, Bool.not_false, if_true, hf])
  | true =>
    obtain ⟨m, u, rfl, m0, m1, rfl, hnb, hzu, hvs⟩ := hnew
    have hw := wrap_in m0 m1
    have t1 : ¬ (m < 0) := by omega
    have t2 : ¬ (m * (b : Int) > 2 ^ 48) := by
      have e : (m.toNat : Int) = m := Int.toNat_of_nonneg m0
      have h2 : ((m.toNat * b : Nat) : Int) ≤ ((140737488355328 : Nat) : Int) := Int.ofNat_le.mpr hnb
      rw [Int.natCast_mul, e] at h2
      omega
    cases h1 : ts[1]? with
    | none => rw [h1] at hz; simp [zerosT] at hz
    | some t =>
      obtain ⟨d, hd, hdz⟩ := hty t h1
      simp only [Builtin.append_, hts, h1, List.getElem?_toArray, List.getElem?_cons_zero, List.getElem?_cons_succ, Sem.run_bind, run_underlying hu, Result.andThen_ok, run_size h2, run_underlying hd, Sem.run_pure]
      cases d <;> first | (simp at hdz; done) | skip
      simp only [if_true, Sem.run_bind, asInt, asIntOf, Sem.run_pure, Result.andThen_ok, hw, if_neg t1, run_info h6, hi, if_neg t2, if_pos hle, Bool.not_true, Bool.false_eq_true, if_false]
      by_cases e0 : m.toNat * size = 0
      · rw [if_pos e0] at hvs; subst hvs
        cases base <;> simp only [if_pos e0, Sem.run_pure, Result.andThen_ok, Sem.run_bind]
      · rw [if_neg e0] at hvs; subst hvs
        cases base <;> simp only [if_neg e0, Sem.run_pure, Result.andThen_ok, Sem.run_bind, hzu]

set_option maxRecDepth 20000 in
theorem app_re (hts : ts[0]? = some sT) (hu : P.underlying sT = some (.slice el)) (h2 : sizeT P el = some size) (h3 : bytesT P el = some b) (hz : zerosT P (ts[1]?) = some zs) (hnew : NewOK P el size n b zs xv w vs) (hlt : ¬ len + n ≤ cap)
    (hn : len + n ≤ 140737488355328) (hnb : (len + n) * b ≤ 140737488355328) {z : Value} (hzv : ∀ w1 : World, (zeroValue el).run P w1 = .ok z w1) {os : List Value} (hold : ∀ w1 : World, w1.heap = w.heap → (Builtin.firstCells size len (.slice base len cap)).run P w1 = .ok os.toArray w1) :
    ∃ nc, len + n ≤ nc ∧ (Builtin.append_ ts ty #[.slice base len cap, xv]).run P w = .ok (.slice (some ⟨w.heap.size, 0, none⟩) (len + n) nc)
      { w with heap := w.heap.push (.cells (os.toArray ++ vs.toArray ++ Builtin.zeroCells z.cells (nc - (len + n))) el), drawn := w.drawn + 1 } := by
  obtain ⟨i, h6, hi⟩ : ∃ i, P.info? el = some i ∧ i.bytes = b := by
    unfold bytesT at h3; obtain ⟨i, a, c⟩ := Option.map_eq_some_iff.1 h3; exact ⟨i, a, c⟩
  have hty : ∀ t, ts[1]? = some t → ∃ d, P.underlying t = some d ∧ zs = (match d with | .int _ => true | _ => false) := fun t ht => by
    rw [ht] at hz; unfold zerosT at hz
    cases hd : P.underlying t with
    | none => simp [hd] at hz
    | some d => refine ⟨d, rfl, ?_⟩; simp only [hd] at hz; cases d <;> simp at hz <;> simp [hz]
  have g1 : ∀ q : Prop, ¬ (((len + n : Nat) : Int) > IntKind.i64.max ∧ q) := fun q hq => by
    have := hq.1; rw [IntKind.max_i64] at this; omega
  have g2 : ¬ Builtin.nextslicecap (len + n) cap * b > 2 ^ 48 := by
    have a := nextcap_le (len + n) cap (by omega)
    have c := Nat.mul_le_mul_right b a
    rw [Nat.mul_assoc] at c
    omega
  have hroom : ∀ (k : Nat) (w1 : World), (askRoom k).run P w1 = .ok () w1 := fun k w1 => by unfold askRoom; split <;> simp [mark, Sem.run]
  let nc := (Question.appendCap (len + n) cap el).cut (w.tape w.drawn (.appendCap (len + n) cap el))
  have hnc : len + n ≤ nc := by simp [nc, Question.cut]
  have hch : (choose (.appendCap (len + n) cap el)).run P w = .ok nc { w with drawn := w.drawn + 1 } := by simp [choose, Sem.run, Question.forced, nc]
  have hold := hold { w with drawn := w.drawn + 1 } rfl
  have hrow : ∀ (c : Array Value), (newRow el c).run P { w with drawn := w.drawn + 1 } = .ok ⟨w.heap.size, 0, none⟩ { w with heap := w.heap.push (.cells c el), drawn := w.drawn + 1 } := fun c => by
    rfl
  refine ⟨nc, hnc, ?_⟩
  cases zs with
  | false =>
    obtain ⟨hl, hf⟩ := hnew
    have hf := hf { w with drawn := w.drawn + 1 } rfl
    cases h1 : ts[1]? with
    | none =>
      simp only [Builtin.append_, hts, h1, List.getElem?_toArray, List.getElem?_cons_zero, List.getElem?_cons_succ, Sem.run_bind, run_underlying hu, Result.andThen_ok, run_size h2, Sem.run_pure, Bool.false_eq_true, if_false, hl, if_neg hlt, Bool.not_false, if_true, hf,
        run_info h6, hi, if_neg (g1 _), if_neg g2, hch, hroom, hold, hzv, hrow]
    | some t =>
      obtain ⟨d, hd, hdz⟩ := hty t h1
      simp only [Builtin.append_, hts, h1, List.getElem?_toArray, List.getElem?_cons_zero, List.getElem?_cons_succ, Sem.run_bind, run_underlying hu, Result.andThen_ok, run_size h2, run_underlying hd, Sem.run_pure]
      cases d <;> first | (simp at hdz; done) | (simp only [Sem.run_bind, Result.andThen_ok, Sem.run_pure, Bool.false_eq_true, if_false, hl, if_neg hlt, Bool.not_false, if_true, hf,
        run_info h6, hi, if_neg (g1 _), if_neg g2, hch, hroom, hold, hzv, hrow])
  | true =>
    obtain ⟨m, u, rfl, m0, m1, rfl, hnb', hzu, hvs⟩ := hnew
    have hw := wrap_in m0 m1
    have t1 : ¬ (m < 0) := by omega
    have t2 : ¬ (m * (b : Int) > 2 ^ 48) := by
      have e : (m.toNat : Int) = m := Int.toNat_of_nonneg m0
      have h2 : ((m.toNat * b : Nat) : Int) ≤ ((140737488355328 : Nat) : Int) := Int.ofNat_le.mpr hnb'
      rw [Int.natCast_mul, e] at h2
      omega
    cases h1 : ts[1]? with
    | none => rw [h1] at hz; simp [zerosT] at hz
    | some t =>
      obtain ⟨d, hd, hdz⟩ := hty t h1
      simp only [Builtin.append_, hts, h1, List.getElem?_toArray, List.getElem?_cons_zero, List.getElem?_cons_succ, Sem.run_bind, run_underlying hu, Result.andThen_ok, run_size h2, run_underlying hd, Sem.run_pure]
      cases d <;> first | (simp at hdz; done) | skip
      simp only [if_true, Sem.run_bind, asInt, asIntOf, Sem.run_pure, Result.andThen_ok, hw, if_neg t1, run_info h6, hi, if_neg t2, if_neg hlt, Bool.not_true, Bool.false_eq_true, if_false, if_neg (g1 _), if_neg g2, hch, hroom, hold]
      by_cases e0 : m.toNat * size = 0
      · rw [if_pos e0] at hvs; subst hvs
        simp only [if_pos e0, Sem.run_pure, Result.andThen_ok, Sem.run_bind, hzv, hrow]
      · rw [if_neg e0] at hvs; subst hvs
        have : u = z := by have a := hzu w; rw [hzv w] at a; injection a with a; exact a.symm
        subst this
        simp only [if_neg e0, Sem.run_pure, Result.andThen_ok, Sem.run_bind, hzv, hrow]
end

theorem append_run (R : Rel cf n0 μ w h) (hn : n0 ≤ fl) {sT : TypeId} {ts : Array TypeId} {ty : TypeId} {s x v : CV} {sv xv : Value} {h' : AH} (hts : ts[0]? = some sT) (hs : VC μ s sv) (hx : VC μ x xv)
    (hv : appendA P fl sT (ts[1]?) s x h = some (v, h')) :
    ∃ u μ' w', (Builtin.append_ ts ty #[sv, xv]).run P w = .ok u w' ∧ VC μ' v u ∧ Step cf n0 fl μ w h μ' w' h' := by
  unfold appendA at hv
  obtain ⟨el, h1, hv1⟩ := Option.bind_eq_some_iff.1 hv; clear hv
  obtain ⟨size, h2, hv2⟩ := Option.bind_eq_some_iff.1 hv1; clear hv1
  obtain ⟨b, h3, hv3⟩ := Option.bind_eq_some_iff.1 hv2; clear hv2
  obtain ⟨z, h4, hv4⟩ := Option.bind_eq_some_iff.1 hv3; clear hv3
  obtain ⟨zs, h5, hv5⟩ := Option.bind_eq_some_iff.1 hv4; clear hv4
  obtain ⟨⟨new, n⟩, h6, hv6⟩ := Option.bind_eq_some_iff.1 hv5; clear hv5
  obtain ⟨⟨old, len, h0⟩, h7, hv7⟩ := Option.bind_eq_some_iff.1 hv6; clear hv6
  simp only at hv7
  split at hv7
  · rename_i hc
    obtain ⟨hzl, hc1, hc2⟩ := hc
    obtain ⟨y, h8, hv8⟩ := Option.map_eq_some_iff.1 hv7; clear hv7
    injection hv8 with e1 e2; subst e1; subst e2
    have hu := elemS_u h1
    obtain ⟨i, zu, i6, i7, i8⟩ := zeroT_info h4
    have hzv : ∀ w1 : World, (zeroValue el).run P w1 = .ok zu w1 := fun w1 => by simp [zeroValue, Sem.run_bind, run_info i6, i7]
    have hnb : n * b ≤ 140737488355328 := Nat.le_trans (Nat.mul_le_mul_right b (Nat.le_add_left n len)) hc2
    obtain ⟨vs, hnew, nr, nl⟩ := new_run (P := P) (b := b) R h6 hx hnb
    obtain ⟨cy, _⟩ := cat_cells h8
    -- a new block: the cells of both, behind a heap whose length is h's
    have fresh : ∀ (hh : AH) (os : List Value) (nc : Nat), hh.length = h.length → Rel cf n0 μ w hh → VCs μ old.cells os → os.length = len * size → len + n ≤ nc →
        VC (fun i => if i = hh.length then some (w.heap.size, 0, (os.toArray ++ vs.toArray ++ Builtin.zeroCells zu.cells (nc - (len + n))).size) else μ i) (.sl h.length 0 (len + n) size) (.slice (some ⟨w.heap.size, 0, none⟩) (len + n) nc) ∧
        Step cf n0 fl μ w hh (fun i => if i = hh.length then some (w.heap.size, 0, (os.toArray ++ vs.toArray ++ Builtin.zeroCells zu.cells (nc - (len + n))).size) else μ i)
          { w with heap := w.heap.push (.cells (os.toArray ++ vs.toArray ++ Builtin.zeroCells zu.cells (nc - (len + n))) el), drawn := w.drawn + 1 } (hh ++ [y]) := by
      intro hh os nc hlen hR hos hol hnc
      have hcy : VCs μ y.cells (os ++ vs) := by rw [cy]; exact hos.append nr
      have hcl := hcy.length
      have hzs : zu.cells.size = size := by
        have := ((ofV_rel i8 μ).cells (ofV_one i8)).length
        rw [← hzl, ← this]; simp
      have hsz : (os.toArray ++ vs.toArray ++ Builtin.zeroCells zu.cells (nc - (len + n))).size = nc * size := by
        simp [Builtin.zeroCells, hol, nl, hzs]
        rw [← Nat.add_mul, ← Nat.add_mul]; congr 1; omega
      refine ⟨?_, Step.alloc hR y _ el 0 0 rfl (.inl (by omega)) rfl rfl rfl ?_ fun c a ha => ?_⟩
      · have := VC.sl (μ := fun i => if i = hh.length then some (w.heap.size, 0, (os.toArray ++ vs.toArray ++ Builtin.zeroCells zu.cells (nc - (len + n))).size) else μ i) h.length 0 (len + n) size w.heap.size 0 _ nc (by rw [if_pos hlen.symm]) hnc (by rw [hsz]; omega)
        simpa using this
      · have : y.cells.length = (os ++ vs).length := hcl.symm
        rw [this]; simp
      · obtain ⟨q, q1, q2⟩ := hcy.get c a ha
        have hl := (List.getElem?_eq_some_iff.1 q1).1
        refine ⟨q, ?_, q2⟩
        rw [Array.getElem?_append_left (by simp at hl ⊢; omega)]
        rw [← q1]; simp
    unfold oldO at h7
    split at h7
    · obtain ⟨o', k1, h7⟩ := Option.map_eq_some_iff.1 h7
      injection h7 with e1 e2; injection e2 with e2 e3; subst e1; subst e2; subst e3
      cases hs
      have hco := (mkO_cells k1).1
      by_cases hle : 0 + n ≤ 0
      · have := app_in (ty := ty) (base := none) hts hu h2 h3 h5 hnew hle
        have hn0 : n = 0 := by omega
        subst hn0
        exact ⟨_, μ, w, by simpa using this, .sz _ _ _ _, .ghost R _⟩
      · obtain ⟨nc, hnc, hr⟩ := app_re (ty := ty) (base := none) (os := []) hts hu h2 h3 h5 hnew hle hc1 hc2 hzv (fun w1 _ => by simp [Builtin.firstCells])
        obtain ⟨f1, f2⟩ := fresh h [] nc rfl R (by rw [hco]; exact .nil) (by simp) hnc
        exact ⟨_, _, _, hr, f1, f2⟩
    · obtain ⟨o', k1, h7⟩ := Option.map_eq_some_iff.1 h7
      injection h7 with e1 e2; injection e2 with e2 e3; subst e1; subst e2; subst e3
      obtain ⟨ea, rfl⟩ : ∃ ea, sv = .slice (some ea) 0 0 := by cases hs; exact ⟨_, rfl⟩
      have hco := (mkO_cells k1).1
      by_cases hle : 0 + n ≤ 0
      · have hin := app_in (ty := ty) (base := some ea) hts hu h2 h3 h5 hnew hle
        have hn0 : n = 0 := by omega
        subst hn0
        have hvs : vs = [] := List.eq_nil_of_length_eq_zero (by rw [nl]; simp)
        subst hvs
        refine ⟨.slice (some ea) 0 0, μ, w, ?_, .sz _ _ _ _, .ghost R _⟩
        rw [hin]
        simp [storeCells]
      · obtain ⟨nc, hnc, hr⟩ := app_re (ty := ty) (base := some ea) (os := []) hts hu h2 h3 h5 hnew hle hc1 hc2 hzv (fun w1 _ => by
          have := run_loadCells_list (P := P) w1 ea [] (fun j v hj => by simp at hj)
          simpa [Builtin.firstCells] using this)
        obtain ⟨f1, f2⟩ := fresh h [] nc rfl R (by rw [hco]; exact .nil) (by simp) hnc
        exact ⟨_, _, _, hr, f1, f2⟩
    · rename_i i off len' sz
      split at h7
      · rename_i hf
        obtain ⟨hfl, hsz⟩ := hf
        obtain ⟨o, k1, h7⟩ := Option.bind_eq_some_iff.1 h7
        obtain ⟨y', k2, h7⟩ := Option.map_eq_some_iff.1 h7
        injection h7 with e1 e2; injection e2 with e2 e3; subst e1; subst e2; subst e3; subst hsz
        obtain ⟨s1, s2, s3, _⟩ := sub_cells k2
        have hlive : Live h i := fun hd => by rw [k1] at hd; cases hd; exact s3 rfl
        have hk := Step.kill (w := w) (fl := fl) R i hfl
        rcases slInv hs with ⟨b', o', e', cap, hi', hl, he, rfl⟩ | ⟨rfl, p, rfl⟩
        · obtain ⟨os, v1, v2, v3⟩ := window R hi' k1 k2
          have hfirst : ∀ w1 : World, w1.heap = w.heap → (Builtin.firstCells sz len' (.slice (some ⟨b', o' + off, none⟩) len' cap)).run P w1 = .ok os.toArray w1 := fun w1 hw => by
            have := run_loadCells_list (P := P) w1 ⟨b', o' + off, none⟩ os (fun j v hj => by
              rw [Addr.add_lit]; have := v3 j v hj; unfold World.cell? at *; rw [hw]; exact this)
            rw [v1] at this
            simpa [Builtin.firstCells] using this
          by_cases hle : len' + n ≤ cap
          · have hin := app_in (ty := ty) (base := some ⟨b', o' + off, none⟩) hts hu h2 h3 h5 hnew hle
            obtain ⟨cs, t, fz, b1, b2⟩ := R.blk i b' o' e' hi'
            have hmul : len' * sz + n * sz ≤ cap * sz := by rw [← Nat.add_mul]; exact Nat.mul_le_mul_right _ hle
            have hst := run_storeCells_cells (P := P) b' (o' + off + len' * sz) vs 0 w
              (fun j hj => by
                rw [cell_of _ _ _ _ _ _ b1, Array.getElem?_eq_getElem (by omega)]; rfl)
              (fun j hj => wfz_frozen (R.frz i b' o' e' hi' (by omega) _ (by omega))) nr.one
            obtain ⟨cs', a1, a2, a3, a4⟩ := setCells_heap b' vs (o' + off + len' * sz) w cs t fz b1
            obtain ⟨r1, r2, r3, r4⟩ := setCells_rest b' vs (o' + off + len' * sz) w
            have hst' : (storeCells ((⟨b', o' + off, none⟩ : Addr).add (len' * sz)) vs).run P w = .ok () (w.setCells b' (o' + off + len' * sz) vs) := by
              rw [Addr.add_lit]; simpa using hst
            simp only [hst', Result.andThen_ok] at hin
            have hcy : VCs μ y.cells (os ++ vs) := by rw [cy]; exact v2.append nr
            have hcl : (os ++ vs).length = y.cells.length := hcy.length
            have hosl : (os ++ vs).length = len' * sz + n * sz := by simp [v1, nl]
            refine ⟨_, _, _, hin, ?_, Step.heir R hn i b' o' e' (o' + off) (e' - off) y hfl hi' hlive cs cs' t fz b1 a1 a2 (fun k hk => setCells_other b' _ _ _ k hk) r4 r1 r2 r3 (by omega) (by omega) fun c a ha => ?_⟩
            · have := VC.sl (μ := fun j => if j = h.length then some (b', o' + off, e' - off) else μ j) h.length 0 (len' + n) sz b' (o' + off) (e' - off) cap (by simp) hle (by omega)
              simpa using this
            · obtain ⟨q, q1, q2⟩ := hcy.get c a ha
              refine ⟨q, ?_, q2⟩
              have hcb := (List.getElem?_eq_some_iff.1 q1).1
              by_cases hcl : c < len' * sz
              · rw [List.getElem?_append_left (by omega)] at q1
                rw [a4 _ (.inl (by omega))]
                have := v3 c q q1
                rw [cell_of _ _ _ _ _ _ b1] at this; exact this
              · rw [List.getElem?_append_right (by omega), v1] at q1
                have := a3 (c - len' * sz) (by omega) (by omega)
                rw [show o' + off + len' * sz + (c - len' * sz) = o' + off + c by omega] at this
                rw [this]; exact q1
          · obtain ⟨nc, hnc, hr⟩ := app_re (ty := ty) hts hu h2 h3 h5 hnew hle hc1 hc2 hzv hfirst
            obtain ⟨f1, f2⟩ := fresh (h.set i .dead) os nc (by simp) hk.rel v2 v1 hnc
            exact ⟨_, _, _, hr, f1, hk.trans f2⟩
        · have hco : y'.cells = [] := by rw [s1]; simp
          by_cases hle : 0 + n ≤ 0
          · have hin := app_in (ty := ty) (base := p) hts hu h2 h3 h5 hnew hle
            have hn0 : n = 0 := by omega
            subst hn0
            have hvs : vs = [] := List.eq_nil_of_length_eq_zero (by rw [nl]; simp)
            subst hvs
            refine ⟨.slice p 0 0, μ, w, ?_, .sz _ _ _ _, hk.trans (.ghost hk.rel _)⟩
            rw [hin]
            cases p <;> simp [storeCells]
          · obtain ⟨nc, hnc, hr⟩ := app_re (ty := ty) (base := p) (os := []) hts hu h2 h3 h5 hnew hle hc1 hc2 hzv (fun w1 _ => by
              cases p with
              | none => simp [Builtin.firstCells]
              | some p =>
                have := run_loadCells_list (P := P) w1 p [] (fun j v hj => by simp at hj)
                simpa [Builtin.firstCells] using this)
            obtain ⟨f1, f2⟩ := fresh (h.set i .dead) [] nc (by simp) hk.rel (by rw [hco]; exact .nil) (by simp) hnc
            exact ⟨_, _, _, hr, f1, hk.trans f2⟩
      · simp at h7
    · simp at h7
  · simp at hv7

/-! ### copy -/
theorem src_val (R : Rel cf n0 μ w h) {ko : Option IntKind} {n : Nat} {x : CV} {o : AO} {a : Value} (hs : srcO ko 1 h x = some (o, n)) (hx : VC μ x a) (hns : x.notStr = true) :
    ∃ p cap, a = .slice p n cap ∧ (0 < n → ∃ ad vs, p = some ad ∧ VCs μ o.cells vs ∧ vs.length = n ∧ ∀ (j : Nat) v, vs[j]? = some v → w.cell? (ad.add j) = some v) := by
  have key : ∀ {j off n' sz : Nat} {y : AO}, sz = 1 → ((h[j]?).bind fun o => (o.sub off (n' * sz)).map fun y => (y, n')) = some (y, n) → ∀ b o' e' (_ : Nat), μ j = some (b, o', e') →
      n' = n ∧ ∃ vs : List Value, VCs μ y.cells vs ∧ vs.length = n ∧ ∀ (i : Nat) v, vs[i]? = some v → w.cell? ((⟨b, o' + off, none⟩ : Addr).add i) = some v := by
    intro j off n' sz y hsz hh b o' e' cap hj
    obtain ⟨x', h1, hh⟩ := Option.bind_eq_some_iff.1 hh
    obtain ⟨y', h2, hh⟩ := Option.map_eq_some_iff.1 hh
    injection hh with e1 e2; subst e1; subst e2; subst hsz
    obtain ⟨vs, v1, v2, v3⟩ := window R hj h1 h2
    exact ⟨rfl, vs, v2, by simpa using v1, fun i v hi => by rw [Addr.add_lit]; exact v3 i v hi⟩
  have zero : ∀ {j off n' sz : Nat} {y : AO}, n' = 0 → ((h[j]?).bind fun o => (o.sub off (n' * sz)).map fun y => (y, n')) = some (y, n) → n = 0 := by
    intro j off n' sz y hz hh
    obtain ⟨x', h1, hh⟩ := Option.bind_eq_some_iff.1 hh
    obtain ⟨y', h2, hh⟩ := Option.map_eq_some_iff.1 hh
    injection hh with e1 e2; omega
  unfold srcO at hs
  split at hs
  · obtain ⟨o', h1, hs⟩ := Option.map_eq_some_iff.1 hs
    injection hs with e1 e2; subst e1; subst e2
    cases hx
    exact ⟨none, 0, rfl, fun h => by omega⟩
  · split at hs
    · rename_i j off m sz hsz
      rcases slInv hx with ⟨b, o', e', cap, hj, hl, he, rfl⟩ | ⟨h0, p, rfl⟩
      · obtain ⟨rfl, vs, k1, k2, k3⟩ := key hsz hs b o' e' cap hj
        exact ⟨_, cap, rfl, fun _ => ⟨_, vs, rfl, k1, k2, k3⟩⟩
      · have := zero h0 hs
        subst this
        exact ⟨p, 0, rfl, fun h => by omega⟩
    · simp at hs
  · split at hs
    · rename_i j off m sz hsz
      cases hx with
      | sn _ _ _ _ b o' e' cap hj hl he =>
        obtain ⟨rfl, vs, k1, k2, k3⟩ := key hsz hs b o' e' cap hj
        exact ⟨_, cap, rfl, fun _ => ⟨_, vs, rfl, k1, k2, k3⟩⟩
      | snz _ _ _ p =>
        have := zero rfl hs
        subst this
        exact ⟨some p, 0, rfl, fun h => by omega⟩
    · simp at hs
  · simp [CV.notStr] at hns
  · simp at hs
theorem copy_zero {ts : Array TypeId} {ty dT el : TypeId} {d a : Option Addr} {dLen dCap sLen sCap : Nat} (hts : ts[0]? = some dT) (hu : P.underlying dT = some (.slice el)) (hs : sizeT P el = some 1) (hn : Nat.min sLen dLen = 0) :
    (Builtin.copy_ ts ty #[.slice d dLen dCap, .slice a sLen sCap]).run P w = .ok (.int .i64 0) w := by
  have hl : ∀ (x : Addr), (loadCells x 0).run P w = .ok #[] w := fun x => by simpa using run_loadCells_list (P := P) w x [] (by simp)
  have hsz := run_size (P := P) (w := w) hs
  cases d <;> cases a <;> simp [Builtin.copy_, hts, Sem.run_bind, run_underlying hu, Builtin.lenOf, Builtin.firstCells, hsz, hn, storeCells, hl, goInt]
theorem copy_some {ts : Array TypeId} {ty dT el : TypeId} {b o : Nat} {a : Addr} {dLen dCap sLen sCap : Nat} {cs : List Value} (hts : ts[0]? = some dT) (hu : P.underlying dT = some (.slice el)) (hs : sizeT P el = some 1) (hn : cs.length = Nat.min sLen dLen)
    (hsrc : ∀ (j : Nat) v, cs[j]? = some v → w.cell? (a.add j) = some v) (hst : (storeCells ⟨b, o, none⟩ cs).run P w = .ok () (w.setCells b o cs)) :
    (Builtin.copy_ ts ty #[.slice (some ⟨b, o, none⟩) dLen dCap, .slice (some a) sLen sCap]).run P w = .ok (.int .i64 cs.length) (w.setCells b o cs) := by
  have hl := run_loadCells_list (P := P) w a cs hsrc
  have hsz := run_size (P := P) (w := w) hs
  simp [Builtin.copy_, hts, Sem.run_bind, run_underlying hu, Builtin.lenOf, Builtin.firstCells, hsz, ← hn, hl, hst, goInt]
theorem copy_run (R : Rel cf n0 μ w h) (hn : n0 ≤ fl) {dT : TypeId} {ts : Array TypeId} {ty : TypeId} {d s v : CV} {dv sv : Value} {h' : AH} (hts : ts[0]? = some dT) (hd : VC μ d dv) (hs : VC μ s sv)
    (hv : copyA P fl dT d s h = some (v, h')) :
    ∃ u μ' w', (Builtin.copy_ ts ty #[dv, sv]).run P w = .ok u w' ∧ VC μ' v u ∧ Step cf n0 fl μ w h μ' w' h' := by
  unfold copyA at hv
  obtain ⟨el, h1, hv⟩ := Option.bind_eq_some_iff.1 hv
  have hu := elemS_u h1
  split at hv
  · rename_i hc
    obtain ⟨hsz, hns⟩ := hc
    obtain ⟨⟨o, n⟩, h2, hv⟩ := Option.bind_eq_some_iff.1 hv
    obtain ⟨p, cap, rfl, hp⟩ := src_val R h2 hs hns
    cases d with
    | nil =>
      simp only [Option.some.injEq, Prod.mk.injEq] at hv
      obtain ⟨rfl, rfl⟩ := hv
      cases hd
      exact ⟨_, μ, w, copy_zero hts hu hsz (Nat.min_zero _), .int _ _, .refl R⟩
    | sl i off len sz =>
      simp only at hv
      split at hv
      · rename_i hsz1
        split at hv
        · rename_i hm
          simp only [Option.some.injEq, Prod.mk.injEq] at hv
          obtain ⟨rfl, rfl⟩ := hv
          rcases slInv hd with ⟨b, o', e', cap', hj, hl, he, rfl⟩ | ⟨h0, q, rfl⟩
          · exact ⟨_, μ, w, copy_zero hts hu hsz hm, .int _ _, .refl R⟩
          · exact ⟨_, μ, w, copy_zero hts hu hsz (Nat.min_zero _), .int _ _, .refl R⟩
        · rename_i hm
          split at hv
          · rename_i hfl
            obtain ⟨x, h3, hv⟩ := Option.bind_eq_some_iff.1 hv
            obtain ⟨y, h4, hv⟩ := Option.map_eq_some_iff.1 hv
            simp only [Prod.mk.injEq] at hv
            obtain ⟨rfl, rfl⟩ := hv
            have hn0 : 0 < n := by omega
            obtain ⟨ad, vs, rfl, k1, k2, k3⟩ := hp hn0
            rcases slInv hd with ⟨b, o', e', cap', hj, hl, he, rfl⟩ | ⟨h0, q, rfl⟩
            · have k1' : VCs μ (o.cells.take (min n len)) (vs.take (min n len)) := by
                have hll := k1.length
                refine VCs.of_get (by simp; omega) fun j a v ha hv => ?_
                rw [List.getElem?_take] at ha hv
                split at ha
                · rename_i hj'
                  rw [if_pos hj'] at hv
                  obtain ⟨z, z1, z2⟩ := k1.get j a ha
                  rw [hv] at z1; cases z1; exact z2
                · cases ha
              have hcl : (vs.take (min n len)).length = Nat.min n len := by rw [List.length_take, k2]; show min (min n len) n = min n len; omega
              have hol : (o.cells.take (min n len)).length = min n len := by rw [← k1'.length]; exact hcl
              have hdx : x ≠ .dead := fun e => by
                subst e
                cases hq : o.cells.take (min n len) with
                | nil => rw [hq] at hol; simp at hol; omega
                | cons a r => rw [hq] at h4; simp [AO.sets, AO.set1] at h4
              obtain ⟨cs, t, fz, g1, g2⟩ := R.blk i b o' e' hj
              obtain ⟨cs', a1, a2, a3, a4⟩ := setCells_heap b (vs.take (min n len)) (o' + off) w cs t fz g1
              obtain ⟨r1, r2, r3, r4⟩ := setCells_rest b (vs.take (min n len)) (o' + off) w
              obtain ⟨b1, b2, b3, b4, b5⟩ := sets_cells h4 hdx
              obtain ⟨v1, v2⟩ := R.val i b o' e' x hj h3
              have hlv : (vs.take (min n len)).length = min n len := hcl
              have hbd : off + min n len ≤ x.cells.length := by
                rcases b3 with e | e
                · rw [e] at hol; simp at hol; omega
                · omega
              have hst := run_storeCells_cells (P := P) b (o' + off) (vs.take (min n len)) 0 w
                (fun j hj => by
                  have hlt : off + j < x.cells.length := by omega
                  obtain ⟨z, z1, _⟩ := v2 (off + j) _ (List.getElem?_eq_getElem hlt)
                  rw [show o' + off + 0 + j = o' + (off + j) by omega, z1]; rfl)
                (fun j hj' => wfz_frozen (R.frz i b o' e' hj (by omega) _ (by omega))) k1'.one
              refine ⟨_, μ, _, copy_some hts hu hsz hcl (fun j v hj => k3 j v ?_) (by simpa using hst), ?_, ?_⟩
              · rw [List.getElem?_take] at hj
                split at hj
                · exact hj
                · cases hj
              · rw [hlv]; exact .int _ _
              · refine Step.write R hn i b o' e' y hfl hj (fun hd => hdx (by rw [h3] at hd; cases hd; rfl)) cs cs' t fz g1 a1 a2 (fun k hk => setCells_other b _ _ _ k hk) r4 r1 r2 r3 (by omega) fun c a hc => ?_
                by_cases hin : off ≤ c ∧ c < off + min n len
                · obtain ⟨j, rfl⟩ : ∃ j, c = off + j := ⟨c - off, by omega⟩
                  rw [b4 j (by omega)] at hc
                  obtain ⟨z, z1, z2⟩ := k1'.get j a hc
                  refine ⟨z, ?_, z2⟩
                  rw [← Nat.add_assoc, a3 j (by omega) (by omega)]; exact z1
                · rw [b5 c (by omega)] at hc
                  obtain ⟨z, z1, z2⟩ := v2 c a hc
                  refine ⟨z, ?_, z2⟩
                  rw [a4 (o' + c) (by omega)]
                  rw [cell_of _ _ _ _ _ _ g1] at z1; exact z1
            · omega
          · simp at hv
      · simp at hv
    | _ => simp at hv
  · simp at hv
end
end Go.Eng
end
section
/- The engine: what is told lies in the heap. No conditions. -/
namespace Go.Eng

mutual
def CV.wf (n : Nat) : CV → Bool
  | .sl i _ _ _ => decide (i < n)
  | .sn i _ _ _ => decide (i < n)
  | .ptr i _ => decide (i < n)
  | .fn _ a b => CV.wfs n a && CV.wfs n b
  | .bool _ => true
  | .int _ _ => true
  | .str _ => true
  | .nil => true
  | .em => true
def CV.wfs (n : Nat) : List CV → Bool
  | [] => true
  | a :: r => CV.wf n a && CV.wfs n r
end

mutual
def AV.wf (n : Nat) : AV → Bool
  | .c v => v.wf n
  | .agg cs => CV.wfs n cs
  | .tup vs => AV.wfs n vs
  | .np => true
def AV.wfs (n : Nat) : List AV → Bool
  | [] => true
  | a :: r => AV.wf n a && AV.wfs n r
end

theorem wfs_iff (n : Nat) : ∀ (l : List CV), CV.wfs n l = true ↔ ∀ a ∈ l, a.wf n = true
  | [] => by simp [CV.wfs]
  | a :: r => by simp [CV.wfs, wfs_iff n r]

theorem awfs_iff (n : Nat) : ∀ (l : List AV), AV.wfs n l = true ↔ ∀ a ∈ l, a.wf n = true
  | [] => by simp [AV.wfs]
  | a :: r => by simp [AV.wfs, awfs_iff n r]

mutual
theorem CV.wf_mono {n m : Nat} (h : n ≤ m) : ∀ (a : CV), a.wf n = true → a.wf m = true
  | .sl i _ _ _, k => by simp [CV.wf] at k ⊢; omega
  | .sn i _ _ _, k => by simp [CV.wf] at k ⊢; omega
  | .ptr i _, k => by simp [CV.wf] at k ⊢; omega
  | .fn _ a b, k => by simp only [CV.wf, Bool.and_eq_true] at k ⊢; exact ⟨CV.wfs_mono h a k.1, CV.wfs_mono h b k.2⟩
  | .bool _, _ => rfl
  | .int _ _, _ => rfl
  | .str _, _ => rfl
  | .nil, _ => rfl
  | .em, _ => rfl
theorem CV.wfs_mono {n m : Nat} (h : n ≤ m) : ∀ (l : List CV), CV.wfs n l = true → CV.wfs m l = true
  | [], _ => rfl
  | a :: r, k => by simp only [CV.wfs, Bool.and_eq_true] at k ⊢; exact ⟨CV.wf_mono h a k.1, CV.wfs_mono h r k.2⟩
end

mutual
theorem AV.wf_mono {n m : Nat} (h : n ≤ m) : ∀ (a : AV), a.wf n = true → a.wf m = true
  | .c v, k => CV.wf_mono h v k
  | .agg cs, k => CV.wfs_mono h cs k
  | .tup vs, k => AV.wfs_mono h vs k
  | .np, _ => rfl
theorem AV.wfs_mono {n m : Nat} (h : n ≤ m) : ∀ (l : List AV), AV.wfs n l = true → AV.wfs m l = true
  | [], _ => rfl
  | a :: r, k => by simp only [AV.wfs, Bool.and_eq_true] at k ⊢; exact ⟨AV.wf_mono h a k.1, AV.wfs_mono h r k.2⟩
end

/-- Every cell of the heap tells of the heap. -/
def WfH (h : AH) : Prop := ∀ x ∈ h, ∀ c ∈ x.cells, c.wf h.length = true
def WfE (n : Nat) (e : Env) : Prop := ∀ t v, get e t = some v → v.wf n = true
def WfG (cf : Cfg) (n : Nat) : Prop := ∀ g a, cf.glob g = some a → a.wf n = true

theorem WfE.mono {n m : Nat} (h : n ≤ m) {e : Env} (k : WfE n e) : WfE m e := fun t v ht => AV.wf_mono h v (k t v ht)
theorem WfG.mono {cf : Cfg} {n m : Nat} (h : n ≤ m) (k : WfG cf n) : WfG cf m := fun g a ha => CV.wf_mono h a (k g a ha)

theorem WfE.put {n : Nat} {e : Env} (k : WfE n e) {v : AV} (hv : v.wf n = true) (dst : Option Nat) : WfE n (put dst v e) := by
  intro t x ht
  cases dst with
  | none => exact k t x ht
  | some d =>
    simp only [Go.Eng.put, get] at ht
    split at ht
    · injection ht with ht; subst ht; exact hv
    · exact k t x ht

theorem WfH.app {h : AH} (k : WfH h) {o : AO} (ho : ∀ c ∈ o.cells, c.wf (h.length + 1) = true) : WfH (h ++ [o]) := by
  intro x hx c hc
  simp at hx
  rw [List.length_append]
  rcases hx with hx | rfl
  · exact CV.wf_mono (by simp) c (k x hx c hc)
  · exact ho c hc

theorem WfH.apps {h l : AH} (k : WfH h) (ho : ∀ o ∈ l, ∀ c ∈ o.cells, c.wf (h.length + l.length) = true) : WfH (h ++ l) := by
  intro x hx c hc
  simp at hx
  rw [List.length_append]
  rcases hx with hx | hx
  · exact CV.wf_mono (by omega) c (k x hx c hc)
  · exact ho x hx c hc

theorem WfH.set {h : AH} (k : WfH h) {i : Nat} {o : AO} (ho : ∀ c ∈ o.cells, c.wf h.length = true) : WfH (h.set i o) := by
  intro x hx c hc
  rw [List.length_set]
  rcases List.mem_or_eq_of_mem_set hx with hx | rfl
  · exact k x hx c hc
  · exact ho c hc

theorem ofC_wf {v : Value} {x : CV} (h : ofC v = some x) (n : Nat) : x.wf n = true := by
  unfold ofC at h
  split at h <;> first | (injection h with h; subst h; rfl) | (simp at h)

theorem ofCs_wf (n : Nat) : ∀ {l : List Value} {xs : List CV}, ofCs l = some xs → CV.wfs n xs = true
  | [], xs, h => by simp [ofCs] at h; subst h; rfl
  | v :: r, xs, h => by
    simp only [ofCs, Option.bind_eq_some_iff, Option.map_eq_some_iff] at h
    obtain ⟨x, h1, l, h2, rfl⟩ := h
    simp [CV.wfs, ofC_wf h1 n, ofCs_wf n h2]

theorem ofV_wf {v : Value} {x : AV} (h : ofV v = some x) (n : Nat) : x.wf n = true := by
  unfold ofV at h
  split at h
  · obtain ⟨l, h1, rfl⟩ := Option.map_eq_some_iff.1 h; exact ofCs_wf n h1
  · obtain ⟨l, h1, rfl⟩ := Option.map_eq_some_iff.1 h; exact ofC_wf h1 n

theorem ofK_wf {v : Value} {x : AV} (h : ofK v = some x) (n : Nat) : x.wf n = true := by
  unfold ofK at h
  split at h
  · cases h; rfl
  · exact ofV_wf h n

theorem cells_wf {n : Nat} {a : AV} (h : a.wf n = true) : ∀ c ∈ a.cells, c.wf n = true := by
  cases a with
  | c v => intro c hc; simp [AV.cells] at hc; subst hc; exact h
  | agg cs => exact (wfs_iff n cs).1 h
  | tup vs => intro c hc; simp [AV.cells] at hc
  | np => intro c hc; simp [AV.cells] at hc

theorem sub_wf {x y : AO} {off n m : Nat} (h : x.sub off n = some y) (hx : ∀ c ∈ x.cells, c.wf m = true) : ∀ c ∈ y.cells, c.wf m = true := by
  intro c hc
  rw [(sub_cells h).1] at hc
  exact hx c (List.mem_of_mem_drop (List.mem_of_mem_take hc))

theorem setAll_wf {m : Nat} : ∀ (vs cs : List CV) (off : Nat), (∀ c ∈ cs, c.wf m = true) → (∀ c ∈ vs, c.wf m = true) → ∀ c ∈ setAll cs off vs, c.wf m = true
  | [], cs, off, h, _ => h
  | v :: r, cs, off, h, k => by
    refine setAll_wf r _ _ (fun c hc => ?_) (fun c hc => k c (by simp [hc]))
    rcases List.mem_or_eq_of_mem_set hc with hc | rfl
    · exact h c hc
    · exact k c (by simp)

theorem fillA_wf {m : Nat} {place : Nat → Option (Nat × Nat)} : ∀ {qs : List (Nat × AV)} {cs cs' : List CV}, fillA place cs qs = some cs' → (∀ c ∈ cs, c.wf m = true) → (∀ q ∈ qs, q.2.wf m = true) → ∀ c ∈ cs', c.wf m = true
  | [], cs, cs', h, hc, _ => by simp [fillA] at h; subst h; exact hc
  | (i, v) :: r, cs, cs', h, hc, hq => by
    simp only [fillA, Option.bind_eq_some_iff] at h
    obtain ⟨p, _, h⟩ := h
    split at h
    · exact fillA_wf h (setAll_wf _ _ _ hc (cells_wf (hq (i, v) (by simp)))) (fun q h => hq q (by simp [h]))
    · simp at h

theorem reps_wf {m n : Nat} {cs : List CV} (h : ∀ c ∈ cs, c.wf m = true) : ∀ c ∈ reps n cs, c.wf m = true := by
  intro c hc
  simp only [reps, List.mem_flatten, List.mem_replicate] at hc
  obtain ⟨l, ⟨_, rfl⟩, hc⟩ := hc
  exact h c hc

theorem bytesO_wf (m : Nat) (s : ByteArray) : ∀ c ∈ (bytesO s).cells, c.wf m = true := by
  intro c hc
  simp only [bytesO, AO.cells, List.mem_map] at hc
  obtain ⟨x, _, rfl⟩ := hc; rfl

section
variable {P : Program} {cf : Cfg} {fl : Nat} {h : AH} {e : Env} {call : CallF}

theorem ev_wf (he : WfE h.length e) (hg : WfG cf h.length) {x : Operand} {v : AV} (hv : ev cf e x = some v) : v.wf h.length = true := by
  cases x with
  | tmp t => exact he t v hv
  | const c => exact ofK_wf hv _
  | func f => simp [ev] at hv; subst hv; rfl
  | global g =>
    simp only [ev] at hv
    obtain ⟨c, h1, rfl⟩ := Option.map_eq_some_iff.1 hv
    exact hg g c h1

theorem evC_wf (he : WfE h.length e) (hg : WfG cf h.length) {x : Operand} {v : CV} (hv : evC cf e x = some v) : v.wf h.length = true := by
  unfold evC at hv
  obtain ⟨a, h1, h2⟩ := Option.bind_eq_some_iff.1 hv
  have := ev_wf he hg h1
  cases a <;> simp [AV.cell] at h2
  subst h2; exact this

theorem evs_wf (he : WfE h.length e) (hg : WfG cf h.length) : ∀ {l : List Operand} {vs : List AV}, evs cf e l = some vs → AV.wfs h.length vs = true
  | [], vs, hv => by simp [evs] at hv; subst hv; rfl
  | x :: r, vs, hv => by
    simp only [evs, Option.bind_eq_some_iff, Option.map_eq_some_iff] at hv
    obtain ⟨v, h1, l, h2, rfl⟩ := hv
    simp [AV.wfs, ev_wf he hg h1, evs_wf he hg h2]

theorem evCs_wf (he : WfE h.length e) (hg : WfG cf h.length) : ∀ {l : List Operand} {vs : List CV}, evCs cf e l = some vs → CV.wfs h.length vs = true
  | [], vs, hv => by simp [evCs] at hv; subst hv; rfl
  | x :: r, vs, hv => by
    simp only [evCs, Option.bind_eq_some_iff, Option.map_eq_some_iff] at hv
    obtain ⟨v, h1, l, h2, rfl⟩ := hv
    simp [CV.wfs, evC_wf he hg h1, evCs_wf he hg h2]

theorem evParts_wf (he : WfE h.length e) (hg : WfG cf h.length) : ∀ {l : List (Nat × Operand)} {vs : List (Nat × AV)}, evParts cf e l = some vs → ∀ q ∈ vs, q.2.wf h.length = true
  | [], vs, hv => by simp [evParts] at hv; subst hv; simp
  | (i, x) :: r, vs, hv => by
    simp only [evParts, Option.bind_eq_some_iff, Option.map_eq_some_iff] at hv
    obtain ⟨v, h1, l, h2, rfl⟩ := hv
    intro q hq
    simp at hq
    rcases hq with rfl | hq
    · exact ev_wf he hg h1
    · exact evParts_wf he hg h2 q hq

theorem ld_wf (hh : WfH h) {i off : Nat} {v : CV} (hl : ld h i off = some v) : v.wf h.length = true := by
  obtain ⟨x, h1, h2, _⟩ := ld_cells hl
  exact hh x (List.mem_of_getElem? h1) v (List.mem_of_getElem? h2)

theorem loadA_wf (hh : WfH h) {t : TypeId} {i off : Nat} {v : AV} (hl : loadA P t h i off = some v) : v.wf h.length = true := by
  unfold loadA at hl
  split at hl
  · obtain ⟨s, h1, hl⟩ := Option.bind_eq_some_iff.1 hl
    obtain ⟨x, h2, hl⟩ := Option.bind_eq_some_iff.1 hl
    obtain ⟨y, h3, rfl⟩ := Option.map_eq_some_iff.1 hl
    exact (wfs_iff _ _).2 (sub_wf h3 (hh x (List.mem_of_getElem? h2)))
  · obtain ⟨c, h1, rfl⟩ := Option.map_eq_some_iff.1 hl
    exact ld_wf hh h1
  · simp at hl

theorem zerosO_wf {el : TypeId} {n m : Nat} {o : AO} (hz : zerosO P el n = some o) : ∀ c ∈ o.cells, c.wf m = true := by
  obtain ⟨z, z1, z2, _⟩ := zeroO_cells hz
  obtain ⟨i, u, _, _, h8⟩ := zeroT_info z1
  rw [z2]; exact reps_wf (cells_wf (ofV_wf h8 m))

theorem srcO_wf (hh : WfH h) {ko : Option IntKind} {size : Nat} {x : CV} {r : AO × Nat} {m : Nat} (hm : h.length ≤ m) (hs : srcO ko size h x = some r) : ∀ c ∈ r.1.cells, c.wf m = true := by
  unfold srcO at hs
  split at hs
  · obtain ⟨o, h1, rfl⟩ := Option.map_eq_some_iff.1 hs
    rw [(mkO_cells h1).1]; simp
  · split at hs
    · obtain ⟨o, h1, hs⟩ := Option.bind_eq_some_iff.1 hs
      obtain ⟨y, h2, rfl⟩ := Option.map_eq_some_iff.1 hs
      exact fun c hc => CV.wf_mono hm c (sub_wf h2 (hh o (List.mem_of_getElem? h1)) c hc)
    · simp at hs
  · split at hs
    · obtain ⟨o, h1, hs⟩ := Option.bind_eq_some_iff.1 hs
      obtain ⟨y, h2, rfl⟩ := Option.map_eq_some_iff.1 hs
      exact fun c hc => CV.wf_mono hm c (sub_wf h2 (hh o (List.mem_of_getElem? h1)) c hc)
    · simp at hs
  · split at hs
    · injection hs with hs; subst hs; exact bytesO_wf _ _
    · simp at hs
  · simp at hs
end
end Go.Eng
end
section
/- The engine: one operation. No conditions. -/
namespace Go.Eng

/-- What calls come to is what the engine says. -/
def CallOK (P : Program) (cf : Cfg) (n0 : Nat) (call : CallF) : Prop :=
  ∀ (fl : Nat) (g : FuncId) (args : List AV) (h : AH) (v : AV) (h' : AH), n0 ≤ fl → fl ≤ h.length → WfH h → AV.wfs h.length args = true → WfG cf h.length → call fl g args h = some (v, h') → ∀ (μ : Pl) (w : World) (vs : Array Value), Rel cf n0 μ w h → VAs μ args vs.toList →
    (∃ fn, P.funcs[g]? = some fn ∧ fn.body.isNone = false ∧ (fn.name == "runtime.NumGoroutine") = false) ∧
    Calls P g vs w (fun en w' => ∃ u μ', en = .returned u ∧ VA μ' v u ∧ Step cf n0 fl μ w h μ' w' h')

section
variable {P : Program} {cf : Cfg} {n0 fl : Nat} {μ : Pl} {w : World} {h : AH} {e : Env} {ρ : Operand → Value} {call : CallF}

theorem did_v {s : Sem Value} {v : AV} {h' : AH} (hs : ∃ u μ' w', s.run P w = .ok u w' ∧ VA μ' v u ∧ Step cf n0 fl μ w h μ' w' h') :
    Did P cf n0 fl μ w h ((do pure (Next.value (← s)) : Sem Next).run P w) v h' := by
  obtain ⟨u, μ', w', h1, h2, h3⟩ := hs
  exact .inl ⟨u, μ', w', .inl (run_v h1), h2, h3⟩

theorem did_c (R : Rel cf n0 μ w h) {s : Sem Value} {v : CV} (hs : ∃ u, s.run P w = .ok u w ∧ VC μ v u) : Did P cf n0 fl μ w h ((do pure (Next.value (← s)) : Sem Next).run P w) (.c v) h := by
  obtain ⟨u, h1, h2⟩ := hs
  exact did_v ⟨u, μ, w, h1, .c _ _ h2, .refl R⟩

theorem did_a (R : Rel cf n0 μ w h) {s : Sem Value} {v : AV} (hs : ∃ u, s.run P w = .ok u w ∧ VA μ v u) : Did P cf n0 fl μ w h ((do pure (Next.value (← s)) : Sem Next).run P w) v h := by
  obtain ⟨u, h1, h2⟩ := hs
  exact did_v ⟨u, μ, w, h1, h2, .refl R⟩

theorem outC_some {r : Option (CV × AH)} {v : AV} {h' : AH} (hr : outC r = some (v, h')) : ∃ c, v = .c c ∧ r = some (c, h') := by
  unfold outC at hr
  obtain ⟨⟨c, h''⟩, h1, h2⟩ := Option.map_eq_some_iff.1 hr
  injection h2 with a b; subst a; subst b
  exact ⟨c, rfl, h1⟩

theorem did_o {s : Sem Value} {r : Option (CV × AH)} {v : AV} {h' : AH} (hr : outC r = some (v, h')) (hs : ∀ c, r = some (c, h') → ∃ u μ' w', s.run P w = .ok u w' ∧ VC μ' c u ∧ Step cf n0 fl μ w h μ' w' h') :
    Did P cf n0 fl μ w h ((do pure (Next.value (← s)) : Sem Next).run P w) v h' := by
  obtain ⟨c, rfl, h1⟩ := outC_some hr
  obtain ⟨u, μ', w', a, b, d⟩ := hs c h1
  exact did_v ⟨u, μ', w', a, .c _ _ b, d⟩

theorem map_same {α : Type} {r : Option α} {f : α → AV} {v : AV} {h' : AH} (hr : r.map (fun x => (f x, h)) = some (v, h')) : h' = h ∧ ∃ x, r = some x ∧ v = f x := by
  obtain ⟨x, h1, h2⟩ := Option.map_eq_some_iff.1 hr
  injection h2 with a b; subst a; subst b
  exact ⟨rfl, x, h1, rfl⟩

theorem VCs.two {a b : CV} {vs : List Value} (h : VCs μ [a, b] vs) : ∃ u v, vs = [u, v] ∧ VC μ a u ∧ VC μ b v := by
  cases h with
  | cons _ u _ _ h1 h2 => cases h2 with
    | cons _ v _ _ h3 h4 => cases h4; exact ⟨u, v, rfl, h1, h3⟩

theorem VCs.one1 {a : CV} {vs : List Value} (h : VCs μ [a] vs) : ∃ u, vs = [u] ∧ VC μ a u := by
  cases h with
  | cons _ u _ _ h1 h2 => cases h2; exact ⟨u, rfl, h1⟩

theorem wfs_map {n : Nat} {l : List CV} (h : CV.wfs n l = true) : AV.wfs n (l.map .c) = true := by
  rw [awfs_iff]; intro a ha
  obtain ⟨c, hc, rfl⟩ := List.mem_map.1 ha
  exact (wfs_iff n l).1 h c hc

theorem awfs_append {n : Nat} {a b : List AV} (h : AV.wfs n a = true) (k : AV.wfs n b = true) : AV.wfs n (a ++ b) = true := by
  rw [awfs_iff] at *
  intro x hx
  rcases List.mem_append.1 hx with hx | hx
  · exact h x hx
  · exact k x hx

theorem evCall_sound (hcall : CallOK P cf n0 call) (R : Rel cf n0 μ w h) (hn : n0 ≤ fl) (hfl : fl ≤ h.length) {c : Call} (hwf : ∀ f, c.callee = .value f → WfH h ∧ WfE h.length e ∧ WfG cf h.length) {ty : TypeId} {v : AV} {h' : AH} (hok : ∀ x ∈ c.operands, Ok cf μ e ρ x)
    (hev : evCall P cf call fl e h c = some (v, h')) : Did P cf n0 fl μ w h ((do let d ← resolve ρ c ty; invoke d.target d.args : Sem Next).run P w) v h' := by
  have hargs : ∀ x ∈ c.args.toList, Ok cf μ e ρ x := fun x hx => hok x (by simp [Call.operands]; exact .inr (by simpa using hx))
  unfold evCall at hev
  split at hev
  · rename_i f hcl
    obtain ⟨args, h1, hev⟩ := Option.bind_eq_some_iff.1 hev
    obtain ⟨g, h2, hev⟩ := Option.bind_eq_some_iff.1 hev
    split at hev
    · rename_i g first captured
      have hf : VC μ (.fn (.func g) first captured) (ρ f) := evC_rel (hok f (by simp [Call.operands, hcl])) h2
      have hva := evs_rel hargs h1
      generalize hρ : ρ f = fv at hf
      cases hf with
      | fn _ _ _ a' b' ha hb =>
        have hvs : VAs μ (first.map .c ++ args ++ captured.map .c) ((a' ++ c.args.map ρ) ++ b').toList := by
          simp only [Array.toList_append, Array.toList_map]
          exact ((VAs.of_cs ha).append hva).append (VAs.of_cs hb)
        have hfl' := floorOf_ge cf hfl f
        have hfl2 := floorOf_le cf hfl f
        obtain ⟨hh, he, hg⟩ := hwf f hcl
        have hwf := evC_wf he hg h2
        simp only [CV.wf, Bool.and_eq_true] at hwf
        obtain ⟨⟨fn, f1, f2, f3⟩, hc⟩ := hcall _ g _ h v h' (Nat.le_trans hn hfl') hfl2 hh (awfs_append (awfs_append (wfs_map hwf.1) (evs_wf he hg h1)) (wfs_map hwf.2)) hg hev μ w _ R hvs
        refine .inr ⟨g, _, ?_, hc.mono fun en w' ⟨u, μ', x1, x2, x3⟩ => ⟨u, μ', x1, x2, x3.floor hfl'⟩⟩
        have f2' : fn.body ≠ none := fun e => by rw [e] at f2; simp at f2
        have f3' : fn.name ≠ "runtime.NumGoroutine" := by simpa using f3
        have hprog : (program : Sem Program).run P w = .ok P w := rfl
        have hcf : (callFunc g (a' ++ c.args.map ρ ++ b')).run P w = .ok (.enter g (a' ++ c.args.map ρ ++ b')) w := by
          simp only [callFunc, Sem.run_bind, hprog, Result.andThen_ok, f1]
          rw [if_neg (by simpa using f3'), if_neg (by simpa using f2')]
          rfl
        simp only [resolve, hcl, Deferred.ofValue, hρ, Sem.run_bind, Sem.run_pure, Result.andThen_ok, invoke]
        exact hcf
    · simp at hev
  · rename_i hcl
    obtain ⟨args, h1, hev⟩ := Option.bind_eq_some_iff.1 hev
    split at hev
    · rename_i x
      obtain ⟨hh, y, h2, rfl⟩ := map_same hev
      subst hh
      obtain ⟨t, h3, h4⟩ := Option.bind_eq_some_iff.1 h2
      obtain ⟨u, hu, hx⟩ := VCs.one1 (evCs_rel hargs h1)
      obtain ⟨q, q1, q2⟩ := lenA_run (P := P) (w := w) (ty := ty) h3 h4 hx
      have hm : c.args.map ρ = #[u] := by apply Array.ext'; simpa using hu
      have : (do let d ← resolve ρ c ty; invoke d.target d.args : Sem Next).run P w = (do pure (Next.value (← Builtin.len_ c.argTypes ty #[u])) : Sem Next).run P w := by
        simp [resolve, hcl, invoke, builtin, hm]
      rw [this]
      exact did_c R ⟨q, q1, q2⟩
    · simp at hev
  · rename_i hcl
    obtain ⟨args, h1, hev⟩ := Option.bind_eq_some_iff.1 hev
    split at hev
    · rename_i s x
      obtain ⟨t, h3, h4⟩ := Option.bind_eq_some_iff.1 hev
      obtain ⟨a, b, hab, hs, hx⟩ := VCs.two (evCs_rel hargs h1)
      have hm : c.args.map ρ = #[a, b] := by apply Array.ext'; simpa using hab
      have : (do let d ← resolve ρ c ty; invoke d.target d.args : Sem Next).run P w = (do pure (Next.value (← Builtin.append_ c.argTypes ty #[a, b])) : Sem Next).run P w := by
        simp [resolve, hcl, invoke, builtin, hm]
      rw [this]
      exact did_o h4 fun y hy => append_run R hn h3 hs hx (appendB_some hy)
    · simp at hev
  · rename_i hcl
    obtain ⟨args, h1, hev⟩ := Option.bind_eq_some_iff.1 hev
    split at hev
    · rename_i s x
      obtain ⟨t, h3, h4⟩ := Option.bind_eq_some_iff.1 hev
      obtain ⟨a, b, hab, hs, hx⟩ := VCs.two (evCs_rel hargs h1)
      have hm : c.args.map ρ = #[a, b] := by apply Array.ext'; simpa using hab
      have : (do let d ← resolve ρ c ty; invoke d.target d.args : Sem Next).run P w = (do pure (Next.value (← Builtin.copy_ c.argTypes ty #[a, b])) : Sem Next).run P w := by
        simp [resolve, hcl, invoke, builtin, hm]
      rw [this]
      exact did_o h4 fun y hy => copy_run R hn h3 hs hx hy
    · simp at hev
  · rename_i hcl
    obtain ⟨args, h1, hev⟩ := Option.bind_eq_some_iff.1 hev
    obtain ⟨hh, y, h2, rfl⟩ := map_same hev
    subst hh
    obtain ⟨q, q1, q2⟩ := minmax_run (P := P) (w := w) (mx := true) (ts := c.argTypes) (ty := ty) h2 (evCs_rel hargs h1)
    have : (do let d ← resolve ρ c ty; invoke d.target d.args : Sem Next).run P w = (do pure (Next.value (← Builtin.max_ c.argTypes ty (c.args.toList.map ρ).toArray)) : Sem Next).run P w := by
      have hm : c.args.map ρ = (c.args.toList.map ρ).toArray := by apply Array.ext'; simp
      simp only [resolve, hcl, invoke, builtin, hm, Sem.run_bind, Sem.run_pure, Result.andThen_ok]
    rw [this]
    exact did_c R ⟨q, by simpa using q1, q2⟩
  · rename_i hcl
    obtain ⟨args, h1, hev⟩ := Option.bind_eq_some_iff.1 hev
    obtain ⟨hh, y, h2, rfl⟩ := map_same hev
    subst hh
    obtain ⟨q, q1, q2⟩ := minmax_run (P := P) (w := w) (mx := false) (ts := c.argTypes) (ty := ty) h2 (evCs_rel hargs h1)
    have : (do let d ← resolve ρ c ty; invoke d.target d.args : Sem Next).run P w = (do pure (Next.value (← Builtin.min_ c.argTypes ty (c.args.toList.map ρ).toArray)) : Sem Next).run P w := by
      have hm : c.args.map ρ = (c.args.toList.map ρ).toArray := by apply Array.ext'; simp
      simp only [resolve, hcl, invoke, builtin, hm, Sem.run_bind, Sem.run_pure, Result.andThen_ok]
    rw [this]
    exact did_c R ⟨q, by simpa using q1, q2⟩
  · simp at hev

theorem run_skip {s : Sem Unit} {w' : World} (hs : s.run P w = .ok () w') : (do s; pure Next.skip : Sem Next).run P w = .ok .skip w' := by
  simp [Sem.run_bind, hs]

theorem evOp_sound (hcall : CallOK P cf n0 call) (R : Rel cf n0 μ w h) (hn : n0 ≤ fl) (hfl : fl ≤ h.length) {o : Oper} (hwf : touchOp o.op = true → WfH h ∧ WfE h.length e ∧ WfG cf h.length) {v : AV} {h' : AH} (hok : ∀ x ∈ o.op.operands, Ok cf μ e ρ x)
    (hev : evOp P cf call fl e h o.op = some (v, h')) : Did P cf n0 fl μ w h ((execOp ρ o).run P w) v h' := by
  obtain ⟨dst, op, type, pos, after, guard⟩ := o
  simp only at hok hev hwf
  cases op <;> simp only [evOp] at hev <;> simp only [Op.operands] at hok <;> try (simp at hev; done)
  case move x =>
    obtain ⟨hh, y, h2, rfl⟩ := map_same hev; subst hh
    exact .inl ⟨_, μ, w, .inl rfl, hok x (by simp) _ h2, .refl R⟩
  case assign x =>
    obtain ⟨hh, y, h2, rfl⟩ := map_same hev; subst hh
    exact .inl ⟨_, μ, w, .inl rfl, hok x (by simp) _ h2, .refl R⟩
  case pick c a b =>
    obtain ⟨t, h1, hev⟩ := Option.bind_eq_some_iff.1 hev
    split at hev
    · rename_i t
      obtain ⟨hh, y, h2, rfl⟩ := map_same hev; subst hh
      have hc : VC μ (.bool t) (ρ c) := evC_rel (hok c (by simp)) h1
      have hc' : ρ c = .bool t := by generalize ρ c = q at hc; cases hc; rfl
      refine .inl ⟨if t then ρ a else ρ b, μ, w, .inl ?_, ?_, .refl R⟩
      · simp [execOp, Sem.run_bind, asBool, hc']
      · cases t
        · exact hok b (by simp) _ (by simpa using h2)
        · exact hok a (by simp) _ (by simpa using h2)
    · simp at hev
  case alloc t =>
    obtain ⟨z, h1, hev⟩ := Option.bind_eq_some_iff.1 hev
    split at hev
    · injection hev with hev; injection hev with e1 e2; subst e1; subst e2
      obtain ⟨μ', w', a, b, c⟩ := alloc_run (P := P) (fl := fl) R h1
      exact did_v ⟨_, μ', w', a, .c _ _ b, c⟩
    · simp at hev
  case box t x =>
    obtain ⟨z, h1, hev⟩ := Option.bind_eq_some_iff.1 hev
    split at hev
    · rename_i ho
      injection hev with hev; injection hev with e1 e2; subst e1; subst e2
      obtain ⟨μ', w', a, b, c⟩ := box_run (P := P) (fl := fl) (t := t) R (hok x (by simp) _ h1) ho
      exact did_v ⟨_, μ', w', a, .c _ _ b, c⟩
    · simp at hev
  case build t parts =>
    obtain ⟨ps, h1, hev⟩ := Option.bind_eq_some_iff.1 hev
    obtain ⟨hh, y, h2, rfl⟩ := map_same hev; subst hh
    exact did_a R (build_run (fun x hx => hok x (by simpa using hx)) h1 h2)
  case buildSlice t len parts =>
    obtain ⟨ps, h1, hev⟩ := Option.bind_eq_some_iff.1 hev
    exact did_o hev fun c hc => buildSlice_run R (fun x hx => hok x (by simpa using hx)) h1 hc
  case load t a =>
    obtain ⟨p, h1, hev⟩ := Option.bind_eq_some_iff.1 hev
    split at hev
    · rename_i i off
      obtain ⟨hh, y, h2, rfl⟩ := map_same hev; subst hh
      obtain ⟨b, o, e', hi, hp⟩ := ptrInv (evC_rel (hok a (by simp)) h1)
      obtain ⟨u, q1, q2⟩ := load_run (P := P) R hi h2
      refine did_a R ⟨u, ?_, q2⟩
      simp [Instr.loadAt, Instr.sureAddr, hp, Sem.run_bind, q1]
    · simp at hev
  case store t a x =>
    obtain ⟨p, h1, hev⟩ := Option.bind_eq_some_iff.1 hev
    obtain ⟨y, h2, hev⟩ := Option.bind_eq_some_iff.1 hev
    split at hev
    · rename_i i off
      obtain ⟨h'', h3, hev⟩ := Option.map_eq_some_iff.1 hev
      injection hev with e1 e2; subst e1; subst e2
      obtain ⟨b, o, e', hi, hp⟩ := ptrInv (evC_rel (hok a (by simp)) h1)
      obtain ⟨w', q1, q2⟩ := store_run (P := P) R hn hi h3 (hok x (by simp) _ h2)
      refine .inl ⟨undef, μ, w', .inr ⟨?_, rfl⟩, .tup _ _ .nil, q2⟩
      refine run_skip ?_
      simp [Instr.storeAt, Instr.sureAddr, hp, Sem.run_bind, q1]
    · simp at hev
  case nilCheck x =>
    obtain ⟨p, h1, hev⟩ := Option.bind_eq_some_iff.1 hev
    split at hev
    · rename_i i off
      injection hev with hev; injection hev with e1 e2; subst e1; subst e2
      have hv := evC_rel (hok x (by simp)) h1
      obtain ⟨b, o, e', hi, hp⟩ := ptrInv hv
      refine .inl ⟨_, μ, w, .inl ?_, .c _ _ hv, .refl R⟩
      simp [execOp, hp]
    · simp at hev
  case binOp op t x y yt =>
    obtain ⟨a, h1, hev⟩ := Option.bind_eq_some_iff.1 hev
    obtain ⟨b, h2, hev⟩ := Option.bind_eq_some_iff.1 hev
    obtain ⟨hh, z, h3, rfl⟩ := map_same hev; subst hh
    have ha := evC_rel (hok x (by simp)) h1
    have hb := evC_rel (hok y (by simp)) h2
    obtain ⟨u, q1, q2⟩ := binA_run (P := P) (w := w) h3 ha hb
    refine did_c R ⟨u, ?_, q2⟩
    simp [Sem.run_bind, eqGuard_run ha hb, q1]
  case unOp op t x =>
    obtain ⟨a, h1, hev⟩ := Option.bind_eq_some_iff.1 hev
    obtain ⟨hh, z, h3, rfl⟩ := map_same hev; subst hh
    exact did_c R (unA_run h3 (evC_rel (hok x (by simp)) h1))
  case convert s d x =>
    obtain ⟨a, h1, hev⟩ := Option.bind_eq_some_iff.1 hev
    exact did_o hev fun c hc => convB_run R (evC_rel (hok x (by simp)) h1) hc
  case makeFunc f first captured =>
    obtain ⟨a, h1, hev⟩ := Option.bind_eq_some_iff.1 hev
    obtain ⟨b, h2, hev⟩ := Option.map_eq_some_iff.1 hev
    injection hev with e1 e2; subst e1; subst e2
    refine did_c R ⟨.func f (first.map ρ) (captured.map ρ), rfl, .fn _ _ _ _ _ ?_ ?_⟩
    · simpa using evCs_rel (fun x hx => hok x (by simp; exact .inl (by simpa using hx))) h1
    · simpa using evCs_rel (fun x hx => hok x (by simp; exact .inr (by simpa using hx))) h2
  case makeSlice t l c =>
    obtain ⟨a, h1, hev⟩ := Option.bind_eq_some_iff.1 hev
    obtain ⟨b, h2, hev⟩ := Option.bind_eq_some_iff.1 hev
    exact did_o hev fun x hx => makeSlice_run R (evC_rel (hok l (by simp)) h1) (evC_rel (hok c (by simp)) h2) hx
  case slice t x lo hi mx =>
    obtain ⟨a, h1, hev⟩ := Option.bind_eq_some_iff.1 hev
    obtain ⟨l, h2, hev⟩ := Option.bind_eq_some_iff.1 hev
    obtain ⟨u, h3, hev⟩ := Option.bind_eq_some_iff.1 hev
    obtain ⟨m, h4, hev⟩ := Option.bind_eq_some_iff.1 hev
    obtain ⟨hh, z, h5, rfl⟩ := map_same hev; subst hh
    have tr : ∀ {y : Option Operand} {q : Option CV}, (∀ z ∈ y.toArray, Ok cf μ e ρ z) → evO cf e y = some q → (q = none ∧ y.map ρ = none) ∨ ∃ a v, q = some a ∧ y.map ρ = some v ∧ VC μ a v := fun hy hq => by
      rcases evO_rel hy hq with ⟨rfl, rfl⟩ | ⟨z, u, rfl, rfl, hu⟩
      · exact .inl ⟨rfl, rfl⟩
      · exact .inr ⟨u, _, rfl, rfl, hu⟩
    exact did_c R (slice_run (evC_rel (hok x (by simp)) h1) h5 (tr (fun z hz => hok z (by simp at hz ⊢; simp [hz])) h2) (tr (fun z hz => hok z (by simp at hz ⊢; simp [hz])) h3) (tr (fun z hz => hok z (by simp at hz ⊢; simp [hz])) h4))
  case fieldAddr t x f =>
    obtain ⟨a, h1, hev⟩ := Option.bind_eq_some_iff.1 hev
    obtain ⟨hh, z, h3, rfl⟩ := map_same hev; subst hh
    exact did_c R (fieldAddr_run h3 (evC_rel (hok x (by simp)) h1))
  case field t x f =>
    obtain ⟨a, h1, hev⟩ := Option.bind_eq_some_iff.1 hev
    obtain ⟨hh, z, h3, rfl⟩ := map_same hev; subst hh
    exact did_a R (field_run h3 (hok x (by simp) _ h1))
  case indexAddr t x ix =>
    obtain ⟨a, h1, hev⟩ := Option.bind_eq_some_iff.1 hev
    obtain ⟨b, h2, hev⟩ := Option.bind_eq_some_iff.1 hev
    obtain ⟨hh, z, h3, rfl⟩ := map_same hev; subst hh
    exact did_c R (indexAddr_run h3 (evC_rel (hok x (by simp)) h1) (evC_rel (hok ix (by simp)) h2))
  case index t x ix =>
    obtain ⟨a, h1, hev⟩ := Option.bind_eq_some_iff.1 hev
    obtain ⟨b, h2, hev⟩ := Option.bind_eq_some_iff.1 hev
    obtain ⟨hh, z, h3, rfl⟩ := map_same hev; subst hh
    exact did_c R (index_run h3 (evC_rel (hok x (by simp)) h1) (evC_rel (hok ix (by simp)) h2))
  case extract x i =>
    obtain ⟨a, h1, hev⟩ := Option.bind_eq_some_iff.1 hev
    obtain ⟨hh, z, h3, rfl⟩ := map_same hev; subst hh
    exact did_a R (extractA_run h3 (hok x (by simp) _ h1))
  case call c =>
    exact evCall_sound hcall R hn hfl (fun f hf => hwf (by simp [touchOp, hf])) hok hev
end
end Go.Eng
end
section
/- The engine: what lies below the floor is never written. No conditions. -/
namespace Go.Eng

/-- Longer, and below the floor the same. -/
def Pre (fl : Nat) (h h' : AH) : Prop := h.length ≤ h'.length ∧ ∀ i, i < fl → i < h.length → h'[i]? = h[i]?

theorem Pre.refl (fl : Nat) (h : AH) : Pre fl h h := ⟨Nat.le_refl _, fun _ _ _ => rfl⟩
theorem Pre.trans {fl : Nat} {a b c : AH} (h : Pre fl a b) (k : Pre fl b c) : Pre fl a c :=
  ⟨Nat.le_trans h.1 k.1, fun i hi hl => (k.2 i hi (Nat.lt_of_lt_of_le hl h.1)).trans (h.2 i hi hl)⟩
theorem Pre.floor {fl fl' : Nat} {a b : AH} (h : Pre fl' a b) (hf : fl ≤ fl') : Pre fl a b := ⟨h.1, fun i hi hl => h.2 i (by omega) hl⟩
theorem Pre.app (fl : Nat) (h l : AH) : Pre fl h (h ++ l) := ⟨by simp, fun i _ hl => by rw [List.getElem?_append_left hl]⟩
theorem Pre.set {fl i : Nat} (h : AH) (x : AO) (hf : fl ≤ i) : Pre fl h (h.set i x) := ⟨by simp, fun j hj _ => by rw [List.getElem?_set_ne (by omega)]⟩

def CallPre (call : CallF) : Prop := ∀ (fl : Nat) (g : FuncId) (args : List AV) (h : AH) (v : AV) (h' : AH), fl ≤ h.length → call fl g args h = some (v, h') → Pre fl h h'

section
variable {P : Program} {cf : Cfg} {fl : Nat} {h : AH} {e : Env} {call : CallF}

theorem buildSliceA_pre {b : Bool} {t : TypeId} {len : Nat} {ps : List (Nat × AV)} {v : CV} {h' : AH} (hv : buildSliceA P b t len ps h = some (v, h')) : ∃ o, h' = h ++ [o] := by
  unfold buildSliceA at hv
  obtain ⟨el, h1, hv⟩ := Option.bind_eq_some_iff.1 hv
  obtain ⟨s, h2, hv⟩ := Option.bind_eq_some_iff.1 hv
  obtain ⟨z, h3, hv⟩ := Option.bind_eq_some_iff.1 hv
  split at hv
  · obtain ⟨cs, h4, hv⟩ := Option.bind_eq_some_iff.1 hv
    obtain ⟨o, h5, hv⟩ := Option.map_eq_some_iff.1 hv
    injection hv with a b; exact ⟨o, b.symm⟩
  · simp at hv

theorem makeSliceA_pre {t : TypeId} {l c v : CV} {h' : AH} (hv : makeSliceA P t l c h = some (v, h')) : ∃ o, h' = h ++ [o] := by
  unfold makeSliceA at hv
  split at hv
  · obtain ⟨el, h1, hv⟩ := Option.bind_eq_some_iff.1 hv
    obtain ⟨s, h2, hv⟩ := Option.bind_eq_some_iff.1 hv
    obtain ⟨b, h3, hv⟩ := Option.bind_eq_some_iff.1 hv
    split at hv
    · obtain ⟨o, h4, hv⟩ := Option.bind_eq_some_iff.1 hv
      split at hv
      · injection hv with hv; injection hv with a b; exact ⟨o, b.symm⟩
      · simp at hv
    · simp at hv
  · simp at hv

theorem convA_pre {s d : TypeId} {x v : CV} {h' : AH} (hv : convA P s d x h = some (v, h')) : ∃ l, h' = h ++ l := by
  unfold convA at hv
  split at hv
  · injection hv with hv; injection hv with a b; exact ⟨[], by simp [b]⟩
  · injection hv with hv; injection hv with a b; exact ⟨[], by simp [b]⟩
  · split at hv
    · injection hv with hv; injection hv with a b; exact ⟨_, b.symm⟩
    · simp at hv
  · split at hv
    · obtain ⟨o, h4, hv⟩ := Option.bind_eq_some_iff.1 hv
      split at hv
      · injection hv with hv; injection hv with a b; exact ⟨[], by simp [b]⟩
      · simp at hv
    · simp at hv
  · simp at hv

theorem convS_same {s d : TypeId} {x v : CV} {h' : AH} (hv : convS P fl s d x h = some (v, h')) : h' = h ∧ v = x := by
  unfold convS at hv
  split at hv
  · split at hv
    · injection hv with hv; injection hv with a b; exact ⟨b.symm, a.symm⟩
    · simp at hv
  · simp at hv
theorem convB_pre {s d : TypeId} {x v : CV} {h' : AH} (hv : convB P fl s d x h = some (v, h')) : ∃ l, h' = h ++ l := by
  unfold convB at hv
  split at hv
  · rename_i r hr; injection hv with hv; subst hv; exact convA_pre hr
  · exact ⟨[], by rw [(convS_same hv).1, List.append_nil]⟩

theorem appendA_pre {sT : TypeId} {xT : Option TypeId} {s x v : CV} {h' : AH} (hv : appendA P fl sT xT s x h = some (v, h')) : Pre fl h h' := by
  unfold appendA at hv
  obtain ⟨el, h1, hv⟩ := Option.bind_eq_some_iff.1 hv
  obtain ⟨size, h2, hv⟩ := Option.bind_eq_some_iff.1 hv
  obtain ⟨b, h3, hv⟩ := Option.bind_eq_some_iff.1 hv
  obtain ⟨z, h4, hv⟩ := Option.bind_eq_some_iff.1 hv
  obtain ⟨zs, h5, hv⟩ := Option.bind_eq_some_iff.1 hv
  obtain ⟨new, h6, hv⟩ := Option.bind_eq_some_iff.1 hv
  obtain ⟨⟨old, len, h0⟩, h7, hv⟩ := Option.bind_eq_some_iff.1 hv
  simp only at hv
  have hp : Pre fl h h0 := by
    unfold oldO at h7
    split at h7
    · obtain ⟨o, k1, h7⟩ := Option.map_eq_some_iff.1 h7
      injection h7 with e1 e2; injection e2 with e2 e3; subst e3; exact .refl _ _
    · obtain ⟨o, k1, h7⟩ := Option.map_eq_some_iff.1 h7
      injection h7 with e1 e2; injection e2 with e2 e3; subst e3; exact .refl _ _
    · split at h7
      · rename_i hc
        obtain ⟨o, k1, h7⟩ := Option.bind_eq_some_iff.1 h7
        obtain ⟨y, k2, h7⟩ := Option.map_eq_some_iff.1 h7
        injection h7 with e1 e2; injection e2 with e2 e3; subst e3; exact .set _ _ hc.1
      · simp at h7
    · simp at h7
  split at hv
  · obtain ⟨y, k1, hv⟩ := Option.map_eq_some_iff.1 hv
    injection hv with a b; subst b; exact hp.trans (.app _ _ _)
  · simp at hv

theorem storeA_pre {t : TypeId} {i off : Nat} {v : AV} {h' : AH} (hv : storeA P t fl h i off v = some h') : Pre fl h h' := by
  unfold storeA at hv
  split at hv
  · rename_i hf
    obtain ⟨s, h1, hv⟩ := Option.bind_eq_some_iff.1 hv
    split at hv
    · obtain ⟨o, h2, hv⟩ := Option.bind_eq_some_iff.1 hv
      obtain ⟨y, h3, rfl⟩ := Option.map_eq_some_iff.1 hv
      exact .set _ _ hf
    · simp at hv
  · simp at hv

theorem copyA_pre {dT : TypeId} {d s c : CV} {h' : AH} (hv : copyA P fl dT d s h = some (c, h')) : Pre fl h h' := by
  unfold copyA at hv
  obtain ⟨el, h1, hv⟩ := Option.bind_eq_some_iff.1 hv
  split at hv
  · obtain ⟨new, h2, hv⟩ := Option.bind_eq_some_iff.1 hv
    cases d with
    | nil => simp only [Option.some.injEq, Prod.mk.injEq] at hv; obtain ⟨_, rfl⟩ := hv; exact .refl _ _
    | sl i off len sz =>
      simp only at hv
      split at hv
      · split at hv
        · simp only [Option.some.injEq, Prod.mk.injEq] at hv; obtain ⟨_, rfl⟩ := hv; exact .refl _ _
        · split at hv
          · rename_i hf
            obtain ⟨x, h3, hv⟩ := Option.bind_eq_some_iff.1 hv
            obtain ⟨y, h4, hv⟩ := Option.map_eq_some_iff.1 hv
            simp only [Prod.mk.injEq] at hv
            obtain ⟨_, rfl⟩ := hv
            exact .set _ _ hf
          · simp at hv
      · simp at hv
    | _ => simp at hv
  · simp at hv

theorem evOp_pre (hp : CallPre call) (hfl : fl ≤ h.length) {op : Op} {v : AV} {h' : AH} (hev : evOp P cf call fl e h op = some (v, h')) : Pre fl h h' := by
  cases op <;> simp only [evOp] at hev <;> try (simp at hev; done)
  case move x => obtain ⟨hh, _⟩ := map_same hev; subst hh; exact .refl _ _
  case assign x => obtain ⟨hh, _⟩ := map_same hev; subst hh; exact .refl _ _
  case pick c a b =>
    obtain ⟨t, h1, hev⟩ := Option.bind_eq_some_iff.1 hev
    split at hev
    · obtain ⟨hh, _⟩ := map_same hev; subst hh; exact .refl _ _
    · simp at hev
  case alloc t =>
    obtain ⟨z, h1, hev⟩ := Option.bind_eq_some_iff.1 hev
    split at hev
    · injection hev with hev; injection hev with e1 e2; subst e2; exact .app _ _ _
    · simp at hev
  case box t x =>
    obtain ⟨z, h1, hev⟩ := Option.bind_eq_some_iff.1 hev
    split at hev
    · injection hev with hev; injection hev with e1 e2; subst e2; exact .app _ _ _
    · simp at hev
  case build t parts =>
    obtain ⟨ps, h1, hev⟩ := Option.bind_eq_some_iff.1 hev
    obtain ⟨hh, _⟩ := map_same hev; subst hh; exact .refl _ _
  case buildSlice t len parts =>
    obtain ⟨ps, h1, hev⟩ := Option.bind_eq_some_iff.1 hev
    obtain ⟨c, _, h2⟩ := outC_some hev
    obtain ⟨o, rfl⟩ := buildSliceA_pre h2; exact .app _ _ _
  case load t a =>
    obtain ⟨p, h1, hev⟩ := Option.bind_eq_some_iff.1 hev
    split at hev
    · obtain ⟨hh, _⟩ := map_same hev; subst hh; exact .refl _ _
    · simp at hev
  case store t a x =>
    obtain ⟨p, h1, hev⟩ := Option.bind_eq_some_iff.1 hev
    obtain ⟨y, h2, hev⟩ := Option.bind_eq_some_iff.1 hev
    split at hev
    · obtain ⟨h'', h3, hev⟩ := Option.map_eq_some_iff.1 hev
      injection hev with e1 e2; subst e2; exact storeA_pre h3
    · simp at hev
  case nilCheck x =>
    obtain ⟨p, h1, hev⟩ := Option.bind_eq_some_iff.1 hev
    split at hev
    · injection hev with hev; injection hev with e1 e2; subst e2; exact .refl _ _
    · simp at hev
  case binOp op t x y yt =>
    obtain ⟨a, h1, hev⟩ := Option.bind_eq_some_iff.1 hev
    obtain ⟨b, h2, hev⟩ := Option.bind_eq_some_iff.1 hev
    obtain ⟨hh, _⟩ := map_same hev; subst hh; exact .refl _ _
  case unOp op t x =>
    obtain ⟨a, h1, hev⟩ := Option.bind_eq_some_iff.1 hev
    obtain ⟨hh, _⟩ := map_same hev; subst hh; exact .refl _ _
  case convert s d x =>
    obtain ⟨a, h1, hev⟩ := Option.bind_eq_some_iff.1 hev
    obtain ⟨c, _, h2⟩ := outC_some hev
    obtain ⟨l, rfl⟩ := convB_pre h2; exact .app _ _ _
  case makeFunc f first captured =>
    obtain ⟨a, h1, hev⟩ := Option.bind_eq_some_iff.1 hev
    obtain ⟨b, h2, hev⟩ := Option.map_eq_some_iff.1 hev
    injection hev with e1 e2; subst e2; exact .refl _ _
  case makeSlice t l c =>
    obtain ⟨a, h1, hev⟩ := Option.bind_eq_some_iff.1 hev
    obtain ⟨b, h2, hev⟩ := Option.bind_eq_some_iff.1 hev
    obtain ⟨c, _, h2⟩ := outC_some hev
    obtain ⟨l, rfl⟩ := makeSliceA_pre h2; exact .app _ _ _
  case slice t x lo hi mx =>
    obtain ⟨a, h1, hev⟩ := Option.bind_eq_some_iff.1 hev
    obtain ⟨l, h2, hev⟩ := Option.bind_eq_some_iff.1 hev
    obtain ⟨u, h3, hev⟩ := Option.bind_eq_some_iff.1 hev
    obtain ⟨m, h4, hev⟩ := Option.bind_eq_some_iff.1 hev
    obtain ⟨hh, _⟩ := map_same hev; subst hh; exact .refl _ _
  case fieldAddr t x f =>
    obtain ⟨a, h1, hev⟩ := Option.bind_eq_some_iff.1 hev
    obtain ⟨hh, _⟩ := map_same hev; subst hh; exact .refl _ _
  case field t x f =>
    obtain ⟨a, h1, hev⟩ := Option.bind_eq_some_iff.1 hev
    obtain ⟨hh, _⟩ := map_same hev; subst hh; exact .refl _ _
  case indexAddr t x ix =>
    obtain ⟨a, h1, hev⟩ := Option.bind_eq_some_iff.1 hev
    obtain ⟨b, h2, hev⟩ := Option.bind_eq_some_iff.1 hev
    obtain ⟨hh, _⟩ := map_same hev; subst hh; exact .refl _ _
  case index t x ix =>
    obtain ⟨a, h1, hev⟩ := Option.bind_eq_some_iff.1 hev
    obtain ⟨b, h2, hev⟩ := Option.bind_eq_some_iff.1 hev
    obtain ⟨hh, _⟩ := map_same hev; subst hh; exact .refl _ _
  case extract x i =>
    obtain ⟨a, h1, hev⟩ := Option.bind_eq_some_iff.1 hev
    obtain ⟨hh, _⟩ := map_same hev; subst hh; exact .refl _ _
  case call c =>
    unfold evCall at hev
    split at hev
    · rename_i f hcl
      obtain ⟨args, h1, hev⟩ := Option.bind_eq_some_iff.1 hev
      obtain ⟨g, h2, hev⟩ := Option.bind_eq_some_iff.1 hev
      split at hev
      · have hfl' := floorOf_ge cf hfl f
        have hfl2 := floorOf_le cf hfl f
        exact (hp _ _ _ h v h' hfl2 hev).floor hfl'
      · simp at hev
    · obtain ⟨args, h1, hev⟩ := Option.bind_eq_some_iff.1 hev
      split at hev
      · obtain ⟨hh, _⟩ := map_same hev; subst hh; exact .refl _ _
      · simp at hev
    · obtain ⟨args, h1, hev⟩ := Option.bind_eq_some_iff.1 hev
      split at hev
      · obtain ⟨t, h3, h4⟩ := Option.bind_eq_some_iff.1 hev
        obtain ⟨c, _, h2⟩ := outC_some h4
        exact appendA_pre (appendB_some h2)
      · simp at hev
    · obtain ⟨args, h1, hev⟩ := Option.bind_eq_some_iff.1 hev
      split at hev
      · obtain ⟨t, h3, h4⟩ := Option.bind_eq_some_iff.1 hev
        obtain ⟨c, _, h2⟩ := outC_some h4
        exact copyA_pre h2
      · simp at hev
    · obtain ⟨args, h1, hev⟩ := Option.bind_eq_some_iff.1 hev
      obtain ⟨hh, _⟩ := map_same hev; subst hh; exact .refl _ _
    · obtain ⟨args, h1, hev⟩ := Option.bind_eq_some_iff.1 hev
      obtain ⟨hh, _⟩ := map_same hev; subst hh; exact .refl _ _
    · simp at hev

theorem evOps_pre (hp : CallPre call) {ops : Array Oper} : ∀ (l : List Oper) {e : Env} {h : AH} {e' : Env} {h' : AH}, fl ≤ h.length → evOps P cf call fl ops l e h = some (e', h') → Pre fl h h'
  | [], e, h, e', h', _, hev => by simp [evOps] at hev; rw [← hev.2]; exact .refl _ _
  | o :: r, e, h, e', h', hfl, hev => by
    simp only [evOps] at hev
    obtain ⟨b, h1, hev⟩ := Option.bind_eq_some_iff.1 hev
    split at hev
    · obtain ⟨⟨v, h2⟩, h3, hev⟩ := Option.bind_eq_some_iff.1 hev
      have a := evOp_pre hp hfl h3
      exact a.trans (evOps_pre hp r (Nat.le_trans hfl a.1) hev)
    · exact evOps_pre hp r hfl hev

theorem iter_pre {body : Env → AH → Option (AX × Env × AH)} (hb : ∀ (e : Env) (h : AH) (r : AX × Env × AH), fl ≤ h.length → body e h = some r → Pre fl h r.2.2) : ∀ (n : Nat) (e : Env) (h : AH) (r : AX × Env × AH), fl ≤ h.length → iter body n e h = some r → Pre fl h r.2.2
  | 0, _, _, _, _, hev => by simp [iter] at hev
  | n + 1, e, h, r, hfl, hev => by
    simp only [iter] at hev
    obtain ⟨q, h1, hev⟩ := Option.bind_eq_some_iff.1 hev
    have a := hb e h q hfl h1
    split at hev
    · exact a.trans (iter_pre hb n _ _ r (Nat.le_trans hfl a.1) hev)
    · injection hev with hev; subst hev; exact a

theorem evCode_pre (hp : CallPre call) {f : FuncId} : ∀ (c : Code) (e : Env) (h : AH) (r : AX × Env × AH), fl ≤ h.length → evCode P cf call fl f c e h = some r → Pre fl h r.2.2 := by
  intro c
  induction c with
  | skip => intro e h r hfl hev; simp [evCode] at hev; subst hev; exact .refl _ _
  | region id ops d =>
    intro e h r hfl hev
    simp only [evCode] at hev
    obtain ⟨⟨e', h'⟩, h1, hev⟩ := Option.bind_eq_some_iff.1 hev
    split at hev
    · simp at hev
    injection hev with hev; subst hev
    exact evOps_pre hp _ hfl h1
  | seq a b iha ihb =>
    intro e h r hfl hev
    simp only [evCode] at hev
    obtain ⟨q, h1, hev⟩ := Option.bind_eq_some_iff.1 hev
    have k := iha e h q hfl h1
    split at hev
    · exact k.trans (ihb _ _ r (Nat.le_trans hfl k.1) hev)
    · injection hev with hev; subst hev; exact k
  | cond c a b iha ihb =>
    intro e h r hfl hev
    simp only [evCode] at hev
    obtain ⟨q, h1, hev⟩ := Option.bind_eq_some_iff.1 hev
    split at hev
    · split at hev
      · exact iha e h r hfl hev
      · exact ihb e h r hfl hev
    · simp at hev
  | block id c ih =>
    intro e h r hfl hev
    simp only [evCode] at hev
    obtain ⟨q, h1, rfl⟩ := Option.map_eq_some_iff.1 hev
    have k := ih e h q hfl h1
    split
    · split <;> exact k
    · exact k
  | loop c ih => intro e h r hfl hev; simp only [evCode] at hev; exact iter_pre ih _ e h r hfl hev
  | exit id => intro e h r hfl hev; simp [evCode] at hev; subst hev; exact .refl _ _
  | ret => intro e h r hfl hev; simp [evCode] at hev; subst hev; exact .refl _ _
  | label l => intro e h r hfl hev; simp [evCode] at hev; subst hev; exact .refl _ _
  | rangeFunc _ _ _ _ _ _ => intro e h r hfl hev; simp [evCode] at hev
  | scope _ _ => intro e h r hfl hev; simp [evCode] at hev
  | goto _ => intro e h r hfl hev; simp [evCode] at hev
  | refuse _ => intro e h r hfl hev; simp [evCode] at hev

theorem take_pre {n : Nat} {h h' : AH} (l : AH) (hn : n = h.length) (hf : fl ≤ n) (hp : Pre fl h h') : Pre fl h (h'.take n ++ l) := by
  have := hp.1
  refine ⟨by simp; omega, fun i hi hl => ?_⟩
  rw [List.getElem?_append_left (by simp; omega), List.getElem?_take_of_lt (by omega)]
  exact hp.2 i hi hl

theorem leave_pre {m : PM} {vs : List AV} {h h' : AH} {r : AV × AH} (hf : fl ≤ h.length) (hp : Pre fl h h') (hl : leave m fl h.length vs h' = some r) : Pre fl h r.2 := by
  unfold leave at hl
  split at hl
  rotate_right
  · simp at hl
  · injection hl with hl; subst hl; exact hp
  · split at hl
    · injection hl with hl; subst hl
      simpa using take_pre [] rfl hf hp
    · simp at hl
  · split at hl
    · obtain ⟨q, h1, hl⟩ := Option.bind_eq_some_iff.1 hl
      split at hl
      · injection hl with hl; subst hl; exact take_pre _ rfl hf hp
      · simp at hl
    · simp at hl

theorem runBody_pre (hp : CallPre call) {f : FuncId} {args : List AV} {r : AV × AH} (hfl : fl ≤ h.length) (hr : runBody P cf call fl f args h = some r) : Pre fl h r.2 := by
  unfold runBody at hr
  obtain ⟨fn, h1, hr⟩ := Option.bind_eq_some_iff.1 hr
  obtain ⟨c, h2, hr⟩ := Option.bind_eq_some_iff.1 hr
  obtain ⟨q, h3, hr⟩ := Option.bind_eq_some_iff.1 hr
  have k := evCode_pre hp c _ h q hfl h3
  split at hr
  · simp at hr
  · obtain ⟨vs, h4, hr⟩ := Option.bind_eq_some_iff.1 hr
    exact leave_pre hfl k hr
end

theorem run_pre (P : Program) (cf : Cfg) : ∀ d, CallPre (run P cf d)
  | 0, _, _, _, _, _, _, _, hr => by simp [run] at hr
  | d + 1, fl, f, args, h, v, h', hfl, hr => by
    simp only [run] at hr
    split at hr
    · split at hr
      · obtain ⟨l, h1, hr⟩ := Option.map_eq_some_iff.1 hr
        injection hr with a b; subst b; exact .app _ _ _
      · simp at hr
    · exact runBody_pre (run_pre P cf d) hfl hr
end Go.Eng
end
section
/- The engine: what is told lies in the heap, step by step. No conditions. -/
namespace Go.Eng

def WfR (v : AV) (h' : AH) : Prop := v.wf h'.length = true ∧ WfH h'

def CallWf (cf : Cfg) (call : CallF) : Prop := ∀ (fl : Nat) (g : FuncId) (args : List AV) (h : AH) (v : AV) (h' : AH), fl ≤ h.length → WfH h → AV.wfs h.length args = true → WfG cf h.length → call fl g args h = some (v, h') → WfR v h'

section
variable {P : Program} {cf : Cfg} {fl : Nat} {h : AH} {e : Env} {call : CallF}

theorem buildSliceA_wf (hh : WfH h) {b : Bool} {t : TypeId} {len : Nat} {ps : List (Nat × AV)} {v : CV} {h' : AH} (hp : ∀ q ∈ ps, q.2.wf h.length = true) (hv : buildSliceA P b t len ps h = some (v, h')) : WfR (.c v) h' := by
  unfold buildSliceA at hv
  obtain ⟨el, h1, hv⟩ := Option.bind_eq_some_iff.1 hv
  obtain ⟨s, h2, hv⟩ := Option.bind_eq_some_iff.1 hv
  obtain ⟨z, h3, hv⟩ := Option.bind_eq_some_iff.1 hv
  split at hv
  · obtain ⟨cs, h4, hv⟩ := Option.bind_eq_some_iff.1 hv
    obtain ⟨o, h5, hv⟩ := Option.map_eq_some_iff.1 hv
    injection hv with a b; subst a; subst b
    obtain ⟨i, u, _, _, h8⟩ := zeroT_info h3
    refine ⟨by split <;> simp [AV.wf, CV.wf], hh.app fun c hc => ?_⟩
    rw [(mkO_cells h5).1] at hc
    exact CV.wf_mono (by omega) c (fillA_wf h4 (reps_wf (cells_wf (ofV_wf h8 _))) hp c hc)
  · simp at hv

theorem makeSliceA_wf (hh : WfH h) {t : TypeId} {l c v : CV} {h' : AH} (hv : makeSliceA P t l c h = some (v, h')) : WfR (.c v) h' := by
  unfold makeSliceA at hv
  split at hv
  · obtain ⟨el, h1, hv⟩ := Option.bind_eq_some_iff.1 hv
    obtain ⟨s, h2, hv⟩ := Option.bind_eq_some_iff.1 hv
    obtain ⟨b, h3, hv⟩ := Option.bind_eq_some_iff.1 hv
    split at hv
    · obtain ⟨o, h4, hv⟩ := Option.bind_eq_some_iff.1 hv
      split at hv
      · injection hv with hv; injection hv with a b; subst a; subst b
        exact ⟨by simp [AV.wf, CV.wf], hh.app (zerosO_wf h4)⟩
      · simp at hv
    · simp at hv
  · simp at hv

theorem convA_wf (hh : WfH h) {s d : TypeId} {x v : CV} {h' : AH} (hv : convA P s d x h = some (v, h')) : WfR (.c v) h' := by
  unfold convA at hv
  split at hv
  · injection hv with hv; injection hv with a b; subst a; subst b; exact ⟨rfl, hh⟩
  · injection hv with hv; injection hv with a b; subst a; subst b; exact ⟨rfl, hh⟩
  · split at hv
    · injection hv with hv; injection hv with a b; subst a; subst b
      exact ⟨by simp [AV.wf, CV.wf], hh.app (bytesO_wf _ _)⟩
    · simp at hv
  · split at hv
    · obtain ⟨o, h4, hv⟩ := Option.bind_eq_some_iff.1 hv
      split at hv
      · injection hv with hv; injection hv with a b; subst a; subst b; exact ⟨rfl, hh⟩
      · simp at hv
    · simp at hv
  · simp at hv

theorem convB_wf (hh : WfH h) {s d : TypeId} {x v : CV} {h' : AH} (hx : WfR (.c x) h) (hv : convB P fl s d x h = some (v, h')) : WfR (.c v) h' := by
  unfold convB at hv
  split at hv
  · rename_i r hr; injection hv with hv; subst hv; exact convA_wf hh hr
  · obtain ⟨e1, e2⟩ := convS_same hv; subst e1; subst e2; exact hx

theorem appendA_wf (hh : WfH h) {sT : TypeId} {xT : Option TypeId} {s x v : CV} {h' : AH} (hv : appendA P fl sT xT s x h = some (v, h')) : WfR (.c v) h' := by
  unfold appendA at hv
  obtain ⟨el, h1, hv⟩ := Option.bind_eq_some_iff.1 hv
  obtain ⟨size, h2, hv⟩ := Option.bind_eq_some_iff.1 hv
  obtain ⟨b, h3, hv⟩ := Option.bind_eq_some_iff.1 hv
  obtain ⟨z, h4, hv⟩ := Option.bind_eq_some_iff.1 hv
  obtain ⟨zs, h5, hv⟩ := Option.bind_eq_some_iff.1 hv
  obtain ⟨new, h6, hv⟩ := Option.bind_eq_some_iff.1 hv
  obtain ⟨⟨old, len, h0⟩, h7, hv⟩ := Option.bind_eq_some_iff.1 hv
  simp only at hv
  have hn : ∀ c ∈ new.1.cells, c.wf (h.length + 1) = true := by
    unfold newO at h6
    split at h6
    · split at h6
      · split at h6
        · obtain ⟨o, k1, h6⟩ := Option.bind_eq_some_iff.1 h6
          split at h6
          · injection h6 with h6; subst h6; exact zerosO_wf k1
          · simp at h6
        · simp at h6
      · simp at h6
    · exact srcO_wf hh (by omega) h6
  have hp : WfH h0 ∧ h0.length = h.length ∧ ∀ c ∈ old.cells, c.wf (h.length + 1) = true := by
    unfold oldO at h7
    split at h7
    · obtain ⟨o, k1, h7⟩ := Option.map_eq_some_iff.1 h7
      injection h7 with e1 e2; injection e2 with e2 e3; subst e1; subst e3
      exact ⟨hh, rfl, by rw [(mkO_cells k1).1]; simp⟩
    · obtain ⟨o, k1, h7⟩ := Option.map_eq_some_iff.1 h7
      injection h7 with e1 e2; injection e2 with e2 e3; subst e1; subst e3
      exact ⟨hh, rfl, by rw [(mkO_cells k1).1]; simp⟩
    · split at h7
      · rename_i hc
        obtain ⟨o, k1, h7⟩ := Option.bind_eq_some_iff.1 h7
        obtain ⟨y, k2, h7⟩ := Option.map_eq_some_iff.1 h7
        injection h7 with e1 e2; injection e2 with e2 e3; subst e1; subst e3
        exact ⟨hh.set (by simp [AO.cells]), by simp, fun c hc => CV.wf_mono (by omega) c (sub_wf k2 (hh o (List.mem_of_getElem? k1)) c hc)⟩
      · simp at h7
    · simp at h7
  obtain ⟨p1, p2, p3⟩ := hp
  split at hv
  · obtain ⟨y, k1, hv⟩ := Option.map_eq_some_iff.1 hv
    injection hv with a b; subst a; subst b
    refine ⟨by simp [AV.wf, CV.wf, p2], p1.app fun c hc => ?_⟩
    rw [(cat_cells k1).1] at hc
    rw [p2]
    rcases List.mem_append.1 hc with hc | hc
    · exact p3 c hc
    · exact hn c hc
  · simp at hv

theorem sets_wf {m : Nat} : ∀ {vs : List CV} {x y : AO} {off : Nat}, x.sets off vs = some y → (∀ c ∈ x.cells, c.wf m = true) → (∀ c ∈ vs, c.wf m = true) → ∀ c ∈ y.cells, c.wf m = true
  | [], x, y, off, h, hx, _ => by simp [AO.sets] at h; subst h; exact hx
  | v :: r, x, y, off, h, hx, hv => by
    simp only [AO.sets, Option.bind_eq_some_iff] at h
    obtain ⟨z, h1, h2⟩ := h
    refine sets_wf h2 (fun c hc => ?_) (fun c hc => hv c (by simp [hc]))
    rw [(set1_cells h1).1] at hc
    rcases List.mem_or_eq_of_mem_set hc with hc | rfl
    · exact hx c hc
    · exact hv c (by simp)

theorem storeA_wf (hh : WfH h) {t : TypeId} {i off : Nat} {v : AV} {h' : AH} (hw : v.wf h.length = true) (hv : storeA P t fl h i off v = some h') : WfH h' := by
  unfold storeA at hv
  split at hv
  · obtain ⟨s, h1, hv⟩ := Option.bind_eq_some_iff.1 hv
    split at hv
    · obtain ⟨o, h2, hv⟩ := Option.bind_eq_some_iff.1 hv
      obtain ⟨y, h3, rfl⟩ := Option.map_eq_some_iff.1 hv
      exact hh.set (sets_wf h3 (hh o (List.mem_of_getElem? h2)) (cells_wf hw))
    · simp at hv
  · simp at hv

theorem copyA_wf (hh : WfH h) {dT : TypeId} {d s c : CV} {h' : AH} (hv : copyA P fl dT d s h = some (c, h')) : WfR (.c c) h' := by
  unfold copyA at hv
  obtain ⟨el, h1, hv⟩ := Option.bind_eq_some_iff.1 hv
  split at hv
  · obtain ⟨new, h2, hv⟩ := Option.bind_eq_some_iff.1 hv
    have hn := srcO_wf hh (Nat.le_refl _) h2
    cases d with
    | nil => simp only [Option.some.injEq, Prod.mk.injEq] at hv; obtain ⟨rfl, rfl⟩ := hv; exact ⟨rfl, hh⟩
    | sl i off len sz =>
      simp only at hv
      split at hv
      · split at hv
        · simp only [Option.some.injEq, Prod.mk.injEq] at hv; obtain ⟨rfl, rfl⟩ := hv; exact ⟨rfl, hh⟩
        · split at hv
          · obtain ⟨x, h3, hv⟩ := Option.bind_eq_some_iff.1 hv
            obtain ⟨y, h4, hv⟩ := Option.map_eq_some_iff.1 hv
            simp only [Prod.mk.injEq] at hv
            obtain ⟨rfl, rfl⟩ := hv
            exact ⟨rfl, hh.set (sets_wf h4 (hh x (List.mem_of_getElem? h3)) fun a ha => hn a (List.mem_of_mem_take ha))⟩
          · simp at hv
      · simp at hv
    | _ => simp at hv
  · simp at hv

theorem evOp_wf (hc : CallWf cf call) (hh : WfH h) (he : WfE h.length e) (hg : WfG cf h.length) (hfl : fl ≤ h.length) {op : Op} {v : AV} {h' : AH} (hev : evOp P cf call fl e h op = some (v, h')) : WfR v h' := by
  cases op <;> simp only [evOp] at hev <;> try (simp at hev; done)
  case move x => obtain ⟨hh', y, h2, rfl⟩ := map_same hev; subst hh'; exact ⟨ev_wf he hg h2, hh⟩
  case assign x => obtain ⟨hh', y, h2, rfl⟩ := map_same hev; subst hh'; exact ⟨ev_wf he hg h2, hh⟩
  case pick c a b =>
    obtain ⟨t, h1, hev⟩ := Option.bind_eq_some_iff.1 hev
    split at hev
    · obtain ⟨hh', y, h2, rfl⟩ := map_same hev; subst hh'
      split at h2 <;> exact ⟨ev_wf he hg h2, hh⟩
    · simp at hev
  case alloc t =>
    obtain ⟨z, h1, hev⟩ := Option.bind_eq_some_iff.1 hev
    split at hev
    · injection hev with hev; injection hev with e1 e2; subst e1; subst e2
      obtain ⟨i, u, _, _, h8⟩ := zeroT_info h1
      exact ⟨by simp [AV.wf, CV.wf], hh.app (cells_wf (ofV_wf h8 _))⟩
    · simp at hev
  case box t x =>
    obtain ⟨z, h1, hev⟩ := Option.bind_eq_some_iff.1 hev
    split at hev
    · injection hev with hev; injection hev with e1 e2; subst e1; subst e2
      exact ⟨by simp [AV.wf, CV.wf], hh.app fun c hc => CV.wf_mono (by omega) c (cells_wf (ev_wf he hg h1) c hc)⟩
    · simp at hev
  case build t parts =>
    obtain ⟨ps, h1, hev⟩ := Option.bind_eq_some_iff.1 hev
    obtain ⟨hh', y, h2, rfl⟩ := map_same hev; subst hh'
    refine ⟨?_, hh⟩
    unfold buildA at h2
    obtain ⟨z, h3, h2⟩ := Option.bind_eq_some_iff.1 h2
    obtain ⟨i, u, _, _, h8⟩ := zeroT_info h3
    obtain ⟨places, h5, h2⟩ := Option.bind_eq_some_iff.1 h2
    obtain ⟨cs', h6, rfl⟩ := Option.map_eq_some_iff.1 h2
    exact (wfs_iff _ _).2 (fillA_wf h6 (cells_wf (ofV_wf h8 _)) (evParts_wf he hg h1))
  case buildSlice t len parts =>
    obtain ⟨ps, h1, hev⟩ := Option.bind_eq_some_iff.1 hev
    obtain ⟨c, rfl, h2⟩ := outC_some hev
    exact buildSliceA_wf hh (evParts_wf he hg h1) h2
  case load t a =>
    obtain ⟨p, h1, hev⟩ := Option.bind_eq_some_iff.1 hev
    split at hev
    · obtain ⟨hh', y, h2, rfl⟩ := map_same hev; subst hh'; exact ⟨loadA_wf hh h2, hh⟩
    · simp at hev
  case store t a x =>
    obtain ⟨p, h1, hev⟩ := Option.bind_eq_some_iff.1 hev
    obtain ⟨y, h2, hev⟩ := Option.bind_eq_some_iff.1 hev
    split at hev
    · obtain ⟨h'', h3, hev⟩ := Option.map_eq_some_iff.1 hev
      injection hev with e1 e2; subst e1; subst e2
      exact ⟨rfl, storeA_wf hh (ev_wf he hg h2) h3⟩
    · simp at hev
  case nilCheck x =>
    obtain ⟨p, h1, hev⟩ := Option.bind_eq_some_iff.1 hev
    split at hev
    · injection hev with hev; injection hev with e1 e2; subst e1; subst e2; exact ⟨evC_wf he hg h1, hh⟩
    · simp at hev
  case binOp op t x y yt =>
    obtain ⟨a, h1, hev⟩ := Option.bind_eq_some_iff.1 hev
    obtain ⟨b, h2, hev⟩ := Option.bind_eq_some_iff.1 hev
    obtain ⟨hh', z, h3, rfl⟩ := map_same hev; subst hh'
    refine ⟨?_, hh⟩
    unfold binE at h3
    split at h3
    · unfold binA at h3
      cases op <;> simp only at h3 <;> (repeat' split at h3) <;> first | (simp at h3; done) | (injection h3 with h3; subst h3; rfl)
    · unfold binA at h3
      cases op <;> simp at h3 <;> subst h3 <;> rfl
    · unfold eqA at h3
      split at h3 <;> (try split at h3) <;> first | (simp at h3; done) | (injection h3 with h3; subst h3; rfl)
  case unOp op t x =>
    obtain ⟨a, h1, hev⟩ := Option.bind_eq_some_iff.1 hev
    obtain ⟨hh', z, h3, rfl⟩ := map_same hev; subst hh'
    refine ⟨?_, hh⟩
    unfold unA at h3
    split at h3 <;> first | (simp at h3; done) | (injection h3 with h3; subst h3; rfl)
  case convert s d x =>
    obtain ⟨a, h1, hev⟩ := Option.bind_eq_some_iff.1 hev
    obtain ⟨c, rfl, h2⟩ := outC_some hev
    exact convB_wf hh ⟨evC_wf he hg h1, hh⟩ h2
  case makeFunc f first captured =>
    obtain ⟨a, h1, hev⟩ := Option.bind_eq_some_iff.1 hev
    obtain ⟨b, h2, hev⟩ := Option.map_eq_some_iff.1 hev
    injection hev with e1 e2; subst e1; subst e2
    exact ⟨by simp [AV.wf, CV.wf, evCs_wf he hg h1, evCs_wf he hg h2], hh⟩
  case makeSlice t l c =>
    obtain ⟨a, h1, hev⟩ := Option.bind_eq_some_iff.1 hev
    obtain ⟨b, h2, hev⟩ := Option.bind_eq_some_iff.1 hev
    obtain ⟨c, rfl, h2⟩ := outC_some hev
    exact makeSliceA_wf hh h2
  case slice t x lo hi mx =>
    obtain ⟨a, h1, hev⟩ := Option.bind_eq_some_iff.1 hev
    obtain ⟨l, h2, hev⟩ := Option.bind_eq_some_iff.1 hev
    obtain ⟨u, h3, hev⟩ := Option.bind_eq_some_iff.1 hev
    obtain ⟨m, h4, hev⟩ := Option.bind_eq_some_iff.1 hev
    obtain ⟨hh', z, h5, rfl⟩ := map_same hev; subst hh'
    refine ⟨?_, hh⟩
    have ha := evC_wf he hg h1
    unfold sliceA at h5
    split at h5
    · obtain ⟨el, k1, h5⟩ := Option.bind_eq_some_iff.1 h5
      obtain ⟨s, k2, h5⟩ := Option.bind_eq_some_iff.1 h5
      obtain ⟨l', k3, h5⟩ := Option.bind_eq_some_iff.1 h5
      obtain ⟨u', k4, h5⟩ := Option.bind_eq_some_iff.1 h5
      split at h5
      · injection h5 with h5; subst h5; simpa [AV.wf, CV.wf] using ha
      · simp at h5
    · obtain ⟨el, k1, h5⟩ := Option.bind_eq_some_iff.1 h5
      obtain ⟨s, k2, h5⟩ := Option.bind_eq_some_iff.1 h5
      obtain ⟨l', k3, h5⟩ := Option.bind_eq_some_iff.1 h5
      obtain ⟨u', k4, h5⟩ := Option.bind_eq_some_iff.1 h5
      split at h5
      · injection h5 with h5; subst h5; rfl
      · simp at h5
    · split at h5
      · split at h5
        · obtain ⟨l', k3, h5⟩ := Option.bind_eq_some_iff.1 h5
          obtain ⟨u', k4, h5⟩ := Option.bind_eq_some_iff.1 h5
          split at h5
          · injection h5 with h5; subst h5; rfl
          · simp at h5
        · simp at h5
      · simp at h5
    · simp at h5
  case fieldAddr t x f =>
    obtain ⟨a, h1, hev⟩ := Option.bind_eq_some_iff.1 hev
    obtain ⟨hh', z, h3, rfl⟩ := map_same hev; subst hh'
    refine ⟨?_, hh⟩
    have ha := evC_wf he hg h1
    unfold fieldAddrA at h3
    split at h3
    · obtain ⟨p, k1, h3⟩ := Option.bind_eq_some_iff.1 h3
      split at h3
      · injection h3 with h3; subst h3; simpa [AV.wf, CV.wf] using ha
      · simp at h3
    · simp at h3
  case field t x f =>
    obtain ⟨a, h1, hev⟩ := Option.bind_eq_some_iff.1 hev
    obtain ⟨hh', z, h3, rfl⟩ := map_same hev; subst hh'
    refine ⟨?_, hh⟩
    have ha := ev_wf he hg h1
    unfold fieldA at h3
    split at h3
    · rename_i cs
      have hcs := (wfs_iff _ cs).1 ha
      obtain ⟨p, k1, h3⟩ := Option.bind_eq_some_iff.1 h3
      split at h3
      · split at h3
        · injection h3 with h3; subst h3
          exact (wfs_iff _ _).2 fun c hc => hcs c (List.mem_of_mem_drop (List.mem_of_mem_take hc))
        · simp at h3
      · obtain ⟨c, k2, rfl⟩ := Option.map_eq_some_iff.1 h3
        exact hcs c (List.mem_of_getElem? k2)
    · simp at h3
  case indexAddr t x ix =>
    obtain ⟨a, h1, hev⟩ := Option.bind_eq_some_iff.1 hev
    obtain ⟨b, h2, hev⟩ := Option.bind_eq_some_iff.1 hev
    obtain ⟨hh', z, h3, rfl⟩ := map_same hev; subst hh'
    refine ⟨?_, hh⟩
    have ha := evC_wf he hg h1
    unfold indexAddrA at h3
    split at h3
    · split at h3
      · obtain ⟨el, k1, h3⟩ := Option.bind_eq_some_iff.1 h3
        obtain ⟨s, k2, h3⟩ := Option.bind_eq_some_iff.1 h3
        split at h3
        · injection h3 with h3; subst h3; simpa [AV.wf, CV.wf] using ha
        · simp at h3
      · split at h3
        · obtain ⟨s, k2, h3⟩ := Option.bind_eq_some_iff.1 h3
          split at h3
          · injection h3 with h3; subst h3; simpa [AV.wf, CV.wf] using ha
          · simp at h3
        · simp at h3
      · simp at h3
    · simp at h3
  case index t x ix =>
    obtain ⟨a, h1, hev⟩ := Option.bind_eq_some_iff.1 hev
    obtain ⟨b, h2, hev⟩ := Option.bind_eq_some_iff.1 hev
    obtain ⟨hh', z, h3, rfl⟩ := map_same hev; subst hh'
    refine ⟨?_, hh⟩
    unfold indexA at h3
    split at h3
    · split at h3
      · split at h3
        · split at h3
          · injection h3 with h3; subst h3; rfl
          · simp at h3
        · simp at h3
      · simp at h3
    · simp at h3
  case extract x i =>
    obtain ⟨a, h1, hev⟩ := Option.bind_eq_some_iff.1 hev
    obtain ⟨hh', z, h3, rfl⟩ := map_same hev; subst hh'
    refine ⟨?_, hh⟩
    have ha := ev_wf he hg h1
    unfold extractA at h3
    split at h3
    · exact (awfs_iff _ _).1 ha _ (List.mem_of_getElem? h3)
    · simp at h3
  case call c =>
    unfold evCall at hev
    split at hev
    · rename_i f hcl
      obtain ⟨args, h1, hev⟩ := Option.bind_eq_some_iff.1 hev
      obtain ⟨g, h2, hev⟩ := Option.bind_eq_some_iff.1 hev
      split at hev
      · have hfl2 := floorOf_le cf hfl f
        have hf := evC_wf he hg h2
        simp only [CV.wf, Bool.and_eq_true] at hf
        exact hc _ _ _ h v h' hfl2 hh (awfs_append (awfs_append (wfs_map hf.1) (evs_wf he hg h1)) (wfs_map hf.2)) hg hev
      · simp at hev
    · obtain ⟨args, h1, hev⟩ := Option.bind_eq_some_iff.1 hev
      split at hev
      · obtain ⟨hh', y, h2, rfl⟩ := map_same hev; subst hh'
        refine ⟨?_, hh⟩
        obtain ⟨t, _, h3⟩ := Option.bind_eq_some_iff.1 h2
        unfold lenA at h3
        split at h3 <;> first | (simp at h3; done) | (injection h3 with h3; subst h3; rfl)
      · simp at hev
    · obtain ⟨args, h1, hev⟩ := Option.bind_eq_some_iff.1 hev
      split at hev
      · obtain ⟨t, h3, h4⟩ := Option.bind_eq_some_iff.1 hev
        obtain ⟨c, rfl, h2⟩ := outC_some h4
        exact appendA_wf hh (appendB_some h2)
      · simp at hev
    · obtain ⟨args, h1, hev⟩ := Option.bind_eq_some_iff.1 hev
      split at hev
      · obtain ⟨t, h3, h4⟩ := Option.bind_eq_some_iff.1 hev
        obtain ⟨c, rfl, h2⟩ := outC_some h4
        exact copyA_wf hh h2
      · simp at hev
    · obtain ⟨args, h1, hev⟩ := Option.bind_eq_some_iff.1 hev
      obtain ⟨hh', y, h2, rfl⟩ := map_same hev; subst hh'
      refine ⟨?_, hh⟩
      unfold minmaxA at h2
      split at h2
      · injection h2 with h2; subst h2; rfl
      · simp at h2
    · obtain ⟨args, h1, hev⟩ := Option.bind_eq_some_iff.1 hev
      obtain ⟨hh', y, h2, rfl⟩ := map_same hev; subst hh'
      refine ⟨?_, hh⟩
      unfold minmaxA at h2
      split at h2
      · injection h2 with h2; subst h2; rfl
      · simp at h2
    · simp at hev

/-- A whole state is well told. -/
def WfS (e : Env) (h : AH) : Prop := WfE h.length e ∧ WfH h

theorem evOps_wf (hc : CallWf cf call) (hp : CallPre call) {ops : Array Oper} : ∀ (l : List Oper) {e : Env} {h : AH} {e' : Env} {h' : AH}, fl ≤ h.length → WfS e h → WfG cf h.length → evOps P cf call fl ops l e h = some (e', h') → WfS e' h'
  | [], e, h, e', h', _, hw, _, hev => by simp [evOps] at hev; rw [← hev.1, ← hev.2]; exact hw
  | o :: r, e, h, e', h', hfl, hw, hg, hev => by
    simp only [evOps] at hev
    obtain ⟨b, h1, hev⟩ := Option.bind_eq_some_iff.1 hev
    split at hev
    · obtain ⟨⟨v, h2⟩, h3, hev⟩ := Option.bind_eq_some_iff.1 hev
      have a := evOp_pre hp hfl h3
      obtain ⟨w1, w2⟩ := evOp_wf hc hw.2 hw.1 hg hfl h3
      exact evOps_wf hc hp r (Nat.le_trans hfl a.1) ⟨(hw.1.mono a.1).put w1 _, w2⟩ (hg.mono a.1) hev
    · exact evOps_wf hc hp r hfl ⟨hw.1.put rfl _, hw.2⟩ hg hev
end
end Go.Eng
end
section
/- The engine: regions in the order of the text. No conditions. -/
namespace Go.Eng

/-- The slots hold what the engine says. -/
def ER (μ : Pl) (e : Env) (tmps : Array Value) : Prop := ∀ t v, get e t = some v → ∃ u, tmps[t]? = some u ∧ VA μ v u

section
variable {P : Program} {cf : Cfg} {n0 fl : Nat} {μ μ' : Pl} {w : World} {h : AH} {e : Env} {a : Act} {call : CallF}

theorem ER.mono (he : ER μ e a.tmps) (hm : Pl.le μ μ') : ER μ' e a.tmps := fun t v ht => by
  obtain ⟨u, h1, h2⟩ := he t v ht; exact ⟨u, h1, h2.mono hm⟩

theorem ER.put (he : ER μ e a.tmps) {dst : Option Nat} {v : AV} {u : Value} (hd : ∀ d, dst = some d → d < a.tmps.size) (hv : VA μ v u) : ER μ (put dst v e) (a.put dst u).tmps := by
  cases dst with
  | none => exact he
  | some d =>
    intro t x ht
    simp only [Go.Eng.put, get] at ht
    split at ht
    · rename_i hdt; subst hdt
      injection ht with ht; subst ht
      exact ⟨u, by simp [Act.put, hd d rfl], hv⟩
    · rename_i hdt
      obtain ⟨y, h1, h2⟩ := he t x ht
      exact ⟨y, by simp [Act.put, Array.getElem?_setIfInBounds_ne hdt, h1], h2⟩

theorem put_size (a : Act) (dst : Option Nat) (u : Value) : (a.put dst u).tmps.size = a.tmps.size := by
  cases dst <;> simp [Act.put]

theorem put_defers (a : Act) (dst : Option Nat) (u : Value) : (a.put dst u).defers = a.defers := by
  cases dst <;> simp [Act.put]

theorem ER.ok (he : ER μ e a.tmps) (R : Rel cf n0 μ w h) (x : Operand) : Ok cf μ e a.eval x := by
  intro v hv
  cases x with
  | tmp t =>
    obtain ⟨u, h1, h2⟩ := he t v hv
    simpa [Act.eval, Array.getD_eq_getD_getElem?, h1] using h2
  | const c => exact ofK_rel hv μ
  | func f => simp [ev] at hv; subst hv; exact .c _ _ (.fn _ _ _ _ _ .nil .nil)
  | global g =>
    simp only [ev] at hv
    obtain ⟨c, h1, rfl⟩ := Option.map_eq_some_iff.1 hv
    exact .c _ _ (R.glob g c h1)

theorem want_ok {ops : Array Oper} {o : Oper} {b : Bool} (hw : wantA ops e o = some b) (he : ∀ g want, o.guard = some (g, want) → ∀ d, (ops[g]?).bind (·.dst) = some d → ∀ v, get e d = some v → ∃ u, a.tmps[d]? = some u ∧ VA μ v u) : Region.wanted o (yielded ops a.tmps) = b := by
  unfold wantA at hw
  unfold Region.wanted
  cases hg : o.guard with
  | none => rw [hg] at hw; simp at hw; simp [hw]
  | some p =>
    obtain ⟨g, want⟩ := p
    rw [hg] at hw
    simp only at hw ⊢
    obtain ⟨d, h1, hw⟩ := Option.bind_eq_some_iff.1 hw
    obtain ⟨v, h2, hw⟩ := Option.bind_eq_some_iff.1 hw
    obtain ⟨u, h3, h4⟩ := he g want hg d h1 v h2
    have hy : ∀ b', u = .bool b' → yielded ops a.tmps g = some b' := fun b' e => by
      subst e; unfold yielded; rw [h1]; simp only [Option.bind_some, h3]
    have hy2 : ∀ us, u = .tuple us → yielded ops a.tmps g = none := fun us e => by
      subst e; unfold yielded; rw [h1]; simp only [Option.bind_some, h3]
    split at hw
    · rename_i b'
      injection hw with hw
      have := h4.inv_c
      cases this
      rw [hy _ rfl]; simp [hw]
    · obtain ⟨us, rfl, _⟩ := h4.inv_tup
      rw [hy2 _ rfl]
      simp at hw; simp [hw]
    · simp at hw

theorem evOps_sound (hcall : CallOK P cf n0 call) (hpre : CallPre call) (hcw : CallWf cf call) (hn : n0 ≤ fl) {ops : Array Oper} {Q : Exit → Act → World → Prop} : ∀ (l : List Oper) {e : Env} {h : AH} {e' : Env} {h' : AH} {μ : Pl} {w : World} {a : Act}, fl ≤ h.length → WfS e h → WfG cf h.length →
    evOps P cf call fl ops l e h = some (e', h') → (∀ o ∈ l, ∀ d, o.dst = some d → d < a.tmps.size) → Rel cf n0 μ w h → ER μ e a.tmps →
    (∀ a' w' μ', a'.tmps.size = a.tmps.size → a'.defers = a.defers → ER μ' e' a'.tmps → Step cf n0 fl μ w h μ' w' h' → Q .normal a' w') → wpList P ops Q l a w
  | [], e, h, e', h', μ, w, a, _, _, _, hev, _, R, he, hQ => by
    simp [evOps] at hev
    obtain ⟨rfl, rfl⟩ := hev
    exact hQ a w μ rfl rfl he (.refl R)
  | o :: r, e, h, e', h', μ, w, a, hfl, hws, hg, hev, hd, R, he, hQ => by
    simp only [evOps] at hev
    obtain ⟨b, h1, hev⟩ := Option.bind_eq_some_iff.1 hev
    have hw : Region.wanted o (yielded ops a.tmps) = b := want_ok h1 fun g want _ d _ v hv => he d v hv
    unfold wpList
    rw [hw]
    split at hev
    · rename_i hb
      rw [if_pos hb]
      obtain ⟨⟨v, h2⟩, h3, hev⟩ := Option.bind_eq_some_iff.1 hev
      have hpo := evOp_pre hpre hfl h3
      obtain ⟨w1, w2⟩ := evOp_wf hcw hws.2 hws.1 hg hfl h3
      refine .inl ((evOp_sound hcall R hn hfl (fun _ => ⟨hws.2, hws.1, hg⟩) (fun x _ => he.ok R x) h3).wp fun u μ1 w1' hv hs => ?_)
      have hle := hs.le R
      refine evOps_sound hcall hpre hcw hn r (Nat.le_trans hfl hs.len) ⟨(hws.1.mono hpo.1).put w1 _, w2⟩ (hg.mono hpo.1) hev (fun o' ho' d hd' => by rw [put_size]; exact hd o' (by simp [ho']) d hd') hs.rel ((he.mono hle).put (fun d hd' => hd o (by simp) d hd') hv) fun a' w' μ' k1 k2 k3 k4 => ?_
      exact hQ a' w' μ' (k1.trans (put_size _ _ _)) (k2.trans (put_defers _ _ _)) k3 (hs.trans k4)
    · rename_i hb
      rw [if_neg hb]
      refine evOps_sound hcall hpre hcw hn r hfl ⟨hws.1.put rfl _, hws.2⟩ hg hev (fun o' ho' d hd' => by rw [put_size]; exact hd o' (by simp [ho']) d hd') R (he.put (fun d hd' => hd o (by simp) d hd') (.tup _ _ .nil)) fun a' w' μ' k1 k2 k3 k4 => ?_
      exact hQ a' w' μ' (k1.trans (put_size _ _ _)) (k2.trans (put_defers _ _ _)) k3 k4

theorem get_keepOnly : ∀ (ks : List Nat) (e : Env) (t : Nat) (v : AV), get (keepOnly ks e) t = some v → get e t = some v
  | [], e, t, v, h => by simp [keepOnly, get] at h
  | k :: r, e, t, v, h => by
    simp only [keepOnly, get] at h
    split at h
    · rename_i hk; subst hk; exact h
    · exact get_keepOnly r e t v h
end
end Go.Eng
end
section
/- The engine: regions that draw their order. No conditions. -/
namespace Go.Eng

/-- May it write what was there? -/
def impureOp (cf : Cfg) : Op → Bool
  | .store _ _ _ => true
  | .convert s d _ => decide (s = d)
  | .call c => match c.callee with
    | .value (.func g) => !cf.pure g
    | .value _ => false
    | .builtin .append => !decide (cf.papp c.args = .pure)
    | .builtin .copy => true
    | .builtin _ => false
    | .invoke _ _ => true
  | _ => false

theorem touch_of_impure {cf : Cfg} {op : Op} (h : impureOp cf op = true) : touchOp op = true := by
  unfold impureOp at h
  split at h
  · rfl
  · rfl
  · rename_i c
    unfold touchOp
    simp only
    split at h <;> simp_all
  · simp at h

section
variable {P : Program} {cf : Cfg} {fl : Nat} {h : AH} {e : Env} {call : CallF}

theorem evOp_floor {op : Op} (hi : impureOp cf op = false) : evOp P cf call fl e h op = evOp P cf call h.length e h op := by
  cases op <;> try rfl
  case store => simp [impureOp] at hi
  case convert s d x =>
    simp only [impureOp, decide_eq_false_iff_not] at hi
    have : ∀ (fl : Nat) (a : CV), convB P fl s d a h = convA P s d a h := fun fl a => by
      unfold convB
      cases convA P s d a h with
      | some r => rfl
      | none => unfold convS; simp only; split <;> simp [hi]
    simp only [evOp, this]
  case call c =>
    simp only [evOp, evCall]
    unfold impureOp at hi
    simp only at hi
    cases hc : c.callee with
    | value f =>
      cases f with
      | func g => rw [hc] at hi; simp at hi; simp [floorOf, hi]
      | tmp t => rfl
      | const v => rfl
      | global g => rfl
    | invoke r m => rfl
    | builtin b =>
      cases b
      case append => rw [hc] at hi; simp at hi; simp only [hi, appendB_fl P fl h.length]
      case copy => rw [hc] at hi; simp at hi
      all_goals rfl

theorem bind_map_same {α β : Type} {r : Option α} {f : α → Option β} {g : β → AV} {v : AV} {h' : AH} (hr : (r.bind fun x => (f x).map fun y => (g y, h)) = some (v, h')) : h' = h ∧ ∀ h2 : AH, (r.bind fun x => (f x).map fun y => (g y, h2)) = some (v, h2) := by
  obtain ⟨x, h1, hr⟩ := Option.bind_eq_some_iff.1 hr
  obtain ⟨y, h2, hr⟩ := Option.map_eq_some_iff.1 hr
  injection hr with a b; subst b
  exact ⟨rfl, fun h3 => by rw [h1]; simp [h2, a]⟩

theorem evOp_scalar {op : Op} (ht : touchOp op = false) {v : AV} {h' : AH} (hev : evOp P cf call fl e h op = some (v, h')) : h' = h ∧ ∀ (h2 : AH) (fl2 : Nat), evOp P cf call fl2 e h2 op = some (v, h2) := by
  cases op <;> simp only [evOp] at hev ⊢ <;> try (first | (simp at hev; done) | (simp [touchOp] at ht; done))
  case move x => obtain ⟨hh, y, h2, rfl⟩ := map_same hev; subst hh; exact ⟨rfl, fun h2' _ => by simp [h2]⟩
  case assign x => obtain ⟨hh, y, h2, rfl⟩ := map_same hev; subst hh; exact ⟨rfl, fun h2' _ => by simp [h2]⟩
  case pick c a b =>
    obtain ⟨t, h1, hev⟩ := Option.bind_eq_some_iff.1 hev
    split at hev
    · obtain ⟨hh, y, h2, rfl⟩ := map_same hev; subst hh; exact ⟨rfl, fun h2' _ => by rw [h1]; simp only [Option.bind_some]; rw [h2]; rfl⟩
    · simp at hev
  case build t parts => obtain ⟨hh, k⟩ := bind_map_same (g := fun v => v) hev; exact ⟨hh, fun h2 _ => k h2⟩
  case nilCheck x =>
    obtain ⟨p, h1, hev⟩ := Option.bind_eq_some_iff.1 hev
    split at hev
    · injection hev with hev; injection hev with e1 e2; subst e1; subst e2; exact ⟨rfl, fun h2' _ => by rw [h1]; rfl⟩
    · simp at hev
  case binOp op t x y yt =>
    obtain ⟨a, h1, hev⟩ := Option.bind_eq_some_iff.1 hev
    obtain ⟨hh, k⟩ := bind_map_same (g := .c) hev
    exact ⟨hh, fun h2 _ => by rw [h1]; exact k h2⟩
  case unOp op t x => obtain ⟨hh, k⟩ := bind_map_same (g := .c) hev; exact ⟨hh, fun h2 _ => k h2⟩
  case makeFunc f first captured =>
    obtain ⟨a, h1, hev⟩ := Option.bind_eq_some_iff.1 hev
    obtain ⟨hh, y, h2, rfl⟩ := map_same hev; subst hh
    exact ⟨rfl, fun h3 _ => by rw [h1, Option.bind_some, h2]; rfl⟩
  case slice t x lo hi mx =>
    obtain ⟨a, h1, hev⟩ := Option.bind_eq_some_iff.1 hev
    obtain ⟨l, h2, hev⟩ := Option.bind_eq_some_iff.1 hev
    obtain ⟨u, h3, hev⟩ := Option.bind_eq_some_iff.1 hev
    obtain ⟨hh, k⟩ := bind_map_same (g := .c) hev
    exact ⟨hh, fun h4 _ => by rw [h1, Option.bind_some, h2, Option.bind_some, h3, Option.bind_some]; exact k h4⟩
  case fieldAddr t x f => obtain ⟨hh, k⟩ := bind_map_same (g := .c) hev; exact ⟨hh, fun h2 _ => k h2⟩
  case field t x f => obtain ⟨hh, k⟩ := bind_map_same (g := fun v => v) hev; exact ⟨hh, fun h2 _ => k h2⟩
  case indexAddr t x ix =>
    obtain ⟨a, h1, hev⟩ := Option.bind_eq_some_iff.1 hev
    obtain ⟨hh, k⟩ := bind_map_same (g := .c) hev
    exact ⟨hh, fun h2 _ => by rw [h1]; exact k h2⟩
  case index t x ix =>
    obtain ⟨a, h1, hev⟩ := Option.bind_eq_some_iff.1 hev
    obtain ⟨hh, k⟩ := bind_map_same (g := .c) hev
    exact ⟨hh, fun h2 _ => by rw [h1]; exact k h2⟩
  case extract x i => obtain ⟨hh, k⟩ := bind_map_same (g := fun v => v) hev; exact ⟨hh, fun h2 _ => k h2⟩
  case call c =>
    unfold evCall at hev ⊢
    unfold touchOp at ht
    simp only at ht
    cases hc : c.callee with
    | value f => rw [hc] at ht; simp at ht
    | invoke r m => rw [hc] at ht; simp at ht
    | builtin b =>
      rw [hc] at hev
      cases b <;> simp only at hev ⊢ <;> first | (simp at hev; done) | (rw [hc] at ht; simp at ht; done) | skip
      case len =>
        obtain ⟨args, h1, hev⟩ := Option.bind_eq_some_iff.1 hev
        split at hev
        · obtain ⟨hh, y, h2, rfl⟩ := map_same hev; subst hh; exact ⟨rfl, fun h3 _ => by rw [h1]; simp only [Option.bind_some]; rw [h2]; rfl⟩
        · simp at hev
      case max => obtain ⟨hh, k⟩ := bind_map_same (g := .c) hev; exact ⟨hh, fun h2 _ => k h2⟩
      case min => obtain ⟨hh, k⟩ := bind_map_same (g := .c) hev; exact ⟨hh, fun h2 _ => k h2⟩
end

/-! ### what goes ahead of what -/

def directs (ops : Array Oper) (j : Nat) : List Nat :=
  match ops[j]? with
  | some o => (o.after.toList.filter (Region.binds .any)).map (·.on)
  | none => []

def cloStep (ops : Array Oper) (n : Nat) (t : List Nat) : List Nat := t ++ [(directs ops n).foldl (fun m k => m ||| (1 <<< k) ||| t.getD k 0) 0]

def cloT (ops : Array Oper) : Nat → List Nat
  | 0 => []
  | n + 1 => cloStep ops n (cloT ops n)

theorem cloT_length (ops : Array Oper) : ∀ n, (cloT ops n).length = n
  | 0 => rfl
  | n + 1 => by simp [cloT, cloStep, cloT_length ops n]

theorem cloT_old (ops : Array Oper) {n j : Nat} (h : j < n) : (cloT ops (n + 1)).getD j 0 = (cloT ops n).getD j 0 := by
  simp only [cloT, cloStep, List.getD]
  rw [List.getElem?_append_left (by rw [cloT_length]; exact h)]

theorem cloT_le (ops : Array Oper) {j : Nat} : ∀ {n : Nat}, j < n → (cloT ops n).getD j 0 = (cloT ops (j + 1)).getD j 0
  | n + 1, h => by
    by_cases e : j = n
    · subst e; rfl
    · rw [cloT_old ops (by omega), cloT_le ops (by omega)]

theorem fold_bit (t : List Nat) (i : Nat) : ∀ (l : List Nat) (m : Nat), (l.foldl (fun m k => m ||| (1 <<< k) ||| t.getD k 0) m).testBit i = true → m.testBit i = true ∨ ∃ k ∈ l, i = k ∨ (t.getD k 0).testBit i = true
  | [], m, h => .inl h
  | k :: r, m, h => by
    rcases fold_bit t i r _ h with h1 | ⟨k', hk, h2⟩
    · simp only [Nat.testBit_or, Bool.or_eq_true] at h1
      rcases h1 with (h1 | h1) | h1
      · exact .inl h1
      · refine .inr ⟨k, by simp, .inl ?_⟩
        rw [Nat.one_shiftLeft, Nat.testBit_two_pow] at h1
        exact (by simpa using h1 : k = i).symm
      · exact .inr ⟨k, by simp, .inr h1⟩
    · exact .inr ⟨k', by simp [hk], h2⟩

theorem cloT_bit (ops : Array Oper) {n i j : Nat} (hj : j < n) (h : ((cloT ops n).getD j 0).testBit i = true) : ∃ k ∈ directs ops j, i = k ∨ ((cloT ops j).getD k 0).testBit i = true := by
  rw [cloT_le ops hj] at h
  have e : (cloT ops (j + 1)).getD j 0 = (directs ops j).foldl (fun m k => m ||| (1 <<< k) ||| (cloT ops j).getD k 0) 0 := by
    simp only [cloT, cloStep, List.getD]
    rw [List.getElem?_append_right (by rw [cloT_length]; omega), cloT_length]; simp
  rw [e] at h
  rcases fold_bit _ i _ _ h with h | h
  · simp at h
  · exact h

def touchW (W : Bool) (op : Op) : Bool := touchOp op && !(W && isLoad op)
theorem touchW_of_impure {cf : Cfg} (W : Bool) {op : Op} (h : impureOp cf op = true) : touchW W op = true := by
  unfold touchW
  rw [touch_of_impure h]
  have : isLoad op = false := by
    cases op <;> first | rfl | (simp [impureOp] at h)
  rw [this]; simp

/-- A literal. -/
def litOp : Op → Bool
  | .buildSlice _ _ _ => true
  | _ => false
/-- An append that may go ahead of a literal. -/
def lateOp (cf : Cfg) : Op → Bool
  | .call c => match c.callee with
    | .builtin .append => decide (cf.papp c.args = .late)
    | _ => false
  | _ => false
theorem lit_pure {cf : Cfg} {op : Op} (h : litOp op = true) : impureOp cf op = false := by cases op <;> first | rfl | (simp [litOp] at h)
theorem lit_touch {op : Op} {W : Bool} (h : litOp op = true) : touchW W op = true := by cases op <;> first | (simp [litOp] at h; done) | (cases W <;> rfl)

/-- Is the region's every pair either told which goes first, or none of the other's concern? -/
def regOk (cf : Cfg) (W : Bool) (ops : Array Oper) : Bool :=
  (List.range ops.size).all fun j => (directs ops j).all (fun k => decide (k < j)) && (List.range j).all fun i =>
    ((cloT ops ops.size).getD j 0).testBit i || (match ops[i]?, ops[j]? with
      | some x, some y => Oper.apart ops x y && !(impureOp cf x.op && touchOp y.op) && !(touchW W x.op && impureOp cf y.op && !(litOp x.op && lateOp cf y.op))
      | _, _ => true)

section
variable {cf : Cfg} {ops : Array Oper}

theorem regOk_direct {W : Bool} (h : regOk cf W ops = true) {j k : Nat} (hj : j < ops.size) (hk : k ∈ directs ops j) : k < j := by
  unfold regOk at h
  have := List.all_eq_true.1 h j (List.mem_range.2 hj)
  simp only [Bool.and_eq_true] at this
  simpa using List.all_eq_true.1 this.1 k hk

theorem regOk_pair {W : Bool} (h : regOk cf W ops = true) {i j : Nat} {x y : Oper} (hij : i < j) (hx : ops[i]? = some x) (hy : ops[j]? = some y) : ((cloT ops ops.size).getD j 0).testBit i = true ∨
    (Oper.apart ops x y = true ∧ (impureOp cf x.op = true → touchOp y.op = false) ∧ (impureOp cf y.op = true → touchW W x.op = false ∨ (litOp x.op = true ∧ lateOp cf y.op = true))) := by
  have hj : j < ops.size := (Array.getElem?_eq_some_iff.1 hy).1
  unfold regOk at h
  have := List.all_eq_true.1 h j (List.mem_range.2 hj)
  simp only [Bool.and_eq_true] at this
  have := List.all_eq_true.1 this.2 i (List.mem_range.2 hij)
  simp only [Bool.or_eq_true, hx, hy, Bool.and_eq_true, Bool.not_eq_true', Bool.and_eq_false_iff, Bool.not_eq_false'] at this
  rcases this with h | ⟨⟨h1, h2⟩, h3⟩
  · exact .inl h
  · refine .inr ⟨h1, fun hi => ?_, fun hi => ?_⟩
    · rcases h2 with h2 | h2
      · rw [hi] at h2; cases h2
      · exact h2
    · rcases h3 with (h3 | h3) | h3
      · exact .inl h3
      · rw [hi] at h3; cases h3
      · exact .inr h3

/-- What goes ahead of what is listed, is listed. -/
theorem clo_listed (h : ∀ j k, j < ops.size → k ∈ directs ops j → k < j) (L : Nat → Prop) (hc : ∀ j, j < ops.size → L j → ∀ k ∈ directs ops j, L k) : ∀ (j i : Nat), j < ops.size → (∀ k ∈ directs ops j, L k) → ((cloT ops ops.size).getD j 0).testBit i = true → L i := by
  intro j
  induction j using Nat.strongRecOn with
  | _ j ih =>
    intro i hj hd hb
    obtain ⟨k, hk, h1⟩ := cloT_bit ops hj hb
    have hkj := h j k hj hk
    rcases h1 with rfl | h1
    · exact hd _ hk
    · refine ih k hkj i (by omega) (hc k (by omega) (hd k hk)) ?_
      rw [cloT_le ops (show k < ops.size by omega), ← cloT_le ops hkj]; exact h1

/-- The same, looked at in another order than the text's. -/
def regOkP (cf : Cfg) (W : Bool) (ops : Array Oper) (π : List Nat) : Bool :=
  decide (π.length = ops.size) && decide π.Nodup && (List.range ops.size).all (fun j => π.contains j) && π.all (fun j => decide (j < ops.size)) &&
  (List.range ops.size).all (fun j => (directs ops j).all (fun k => decide (k < j))) &&
  (List.range ops.size).all fun q => (List.range q).all fun p =>
    ((cloT ops ops.size).getD (π.getD q 0) 0).testBit (π.getD p 0) || (match ops[π.getD p 0]?, ops[π.getD q 0]? with
      | some x, some y => Oper.apart ops x y && !(impureOp cf x.op && touchOp y.op) && !(touchW W x.op && impureOp cf y.op && !(litOp x.op && lateOp cf y.op))
      | _, _ => true)
def regOkO (cf : Cfg) (W : Bool) (ops : Array Oper) : Option (List Nat) → Bool
  | none => regOk cf W ops
  | some π => regOkP cf W ops π

/-- What is asked of the order in which a region is looked at: sq are its operations, π tells which of the text's each is. -/
structure RegP (cf : Cfg) (W : Bool) (ops sq : Array Oper) (π : Nat → Nat) : Prop where
  sz : sq.size = ops.size
  get : ∀ p, p < ops.size → sq[p]? = ops[π p]?
  lt : ∀ p, p < ops.size → π p < ops.size
  inj : ∀ p q, p < ops.size → q < ops.size → π p = π q → p = q
  onto : ∀ j, j < ops.size → ∃ p, p < ops.size ∧ π p = j
  dir : ∀ j k, j < ops.size → k ∈ directs ops j → k < j
  pair : ∀ (i j : Nat) (x y : Oper), i < j → sq[i]? = some x → sq[j]? = some y → ((cloT ops ops.size).getD (π j) 0).testBit (π i) = true ∨
    (Oper.apart ops x y = true ∧ (impureOp cf x.op = true → touchOp y.op = false) ∧ (impureOp cf y.op = true → touchW W x.op = false ∨ (litOp x.op = true ∧ lateOp cf y.op = true)))
theorem RegP.pr {W : Bool} {sq : Array Oper} {π : Nat → Nat} (G : RegP cf W ops sq π) {i j : Nat} {x y : Oper} (hij : i < j) (hx : sq[i]? = some x) (hy : sq[j]? = some y) : ((cloT ops ops.size).getD (π j) 0).testBit (π i) = true ∨
    (Oper.apart ops x y = true ∧ (impureOp cf x.op = true → touchOp y.op = false) ∧ (impureOp cf y.op = true → touchW W x.op = false ∨ (litOp x.op = true ∧ lateOp cf y.op = true))) := G.pair i j x y hij hx hy

theorem fm_get {l : List Oper} : ∀ {π : List Nat}, (∀ j ∈ π, j < l.length) → ∀ p : Nat, (π.filterMap fun i => l[i]?)[p]? = (π[p]?).bind fun i => l[i]?
  | [], _, p => by simp
  | j :: π, h, p => by
    obtain ⟨y, hj⟩ : ∃ y, l[j]? = some y := ⟨_, List.getElem?_eq_getElem (h j List.mem_cons_self)⟩
    rw [List.filterMap_cons, hj]
    cases p with
    | zero => simp [hj]
    | succ p => simpa using fm_get (fun i hi => h i (List.mem_cons_of_mem _ hi)) p
theorem fm_len {l : List Oper} : ∀ {π : List Nat}, (∀ j ∈ π, j < l.length) → (π.filterMap fun i => l[i]?).length = π.length
  | [], _ => rfl
  | j :: π, h => by
    obtain ⟨y, hj⟩ : ∃ y, l[j]? = some y := ⟨_, List.getElem?_eq_getElem (h j List.mem_cons_self)⟩
    rw [List.filterMap_cons, hj]
    simpa using fm_len (fun i hi => h i (List.mem_cons_of_mem _ hi))

theorem regP_of {W : Bool} {od : Option (List Nat)} (h : regOkO cf W ops od = true) : ∃ π, RegP cf W ops (ordR od ops.toList).toArray π := by
  cases od with
  | none =>
    refine ⟨id, by simp [ordR], fun p _ => by simp [ordR], fun p hp => hp, fun p q _ _ e => e, fun j hj => ⟨j, hj, rfl⟩, fun j k hj hk => regOk_direct h hj hk, fun i j x y hij hx hy => ?_⟩
    simp only [ordR, Array.toArray_toList] at hx hy
    exact regOk_pair h hij hx hy
  | some π =>
    simp only [regOkO, regOkP, Bool.and_eq_true, decide_eq_true_eq] at h
    obtain ⟨⟨⟨⟨⟨h1, h2⟩, h3⟩, h4⟩, h5⟩, h6⟩ := h
    have hlt : ∀ j ∈ π, j < ops.toList.length := fun j hj => by simpa using List.all_eq_true.1 h4 j hj
    have hg : ∀ p, p < ops.size → π[p]? = some (π.getD p 0) := fun p hp => by
      rw [List.getD_eq_getElem?_getD, List.getElem?_eq_getElem (by omega)]; rfl
    have hget : ∀ p, p < ops.size → (ordR (some π) ops.toList).toArray[p]? = ops[π.getD p 0]? := fun p hp => by
      simp only [ordR, List.getElem?_toArray]
      rw [fm_get hlt, hg p hp]; simp
    refine ⟨fun p => π.getD p 0, ?_, hget, fun p hp => ?_, fun p q hp hq e => ?_, fun j hj => ?_, fun j k hj hk => ?_, fun i j x y hij hx hy => ?_⟩
    · simp only [ordR, List.size_toArray]
      rw [fm_len hlt, h1]
    · have := hlt _ (List.mem_of_getElem? (hg p hp)); simpa using this
    · have e1 := hg p hp
      have e2 := hg q hq
      have e : π.getD p 0 = π.getD q 0 := e
      rw [e, ← e2] at e1
      exact (List.getElem?_inj (by omega) h2).1 e1
    · have := List.all_eq_true.1 h3 j (List.mem_range.2 hj)
      obtain ⟨p, hp⟩ := List.mem_iff_getElem?.1 (List.contains_iff_mem.1 this)
      have hpl := (List.getElem?_eq_some_iff.1 hp).1
      refine ⟨p, by omega, ?_⟩
      have := hg p (by omega)
      rw [hp] at this; exact (Option.some.inj this).symm
    · have := List.all_eq_true.1 h5 j (List.mem_range.2 hj)
      simpa using List.all_eq_true.1 this k hk
    · have hj : j < ops.size := by
        have := (Array.getElem?_eq_some_iff.1 hy).1
        simp only [ordR, List.size_toArray] at this
        rw [fm_len hlt] at this; omega
      have hx' := hget i (by omega)
      have hy' := hget j hj
      rw [hx] at hx'
      rw [hy] at hy'
      have := List.all_eq_true.1 (List.all_eq_true.1 h6 j (List.mem_range.2 hj)) i (List.mem_range.2 hij)
      simp only [Bool.or_eq_true, ← hx', ← hy', Bool.and_eq_true, Bool.not_eq_true', Bool.and_eq_false_iff, Bool.not_eq_false'] at this
      rcases this with h | ⟨⟨h1, h2⟩, h3⟩
      · exact .inl h
      · refine .inr ⟨h1, fun hi => ?_, fun hi => ?_⟩
        · rcases h2 with h2 | h2
          · rw [hi] at h2; cases h2
          · exact h2
        · rcases h3 with (h3 | h3) | h3
          · exact .inl h3
          · rw [hi] at h3; cases h3
          · exact .inr h3
end
end Go.Eng
end
