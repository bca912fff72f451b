/- The value engine: an evaluator over plain values, and that it is told by the engine. No conditions. -/
import Derived.Test.YtkfeofjgdijbeaaEb
set_option linter.unusedVariables false
set_option linter.unusedSimpArgs false
section
/- The value engine: what a call only reads lies in the values themselves; what it makes lies in a small heap of its own. Definitions alone. -/
namespace Go.Eng

inductive V where
  | bool (b : Bool) | int (k : IntKind) (n : Int) | str (s : ByteArray) | nil
  | ints (k : IntKind) (l : List Int)
  | cells (sz n : Nat) (l : List V)
  | fptr (l : List V)
  | sl (i off len sz : Nat)
  | ptr (i off : Nat)
  | fn (f : Fn) (a b : List V)
  | agg (l : List V)
  | tup (l : List V)
  | np
  | em
  deriving Inhabited

inductive VO where
  | ints (w : Bool) (k : IntKind) (l : List Int)
  | vals (w : Bool) (l : List V)
  | dead
  deriving Inhabited

abbrev VE := List (Nat × Option V)
abbrev VH := List VO

/-- What a nil slice stands for: of whole numbers; of elements with so many cells. -/
inductive NK where
  | i (k : IntKind) | s (sz : Nat)

/-- What a call leaves. -/
inductive Om where
  | own (ks : List (List (Option NK))) | frz (ks : List (List (Option NK))) | inl

structure Kn where
  cf : Cfg
  out : FuncId → Om
  args : FuncId → List (List (Option NK))
  nils : FuncId → Nat → Option NK
  gc : FuncId → Bool
  ali : FuncId → Bool
  glob : Nat → Option V

def CV.toV : CV → Option V
  | .bool b => some (.bool b)
  | .int k n => some (.int k n)
  | .str s => some (.str s)
  | .nil => some .nil
  | _ => none
def omap {α β : Type} (f : α → Option β) : List α → Option (List β)
  | [] => some []
  | a :: r => match f a, omap f r with
    | some x, some l => some (x :: l)
    | _, _ => none
def AV.toV : AV → Option V
  | .c x => x.toV
  | .agg cs => match omap CV.toV cs with
    | some l => some (.agg l)
    | none => none
  | .tup _ => none
  | .np => none
def toV? : Option AV → Option V
  | some a => a.toV
  | none => none
/-- As a value of the engine, for comparing and reckoning. -/
def V.toC : V → Option CV
  | .bool b => some (.bool b)
  | .int k n => some (.int k n)
  | .str s => some (.str s)
  | .nil => some .nil
  | .sl _ _ len _ => if 0 < len then some (.sl 0 0 len 1) else none
  | .ints _ l => if 0 < l.length then some (.sl 0 0 l.length 1) else none
  | .cells _ n _ => if 0 < n then some (.sl 0 0 n 1) else none
  | _ => none

def vofC : Value → Option V
  | .bool b => some (.bool b)
  | .int k n => some (.int k n)
  | .string s => some (.str s)
  | .slice none 0 0 => some .nil
  | _ => none
def vofV : Value → Option V
  | .agg cs => match omap vofC cs.toList with
    | some l => some (.agg l)
    | none => none
  | v => vofC v

/-- A constant: the nil pointer too. -/
def vofK : Value → Option V
  | .pointer none => some .np
  | v => vofV v

def vget : VE → Nat → Option V
  | [], _ => none
  | (k, v) :: r, t => if k = t then v else vget r t
def vput : Option Nat → V → VE → VE
  | some d, v, e => (d, some v) :: e
  | none, _, e => e
def vkeep : List Nat → VE → VE
  | [], _ => []
  | t :: r, e => (t, vget e t) :: vkeep r e
def vev (K : Kn) (e : VE) : Operand → Option V
  | .tmp t => vget e t
  | .const v => vofK v
  | .func f => some (.fn (.func f) [] [])
  | .global g => K.glob g
def vevs (K : Kn) (e : VE) (l : List Operand) : Option (List V) := omap (vev K e) l

def V.cs : V → List V
  | .agg l => l
  | .tup _ => []
  | .np => []
  | v => [v]
def V.one : V → Bool
  | .tup _ => false
  | .np => false
  | _ => true
def V.atom : V → Bool
  | .tup _ => false
  | .agg _ => false
  | .np => false
  | _ => true

/-! ### objects -/
def VO.cells : VO → List V
  | .ints _ k l => l.map (.int k)
  | .vals _ l => l
  | .dead => []
def VO.sub : VO → Nat → Nat → Option VO
  | .ints w k l, off, n => if off + n ≤ l.length then some (.ints w k ((l.drop off).take n)) else none
  | .vals w l, off, n => if off + n ≤ l.length then some (.vals w ((l.drop off).take n)) else none
  | .dead, _, _ => none
def VO.cat : VO → VO → Option VO
  | .ints _ k a, .ints _ k' b => if k = k' then some (.ints true k (a ++ b)) else none
  | .vals _ a, .vals _ b => some (.vals true (a ++ b))
  | _, _ => none
def VO.at : VO → Nat → Option V
  | .ints _ k l, off => if off < l.length then some (.int k (gt l off)) else none
  | .vals _ l, off => l[off]?
  | .dead, _ => none
def VO.set1 : VO → Nat → V → Option VO
  | .ints true k l, off, .int k' n => if k = k' ∧ off < l.length then some (.ints true k (l.set off n)) else none
  | .vals true l, off, v => if off < l.length then some (.vals true (l.set off v)) else none
  | _, _, _ => none
def VO.sets (x : VO) (off : Nat) : List V → Option VO
  | [] => some x
  | v :: r => match x.set1 off v with
    | some y => y.sets (off + 1) r
    | none => none
def VO.w : VO → Bool
  | .ints w _ _ => w
  | .vals w _ => w
  | .dead => false
def VO.wB : Option VO → Bool
  | some o => o.w
  | none => false
def vtoInts (k : IntKind) : List V → Option (List Int)
  | [] => some []
  | .int k' n :: r => if k = k' then (match vtoInts k r with | some l => some (n :: l) | none => none) else none
  | _ :: _ => none
def vmkO (ko : Option IntKind) (cs : List V) : Option VO :=
  match ko with
  | some k => match vtoInts k cs with
    | some l => some (.ints true k l)
    | none => none
  | none => some (.vals true cs)

/-! ### operations -/
def vres : Option V → VH → Option (V × VH)
  | some v, h => some (v, h)
  | none, _ => none
def vsetAll (cs : List V) (off : Nat) : List V → List V
  | [] => cs
  | v :: r => vsetAll (cs.set off v) (off + 1) r
def vfill1 (v : V) (p : Nat × Nat) (cs : List V) : Option (List V) := if v.one = true ∧ v.cs.length = p.2 ∧ p.1 + p.2 ≤ cs.length then some (vsetAll cs p.1 v.cs) else none
def vfill (place : Nat → Option (Nat × Nat)) : List (Nat × V) → Option (List V) → Option (List V)
  | [], cs => cs
  | (i, v) :: r, some cs => (match place i with
    | some p => vfill place r (vfill1 v p cs)
    | none => none)
  | _ :: _, none => none
def vparts (K : Kn) (e : VE) : List (Nat × Operand) → Option (List (Nat × V))
  | [] => some []
  | (i, x) :: r => match vev K e x, vparts K e r with
    | some v, some l => some ((i, v) :: l)
    | _, _ => none
def vpick : Option V → Option V → Option V → Option V
  | some (.bool true), a, _ => a
  | some (.bool false), _, b => b
  | _, _, _ => none
def valloc : Option V → VH → Option (V × VH)
  | some z, h => if z.one = true then some (.ptr h.length 0, h ++ [.vals true z.cs]) else none
  | none, _ => none
def aggL : Option (List V) → Option V
  | some l => some (.agg l)
  | none => none
def vbuild2 : Option (List (Nat × Nat)) → Option V → List (Nat × V) → Option V
  | some ps, some z, parts => aggL (vfill (ps[·]?) parts (some z.cs))
  | _, _, _ => none
def vbuild (P : Program) (t : TypeId) : Option (List (Nat × V)) → Option V
  | some parts => vbuild2 (placesB P t) (toV? (zeroT P t)) parts
  | none => none
def vreps (n : Nat) (cs : List V) : List V := (List.replicate n cs).flatten
def vnewE : Bool → Option VO → Nat → Nat → VH → Option (V × VH)
  | em, some o, len, s, h => some (if em = true ∧ len = 0 then .em else .sl h.length 0 len s, h ++ [o])
  | _, none, _, _, _ => none
def vnewO : Option VO → Nat → Nat → VH → Option (V × VH)
  | some o, len, s, h => some (.sl h.length 0 len s, h ++ [o])
  | none, _, _, _ => none
def vmk? (ko : Option IntKind) : Option (List V) → Option VO
  | some cs => vmkO ko cs
  | none => none
def vbslice1 (P : Program) (em : Bool) (el : TypeId) (len : Nat) (parts : List (Nat × V)) (h : VH) : Option Nat → Option V → Option (V × VH)
  | some s, some z => if len * s ≤ 16777216 ∧ z.cs.length = s ∧ z.one = true then
      vnewE em (vmk? (kindOf P el) (vfill (fun i => some (i * s, s)) parts (some (vreps len z.cs)))) len s h
    else none
  | _, _ => none
def vbslice2 (P : Program) (em : Bool) (len : Nat) (h : VH) : Option TypeId → Option (List (Nat × V)) → Option (V × VH)
  | some el, some parts => vbslice1 P em el len parts h (sizeT P el) (toV? (zeroT P el))
  | _, _ => none
def vobj : Option VO → Nat → Nat → Option V
  | some o, off, s => match o.sub off s with
    | some x => some (.agg x.cells)
    | none => none
  | none, _, _ => none
def vat : Option VO → Nat → Option V
  | some o, off => o.at off
  | none, _ => none
def vload1 : Option Bool → Option Nat → VH → Nat → Nat → Option V
  | some true, some s, h, i, off => vobj h[i]? off s
  | some false, _, h, i, off => vat h[i]? off
  | _, _, _, _, _ => none
def vloadF : Option Bool → Option Nat → List V → Option V
  | some true, some s, l => if 0 < s ∧ s ≤ l.length then some (.agg (l.take s)) else none
  | some false, _, l => l[0]?
  | _, _, _ => none
def vload (P : Program) (t : TypeId) (h : VH) : Option V → Option V
  | some (.ptr i off) => vload1 (aggT P t) (sizeT P t) h i off
  | some (.fptr l) => vloadF (aggT P t) (sizeT P t) l
  | _ => none
def vsto2 (h : VH) (i : Nat) : Option VO → Option (V × VH)
  | some x => some (.tup [], h.set i x)
  | none => none
def vsets : Option VO → Nat → List V → Option VO
  | some o, off, cs => o.sets off cs
  | none, _, _ => none
def vsto1 (h : VH) (i off : Nat) (v : V) : Option Nat → Option (V × VH)
  | some s => if v.one = true ∧ v.cs.length = s ∧ 0 < s then vsto2 h i (vsets h[i]? off v.cs) else none
  | none => none
def vstore (P : Program) (t : TypeId) (h : VH) : Option V → Option V → Option (V × VH)
  | some (.ptr i off), some v => vsto1 h i off v (sizeT P t)
  | _, _ => none
def vnlc : Option V → Option V
  | some (.ptr i off) => some (.ptr i off)
  | some (.fptr l) => some (.fptr l)
  | _ => none
def toV1 : Option CV → Option V
  | some c => c.toV
  | none => none
def vbin2 (P : Program) (op : BinOp) (t : TypeId) : Option CV → Option CV → Option V
  | some a, some b => toV1 (binE P op t a b)
  | _, _ => none
def vbin (P : Program) (op : BinOp) (t : TypeId) : Option V → Option V → Option V
  | some a, some b => vbin2 P op t a.toC b.toC
  | _, _ => none
def vun (op : UnOp) : Option V → Option V
  | some (.int k n) => toV1 (unA op (.int k n))
  | some (.bool b) => toV1 (unA op (.bool b))
  | _ => none
def bytesL (s : ByteArray) : List Int := s.data.toList.map fun b => (b.toNat : Int)
def vrdO (k : IntKind) : Option VO → Option (List Int)
  | some (.ints _ k' l) => if k = k' then some l else none
  | _ => none
def vsub : Option VO → Nat → Nat → Option VO
  | some o, off, n => o.sub off n
  | none, _, _ => none
/-- What a slice of whole numbers reads as. -/
def vrdI (k : IntKind) (h : VH) : V → Option (List Int)
  | .nil => some []
  | .ints k' l => if k = k' then some l else none
  | .sl i off len sz => if sz = 1 then vrdO k (vsub h[i]? off len) else none
  | _ => none
def vstrO : Option (List Int) → VH → Option (V × VH)
  | some l, h => some (.str ⟨(l.map fun n => UInt8.ofNat n.toNat).toArray⟩, h)
  | none, _ => none
def vconv2 (P : Program) (h : VH) : Option TypeDesc → Option TypeDesc → V → Option (V × VH)
  | some (.int _), some (.int k), .int _ n => some (.int k (k.wrap n), h)
  | some .string, some .string, .str s => some (.str s, h)
  | some .string, some (.slice e), .str s => if kindOf P e = some .u8 then some (.sl h.length 0 s.size 1, h ++ [.ints true .u8 (bytesL s)]) else none
  | some (.slice e), some .string, x => if kindOf P e = some .u8 then vstrO (vrdI .u8 h x) h else none
  | _, _, _ => none
/-- A slice of bytes that is converted to its own type. -/
def vconvS (P : Program) (s d : TypeId) (h : VH) : Option TypeDesc → Option TypeDesc → V → Option (V × VH)
  | some (.slice _), some (.slice e), .sl i off len sz => if s = d ∧ kindOf P e = some .u8 ∧ 0 < len ∧ VO.wB h[i]? = true then some (.sl i off len sz, h) else none
  | _, _, _ => none
def vconvO : Option (V × VH) → Option (V × VH) → Option (V × VH)
  | some r, _ => some r
  | none, x => x
def vconv (P : Program) (s d : TypeId) (h : VH) : Option V → Option (V × VH)
  | some x => vconvO (vconv2 P h (P.underlying s) (P.underlying d) x) (vconvS P s d h (P.underlying s) (P.underlying d) x)
  | none => none
def vfn (f : Fn) : Option (List V) → Option (List V) → Option V
  | some a, some b => if (a.all V.atom && b.all V.atom) = true then some (.fn f a b) else none
  | _, _ => none
/-- n elements that are zero. -/
def vzo : Option IntKind → Option V → Nat → Option VO
  | some k, some (.int k' m), n => if k = k' ∧ m = 0 then some (.ints true k (List.replicate n 0)) else none
  | none, some z, n => if z.one = true then some (.vals true (vreps n z.cs)) else none
  | _, _, _ => none
def vlen : Option VO → Nat
  | some (.ints _ _ l) => l.length
  | some (.vals _ l) => l.length
  | _ => 0
def vmake2 (P : Program) (el : TypeId) (l c : Int) (h : VH) : Option Nat → Option Nat → Option (V × VH)
  | some s, some b => if 0 ≤ l ∧ l ≤ c ∧ c ≤ 140737488355328 ∧ c * b ≤ 140737488355328 ∧ vlen (vzo (kindOf P el) (toV? (zeroT P el)) l.toNat) = l.toNat * s then vnewO (vzo (kindOf P el) (toV? (zeroT P el)) l.toNat) l.toNat s h else none
  | _, _ => none
def vmake1 (P : Program) (l c : Int) (h : VH) : Option TypeId → Option (V × VH)
  | some el => vmake2 P el l c h (sizeT P el) (bytesT P el)
  | none => none
def vmake (P : Program) (t : TypeId) (h : VH) : Option V → Option V → Option (V × VH)
  | some (.int .i64 l), some (.int .i64 c) => vmake1 P l c h (elemS P t)
  | _, _ => none
/-- A bound of a cut: there is none; it is told. -/
def vbound (K : Kn) (e : VE) : Option Operand → Int → Option Int
  | none, d => some d
  | some x, _ => match vev K e x with
    | some (.int _ n) => some n
    | _ => none
def vcut : V → Nat → Int → Int → Option V
  | .sl i off len sz, s, l, u => if s = sz ∧ 0 ≤ l ∧ l ≤ u ∧ u ≤ len then some (.sl i (off + l.toNat * sz) (u - l).toNat sz) else none
  | .ints k x, s, l, u => if s = 1 ∧ 0 ≤ l ∧ l ≤ u ∧ u ≤ x.length then some (.ints k ((x.drop l.toNat).take (u - l).toNat)) else none
  | .cells sz n x, s, l, u => if s = sz ∧ 0 ≤ l ∧ l ≤ u ∧ u ≤ n then some (.cells sz (u - l).toNat ((x.drop (l.toNat * sz)).take ((u - l).toNat * sz))) else none
  | .nil, _, l, u => if l = 0 ∧ u = 0 then some .nil else none
  | _, _, _, _ => none
def V.len : V → Option Nat
  | .sl _ _ len _ => some len
  | .ints _ l => some l.length
  | .cells _ n _ => some n
  | .nil => some 0
  | _ => none
def vcut1 (x : V) : Option Nat → Option Int → Option Int → Option V
  | some s, some l, some u => vcut x s l u
  | _, _, _ => none
def vsize (P : Program) : Option TypeId → Option Nat
  | some el => sizeT P el
  | none => none
def vslice1 (P : Program) (K : Kn) (t : TypeId) (e : VE) (lo hi : Option Operand) (x : V) : Option Nat → Option V
  | some n => vcut1 x (vsize P (elemS P t)) (vbound K e lo 0) (vbound K e hi n)
  | none => none
def vslice (P : Program) (K : Kn) (t : TypeId) (e : VE) (lo hi : Option Operand) : Option V → Option V
  | some x => vslice1 P K t e lo hi x x.len
  | none => none
def vfadd : V → Option (Nat × Nat × Bool) → Option V
  | .ptr i off, some p => if 0 < p.2.1 then some (.ptr i (off + p.1)) else none
  | .fptr l, some p => if 0 < p.2.1 ∧ p.1 ≤ l.length then some (.fptr (l.drop p.1)) else none
  | _, _ => none
def vfieldAddr (P : Program) (t : TypeId) (f : Nat) : Option V → Option V
  | some x => vfadd x (fieldOf P t f)
  | none => none
def vfld (l : List V) : Option (Nat × Nat × Bool) → Option V
  | some (o, s, true) => if o + s ≤ l.length then some (.agg ((l.drop o).take s)) else none
  | some (o, _, false) => l[o]?
  | none => none
def vfield (P : Program) (t : TypeId) (f : Nat) : Option V → Option V
  | some (.agg l) => vfld l (fieldOf P t f)
  | _ => none
def vidx : V → Nat → Int → Option V
  | .sl i off len sz, s, n => if s = sz ∧ 0 ≤ n ∧ n < len then some (.ptr i (off + n.toNat * sz)) else none
  | .ints k l, s, n => if s = 1 ∧ 0 ≤ n ∧ n < l.length then some (.fptr [.int k (gt l n.toNat)]) else none
  | .cells sz m l, s, n => if s = sz ∧ 0 ≤ n ∧ n < m then some (.fptr ((l.drop (n.toNat * sz)).take sz)) else none
  | _, _, _ => none
def vidx1 (x : V) (n : Int) : Option Nat → Option V
  | some s => vidx x s n
  | none => none
def vidxF2 (l : List V) (n : Int) (len : Nat) : Option Nat → Option V
  | some s => if 0 ≤ n ∧ n < len ∧ n.toNat * s ≤ l.length then some (.fptr (l.drop (n.toNat * s))) else none
  | none => none
def vidxF (P : Program) (l : List V) (n : Int) : Option TypeDesc → Option V
  | some (.array len el) => vidxF2 l n len (sizeT P el)
  | _ => none
def vindexAddr (P : Program) (t : TypeId) : Option V → Option V → Option V
  | some (.fptr l), some (.int _ n) => vidxF P l n (P.underlying t)
  | some x, some (.int _ n) => vidx1 x n (vsize P (elemS P t))
  | _, _ => none
def vindex (P : Program) (t : TypeId) : Option V → Option V → Option V
  | some x, some y => (match x.toC, y.toC with
    | some a, some b => toV1 (indexA P t a b)
    | _, _ => none)
  | _, _ => none
def vextract : Option V → Nat → Option V
  | some (.tup l), i => l[i]?
  | _, _ => none

def vlenT : Option TypeDesc → V → Option V
  | some .string, .str s => some (.int .i64 s.size)
  | some (.slice _), .nil => some (.int .i64 0)
  | some (.slice _), .sl _ _ n _ => some (.int .i64 n)
  | some (.slice _), .ints _ l => some (.int .i64 l.length)
  | some (.slice _), .cells _ n _ => some (.int .i64 n)
  | _, _ => none
def vlenA (P : Program) : Option TypeId → List V → Option V
  | some t, [x] => vlenT (P.underlying t) x
  | _, _ => none

def vpair : Option VO → Nat → Option (VO × Nat)
  | some o, n => some (o, n)
  | none, _ => none
def kindIs : Option IntKind → VO → Bool
  | some k, .ints _ k' _ => decide (k = k')
  | none, .vals _ _ => true
  | _, _ => false
def vpairK (ko : Option IntKind) : Option VO → Nat → Option (VO × Nat)
  | some o, n => if kindIs ko o = true then some (o, n) else none
  | none, _ => none
def vsrc (ko : Option IntKind) (size : Nat) (h : VH) : V → Option (VO × Nat)
  | .nil => vpair (vmkO ko []) 0
  | .sl j off n sz => if sz = size then vpairK ko (vsub h[j]? off (n * sz)) n else none
  | .ints k l => if size = 1 ∧ ko = some k then some (.ints true k l, l.length) else none
  | .cells sz n l => if sz = size ∧ ko = none then some (.vals true l, n) else none
  | .str s => if size = 1 then some (.ints true .u8 (bytesL s), s.size) else none
  | _ => none
def vnew (P : Program) (el : TypeId) (size : Nat) (h : VH) : Option Bool → V → Option (VO × Nat)
  | some true, .int .i64 n => if 0 ≤ n ∧ n ≤ 140737488355328 ∧ vlen (vzo (kindOf P el) (toV? (zeroT P el)) n.toNat) = n.toNat * size then vpair (vzo (kindOf P el) (toV? (zeroT P el)) n.toNat) n.toNat else none
  | some false, x => vsrc (kindOf P el) size h x
  | _, _ => none
def vtrip (ko : Option IntKind) : Option VO → Nat → VH → Option (VO × Nat × VH)
  | some o, n, h => if kindIs ko o = true then some (o, n, h) else none
  | none, _, _ => none
def vw : Option VO → Bool
  | some o => o.w
  | none => false
def vold (ko : Option IntKind) (size : Nat) (h : VH) : V → Option (VO × Nat × VH)
  | .nil => vtrip ko (vmkO ko []) 0 h
  | .em => vtrip ko (vmkO ko []) 0 h
  | .sl i off len sz => if sz = size ∧ vw h[i]? = true then vtrip ko (vsub h[i]? off (len * sz)) len (h.set i .dead) else none
  | _ => none
def vcatO (n size : Nat) (h : VH) : Option VO → Option (V × VH)
  | some y => some (.sl h.length 0 n size, h ++ [y])
  | none => none
def vapp3 (size b : Nat) (z : V) : Option (VO × Nat) → Option (VO × Nat × VH) → Option (V × VH)
  | some nw, some old => if z.one = true ∧ z.cs.length = size ∧ old.2.1 + nw.2 ≤ 140737488355328 ∧ (old.2.1 + nw.2) * b ≤ 140737488355328 then vcatO (old.2.1 + nw.2) size old.2.2 (old.1.cat nw.1) else none
  | _, _ => none
def vapp2 (P : Program) (el : TypeId) (zs : Option Bool) (s x : V) (h : VH) : Option Nat → Option Nat → Option V → Option (V × VH)
  | some size, some b, some z => vapp3 size b z (vnew P el size h zs x) (vold (kindOf P el) size h s)
  | _, _, _ => none
def vapp1 (P : Program) (zs : Option Bool) (s x : V) (h : VH) : Option TypeId → Option (V × VH)
  | some el => vapp2 P el zs s x h (sizeT P el) (bytesT P el) (toV? (zeroT P el))
  | none => none
def vappend (P : Program) (sT : Option TypeId) (xT : Option TypeId) (h : VH) : List V → Option (V × VH)
  | [s, x] => (match sT with
    | some t => vapp1 P (zerosT P xT) s x h (elemS P t)
    | none => none)
  | _ => none
def V.fresh : V → Bool
  | .nil => true
  | .em => true
  | _ => false
def V.solid : V → Bool
  | .nil => true
  | .em => true
  | .sl _ _ len _ => decide (0 < len)
  | _ => false
/-- Is an append what it is held to be? -/
def vpapp : AK → List V → Bool
  | .no, _ => true
  | .pure, s :: _ => s.fresh
  | .late, s :: _ => s.solid
  | _, [] => false
def vminmax (mx : Bool) : List V → Option V
  | [.int k x, .int _ y] => some (.int k (if mx then (if x < y then y else x) else (if y < x then y else x)))
  | _ => none

/-! ### freezing, nil, what is reached -/
def vfrz (h : VH) : Nat → V → Option V
  | n + 1, .sl i off len sz => (match h[i]? with
    | some (.ints _ k l) => if sz = 1 ∧ off + len ≤ l.length then some (.ints k ((l.drop off).take len)) else none
    | some (.vals _ l) => if off + len * sz ≤ l.length then (match omap (vfrz h n) ((l.drop off).take (len * sz)) with
      | some l' => some (.cells sz len l')
      | none => none) else none
    | _ => none)
  | n + 1, .ptr i off => (match h[i]? with
    | some (.ints _ k l) => if off ≤ l.length then some (.fptr ((l.drop off).map (.int k))) else none
    | some (.vals _ l) => if off ≤ l.length then (match omap (vfrz h n) (l.drop off) with
      | some l' => some (.fptr l')
      | none => none) else none
    | _ => none)
  | n + 1, .fn f a b => (match omap (vfrz h n) a, omap (vfrz h n) b with
    | some a', some b' => some (.fn f a' b')
    | _, _ => none)
  | n + 1, .agg l => aggL (omap (vfrz h n) l)
  | _, .bool b => some (.bool b)
  | _, .int k n => some (.int k n)
  | _, .str s => some (.str s)
  | _, .nil => some .nil
  | _, .ints k l => some (.ints k l)
  | _, .cells sz n l => some (.cells sz n l)
  | _, .fptr l => some (.fptr l)
  | _, _ => none
def vnrm1 : Option NK → V → V
  | some (.i k), .nil => .ints k []
  | some (.s sz), .nil => .cells sz 0 []
  | _, v => v
def vnrmL : List (Option NK) → List V → List V
  | k :: ks, v :: vs => vnrm1 k v :: vnrmL ks vs
  | _, vs => vs
def vnrmA : List (Option NK) → V → V
  | ks, .agg l => .agg (vnrmL ks l)
  | k :: _, v => vnrm1 k v
  | [], v => v
def vnrmAs : List (List (Option NK)) → List V → List V
  | k :: ks, v :: vs => vnrmA k v :: vnrmAs ks vs
  | _, vs => vs
/-- A nil slice becomes an object of its own that is empty. -/
def vnob1 : Option NK → V → VH → V × VH
  | some (.i k), .nil, h => (.sl h.length 0 0 1, h ++ [.ints true k []])
  | some (.s sz), .nil, h => (.sl h.length 0 0 sz, h ++ [.vals true []])
  | _, v, h => (v, h)
def vnobL : List (Option NK) → List V → VH → List V × VH
  | k :: ks, v :: vs, h => ((vnob1 k v h).1 :: (vnobL ks vs (vnob1 k v h).2).1, (vnobL ks vs (vnob1 k v h).2).2)
  | _, vs, h => (vs, h)
def vnobA : List (Option NK) → V → VH → V × VH
  | ks, .agg l, h => (.agg (vnobL ks l h).1, (vnobL ks l h).2)
  | k :: _, v, h => vnob1 k v h
  | [], v, h => (v, h)
def vnobAs : List (List (Option NK)) → List V → VH → List V × VH
  | k :: ks, v :: vs, h => ((vnobA k v h).1 :: (vnobAs ks vs (vnobA k v h).2).1, (vnobAs ks vs (vnobA k v h).2).2)
  | _, vs, h => (vs, h)
/-- The slots that a region leaves, nil slices as objects. -/
def vnobE (nk : Nat → Option NK) : VE → VH → VE × VH
  | [], h => ([], h)
  | (t, some v) :: r, h => ((t, some (vnob1 (nk t) v h).1) :: (vnobE nk r (vnob1 (nk t) v h).2).1, (vnobE nk r (vnob1 (nk t) v h).2).2)
  | (t, none) :: r, h => ((t, none) :: (vnobE nk r h).1, (vnobE nk r h).2)

def vrefs : Nat → V → List Nat
  | _, .sl i _ _ _ => [i]
  | _, .ptr i _ => [i]
  | n + 1, .fn _ a b => a.flatMap (vrefs n) ++ b.flatMap (vrefs n)
  | n + 1, .agg l => l.flatMap (vrefs n)
  | n + 1, .tup l => l.flatMap (vrefs n)
  | _, _ => []
def orefs : Option VO → List Nat
  | some (.vals _ l) => l.flatMap (vrefs 4)
  | _ => []
def addN (l : List Nat) (i : Nat) : List Nat := if i ∈ l then l else l ++ [i]
def addNs (l : List Nat) : List Nat → List Nat
  | [] => l
  | i :: r => addNs (addN l i) r
def reach (h : VH) : Nat → List Nat → List Nat
  | 0, l => l
  | n + 1, l => reach h n (addNs l (l.flatMap fun i => orefs h[i]?))
def erefs : VE → List Nat
  | [] => []
  | (_, some v) :: r => vrefs 4 v ++ erefs r
  | (_, none) :: r => erefs r
def idxN : List Nat → Nat → Option Nat
  | [], _ => none
  | k :: r, i => if k = i then some 0 else (match idxN r i with | some n => some (n + 1) | none => none)
def vren (ρ : Nat → Option Nat) : Nat → V → Option V
  | _, .sl i off len sz => (match ρ i with | some k => some (.sl k off len sz) | none => none)
  | _, .ptr i off => (match ρ i with | some k => some (.ptr k off) | none => none)
  | n + 1, .fn f a b => (match omap (vren ρ n) a, omap (vren ρ n) b with
    | some a', some b' => some (.fn f a' b')
    | _, _ => none)
  | n + 1, .agg l => aggL (omap (vren ρ n) l)
  | n + 1, .tup l => (match omap (vren ρ n) l with
    | some l' => some (.tup l')
    | none => none)
  | _, .bool b => some (.bool b)
  | _, .int k n => some (.int k n)
  | _, .str s => some (.str s)
  | _, .nil => some .nil
  | _, .ints k l => some (.ints k l)
  | _, .cells sz n l => some (.cells sz n l)
  | _, .fptr l => some (.fptr l)
  | _, _ => none
def vrenO (ρ : Nat → Option Nat) : VO → Option VO
  | .ints w k l => some (.ints w k l)
  | .vals w l => (match omap (vren ρ 4) l with
    | some l' => some (.vals w l')
    | none => none)
  | .dead => some .dead
def vrenE (ρ : Nat → Option Nat) : VE → Option VE
  | [] => some []
  | (t, some v) :: r => (match vren ρ 4 v, vrenE ρ r with
    | some v', some r' => some ((t, some v') :: r')
    | _, _ => none)
  | (t, none) :: r => (match vrenE ρ r with
    | some r' => some ((t, none) :: r')
    | none => none)
def vpickO (ρ : Nat → Option Nat) (h : VH) (i : Nat) : Option VO := match h[i]? with
  | some o => vrenO ρ o
  | none => none
def vtwo {α β : Type} : Option α → Option β → Option (α × β)
  | some a, some b => some (a, b)
  | _, _ => none
/-- What is not reached is dropped. -/
def vgcBy (o : List Nat) (e : VE) (h : VH) : Option (VE × VH) := if o.Nodup then vtwo (vrenE (idxN o) e) (omap (vpickO (idxN o) h) o) else none
def vgc (e : VE) (h : VH) : Option (VE × VH) := match h with
  | [] => some (e, [])
  | _ => vgcBy (reach h 3 (addNs [] (erefs e))) e h

/-! ### calls -/
abbrev CallV := FuncId → List V → VH → Option (V × VH)
def V.noFz : Nat → V → Bool
  | _, .ints _ _ => false
  | _, .cells _ _ _ => false
  | _, .fptr _ => false
  | n + 1, .fn _ a b => a.all (V.noFz n) && b.all (V.noFz n)
  | n + 1, .agg l => l.all (V.noFz n)
  | n + 1, .tup l => l.all (V.noFz n)
  | 0, .fn _ _ _ => false
  | 0, .agg _ => false
  | 0, .tup _ => false
  | _, _ => true
def VO.noFz : VO → Bool
  | .ints w _ _ => w
  | .vals w l => w && l.all (V.noFz 4)
  | .dead => true
def VO.ro : VO → VO
  | .ints _ k l => .ints false k l
  | .vals _ l => .vals false l
  | .dead => .dead
def roM (h : VH) : List Nat → VH
  | [] => h
  | i :: r => roM (h.modify i VO.ro) r
/-- What is reached in freezing. -/
def vtrc (h : VH) : Nat → V → List Nat
  | n + 1, .sl i off len sz => i :: (match h[i]? with
    | some (.vals _ l) => ((l.drop off).take (len * sz)).flatMap (vtrc h n)
    | _ => [])
  | n + 1, .ptr i off => i :: (match h[i]? with
    | some (.vals _ l) => (l.drop off).flatMap (vtrc h n)
    | _ => [])
  | n + 1, .fn _ a b => a.flatMap (vtrc h n) ++ b.flatMap (vtrc h n)
  | n + 1, .agg l => l.flatMap (vtrc h n)
  | _, _ => []
def argRefs (h : VH) (args : List V) : List Nat := args.flatMap (vtrc h 6)
def vshO (n : Nat) : VO → Option VO := vrenO (fun i => some (n + i))
def vland3 (h : VH) : Option V → Option VH → Option (V × VH)
  | some r, some o => some (r, h ++ o)
  | _, _ => none
def vland2 (h : VH) (args : List V) (r : V) (o : VH) : Bool → Option (V × VH)
  | true => vland3 h (vren (fun i => some (h.length + i)) 4 r) (omap (vshO h.length) o)
  | false => vland3 (roM h (argRefs h args)) (vren (fun i => some (h.length + i)) 4 r) (omap (vshO h.length) o)
def vland (h : VH) (args : List V) : Option (V × VH) → Option (V × VH)
  | some (r, o) => vland2 h args r o (V.noFz 4 r && o.all VO.noFz)
  | none => none
def vpure1 (K : Kn) (call : CallV) (g : FuncId) (args : List V) (h : VH) : Option (List V) → Option (V × VH)
  | some fa => vland h args (call g (vnrmAs (K.args g) fa) [])
  | none => none
def vpure (K : Kn) (call : CallV) (g : FuncId) (args : List V) (h : VH) : Option (V × VH) := vpure1 K call g args h (omap (vfrz h 6) args)
/-- A call whose result may be a cut of an argument: it writes into nothing that it is given. -/
def vaback (h : VH) : Option (V × VH) → Option (V × VH)
  | some (r, h') => if (V.noFz 4 r && (h'.drop h.length).all VO.noFz) = true then some (r, h ++ h'.drop h.length) else none
  | none => none
def vcall3 (K : Kn) (call : CallV) (g : FuncId) (args : List V) (h : VH) : Bool → Option (V × VH)
  | true => vaback h (call g args (h.map VO.ro))
  | false => vpure K call g args h
def vcall2 (K : Kn) (call : CallV) (g : FuncId) (args : List V) (h : VH) : Bool → Option (V × VH)
  | true => vcall3 K call g args h (K.ali g)
  | false => call g args h
def vcallF (K : Kn) (call : CallV) (h : VH) (g : FuncId) : Option (List V) → Option (V × VH)
  | some args => vcall2 K call g args h (K.cf.pure g)
  | none => none
def vcallV (K : Kn) (call : CallV) (h : VH) : Option V → Option (List V) → Option (V × VH)
  | some (.fn (.func g) first captured), some args => if K.cf.pure g = true ∧ K.ali g = false then vpure K call g (first ++ args ++ captured) h else none
  | _, _ => none
def vlen1 (P : Program) (t : Option TypeId) : Option (List V) → Option V
  | some args => vlenA P t args
  | none => none
def vapp9 (P : Program) (sT xT : Option TypeId) (h : VH) (args : List V) : Bool → Option (V × VH)
  | true => vappend P sT xT h args
  | false => none
def vapp0 (b : AK) (P : Program) (sT xT : Option TypeId) (h : VH) : Option (List V) → Option (V × VH)
  | some args => vapp9 P sT xT h args (vpapp b args)
  | none => none
/-! copy, of elements of one cell -/
def V.notStr : V → Bool
  | .str _ => false
  | _ => true
def vcopy4 (h : VH) (i n : Nat) : Option VO → Option (V × VH)
  | some y => some (.int .i64 n, h.set i y)
  | none => none
def vcopy3 (i off len : Nat) (h : VH) : Option (VO × Nat) → Option (V × VH)
  | some r => if min r.2 len = 0 then some (.int .i64 0, h) else if r.1.cells.length = r.2 then vcopy4 h i (min r.2 len) (vsets h[i]? off (r.1.cells.take (min r.2 len))) else none
  | none => none
def vcopy2 (P : Program) (i off len : Nat) (h : VH) (s : V) : Option TypeId → Option (V × VH)
  | some el => if sizeT P el = some 1 ∧ s.notStr = true then vcopy3 i off len h (vsrc (kindOf P el) 1 h s) else none
  | none => none
def vcopy1 (P : Program) (h : VH) : Option TypeId → List V → Option (V × VH)
  | some t, [.sl i off len sz, s] => if sz = 1 then vcopy2 P i off len h s (elemS P t) else none
  | _, _ => none
def vcopy0 (P : Program) (h : VH) (t : Option TypeId) : Option (List V) → Option (V × VH)
  | some args => vcopy1 P h t args
  | none => none
def vmm (mx : Bool) : Option (List V) → Option V
  | some args => vminmax mx args
  | none => none
def vCall (P : Program) (K : Kn) (call : CallV) (e : VE) (h : VH) (c : Call) : Option (V × VH) :=
  match c.callee with
  | .value (.func g) => vcallF K call h g (vevs K e c.args.toList)
  | .value (.tmp t) => vcallV K call h (vget e t) (vevs K e c.args.toList)
  | .builtin .len => vres (vlen1 P c.argTypes[0]? (vevs K e c.args.toList)) h
  | .builtin .append => vapp0 (K.cf.papp c.args) P c.argTypes[0]? c.argTypes[1]? h (vevs K e c.args.toList)
  | .builtin .copy => vcopy0 P h c.argTypes[0]? (vevs K e c.args.toList)
  | .builtin .max => vres (vmm true (vevs K e c.args.toList)) h
  | .builtin .min => vres (vmm false (vevs K e c.args.toList)) h
  | _ => none

def vOp (P : Program) (K : Kn) (call : CallV) (e : VE) (h : VH) : Op → Option (V × VH)
  | .move x => vres (vev K e x) h
  | .assign x => vres (vev K e x) h
  | .pick c a b => vres (vpick (vev K e c) (vev K e a) (vev K e b)) h
  | .alloc t => valloc (toV? (zeroT P t)) h
  | .box _ x => valloc (vev K e x) h
  | .build t parts => vres (vbuild P t (vparts K e parts.toList)) h
  | .buildSlice t len parts => vbslice2 P (K.cf.emt t) len h (elemS P t) (vparts K e parts.toList)
  | .load t a => vres (vload P t h (vev K e a)) h
  | .store t a x => vstore P t h (vev K e a) (vev K e x)
  | .nilCheck x => vres (vnlc (vev K e x)) h
  | .binOp op t x y _ => vres (vbin P op t (vev K e x) (vev K e y)) h
  | .unOp op _ x => vres (vun op (vev K e x)) h
  | .convert s d x => vconv P s d h (vev K e x)
  | .makeFunc f first captured => vres (vfn f (vevs K e first.toList) (vevs K e captured.toList)) h
  | .makeSlice t l c => vmake P t h (vev K e l) (vev K e c)
  | .slice t x lo hi none => vres (vslice P K t e lo hi (vev K e x)) h
  | .fieldAddr t x f => vres (vfieldAddr P t f (vev K e x)) h
  | .field t x f => vres (vfield P t f (vev K e x)) h
  | .indexAddr t x ix => vres (vindexAddr P t (vev K e x) (vev K e ix)) h
  | .index t x ix => vres (vindex P t (vev K e x) (vev K e ix)) h
  | .extract x i => vres (vextract (vev K e x) i) h
  | .call c => vCall P K call e h c
  | _ => none

def vwantV : Option V → Bool → Option Bool
  | some (.bool b), w => some (b == w)
  | some (.tup []), _ => some false
  | _, _ => none
def vgetO (e : VE) : Option Nat → Option V
  | some d => vget e d
  | none => none
def vwant (ops : Array Oper) (e : VE) (o : Oper) : Option Bool :=
  match o.guard with
  | none => some true
  | some (g, w) => vwantV (vgetO e ((ops[g]?).bind (·.dst))) w

def vOps (P : Program) (K : Kn) (call : CallV) (ops : Array Oper) : List Oper → VE → VH → Option (VE × VH)
  | [], e, h => some (e, h)
  | o :: r, e, h => (vwant ops e o).bind fun b =>
    if b then (vOp P K call e h o.op).bind fun x => vOps P K call ops r (vput o.dst x.1 e) x.2
    else vOps P K call ops r (vput o.dst (.tup []) e) h

/-- What an operation changes of what there is; what it reads. -/
def vmodA : Option (List V) → Option (List Nat)
  | some [.sl i _ _ _, _] => some [i]
  | some [.nil, _] => some []
  | _ => none
def vmodS : Option V → Option (List Nat)
  | some (.ptr i _) => some [i]
  | _ => none
def vmodB : Bool → Option (List Nat)
  | true => some []
  | false => none
def vmodI (K : Kn) (e : VE) : Op → Option (List Nat)
  | .store _ a _ => vmodS (vev K e a)
  | .call c => match c.callee with
    | .builtin .append => vmodA (vevs K e c.args.toList)
    | .builtin .copy => none
    | .builtin _ => some []
    | .value (.func g) => vmodB (K.cf.pure g)
    | .value _ => some []
    | _ => none
  | _ => some []
/-- A call that writes: does it go through with what has been read made read-only? -/
def vsafe (call : CallV) (g : FuncId) (args : List V) (h : VH) : List Nat → Bool
  | [] => true
  | i :: r => (call g args (h.modify i VO.ro)).isSome && vsafe call g args h r
def vsafe1 (call : CallV) (g : FuncId) (h : VH) (pend : List Nat) : Option (List V) → Option (List Nat)
  | some args => vmodB (vsafe call g args h pend)
  | none => none
def vimp (K : Kn) (call : CallV) (e : VE) (h : VH) (pend : List Nat) : Op → Option (List Nat)
  | .call c => match c.callee with
    | .value (.func g) => vsafe1 call g h pend (vevs K e c.args.toList)
    | _ => none
  | _ => none
def vmJ (d : Option (List Nat)) : Option (List Nat) → Option (List Nat)
  | some m => some m
  | none => d
def vmodJ (K : Kn) (call : CallV) (e : VE) (h : VH) (pend : List Nat) (op : Op) : Option (List Nat) := vmJ (vimp K call e h pend op) (vmodI K e op)
def vldS : Option V → Option (List Nat)
  | some (.ptr i _) => some [i]
  | some (.fptr _) => some []
  | _ => none
def vldI (K : Kn) (e : VE) : Op → Option (List Nat)
  | .load _ a => vldS (vev K e a)
  | _ => some []
def V.self : V → Bool
  | .str _ => false
  | .fn _ _ _ => false
  | .tup _ => false
  | .np => false
  | .em => false
  | .agg l => l.all fun v => match v with
    | .str _ => false
    | .fn _ _ _ => false
    | .em => false
    | _ => true
  | _ => true
def vldOK (v : V) : Op → Bool
  | .load _ _ => v.self
  | _ => true
def vst3 (pend : List Nat) (ok : Bool) (F : List Nat → Bool) : Option (List Nat) → Option (List Nat) → Bool
  | some m, some l => (m.all fun i => !pend.contains i) && (ok && F (l ++ pend))
  | _, _ => false
/-- In a region that is carried out in any order: what has been read is not changed later. -/
def vstdy (P : Program) (K : Kn) (call : CallV) (ops : Array Oper) : List Oper → VE → VH → List Nat → Bool
  | [], _, _, _ => true
  | o :: r, e, h, pend => match vwant ops e o with
    | some true => match vOp P K call e h o.op with
      | some (v, h') => vst3 pend (vldOK v o.op) (vstdy P K call ops r (vput o.dst v e) h') (vmodJ K call e h pend o.op) (vldI K e o.op)
      | none => false
    | some false => vstdy P K call ops r (vput o.dst (.tup []) e) h pend
    | none => false

/-- A region's end. -/
def vEnd1 (g : Bool) (r : VE × VH) : Option (VE × VH) := match g with
  | true => vgc r.1 r.2
  | false => some r
def vEnd (K : Kn) (f : FuncId) (id : Nat) (e : VE) (h : VH) : Option (VE × VH) :=
  vEnd1 (K.gc f) (vnobE (K.nils f) (vkeep (K.cf.keep f id) e) h)

def viter (body : VE → VH → Option (AX × VE × VH)) : Nat → VE → VH → Option (AX × VE × VH)
  | 0, _, _ => none
  | n + 1, e, h => (body e h).bind fun r => match r.1 with | .norm => viter body n r.2.1 r.2.2 | x => some (x, r.2)

def vCode (P : Program) (K : Kn) (call : CallV) (f : FuncId) : Code → VE → VH → Option (AX × VE × VH)
  | .skip, e, h => some (.norm, e, h)
  | .region id ops d, e, h => if (d && K.cf.wary f id && !vstdy P K call ops (regL K.cf f id d ops.toList) e h []) = true then none else (vOps P K call ops (regL K.cf f id d ops.toList) e h).bind fun r => (vEnd K f id r.1 r.2).map fun r => (.norm, r)
  | .seq a b, e, h => (vCode P K call f a e h).bind fun r => match r.1 with | .norm => vCode P K call f b r.2.1 r.2.2 | x => some (x, r.2)
  | .cond c a b, e, h => (vev K e c).bind fun v => match v with | .bool t => if t then vCode P K call f a e h else vCode P K call f b e h | _ => none
  | .block id c, e, h => (vCode P K call f c e h).map fun r => match r.1 with | .exit id' => if id' = id then (.norm, r.2) else r | _ => r
  | .loop c, e, h => viter (vCode P K call f c) K.cf.rounds e h
  | .exit id, e, h => some (.exit id, e, h)
  | .ret, e, h => some (.ret, e, h)
  | .label _, e, h => some (.norm, e, h)
  | _, _, _ => none

def vresult (P : Program) (e : VE) (h : VH) : ResultVar → Option V
  | .tmp t => vget e t
  | .cell a t => vload P t h (vget e a)
def vtup : List V → V
  | [v] => v
  | vs => .tup vs
def vgcLBy (o : List Nat) (vs : List V) (h : VH) : Option (List V × VH) := if o.Nodup then vtwo (omap (vren (idxN o) 4) vs) (omap (vpickO (idxN o) h) o) else none
def vgcL (vs : List V) (h : VH) : Option (List V × VH) := match h with
  | [] => some (vs, [])
  | _ => vgcLBy (reach h 3 (addNs [] (vs.flatMap (vrefs 4)))) vs h
def vlv3 (r : Option (List V × VH)) : Option (V × VH) := match r with
  | some (vs, h) => some (vtup vs, h)
  | none => none
/-- What a result's slice is a beginning of is cut there. -/
def VO.cut (n : Nat) : VO → VO
  | .ints w k l => .ints w k (l.take n)
  | o => o
def vcutR (h : VH) : List V → VH
  | [] => h
  | .sl i 0 len 1 :: r => vcutR (h.modify i (VO.cut len)) r
  | _ :: r => vcutR h r
def vcells : List V → List V
  | [] => []
  | v :: r => v.cs ++ vcells r
def vlv2 (g : Bool) (r : List V × VH) : Option (V × VH) := match g with
  | true => vlv3 (vgcL r.1 (vcutR r.2 (vcells r.1)))
  | false => some (vtup r.1, r.2)
def vlv1 (ks : List (List (Option NK))) : Option (List V) → Option (V × VH)
  | some vs => some (vtup (vnrmAs ks vs), [])
  | none => none
def vLeave (K : Kn) (f : FuncId) (h : VH) : Option (List V) → Option (V × VH)
  | some vs => (match K.out f with
    | .inl => some (vtup vs, h)
    | .frz ks => vlv1 ks (omap (vfrz h 6) vs)
    | .own ks => vlv2 (K.gc f) (vnobAs ks vs h))
  | none => none

def ventry : List V → Nat → VE
  | [], _ => []
  | v :: r, i => (i, some v) :: ventry r (i + 1)
def vBody (P : Program) (K : Kn) (call : CallV) (f : FuncId) (args : List V) (h : VH) : Option (V × VH) :=
  (P.funcs[f]?).bind fun fn => (fn.body).bind fun c =>
    (vCode P K call f c (ventry args 0) h).bind fun r => match r.1 with
      | .exit _ => none
      | _ => vLeave K f r.2.2 (omap (vresult P r.2.1 r.2.2) fn.results.toList)

def vclone (k : IntKind) (h : VH) : List V → Option (V × VH)
  | [a] => (match vrdI k h a with
    | some l => if l.length ≤ 1000000000000 then some (.sl h.length 0 l.length 1, h ++ [.ints true k l]) else none
    | none => none)
  | _ => none
def vrun (P : Program) (K : Kn) : Nat → CallV
  | 0, _, _, _ => none
  | d + 1, f, args, h => match K.cf.clone f, K.cf.pack f with
    | some k, _ => vclone k h args
    | none, .whole => vBody P K (vrun P K d) f args h
    | none, _ => none
end Go.Eng
end
section
/- The value engine: what its values stand for in the engine's heap. No conditions. -/
namespace Go.Eng

mutual
def VR (Z : Nat → Prop) (h : AH) : (Nat → Option Nat) → V → CV → Prop
  | _, .bool b, c => c = .bool b
  | _, .int k n, c => c = .int k n
  | _, .str s, c => c = .str s
  | _, .nil, c => c = .nil
  | _, .ints k l, c => (c = .nil ∧ l = []) ∨ ∃ j off m, c = .sl j off l.length 1 ∧ Z j ∧ h[j]? = some (.ints k m) ∧ off + l.length ≤ m.length ∧ l = (m.drop off).take l.length
  | _, .cells sz n l, c => (c = .nil ∧ n = 0 ∧ l = []) ∨ ∃ j off m, c = .sl j off n sz ∧ Z j ∧ h[j]? = some (.vals m) ∧ off + n * sz ≤ m.length ∧ VRs Z h (fun _ => none) l ((m.drop off).take (n * sz))
  | _, .fptr l, c => ∃ j off o, c = .ptr j off ∧ Z j ∧ h[j]? = some o ∧ off + l.length ≤ o.cells.length ∧ VRs Z h (fun _ => none) l ((o.cells.drop off).take l.length)
  | ν, .sl i off len sz, c => (len = 0 ∧ c = .nil) ∨ ∃ j, ν i = some j ∧ c = .sl j off len sz
  | ν, .ptr i off, c => ∃ j, ν i = some j ∧ c = .ptr j off
  | ν, .fn f a b, c => ∃ a' b', c = .fn f a' b' ∧ VRs Z h ν a a' ∧ VRs Z h ν b b'
  | _, .agg _, _ => False
  | _, .tup _, _ => False
  | _, .np, _ => False
  | _, .em, c => c = .em
def VRs (Z : Nat → Prop) (h : AH) : (Nat → Option Nat) → List V → List CV → Prop
  | _, [], cs => cs = []
  | ν, v :: r, cs => ∃ c r', cs = c :: r' ∧ VR Z h ν v c ∧ VRs Z h ν r r'
end

mutual
def VA' (Z : Nat → Prop) (h : AH) (ν : Nat → Option Nat) : V → AV → Prop
  | .agg l, a => ∃ cs, a = .agg cs ∧ VRs Z h ν l cs
  | .tup l, a => ∃ as, a = .tup as ∧ VAs' Z h ν l as
  | .bool b, a => ∃ c, a = .c c ∧ VR Z h ν (.bool b) c
  | .int k n, a => ∃ c, a = .c c ∧ VR Z h ν (.int k n) c
  | .str s, a => ∃ c, a = .c c ∧ VR Z h ν (.str s) c
  | .nil, a => ∃ c, a = .c c ∧ VR Z h ν .nil c
  | .ints k l, a => ∃ c, a = .c c ∧ VR Z h ν (.ints k l) c
  | .cells sz n l, a => ∃ c, a = .c c ∧ VR Z h ν (.cells sz n l) c
  | .fptr l, a => ∃ c, a = .c c ∧ VR Z h ν (.fptr l) c
  | .sl i off len sz, a => ∃ c, a = .c c ∧ VR Z h ν (.sl i off len sz) c
  | .ptr i off, a => ∃ c, a = .c c ∧ VR Z h ν (.ptr i off) c
  | .fn f p q, a => ∃ c, a = .c c ∧ VR Z h ν (.fn f p q) c
  | .np, a => a = .np
  | .em, a => ∃ c, a = .c c ∧ VR Z h ν .em c
def VAs' (Z : Nat → Prop) (h : AH) (ν : Nat → Option Nat) : List V → List AV → Prop
  | [], as => as = []
  | v :: r, as => ∃ a r', as = a :: r' ∧ VA' Z h ν v a ∧ VAs' Z h ν r r'
end

section
variable {Z Z' : Nat → Prop} {h h' : AH} {ν ν' : Nat → Option Nat} {K : Kn} {G : Nat → Prop}

theorem VA'.atom {v : V} (hv : v.atom = true) {a : AV} : VA' Z h ν v a ↔ ∃ c, a = .c c ∧ VR Z h ν v c := by
  cases v <;> first | (simp [V.atom] at hv; done) | exact Iff.rfl
theorem VA'.of {v : V} {c : CV} (hr : VR Z h ν v c) : VA' Z h ν v (.c c) := by
  cases v <;> first | exact ⟨c, rfl, hr⟩ | (simp only [VR] at hr)
theorem VR.atom {v : V} {c : CV} (hr : VR Z h ν v c) : v.atom = true := by
  cases v <;> first | rfl | (simp only [VR] at hr)
theorem VA'.inv {v : V} {c : CV} (ha : VA' Z h ν v (.c c)) : VR Z h ν v c := by
  cases v <;> first | (simp only [VA'] at ha; obtain ⟨x, e, hr⟩ := ha; cases e; exact hr) | (simp only [VA'] at ha; obtain ⟨x, e, hr⟩ := ha; cases e; done) | (cases ha; done)

/-! ### lists -/
theorem VRs_iff : ∀ {l : List V} {cs : List CV}, VRs Z h ν l cs ↔ l.length = cs.length ∧ ∀ (i : Nat) (v : V) (c : CV), l[i]? = some v → cs[i]? = some c → VR Z h ν v c
  | [], cs => by
    simp only [VRs, List.length_nil]
    constructor
    · rintro rfl; simp
    · rintro ⟨e, _⟩; exact List.eq_nil_of_length_eq_zero e.symm
  | v :: r, cs => by
    simp only [VRs]
    constructor
    · rintro ⟨c, r', rfl, h1, h2⟩
      obtain ⟨e, h3⟩ := (VRs_iff (l := r) (cs := r')).1 h2
      refine ⟨by simp [e], fun i x y hx hy => ?_⟩
      cases i with
      | zero => simp at hx hy; subst hx; subst hy; exact h1
      | succ i => simp at hx hy; exact h3 i x y hx hy
    · rintro ⟨e, h3⟩
      cases cs with
      | nil => simp at e
      | cons c r' =>
        refine ⟨c, r', rfl, h3 0 v c (by simp) (by simp), (VRs_iff (l := r) (cs := r')).2 ⟨by simpa using e, fun i x y hx hy => h3 (i + 1) x y (by simpa using hx) (by simpa using hy)⟩⟩

theorem VRs.length {l : List V} {cs : List CV} (hr : VRs Z h ν l cs) : l.length = cs.length := (VRs_iff.1 hr).1
theorem VRs.get {l : List V} {cs : List CV} (hr : VRs Z h ν l cs) {i : Nat} {v : V} (hv : l[i]? = some v) : ∃ c, cs[i]? = some c ∧ VR Z h ν v c := by
  obtain ⟨e, h3⟩ := VRs_iff.1 hr
  have hi := (List.getElem?_eq_some_iff.1 hv).1
  have : cs[i]? = some cs[i] := List.getElem?_eq_getElem (by omega)
  exact ⟨_, this, h3 i v _ hv this⟩
theorem VRs.drop {l : List V} {cs : List CV} (hr : VRs Z h ν l cs) (n : Nat) : VRs Z h ν (l.drop n) (cs.drop n) := by
  obtain ⟨e, h3⟩ := VRs_iff.1 hr
  exact VRs_iff.2 ⟨by simp [e], fun i v c hv hc => h3 (n + i) v c (by simpa using hv) (by simpa using hc)⟩
theorem VRs.take {l : List V} {cs : List CV} (hr : VRs Z h ν l cs) (n : Nat) : VRs Z h ν (l.take n) (cs.take n) := by
  obtain ⟨e, h3⟩ := VRs_iff.1 hr
  refine VRs_iff.2 ⟨by simp [e], fun i v c hv hc => ?_⟩
  by_cases hi : i < n
  · rw [List.getElem?_take_of_lt hi] at hv hc; exact h3 i v c hv hc
  · rw [List.getElem?_take_eq_none (by omega)] at hv; simp at hv
theorem VRs.append {l l2 : List V} {cs cs2 : List CV} (hr : VRs Z h ν l cs) (h2 : VRs Z h ν l2 cs2) : VRs Z h ν (l ++ l2) (cs ++ cs2) := by
  obtain ⟨e, h3⟩ := VRs_iff.1 hr
  obtain ⟨e', h3'⟩ := VRs_iff.1 h2
  refine VRs_iff.2 ⟨by simp [e, e'], fun i v c hv hc => ?_⟩
  by_cases hi : i < l.length
  · rw [List.getElem?_append_left hi] at hv; rw [List.getElem?_append_left (by omega)] at hc; exact h3 i v c hv hc
  · rw [List.getElem?_append_right (by omega)] at hv hc; rw [← e] at hc; exact h3' _ v c hv hc
theorem VRs.set {l : List V} {cs : List CV} (hr : VRs Z h ν l cs) {v : V} {c : CV} (hv : VR Z h ν v c) (n : Nat) : VRs Z h ν (l.set n v) (cs.set n c) := by
  obtain ⟨e, h3⟩ := VRs_iff.1 hr
  refine VRs_iff.2 ⟨by simp [e], fun i x y hx hy => ?_⟩
  by_cases hi : n = i
  · subst hi
    have hl : n < l.length := by have := (List.getElem?_eq_some_iff.1 hx).1; simpa using this
    rw [List.getElem?_set_self hl] at hx; rw [List.getElem?_set_self (by omega)] at hy
    cases hx; cases hy; exact hv
  · rw [List.getElem?_set_ne hi] at hx hy; exact h3 i x y hx hy
theorem VRs.ints (k : IntKind) (l : List Int) : VRs Z h ν (l.map (.int k)) (l.map (.int k)) := by
  refine VRs_iff.2 ⟨by simp, fun i x y hx hy => ?_⟩
  rw [List.getElem?_map] at hx hy
  cases hl : l[i]? with
  | none => rw [hl] at hx; simp at hx
  | some n => rw [hl] at hx hy; cases hx; cases hy; simp only [VR]
theorem VRs.rep {cs : List V} {cs' : List CV} (hr : VRs Z h ν cs cs') : ∀ n, VRs Z h ν (vreps n cs) (reps n cs')
  | 0 => by simp [vreps, reps, VRs]
  | n + 1 => by
    have := VRs.rep hr n
    unfold vreps reps at *
    rw [List.replicate_succ, List.replicate_succ, List.flatten_cons, List.flatten_cons]
    exact hr.append this

/-! ### what stays -/
mutual
theorem VR.mono0 (hZ : ∀ j, Z j → Z' j) (hh : ∀ j, Z j → h'[j]? = h[j]?) : ∀ {v : V} {c : CV}, VR Z h (fun _ => none) v c → VR Z' h' (fun _ => none) v c
  | .bool _, _, hr => hr
  | .int _ _, _, hr => hr
  | .str _, _, hr => hr
  | .nil, _, hr => hr
  | .em, _, hr => hr
  | .ints _ _, _, hr => by
    simp only [VR] at hr ⊢
    exact hr.imp id fun ⟨j, off, m, h1, h2, h3, h4⟩ => ⟨j, off, m, h1, hZ j h2, by rw [hh j h2]; exact h3, h4⟩
  | .cells _ _ l, _, hr => by
    simp only [VR] at hr ⊢
    exact hr.imp id fun ⟨j, off, m, h1, h2, h3, h4, h5⟩ => ⟨j, off, m, h1, hZ j h2, by rw [hh j h2]; exact h3, h4, VRs.mono0 hZ hh h5⟩
  | .fptr l, _, hr => by
    simp only [VR] at hr ⊢
    obtain ⟨j, off, m, h1, h2, h3, h4, h5⟩ := hr
    exact ⟨j, off, m, h1, hZ j h2, by rw [hh j h2]; exact h3, h4, VRs.mono0 hZ hh h5⟩
  | .sl i off len sz, _, hr => hr
  | .ptr i off, _, hr => hr
  | .fn f a b, _, hr => by
    simp only [VR] at hr ⊢
    obtain ⟨a', b', h1, h2, h3⟩ := hr
    exact ⟨a', b', h1, VRs.mono0 hZ hh h2, VRs.mono0 hZ hh h3⟩
  | .agg _, _, hr => by simp only [VR] at hr
  | .tup _, _, hr => by simp only [VR] at hr
theorem VRs.mono0 (hZ : ∀ j, Z j → Z' j) (hh : ∀ j, Z j → h'[j]? = h[j]?) : ∀ {l : List V} {cs : List CV}, VRs Z h (fun _ => none) l cs → VRs Z' h' (fun _ => none) l cs
  | [], _, hr => hr
  | v :: r, _, hr => by
    simp only [VRs] at hr ⊢
    obtain ⟨c, r', h1, h2, h3⟩ := hr
    exact ⟨c, r', h1, VR.mono0 hZ hh h2, VRs.mono0 hZ hh h3⟩
end
mutual
theorem VR.mono (hν : ∀ i j, ν i = some j → ν' i = some j) (hZ : ∀ j, Z j → Z' j) (hh : ∀ j, Z j → h'[j]? = h[j]?) : ∀ {v : V} {c : CV}, VR Z h ν v c → VR Z' h' ν' v c
  | .bool _, _, hr => hr
  | .int _ _, _, hr => hr
  | .str _, _, hr => hr
  | .nil, _, hr => hr
  | .em, _, hr => hr
  | .ints _ _, _, hr => by
    simp only [VR] at hr ⊢
    exact hr.imp id fun ⟨j, off, m, h1, h2, h3, h4⟩ => ⟨j, off, m, h1, hZ j h2, by rw [hh j h2]; exact h3, h4⟩
  | .cells _ _ l, _, hr => by
    simp only [VR] at hr ⊢
    exact hr.imp id fun ⟨j, off, m, h1, h2, h3, h4, h5⟩ => ⟨j, off, m, h1, hZ j h2, by rw [hh j h2]; exact h3, h4, VRs.mono0 hZ hh h5⟩
  | .fptr l, _, hr => by
    simp only [VR] at hr ⊢
    obtain ⟨j, off, m, h1, h2, h3, h4, h5⟩ := hr
    exact ⟨j, off, m, h1, hZ j h2, by rw [hh j h2]; exact h3, h4, VRs.mono0 hZ hh h5⟩
  | .sl i off len sz, _, hr => by
    simp only [VR] at hr ⊢
    exact hr.imp id fun ⟨j, h1, h2⟩ => ⟨j, hν _ _ h1, h2⟩
  | .ptr i off, _, hr => by
    simp only [VR] at hr ⊢
    obtain ⟨j, h1, h2⟩ := hr
    exact ⟨j, hν _ _ h1, h2⟩
  | .fn f a b, _, hr => by
    simp only [VR] at hr ⊢
    obtain ⟨a', b', h1, h2, h3⟩ := hr
    exact ⟨a', b', h1, VRs.mono hν hZ hh h2, VRs.mono hν hZ hh h3⟩
  | .agg _, _, hr => by simp only [VR] at hr
  | .tup _, _, hr => by simp only [VR] at hr
theorem VRs.mono (hν : ∀ i j, ν i = some j → ν' i = some j) (hZ : ∀ j, Z j → Z' j) (hh : ∀ j, Z j → h'[j]? = h[j]?) : ∀ {l : List V} {cs : List CV}, VRs Z h ν l cs → VRs Z' h' ν' l cs
  | [], _, hr => hr
  | v :: r, _, hr => by
    simp only [VRs] at hr ⊢
    obtain ⟨c, r', h1, h2, h3⟩ := hr
    exact ⟨c, r', h1, VR.mono hν hZ hh h2, VRs.mono hν hZ hh h3⟩
end

mutual
theorem VA'.mono (hν : ∀ i j, ν i = some j → ν' i = some j) (hZ : ∀ j, Z j → Z' j) (hh : ∀ j, Z j → h'[j]? = h[j]?) : ∀ {v : V} {a : AV}, VA' Z h ν v a → VA' Z' h' ν' v a
  | .agg l, _, ha => by simp only [VA'] at ha ⊢; obtain ⟨cs, e, hr⟩ := ha; exact ⟨cs, e, hr.mono hν hZ hh⟩
  | .tup l, _, ha => by simp only [VA'] at ha ⊢; obtain ⟨cs, e, hr⟩ := ha; exact ⟨cs, e, VAs'.mono hν hZ hh hr⟩
  | .bool _, _, ha => by simp only [VA'] at ha ⊢; obtain ⟨c, e, hr⟩ := ha; exact ⟨c, e, hr.mono hν hZ hh⟩
  | .int _ _, _, ha => by simp only [VA'] at ha ⊢; obtain ⟨c, e, hr⟩ := ha; exact ⟨c, e, hr.mono hν hZ hh⟩
  | .str _, _, ha => by simp only [VA'] at ha ⊢; obtain ⟨c, e, hr⟩ := ha; exact ⟨c, e, hr.mono hν hZ hh⟩
  | .nil, _, ha => by simp only [VA'] at ha ⊢; obtain ⟨c, e, hr⟩ := ha; exact ⟨c, e, hr.mono hν hZ hh⟩
  | .ints _ _, _, ha => by simp only [VA'] at ha ⊢; obtain ⟨c, e, hr⟩ := ha; exact ⟨c, e, hr.mono hν hZ hh⟩
  | .cells _ _ _, _, ha => by simp only [VA'] at ha ⊢; obtain ⟨c, e, hr⟩ := ha; exact ⟨c, e, hr.mono hν hZ hh⟩
  | .fptr _, _, ha => by simp only [VA'] at ha ⊢; obtain ⟨c, e, hr⟩ := ha; exact ⟨c, e, hr.mono hν hZ hh⟩
  | .sl _ _ _ _, _, ha => by simp only [VA'] at ha ⊢; obtain ⟨c, e, hr⟩ := ha; exact ⟨c, e, hr.mono hν hZ hh⟩
  | .ptr _ _, _, ha => by simp only [VA'] at ha ⊢; obtain ⟨c, e, hr⟩ := ha; exact ⟨c, e, hr.mono hν hZ hh⟩
  | .fn _ _ _, _, ha => by simp only [VA'] at ha ⊢; obtain ⟨c, e, hr⟩ := ha; exact ⟨c, e, hr.mono hν hZ hh⟩
  | .np, _, ha => ha
  | .em, _, ha => by simp only [VA'] at ha ⊢; obtain ⟨c, e, hr⟩ := ha; exact ⟨c, e, hr.mono hν hZ hh⟩
theorem VAs'.mono (hν : ∀ i j, ν i = some j → ν' i = some j) (hZ : ∀ j, Z j → Z' j) (hh : ∀ j, Z j → h'[j]? = h[j]?) : ∀ {l : List V} {as : List AV}, VAs' Z h ν l as → VAs' Z' h' ν' l as
  | [], _, hr => hr
  | v :: r, _, hr => by
    simp only [VAs'] at hr ⊢
    obtain ⟨c, r', h1, h2, h3⟩ := hr
    exact ⟨c, r', h1, VA'.mono hν hZ hh h2, VAs'.mono hν hZ hh h3⟩
end

/-- The cells of a value. -/
theorem VA'.cells {v : V} {a : AV} (ha : VA' Z h ν v a) (ho : v.one = true) : a.one = true ∧ VRs Z h ν v.cs a.cells := by
  by_cases hv : v.atom = true
  · obtain ⟨c, rfl, hr⟩ := (VA'.atom hv).1 ha
    refine ⟨rfl, ?_⟩
    have : v.cs = [v] := by cases v <;> first | rfl | (simp [V.atom] at hv)
    rw [this]; simp only [VRs, AV.cells]; exact ⟨c, [], rfl, hr, rfl⟩
  · cases v <;> first | (simp [V.atom] at hv; done) | (simp [V.one] at ho; done) | skip
    simp only [VA'] at ha
    obtain ⟨cs, rfl, hr⟩ := ha
    exact ⟨rfl, hr⟩

theorem tda {α : Type} {l m : List α} {off n : Nat} (h : off + n ≤ l.length) : ((l ++ m).drop off).take n = (l.drop off).take n := by
  rw [List.drop_append_of_le_length (by omega), List.take_append_of_le_length (by rw [List.length_drop]; omega)]

/-! ### the heap -/
def OR (Z : Nat → Prop) (h : AH) (ν : Nat → Option Nat) (j : Nat) : VO → Prop
  | .ints w k l => (w = true → ¬ Z j) ∧ (w = false → Z j) ∧ ∃ m, h[j]? = some (.ints k (l ++ m))
  | .vals w l => (w = true → ¬ Z j) ∧ (w = false → Z j) ∧ ∃ l' m, h[j]? = some (.vals (l' ++ m)) ∧ VRs Z h ν l l'
  | .dead => True

structure HR (K : Kn) (G Z : Nat → Prop) (h : AH) (fl : Nat) (ν : Nat → Option Nat) (hV : VH) : Prop where
  dom : ∀ i j, ν i = some j → i < hV.length ∧ (fl ≤ j ∨ G j) ∧ j < h.length
  obj : ∀ i j x, ν i = some j → hV[i]? = some x → OR Z h ν j x
  inj : ∀ i i' j, ν i = some j → ν i' = some j → i = i'
  zlt : ∀ j, Z j → j < h.length
  gz : ∀ j, G j → Z j
  gl : ∀ g v, K.glob g = some v → ∃ c, K.cf.glob g = some c ∧ VR Z h (fun _ => none) v c

structure Ext (K : Kn) (G : Nat → Prop) (fl n0 : Nat) (Z : Nat → Prop) (h : AH) (ν : Nat → Option Nat) (Z' : Nat → Prop) (h' : AH) (ν' : Nat → Option Nat) (hV' : VH) : Prop where
  hr : HR K G Z' h' fl ν' hV'
  len : h.length ≤ h'.length
  vlen : n0 ≤ hV'.length
  nu : ∀ i, i < n0 → ν' i = ν i
  zle : ∀ j, Z j → Z' j
  keep : ∀ j, Z j → h'[j]? = h[j]?
  znew : ∀ j, Z' j → Z j ∨ fl ≤ j

theorem Ext.refl {fl n0 : Nat} {hV : VH} (hr : HR K G Z h fl ν hV) (hn : n0 ≤ hV.length) : Ext K G fl n0 Z h ν Z h ν hV :=
  ⟨hr, Nat.le_refl _, hn, fun _ _ => rfl, fun _ x => x, fun _ _ => rfl, fun _ x => .inl x⟩
theorem Ext.trans {fl n0 n1 : Nat} {Z1 Z2 : Nat → Prop} {h1 h2 : AH} {ν1 ν2 : Nat → Option Nat} {hV1 hV2 : VH} (a : Ext K G fl n0 Z h ν Z1 h1 ν1 hV1) (b : Ext K G fl n1 Z1 h1 ν1 Z2 h2 ν2 hV2) (hn : n0 ≤ n1) : Ext K G fl n0 Z h ν Z2 h2 ν2 hV2 where
  hr := b.hr
  len := Nat.le_trans a.len b.len
  vlen := Nat.le_trans hn b.vlen
  nu i hi := (b.nu i (by omega)).trans (a.nu i hi)
  zle j hj := b.zle j (a.zle j hj)
  keep j hj := (b.keep j (a.zle j hj)).trans (a.keep j hj)
  znew j hj := (b.znew j hj).elim (fun x => a.znew j x) .inr
theorem Ext.le {fl n0 : Nat} {hV hV' : VH} (a : Ext K G fl n0 Z h ν Z' h' ν' hV') (hr : HR K G Z h fl ν hV) (hn : hV.length ≤ n0) : ∀ i j, ν i = some j → ν' i = some j := fun i j hi => by
  rw [a.nu i (by have := (hr.dom i j hi).1; omega)]; exact hi

theorem HR.wfl {fl : Nat} {hV : VH} (hr : HR K G Z h fl ν hV) {i j : Nat} {x : VO} (hi : ν i = some j) (hx : hV[i]? = some x) (hw : x.w = true) : fl ≤ j := by
  rcases (hr.dom i j hi).2.1 with h1 | h1
  · exact h1
  · have := hr.obj i j x hi hx
    cases x with
    | ints w k l => exact absurd (hr.gz j h1) (this.1 hw)
    | vals w l => exact absurd (hr.gz j h1) (this.1 hw)
    | dead => simp [VO.w] at hw
theorem HR.zfl {fl : Nat} {hV : VH} (hr : HR K G Z h fl ν hV) {i j : Nat} (hi : ν i = some j) : Z j ∨ fl ≤ j :=
  (hr.dom i j hi).2.1.symm.imp (hr.gz j) id
theorem HR.glm {fl : Nat} {hV : VH} (hr : HR K G Z h fl ν hV) (hZ : ∀ j, Z j → Z' j) (hh : ∀ j, Z j → h'[j]? = h[j]?) : ∀ g v, K.glob g = some v → ∃ c, K.cf.glob g = some c ∧ VR Z' h' (fun _ => none) v c := fun g v hg => by
  obtain ⟨c, h1, h2⟩ := hr.gl g v hg
  exact ⟨c, h1, h2.mono0 hZ hh⟩
theorem OR.mono {j : Nat} {x : VO} (hν : ∀ i j, ν i = some j → ν' i = some j) (hZ : ∀ j, Z j → Z' j) (hZ' : Z' j → Z j) (hh : ∀ j, Z j → h'[j]? = h[j]?) (hj : h'[j]? = h[j]?) (hx : OR Z h ν j x) : OR Z' h' ν' j x := by
  cases x with
  | ints w k l => exact ⟨fun hw hz => hx.1 hw (hZ' hz), fun hw => hZ _ (hx.2.1 hw), by rw [hj]; exact hx.2.2⟩
  | vals w l =>
    obtain ⟨h1, h2, l', m, h3, h4⟩ := hx
    exact ⟨fun hw hz => h1 hw (hZ' hz), fun hw => hZ _ (h2 hw), l', m, by rw [hj]; exact h3, h4.mono hν hZ hh⟩
  | dead => trivial

/-- Slots. -/
def EV (Z : Nat → Prop) (h : AH) (ν : Nat → Option Nat) (e : VE) (ee : Env) : Prop := ∀ t v, vget e t = some v → ∃ a, get ee t = some a ∧ VA' Z h ν v a
theorem EV.mono {e : VE} {ee : Env} (he : EV Z h ν e ee) (hν : ∀ i j, ν i = some j → ν' i = some j) (hZ : ∀ j, Z j → Z' j) (hh : ∀ j, Z j → h'[j]? = h[j]?) : EV Z' h' ν' e ee := fun t v ht => by
  obtain ⟨a, h1, h2⟩ := he t v ht
  exact ⟨a, h1, h2.mono hν hZ hh⟩
theorem EV.pt {e : VE} {ee : Env} (he : EV Z h ν e ee) {v : V} {a : AV} (hv : VA' Z h ν v a) (dst : Option Nat) : EV Z h ν (vput dst v e) (put dst a ee) := by
  cases dst with
  | none => exact he
  | some d =>
    intro t x ht
    simp only [vput, vget] at ht
    simp only [put, get]
    split at ht
    · rename_i e1; cases ht; rw [if_pos e1]; exact ⟨a, rfl, hv⟩
    · rename_i e1; rw [if_neg e1]; exact he t x ht
end
end Go.Eng
end
section
/- The value engine: numbering anew, freezing, nil. No conditions. -/
namespace Go.Eng

theorem omap_get {α β : Type} {f : α → Option β} : ∀ {l : List α} {l' : List β}, omap f l = some l' → l'.length = l.length ∧ ∀ (i : Nat) (a : α), l[i]? = some a → ∃ b, l'[i]? = some b ∧ f a = some b
  | [], l', h => by simp [omap] at h; subst h; simp
  | x :: r, l', h => by
    rw [omap] at h
    split at h
    · rename_i y m hy hm
      cases h
      obtain ⟨h1, h2⟩ := omap_get hm
      refine ⟨by simp [h1], fun i a ha => ?_⟩
      cases i with
      | zero => simp at ha; subst ha; exact ⟨y, by simp, hy⟩
      | succ i => simp at ha; obtain ⟨b, h3, h4⟩ := h2 i a ha; exact ⟨b, by simpa using h3, h4⟩
    · simp at h

theorem idxN_some : ∀ {o : List Nat} {i k : Nat}, idxN o i = some k → o[k]? = some i
  | [], _, _, h => by simp [idxN] at h
  | x :: r, i, k, h => by
    rw [idxN] at h
    split at h
    · rename_i e; cases h; simp [e]
    · split at h
      · rename_i n hn; cases h; simpa using idxN_some hn
      · simp at h

section
variable {Z Z' : Nat → Prop} {h h' : AH} {ν ν' : Nat → Option Nat} {hV : VH} {K : Kn} {G : Nat → Prop}

theorem aggL_some {x : Option (List V)} {v : V} (h : aggL x = some v) : ∃ l, x = some l ∧ v = .agg l := by
  cases x with
  | none => simp [aggL] at h
  | some l => simp [aggL] at h; exact ⟨l, rfl, h.symm⟩

/-! ### numbered anew -/
theorem VRs.of_omap {f : V → Option V} {l l' : List V} {cs : List CV} (hm : omap f l = some l') (hf : ∀ v c v', v ∈ l → VR Z h ν v c → f v = some v' → VR Z' h' ν' v' c) (hr : VRs Z h ν l cs) : VRs Z' h' ν' l' cs := by
  obtain ⟨h1, h2⟩ := omap_get hm
  obtain ⟨h3, h4⟩ := VRs_iff.1 hr
  refine VRs_iff.2 ⟨by omega, fun i v c hv hc => ?_⟩
  have hi := (List.getElem?_eq_some_iff.1 hv).1
  have hl : l[i]? = some l[i] := List.getElem?_eq_getElem (by omega)
  obtain ⟨b, h5, h6⟩ := h2 i _ hl
  rw [hv] at h5; cases h5
  exact hf _ c _ (List.mem_of_getElem? hl) (h4 i _ c hl hc) h6

theorem VR.ren {ρ : Nat → Option Nat} (hρ : ∀ i k j, ρ i = some k → ν i = some j → ν' k = some j) : ∀ (n : Nat) (v : V) (c : CV) (v' : V), VR Z h ν v c → vren ρ n v = some v' → VR Z h ν' v' c
  | n, .sl i off len sz, c, v', hr, hv => by
    have hv : (match ρ i with | some k => some (V.sl k off len sz) | none => none) = some v' := by cases n <;> exact hv
    split at hv
    · rename_i k hk; cases hv
      simp only [VR] at hr ⊢
      exact hr.imp id fun ⟨j, h1, h2⟩ => ⟨j, hρ _ _ _ hk h1, h2⟩
    · simp at hv
  | n, .ptr i off, c, v', hr, hv => by
    have hv : (match ρ i with | some k => some (V.ptr k off) | none => none) = some v' := by cases n <;> exact hv
    split at hv
    · rename_i k hk; cases hv
      simp only [VR] at hr ⊢
      obtain ⟨j, h1, h2⟩ := hr
      exact ⟨j, hρ _ _ _ hk h1, h2⟩
    · simp at hv
  | n + 1, .fn f a b, c, v', hr, hv => by
    simp only [vren] at hv
    split at hv
    · rename_i a' b' ha hb; cases hv
      simp only [VR] at hr ⊢
      obtain ⟨x, y, h1, h2, h3⟩ := hr
      exact ⟨x, y, h1, h2.of_omap ha fun v c v' _ hr hv => VR.ren hρ n v c v' hr hv, h3.of_omap hb fun v c v' _ hr hv => VR.ren hρ n v c v' hr hv⟩
    · simp at hv
  | 0, .fn f a b, c, v', hr, hv => by simp [vren] at hv
  | n, .bool b, c, v', hr, hv => by rw [show vren ρ n (.bool b) = some (.bool b) by cases n <;> rfl] at hv; cases hv; exact hr
  | n, .int k m, c, v', hr, hv => by rw [show vren ρ n (.int k m) = some (.int k m) by cases n <;> rfl] at hv; cases hv; exact hr
  | n, .str s, c, v', hr, hv => by rw [show vren ρ n (.str s) = some (.str s) by cases n <;> rfl] at hv; cases hv; exact hr
  | n, .nil, c, v', hr, hv => by rw [show vren ρ n (.nil) = some (.nil) by cases n <;> rfl] at hv; cases hv; exact hr
  | n, .ints k l, c, v', hr, hv => by rw [show vren ρ n (.ints k l) = some (.ints k l) by cases n <;> rfl] at hv; cases hv; exact hr
  | n, .cells sz m l, c, v', hr, hv => by rw [show vren ρ n (.cells sz m l) = some (.cells sz m l) by cases n <;> rfl] at hv; cases hv; exact hr
  | n, .fptr l, c, v', hr, hv => by rw [show vren ρ n (.fptr l) = some (.fptr l) by cases n <;> rfl] at hv; cases hv; exact hr
  | _, .agg _, _, _, hr, _ => by simp only [VR] at hr
  | _, .tup _, _, _, hr, _ => by simp only [VR] at hr
  | n, .em, _, _, _, hv => by cases n <;> simp [vren] at hv

theorem VAs'_iff : ∀ {l : List V} {as : List AV}, VAs' Z h ν l as ↔ l.length = as.length ∧ ∀ (i : Nat) (v : V) (c : AV), l[i]? = some v → as[i]? = some c → VA' Z h ν v c
  | [], cs => by
    simp only [VAs', List.length_nil]
    constructor
    · rintro rfl; simp
    · rintro ⟨e, _⟩; exact List.eq_nil_of_length_eq_zero e.symm
  | v :: r, cs => by
    simp only [VAs']
    constructor
    · rintro ⟨c, r', rfl, h1, h2⟩
      obtain ⟨e, h3⟩ := (VAs'_iff (l := r) (as := r')).1 h2
      refine ⟨by simp [e], fun i x y hx hy => ?_⟩
      cases i with
      | zero => simp at hx hy; subst hx; subst hy; exact h1
      | succ i => simp at hx hy; exact h3 i x y hx hy
    · rintro ⟨e, h3⟩
      cases cs with
      | nil => simp at e
      | cons c r' =>
        refine ⟨c, r', rfl, h3 0 v c (by simp) (by simp), (VAs'_iff (l := r) (as := r')).2 ⟨by simpa using e, fun i x y hx hy => h3 (i + 1) x y (by simpa using hx) (by simpa using hy)⟩⟩
theorem VAs'.append {l l2 : List V} {cs cs2 : List AV} (hr : VAs' Z h ν l cs) (h2 : VAs' Z h ν l2 cs2) : VAs' Z h ν (l ++ l2) (cs ++ cs2) := by
  obtain ⟨e, h3⟩ := VAs'_iff.1 hr
  obtain ⟨e', h3'⟩ := VAs'_iff.1 h2
  refine VAs'_iff.2 ⟨by simp [e, e'], fun i v c hv hc => ?_⟩
  by_cases hi : i < l.length
  · rw [List.getElem?_append_left hi] at hv; rw [List.getElem?_append_left (by omega)] at hc; exact h3 i v c hv hc
  · rw [List.getElem?_append_right (by omega)] at hv hc; rw [← e] at hc; exact h3' _ v c hv hc
theorem VAs'.of_omap {f : V → Option V} {l l' : List V} {cs : List AV} (hm : omap f l = some l') (hf : ∀ v c v', v ∈ l → VA' Z h ν v c → f v = some v' → VA' Z' h' ν' v' c) (hr : VAs' Z h ν l cs) : VAs' Z' h' ν' l' cs := by
  obtain ⟨h1, h2⟩ := omap_get hm
  obtain ⟨h3, h4⟩ := VAs'_iff.1 hr
  refine VAs'_iff.2 ⟨by omega, fun i v c hv hc => ?_⟩
  have hi := (List.getElem?_eq_some_iff.1 hv).1
  have hl : l[i]? = some l[i] := List.getElem?_eq_getElem (by omega)
  obtain ⟨b, h5, h6⟩ := h2 i _ hl
  rw [hv] at h5; cases h5
  exact hf _ c _ (List.mem_of_getElem? hl) (h4 i _ c hl hc) h6
theorem VAs'.of_cs {l : List V} {cs : List CV} (hr : VRs Z h ν l cs) : VAs' Z h ν l (cs.map .c) := by
  obtain ⟨h3, h4⟩ := VRs_iff.1 hr
  refine VAs'_iff.2 ⟨by simp [h3], fun i v c hv hc => ?_⟩
  rw [List.getElem?_map] at hc
  obtain ⟨x, hx, rfl⟩ := Option.map_eq_some_iff.1 hc
  exact .of (h4 i v x hv hx)

theorem VA'.ren {ρ : Nat → Option Nat} (hρ : ∀ i k j, ρ i = some k → ν i = some j → ν' k = some j) : ∀ (n : Nat) (v : V) (a : AV) (v' : V), VA' Z h ν v a → vren ρ n v = some v' → VA' Z h ν' v' a
  | n + 1, .agg l, a, v', ha, hv => by
    simp only [vren] at hv
    obtain ⟨l', h1, rfl⟩ := aggL_some hv
    simp only [VA'] at ha ⊢
    obtain ⟨cs, e, hr⟩ := ha
    exact ⟨cs, e, hr.of_omap h1 fun v c v' _ hr hv => VR.ren hρ n v c v' hr hv⟩
  | n + 1, .tup l, a, v', ha, hv => by
    simp only [vren] at hv
    split at hv
    · rename_i l' h1; cases hv
      simp only [VA'] at ha ⊢
      obtain ⟨cs, e, hr⟩ := ha
      exact ⟨cs, e, hr.of_omap h1 fun v c v' _ hr hv => VA'.ren hρ n v c v' hr hv⟩
    · simp at hv
  | 0, .agg l, a, v', ha, hv => by simp [vren] at hv
  | 0, .tup l, a, v', ha, hv => by simp [vren] at hv
  | n, .bool b, a, v', ha, hv => by obtain ⟨c, rfl, hr⟩ := (VA'.atom rfl).1 ha; exact .of (hr.ren hρ n _ _ _ hv)
  | n, .int k m, a, v', ha, hv => by obtain ⟨c, rfl, hr⟩ := (VA'.atom rfl).1 ha; exact .of (hr.ren hρ n _ _ _ hv)
  | n, .str s, a, v', ha, hv => by obtain ⟨c, rfl, hr⟩ := (VA'.atom rfl).1 ha; exact .of (hr.ren hρ n _ _ _ hv)
  | n, .nil, a, v', ha, hv => by obtain ⟨c, rfl, hr⟩ := (VA'.atom rfl).1 ha; exact .of (hr.ren hρ n _ _ _ hv)
  | n, .ints k l, a, v', ha, hv => by obtain ⟨c, rfl, hr⟩ := (VA'.atom rfl).1 ha; exact .of (hr.ren hρ n _ _ _ hv)
  | n, .cells sz m l, a, v', ha, hv => by obtain ⟨c, rfl, hr⟩ := (VA'.atom rfl).1 ha; exact .of (hr.ren hρ n _ _ _ hv)
  | n, .fptr l, a, v', ha, hv => by obtain ⟨c, rfl, hr⟩ := (VA'.atom rfl).1 ha; exact .of (hr.ren hρ n _ _ _ hv)
  | n, .sl i off len sz, a, v', ha, hv => by obtain ⟨c, rfl, hr⟩ := (VA'.atom rfl).1 ha; exact .of (hr.ren hρ n _ _ _ hv)
  | n, .ptr i off, a, v', ha, hv => by obtain ⟨c, rfl, hr⟩ := (VA'.atom rfl).1 ha; exact .of (hr.ren hρ n _ _ _ hv)
  | n, .fn f p q, a, v', ha, hv => by obtain ⟨c, rfl, hr⟩ := (VA'.atom rfl).1 ha; exact .of (hr.ren hρ n _ _ _ hv)

/-! ### frozen -/
theorem vfrz_atom {n : Nat} : ∀ {v v' : V}, v.atom = true → vfrz hV n v = some v' → v'.atom = true := by
  intro v v' ha hv
  cases v <;> first | (simp [V.atom] at ha; done) | skip
  all_goals cases n
  all_goals (simp only [vfrz] at hv)
  all_goals (first | (simp at hv; done) | (cases hv; rfl) | skip)
  all_goals (repeat' (split at hv))
  all_goals (first | (simp at hv; done) | (cases hv; rfl))

theorem VR.frz (hobj : ∀ i j x, ν i = some j → hV[i]? = some x → OR Z h ν j x) (hZ : ∀ j, Z j → Z' j) : ∀ (n : Nat) (v : V) (c : CV) (v' : V), VR Z h ν v c → vfrz hV n v = some v' → (∀ i ∈ vtrc hV n v, ∀ j, ν i = some j → Z' j) → VR Z' h (fun _ => none) v' c
  | n + 1, .sl i off len sz, c, v', hr, hv, ht => by
    simp only [vfrz] at hv
    simp only [VR] at hr
    simp only [vtrc] at ht
    rcases hr with ⟨rfl, rfl⟩ | ⟨j, hj, rfl⟩
    · split at hv
      · rename_i w k l ho
        split at hv
        · rename_i hc; cases hv; obtain ⟨rfl, _⟩ := hc
          simp [VR]
        · simp at hv
      · rename_i w l ho
        split at hv
        · split at hv
          · rename_i l' hm; cases hv
            simp [omap] at hm; subst hm
            simp [VR]
          · simp at hv
        · simp at hv
      · simp at hv
    · have hz : Z' j := ht i (by simp) j hj
      split at hv
      · rename_i w k l ho
        split at hv
        · rename_i hc; cases hv; obtain ⟨rfl, hc⟩ := hc
          obtain ⟨m0, this⟩ := (hobj i j _ hj ho).2.2
          have hl : ((l.drop off).take len).length = len := by rw [List.length_take, List.length_drop]; omega
          simp only [VR]
          refine .inr ⟨j, off, l ++ m0, (by rw [hl]), hz, this, by rw [hl, List.length_append]; omega, by rw [hl, tda hc]⟩
        · simp at hv
      · rename_i w l ho
        split at hv
        · rename_i hc
          split at hv
          · rename_i l' hm; cases hv
            obtain ⟨-, -, m, m0, h1, h2⟩ := hobj i j _ hj ho
            simp only [VR]
            refine .inr ⟨j, off, m ++ m0, rfl, hz, h1, by rw [List.length_append, ← h2.length]; omega, ?_⟩
            rw [tda (by rw [← h2.length]; exact hc)]
            refine ((h2.drop off).take _).of_omap hm fun v c v' hm hr hv => VR.frz hobj hZ n v c v' hr hv fun i' hi => ?_
            rw [ho] at ht
            exact ht i' (List.mem_cons_of_mem _ (List.mem_flatMap.2 ⟨v, hm, hi⟩))
          · simp at hv
        · simp at hv
      · simp at hv
  | n + 1, .ptr i off, c, v', hr, hv, ht => by
    simp only [vfrz] at hv
    simp only [VR] at hr
    simp only [vtrc] at ht
    obtain ⟨j, hj, rfl⟩ := hr
    have hz : Z' j := ht i (by simp) j hj
    split at hv
    · rename_i w k l ho
      split at hv
      · rename_i hc; cases hv
        obtain ⟨m0, this⟩ := (hobj i j _ hj ho).2.2
        simp only [VR]
        refine ⟨j, off, _, rfl, hz, this, by simp [AO.cells]; omega, ?_⟩
        have : ((AO.ints k (l ++ m0)).cells.drop off).take ((l.drop off).map (V.int k)).length = (l.drop off).map (CV.int k) := by
          simp only [AO.cells, List.map_append, List.length_map, List.length_drop]
          rw [tda (by rw [List.length_map]; omega), ← List.map_drop, List.take_of_length_le (by simp)]
        rw [this]
        exact VRs.ints k _
      · simp at hv
    · rename_i w l ho
      split at hv
      · rename_i hc
        split at hv
        · rename_i l' hm; cases hv
          obtain ⟨-, -, m, m0, h1, h2⟩ := hobj i j _ hj ho
          have hl := (omap_get hm).1
          have h3 := h2.length
          simp only [VR]
          refine ⟨j, off, _, rfl, hz, h1, by rw [hl]; simp [AO.cells]; omega, ?_⟩
          rw [hl, AO.cells, tda (by rw [List.length_drop]; omega), List.take_of_length_le (by simp; omega)]
          refine (h2.drop off).of_omap hm fun v c v' hm hr hv => VR.frz hobj hZ n v c v' hr hv fun i' hi => ?_
          rw [ho] at ht
          exact ht i' (List.mem_cons_of_mem _ (List.mem_flatMap.2 ⟨v, hm, hi⟩))
        · simp at hv
      · simp at hv
    · simp at hv
  | n + 1, .fn f a b, c, v', hr, hv, ht => by
    simp only [vfrz] at hv
    simp only [vtrc] at ht
    split at hv
    · rename_i a' b' ha hb; cases hv
      simp only [VR] at hr ⊢
      obtain ⟨x, y, h1, h2, h3⟩ := hr
      exact ⟨x, y, h1, h2.of_omap ha fun v c v' hm hr hv => VR.frz hobj hZ n v c v' hr hv fun i' hi => ht i' (List.mem_append_left _ (List.mem_flatMap.2 ⟨v, hm, hi⟩)),
        h3.of_omap hb fun v c v' hm hr hv => VR.frz hobj hZ n v c v' hr hv fun i' hi => ht i' (List.mem_append_right _ (List.mem_flatMap.2 ⟨v, hm, hi⟩))⟩
    · simp at hv
  | 0, .sl i off len sz, c, v', hr, hv, ht => by simp [vfrz] at hv
  | 0, .ptr i off, c, v', hr, hv, ht => by simp [vfrz] at hv
  | 0, .fn f a b, c, v', hr, hv, ht => by simp [vfrz] at hv
  | n, .bool b, c, v', hr, hv, _ => by rw [show vfrz hV n (.bool b) = some (.bool b) by cases n <;> rfl] at hv; cases hv; exact hr
  | n, .int k m, c, v', hr, hv, _ => by rw [show vfrz hV n (.int k m) = some (.int k m) by cases n <;> rfl] at hv; cases hv; exact hr
  | n, .str s, c, v', hr, hv, _ => by rw [show vfrz hV n (.str s) = some (.str s) by cases n <;> rfl] at hv; cases hv; exact hr
  | n, .nil, c, v', hr, hv, _ => by rw [show vfrz hV n (.nil) = some (.nil) by cases n <;> rfl] at hv; cases hv; exact hr
  | n, .ints k l, c, v', hr, hv, _ => by
    rw [show vfrz hV n (.ints k l) = some (.ints k l) by cases n <;> rfl] at hv; cases hv
    simp only [VR] at hr ⊢
    exact hr.imp id fun ⟨j, off, m, h1, h2, h3⟩ => ⟨j, off, m, h1, hZ j h2, h3⟩
  | n, .cells sz m l, c, v', hr, hv, _ => by
    rw [show vfrz hV n (.cells sz m l) = some (.cells sz m l) by cases n <;> rfl] at hv; cases hv
    simp only [VR] at hr ⊢
    exact hr.imp id fun ⟨j, off, m, h1, h2, h3, h4, h5⟩ => ⟨j, off, m, h1, hZ j h2, h3, h4, h5.mono0 hZ fun _ _ => rfl⟩
  | n, .fptr l, c, v', hr, hv, _ => by
    rw [show vfrz hV n (.fptr l) = some (.fptr l) by cases n <;> rfl] at hv; cases hv
    simp only [VR] at hr ⊢
    obtain ⟨j, off, m, h1, h2, h3, h4, h5⟩ := hr
    exact ⟨j, off, m, h1, hZ j h2, h3, h4, h5.mono0 hZ fun _ _ => rfl⟩
  | _, .agg _, _, _, hr, _, _ => by simp only [VR] at hr
  | _, .tup _, _, _, hr, _, _ => by simp only [VR] at hr
  | n, .em, _, _, _, hv, _ => by cases n <;> simp [vfrz] at hv

theorem VR.frz' (hobj : ∀ i j x, ν i = some j → hV[i]? = some x → OR Z h ν j x) (hZ : ∀ j, Z j → Z' j) (n : Nat) (v : V) (c : CV) (v' : V) (hr : VR Z h ν v c) (hv : vfrz hV n v = some v') (ht : ∀ i ∈ vtrc hV n v, ∀ j, ν i = some j → Z' j) : VR Z' h ν' v' c :=
  (VR.frz hobj hZ n v c v' hr hv ht).mono (fun i j hi => by simp at hi) (fun _ x => x) fun _ _ => rfl
theorem VA'.frz (hobj : ∀ i j x, ν i = some j → hV[i]? = some x → OR Z h ν j x) (hZ : ∀ j, Z j → Z' j) (n : Nat) (v : V) (a : AV) (v' : V) (ha : VA' Z h ν v a) (hv : vfrz hV n v = some v') (ht : ∀ i ∈ vtrc hV n v, ∀ j, ν i = some j → Z' j) : VA' Z' h ν' v' a := by
  by_cases hat : v.atom = true
  · obtain ⟨c, rfl, hr⟩ := (VA'.atom hat).1 ha
    exact .of (hr.frz' hobj hZ n _ _ _ hv ht)
  · cases v <;> first | (simp [V.atom] at hat; done) | skip
    · cases n with
      | zero => simp [vfrz] at hv
      | succ n =>
        simp only [vfrz] at hv
        obtain ⟨l', h1, rfl⟩ := aggL_some hv
        simp only [VA'] at ha ⊢
        obtain ⟨cs, e, hr⟩ := ha
        exact ⟨cs, e, hr.of_omap h1 fun v c v' hm hr hv => hr.frz' hobj hZ n v c v' hv fun i hi => ht i (by simp only [vtrc]; exact List.mem_flatMap.2 ⟨v, hm, hi⟩)⟩
    · cases n <;> simp [vfrz] at hv
    · cases n <;> simp [vfrz] at hv

/-! ### nil -/
theorem VR.nrm {k : Option NK} {v : V} {c : CV} (hr : VR Z h ν v c) : VR Z h ν (vnrm1 k v) c := by
  unfold vnrm1
  split
  · simp only [VR] at hr ⊢; exact .inl ⟨hr, trivial⟩
  · simp only [VR] at hr ⊢; exact .inl ⟨hr, trivial, trivial⟩
  · exact hr
theorem VRs.nrm : ∀ {ks : List (Option NK)} {l : List V} {cs : List CV}, VRs Z h ν l cs → VRs Z h ν (vnrmL ks l) cs
  | [], _, _, hr => hr
  | _ :: _, [], _, hr => hr
  | k :: ks, v :: r, cs, hr => by
    simp only [vnrmL, VRs] at hr ⊢
    obtain ⟨c, r', e, h1, h2⟩ := hr
    exact ⟨c, r', e, h1.nrm, h2.nrm⟩
theorem VA'.nrm1 {k : Option NK} {v : V} {a : AV} (ha : VA' Z h ν v a) : VA' Z h ν (vnrm1 k v) a := by
  unfold vnrm1
  split
  · obtain ⟨c, rfl, hr⟩ := (VA'.atom rfl).1 ha; exact .of (hr.nrm (k := some (.i _)))
  · obtain ⟨c, rfl, hr⟩ := (VA'.atom rfl).1 ha; exact .of (hr.nrm (k := some (.s _)))
  · exact ha
theorem VA'.nrm {ks : List (Option NK)} {v : V} {a : AV} (ha : VA' Z h ν v a) : VA' Z h ν (vnrmA ks v) a := by
  unfold vnrmA
  split
  · simp only [VA'] at ha ⊢; obtain ⟨cs, e, hr⟩ := ha; exact ⟨cs, e, hr.nrm⟩
  · exact ha.nrm1
  · exact ha
theorem VAs'.nrm : ∀ {ks : List (List (Option NK))} {l : List V} {as : List AV}, VAs' Z h ν l as → VAs' Z h ν (vnrmAs ks l) as
  | [], _, _, hr => hr
  | _ :: _, [], _, hr => hr
  | k :: ks, v :: r, cs, hr => by
    simp only [vnrmAs, VAs'] at hr ⊢
    obtain ⟨c, r', e, h1, h2⟩ := hr
    exact ⟨c, r', e, h1.nrm, h2.nrm⟩

theorem HR.app {fl : Nat} (hr : HR K G Z h fl ν hV) (l : VH) : HR K G Z h fl ν (hV ++ l) where
  dom i j hi := by obtain ⟨a, b, c⟩ := hr.dom i j hi; exact ⟨by simp; omega, b, c⟩
  obj i j x hi hx := by
    rw [List.getElem?_append_left (hr.dom i j hi).1] at hx
    exact hr.obj i j x hi hx
  inj := hr.inj
  zlt := hr.zlt
  gz := hr.gz
  gl := hr.gl

theorem VR.nob {k : Option NK} {v : V} {c : CV} (hr : VR Z h ν v c) (hV : VH) : VR Z h ν (vnob1 k v hV).1 c := by
  unfold vnob1
  split
  · simp only [VR] at hr ⊢; exact .inl ⟨trivial, hr⟩
  · simp only [VR] at hr ⊢; exact .inl ⟨trivial, hr⟩
  · exact hr
theorem nob_app (k : Option NK) (v : V) (hV : VH) : ∃ l, (vnob1 k v hV).2 = hV ++ l := by
  unfold vnob1
  split
  · exact ⟨_, rfl⟩
  · exact ⟨_, rfl⟩
  · exact ⟨[], by simp⟩
theorem nobL_ok : ∀ (ks : List (Option NK)) (l : List V) (cs : List CV) (hV : VH), VRs Z h ν l cs → VRs Z h ν (vnobL ks l hV).1 cs ∧ ∃ m, (vnobL ks l hV).2 = hV ++ m
  | [], l, _, hV, hr => ⟨hr, [], by simp [vnobL]⟩
  | _ :: _, [], _, hV, hr => ⟨hr, [], by simp [vnobL]⟩
  | k :: ks, v :: r, cs, hV, hr => by
    simp only [vnobL, VRs] at hr ⊢
    obtain ⟨c, r', e, h1, h2⟩ := hr
    obtain ⟨l1, e1⟩ := nob_app k v hV
    obtain ⟨h3, m, e2⟩ := nobL_ok ks r r' (vnob1 k v hV).2 h2
    exact ⟨⟨c, r', e, h1.nob hV, h3⟩, l1 ++ m, by rw [e2, e1, List.append_assoc]⟩
theorem nob1_ok (k : Option NK) (v : V) (a : AV) (hV : VH) (ha : VA' Z h ν v a) : VA' Z h ν (vnob1 k v hV).1 a := by
  unfold vnob1
  split
  · obtain ⟨c, rfl, hr⟩ := (VA'.atom rfl).1 ha; exact .of (hr.nob (k := some (.i _)) hV)
  · obtain ⟨c, rfl, hr⟩ := (VA'.atom rfl).1 ha; exact .of (hr.nob (k := some (.s _)) hV)
  · exact ha
theorem nobA_ok (ks : List (Option NK)) (v : V) (a : AV) (hV : VH) (ha : VA' Z h ν v a) : VA' Z h ν (vnobA ks v hV).1 a ∧ ∃ m, (vnobA ks v hV).2 = hV ++ m := by
  unfold vnobA
  split
  · simp only [VA'] at ha ⊢
    obtain ⟨cs, e, hr⟩ := ha
    obtain ⟨h1, h2⟩ := nobL_ok ks _ cs hV hr
    exact ⟨⟨cs, e, h1⟩, h2⟩
  · exact ⟨nob1_ok _ _ _ hV ha, nob_app _ _ hV⟩
  · exact ⟨ha, [], by simp⟩
theorem nobAs_ok : ∀ (ks : List (List (Option NK))) (l : List V) (as : List AV) (hV : VH), VAs' Z h ν l as → VAs' Z h ν (vnobAs ks l hV).1 as ∧ ∃ m, (vnobAs ks l hV).2 = hV ++ m
  | [], l, _, hV, hr => ⟨hr, [], by simp [vnobAs]⟩
  | _ :: _, [], _, hV, hr => ⟨hr, [], by simp [vnobAs]⟩
  | k :: ks, v :: r, cs, hV, hr => by
    simp only [vnobAs, VAs'] at hr ⊢
    obtain ⟨c, r', e, h1, h2⟩ := hr
    obtain ⟨h5, l1, e1⟩ := nobA_ok k v c hV h1
    obtain ⟨h3, m, e2⟩ := nobAs_ok ks r r' (vnobA k v hV).2 h2
    exact ⟨⟨c, r', e, h5, h3⟩, l1 ++ m, by rw [e2, e1, List.append_assoc]⟩
theorem nobE_ok (nk : Nat → Option NK) : ∀ (e : VE) (ee : Env) (hV : VH), EV Z h ν e ee → EV Z h ν (vnobE nk e hV).1 ee ∧ ∃ m, (vnobE nk e hV).2 = hV ++ m := by
  have key : ∀ (e : VE) (hV : VH), (∃ m, (vnobE nk e hV).2 = hV ++ m) ∧ ∀ t v, vget (vnobE nk e hV).1 t = some v → ∃ x, vget e t = some x ∧ ∀ a, VA' Z h ν x a → VA' Z h ν v a := by
    intro e
    induction e with
    | nil => intro hV; exact ⟨⟨[], by simp [vnobE]⟩, fun t v hv => by simp [vnobE, vget] at hv⟩
    | cons p r ih =>
      obtain ⟨t0, v0⟩ := p
      intro hV
      cases v0 with
      | none =>
        simp only [vnobE]
        obtain ⟨h1, h2⟩ := ih hV
        refine ⟨h1, fun t v hv => ?_⟩
        simp only [vget] at hv ⊢
        split at hv
        · simp at hv
        · rename_i hn; rw [if_neg hn]; exact h2 t v hv
      | some v0 =>
        simp only [vnobE]
        obtain ⟨l1, e1⟩ := nob_app (nk t0) v0 hV
        obtain ⟨⟨m, h1⟩, h2⟩ := ih (vnob1 (nk t0) v0 hV).2
        refine ⟨⟨l1 ++ m, by rw [h1, e1, List.append_assoc]⟩, fun t v hv => ?_⟩
        simp only [vget] at hv ⊢
        split at hv
        · rename_i e2; cases hv; rw [if_pos e2]; exact ⟨v0, rfl, fun a ha => nob1_ok _ _ _ hV ha⟩
        · rename_i e2; rw [if_neg e2]; exact h2 t v hv
  intro e ee hV he
  obtain ⟨h1, h2⟩ := key e hV
  refine ⟨fun t v hv => ?_, h1⟩
  obtain ⟨x, h3, h4⟩ := h2 t v hv
  obtain ⟨a, h5, h6⟩ := he t x h3
  exact ⟨a, h5, h4 a h6⟩

theorem HR.cut {fl : Nat} (hr : HR K G Z h fl ν hV) (i n : Nat) : HR K G Z h fl ν (hV.modify i (VO.cut n)) where
  dom i' j hi := by rw [List.length_modify]; exact hr.dom i' j hi
  obj i' j x hi hx := by
    rw [List.getElem?_modify] at hx
    obtain ⟨y, hy, rfl⟩ := Option.map_eq_some_iff.1 hx
    have := hr.obj i' j y hi hy
    split
    · cases y with
      | ints w k l =>
        obtain ⟨a, b, m, c⟩ := this
        exact ⟨a, b, l.drop n ++ m, by rw [← List.append_assoc, List.take_append_drop]; exact c⟩
      | vals w l => exact this
      | dead => exact this
    · exact this
  inj := hr.inj
  zlt := hr.zlt
  gz := hr.gz
  gl := hr.gl
theorem HR.cutR {fl : Nat} : ∀ (vs : List V) {hV : VH}, HR K G Z h fl ν hV → HR K G Z h fl ν (vcutR hV vs)
  | [], _, hr => hr
  | v :: r, hV, hr => by
    unfold vcutR
    split
    · exact hr
    · rename_i e; cases e; exact HR.cutR r (hr.cut _ _)
    · rename_i e; cases e; exact HR.cutR r hr
theorem EV.keep {e : VE} {ee : Env} (he : EV Z h ν e ee) : ∀ ks, EV Z h ν (vkeep ks e) (keepOnly ks ee)
  | [], t, v, hv => by simp [vkeep, vget] at hv
  | k :: ks, t, v, hv => by
    simp only [vkeep, vget] at hv
    simp only [keepOnly, get]
    split at hv
    · rename_i e1; rw [if_pos e1]; obtain ⟨a, h1, h2⟩ := he k v hv; exact ⟨a, h1, h2⟩
    · rename_i e1; rw [if_neg e1]; exact EV.keep he ks t v hv

/-! ### what is not reached is dropped -/
theorem EV.ren {ρ : Nat → Option Nat} (hρ : ∀ i k j, ρ i = some k → ν i = some j → ν' k = some j) : ∀ {e e' : VE} {ee : Env}, vrenE ρ e = some e' → (∀ t v, vget e t = some v → ∃ a, get ee t = some a ∧ VA' Z h ν v a) → EV Z h ν' e' ee := by
  have key : ∀ (e e' : VE), vrenE ρ e = some e' → ∀ t v', vget e' t = some v' → ∃ v, vget e t = some v ∧ vren ρ 4 v = some v' := by
    intro e
    induction e with
    | nil => intro e' h t v' hv; simp [vrenE] at h; subst h; simp [vget] at hv
    | cons p r ih =>
      obtain ⟨t0, v0⟩ := p
      intro e' h t v' hv
      cases v0 with
      | none =>
        simp only [vrenE] at h
        split at h
        · rename_i r' hr; cases h
          simp only [vget] at hv ⊢
          split at hv
          · simp at hv
          · rename_i e2; rw [if_neg e2]; exact ih r' hr t v' hv
        · simp at h
      | some v0 =>
        simp only [vrenE] at h
        split at h
        · rename_i x r' hx hr; cases h
          simp only [vget] at hv ⊢
          split at hv
          · rename_i e2; cases hv; rw [if_pos e2]; exact ⟨v0, rfl, hx⟩
          · rename_i e2; rw [if_neg e2]; exact ih r' hr t v' hv
        · simp at h
  intro e e' ee h he t v' hv
  obtain ⟨v, h1, h2⟩ := key e e' h t v' hv
  obtain ⟨a, h3, h4⟩ := he t v h1
  exact ⟨a, h3, h4.ren hρ 4 _ _ _ h2⟩

theorem nodup_get {o : List Nat} (ho : o.Nodup) {i k n : Nat} (h1 : o[i]? = some n) (h2 : o[k]? = some n) : i = k := by
  obtain ⟨a, b⟩ := List.getElem?_eq_some_iff.1 h1
  obtain ⟨c, d⟩ := List.getElem?_eq_some_iff.1 h2
  rcases Nat.lt_trichotomy i k with hlt | heq | hgt
  · exact absurd (b.trans d.symm) (List.pairwise_iff_getElem.1 ho i k a c hlt)
  · exact heq
  · exact absurd (d.trans b.symm) (List.pairwise_iff_getElem.1 ho k i c a hgt)

theorem vgc_HR {o : List Nat} {hV' : VH} {fl : Nat} (hnd : o.Nodup) (h2 : omap (vpickO (idxN o) hV) o = some hV') (hr : HR K G Z h fl ν hV) : HR K G Z h fl (fun k => (o[k]?).bind ν) hV' := by
  have hρ : ∀ i k j, idxN o i = some k → ν i = some j → (o[k]?).bind ν = some j := fun i k j hi hj => by rw [idxN_some hi]; exact hj
  refine ⟨?_, ?_, ?_, hr.zlt, hr.gz, hr.gl⟩
  · intro k j hk
    obtain ⟨i, hi, hj⟩ := Option.bind_eq_some_iff.1 hk
    obtain ⟨a, b, c⟩ := hr.dom i j hj
    exact ⟨by rw [(omap_get h2).1]; exact (List.getElem?_eq_some_iff.1 hi).1, b, c⟩
  · intro k j x hk hx
    obtain ⟨i, hi, hj⟩ := Option.bind_eq_some_iff.1 hk
    obtain ⟨y, h4, h5⟩ := (omap_get h2).2 k i hi
    rw [hx] at h4; cases h4
    unfold vpickO at h5
    split at h5
    · rename_i z hz
      have hob := hr.obj i j z hj hz
      cases z with
      | ints w kk l => simp [vrenO] at h5; subst h5; exact hob
      | vals w l =>
        simp only [vrenO] at h5
        split at h5
        · rename_i l' hm; cases h5
          obtain ⟨a, b, m, m0, c, d⟩ := hob
          exact ⟨a, b, m, m0, c, d.of_omap hm fun v c v' _ hr hv => VR.ren hρ 4 v c v' hr hv⟩
        · simp at h5
      | dead => simp [vrenO] at h5; subst h5; trivial
    · simp at h5
  · intro k k' j hk hk'
    obtain ⟨i, hi, hj⟩ := Option.bind_eq_some_iff.1 hk
    obtain ⟨i', hi', hj'⟩ := Option.bind_eq_some_iff.1 hk'
    obtain rfl := hr.inj i i' j hj hj'
    exact nodup_get hnd hi hi'
theorem vtwo_some {α β : Type} {a : Option α} {b : Option β} {r : α × β} (hh : vtwo a b = some r) : a = some r.1 ∧ b = some r.2 := by
  cases a <;> cases b <;> simp [vtwo] at hh
  subst hh; exact ⟨rfl, rfl⟩
theorem vgcL_ok {vs : List V} {as : List AV} {r : List V × VH} {fl : Nat} (hg : vgcL vs hV = some r) (he : VAs' Z h ν vs as) (hr : HR K G Z h fl ν hV) : ∃ ν', VAs' Z h ν' r.1 as ∧ HR K G Z h fl ν' r.2 := by
  unfold vgcL at hg
  split at hg
  · cases hg; exact ⟨ν, he, hr⟩
  · unfold vgcLBy at hg
    split at hg
    · rename_i hnd
      obtain ⟨h1, h2⟩ := vtwo_some hg
      exact ⟨_, he.of_omap h1 fun v c v' _ hr hv => VA'.ren (fun i k j hi hj => by rw [idxN_some hi]; exact hj) 4 v c v' hr hv, vgc_HR hnd h2 hr⟩
    · simp at hg
theorem vgcBy_ok {o : List Nat} {e e' : VE} {ee : Env} {hV' : VH} {fl : Nat} (hg : vgcBy o e hV = some (e', hV')) (he : EV Z h ν e ee) (hr : HR K G Z h fl ν hV) : ∃ ν', EV Z h ν' e' ee ∧ HR K G Z h fl ν' hV' := by
  unfold vgcBy at hg
  split at hg
  · rename_i hnd
    obtain ⟨h1, h2⟩ := vtwo_some hg
    exact ⟨_, EV.ren (fun i k j hi hj => by rw [idxN_some hi]; exact hj) h1 he, vgc_HR hnd h2 hr⟩
  · simp at hg

theorem vgc_ok {e e' : VE} {ee : Env} {hV' : VH} {fl : Nat} (hg : vgc e hV = some (e', hV')) (he : EV Z h ν e ee) (hr : HR K G Z h fl ν hV) : ∃ ν', EV Z h ν' e' ee ∧ HR K G Z h fl ν' hV' := by
  unfold vgc at hg
  split at hg
  · cases hg; exact ⟨ν, he, hr⟩
  · exact vgcBy_ok hg he hr
end
end Go.Eng
end
section
/- The value engine: its operations are the engine's. No conditions. -/
namespace Go.Eng

/-- What an object holds. -/
def OO (Z : Nat → Prop) (h : AH) (ν : Nat → Option Nat) : VO → AO → Prop
  | .ints _ k l, o => o = .ints k l
  | .vals _ l, o => ∃ l', o = .vals l' ∧ VRs Z h ν l l'
  | .dead, _ => False

section
variable {Z Z' : Nat → Prop} {h h' : AH} {ν ν' : Nat → Option Nat} {hV : VH} {fl : Nat} {e : VE} {ee : Env} {P : Program} {K : Kn} {G : Nat → Prop}

/-- What an object begins with. -/
def OP (Z : Nat → Prop) (h : AH) (ν : Nat → Option Nat) : VO → AO → Prop
  | .ints _ k l, o => ∃ m, o = .ints k (l ++ m)
  | .vals _ l, o => ∃ l' m, o = .vals (l' ++ m) ∧ VRs Z h ν l l'
  | .dead, _ => False
theorem OO.op {x : VO} {o : AO} (hx : OO Z h ν x o) : OP Z h ν x o := by
  cases x with
  | ints w k l => exact ⟨[], by rw [List.append_nil]; exact hx⟩
  | vals w l => obtain ⟨l', e, hr⟩ := hx; exact ⟨l', [], by rw [List.append_nil]; exact e, hr⟩
  | dead => exact hx
theorem OP.mono {x : VO} {o : AO} (hν : ∀ i j, ν i = some j → ν' i = some j) (hZ : ∀ j, Z j → Z' j) (hh : ∀ j, Z j → h'[j]? = h[j]?) (hx : OP Z h ν x o) : OP Z' h' ν' x o := by
  cases x with
  | ints w k l => exact hx
  | vals w l => obtain ⟨l', m, e, hr⟩ := hx; exact ⟨l', m, e, hr.mono hν hZ hh⟩
  | dead => exact hx
theorem OO.mono {x : VO} {o : AO} (hν : ∀ i j, ν i = some j → ν' i = some j) (hZ : ∀ j, Z j → Z' j) (hh : ∀ j, Z j → h'[j]? = h[j]?) (hx : OO Z h ν x o) : OO Z' h' ν' x o := by
  cases x with
  | ints w k l => exact hx
  | vals w l => obtain ⟨l', e, hr⟩ := hx; exact ⟨l', e, hr.mono hν hZ hh⟩
  | dead => exact hx
theorem HR.get (hr : HR K G Z h fl ν hV) {i j : Nat} {x : VO} (hi : ν i = some j) (hx : hV[i]? = some x) (hd : x ≠ .dead) : ∃ o, h[j]? = some o ∧ OP Z h ν x o ∧ (x.w = true → ¬ Z j) := by
  have := hr.obj i j x hi hx
  cases x with
  | ints w k l => obtain ⟨a, b, m, c⟩ := this; exact ⟨_, c, ⟨m, rfl⟩, a⟩
  | vals w l => obtain ⟨a, b, l', m, c, d⟩ := this; exact ⟨_, c, ⟨l', m, rfl, d⟩, a⟩
  | dead => exact absurd rfl hd
theorem OO.cells {x : VO} {o : AO} (hx : OO Z h ν x o) : VRs Z h ν x.cells o.cells := by
  cases x with
  | ints w k l => rw [show o = .ints k l from hx]; exact VRs.ints k l
  | vals w l => obtain ⟨l', rfl, hr⟩ := hx; exact hr
  | dead => exact hx.elim
theorem OP.sub {x x' : VO} {o : AO} (hx : OP Z h ν x o) {off n : Nat} (hs : x.sub off n = some x') : ∃ o', o.sub off n = some o' ∧ OO Z h ν x' o' := by
  cases x with
  | ints w k l =>
    obtain ⟨m, rfl⟩ := hx
    simp only [VO.sub] at hs
    split at hs
    · rename_i hc; cases hs; exact ⟨_, by simp only [AO.sub]; rw [if_pos (by rw [List.length_append]; omega)], by rw [tda hc]; rfl⟩
    · simp at hs
  | vals w l =>
    obtain ⟨l', m, rfl, hr⟩ := hx
    simp only [VO.sub] at hs
    split at hs
    · rename_i hc; cases hs; exact ⟨_, by simp only [AO.sub]; rw [if_pos (by rw [List.length_append, ← hr.length]; omega)], _, by rw [tda (by rw [← hr.length]; exact hc)], (hr.drop off).take n⟩
    · simp at hs
  | dead => exact hx.elim
theorem OP.at {x : VO} {o : AO} (hx : OP Z h ν x o) {off : Nat} {v : V} (hs : x.at off = some v) : ∃ c, ldO o off = some c ∧ VR Z h ν v c := by
  cases x with
  | ints w k l =>
    obtain ⟨m, rfl⟩ := hx
    simp only [VO.at] at hs
    split at hs
    · rename_i hc; cases hs; exact ⟨.int k (gt l off), by rw [ldO_ints, List.getElem?_append_left hc, gt_some hc]; rfl, by simp only [VR]⟩
    · simp at hs
  | vals w l =>
    obtain ⟨l', m, rfl, hr⟩ := hx
    obtain ⟨c, h1, h2⟩ := hr.get hs
    exact ⟨c, by rw [ldO_vals, List.getElem?_append_left (List.getElem?_eq_some_iff.1 h1).1]; exact h1, h2⟩
  | dead => exact hx.elim
theorem OO.cat {x y z : VO} {o p : AO} (hx : OO Z h ν x o) (hy : OO Z h ν y p) (hc : x.cat y = some z) : ∃ q, o.cat p = some q ∧ OO Z h ν z q ∧ z.w = true := by
  cases x with
  | ints w k l =>
    cases y with
    | ints w' k' l' =>
      rw [show o = .ints k l from hx, show p = .ints k' l' from hy]
      simp only [VO.cat] at hc
      split at hc
      · rename_i e1; cases hc; exact ⟨_, by simp only [AO.cat]; rw [if_pos e1], rfl, rfl⟩
      · simp at hc
    | vals w' l' => simp [VO.cat] at hc
    | dead => simp [VO.cat] at hc
  | vals w l =>
    cases y with
    | ints w' k' l' => simp [VO.cat] at hc
    | vals w' l' =>
      obtain ⟨a, rfl, ha⟩ := hx
      obtain ⟨b, rfl, hb⟩ := hy
      simp only [VO.cat] at hc; cases hc
      exact ⟨_, rfl, ⟨_, rfl, ha.append hb⟩, rfl⟩
    | dead => simp [VO.cat] at hc
  | dead => exact hx.elim
theorem OP.set1 {x y : VO} {o : AO} (hx : OP Z h ν x o) {off : Nat} {v : V} {c : CV} (hv : VR Z h ν v c) (hs : x.set1 off v = some y) : ∃ p, o.set1 off c = some p ∧ OP Z h ν y p ∧ x.w = true ∧ y.w = true := by
  cases x with
  | ints w k l =>
    obtain ⟨m, rfl⟩ := hx
    cases w with
    | false => simp [VO.set1] at hs
    | true =>
      cases v <;> simp only [VO.set1] at hs <;> try (simp at hs; done)
      split at hs
      · rename_i e1; cases hs
        simp only [VR] at hv; subst hv
        exact ⟨_, by simp only [AO.set1]; rw [if_pos ⟨e1.1, by rw [List.length_append]; omega⟩], ⟨m, by rw [List.set_append_left _ _ e1.2]⟩, rfl, rfl⟩
      · simp at hs
  | vals w l =>
    cases w with
    | false => simp [VO.set1] at hs
    | true =>
      obtain ⟨l', m, rfl, hr⟩ := hx
      simp only [VO.set1] at hs
      split at hs
      · rename_i e1; cases hs
        exact ⟨_, by simp only [AO.set1]; rw [if_pos (by rw [List.length_append, ← hr.length]; omega)], ⟨_, m, by rw [List.set_append_left _ _ (by rw [← hr.length]; exact e1)], hr.set hv off⟩, rfl, rfl⟩
      · simp at hs
  | dead => exact hx.elim
theorem OP.sets : ∀ {vs : List V} {cs : List CV} {x y : VO} {o : AO} {off : Nat}, OP Z h ν x o → VRs Z h ν vs cs → x.sets off vs = some y → ∃ p, o.sets off cs = some p ∧ OP Z h ν y p ∧ (vs = [] ∨ x.w = true) ∧ y.w = x.w
  | [], cs, x, y, o, off, hx, hr, hs => by
    simp only [VO.sets] at hs; cases hs
    simp only [VRs] at hr; subst hr
    exact ⟨o, rfl, hx, .inl rfl, rfl⟩
  | v :: r, cs, x, y, o, off, hx, hr, hs => by
    simp only [VO.sets] at hs
    split at hs
    · rename_i z hz
      simp only [VRs] at hr
      obtain ⟨c, r', rfl, h1, h2⟩ := hr
      obtain ⟨p, k1, k2, k3, k4⟩ := hx.set1 h1 hz
      obtain ⟨q, m1, m2, -, m4⟩ := OP.sets k2 h2 hs
      exact ⟨q, by rw [AO.sets, k1]; exact m1, m2, .inr k3, by rw [m4, k4, k3]⟩
    · simp at hs
theorem VO.set_w {x y : VO} {vs : List V} {off : Nat} (hs : x.sets off vs = some y) (hw : vs = [] ∨ x.w = true) : x = y ∨ x.w = true := by
  rcases hw with rfl | hw
  · simp only [VO.sets] at hs; cases hs; exact .inl rfl
  · exact .inr hw

def upd (ν : Nat → Option Nat) (i j : Nat) : Nat → Option Nat := fun k => if k = i then some j else ν k
theorem upd_self (ν : Nat → Option Nat) (i j : Nat) : upd ν i j i = some j := by simp [upd]

/-- A new object. -/
theorem HR.new (hr : HR K G Z h fl ν hV) (hf : fl ≤ h.length) {x : VO} {o : AO} (hx : OO Z h ν x o) (hw : x.w = true) : Ext K G fl hV.length Z h ν Z (h ++ [o]) (upd ν hV.length h.length) (hV ++ [x]) := by
  have hν : ∀ i j, ν i = some j → upd ν hV.length h.length i = some j := fun i j hi => by
    have := (hr.dom i j hi).1
    unfold upd; rw [if_neg (by omega)]; exact hi
  have hh : ∀ j, Z j → (h ++ [o])[j]? = h[j]? := fun j hj => List.getElem?_append_left (hr.zlt j hj)
  refine ⟨⟨?_, ?_, ?_, fun j hj => by have := hr.zlt j hj; simp; omega, hr.gz, hr.glm (fun _ x => x) hh⟩, by simp, by simp, fun i hi => by unfold upd; rw [if_neg (by omega)], fun _ x => x, hh, fun _ x => .inl x⟩
  · intro i j hi
    unfold upd at hi
    split at hi
    · cases hi; subst_vars; exact ⟨by simp, .inl hf, by simp⟩
    · obtain ⟨a, b, c⟩ := hr.dom i j hi; exact ⟨by simp; omega, b, by simp; omega⟩
  · intro i j y hi hy
    unfold upd at hi
    split at hi
    · rename_i e1; cases hi; subst e1
      rw [List.getElem?_append_right (Nat.le_refl _)] at hy
      simp at hy; subst hy
      have hz : ¬ Z h.length := fun hz => by have := hr.zlt _ hz; omega
      have hx' := hx.mono hν (fun _ x => x) hh
      cases x with
      | ints w k l => simp [VO.w] at hw; subst hw; exact ⟨fun _ => hz, fun h => by simp at h, [], by rw [show o = .ints k l from hx]; simp⟩
      | vals w l => simp [VO.w] at hw; subst hw; obtain ⟨l', rfl, hr'⟩ := hx'; exact ⟨fun _ => hz, fun h => by simp at h, l', [], by simp, hr'⟩
      | dead => simp [VO.w] at hw
    · obtain ⟨a, b, c⟩ := hr.dom i j hi
      rw [List.getElem?_append_left a] at hy
      exact (hr.obj i j y hi hy).mono hν (fun _ x => x) (fun x => x) hh (List.getElem?_append_left c)
  · intro i i' j hi hi'
    unfold upd at hi hi'
    split at hi
    · cases hi
      split at hi'
      · omega
      · have := (hr.dom _ _ hi').2.2; omega
    · split at hi'
      · cases hi'; have := (hr.dom _ _ hi).2.2; omega
      · exact hr.inj i i' j hi hi'

/-- An object is another one from here on. -/
theorem HR.put (hr : HR K G Z h fl ν hV) {i j : Nat} {x y : VO} {o : AO} (hi : ν i = some j) (hx : hV[i]? = some x) (hw : x.w = true) (hy : y = .dead ∨ (OP Z h ν y o ∧ y.w = true)) : Ext K G fl hV.length Z h ν Z (h.set j o) ν (hV.set i y) := by
  have hd : x ≠ .dead := fun e => by subst e; simp [VO.w] at hw
  obtain ⟨o0, h1, h2, h3⟩ := hr.get hi hx hd
  have hz := h3 hw
  have hh : ∀ k, Z k → (h.set j o)[k]? = h[k]? := fun k hk => List.getElem?_set_ne (fun e => hz (by rw [e]; exact hk))
  obtain ⟨da, db, dc⟩ := hr.dom i j hi
  refine ⟨⟨?_, ?_, hr.inj, fun k hk => by have := hr.zlt k hk; simp; omega, hr.gz, hr.glm (fun _ x => x) hh⟩, by simp, by simp, fun _ _ => rfl, fun _ x => x, hh, fun _ x => .inl x⟩
  · intro i' j' hi'; obtain ⟨a, b, c⟩ := hr.dom i' j' hi'; exact ⟨by simpa using a, b, by simpa using c⟩
  · intro i' j' z hi' hz'
    by_cases e1 : i = i'
    · subst e1
      rw [hi] at hi'; cases hi'
      rw [List.getElem?_set_self da] at hz'
      cases hz'
      rcases hy with rfl | ⟨hy, hyw⟩
      · trivial
      · have hg : (h.set j o)[j]? = some o := List.getElem?_set_self dc
        have hy' := hy.mono (fun _ _ x => x) (fun _ x => x) hh
        cases y with
        | ints w k l => simp [VO.w] at hyw; subst hyw; obtain ⟨m, rfl⟩ := hy; exact ⟨fun _ => hz, fun h => by simp at h, m, hg⟩
        | vals w l => simp [VO.w] at hyw; subst hyw; obtain ⟨l', m, rfl, hr'⟩ := hy'; exact ⟨fun _ => hz, fun h => by simp at h, l', m, hg, hr'⟩
        | dead => trivial
    · rw [List.getElem?_set_ne e1] at hz'
      have hjj : j ≠ j' := fun e => e1 (hr.inj i i' j hi (e ▸ hi'))
      exact (hr.obj i' j' z hi' hz').mono (fun _ _ x => x) (fun _ x => x) (fun x => x) hh (List.getElem?_set_ne hjj)

/-! ### operands -/
theorem toV_rel {c : CV} {v : V} (hc : c.toV = some v) : VR Z h ν v c := by
  cases c <;> simp only [CV.toV] at hc <;> first | (cases hc; simp only [VR]; done) | (simp at hc; done)
theorem toV1_rel {x : Option CV} {v : V} (hc : toV1 x = some v) : ∃ c, x = some c ∧ VR Z h ν v c := by
  cases x with
  | none => simp [toV1] at hc
  | some c => exact ⟨c, rfl, toV_rel hc⟩
theorem omap_toV : ∀ {cs : List CV} {l : List V}, omap CV.toV cs = some l → VRs Z h ν l cs
  | [], l, hm => by simp [omap] at hm; subst hm; simp only [VRs]
  | c :: r, l, hm => by
    rw [omap] at hm
    split at hm
    · rename_i x m hx hr; cases hm
      simp only [VRs]; exact ⟨c, r, rfl, toV_rel hx, omap_toV hr⟩
    · simp at hm
theorem zero_rel {x : Option AV} {v : V} (hx : toV? x = some v) : ∃ a, x = some a ∧ VA' Z h ν v a := by
  cases x with
  | none => simp [toV?] at hx
  | some a =>
    refine ⟨a, rfl, ?_⟩
    cases a with
    | c x => simp only [toV?, AV.toV] at hx; exact .of (toV_rel hx)
    | agg cs =>
      simp only [toV?, AV.toV] at hx
      split at hx
      · rename_i l hm; cases hx; exact ⟨cs, rfl, omap_toV hm⟩
      · simp at hx
    | tup l => simp [toV?, AV.toV] at hx
    | np => simp [toV?, AV.toV] at hx
theorem vofC_rel {x : Value} {v : V} (hx : vofC x = some v) : ∃ c, ofC x = some c ∧ VR Z h ν v c := by
  unfold vofC at hx
  split at hx <;> first | (simp at hx; done) | skip
  all_goals (cases hx; refine ⟨_, rfl, ?_⟩; simp only [VR])
theorem vofCs_rel : ∀ {l : List Value} {vs : List V}, omap vofC l = some vs → ∃ cs, ofCs l = some cs ∧ VRs Z h ν vs cs
  | [], vs, hm => by simp [omap] at hm; subst hm; exact ⟨[], rfl, by simp only [VRs]⟩
  | x :: r, vs, hm => by
    rw [omap] at hm
    split at hm
    · rename_i y m hy hr; cases hm
      obtain ⟨c, h1, h2⟩ := vofC_rel (Z := Z) (h := h) (ν := ν) hy
      obtain ⟨cs, h3, h4⟩ := vofCs_rel hr
      exact ⟨c :: cs, by simp [ofCs, h1, h3], by simp only [VRs]; exact ⟨c, cs, rfl, h2, h4⟩⟩
    · simp at hm
theorem vofV_rel {x : Value} {v : V} (hx : vofV x = some v) : ∃ a, ofV x = some a ∧ VA' Z h ν v a := by
  unfold vofV at hx
  split at hx
  · rename_i cs
    split at hx
    · rename_i l hm; cases hx
      obtain ⟨c, h1, h2⟩ := vofCs_rel (Z := Z) (h := h) (ν := ν) hm
      exact ⟨.agg c, by simp [ofV, h1], ⟨c, rfl, h2⟩⟩
    · simp at hx
  · rename_i hn
    obtain ⟨c, h1, h2⟩ := vofC_rel (Z := Z) (h := h) (ν := ν) hx
    refine ⟨.c c, ?_, .of h2⟩
    unfold ofV
    split
    · rename_i cs; exact absurd rfl (hn cs)
    · simp [h1]

theorem vofK_rel {x : Value} {v : V} (hx : vofK x = some v) : ∃ a, ofK x = some a ∧ VA' Z h ν v a := by
  unfold vofK at hx
  unfold ofK
  split at hx
  · cases hx; exact ⟨.np, rfl, rfl⟩
  · rename_i hn
    split
    · exact absurd rfl hn
    · exact vofV_rel hx
theorem vev_rel (he : EV Z h ν e ee) (hr : HR K G Z h fl ν hV) {x : Operand} {v : V} (hv : vev K e x = some v) : ∃ a, ev K.cf ee x = some a ∧ VA' Z h ν v a := by
  cases x with
  | tmp t => exact he t v hv
  | const c => exact vofK_rel hv
  | func f => simp only [vev] at hv; cases hv; exact ⟨_, rfl, _, rfl, by simp only [VR]; exact ⟨[], [], rfl, by simp only [VRs], by simp only [VRs]⟩⟩
  | global g => obtain ⟨c, h1, h2⟩ := hr.gl g v hv; exact ⟨.c c, by simp [ev, h1], .of (h2.mono (fun i j hi => by simp at hi) (fun _ x => x) fun _ _ => rfl)⟩
theorem vevs_rel (he : EV Z h ν e ee) (hr0 : HR K G Z h fl ν hV) : ∀ {l : List Operand} {vs : List V}, vevs K e l = some vs → ∃ as, evs K.cf ee l = some as ∧ VAs' Z h ν vs as
  | [], vs, hv => by simp [vevs, omap] at hv; subst hv; exact ⟨[], rfl, by simp only [VAs']⟩
  | x :: r, vs, hv => by
    rw [vevs, omap] at hv
    split at hv
    · rename_i v m hx hr; cases hv
      obtain ⟨a, h1, h2⟩ := vev_rel he hr0 hx
      obtain ⟨as, h3, h4⟩ := vevs_rel he hr0 hr
      exact ⟨a :: as, by simp [evs, h1, h3], by simp only [VAs']; exact ⟨a, as, rfl, h2, h4⟩⟩
    · simp at hv
theorem vevC_rel (he : EV Z h ν e ee) (hr : HR K G Z h fl ν hV) {x : Operand} {v : V} (hv : vev K e x = some v) (ha : v.atom = true) : ∃ c, evC K.cf ee x = some c ∧ VR Z h ν v c := by
  obtain ⟨a, h1, h2⟩ := vev_rel he hr hv
  obtain ⟨c, rfl, hr⟩ := (VA'.atom ha).1 h2
  exact ⟨c, by simp [evC, h1, AV.cell], hr⟩
theorem vevCs_rel (he : EV Z h ν e ee) (hr0 : HR K G Z h fl ν hV) : ∀ {l : List Operand} {vs : List V}, vevs K e l = some vs → (vs.all V.atom) = true → ∃ as, evCs K.cf ee l = some as ∧ VRs Z h ν vs as
  | [], vs, hv, _ => by simp [vevs, omap] at hv; subst hv; exact ⟨[], rfl, by simp only [VRs]⟩
  | x :: r, vs, hv, ha => by
    rw [vevs, omap] at hv
    split at hv
    · rename_i v m hx hr; cases hv
      simp only [List.all_cons, Bool.and_eq_true] at ha
      obtain ⟨a, h1, h2⟩ := vevC_rel he hr0 hx ha.1
      obtain ⟨as, h3, h4⟩ := vevCs_rel he hr0 hr ha.2
      exact ⟨a :: as, by simp [evCs, h1, h3], by simp only [VRs]; exact ⟨a, as, rfl, h2, h4⟩⟩
    · simp at hv

/-! ### reckoning -/
theorem toC_rel {v : V} {c a : CV} (hr : VR Z h ν v c) (hc : v.toC = some a) : a = c ∨ ∃ i o n s i' o' s', 0 < n ∧ a = .sl i o n s ∧ (c = .sl i' o' n s' ∨ c = .sn i' o' n s') := by
  cases v <;> simp only [V.toC] at hc <;> try (simp at hc; done)
  · simp only [VR] at hr; cases hc; exact .inl hr.symm
  · simp only [VR] at hr; cases hc; exact .inl hr.symm
  · simp only [VR] at hr; cases hc; exact .inl hr.symm
  · simp only [VR] at hr; cases hc; exact .inl hr.symm
  · split at hc
    · rename_i hp; cases hc
      simp only [VR] at hr
      rcases hr with ⟨_, rfl⟩ | ⟨j, off, m, h1, _⟩
      · simp at hp
      · exact .inr ⟨_, _, _, _, j, off, 1, hp, rfl, .inl h1⟩
    · simp at hc
  · split at hc
    · rename_i hp; cases hc
      simp only [VR] at hr
      rcases hr with ⟨_, h0, _⟩ | ⟨j, off, m, h1, _⟩
      · omega
      · exact .inr ⟨_, _, _, _, j, off, _, hp, rfl, .inl h1⟩
    · simp at hc
  · split at hc
    · rename_i hp; cases hc
      simp only [VR] at hr
      rcases hr with ⟨h0, _⟩ | ⟨j, _, rfl⟩
      · omega
      · exact .inr ⟨_, _, _, _, j, _, _, hp, rfl, .inl rfl⟩
    · simp at hc
theorem eqA_sl {op : BinOp} {t : TypeId} {i o n s : Nat} {b r : CV} (hb : eqA P t op (.sl i o n s) b = some r) : b = .nil := by
  unfold eqA at hb
  cases hu : P.underlying t with
  | none => rw [hu] at hb; cases op <;> simp at hb
  | some u => rw [hu] at hb; cases op <;> cases u <;> cases b <;> simp at hb ⊢
theorem eqA_sn {op : BinOp} {t : TypeId} {i o n s i' o' s' : Nat} {r c : CV} (hn : 0 < n) (hc : c = .sl i' o' n s' ∨ c = .sn i' o' n s') (hb : eqA P t op (.sl i o n s) .nil = some r) : eqA P t op c .nil = some r := by
  unfold eqA at hb ⊢
  cases hu : P.underlying t with
  | none => rw [hu] at hb; cases op <;> simp at hb
  | some u => rw [hu] at hb; cases op <;> cases u <;> simp at hb <;> (rcases hc with rfl | rfl <;> simp [hb, hn]) <;> simp_all
theorem eqA_right {op : BinOp} {t : TypeId} {i o n s : Nat} {a r : CV} (hb : eqA P t op a (.sl i o n s) = some r) : False := by
  unfold eqA at hb
  cases hu : P.underlying t with
  | none => rw [hu] at hb; cases op <;> simp at hb
  | some u => rw [hu] at hb; cases op <;> cases u <;> cases a <;> simp at hb
theorem binE_rel {op : BinOp} {t : TypeId} {v w : V} {c d a b r : CV} (hv : VR Z h ν v c) (hw : VR Z h ν w d) (ha : v.toC = some a) (hb : w.toC = some b) (hr : binE P op t a b = some r) : binE P op t c d = some r := by
  rcases toC_rel hv ha with rfl | ⟨i, o, n, s, i', o', s', hn, rfl, hc⟩
  · rcases toC_rel hw hb with rfl | ⟨i, o, n, s, i', o', s', hn, rfl, hd⟩
    · exact hr
    · have : eqA P t op a (.sl i o n s) = some r := by unfold binE at hr; cases a <;> exact hr
      exact (eqA_right this).elim
  · have h1 : eqA P t op (.sl i o n s) b = some r := by unfold binE at hr; cases b <;> exact hr
    obtain rfl := eqA_sl h1
    have : d = .nil := by
      rcases toC_rel hw hb with rfl | ⟨_, _, _, _, _, _, _, _, h2, _⟩
      · rfl
      · cases h2
    subst this
    have h2 := eqA_sn hn hc h1
    unfold binE
    rcases hc with rfl | rfl <;> exact h2

/-! ### what an operation comes to -/
def Got (K : Kn) (G : Nat → Prop) (fl : Nat) (hV : VH) (Z : Nat → Prop) (h : AH) (ν : Nat → Option Nat) (v : V) (hV' : VH) (r : Option (AV × AH)) : Prop :=
  ∃ a h' ν' Z', r = some (a, h') ∧ VA' Z' h' ν' v a ∧ Ext K G fl hV.length Z h ν Z' h' ν' hV'
theorem Got.same (hr : HR K G Z h fl ν hV) {v : V} {a : AV} (ha : VA' Z h ν v a) {r : Option (AV × AH)} (e : r = some (a, h)) : Got K G fl hV Z h ν v hV r :=
  ⟨a, h, ν, Z, e, ha, Ext.refl hr (Nat.le_refl _)⟩
theorem vres_some {x : Option V} {hV hV' : VH} {v : V} (e : vres x hV = some (v, hV')) : x = some v ∧ hV' = hV := by
  cases x with
  | none => simp [vres] at e
  | some y => simp only [vres, Option.some.injEq, Prod.mk.injEq] at e; exact ⟨by rw [e.1], e.2.symm⟩
theorem Got.new (hr : HR K G Z h fl ν hV) (hf : fl ≤ h.length) {x : VO} {o : AO} (hx : OO Z h ν x o) (hw : x.w = true) {len s : Nat} {r : Option (AV × AH)} (e : r = some (.c (.sl h.length 0 len s), h ++ [o])) : Got K G fl hV Z h ν (.sl hV.length 0 len s) (hV ++ [x]) r :=
  ⟨_, _, _, _, e, .of (by simp only [VR]; exact .inr ⟨_, upd_self _ _ _, rfl⟩), hr.new hf hx hw⟩

def PR (Z : Nat → Prop) (h : AH) (ν : Nat → Option Nat) : List (Nat × V) → List (Nat × AV) → Prop
  | [], qs => qs = []
  | p :: r, qs => ∃ a qs', qs = (p.1, a) :: qs' ∧ VA' Z h ν p.2 a ∧ PR Z h ν r qs'
theorem vparts_rel (he : EV Z h ν e ee) (hr0 : HR K G Z h fl ν hV) : ∀ {l : List (Nat × Operand)} {ps : List (Nat × V)}, vparts K e l = some ps → ∃ qs, evParts K.cf ee l = some qs ∧ PR Z h ν ps qs
  | [], ps, hp => by simp [vparts] at hp; subst hp; exact ⟨[], rfl, rfl⟩
  | (i, x) :: r, ps, hp => by
    rw [vparts] at hp
    split at hp
    · rename_i v m hx hr; cases hp
      obtain ⟨a, h1, h2⟩ := vev_rel he hr0 hx
      obtain ⟨qs, h3, h4⟩ := vparts_rel he hr0 hr
      exact ⟨(i, a) :: qs, by simp [evParts, h1, h3], a, qs, rfl, h2, h4⟩
    · simp at hp
theorem vsetAll_rel : ∀ {vs : List V} {cs : List CV} {l : List V} {l' : List CV} {off : Nat}, VRs Z h ν l l' → VRs Z h ν vs cs → VRs Z h ν (vsetAll l off vs) (setAll l' off cs)
  | [], cs, l, l', off, hl, hr => by simp only [VRs] at hr; subst hr; exact hl
  | v :: r, cs, l, l', off, hl, hr => by
    simp only [VRs] at hr
    obtain ⟨c, r', rfl, h1, h2⟩ := hr
    simp only [vsetAll, setAll]; exact vsetAll_rel (hl.set h1 off) h2
theorem vfill_none {place : Nat → Option (Nat × Nat)} {ps : List (Nat × V)} : vfill place ps none = none := by
  cases ps <;> rfl
theorem vfill_rel {place : Nat → Option (Nat × Nat)} : ∀ {ps : List (Nat × V)} {qs : List (Nat × AV)} {l l2 : List V} {l' : List CV}, PR Z h ν ps qs → VRs Z h ν l l' → vfill place ps (some l) = some l2 → ∃ l2', fillA place l' qs = some l2' ∧ VRs Z h ν l2 l2'
  | [], qs, l, l2, l', hp, hl, hv => by
    simp only [PR] at hp; subst hp
    simp only [vfill] at hv; cases hv
    exact ⟨l', rfl, hl⟩
  | (i, v) :: r, qs, l, l2, l', hp, hl, hv => by
    obtain ⟨a, qs', rfl, h1, h2⟩ := hp
    simp only [vfill] at hv
    split at hv
    · rename_i p hpl
      unfold vfill1 at hv
      split at hv
      · rename_i hc
        obtain ⟨c1, c2, c3⟩ := hc
        obtain ⟨k1, k2⟩ := h1.cells c1
        obtain ⟨l2', m1, m2⟩ := vfill_rel h2 (vsetAll_rel (off := p.1) hl k2) hv
        refine ⟨l2', ?_, m2⟩
        simp only [fillA, hpl, Option.bind_some]
        rw [if_pos ⟨k1, by rw [← k2.length]; exact c2, by rw [← hl.length]; exact c3⟩]
        exact m1
      · rw [vfill_none] at hv; simp at hv
    · simp at hv
theorem vtoInts_rel {k : IntKind} : ∀ {l : List V} {cs : List CV} {m : List Int}, VRs Z h ν l cs → vtoInts k l = some m → toInts k cs = some m
  | [], cs, m, hr, hm => by simp only [VRs] at hr; subst hr; exact hm
  | v :: r, cs, m, hr, hm => by
    simp only [VRs] at hr
    obtain ⟨c, r', rfl, h1, h2⟩ := hr
    cases v <;> simp only [vtoInts] at hm <;> try (simp at hm; done)
    simp only [VR] at h1; subst h1
    split at hm
    · rename_i e1
      split at hm
      · rename_i l' hl; cases hm
        simp only [toInts, if_pos e1, vtoInts_rel h2 hl, Option.map_some]
      · simp at hm
    · simp at hm
theorem vmkO_rel {ko : Option IntKind} {l : List V} {cs : List CV} {x : VO} (hr : VRs Z h ν l cs) (hx : vmkO ko l = some x) : ∃ o, mkO ko cs = some o ∧ OO Z h ν x o ∧ x.w = true := by
  cases ko with
  | none => simp only [vmkO] at hx; cases hx; exact ⟨_, rfl, ⟨cs, rfl, hr⟩, rfl⟩
  | some k =>
    simp only [vmkO] at hx
    split at hx
    · rename_i m hm; cases hx
      exact ⟨_, by simp only [mkO, vtoInts_rel hr hm, Option.map_some], rfl, rfl⟩
    · simp at hx
theorem vzo_rel {el : TypeId} {n : Nat} {x : VO} (hx : vzo (kindOf P el) (toV? (zeroT P el)) n = some x) : ∃ o, zerosO P el n = some o ∧ OO Z h ν x o ∧ x.w = true ∧ o.cells.length = vlen (some x) := by
  unfold vzo at hx
  split at hx
  · rename_i k k' m hk hz
    obtain ⟨a, h1, h2⟩ := zero_rel (Z := Z) (h := h) (ν := ν) hz
    obtain ⟨c, rfl, hr⟩ := (VA'.atom rfl).1 h2
    simp only [VR] at hr; subst hr
    split at hx
    · rename_i e1; cases hx
      exact ⟨_, by unfold zerosO; rw [hk, h1]; simp only [Option.bind_some]; rw [if_pos e1], rfl, rfl, by simp [AO.cells, vlen]⟩
    · simp at hx
  · rename_i z hk hz
    obtain ⟨a, h1, h2⟩ := zero_rel (Z := Z) (h := h) (ν := ν) hz
    split at hx
    · rename_i e1; cases hx
      obtain ⟨k1, k2⟩ := h2.cells e1
      refine ⟨_, by unfold zerosO; rw [hk, h1]; rfl, ⟨_, rfl, k2.rep _⟩, rfl, ?_⟩
      simp only [AO.cells, vlen]; exact (k2.rep _).length.symm
    · simp at hx
  · simp at hx

theorem vsub_some {o : Option VO} {off n : Nat} {x : VO} (hs : vsub o off n = some x) : ∃ y, o = some y ∧ y.sub off n = some x := by
  cases o with
  | none => simp [vsub] at hs
  | some y => exact ⟨y, rfl, hs⟩
theorem sub_nd {x y : VO} {off n : Nat} (hs : x.sub off n = some y) : x ≠ .dead := fun e => by subst e; simp [VO.sub] at hs
theorem sub_nil {x y : VO} {off : Nat} (hs : x.sub off 0 = some y) : y.cells = [] := by
  cases x <;> simp only [VO.sub] at hs <;> (try (split at hs)) <;> first | (simp at hs; done) | skip
  · cases hs; simp [VO.cells]
  · cases hs; simp [VO.cells]
theorem vpair_some {o : Option VO} {n : Nat} {r : VO × Nat} (hs : vpair o n = some r) : ∃ y, o = some y ∧ r = (y, n) := by
  cases o with
  | none => simp [vpair] at hs
  | some y => simp only [vpair, Option.some.injEq] at hs; exact ⟨y, rfl, hs.symm⟩

theorem bytes_rel (s : ByteArray) : OO Z h ν (.ints true .u8 (bytesL s)) (bytesO s) := rfl
/-- What is read by frozen slices. -/
theorem sub_ints_of {k : IntKind} {m : List Int} {off : Nat} {l : List Int} (h1 : off + l.length ≤ m.length) (h2 : l = (m.drop off).take l.length) : (AO.ints k m).sub off l.length = some (.ints k l) := by
  simp only [AO.sub]; rw [if_pos h1, ← h2]
theorem srcO_sl {ko : Option IntKind} {size j off n : Nat} {c : CV} (hc : c = .sl j off n size ∨ c = .sn j off n size) {o y : AO} (ho : h[j]? = some o) (hy : o.sub off (n * size) = some y) : srcO ko size h c = some (y, n) := by
  rcases hc with rfl | rfl <;> simp [srcO, ho, hy]
theorem vpairK_some {ko : Option IntKind} {o : Option VO} {n : Nat} {r : VO × Nat} (hs : vpairK ko o n = some r) : ∃ y, o = some y ∧ r = (y, n) ∧ kindIs ko y = true := by
  cases o with
  | none => simp [vpairK] at hs
  | some y =>
    simp only [vpairK] at hs
    split at hs
    · rename_i e1; cases hs; exact ⟨y, rfl, rfl, e1⟩
    · simp at hs
theorem vtrip_some {ko : Option IntKind} {o : Option VO} {n : Nat} {g : VH} {r : VO × Nat × VH} (hs : vtrip ko o n g = some r) : ∃ y, o = some y ∧ r = (y, n, g) ∧ kindIs ko y = true := by
  cases o with
  | none => simp [vtrip] at hs
  | some y =>
    simp only [vtrip] at hs
    split at hs
    · rename_i e1; cases hs; exact ⟨y, rfl, rfl, e1⟩
    · simp at hs
/-- An empty object of a kind. -/
theorem kind_nil {ko : Option IntKind} {x y : VO} {off : Nat} (hs : x.sub off 0 = some y) (hk : kindIs ko y = true) : ∃ o, mkO ko [] = some o ∧ OO Z h ν y o := by
  cases x with
  | ints w k l =>
    simp only [VO.sub] at hs
    split at hs
    · cases hs
      cases ko with
      | none => simp [kindIs] at hk
      | some k' => simp [kindIs] at hk; subst hk; exact ⟨_, rfl, by simp [OO]⟩
    · simp at hs
  | vals w l =>
    simp only [VO.sub] at hs
    split at hs
    · cases hs
      cases ko with
      | none => exact ⟨_, rfl, [], rfl, by simp [VRs]⟩
      | some k' => simp [kindIs] at hk
    · simp at hs
  | dead => simp [VO.sub] at hs
theorem vsrc_rel (hr : HR K G Z h fl ν hV) {ko : Option IntKind} {size : Nat} {v : V} {c : CV} {x : VO} {n : Nat} (hv : VR Z h ν v c) (hs : vsrc ko size hV v = some (x, n)) :
    ∃ o, srcO ko size h c = some (o, n) ∧ OO Z h ν x o := by
  cases v <;> simp only [vsrc] at hs <;> try (simp at hs; done)
  · simp only [VR] at hv; subst hv
    split at hs
    · rename_i e1; cases hs
      exact ⟨_, by simp only [srcO]; rw [if_pos e1], bytes_rel _⟩
    · simp at hs
  · obtain ⟨y, h1, h2⟩ := vpair_some hs
    cases h2
    simp only [VR] at hv; subst hv
    obtain ⟨o, k1, k2, _⟩ := vmkO_rel (Z := Z) (h := h) (ν := ν) (l := []) (cs := []) (by simp only [VRs]) h1
    exact ⟨o, by simp only [srcO, k1, Option.map_some], k2⟩
  · split at hs
    · rename_i e1; cases hs
      obtain ⟨e1, e2⟩ := e1
      simp only [VR] at hv
      rcases hv with ⟨rfl, rfl⟩ | ⟨j, off, m, h1, h2, h3, h4, h5⟩
      · subst e2; exact ⟨.ints _ [], rfl, rfl⟩
      · refine ⟨.ints _ _, srcO_sl (.inl (by rw [e1]; exact h1)) h3 ?_, rfl⟩
        rw [e1, Nat.mul_one]; exact sub_ints_of h4 h5
    · simp at hs
  · split at hs
    · rename_i e1; cases hs
      obtain ⟨e1, e2⟩ := e1
      subst e1; subst e2
      simp only [VR] at hv
      rcases hv with ⟨rfl, rfl, rfl⟩ | ⟨j, off, m, h1, h2, h3, h4, h5⟩
      · exact ⟨.vals [], rfl, [], rfl, by simp only [VRs]⟩
      · exact ⟨.vals _, srcO_sl (.inl h1) h3 (by simp only [AO.sub]; rw [if_pos h4]), _, rfl, h5.mono (fun i j hi => by simp at hi) (fun _ x => x) (fun _ _ => rfl)⟩
    · simp at hs
  · split at hs
    · rename_i e1; subst e1
      obtain ⟨y, h1, h2, hk⟩ := vpairK_some hs
      cases h2
      obtain ⟨z, h3, h4⟩ := vsub_some h1
      simp only [VR] at hv
      rcases hv with ⟨rfl, rfl⟩ | ⟨j, hj, rfl⟩
      · rw [Nat.zero_mul] at h4
        obtain ⟨o, k1, k2⟩ := kind_nil (Z := Z) (h := h) (ν := ν) h4 hk
        exact ⟨o, by simp only [srcO, k1, Option.map_some], k2⟩
      · obtain ⟨o, k1, k2, _⟩ := hr.get hj h3 (sub_nd h4)
        obtain ⟨o', k3, k4⟩ := k2.sub h4
        exact ⟨o', srcO_sl (.inl rfl) k1 k3, k4⟩
    · simp at hs
theorem HR.kill (hr : HR K G Z h fl ν hV) (i : Nat) : HR K G Z h fl ν (hV.set i .dead) where
  dom i' j hi := by rw [List.length_set]; exact hr.dom i' j hi
  obj i' j x hi hx := by
    by_cases e1 : i = i'
    · subst e1; rw [List.getElem?_set_self (hr.dom i j hi).1] at hx; cases hx; trivial
    · rw [List.getElem?_set_ne e1] at hx; exact hr.obj i' j x hi hx
  inj := hr.inj
  zlt := hr.zlt
  gz := hr.gz
  gl := hr.gl
theorem sub_w {x y : VO} {off n : Nat} (hs : x.sub off n = some y) : y.w = x.w := by
  cases x <;> simp only [VO.sub] at hs <;> (try (split at hs)) <;> first | (simp at hs; done) | (cases hs; rfl)
theorem vold_rel (hr : HR K G Z h fl ν hV) {ko : Option IntKind} {el : TypeId} (hko : ko = kindOf P el) {size : Nat} {v : V} {c : CV} {x : VO} {n : Nat} {g : VH} (hv : VR Z h ν v c) (hs : vold ko size hV v = some (x, n, g)) :
    ∃ o h1, oldO P el size fl h c = some (o, n, h1) ∧ OO Z h ν x o ∧ Ext K G fl hV.length Z h ν Z h1 ν g ∧ h1.length = h.length ∧ g.length = hV.length := by
  subst hko
  cases v <;> simp only [vold] at hs <;> try (simp at hs; done)
  · obtain ⟨y, h1, h2, hk⟩ := vtrip_some hs
    cases h2
    simp only [VR] at hv; subst hv
    obtain ⟨o, k1, k2, _⟩ := vmkO_rel (Z := Z) (h := h) (ν := ν) (l := []) (cs := []) (by simp only [VRs]) h1
    exact ⟨o, h, by simp only [oldO, k1, Option.map_some], k2, Ext.refl hr (Nat.le_refl _), rfl, rfl⟩
  · rename_i i off len sz
    split at hs
    · rename_i e1
      obtain ⟨rfl, hw⟩ := e1
      obtain ⟨y, h1, h2, hk⟩ := vtrip_some hs
      cases h2
      obtain ⟨z, h3, h4⟩ := vsub_some h1
      rw [h3] at hw
      simp only [vw] at hw
      simp only [VR] at hv
      rcases hv with ⟨rfl, rfl⟩ | ⟨j, hj, rfl⟩
      · rw [Nat.zero_mul] at h4
        obtain ⟨o, k1, k2⟩ := kind_nil (Z := Z) (h := h) (ν := ν) h4 hk
        exact ⟨o, h, by simp only [oldO, k1, Option.map_some], k2, Ext.refl (hr.kill i) (by simp), rfl, by simp⟩
      · obtain ⟨o, k1, k2, _⟩ := hr.get hj h3 (sub_nd h4)
        obtain ⟨o', k3, k4⟩ := k2.sub h4
        refine ⟨o', h.set j .dead, ?_, k4, hr.put hj h3 hw (.inl rfl), by simp, by simp⟩
        simp only [oldO]
        rw [if_pos ⟨hr.wfl hj h3 hw, trivial⟩, k1]
        simp [k3]
    · simp at hs
  · obtain ⟨y, h1, h2, hk⟩ := vtrip_some hs
    cases h2
    simp only [VR] at hv; subst hv
    obtain ⟨o, k1, k2, _⟩ := vmkO_rel (Z := Z) (h := h) (ν := ν) (l := []) (cs := []) (by simp only [VRs]) h1
    exact ⟨o, h, by simp only [oldO, k1, Option.map_some], k2, Ext.refl hr (Nat.le_refl _), rfl, rfl⟩
end
end Go.Eng
end
section
/- The value engine: an operation that is no call. No conditions. -/
namespace Go.Eng

def CallRel (K : Kn) (cv : CallV) (ce : CallF) : Prop :=
  ∀ (g : FuncId) (args : List V) (hV : VH) (r : V) (hV' : VH), cv g args hV = some (r, hV') → ∀ (G : Nat → Prop) (fl : Nat) (Z : Nat → Prop) (h : AH) (ν : Nat → Option Nat) (cargs : List AV), (K.cf.pure g = true → K.ali g = false → hV = []) → fl ≤ h.length → HR K G Z h fl ν hV → VAs' Z h ν args cargs → Got K G fl hV Z h ν r hV' (ce fl g cargs h)

section
variable {Z Z' : Nat → Prop} {h h' : AH} {ν ν' : Nat → Option Nat} {hV : VH} {fl : Nat} {e : VE} {ee : Env} {P : Program} {K : Kn} {G : Nat → Prop} {ce : CallF}

theorem int_rel {k : IntKind} {n : Int} {c : CV} (hr : VR Z h ν (.int k n) c) : c = .int k n := by simpa only [VR] using hr
theorem bool_rel {b : Bool} {c : CV} (hr : VR Z h ν (.bool b) c) : c = .bool b := by simpa only [VR] using hr
theorem intA (k : IntKind) (n : Int) : VA' Z h ν (.int k n) (.c (.int k n)) := .of (by simp only [VR])
theorem intR (k : IntKind) (n : Int) : VR Z h ν (.int k n) (.int k n) := by simp only [VR]
theorem strA (s : ByteArray) : VA' Z h ν (.str s) (.c (.str s)) := .of (by simp only [VR])
theorem aggA {l : List V} {cs : List CV} (hr : VRs Z h ν l cs) : VA' Z h ν (.agg l) (.agg cs) := ⟨cs, rfl, hr⟩
theorem toC_atom {v : V} {a : CV} (hc : v.toC = some a) : v.atom = true := by
  cases v <;> first | rfl | (simp [V.toC] at hc)

theorem pick_ok (he : EV Z h ν e ee) (hr : HR K G Z h fl ν hV) {c a b : Operand} {v : V} (hv : vpick (vev K e c) (vev K e a) (vev K e b) = some v) : Got K G fl hV Z h ν v hV (evOp P K.cf ce fl ee h (.pick c a b)) := by
  unfold vpick at hv
  split at hv
  · rename_i x y z h1
    obtain ⟨c', h2, h3⟩ := vevC_rel he hr h1 rfl
    obtain rfl := bool_rel h3
    obtain ⟨a', h4, h5⟩ := vev_rel he hr hv
    exact Got.same hr h5 (by simp [evOp, h2, h4])
  · rename_i x y z h1
    obtain ⟨c', h2, h3⟩ := vevC_rel he hr h1 rfl
    obtain rfl := bool_rel h3
    obtain ⟨a', h4, h5⟩ := vev_rel he hr hv
    exact Got.same hr h5 (by simp [evOp, h2, h4])
  · simp at hv

theorem alloc_ok (hr : HR K G Z h fl ν hV) (hf : fl ≤ h.length) {x : Option V} {y : Option AV} (hx : ∀ z, x = some z → ∃ a, y = some a ∧ VA' Z h ν z a) {v : V} {hV' : VH} (hv : valloc x hV = some (v, hV')) :
    Got K G fl hV Z h ν v hV' (y.bind fun z => if z.one then some (.c (.ptr h.length 0), h ++ [.vals z.cells]) else none) := by
  cases x with
  | none => simp [valloc] at hv
  | some z =>
    simp only [valloc] at hv
    split at hv
    · rename_i e1; cases hv
      obtain ⟨a, rfl, ha⟩ := hx z rfl
      obtain ⟨k1, k2⟩ := ha.cells e1
      exact ⟨.c (.ptr h.length 0), _, _, _, by simp [k1], .of (by simp only [VR]; exact ⟨_, upd_self _ _ _, rfl⟩), hr.new hf ⟨_, rfl, k2⟩ rfl⟩
    · simp at hv

theorem build_ok (he : EV Z h ν e ee) (hr : HR K G Z h fl ν hV) {t : TypeId} {parts : Array (Nat × Operand)} {v : V} (hv : vbuild P t (vparts K e parts.toList) = some v) : Got K G fl hV Z h ν v hV (evOp P K.cf ce fl ee h (.build t parts)) := by
  cases h1 : vparts K e parts.toList with
  | none => rw [h1] at hv; simp [vbuild] at hv
  | some ps =>
    rw [h1] at hv
    simp only [vbuild] at hv
    obtain ⟨qs, h2, h3⟩ := vparts_rel he hr h1
    unfold vbuild2 at hv
    split at hv
    · rename_i pl z hp hz
      obtain ⟨l, h4, rfl⟩ := aggL_some hv
      obtain ⟨a, h5, h6⟩ := zero_rel (Z := Z) (h := h) (ν := ν) hz
      have hcs : VRs Z h ν z.cs a.cells := by
        by_cases ho : z.one = true
        · exact (h6.cells ho).2
        · cases z <;> simp [V.one] at ho
          · rename_i l; simp only [VA'] at h6
            obtain ⟨as, rfl, _⟩ := h6
            simp only [V.cs, AV.cells, VRs]
          · simp only [VA'] at h6; subst h6; simp only [V.cs, AV.cells, VRs]
      obtain ⟨l', h7, h8⟩ := vfill_rel h3 hcs h4
      refine Got.same hr (aggA h8) ?_
      simp [evOp, h2, buildA, h5, hp, h7]
    · simp at hv

theorem vnewO_ok (hr : HR K G Z h fl ν hV) (hf : fl ≤ h.length) {x : Option VO} {o : Option AO} (hx : ∀ y, x = some y → ∃ p, o = some p ∧ OO Z h ν y p ∧ y.w = true) {len s : Nat} {v : V} {hV' : VH} (hv : vnewO x len s hV = some (v, hV')) {r : Option (AV × AH)} (e1 : ∀ p, o = some p → r = some (.c (.sl h.length 0 len s), h ++ [p])) : Got K G fl hV Z h ν v hV' r := by
  cases x with
  | none => simp [vnewO] at hv
  | some y =>
    simp only [vnewO] at hv; cases hv
    obtain ⟨p, h1, h2, h3⟩ := hx y rfl
    exact Got.new hr hf h2 h3 (e1 p h1)

theorem vnewE_ok (hr : HR K G Z h fl ν hV) (hf : fl ≤ h.length) {em : Bool} {x : Option VO} {o : Option AO} (hx : ∀ y, x = some y → ∃ p, o = some p ∧ OO Z h ν y p ∧ y.w = true) {len s : Nat} {v : V} {hV' : VH} (hv : vnewE em x len s hV = some (v, hV')) {r : Option (AV × AH)} (e1 : ∀ p, o = some p → r = some (.c (if em = true ∧ len = 0 then .em else .sl h.length 0 len s), h ++ [p])) : Got K G fl hV Z h ν v hV' r := by
  cases x with
  | none => simp [vnewE] at hv
  | some y =>
    simp only [vnewE] at hv; cases hv
    obtain ⟨p, h1, h2, h3⟩ := hx y rfl
    have e2 := e1 p h1
    by_cases hc : em = true ∧ len = 0
    · rw [if_pos hc] at e2 ⊢
      exact ⟨_, _, _, _, e2, .of (by simp only [VR]), hr.new hf h2 h3⟩
    · rw [if_neg hc] at e2 ⊢
      exact Got.new hr hf h2 h3 e2

theorem bslice_ok (he : EV Z h ν e ee) (hr : HR K G Z h fl ν hV) (hf : fl ≤ h.length) {t : TypeId} {len : Nat} {parts : Array (Nat × Operand)} {v : V} {hV' : VH} (hv : vbslice2 P (K.cf.emt t) len hV (elemS P t) (vparts K e parts.toList) = some (v, hV')) : Got K G fl hV Z h ν v hV' (evOp P K.cf ce fl ee h (.buildSlice t len parts)) := by
  cases h1 : vparts K e parts.toList with
  | none => rw [h1] at hv; cases elemS P t <;> simp [vbslice2] at hv
  | some ps =>
    cases h0 : elemS P t with
    | none => rw [h0] at hv; simp [vbslice2] at hv
    | some el =>
      rw [h0, h1] at hv
      simp only [vbslice2] at hv
      obtain ⟨qs, h2, h3⟩ := vparts_rel he hr h1
      unfold vbslice1 at hv
      split at hv
      · rename_i s z hs hz
        split at hv
        · rename_i hc
          obtain ⟨c1, c2, c3⟩ := hc
          obtain ⟨a, h5, h6⟩ := zero_rel (Z := Z) (h := h) (ν := ν) hz
          obtain ⟨k1, k2⟩ := h6.cells c3
          cases h7 : vfill (fun i => some (i * s, s)) ps (some (vreps len z.cs)) with
          | none => rw [h7] at hv; simp [vmk?, vnewE] at hv
          | some l =>
            rw [h7] at hv
            obtain ⟨l', h8, h9⟩ := vfill_rel h3 (k2.rep len) h7
            refine vnewE_ok hr hf (o := mkO (kindOf P el) l') (fun y hy => vmkO_rel h9 hy) hv fun p hp => ?_
            simp only [evOp, h2, Option.bind_some, buildSliceA, h0, hs, h5]
            rw [if_pos ⟨c1, by rw [← k2.length]; exact c2⟩, h8, Option.bind_some, hp]
            rfl
        · simp at hv
      · simp at hv

theorem vload_ok (hr : HR K G Z h fl ν hV) {t : TypeId} {p v : V} {c : CV} (hp : VR Z h ν p c) (hv : vload P t hV (some p) = some v) : ∃ i off a, c = .ptr i off ∧ loadA P t h i off = some a ∧ VA' Z h ν v a := by
  cases p <;> simp only [vload] at hv <;> try (simp at hv; done)
  · simp only [VR] at hp
    obtain ⟨j, off, o, rfl, hz, h1, h2, h3⟩ := hp
    unfold vloadF at hv
    split at hv
    · rename_i s ha hs
      split at hv
      · rename_i hl; cases hv
        obtain ⟨hl0, hl⟩ := hl
        have h4 := h3.mono (ν := fun _ => none) (ν' := ν) (Z' := Z) (h' := h) (fun i j hi => by simp at hi) (fun _ x => x) (fun _ _ => rfl)
        cases o with
        | dead => simp [AO.cells] at h2; rw [h2.2] at hl; simp at hl; omega
        | ints k m =>
          refine ⟨j, off, .agg (((m.drop off).take s).map (.int k)), rfl, ?_, _, rfl, ?_⟩
          · simp only [loadA, ha, hs, h1, Option.bind_some, AO.sub]
            rw [if_pos (by simp [AO.cells] at h2; omega)]; rfl
          · have := h4.take s
            rw [List.take_take, Nat.min_eq_left hl] at this
            simpa [AO.cells, List.map_take, List.map_drop] using this
        | vals m =>
          refine ⟨j, off, .agg ((m.drop off).take s), rfl, ?_, _, rfl, ?_⟩
          · simp only [loadA, ha, hs, h1, Option.bind_some, AO.sub]
            rw [if_pos (by simp [AO.cells] at h2; omega)]; rfl
          · have := h4.take s
            rw [List.take_take, Nat.min_eq_left hl] at this
            simpa [AO.cells] using this
      · simp at hv
    · rename_i ha
      have h4 := h3.mono (ν := fun _ => none) (ν' := ν) (Z' := Z) (h' := h) (fun i j hi => by simp at hi) (fun _ x => x) (fun _ _ => rfl)
      obtain ⟨c, h5, h6⟩ := h4.get hv
      have hl0 := (List.getElem?_eq_some_iff.1 hv).1
      rw [List.getElem?_take_of_lt hl0, List.getElem?_drop] at h5
      refine ⟨j, off, .c c, rfl, ?_, .of h6⟩
      simp only [loadA, ha, ld_eq, h1, Option.bind_some]
      cases o with
      | dead => simp [AO.cells] at h5
      | ints k m => simp [AO.cells] at h5; simp [ldO]; exact h5
      | vals m => simp [AO.cells] at h5; simp [ldO]; exact h5
    · simp at hv
  · rename_i i off
    simp only [VR] at hp
    obtain ⟨j, hj, rfl⟩ := hp
    rcases ha : aggT P t with _ | (_ | _)
    · rw [ha] at hv; simp [vload1] at hv
    · rw [ha] at hv; simp only [vload1] at hv
      cases ho : hV[i]? with
      | none => rw [ho] at hv; simp [vat] at hv
      | some o =>
        rw [ho] at hv
        simp only [vat] at hv
        obtain ⟨p, h1, h2, _⟩ := hr.get hj ho (fun e => by subst e; simp [VO.at] at hv)
        obtain ⟨c, h3, h4⟩ := h2.at hv
        exact ⟨j, off, .c c, rfl, by simp [loadA, ha, ld_eq, h1, h3], .of h4⟩
    · cases hs : sizeT P t with
      | none => rw [ha, hs] at hv; simp [vload1] at hv
      | some s =>
        rw [ha, hs] at hv; simp only [vload1] at hv
        cases ho : hV[i]? with
        | none => rw [ho] at hv; simp [vobj] at hv
        | some o =>
          rw [ho] at hv
          simp only [vobj] at hv
          split at hv
          · rename_i x hx; cases hv
            obtain ⟨p, h1, h2, _⟩ := hr.get hj ho (sub_nd hx)
            obtain ⟨q, h3, h4⟩ := h2.sub hx
            exact ⟨j, off, .agg q.cells, rfl, by simp [loadA, ha, hs, h1, h3], aggA h4.cells⟩
          · simp at hv
theorem load_some {t : TypeId} {x : Option V} {v : V} (hv : vload P t hV x = some v) : ∃ p, x = some p ∧ p.atom = true ∧ vload P t hV (some p) = some v := by
  cases x with
  | none => simp [vload] at hv
  | some p => exact ⟨p, rfl, by cases p <;> first | rfl | (simp [vload] at hv), hv⟩
theorem load_ok (he : EV Z h ν e ee) (hr : HR K G Z h fl ν hV) {t : TypeId} {x : Operand} {v : V} (hv : vload P t hV (vev K e x) = some v) : Got K G fl hV Z h ν v hV (evOp P K.cf ce fl ee h (.load t x)) := by
  obtain ⟨p, h1, h2, h3⟩ := load_some hv
  obtain ⟨c, h4, h5⟩ := vevC_rel he hr h1 h2
  obtain ⟨i, off, a, rfl, h6, h7⟩ := vload_ok hr h5 h3
  exact Got.same hr h7 (by simp [evOp, h4, h6])

theorem store_ok (he : EV Z h ν e ee) (hr : HR K G Z h fl ν hV) {t : TypeId} {x y : Operand} {v : V} {hV' : VH} (hv : vstore P t hV (vev K e x) (vev K e y) = some (v, hV')) : Got K G fl hV Z h ν v hV' (evOp P K.cf ce fl ee h (.store t x y)) := by
  unfold vstore at hv
  split at hv
  · rename_i i off w hx hy
    obtain ⟨c, h4, h5⟩ := vevC_rel he hr hx rfl
    simp only [VR] at h5
    obtain ⟨j, hj, rfl⟩ := h5
    obtain ⟨a, h6, h7⟩ := vev_rel he hr hy
    cases hs : sizeT P t with
    | none => rw [hs] at hv; simp [vsto1] at hv
    | some s =>
      rw [hs] at hv
      simp only [vsto1] at hv
      split at hv
      · rename_i hc
        obtain ⟨c1, c2, c3⟩ := hc
        obtain ⟨k1, k2⟩ := h7.cells c1
        cases ho : hV[i]? with
        | none => rw [ho] at hv; simp [vsets, vsto2] at hv
        | some o =>
          rw [ho] at hv
          simp only [vsets] at hv
          cases hz : o.sets off w.cs with
          | none => rw [hz] at hv; simp [vsto2] at hv
          | some z =>
            rw [hz] at hv; simp only [vsto2] at hv; cases hv
            have hne : w.cs ≠ [] := fun e => by rw [e] at c2; simp at c2; omega
            have hnd : o ≠ .dead := fun e => by
              subst e
              cases hw : w.cs with
              | nil => exact hne hw
              | cons q r => rw [hw] at hz; simp [VO.sets, VO.set1] at hz
            obtain ⟨p, h8, h9, _⟩ := hr.get hj ho hnd
            obtain ⟨q, m1, m2, m3, m4⟩ := h9.sets k2 hz
            have hw : o.w = true := m3.resolve_left hne
            refine ⟨.tup [], h.set j q, ν, Z, ?_, by simp only [VA', VAs']; exact ⟨[], rfl, rfl⟩, hr.put hj ho hw (.inr ⟨m2, by rw [m4, hw]⟩)⟩
            simp only [evOp, h4, h6, Option.bind_some, storeA, hs, h8]
            rw [if_pos (hr.wfl hj ho hw), if_pos ⟨k1, by rw [← k2.length]; exact c2⟩, m1]
            rfl
      · simp at hv
  · simp at hv

theorem nlc_ok (he : EV Z h ν e ee) (hr : HR K G Z h fl ν hV) {x : Operand} {v : V} (hv : vnlc (vev K e x) = some v) : Got K G fl hV Z h ν v hV (evOp P K.cf ce fl ee h (.nilCheck x)) := by
  unfold vnlc at hv
  split at hv
  · rename_i i off hx; cases hv
    obtain ⟨c, h4, h5⟩ := vevC_rel he hr hx rfl
    have h6 := h5
    simp only [VR] at h6
    obtain ⟨j, hj, rfl⟩ := h6
    exact Got.same hr (.of h5) (by simp [evOp, h4])
  · rename_i l hx; cases hv
    obtain ⟨c, h4, h5⟩ := vevC_rel he hr hx rfl
    have h6 := h5
    simp only [VR] at h6
    obtain ⟨j, off, o, rfl, _⟩ := h6
    exact Got.same hr (.of h5) (by simp [evOp, h4])
  · simp at hv

theorem bin_ok (he : EV Z h ν e ee) (hr : HR K G Z h fl ν hV) {op : BinOp} {t t' : TypeId} {x y : Operand} {v : V} (hv : vbin P op t (vev K e x) (vev K e y) = some v) : Got K G fl hV Z h ν v hV (evOp P K.cf ce fl ee h (.binOp op t x y t')) := by
  unfold vbin at hv
  split at hv
  · rename_i p q hx hy
    cases ha : p.toC with
    | none => rw [ha] at hv; simp [vbin2] at hv
    | some a =>
      cases hb : q.toC with
      | none => rw [ha, hb] at hv; simp [vbin2] at hv
      | some b =>
        rw [ha, hb] at hv
        simp only [vbin2] at hv
        obtain ⟨r, h1, h2⟩ := toV1_rel (Z := Z) (h := h) (ν := ν) hv
        obtain ⟨c, h3, h4⟩ := vevC_rel he hr hx (toC_atom ha)
        obtain ⟨d, h5, h6⟩ := vevC_rel he hr hy (toC_atom hb)
        have := binE_rel h4 h6 ha hb h1
        exact Got.same hr (.of h2) (by simp [evOp, h3, h5, this])
  · simp at hv
theorem un_ok (he : EV Z h ν e ee) (hr : HR K G Z h fl ν hV) {op : UnOp} {t : TypeId} {x : Operand} {v : V} (hv : vun op (vev K e x) = some v) : Got K G fl hV Z h ν v hV (evOp P K.cf ce fl ee h (.unOp op t x)) := by
  unfold vun at hv
  split at hv
  · rename_i k n hx
    obtain ⟨r, h1, h2⟩ := toV1_rel (Z := Z) (h := h) (ν := ν) hv
    obtain ⟨c, h3, h4⟩ := vevC_rel he hr hx rfl
    obtain rfl := int_rel h4
    exact Got.same hr (.of h2) (by simp [evOp, h3, h1])
  · rename_i b hx
    obtain ⟨r, h1, h2⟩ := toV1_rel (Z := Z) (h := h) (ν := ν) hv
    obtain ⟨c, h3, h4⟩ := vevC_rel he hr hx rfl
    obtain rfl := bool_rel h4
    exact Got.same hr (.of h2) (by simp [evOp, h3, h1])
  · simp at hv

theorem vrdI_ok (hr : HR K G Z h fl ν hV) {k : IntKind} {v : V} {c : CV} {l : List Int} (hv : VR Z h ν v c) (hl : vrdI k hV v = some l) : rdI k h c = some l ∧ c.notStr = true := by
  cases v <;> simp only [vrdI] at hl <;> try (simp at hl; done)
  · simp only [VR] at hv; subst hv; cases hl; exact ⟨rfl, rfl⟩
  · split at hl
    · rename_i e1; cases hl
      simp only [VR] at hv
      rcases hv with ⟨rfl, rfl⟩ | ⟨j, off, m, rfl, h2, h3, h4, h5⟩
      · exact ⟨rfl, rfl⟩
      · subst e1
        refine ⟨?_, rfl⟩
        simp only [rdI, if_true, h3, Option.bind_some, sub_ints_of h4 h5]
    · simp at hl
  · split at hl
    · rename_i e1; subst e1
      simp only [VR] at hv
      rename_i i off len
      cases hs : vsub hV[i]? off len with
      | none => rw [hs] at hl; simp [vrdO] at hl
      | some y =>
        rw [hs] at hl
        obtain ⟨z, h3, h4⟩ := vsub_some hs
        rcases hv with ⟨rfl, rfl⟩ | ⟨j, hj, rfl⟩
        · have := sub_nil h4
          cases y with
          | ints w k' l' =>
            simp [VO.cells] at this; subst this
            simp only [vrdO] at hl
            split at hl
            · cases hl; exact ⟨rfl, rfl⟩
            · simp at hl
          | vals w l' => simp [vrdO] at hl
          | dead => simp [vrdO] at hl
        · obtain ⟨o, k1, k2, _⟩ := hr.get hj h3 (sub_nd h4)
          obtain ⟨o', k3, k4⟩ := k2.sub h4
          cases y with
          | ints w k' l' =>
            simp only [vrdO] at hl
            split at hl
            · rename_i e1; cases hl; subst e1
              rw [show o' = .ints _ _ from k4] at k3
              exact ⟨by simp [rdI, k1, k3], rfl⟩
            · simp at hl
          | vals w l' => simp [vrdO] at hl
          | dead => simp [vrdO] at hl
    · simp at hl
theorem rdI_src {k : IntKind} {c : CV} {l : List Int} (hl : rdI k h c = some l) : ∃ n, srcO (some k) 1 h c = some (.ints k l, n) := by
  unfold rdI at hl
  split at hl
  · cases hl; exact ⟨0, rfl⟩
  · rename_i i off len sz
    split at hl
    · rename_i e1; subst e1
      obtain ⟨o, h1, hl⟩ := Option.bind_eq_some_iff.1 hl
      obtain ⟨y, h2, hl⟩ := Option.bind_eq_some_iff.1 hl
      split at hl
      · split at hl
        · rename_i e1; cases hl; subst e1; exact ⟨len, by simp [srcO, h1, h2]⟩
        · simp at hl
      · simp at hl
    · simp at hl
  · rename_i i off len sz
    split at hl
    · rename_i e1; subst e1
      obtain ⟨o, h1, hl⟩ := Option.bind_eq_some_iff.1 hl
      obtain ⟨y, h2, hl⟩ := Option.bind_eq_some_iff.1 hl
      split at hl
      · split at hl
        · rename_i e1; cases hl; subst e1; exact ⟨len, by simp [srcO, h1, h2]⟩
        · simp at hl
      · simp at hl
    · simp at hl
  · simp at hl
theorem conv_ok (he : EV Z h ν e ee) (hr : HR K G Z h fl ν hV) (hf : fl ≤ h.length) {s d : TypeId} {x : Operand} {v : V} {hV' : VH} (hv : vconv P s d hV (vev K e x) = some (v, hV')) : Got K G fl hV Z h ν v hV' (evOp P K.cf ce fl ee h (.convert s d x)) := by
  cases hx : vev K e x with
  | none => rw [hx] at hv; simp [vconv] at hv
  | some p =>
    rw [hx] at hv
    simp only [vconv] at hv
    unfold vconvO at hv
    split at hv
    · rename_i r hr2
      cases hv
      have hv := hr2
      unfold vconv2 at hv
      split at hv
      · rename_i hs hd; cases hv
        obtain ⟨c, h3, h4⟩ := vevC_rel he hr hx rfl
        obtain rfl := int_rel h4
        exact Got.same hr (intA _ _) (by simp [evOp, h3, convB, convA, hs, hd, outC])
      · rename_i hs hd; cases hv
        obtain ⟨c, h3, h4⟩ := vevC_rel he hr hx rfl
        simp only [VR] at h4; subst h4
        exact Got.same hr (strA _) (by simp [evOp, h3, convB, convA, hs, hd, outC])
      · rename_i hs hd
        split at hv
        · rename_i hk; cases hv
          obtain ⟨c, h3, h4⟩ := vevC_rel he hr hx rfl
          simp only [VR] at h4; subst h4
          exact Got.new hr hf (bytes_rel _) rfl (by simp [evOp, h3, convB, convA, hs, hd, outC, hk])
        · simp at hv
      · rename_i hs hd
        split at hv
        · rename_i p q1 q2 q3 eT hk
          cases hl : vrdI .u8 hV p with
          | none => rw [hl] at hv; simp [vstrO] at hv
          | some l =>
            rw [hl] at hv; simp only [vstrO] at hv; cases hv
            obtain ⟨c, h3, h4⟩ := vevC_rel he hr hx (by cases p <;> first | rfl | (simp [vrdI] at hl))
            obtain ⟨k1, k2⟩ := vrdI_ok hr h4 hl
            obtain ⟨n, k3⟩ := rdI_src k1
            refine Got.same hr (strA _) ?_
            have : ∀ c : CV, c.notStr = true → convA P s d c h = if kindOf P _ = some .u8 ∧ c.notStr = true then (srcO (some .u8) 1 h c).bind fun o => match o.1 with
          | .ints .u8 l => some (.str ⟨(l.map fun n => UInt8.ofNat n.toNat).toArray⟩, h)
          | _ => none
      else none := fun c hc => by unfold convA; rw [hs, hd]; cases c <;> first | rfl | (simp [CV.notStr] at hc)
            simp only [evOp, h3, Option.bind_some, convB, this c k2, k3]
            rw [if_pos ⟨hk, k2⟩]
            rfl
        · simp at hv
      · simp at hv
    · unfold vconvS at hv
      split at hv
      · rename_i i off len sz hs hd hno
        split at hv
        · rename_i hc
          obtain ⟨c1, c2, c3, c4⟩ := hc
          cases hv
          obtain ⟨c, h3, h4⟩ := vevC_rel he hr hx rfl
          simp only [VR] at h4
          rcases h4 with ⟨e1, e2⟩ | ⟨j, hj, rfl⟩
          · omega
          · cases ho : hV[i]? with
            | none => rw [ho] at c4; simp [VO.wB] at c4
            | some o =>
              rw [ho] at c4
              simp only [VO.wB] at c4
              have hfl := hr.wfl hj ho c4
              have hlv : liveB h j = true := by
                have := hr.obj i j o hj ho
                unfold liveB
                cases o with
                | ints w k l => obtain ⟨_, _, m, hm⟩ := this; rw [hm]
                | vals w l => obtain ⟨_, _, l', m, hm, _⟩ := this; rw [hm]
                | dead => simp [VO.w] at c4
              refine Got.same hr (a := .c (.sl j off len sz)) (.of (by simp only [VR]; exact .inr ⟨j, hj, rfl⟩)) ?_
              simp [evOp, h3, convB, convA, convS, hs, hd, outC, c1, c2, c3, hfl, hlv]
        · simp at hv
      · simp at hv
theorem fn_ok (he : EV Z h ν e ee) (hr : HR K G Z h fl ν hV) {f : Fn} {a b : Array Operand} {v : V} (hv : vfn f (vevs K e a.toList) (vevs K e b.toList) = some v) : Got K G fl hV Z h ν v hV (evOp P K.cf ce fl ee h (.makeFunc f a b)) := by
  unfold vfn at hv
  split at hv
  · rename_i x y hx hy
    split at hv
    · rename_i hc; cases hv
      rw [Bool.and_eq_true] at hc
      obtain ⟨p, h1, h2⟩ := vevCs_rel he hr hx hc.1
      obtain ⟨q, h3, h4⟩ := vevCs_rel he hr hy hc.2
      exact Got.same hr (a := .c (.fn f p q)) (.of (by simp only [VR]; exact ⟨p, q, rfl, h2, h4⟩)) (by simp [evOp, h1, h3])
    · simp at hv
  · simp at hv
theorem make_ok (he : EV Z h ν e ee) (hr : HR K G Z h fl ν hV) (hf : fl ≤ h.length) {t : TypeId} {x y : Operand} {v : V} {hV' : VH} (hv : vmake P t hV (vev K e x) (vev K e y) = some (v, hV')) : Got K G fl hV Z h ν v hV' (evOp P K.cf ce fl ee h (.makeSlice t x y)) := by
  unfold vmake at hv
  split at hv
  · rename_i l c hx hy
    obtain ⟨cx, h1, h2⟩ := vevC_rel he hr hx rfl
    obtain rfl := int_rel h2
    obtain ⟨cy, h3, h4⟩ := vevC_rel he hr hy rfl
    obtain rfl := int_rel h4
    cases h0 : elemS P t with
    | none => rw [h0] at hv; simp [vmake1] at hv
    | some el =>
      rw [h0] at hv
      simp only [vmake1] at hv
      unfold vmake2 at hv
      split at hv
      · rename_i s b hs hb
        split at hv
        · rename_i hc
          obtain ⟨c1, c2, c3, c4, c5⟩ := hc
          refine vnewO_ok hr hf (o := zerosO P el l.toNat) (fun y hy => by obtain ⟨o, k1, k2, k3, _⟩ := vzo_rel (Z := Z) (h := h) (ν := ν) hy; exact ⟨o, k1, k2, k3⟩) hv fun p hp => ?_
          have hlen : p.cells.length = l.toNat * s := by
            cases hz : vzo (kindOf P el) (toV? (zeroT P el)) l.toNat with
            | none => rw [hz] at hv; simp [vnewO] at hv
            | some z =>
              obtain ⟨o, k1, k2, k3, k4⟩ := vzo_rel (Z := Z) (h := h) (ν := ν) hz
              rw [k1] at hp; cases hp
              rw [k4, ← hz]; exact c5
          simp only [evOp, h1, h3, Option.bind_some, makeSliceA, h0, hs, hb]
          rw [if_pos ⟨c1, c2, c3, c4⟩, hp]
          simp [hlen, outC]
        · simp at hv
      · simp at hv
  · simp at hv
theorem bound_rel (he : EV Z h ν e ee) (hr : HR K G Z h fl ν hV) {x : Option Operand} {d : Nat} {n : Int} (hv : vbound K e x d = some n) : ∃ b, evO K.cf ee x = some b ∧ bound b d = some n := by
  cases x with
  | none => simp only [vbound] at hv; cases hv; exact ⟨none, rfl, rfl⟩
  | some x =>
    simp only [vbound] at hv
    split at hv
    · rename_i k m hx; cases hv
      obtain ⟨c, h1, h2⟩ := vevC_rel he hr hx rfl
      obtain rfl := int_rel h2
      exact ⟨some (.int k n), by simp [evO, h1], rfl⟩
    · simp at hv
theorem len_atom {v : V} {n : Nat} (hl : v.len = some n) : v.atom = true := by
  cases v <;> first | rfl | (simp [V.len] at hl)
theorem cut_rel {t el : TypeId} {s : Nat} (hel : elemS P t = some el) (hs : sizeT P el = some s) {v w : V} {c : CV} {n : Nat} (hv : VR Z h ν v c) (hn : v.len = some n) {lo hi : Option CV} {l u : Int} (hlo : bound lo 0 = some l) (hhi : bound hi n = some u) (hw : vcut v s l u = some w) :
    ∃ d, sliceA P t c lo hi none = some d ∧ VR Z h ν w d := by
  have hnil : ∀ (hi0 : bound hi 0 = some u), l = 0 → u = 0 → sliceA P t .nil lo hi none = some .nil := fun hi0 e1 e2 => by
    simp [sliceA, hel, hs, hlo, hi0, e1, e2]
  cases v <;> simp only [vcut] at hw <;> try (simp at hw; done)
  · split at hw
    · rename_i hc; cases hw
      simp only [VR] at hv; subst hv
      simp only [V.len, Option.some.injEq] at hn; subst hn
      exact ⟨.nil, hnil hhi hc.1 hc.2, by simp only [VR]⟩
    · simp at hw
  · split at hw
    · rename_i hc; cases hw
      obtain ⟨rfl, c1, c2, c3⟩ := hc
      simp only [V.len, Option.some.injEq] at hn; subst hn
      simp only [VR] at hv
      rcases hv with ⟨rfl, rfl⟩ | ⟨j, off, m, rfl, h2, h3, h4, h5⟩
      · simp only [List.length_nil] at c3 hhi
        exact ⟨.nil, hnil hhi (by omega) (by omega), by simp [VR]⟩
      · rename_i k x
        have hL : ((x.drop l.toNat).take (u - l).toNat).length = (u - l).toNat := by rw [List.length_take, List.length_drop]; omega
        refine ⟨.sl j (off + l.toNat * 1) (u - l).toNat 1, by simp only [sliceA, hel, hs, hlo, hhi, Option.bind_some]; rw [if_pos ⟨trivial, c1, c2, c3⟩], ?_⟩
        simp only [VR]
        refine .inr ⟨j, _, m, by rw [hL], h2, h3, by rw [hL]; omega, ?_⟩
        rw [hL]
        conv => lhs; rw [h5]
        rw [List.drop_take, List.take_take, List.drop_drop, Nat.min_eq_left (by omega), Nat.mul_one]
    · simp at hw
  · split at hw
    · rename_i hc; cases hw
      obtain ⟨rfl, c1, c2, c3⟩ := hc
      simp only [V.len, Option.some.injEq] at hn; subst hn
      simp only [VR] at hv
      rcases hv with ⟨rfl, rfl, rfl⟩ | ⟨j, off, m, rfl, h2, h3, h4, h5⟩
      · exact ⟨.nil, hnil hhi (by omega) (by omega), by simp [VR]; omega⟩
      · rename_i N x
        have hb : l.toNat * s + (u - l).toNat * s ≤ N * s := by
          rw [← Nat.add_mul]; exact Nat.mul_le_mul_right _ (by omega)
        refine ⟨.sl j (off + l.toNat * s) (u - l).toNat s, by simp only [sliceA, hel, hs, hlo, hhi, Option.bind_some]; rw [if_pos ⟨trivial, c1, c2, c3⟩], ?_⟩
        simp only [VR]
        refine .inr ⟨j, _, m, rfl, h2, h3, by omega, ?_⟩
        have := (h5.drop (l.toNat * s)).take ((u - l).toNat * s)
        rwa [List.drop_take, List.take_take, List.drop_drop, Nat.min_eq_left (by omega)] at this
    · simp at hw
  · split at hw
    · rename_i hc; cases hw
      obtain ⟨rfl, c1, c2, c3⟩ := hc
      simp only [V.len, Option.some.injEq] at hn; subst hn
      simp only [VR] at hv
      rcases hv with ⟨rfl, rfl⟩ | ⟨j, hj, rfl⟩
      · exact ⟨.nil, hnil hhi (by omega) (by omega), by simp only [VR]; exact .inl ⟨by omega, trivial⟩⟩
      · refine ⟨.sl j _ _ _, by simp only [sliceA, hel, hs, hlo, hhi, Option.bind_some]; rw [if_pos ⟨trivial, c1, c2, c3⟩], ?_⟩
        simp only [VR]; exact .inr ⟨j, hj, rfl⟩
    · simp at hw
theorem vsize_some {x : Option TypeId} {s : Nat} (hs : vsize P x = some s) : ∃ el, x = some el ∧ sizeT P el = some s := by
  cases x with
  | none => simp [vsize] at hs
  | some el => exact ⟨el, rfl, hs⟩
theorem slice_ok (he : EV Z h ν e ee) (hr : HR K G Z h fl ν hV) {t : TypeId} {x : Operand} {lo hi : Option Operand} {v : V} (hv : vslice P K t e lo hi (vev K e x) = some v) : Got K G fl hV Z h ν v hV (evOp P K.cf ce fl ee h (.slice t x lo hi none)) := by
  cases hx : vev K e x with
  | none => rw [hx] at hv; simp [vslice] at hv
  | some p =>
    rw [hx] at hv
    simp only [vslice] at hv
    cases hn : p.len with
    | none => rw [hn] at hv; simp [vslice1] at hv
    | some n =>
      rw [hn] at hv
      simp only [vslice1] at hv
      unfold vcut1 at hv
      split at hv
      · rename_i s l u hs hl hu
        obtain ⟨el, h1, h2⟩ := vsize_some hs
        obtain ⟨b1, k1, k2⟩ := bound_rel he hr (d := 0) hl
        obtain ⟨b2, k3, k4⟩ := bound_rel he hr (d := n) hu
        obtain ⟨c, h3, h4⟩ := vevC_rel he hr hx (len_atom hn)
        obtain ⟨d, h5, h6⟩ := cut_rel h1 h2 h4 hn k2 k4 hv
        exact Got.same hr (.of h6) (by simp only [evOp, h3, k1, k3, Option.bind_some, show evO K.cf ee none = some none from rfl, h5, Option.map_some])
      · simp at hv
theorem fadd_ok (he : EV Z h ν e ee) (hr : HR K G Z h fl ν hV) {t : TypeId} {f : Nat} {x : Operand} {v : V} (hv : vfieldAddr P t f (vev K e x) = some v) : Got K G fl hV Z h ν v hV (evOp P K.cf ce fl ee h (.fieldAddr t x f)) := by
  cases hx : vev K e x with
  | none => rw [hx] at hv; simp [vfieldAddr] at hv
  | some p =>
    rw [hx] at hv
    simp only [vfieldAddr] at hv
    unfold vfadd at hv
    split at hv
    · rename_i i off q hq
      split at hv
      · rename_i hc; cases hv
        obtain ⟨c, h3, h4⟩ := vevC_rel he hr hx rfl
        simp only [VR] at h4
        obtain ⟨j, hj, rfl⟩ := h4
        exact Got.same hr (a := .c (.ptr j (off + q.1))) (.of (by simp only [VR]; exact ⟨j, hj, rfl⟩)) (by simp [evOp, h3, fieldAddrA, hq, hc])
      · simp at hv
    · rename_i l q hq
      split at hv
      · rename_i hc; cases hv
        obtain ⟨c, h3, h4⟩ := vevC_rel he hr hx rfl
        simp only [VR] at h4
        obtain ⟨j, off, o, rfl, hz, h5, h6, h7⟩ := h4
        refine Got.same hr (a := .c (.ptr j (off + q.1))) (.of ?_) (by simp [evOp, h3, fieldAddrA, hq, hc.1])
        simp only [VR]
        refine ⟨j, _, o, rfl, hz, h5, by rw [List.length_drop]; omega, ?_⟩
        have := h7.drop q.1
        rw [List.drop_take, List.drop_drop] at this
        rw [List.length_drop]; exact this
      · simp at hv
    · simp at hv
theorem fld_ok (he : EV Z h ν e ee) (hr : HR K G Z h fl ν hV) {t : TypeId} {f : Nat} {x : Operand} {v : V} (hv : vfield P t f (vev K e x) = some v) : Got K G fl hV Z h ν v hV (evOp P K.cf ce fl ee h (.field t x f)) := by
  unfold vfield at hv
  split at hv
  · rename_i l hx
    obtain ⟨a, h1, h2⟩ := vev_rel he hr hx
    simp only [VA'] at h2
    obtain ⟨cs, rfl, h3⟩ := h2
    unfold vfld at hv
    split at hv
    · rename_i o s hq
      split at hv
      · rename_i hc; cases hv
        exact Got.same hr (aggA ((h3.drop o).take s)) (by simp only [evOp, h1, fieldA, hq, Option.bind_some, if_true]; rw [if_pos (by rw [← h3.length]; exact hc)]; rfl)
      · simp at hv
    · rename_i o s hq
      obtain ⟨c, h4, h5⟩ := h3.get hv
      exact Got.same hr (a := .c c) (.of h5) (by simp [evOp, h1, fieldA, hq, h4])
    · simp at hv
  · simp at hv
theorem idx_ok (he : EV Z h ν e ee) (hr : HR K G Z h fl ν hV) {t : TypeId} {x ix : Operand} {v : V} (hv : vindexAddr P t (vev K e x) (vev K e ix) = some v) : Got K G fl hV Z h ν v hV (evOp P K.cf ce fl ee h (.indexAddr t x ix)) := by
  unfold vindexAddr at hv
  split at hv
  · rename_i l k n hx hi
    obtain ⟨ci, h1, h2⟩ := vevC_rel he hr hi rfl
    obtain rfl := int_rel h2
    unfold vidxF at hv
    split at hv
    · rename_i len el hu
      unfold vidxF2 at hv
      split at hv
      · rename_i s hs
        split at hv
        · rename_i hc; cases hv
          obtain ⟨c1, c2, c3⟩ := hc
          obtain ⟨c, h3, h4⟩ := vevC_rel he hr hx rfl
          simp only [VR] at h4
          obtain ⟨j, off, o, rfl, hz, h5, h6, h7⟩ := h4
          refine Got.same hr (a := .c (.ptr j (off + n.toNat * s))) (.of ?_) (by simp only [evOp, h3, h1, Option.bind_some, indexAddrA, hu, hs]; rw [if_pos ⟨c1, c2⟩]; rfl)
          simp only [VR]
          refine ⟨j, _, o, rfl, hz, h5, by rw [List.length_drop]; omega, ?_⟩
          have := h7.drop (n.toNat * s)
          rw [List.drop_take, List.drop_drop] at this
          rw [List.length_drop]; exact this
        · simp at hv
      · simp at hv
    · simp at hv
  · rename_i p k n _ hx hi
    obtain ⟨ci, h1, h2⟩ := vevC_rel he hr hi rfl
    obtain rfl := int_rel h2
    cases hs : vsize P (elemS P t) with
    | none => rw [hs] at hv; simp [vidx1] at hv
    | some s =>
      rw [hs] at hv
      simp only [vidx1] at hv
      obtain ⟨el, hel, hse⟩ := vsize_some hs
      unfold vidx at hv
      split at hv
      · rename_i i off len sz _
        split at hv
        · rename_i hc; cases hv
          obtain ⟨rfl, c1, c2⟩ := hc
          obtain ⟨c, h3, h4⟩ := vevC_rel he hr hx rfl
          simp only [VR] at h4
          rcases h4 with ⟨rfl, _⟩ | ⟨j, hj, rfl⟩
          · omega
          · refine Got.same hr (a := .c (.ptr j (off + n.toNat * s))) (.of (by simp only [VR]; exact ⟨j, hj, rfl⟩)) ?_
            simp only [evOp, h3, h1, Option.bind_some, indexAddrA, hel, hse]
            rw [if_pos ⟨trivial, c1, c2⟩]; rfl
        · simp at hv
      · rename_i k' l _
        split at hv
        · rename_i hc; cases hv
          obtain ⟨rfl, c1, c2⟩ := hc
          obtain ⟨c, h3, h4⟩ := vevC_rel he hr hx rfl
          simp only [VR] at h4
          rcases h4 with ⟨_, rfl⟩ | ⟨j, off, m, rfl, h5, h6, h7, h8⟩
          · simp at c2; omega
          · refine Got.same hr (a := .c (.ptr j (off + n.toNat * 1))) (.of ?_) ?_
            · simp only [VR]
              refine ⟨j, _, _, rfl, h5, h6, by simp [AO.cells]; omega, ?_⟩
              have hg : m[off + n.toNat]? = some (gt l n.toNat) := by
                have : l[n.toNat]? = m[off + n.toNat]? := by
                  conv => lhs; rw [h8]
                  rw [List.getElem?_take_of_lt (by omega), List.getElem?_drop]
                rw [← this, gt_some (by omega)]
              simp only [AO.cells, List.length_singleton, Nat.mul_one]
              have : ((m.map (CV.int k')).drop (off + n.toNat)).take 1 = [.int k' (gt l n.toNat)] := by
                apply List.ext_getElem?
                intro i
                cases i with
                | zero => simp [hg]
                | succ i => simp; omega
              rw [this]; simp only [VRs]; exact ⟨_, [], rfl, by simp only [VR], rfl⟩
            · simp only [evOp, h3, h1, Option.bind_some, indexAddrA, hel, hse]
              rw [if_pos ⟨trivial, c1, c2⟩]; rfl
        · simp at hv
      · rename_i sz N l _
        split at hv
        · rename_i hc; cases hv
          obtain ⟨rfl, c1, c2⟩ := hc
          obtain ⟨c, h3, h4⟩ := vevC_rel he hr hx rfl
          simp only [VR] at h4
          rcases h4 with ⟨_, rfl, _⟩ | ⟨j, off, m, rfl, h5, h6, h7, h8⟩
          · omega
          · have hb : n.toNat * s + s ≤ N * s := by
              have := Nat.mul_le_mul_right s (show n.toNat + 1 ≤ N by omega)
              rwa [Nat.add_mul, Nat.one_mul] at this
            have hl : l.length = N * s := by rw [h8.length, List.length_take, List.length_drop]; omega
            have hL : ((l.drop (n.toNat * s)).take s).length = s := by rw [List.length_take, List.length_drop]; omega
            refine Got.same hr (a := .c (.ptr j (off + n.toNat * s))) (.of ?_) ?_
            · simp only [VR]
              refine ⟨j, _, _, rfl, h5, h6, by rw [hL]; simp only [AO.cells]; omega, ?_⟩
              have := (h8.drop (n.toNat * s)).take s
              rw [List.drop_take, List.take_take, List.drop_drop, Nat.min_eq_left (by omega)] at this
              rw [hL]; exact this
            · simp only [evOp, h3, h1, Option.bind_some, indexAddrA, hel, hse]
              rw [if_pos ⟨trivial, c1, c2⟩]; rfl
        · simp at hv
      · simp at hv
  · simp at hv
theorem str_rel {v : V} {c : CV} {s : ByteArray} (hr : VR Z h ν v c) (hc : v.toC = some (.str s)) : c = .str s := by
  rcases toC_rel hr hc with rfl | ⟨_, _, _, _, _, _, _, _, h, _⟩
  · rfl
  · cases h
theorem intC_rel {v : V} {c : CV} {k : IntKind} {n : Int} (hr : VR Z h ν v c) (hc : v.toC = some (.int k n)) : c = .int k n := by
  rcases toC_rel hr hc with rfl | ⟨_, _, _, _, _, _, _, _, h, _⟩
  · rfl
  · cases h
theorem index_ok (he : EV Z h ν e ee) (hr : HR K G Z h fl ν hV) {t : TypeId} {x ix : Operand} {v : V} (hv : vindex P t (vev K e x) (vev K e ix) = some v) : Got K G fl hV Z h ν v hV (evOp P K.cf ce fl ee h (.index t x ix)) := by
  unfold vindex at hv
  split at hv
  · rename_i p q hx hy
    split at hv
    · rename_i a b ha hb
      obtain ⟨r, h1, h2⟩ := toV1_rel (Z := Z) (h := h) (ν := ν) hv
      obtain ⟨c, h3, h4⟩ := vevC_rel he hr hx (toC_atom ha)
      obtain ⟨d, h5, h6⟩ := vevC_rel he hr hy (toC_atom hb)
      have h1' := h1
      unfold indexA at h1'
      split at h1'
      · rw [str_rel h4 ha] at h3
        rw [intC_rel h6 hb] at h5
        exact Got.same hr (.of h2) (by simp [evOp, h3, h5, h1])
      · simp at h1'
    · simp at hv
  · simp at hv
theorem extract_ok (he : EV Z h ν e ee) (hr : HR K G Z h fl ν hV) {x : Operand} {i : Nat} {v : V} (hv : vextract (vev K e x) i = some v) : Got K G fl hV Z h ν v hV (evOp P K.cf ce fl ee h (.extract x i)) := by
  unfold vextract at hv
  split at hv
  · rename_i i q1 q2 l hx
    obtain ⟨a, h1, h2⟩ := vev_rel he hr hx
    simp only [VA'] at h2
    obtain ⟨as, rfl, h3⟩ := h2
    obtain ⟨h4, h5⟩ := VAs'_iff.1 h3
    have hi := (List.getElem?_eq_some_iff.1 hv).1
    have ha : as[i]? = some as[i] := List.getElem?_eq_getElem (by omega)
    exact Got.same hr (h5 i v _ hv ha) (by simp [evOp, h1, extractA, ha])
  · simp at hv
end
end Go.Eng
end
section
/- The value engine: appending, calls, code; it is the engine's. No conditions. -/
namespace Go.Eng
section
variable {Z Z' : Nat → Prop} {h h' : AH} {ν ν' : Nat → Option Nat} {hV : VH} {fl : Nat} {e : VE} {ee : Env} {P : Program} {K : Kn} {G : Nat → Prop} {cv : CallV} {ce : CallF}

theorem vsrc_atom {ko : Option IntKind} {size : Nat} {v : V} {r : VO × Nat} (hs : vsrc ko size hV v = some r) : v.atom = true := by
  cases v <;> first | rfl | (simp [vsrc] at hs)
theorem vnew_rel (hr : HR K G Z h fl ν hV) {el : TypeId} {size : Nat} {zs : Option Bool} {v : V} {c : CV} {x : VO} {n : Nat} (hv : VR Z h ν v c) (hs : vnew P el size hV zs v = some (x, n)) :
    ∃ z o, zs = some z ∧ newO P el size z h c = some (o, n) ∧ OO Z h ν x o := by
  unfold vnew at hs
  split at hs
  · rename_i m
    split at hs
    · rename_i hc
      obtain ⟨c1, c2, c3⟩ := hc
      obtain ⟨y, h1, h2⟩ := vpair_some hs
      cases h2
      obtain ⟨o, k1, k2, k3, k4⟩ := vzo_rel (Z := Z) (h := h) (ν := ν) h1
      rw [int_rel hv]
      refine ⟨true, o, rfl, ?_, k2⟩
      simp only [newO, if_true]
      rw [if_pos ⟨c1, c2⟩, k1, Option.bind_some, if_pos (by rw [k4, ← h1]; exact c3)]
    · simp at hs
  · obtain ⟨o, h1, h2⟩ := vsrc_rel hr hv hs
    exact ⟨false, o, rfl, by simp [newO, h1], h2⟩
  · simp at hs
theorem app_ok (he : EV Z h ν e ee) (hr : HR K G Z h fl ν hV) (hf : fl ≤ h.length) {l : List Operand} {sT xT : Option TypeId} {v : V} {hV' : VH} {pb : AK} (hv : vapp0 pb P sT xT hV (vevs K e l) = some (v, hV')) :
    Got K G fl hV Z h ν v hV' ((evCs K.cf ee l).bind fun args => match args with | [s, x] => sT.bind fun t => outC (appendB pb P fl t xT s x h) | _ => none) := by
  cases h0 : vevs K e l with
  | none => rw [h0] at hv; simp [vapp0] at hv
  | some args =>
    rw [h0] at hv
    simp only [vapp0] at hv
    cases hpa : vpapp pb args with
    | false => rw [hpa] at hv; simp [vapp9] at hv
    | true =>
    rw [hpa] at hv
    simp only [vapp9] at hv
    unfold vappend at hv
    split at hv
    · rename_i s x
      split at hv
      · rename_i t
        unfold vapp1 at hv
        split at hv
        · rename_i el hel
          unfold vapp2 at hv
          split at hv
          · rename_i size b z hs hb hz
            unfold vapp3 at hv
            split at hv
            · rename_i nw old hnw hold
              obtain ⟨x1, n1⟩ := nw
              obtain ⟨x2, n2, g⟩ := old
              have hxa : x.atom = true := by
                unfold vnew at hnw
                split at hnw
                · rfl
                · exact vsrc_atom hnw
                · simp at hnw
              have hsa : s.atom = true := by cases s <;> first | rfl | (simp [vold] at hold)
              obtain ⟨cs, h1, h2⟩ := vevCs_rel he hr h0 (by simp [hxa, hsa])
              simp only [VRs] at h2
              obtain ⟨c1, _, rfl, hc1, c2, _, rfl, hc2, rfl⟩ := h2
              split at hv
              · rename_i hc
                obtain ⟨q0, q1, q2, q3⟩ := hc
                obtain ⟨a, h5, h6⟩ := zero_rel (Z := Z) (h := h) (ν := ν) hz
                have hz1 : z.one = true ∧ z.cs.length = size := ⟨q0, q1⟩
                obtain ⟨k1, k2⟩ := h6.cells hz1.1
                obtain ⟨zb, o1, e1, e2, e3⟩ := vnew_rel hr hc2 hnw
                obtain ⟨o2, hh, e4, e5, ext, e6, e7⟩ := vold_rel (P := P) (el := el) hr rfl hc1 hold
                unfold vcatO at hv
                split at hv
                · rename_i y hy; cases hv
                  obtain ⟨q, m1, m2, m3⟩ := OO.cat (e5.mono (fun _ _ x => x) (fun _ x => x) ext.keep) (e3.mono (fun _ _ x => x) (fun _ x => x) ext.keep) hy
                  have hn := ext.hr.new (by rw [e6]; exact hf) m2 m3
                  rw [e6, e7] at hn
                  refine ⟨.c (.sl h.length 0 (n2 + n1) size), _, _, _, ?_, .of (by simp only [VR]; exact .inr ⟨_, by rw [e7]; exact upd_self _ _ _, rfl⟩), ext.trans hn (Nat.le_refl _)⟩
                  have hfr : pb.ok c1 = true := by
                    cases pb with
                    | no => rfl
                    | pure =>
                      simp only [vpapp] at hpa
                      cases s <;> first | (simp [V.fresh] at hpa; done) | (simp only [VR] at hc1; subst hc1; simp [AK.ok, CV.fresh])
                    | late =>
                      simp only [vpapp] at hpa
                      cases s <;> first | (simp [V.solid] at hpa; done) | (simp only [VR] at hc1; subst hc1; simp [AK.ok, CV.solid]; done) | skip
                      simp only [V.solid, decide_eq_true_eq] at hpa
                      simp only [VR] at hc1
                      rcases hc1 with ⟨h0, _⟩ | ⟨q, _, rfl⟩
                      · omega
                      · simp [AK.ok, CV.solid, hpa]
                  simp only [h1, Option.bind_some, appendB, if_pos hfr, appendA, hel, hs, hb, h5, e1, e2, e4]
                  rw [if_pos ⟨by rw [← k2.length]; exact hz1.2, q2, q3⟩, m1]
                  rfl
                · simp at hv
              · simp at hv
            · simp at hv
          · simp at hv
        · simp at hv
      · simp at hv
    · simp at hv
theorem notStr_rel {v : V} {c : CV} (hv : VR Z h ν v c) (hn : v.notStr = true) : c.notStr = true := by
  cases v <;> simp only [VR] at hv <;> first | (subst hv; rfl) | (simp [V.notStr] at hn; done) | skip
  · rcases hv with ⟨rfl, _⟩ | ⟨_, _, _, rfl, _⟩ <;> rfl
  · rcases hv with ⟨rfl, _⟩ | ⟨_, _, _, rfl, _⟩ <;> rfl
  · obtain ⟨_, _, _, rfl, _⟩ := hv; rfl
  · rcases hv with ⟨_, rfl⟩ | ⟨_, _, rfl⟩ <;> rfl
  · obtain ⟨_, _, rfl⟩ := hv; rfl
  · obtain ⟨_, _, rfl, _⟩ := hv; rfl
theorem copy_ok (he : EV Z h ν e ee) (hr : HR K G Z h fl ν hV) (hf : fl ≤ h.length) {l : List Operand} {sT : Option TypeId} {v : V} {hV' : VH} (hv : vcopy0 P hV sT (vevs K e l) = some (v, hV')) :
    Got K G fl hV Z h ν v hV' ((evCs K.cf ee l).bind fun args => match args with | [d, s] => sT.bind fun t => outC (copyA P fl t d s h) | _ => none) := by
  cases h0 : vevs K e l with
  | none => rw [h0] at hv; simp [vcopy0] at hv
  | some args =>
    rw [h0] at hv
    simp only [vcopy0] at hv
    unfold vcopy1 at hv
    split at hv
    · rename_i t i off len sz s
      split at hv
      · rename_i hsz
        subst hsz
        cases hel : elemS P t with
        | none => rw [hel] at hv; simp [vcopy2] at hv
        | some el =>
          rw [hel] at hv
          simp only [vcopy2] at hv
          split at hv
          · rename_i hc
            obtain ⟨hs1, hns⟩ := hc
            cases hsr : vsrc (kindOf P el) 1 hV s with
            | none => rw [hsr] at hv; simp [vcopy3] at hv
            | some r =>
              obtain ⟨x, n⟩ := r
              rw [hsr] at hv
              simp only [vcopy3] at hv
              have hsa := vsrc_atom hsr
              obtain ⟨cs, h1, h2⟩ := vevCs_rel he hr h0 (by simp [hsa, show (V.sl i off len 1).atom = true from rfl])
              simp only [VRs] at h2
              obtain ⟨c1, _, rfl, hc1, c2, _, rfl, hc2, rfl⟩ := h2
              obtain ⟨o, e1, e2⟩ := vsrc_rel hr hc2 hsr
              have hns2 := notStr_rel hc2 hns
              simp only [h1, Option.bind_some, copyA, hel]
              rw [if_pos ⟨hs1, hns2⟩, e1, Option.bind_some]
              simp only [VR] at hc1
              by_cases hm : min n len = 0
              · rw [if_pos hm] at hv
                simp only [Option.some.injEq, Prod.mk.injEq] at hv
                obtain ⟨rfl, rfl⟩ := hv
                rcases hc1 with ⟨_, rfl⟩ | ⟨j, _, rfl⟩
                · exact Got.same hr (a := .c (.int .i64 0)) (.of (intR _ _)) rfl
                · refine Got.same hr (a := .c (.int .i64 0)) (.of (intR _ _)) ?_
                  simp only [if_true]
                  rw [if_pos hm]; rfl
              · rw [if_neg hm] at hv
                split at hv
                case isFalse => simp at hv
                rename_i hxl
                cases ho : hV[i]? with
                | none => rw [ho] at hv; simp [vsets, vcopy4] at hv
                | some y =>
                  rw [ho] at hv
                  simp only [vsets] at hv
                  cases hz : y.sets off (x.cells.take (min n len)) with
                  | none => rw [hz] at hv; simp [vcopy4] at hv
                  | some z =>
                    rw [hz] at hv; simp only [vcopy4, Option.some.injEq, Prod.mk.injEq] at hv
                    obtain ⟨rfl, rfl⟩ := hv
                    have k2 := e2.cells.take (min n len)
                    rcases hc1 with ⟨hz0, _⟩ | ⟨j, hj, rfl⟩
                    · omega
                    · have hne : x.cells.take (min n len) ≠ [] := fun e => by
                        have := congrArg List.length e
                        rw [List.length_take, List.length_nil] at this
                        omega
                      have hnd : y ≠ .dead := fun e => by
                        subst e
                        cases hw : x.cells.take (min n len) with
                        | nil => exact hne hw
                        | cons q r => rw [hw] at hz; simp [VO.sets, VO.set1] at hz
                      obtain ⟨p, h8, h9, _⟩ := hr.get hj ho hnd
                      obtain ⟨q, m1, m2, m3, m4⟩ := h9.sets k2 hz
                      have hw : y.w = true := m3.resolve_left hne
                      refine ⟨.c (.int .i64 (min n len : Nat)), h.set j q, ν, Z, ?_, .of (intR _ _), hr.put hj ho hw (.inr ⟨m2, by rw [m4, hw]⟩)⟩
                      simp only [if_true]
                      rw [if_neg hm, if_pos (hr.wfl hj ho hw), h8, Option.bind_some, m1]
                      rfl
          · simp at hv
      · simp at hv
    · simp at hv
theorem len_ok (he : EV Z h ν e ee) (hr : HR K G Z h fl ν hV) {l : List Operand} {tT : Option TypeId} {v : V} (hv : vlen1 P tT (vevs K e l) = some v) :
    Got K G fl hV Z h ν v hV ((evCs K.cf ee l).bind fun args => match args with | [x] => (tT.bind fun t => lenA P t x).map fun v => (.c v, h) | _ => none) := by
  cases h0 : vevs K e l with
  | none => rw [h0] at hv; simp [vlen1] at hv
  | some args =>
    rw [h0] at hv
    simp only [vlen1] at hv
    unfold vlenA at hv
    split at hv
    · rename_i t x
      have hxa : x.atom = true := by
        unfold vlenT at hv
        split at hv <;> first | rfl | (simp at hv)
      obtain ⟨cs, h1, h2⟩ := vevCs_rel he hr h0 (by simp [hxa])
      simp only [VRs] at h2
      obtain ⟨c1, _, rfl, hc1, rfl⟩ := h2
      have : ∃ c, lenA P t c1 = some c ∧ VR Z h ν v c := by
        unfold vlenT at hv
        split at hv <;> (try (simp at hv; done)) <;> cases hv <;> rename_i hu <;> simp only [VR] at hc1
        · subst hc1; exact ⟨_, by unfold lenA; rw [hu] <;> rfl, intR _ _⟩
        · subst hc1; exact ⟨_, by unfold lenA; rw [hu] <;> rfl, intR _ _⟩
        · rcases hc1 with ⟨rfl, rfl⟩ | ⟨j, _, rfl⟩
          · exact ⟨_, by unfold lenA; rw [hu] <;> rfl, intR _ _⟩
          · exact ⟨_, by unfold lenA; rw [hu] <;> rfl, intR _ _⟩
        · rcases hc1 with ⟨rfl, rfl⟩ | ⟨j, off, m, rfl, _⟩
          · exact ⟨_, by unfold lenA; rw [hu] <;> rfl, intR _ _⟩
          · exact ⟨_, by unfold lenA; rw [hu] <;> rfl, intR _ _⟩
        · rcases hc1 with ⟨rfl, rfl, rfl⟩ | ⟨j, off, m, rfl, _⟩
          · exact ⟨_, by unfold lenA; rw [hu] <;> rfl, intR _ _⟩
          · exact ⟨_, by unfold lenA; rw [hu] <;> rfl, intR _ _⟩
      obtain ⟨c, k1, k2⟩ := this
      exact Got.same hr (.of k2) (by simp [h1, k1])
    · simp at hv
theorem mm_ok (he : EV Z h ν e ee) (hr : HR K G Z h fl ν hV) {l : List Operand} {mx : Bool} {v : V} (hv : vmm mx (vevs K e l) = some v) :
    Got K G fl hV Z h ν v hV ((evCs K.cf ee l).bind fun args => (minmaxA mx args).map fun v => (.c v, h)) := by
  cases h0 : vevs K e l with
  | none => rw [h0] at hv; simp [vmm] at hv
  | some args =>
    rw [h0] at hv
    simp only [vmm] at hv
    unfold vminmax at hv
    split at hv
    · rename_i k x k' y; cases hv
      obtain ⟨cs, h1, h2⟩ := vevCs_rel he hr h0 (by simp [V.atom])
      simp only [VRs] at h2
      obtain ⟨c1, _, rfl, hc1, c2, _, rfl, hc2, rfl⟩ := h2
      obtain rfl := int_rel hc1
      obtain rfl := int_rel hc2
      exact Got.same hr (intA _ _) (by simp [h1, minmaxA])
    · simp at hv

/-! ### calls of what is pure -/
theorem noFz_rel : ∀ (n : Nat) (v : V) (c : CV), V.noFz n v = true → VR Z h ν v c → VR Z' h' ν v c
  | n, .bool b, c, _, hr => by simpa only [VR] using hr
  | n, .int k m, c, _, hr => by simpa only [VR] using hr
  | n, .str s, c, _, hr => by simpa only [VR] using hr
  | n, .nil, c, _, hr => by simpa only [VR] using hr
  | n, .em, c, _, hr => by simpa only [VR] using hr
  | n, .ints k l, c, hn, hr => by unfold V.noFz at hn; simp at hn
  | n, .cells sz m l, c, hn, hr => by unfold V.noFz at hn; simp at hn
  | n, .fptr l, c, hn, hr => by unfold V.noFz at hn; simp at hn
  | n, .sl i off len sz, c, _, hr => by simpa only [VR] using hr
  | n, .ptr i off, c, _, hr => by simpa only [VR] using hr
  | 0, .fn f a b, c, hn, hr => by simp [V.noFz] at hn
  | n + 1, .fn f a b, c, hn, hr => by
    simp only [V.noFz, Bool.and_eq_true] at hn
    simp only [VR] at hr ⊢
    obtain ⟨p, q, e1, h1, h2⟩ := hr
    have key : ∀ (l : List V) (cs : List CV), l.all (V.noFz n) = true → VRs Z h ν l cs → VRs Z' h' ν l cs := by
      intro l cs hl hr
      obtain ⟨k1, k2⟩ := VRs_iff.1 hr
      exact VRs_iff.2 ⟨k1, fun i v c hv hc => noFz_rel n v c (List.all_eq_true.1 hl v (List.mem_of_getElem? hv)) (k2 i v c hv hc)⟩
    exact ⟨p, q, e1, key a p hn.1 h1, key b q hn.2 h2⟩
  | n, .agg l, c, _, hr => by simp only [VR] at hr
  | n, .tup l, c, _, hr => by simp only [VR] at hr
theorem noFzs_rel {n : Nat} {l : List V} {cs : List CV} (hl : l.all (V.noFz n) = true) (hr : VRs Z h ν l cs) : VRs Z' h' ν l cs := by
  obtain ⟨k1, k2⟩ := VRs_iff.1 hr
  exact VRs_iff.2 ⟨k1, fun i v c hv hc => noFz_rel n v c (List.all_eq_true.1 hl v (List.mem_of_getElem? hv)) (k2 i v c hv hc)⟩
theorem noFzA_rel : ∀ (n : Nat) (v : V) (a : AV), V.noFz n v = true → VA' Z h ν v a → VA' Z' h' ν v a
  | 0, .agg l, a, hn, ha => by simp [V.noFz] at hn
  | 0, .tup l, a, hn, ha => by simp [V.noFz] at hn
  | n + 1, .agg l, a, hn, ha => by
    simp only [V.noFz] at hn
    simp only [VA'] at ha ⊢
    obtain ⟨cs, e1, hr⟩ := ha
    exact ⟨cs, e1, noFzs_rel hn hr⟩
  | n + 1, .tup l, a, hn, ha => by
    simp only [V.noFz] at hn
    simp only [VA'] at ha ⊢
    obtain ⟨as, e1, hr⟩ := ha
    obtain ⟨k1, k2⟩ := VAs'_iff.1 hr
    exact ⟨as, e1, VAs'_iff.2 ⟨k1, fun i v c hv hc => noFzA_rel n v c (List.all_eq_true.1 hn v (List.mem_of_getElem? hv)) (k2 i v c hv hc)⟩⟩
  | n, .bool b, a, hn, ha => by obtain ⟨c, rfl, hr⟩ := (VA'.atom rfl).1 ha; exact .of (noFz_rel n _ c hn hr)
  | n, .int k m, a, hn, ha => by obtain ⟨c, rfl, hr⟩ := (VA'.atom rfl).1 ha; exact .of (noFz_rel n _ c hn hr)
  | n, .str s, a, hn, ha => by obtain ⟨c, rfl, hr⟩ := (VA'.atom rfl).1 ha; exact .of (noFz_rel n _ c hn hr)
  | n, .nil, a, hn, ha => by obtain ⟨c, rfl, hr⟩ := (VA'.atom rfl).1 ha; exact .of (noFz_rel n _ c hn hr)
  | n, .ints k l, a, hn, ha => by obtain ⟨c, rfl, hr⟩ := (VA'.atom rfl).1 ha; exact .of (noFz_rel n _ c hn hr)
  | n, .cells sz m l, a, hn, ha => by obtain ⟨c, rfl, hr⟩ := (VA'.atom rfl).1 ha; exact .of (noFz_rel n _ c hn hr)
  | n, .fptr l, a, hn, ha => by obtain ⟨c, rfl, hr⟩ := (VA'.atom rfl).1 ha; exact .of (noFz_rel n _ c hn hr)
  | n, .sl i off len sz, a, hn, ha => by obtain ⟨c, rfl, hr⟩ := (VA'.atom rfl).1 ha; exact .of (noFz_rel n _ c hn hr)
  | n, .ptr i off, a, hn, ha => by obtain ⟨c, rfl, hr⟩ := (VA'.atom rfl).1 ha; exact .of (noFz_rel n _ c hn hr)
  | n, .fn f p q, a, hn, ha => by obtain ⟨c, rfl, hr⟩ := (VA'.atom rfl).1 ha; exact .of (noFz_rel n _ c hn hr)
  | n, .np, a, hn, ha => ha
  | n, .em, a, hn, ha => by obtain ⟨c, rfl, hr⟩ := (VA'.atom rfl).1 ha; exact .of (noFz_rel n _ c hn hr)

theorem ro_ro (x : VO) : x.ro.ro = x.ro := by cases x <;> rfl
theorem roM_len : ∀ (S : List Nat) (hV : VH), (roM hV S).length = hV.length
  | [], _ => rfl
  | i :: r, hV => by rw [roM, roM_len r]; simp
theorem roM_get : ∀ (S : List Nat) (hV : VH) (k : Nat), (roM hV S)[k]? = (hV[k]?).map fun x => if k ∈ S then x.ro else x
  | [], hV, k => by simp [roM]
  | i :: r, hV, k => by
    rw [roM, roM_get r, List.getElem?_modify]
    cases hV[k]? with
    | none => simp
    | some x =>
      by_cases e1 : i = k
      · subst e1
        by_cases e2 : i ∈ r
        · simp [e2, ro_ro]
        · simp [e2]
      · have : ¬ k = i := fun h => e1 h.symm
        simp [e1, this]

def both (ν ν0 : Nat → Option Nat) (n : Nat) : Nat → Option Nat := fun k => if k < n then ν k else ν0 (k - n)

/-- What a call of what is pure leaves is laid behind what there was. -/
theorem land_ok (hr : HR K G Z h fl ν hV) (hf : fl ≤ h.length) {Z0 Z2 : Nat → Prop} {ν0 : Nat → Option Nat} {o0 o : VH} {G0 : Nat → Prop} (h0 : HR K G0 Z0 h' h.length ν0 o0) (hl : h.length ≤ h'.length) (hp : ∀ i, i < h.length → h'[i]? = h[i]?)
    (hge : ∀ i j, ν0 i = some j → h.length ≤ j) (ho : omap (vshO hV.length) o0 = some o) {g : VH} (hgl : g.length = hV.length)
    (z1 : ∀ j, Z j → Z2 j) (z2 : ∀ j, Z2 j → Z j ∨ fl ≤ j) (z3 : ∀ j, Z2 j → j < h'.length)
    (hold : ∀ i j x, ν i = some j → g[i]? = some x → ∃ y, hV[i]? = some y ∧ (y = x ∨ y.ro = x) ∧ (x.w = true → ¬ Z2 j) ∧ (x.w = false → Z2 j ∨ x = .dead))
    (hnew : ∀ i j x, ν0 i = some j → o0[i]? = some x → OR Z0 h' ν0 j x → OR Z2 h' ν0 j x) :
    Ext K G fl hV.length Z h ν Z2 h' (both ν ν0 hV.length) (g ++ o) ∧ (∀ i j, ν i = some j → both ν ν0 hV.length i = some j) ∧ (∀ i k j, (fun i => some (hV.length + i)) i = some k → ν0 i = some j → both ν ν0 hV.length k = some j) := by
  have hν : ∀ i j, ν i = some j → both ν ν0 hV.length i = some j := fun i j hi => by
    unfold both; rw [if_pos (hr.dom i j hi).1]; exact hi
  have hρ : ∀ i k j, (fun i => some (hV.length + i)) i = some k → ν0 i = some j → both ν ν0 hV.length k = some j := fun i k j hi hj => by
    simp at hi; subst hi; unfold both; rw [if_neg (by omega), Nat.add_sub_cancel_left]; exact hj
  have hk : ∀ j, Z j → h'[j]? = h[j]? := fun j hj => hp j (hr.zlt j hj)
  obtain ⟨ol, oe⟩ := omap_get ho
  refine ⟨⟨⟨?_, ?_, ?_, z3, fun j hj => z1 j (hr.gz j hj), hr.glm z1 hk⟩, hl, by simp [hgl], fun i hi => by unfold both; rw [if_pos hi], z1, hk, z2⟩, hν, hρ⟩
  · intro i j hi
    unfold both at hi
    split at hi
    · obtain ⟨a, b, c⟩ := hr.dom i j hi; rw [List.length_append]; exact ⟨by omega, b, by omega⟩
    · obtain ⟨a, b, c⟩ := h0.dom _ j hi; have := hge _ j hi; rw [List.length_append]; exact ⟨by omega, .inl (by omega), c⟩
  · intro i j x hi hx
    unfold both at hi
    split at hi
    · rename_i hlt
      rw [List.getElem?_append_left (by omega)] at hx
      obtain ⟨y, hy, hyx, w1, w2⟩ := hold i j x hi hx
      have hob := hr.obj i j y hi hy
      have hj := hp j (hr.dom i j hi).2.2
      cases y with
      | ints w k l =>
        have : ∃ w', x = .ints w' k l := by rcases hyx with rfl | rfl <;> exact ⟨_, rfl⟩
        obtain ⟨w', rfl⟩ := this
        exact ⟨fun e => w1 e, fun e => (w2 e).resolve_right (by simp), by rw [hj]; exact hob.2.2⟩
      | vals w l =>
        have : ∃ w', x = .vals w' l := by rcases hyx with rfl | rfl <;> exact ⟨_, rfl⟩
        obtain ⟨w', rfl⟩ := this
        obtain ⟨-, -, l', l0, q1, q2⟩ := hob
        exact ⟨fun e => w1 e, fun e => (w2 e).resolve_right (by simp), l', l0, by rw [hj]; exact q1, q2.mono hν z1 hk⟩
      | dead =>
        have : x = .dead := by rcases hyx with rfl | rfl <;> rfl
        subst this; trivial
    · rename_i hlt
      rw [List.getElem?_append_right (by omega), hgl] at hx
      have hi' := (List.getElem?_eq_some_iff.1 hx).1
      have h1 : o0[i - hV.length]? = some o0[i - hV.length] := List.getElem?_eq_getElem (by omega)
      obtain ⟨y, h2, h3⟩ := oe _ _ h1
      rw [hx] at h2; cases h2
      have hob := hnew _ j _ hi h1 (h0.obj _ j _ hi h1)
      generalize o0[i - hV.length] = q at *
      cases q with
      | ints w k l => simp [vshO, vrenO] at h3; subst h3; exact hob
      | vals w l =>
        simp only [vshO, vrenO] at h3
        split at h3
        · rename_i l' hm; cases h3
          obtain ⟨q1, q2, l2, l0, q3, q4⟩ := hob
          exact ⟨q1, q2, l2, l0, q3, q4.of_omap hm fun v c v' _ hr hv => VR.ren hρ 4 v c v' hr hv⟩
        · simp at h3
      | dead => simp [vshO, vrenO] at h3; subst h3; trivial
  · intro i i' j hi hi'
    unfold both at hi hi'
    split at hi
    · split at hi'
      · exact hr.inj i i' j hi hi'
      · have := (hr.dom i j hi).2.2; have := hge _ j hi'; omega
    · split at hi'
      · have := (hr.dom i' j hi').2.2; have := hge _ j hi; omega
      · have := h0.inj _ _ j hi hi'; omega

theorem vpure_ok (hcall : CallRel K cv ce) (hpre : CallPre ce) (hr : HR K G Z h fl ν hV) (hf : fl ≤ h.length) {g : FuncId} {args : List V} {cargs : List AV} (ha : VAs' Z h ν args cargs) {r : V} {hV' : VH} (hv : vpure K cv g args hV = some (r, hV')) :
    Got K G fl hV Z h ν r hV' (ce h.length g cargs h) := by
  unfold vpure at hv
  cases h1 : omap (vfrz hV 6) args with
  | none => rw [h1] at hv; simp [vpure1] at hv
  | some fa =>
    rw [h1] at hv
    simp only [vpure1] at hv
    cases h2 : cv g (vnrmAs (K.args g) fa) [] with
    | none => rw [h2] at hv; simp [vland] at hv
    | some ro =>
      obtain ⟨r0, o0⟩ := ro
      rw [h2] at hv
      simp only [vland] at hv
      let Zi : Nat → Prop := fun j => Z j ∨ ∃ i, i ∈ argRefs hV args ∧ ν i = some j
      have hZi : ∀ j, Z j → Zi j := fun j hj => .inl hj
      have hfa : VAs' Zi h (fun _ => none) (vnrmAs (K.args g) fa) cargs := by
        refine VAs'.nrm (ha.of_omap h1 fun v c v' hm hva hvf => ?_)
        exact VA'.frz hr.obj hZi 6 v c v' hva hvf fun i hi j hj => .inr ⟨i, List.mem_flatMap.2 ⟨v, hm, hi⟩, hj⟩
      have hR : HR K (fun _ => False) Zi h h.length (fun _ => none) [] := ⟨fun i j hi => by simp at hi, fun i j x hi => by simp at hi, fun i i' j hi => by simp at hi, fun j hj => by
        rcases hj with hj | ⟨i, _, hj⟩
        · exact hr.zlt j hj
        · exact (hr.dom i j hj).2.2, fun j hj => hj.elim, hr.glm hZi fun _ _ => rfl⟩
      obtain ⟨a, h', ν0, Z0, e1, hva, ext⟩ := hcall g _ [] r0 o0 h2 (fun _ => False) h.length Zi h (fun _ => none) cargs (fun _ _ => rfl) (Nat.le_refl _) hR hfa
      have hge : ∀ i j, ν0 i = some j → h.length ≤ j := fun i j hi => (ext.hr.dom i j hi).2.1.resolve_right id
      obtain ⟨hl, hp⟩ := hpre h.length g cargs h a h' (Nat.le_refl _) e1
      have hp' : ∀ i, i < h.length → h'[i]? = h[i]? := fun i hi => hp i hi hi
      cases hb : (V.noFz 4 r0 && o0.all VO.noFz) with
      | true =>
        rw [hb] at hv
        simp only [vland2] at hv
        rw [Bool.and_eq_true] at hb
        unfold vland3 at hv
        split at hv
        · rename_i r' o hr' ho; cases hv
          obtain ⟨x1, x2, x3⟩ := land_ok (Z2 := Z) hr hf ext.hr hl hp' hge ho (g := hV) rfl (fun _ x => x) (fun _ x => .inl x) (fun j hj => by have := hr.zlt j hj; omega)
            (fun i j x hi hx => ⟨x, hx, .inl rfl, fun hw hz => by
                have := hr.obj i j x hi hx
                cases x with
                | ints w k l => exact this.1 hw hz
                | vals w l => exact this.1 hw hz
                | dead => simp [VO.w] at hw, fun hw => by
                have := hr.obj i j x hi hx
                cases x with
                | ints w k l => exact .inl (this.2.1 hw)
                | vals w l => exact .inl (this.2.1 hw)
                | dead => exact .inr rfl⟩)
            (fun i j x hi hx hob => by
              have hnf := List.all_eq_true.1 hb.2 x (List.mem_of_getElem? hx)
              have hj := hge i j hi
              have hz : ¬ Z j := fun hz => by have := hr.zlt j hz; omega
              cases x with
              | ints w k l => simp [VO.noFz] at hnf; subst hnf; exact ⟨fun _ => hz, fun e => by simp at e, hob.2.2⟩
              | vals w l =>
                simp only [VO.noFz, Bool.and_eq_true] at hnf
                obtain ⟨-, -, l', l0, q1, q2⟩ := hob
                exact ⟨fun _ => hz, fun e => by rw [hnf.1] at e; simp at e, l', l0, q1, noFzs_rel hnf.2 q2⟩
              | dead => trivial)
          exact ⟨a, h', _, Z, e1, (noFzA_rel (Z' := Z) (h' := h') 4 r0 a hb.1 hva).ren x3 4 _ _ _ hr', x1⟩
        · simp at hv
      | false =>
        rw [hb] at hv
        simp only [vland2] at hv
        unfold vland3 at hv
        split at hv
        · rename_i r' o hr' ho; cases hv
          have z1 : ∀ j, Z j → Z0 j := fun j hj => ext.zle j (.inl hj)
          obtain ⟨x1, x2, x3⟩ := land_ok (Z2 := Z0) hr hf ext.hr hl hp' hge ho (g := roM hV (argRefs hV args)) (roM_len _ _) z1
            (fun j hj => by
              rcases ext.znew j hj with (hj | ⟨i, _, hj⟩) | hj
              · exact .inl hj
              · exact hr.zfl hj
              · exact .inr (Nat.le_trans hf hj))
            ext.hr.zlt
            (fun i j x hi hx => by
              rw [roM_get] at hx
              obtain ⟨y, hy, rfl⟩ := Option.map_eq_some_iff.1 hx
              have hob := hr.obj i j y hi hy
              by_cases hm : i ∈ argRefs hV args
              · have hz0 : Z0 j := ext.zle j (.inr ⟨i, hm, hi⟩)
                rw [if_pos hm]
                exact ⟨y, hy, .inr rfl, fun e => by cases y <;> simp [VO.ro, VO.w] at e, fun _ => .inl hz0⟩
              · rw [if_neg hm]
                refine ⟨y, hy, .inl rfl, fun hw hz => ?_, fun hw => ?_⟩
                · have hzz : ¬ Z j := by
                    cases y with
                    | ints w k l => exact hob.1 hw
                    | vals w l => exact hob.1 hw
                    | dead => simp [VO.w] at hw
                  rcases ext.znew j hz with (hj | ⟨i', hi', hj⟩) | hj
                  · exact hzz hj
                  · obtain rfl := hr.inj i i' j hi hj; exact hm hi'
                  · have := (hr.dom i j hi).2.2; omega
                · cases y with
                  | ints w k l => exact .inl (z1 j (hob.2.1 hw))
                  | vals w l => exact .inl (z1 j (hob.2.1 hw))
                  | dead => exact .inr rfl)
            (fun i j x hi hx hob => hob)
          exact ⟨a, h', _, Z0, e1, hva.ren x3 4 _ _ _ hr', x1⟩
        · simp at hv

theorem vali_ok (hcall : CallRel K cv ce) (hpre : CallPre ce) (hr : HR K G Z h fl ν hV) (hf0 : fl ≤ h.length) {g : FuncId} (hal : K.ali g = true) {args : List V} {cargs : List AV} (ha : VAs' Z h ν args cargs) {r : V} {hV' : VH} (hv : vaback hV (cv g args (hV.map VO.ro)) = some (r, hV')) :
    Got K G fl hV Z h ν r hV' (ce h.length g cargs h) := by
  unfold vaback at hv
  split at hv
  · rename_i r h1 hcv
    split at hv
    · rename_i hc; cases hv
      rw [Bool.and_eq_true] at hc
      let G1 : Nat → Prop := fun j => ∃ i, ν i = some j
      let Z1 : Nat → Prop := fun j => Z j ∨ ∃ i, ν i = some j
      have hZ1 : ∀ j, Z j → Z1 j := fun j hj => .inl hj
      have hR : HR K G1 Z1 h h.length ν (hV.map VO.ro) := by
        refine ⟨fun i j hi => ⟨by rw [List.length_map]; exact (hr.dom i j hi).1, .inr ⟨i, hi⟩, (hr.dom i j hi).2.2⟩, fun i j x hi hx => ?_, hr.inj, fun j hj => ?_, fun j hj => .inr hj, hr.glm hZ1 fun _ _ => rfl⟩
        · rw [List.getElem?_map] at hx
          obtain ⟨y, hy, rfl⟩ := Option.map_eq_some_iff.1 hx
          have hob := hr.obj i j y hi hy
          cases y with
          | ints w k l => exact ⟨fun e => by simp at e, fun _ => .inr ⟨i, hi⟩, hob.2.2⟩
          | vals w l => obtain ⟨-, -, l', l0, q1, q2⟩ := hob; exact ⟨fun e => by simp at e, fun _ => .inr ⟨i, hi⟩, l', l0, q1, q2.mono (fun _ _ x => x) hZ1 fun _ _ => rfl⟩
          | dead => trivial
        · rcases hj with hj | ⟨i, hj⟩
          · exact hr.zlt j hj
          · exact (hr.dom i j hj).2.2
      obtain ⟨a, h', ν1, Z2, e1, hva, ext⟩ := hcall g args _ r h1 hcv G1 h.length Z1 h ν cargs (fun _ e => by rw [hal] at e; simp at e) (Nat.le_refl _) hR ((VAs'_iff.2 ⟨(VAs'_iff.1 ha).1, fun i v c hv hc => ((VAs'_iff.1 ha).2 i v c hv hc).mono (fun _ _ x => x) hZ1 fun _ _ => rfl⟩))
      obtain ⟨hl, hp⟩ := hpre h.length g cargs h a h' (Nat.le_refl _) e1
      have hp' : ∀ i, i < h.length → h'[i]? = h[i]? := fun i hi => hp i hi hi
      have hn : (hV.map VO.ro).length = hV.length := List.length_map _
      have hvl := ext.vlen
      rw [hn] at hvl
      have hnu : ∀ i, i < hV.length → ν1 i = ν i := fun i hi => ext.nu i (by rw [hn]; exact hi)
      have hν : ∀ i j, ν i = some j → ν1 i = some j := fun i j hi => by rw [hnu i (hr.dom i j hi).1]; exact hi
      have hk : ∀ j, Z j → h'[j]? = h[j]? := fun j hj => hp' j (hr.zlt j hj)
      have hge : ∀ i j, hV.length ≤ i → ν1 i = some j → h.length ≤ j := fun i j hi hij => by
        rcases (ext.hr.dom i j hij).2.1 with q | ⟨i', q⟩
        · exact q
        · have := ext.hr.inj i i' j hij (hν _ _ q)
          have := (hr.dom i' j q).1
          omega
      have hg : ∀ i, hV.length ≤ i → (hV ++ h1.drop hV.length)[i]? = h1[i]? := fun i hi => by
        rw [List.getElem?_append_right hi, List.getElem?_drop]; congr 1; omega
      refine ⟨a, h', ν1, Z, e1, noFzA_rel 4 r a hc.1 hva, ⟨⟨?_, ?_, ext.hr.inj, fun j hj => by have := hr.zlt j hj; omega, hr.gz, hr.glm (fun _ x => x) hk⟩, hl, by simp, hnu, fun _ x => x, hk, fun _ x => .inl x⟩⟩
      · intro i j hi
        by_cases hlt : i < hV.length
        · rw [hnu i hlt] at hi
          obtain ⟨q1, q2, q3⟩ := hr.dom i j hi
          exact ⟨by rw [List.length_append]; omega, q2, by omega⟩
        · have q := hge i j (by omega) hi
          obtain ⟨q1, -, q3⟩ := ext.hr.dom i j hi
          have hf : fl ≤ j ∨ G j := .inl (by omega)
          exact ⟨by rw [List.length_append, List.length_drop]; omega, hf, q3⟩
      · intro i j x hi hx
        by_cases hlt : i < hV.length
        · rw [hnu i hlt] at hi
          rw [List.getElem?_append_left hlt] at hx
          exact (hr.obj i j x hi hx).mono hν (fun _ x => x) (fun x => x) hk (hp' j (hr.dom i j hi).2.2)
        · rw [hg i (by omega)] at hx
          have q := hge i j (by omega) hi
          have hz : ¬ Z j := fun hz => by have := hr.zlt j hz; omega
          have hob := ext.hr.obj i j x hi hx
          have hnf : x.noFz = true := by
            refine List.all_eq_true.1 hc.2 x (List.mem_of_getElem? (i := i - hV.length) ?_)
            rw [List.getElem?_drop, show hV.length + (i - hV.length) = i by omega]; exact hx
          cases x with
          | ints w k l => simp [VO.noFz] at hnf; subst hnf; exact ⟨fun _ => hz, fun e => by simp at e, hob.2.2⟩
          | vals w l =>
            simp only [VO.noFz, Bool.and_eq_true] at hnf
            obtain ⟨-, -, l', l0, q1, q2⟩ := hob
            exact ⟨fun _ => hz, fun e => by rw [hnf.1] at e; simp at e, l', l0, q1, noFzs_rel hnf.2 q2⟩
          | dead => trivial
    · simp at hv
  · simp at hv
end
end Go.Eng
end
section
/- The value engine: what it says a call comes to, the engine's call comes to. No conditions. -/
namespace Go.Eng
section
variable {Z Z' : Nat → Prop} {h h' : AH} {ν ν' : Nat → Option Nat} {hV : VH} {fl : Nat} {e : VE} {ee : Env} {P : Program} {K : Kn} {G : Nat → Prop} {cv : CallV} {ce : CallF}

theorem call_ok (hcall : CallRel K cv ce) (hpre : CallPre ce) (he : EV Z h ν e ee) (hr : HR K G Z h fl ν hV) (hf : fl ≤ h.length) {c : Call} {v : V} {hV' : VH} (hv : vCall P K cv e hV c = some (v, hV')) : Got K G fl hV Z h ν v hV' (evOp P K.cf ce fl ee h (.call c)) := by
  unfold vCall at hv
  split at hv
  · rename_i g hc
    cases h0 : vevs K e c.args.toList with
    | none => rw [h0] at hv; simp [vcallF] at hv
    | some args =>
      rw [h0] at hv
      simp only [vcallF] at hv
      obtain ⟨cargs, h1, h2⟩ := vevs_rel he hr h0
      have hE : evOp P K.cf ce fl ee h (.call c) = ce (floorOf K.cf fl h.length (.func g)) g cargs h := by
        simp [evOp, evCall, hc, h1, evC, ev, AV.cell]
      rw [hE]
      cases hp : K.cf.pure g with
      | true =>
        rw [hp] at hv
        simp only [vcall2] at hv
        have : floorOf K.cf fl h.length (.func g) = h.length := by simp [floorOf, hp]
        rw [this]
        cases hal : K.ali g with
        | true => rw [hal] at hv; simp only [vcall3] at hv; exact vali_ok hcall hpre hr hf hal h2 hv
        | false => rw [hal] at hv; simp only [vcall3] at hv; exact vpure_ok hcall hpre hr hf h2 hv
      | false =>
        rw [hp] at hv
        simp only [vcall2] at hv
        have : floorOf K.cf fl h.length (.func g) = fl := by simp [floorOf, hp]
        rw [this]
        exact hcall g args hV v hV' hv G fl Z h ν cargs (fun e => by rw [hp] at e; simp at e) hf hr h2
  · rename_i t hc
    unfold vcallV at hv
    split at hv
    · rename_i g first captured args hg h0
      split at hv
      · rename_i hp
        obtain ⟨cargs, h1, h2⟩ := vevs_rel he hr h0
        obtain ⟨a, h3, h4⟩ := he t _ hg
        obtain ⟨x, rfl, h5⟩ := (VA'.atom rfl).1 h4
        simp only [VR] at h5
        obtain ⟨p, q, rfl, h6, h7⟩ := h5
        have hE : evOp P K.cf ce fl ee h (.call c) = ce h.length g (p.map .c ++ cargs ++ q.map .c) h := by
          simp [evOp, evCall, hc, h1, evC, ev, h3, AV.cell, floorOf]
        rw [hE]
        exact vpure_ok hcall hpre hr hf (((VAs'.of_cs h6).append h2).append (VAs'.of_cs h7)) hv
      · simp at hv
    · simp at hv
  · rename_i hc
    obtain ⟨h1, rfl⟩ := vres_some hv
    have := len_ok he hr h1
    simp only [evOp, evCall, hc]; exact this
  · rename_i hc
    have := app_ok he hr hf hv
    simp only [evOp, evCall, hc]; exact this
  · rename_i hc
    have := copy_ok he hr hf hv
    simp only [evOp, evCall, hc]; exact this
  · rename_i hc
    obtain ⟨h1, rfl⟩ := vres_some hv
    have := mm_ok he hr h1
    simpa [evOp, evCall, hc] using this
  · rename_i hc
    obtain ⟨h1, rfl⟩ := vres_some hv
    have := mm_ok he hr h1
    simpa [evOp, evCall, hc] using this
  · simp at hv

theorem vOp_ok (hcall : CallRel K cv ce) (hpre : CallPre ce) (he : EV Z h ν e ee) (hr : HR K G Z h fl ν hV) (hf : fl ≤ h.length) {op : Op} {v : V} {hV' : VH} (hv : vOp P K cv e hV op = some (v, hV')) : Got K G fl hV Z h ν v hV' (evOp P K.cf ce fl ee h op) := by
  unfold vOp at hv
  split at hv
  · obtain ⟨h1, rfl⟩ := vres_some hv
    obtain ⟨a, h2, h3⟩ := vev_rel he hr h1
    exact Got.same hr h3 (by simp [evOp, h2])
  · obtain ⟨h1, rfl⟩ := vres_some hv
    obtain ⟨a, h2, h3⟩ := vev_rel he hr h1
    exact Got.same hr h3 (by simp [evOp, h2])
  · obtain ⟨h1, rfl⟩ := vres_some hv
    exact pick_ok he hr h1
  · exact alloc_ok hr hf (fun z hz => zero_rel hz) hv
  · exact alloc_ok hr hf (fun z hz => vev_rel he hr hz) hv
  · obtain ⟨h1, rfl⟩ := vres_some hv
    exact build_ok he hr h1
  · exact bslice_ok he hr hf hv
  · obtain ⟨h1, rfl⟩ := vres_some hv
    exact load_ok he hr h1
  · exact store_ok he hr hv
  · obtain ⟨h1, rfl⟩ := vres_some hv
    exact nlc_ok he hr h1
  · obtain ⟨h1, rfl⟩ := vres_some hv
    exact bin_ok he hr h1
  · obtain ⟨h1, rfl⟩ := vres_some hv
    exact un_ok he hr h1
  · exact conv_ok he hr hf hv
  · obtain ⟨h1, rfl⟩ := vres_some hv
    exact fn_ok he hr h1
  · exact make_ok he hr hf hv
  · obtain ⟨h1, rfl⟩ := vres_some hv
    exact slice_ok he hr h1
  · obtain ⟨h1, rfl⟩ := vres_some hv
    exact fadd_ok he hr h1
  · obtain ⟨h1, rfl⟩ := vres_some hv
    exact fld_ok he hr h1
  · obtain ⟨h1, rfl⟩ := vres_some hv
    exact idx_ok he hr h1
  · obtain ⟨h1, rfl⟩ := vres_some hv
    exact index_ok he hr h1
  · obtain ⟨h1, rfl⟩ := vres_some hv
    exact extract_ok he hr h1
  · exact call_ok hcall hpre he hr hf hv
  · simp at hv

/-! ### code -/
/-- Where an evaluation stands, as seen from where it began. -/
def Sim (K : Kn) (G : Nat → Prop) (fl n0 : Nat) (Z0 : Nat → Prop) (h0 : AH) (ν0 : Nat → Option Nat) (e : VE) (hV : VH) (ee : Env) (h : AH) : Prop :=
  ∃ ν Z, EV Z h ν e ee ∧ Ext K G fl n0 Z0 h0 ν0 Z h ν hV

theorem want_rel (he : EV Z h ν e ee) {ops : Array Oper} {o : Oper} {b : Bool} (hw : vwant ops e o = some b) : wantA ops ee o = some b := by
  unfold vwant at hw
  unfold wantA
  split at hw
  · rename_i hg; rw [hg]; exact hw
  · rename_i g w hg
    rw [hg]
    simp only
    cases hd : (ops[g]?).bind (·.dst) with
    | none => rw [hd] at hw; simp [vgetO, vwantV] at hw
    | some d =>
      rw [hd] at hw
      simp only [vgetO] at hw
      unfold vwantV at hw
      split at hw
      · rename_i x w' hx; cases hw
        obtain ⟨a, h1, h2⟩ := he d _ hx
        obtain ⟨c, rfl, h3⟩ := (VA'.atom rfl).1 h2
        obtain rfl := bool_rel h3
        simp [h1]
      · rename_i w' hx; cases hw
        obtain ⟨a, h1, h2⟩ := he d _ hx
        simp only [VA', VAs'] at h2
        obtain ⟨as, rfl, rfl⟩ := h2
        simp [h1]
      · simp at hw

variable {n0 : Nat} {Z0 : Nat → Prop} {h0 : AH} {ν0 : Nat → Option Nat}

theorem vOps_ok (hcall : CallRel K cv ce) (hpre : CallPre ce) (hf0 : fl ≤ h0.length) {ops : Array Oper} : ∀ (l : List Oper) {e : VE} {hV : VH} {ee : Env} {h : AH} {e' : VE} {hV' : VH}, vOps P K cv ops l e hV = some (e', hV') → Sim K G fl n0 Z0 h0 ν0 e hV ee h →
    ∃ ee' h', evOps P K.cf ce fl ops l ee h = some (ee', h') ∧ Sim K G fl n0 Z0 h0 ν0 e' hV' ee' h'
  | [], e, hV, ee, h, e', hV', hv, hs => by
    simp only [vOps] at hv; cases hv
    exact ⟨ee, h, rfl, hs⟩
  | o :: r, e, hV, ee, h, e', hV', hv, hs => by
    obtain ⟨ν, Z, he, ext⟩ := hs
    simp only [vOps] at hv
    obtain ⟨b, hb, hv⟩ := Option.bind_eq_some_iff.1 hv
    have hw := want_rel he hb
    cases b with
    | false =>
      simp only [Bool.false_eq_true, if_false] at hv
      obtain ⟨ee', h', h1, h2⟩ := vOps_ok hcall hpre hf0 r hv ⟨ν, Z, he.pt (a := .tup []) (by simp only [VA', VAs']; exact ⟨[], rfl, rfl⟩) o.dst, ext⟩
      exact ⟨ee', h', by simp [evOps, hw, h1], h2⟩
    | true =>
      simp only [if_true] at hv
      obtain ⟨⟨v, hV1⟩, h1, hv⟩ := Option.bind_eq_some_iff.1 hv
      obtain ⟨a, h', ν', Z', e1, ha, ext'⟩ := vOp_ok hcall hpre he ext.hr (Nat.le_trans hf0 ext.len) h1
      have he' := he.mono (ext'.le ext.hr (Nat.le_refl _)) ext'.zle ext'.keep
      obtain ⟨ee', h'', h2, h3⟩ := vOps_ok hcall hpre hf0 r hv ⟨ν', Z', he'.pt ha o.dst, ext.trans ext' ext.vlen⟩
      exact ⟨ee', h'', by simp [evOps, hw, e1, h2], h3⟩

theorem self_c {v : V} {c : CV} (hs : v.self = true) (hr : VR Z h ν v c) : c.same c = true := by
  cases v <;> simp only [VR] at hr <;> try (subst hr; simp [CV.same]; done)
  · simp [V.self] at hs
  · rcases hr with ⟨rfl, _⟩ | ⟨j, off, m, rfl, _⟩ <;> simp [CV.same]
  · rcases hr with ⟨rfl, _⟩ | ⟨j, off, m, rfl, _⟩ <;> simp [CV.same]
  · obtain ⟨j, off, o, rfl, _⟩ := hr; simp [CV.same]
  · rcases hr with ⟨_, rfl⟩ | ⟨j, _, rfl⟩ <;> simp [CV.same]
  · obtain ⟨j, _, rfl⟩ := hr; simp [CV.same]
  · simp [V.self] at hs
  · simp [V.self] at hs
theorem sames_of : ∀ {l : List CV}, (∀ c ∈ l, c.same c = true) → sames l l = true
  | [], _ => rfl
  | c :: r, hs => by simp only [sames, Bool.and_eq_true]; exact ⟨hs c (by simp), sames_of fun d hd => hs d (by simp [hd])⟩
theorem self_a {v : V} {a : AV} (hs : v.self = true) (ha : VA' Z h ν v a) : a.same a = true := by
  by_cases hat : v.atom = true
  · obtain ⟨c, rfl, hr⟩ := (VA'.atom hat).1 ha
    exact self_c hs hr
  · cases v <;> first | (simp [V.atom] at hat; done) | skip
    · simp only [VA'] at ha
      obtain ⟨cs, rfl, hr⟩ := ha
      simp only [V.self, List.all_eq_true] at hs
      refine sames_of fun c hc => ?_
      obtain ⟨i, hi⟩ := List.mem_iff_getElem?.1 hc
      obtain ⟨k1, k2⟩ := VRs_iff.1 hr
      rename_i l
      have hi' := (List.getElem?_eq_some_iff.1 hi).1
      have hl : l[i]? = some l[i] := List.getElem?_eq_getElem (by omega)
      have h2 := k2 i _ _ hl hi
      have h3 := hs _ (List.mem_of_getElem? hl)
      refine self_c ?_ h2
      revert h2 h3
      cases l[i] <;> intro h2 h3 <;> first | rfl | (simp at h3; done) | (simp only [VR] at h2)
    · simp [V.self] at hs
    · simp [V.self] at hs
theorem loadA_eq {t : TypeId} {j off : Nat} (hj : h'[j]? = h[j]?) : loadA P t h' j off = loadA P t h j off := by
  unfold loadA ld; rw [hj]

/-- What an operation leaves as it is. -/
theorem vOp_keep (hpre : CallPre ce) (he : EV Z h ν e ee) (hr : HR K G Z h fl ν hV) (hf : fl ≤ h.length) {op : Op} {m : List Nat} (hm : vmodI K e op = some m) {a : AV} (hev : evOp P K.cf ce fl ee h op = some (a, h')) {i j : Nat} (hi : ν i = some j) (hni : ¬ i ∈ m) : h'[j]? = h[j]? := by
  have hj := (hr.dom i j hi).2.2
  by_cases himp : impureOp K.cf op = false
  · rw [evOp_floor himp] at hev
    exact (evOp_pre hpre (Nat.le_refl _) hev).2 j hj hj
  · cases op <;> first | (simp [impureOp] at himp; done) | skip
    · rename_i t x y
      simp only [vmodI] at hm
      unfold vmodS at hm
      split at hm
      · rename_i i' off hx; cases hm
        obtain ⟨c, h1, h2⟩ := vevC_rel he hr hx rfl
        simp only [VR] at h2
        obtain ⟨j', hj', rfl⟩ := h2
        simp only [evOp, h1, Option.bind_some] at hev
        obtain ⟨v, -, hev⟩ := Option.bind_eq_some_iff.1 hev
        obtain ⟨h1', h3, hev⟩ := Option.map_eq_some_iff.1 hev
        cases hev
        unfold storeA at h3
        split at h3
        · obtain ⟨s, -, h3⟩ := Option.bind_eq_some_iff.1 h3
          split at h3
          · obtain ⟨o, -, h3⟩ := Option.bind_eq_some_iff.1 h3
            obtain ⟨x', -, rfl⟩ := Option.map_eq_some_iff.1 h3
            refine List.getElem?_set_ne fun e1 => hni ?_
            subst e1
            rw [hr.inj i i' j' hi hj']; simp
          · simp at h3
        · simp at h3
      · simp at hm
    · rename_i s d x
      simp only [evOp] at hev
      obtain ⟨a2, h1, hev⟩ := Option.bind_eq_some_iff.1 hev
      obtain ⟨c, _, h2⟩ := outC_some hev
      obtain ⟨l, rfl⟩ := convB_pre h2
      exact List.getElem?_append_left hj
    · rename_i c
      simp only [vmodI] at hm
      split at hm
      · rename_i hc
        unfold vmodA at hm
        have key : ∀ {s x : V} {b : CV}, vevs K e c.args.toList = some [s, x] → s.atom = true → VR Z h ν s b → ∃ d, evCs K.cf ee c.args.toList = some [b, d] ∨ ∀ q, evCs K.cf ee c.args.toList = some q → ∃ b' d, q = [b', d] ∧ VR Z h ν s b' := fun {s x b} h0 hs hb => by
          refine ⟨.nil, .inr fun q hq => ?_⟩
          obtain ⟨as, h1, h2⟩ := vevs_rel he hr h0
          simp only [VAs'] at h2
          obtain ⟨a1, _, rfl, ha1, a2, _, rfl, ha2, rfl⟩ := h2
          obtain ⟨c1, rfl, hc1⟩ := (VA'.atom hs).1 ha1
          have conv : ∀ (l : List Operand) (as : List AV) (q : List CV), evs K.cf ee l = some as → evCs K.cf ee l = some q → as = q.map .c := by
            intro l
            induction l with
            | nil => intro as q e1 e2; simp [evs] at e1; simp [evCs] at e2; subst e1; subst e2; rfl
            | cons y r ih =>
              intro as q e1 e2
              simp only [evs, Option.bind_eq_some_iff, Option.map_eq_some_iff] at e1
              simp only [evCs, Option.bind_eq_some_iff, Option.map_eq_some_iff] at e2
              obtain ⟨v1, q1, l1, q2, rfl⟩ := e1
              obtain ⟨v2, q3, l2, q4, rfl⟩ := e2
              unfold evC at q3
              rw [q1] at q3
              cases v1 <;> simp [AV.cell] at q3
              subst q3
              rw [ih l1 l2 q2 q4]; rfl
          have := conv _ _ _ h1 hq
          cases q with
          | nil => simp at this
          | cons b1 r =>
            cases r with
            | nil => simp at this
            | cons b2 r =>
              cases r with
              | nil => simp at this; exact ⟨b1, b2, rfl, by rw [← this.1]; exact hc1⟩
              | cons _ _ => simp at this
        simp only [evOp, evCall, hc] at hev
        obtain ⟨args, h2, hev⟩ := Option.bind_eq_some_iff.1 hev
        split at hm
        · rename_i i' off len sz y h0; cases hm
          have hb : ∃ b, VR Z h ν (.sl i' off len sz) b := by
            obtain ⟨as, h1, h3⟩ := vevs_rel he hr h0
            simp only [VAs'] at h3
            obtain ⟨a1, _, rfl, ha1, _⟩ := h3
            obtain ⟨c1, rfl, hc1⟩ := (VA'.atom rfl).1 ha1
            exact ⟨c1, hc1⟩
          obtain ⟨b, hb⟩ := hb
          obtain ⟨d, hd⟩ := key h0 rfl hb
          obtain ⟨b', d', rfl, hb'⟩ : ∃ b' d', args = [b', d'] ∧ VR Z h ν (.sl i' off len sz) b' := by
            rcases hd with hd | hd
            · rw [h2] at hd; cases hd; exact ⟨b, d, rfl, hb⟩
            · exact hd _ h2
          simp only at hev
          obtain ⟨t, -, hev⟩ := Option.bind_eq_some_iff.1 hev
          unfold outC at hev
          obtain ⟨⟨r1, r2⟩, h5, hev⟩ := Option.map_eq_some_iff.1 hev
          cases hev
          replace h5 := appendB_some h5
          unfold appendA at h5
          obtain ⟨el, -, h5⟩ := Option.bind_eq_some_iff.1 h5
          obtain ⟨size, -, h5⟩ := Option.bind_eq_some_iff.1 h5
          obtain ⟨bb, -, h5⟩ := Option.bind_eq_some_iff.1 h5
          obtain ⟨z, -, h5⟩ := Option.bind_eq_some_iff.1 h5
          obtain ⟨zs, -, h5⟩ := Option.bind_eq_some_iff.1 h5
          obtain ⟨nw, -, h5⟩ := Option.bind_eq_some_iff.1 h5
          obtain ⟨old, h6, h5⟩ := Option.bind_eq_some_iff.1 h5
          split at h5
          · obtain ⟨y', -, h5⟩ := Option.map_eq_some_iff.1 h5
            cases h5
            have hold : old.2.2[j]? = h[j]? ∧ old.2.2.length = h.length := by
              simp only [VR] at hb'
              rcases hb' with ⟨_, rfl⟩ | ⟨j', hj', rfl⟩
              · simp only [oldO] at h6
                obtain ⟨o, -, h6⟩ := Option.map_eq_some_iff.1 h6
                cases h6; exact ⟨rfl, rfl⟩
              · simp only [oldO] at h6
                split at h6
                · obtain ⟨o, -, h6⟩ := Option.bind_eq_some_iff.1 h6
                  obtain ⟨y, -, h6⟩ := Option.map_eq_some_iff.1 h6
                  cases h6
                  exact ⟨List.getElem?_set_ne fun e1 => hni (by subst e1; rw [hr.inj i i' j' hi hj']; simp), by simp⟩
                · simp at h6
            rw [List.getElem?_append_left (by rw [hold.2]; exact hj)]; exact hold.1
          · simp at h5
        · rename_i y h0; cases hm
          have hb : ∃ b, VR Z h ν .nil b := ⟨.nil, by simp only [VR]⟩
          obtain ⟨b, hb⟩ := hb
          obtain ⟨d, hd⟩ := key h0 rfl hb
          obtain ⟨b', d', rfl, hb'⟩ : ∃ b' d', args = [b', d'] ∧ VR Z h ν .nil b' := by
            rcases hd with hd | hd
            · rw [h2] at hd; cases hd; exact ⟨b, d, rfl, hb⟩
            · exact hd _ h2
          simp only [VR] at hb'
          subst hb'
          simp only at hev
          obtain ⟨t, -, hev⟩ := Option.bind_eq_some_iff.1 hev
          unfold outC at hev
          obtain ⟨⟨r1, r2⟩, h5, hev⟩ := Option.map_eq_some_iff.1 hev
          cases hev
          replace h5 := appendB_some h5
          unfold appendA at h5
          obtain ⟨el, -, h5⟩ := Option.bind_eq_some_iff.1 h5
          obtain ⟨size, -, h5⟩ := Option.bind_eq_some_iff.1 h5
          obtain ⟨bb, -, h5⟩ := Option.bind_eq_some_iff.1 h5
          obtain ⟨z, -, h5⟩ := Option.bind_eq_some_iff.1 h5
          obtain ⟨zs, -, h5⟩ := Option.bind_eq_some_iff.1 h5
          obtain ⟨nw, -, h5⟩ := Option.bind_eq_some_iff.1 h5
          obtain ⟨old, h6, h5⟩ := Option.bind_eq_some_iff.1 h5
          split at h5
          · obtain ⟨y', -, h5⟩ := Option.map_eq_some_iff.1 h5
            cases h5
            simp only [oldO] at h6
            obtain ⟨o, -, h6⟩ := Option.map_eq_some_iff.1 h6
            cases h6
            exact List.getElem?_append_left hj
          · simp at h5
        · simp at hm
      · simp at hm
      · rename_i b hn1 hn2 hc
        cases b <;> first | (simp [impureOp, hc] at himp; done) | exact (hn1 rfl).elim | exact (hn2 rfl).elim
      · rename_i g hc
        have hp : K.cf.pure g = true := by cases hq : K.cf.pure g <;> simp [hq, vmodB] at hm ⊢
        simp [impureOp, hc, hp] at himp
      · rename_i x hn hc
        simp [impureOp, hc] at himp
      · simp at hm

/-- What has been read, and reads so still. -/
def Pend (P : Program) (K : Kn) (Z : Nat → Prop) (h : AH) (ν : Nat → Option Nat) (pv : List Nat) (pe : List (Env × Op × AV)) : Prop :=
  ∀ p ∈ pe, ∃ t a j off, p.2.1 = .load t a ∧ evC K.cf p.1 a = some (.ptr j off) ∧ loadA P t h j off = some p.2.2 ∧ p.2.2.same p.2.2 = true ∧ (Z j ∨ ∃ i, i ∈ pv ∧ ν i = some j)
theorem Pend.same {pv : List Nat} {pe : List (Env × Op × AV)} (hp : Pend P K Z h ν pv pe) {p : Env × Op × AV} (hm : p ∈ pe) : sameAt P K.cf ce fl h p = true := by
  obtain ⟨t, a, j, off, h1, h2, h3, h4, _⟩ := hp p hm
  unfold sameAt
  rw [h1]
  simp [evOp, h2, h3, h4]

theorem vsafe_at {cv : CallV} {g : FuncId} {args : List V} {hV : VH} : ∀ {pend : List Nat}, vsafe cv g args hV pend = true → ∀ {i : Nat}, i ∈ pend → ∃ r hV', cv g args (hV.modify i VO.ro) = some (r, hV')
  | [], _, i, hi => by simp at hi
  | k :: r, hs, i, hi => by
    simp only [vsafe, Bool.and_eq_true] at hs
    rcases List.mem_cons.1 hi with rfl | hi
    · obtain ⟨⟨x, y⟩, hx⟩ := Option.isSome_iff_exists.1 hs.1
      exact ⟨x, y, hx⟩
    · exact vsafe_at hs.2 hi
/-- What an operation leaves as it is, a call that writes too. -/
theorem vOp_keepJ (hcall : CallRel K cv ce) (hpre : CallPre ce) (he : EV Z h ν e ee) (hr : HR K G Z h fl ν hV) (hf : fl ≤ h.length) {op : Op} {pend m : List Nat} (hm : vmodJ K cv e hV pend op = some m) {a : AV} (hev : evOp P K.cf ce fl ee h op = some (a, h')) {i j : Nat} (hi : ν i = some j) (hip : i ∈ pend) (hni : ¬ i ∈ m) : h'[j]? = h[j]? := by
  unfold vmodJ at hm
  cases hI : vmodI K e op with
  | some m' =>
    rw [hI] at hm
    simp only [vmJ, Option.some.injEq] at hm
    subst hm
    exact vOp_keep hpre he hr hf hI hev hi hni
  | none =>
    rw [hI] at hm
    simp only [vmJ] at hm
    unfold vimp at hm
    split at hm
    · rename_i c
      split at hm
      · rename_i g hc
        simp only [vmodI, hc] at hI
        cases hp : K.cf.pure g with
        | true => rw [hp] at hI; simp [vmodB] at hI
        | false =>
          cases h0 : vevs K e c.args.toList with
          | none => rw [h0] at hm; simp [vsafe1] at hm
          | some args =>
            rw [h0] at hm
            simp only [vsafe1] at hm
            have hs : vsafe cv g args hV pend = true := by
              cases hq : vsafe cv g args hV pend with
              | true => rfl
              | false => rw [hq] at hm; simp [vmodB] at hm
            obtain ⟨r, hV', hcv⟩ := vsafe_at hs hip
            obtain ⟨cargs, h1, h2⟩ := vevs_rel he hr h0
            have hE : evOp P K.cf ce fl ee h (.call c) = ce (floorOf K.cf fl h.length (.func g)) g cargs h := by
              simp [evOp, evCall, hc, h1, evC, ev, AV.cell]
            have hfl : floorOf K.cf fl h.length (.func g) = fl := by simp [floorOf, hp]
            rw [hE, hfl] at hev
            let Z1 : Nat → Prop := fun k => Z k ∨ k = j
            have hZ1 : ∀ k, Z k → Z1 k := fun k hk => .inl hk
            have hR : HR K G Z1 h fl ν (hV.modify i VO.ro) := by
              refine ⟨fun i' j' hi' => ⟨by rw [List.length_modify]; exact (hr.dom i' j' hi').1, (hr.dom i' j' hi').2⟩, fun i' j' x hi' hx => ?_, hr.inj, fun k hk => ?_, fun k hk => .inl (hr.gz k hk), hr.glm hZ1 fun _ _ => rfl⟩
              · rw [List.getElem?_modify] at hx
                obtain ⟨y, hy, hxy⟩ := Option.map_eq_some_iff.1 hx
                have hob := hr.obj i' j' y hi' hy
                by_cases e1 : i = i'
                · subst e1
                  rw [hi] at hi'; cases hi'
                  simp only [if_true] at hxy
                  subst hxy
                  cases y with
                  | ints w k l => exact ⟨fun e => by simp at e, fun _ => .inr rfl, hob.2.2⟩
                  | vals w l => obtain ⟨-, -, l', l0, q1, q2⟩ := hob; exact ⟨fun e => by simp at e, fun _ => .inr rfl, l', l0, q1, q2.mono (fun _ _ x => x) hZ1 fun _ _ => rfl⟩
                  | dead => trivial
                · simp only [if_neg e1, id_eq] at hxy
                  subst hxy
                  have hne : j' ≠ j := fun e => e1 (hr.inj i i' j hi (e ▸ hi'))
                  cases y with
                  | ints w k l => exact ⟨fun e => fun hz => hz.elim (hob.1 e) hne, fun e => .inl (hob.2.1 e), hob.2.2⟩
                  | vals w l => obtain ⟨o1, o2, l', l0, q1, q2⟩ := hob; exact ⟨fun e => fun hz => hz.elim (o1 e) hne, fun e => .inl (o2 e), l', l0, q1, q2.mono (fun _ _ x => x) hZ1 fun _ _ => rfl⟩
                  | dead => trivial
              · rcases hk with hk | rfl
                · exact hr.zlt k hk
                · exact (hr.dom i k hi).2.2
            obtain ⟨a2, h2', ν2, Z2, e2, hva, ext⟩ := hcall g args _ r hV' hcv G fl Z1 h ν cargs (fun e => by rw [hp] at e; simp at e) hf hR ((VAs'_iff.2 ⟨(VAs'_iff.1 h2).1, fun i v c hv hc => ((VAs'_iff.1 h2).2 i v c hv hc).mono (fun _ _ x => x) hZ1 fun _ _ => rfl⟩))
            rw [e2] at hev
            cases hev
            exact ext.keep j (.inr rfl)
      · simp at hm
    · simp at hm

theorem vstdy_ok (hcall : CallRel K cv ce) (hpre : CallPre ce) (hf0 : fl ≤ h0.length) {ops : Array Oper} : ∀ (l : List Oper) {e : VE} {hV : VH} {ee : Env} {h : AH} {ν : Nat → Option Nat} {Z : Nat → Prop} {pv : List Nat} {pe : List (Env × Op × AV)},
    vstdy P K cv ops l e hV pv = true → EV Z h ν e ee → Ext K G fl n0 Z0 h0 ν0 Z h ν hV → Pend P K Z h ν pv pe → stdy P K.cf ce fl ops l ee h pe = true
  | [], _, _, _, _, _, _, _, _, _, _, _, _ => rfl
  | o :: r, e, hV, ee, h, ν, Z, pv, pe, hv, he, ext, hp => by
    simp only [vstdy] at hv
    split at hv
    · rename_i hw
      have hw' := want_rel he hw
      split at hv
      · rename_i v hV1 hop
        unfold vst3 at hv
        split at hv
        · rename_i m l hm hl
          simp only [Bool.and_eq_true] at hv
          obtain ⟨h1, h2, h3⟩ := hv
          have hf := Nat.le_trans hf0 ext.len
          obtain ⟨a, h', ν', Z', e1, ha, ext'⟩ := vOp_ok hcall hpre he ext.hr hf hop
          have he' := he.mono (ext'.le ext.hr (Nat.le_refl _)) ext'.zle ext'.keep
          have hp' : Pend P K Z' h' ν' pv pe := fun p hpm => by
            obtain ⟨t, b, j, off, q1, q2, q3, q4, q5⟩ := hp p hpm
            have hj : h'[j]? = h[j]? := by
              rcases q5 with q5 | ⟨i, q5, q6⟩
              · exact ext'.keep j q5
              · refine vOp_keepJ hcall hpre he ext.hr hf hm e1 q6 q5 fun hi => ?_
                have := List.all_eq_true.1 h1 i hi
                simp [q5] at this
            exact ⟨t, b, j, off, q1, q2, by rw [loadA_eq hj]; exact q3, q4, q5.imp (ext'.zle j) fun ⟨i, q, q'⟩ => ⟨i, q, ext'.le ext.hr (Nat.le_refl _) _ _ q'⟩⟩
          simp only [stdy, hw', e1, Bool.and_eq_true]
          refine ⟨List.all_eq_true.2 fun p hpm => hp'.same hpm, ?_⟩
          refine vstdy_ok hcall hpre hf0 r h3 (he'.pt ha o.dst) (ext.trans ext' ext.vlen) ?_
          by_cases hld : isLoad o.op = true
          · rw [if_pos hld]
            intro p hpm
            simp only [List.mem_cons] at hpm
            rcases hpm with rfl | hpm
            · cases hq : o.op <;> first | (rw [hq] at hld; simp [isLoad] at hld; done) | skip
              rename_i t b
              rw [hq] at hop hl e1 h2
              simp only [vOp] at hop
              obtain ⟨hop, rfl⟩ := vres_some hop
              obtain ⟨w, k1, k2, k3⟩ := load_some hop
              obtain ⟨c, k4, k5⟩ := vevC_rel he ext.hr k1 k2
              obtain ⟨j, off, y, rfl, k6, k7⟩ := vload_ok ext.hr k5 k3
              have e1' := e1
              simp only [evOp, k4, k6, Option.bind_some, Option.map_some, Option.some.injEq, Prod.mk.injEq] at e1'
              obtain ⟨rfl, rfl⟩ := e1'
              refine ⟨t, b, j, off, rfl, k4, k6, self_a h2 ha, ?_⟩
              simp only [vldI, k1] at hl
              unfold vldS at hl
              split at hl
              · rename_i i' off' e3; cases e3; cases hl
                simp only [VR] at k5
                obtain ⟨j', k8, k9⟩ := k5
                cases k9
                exact .inr ⟨i', by simp, ext'.le ext.hr (Nat.le_refl _) _ _ k8⟩
              · rename_i l' e3; cases e3; cases hl
                simp only [VR] at k5
                obtain ⟨j', off', o', k8, k9, _⟩ := k5
                cases k8
                exact .inl (ext'.zle _ k9)
              · simp at hl
            · obtain ⟨t, b, j, off, q1, q2, q3, q4, q5⟩ := hp' p hpm
              exact ⟨t, b, j, off, q1, q2, q3, q4, q5.imp id fun ⟨i, q, q'⟩ => ⟨i, List.mem_append_right _ q, q'⟩⟩
          · rw [if_neg hld]
            intro p hpm
            obtain ⟨t, b, j, off, q1, q2, q3, q4, q5⟩ := hp' p hpm
            exact ⟨t, b, j, off, q1, q2, q3, q4, q5.imp id fun ⟨i, q, q'⟩ => ⟨i, List.mem_append_right _ q, q'⟩⟩
        · simp at hv
      · simp at hv
    · rename_i hw
      have hw' := want_rel he hw
      simp only [stdy, hw']
      exact vstdy_ok hcall hpre hf0 r hv (he.pt (a := .tup []) (by simp only [VA', VAs']; exact ⟨[], rfl, rfl⟩) o.dst) ext hp
    · simp at hv

theorem vEnd_ok {f : FuncId} (hg : K.gc f = true → n0 = 0) {id : Nat} {e : VE} {hV : VH} {ee : Env} {h : AH} {e' : VE} {hV' : VH} (hv : vEnd K f id e hV = some (e', hV')) (hs : Sim K G fl n0 Z0 h0 ν0 e hV ee h) :
    Sim K G fl n0 Z0 h0 ν0 e' hV' (keepOnly (K.cf.keep f id) ee) h := by
  obtain ⟨ν, Z, he, ext⟩ := hs
  have he1 := he.keep (K.cf.keep f id)
  obtain ⟨he2, m, hm⟩ := nobE_ok (K.nils f) _ _ hV he1
  have hr2 := ext.hr.app m
  rw [← hm] at hr2
  have ext2 : Ext K G fl n0 Z0 h0 ν0 Z h ν (vnobE (K.nils f) (vkeep (K.cf.keep f id) e) hV).2 :=
    ⟨hr2, ext.len, by rw [hm, List.length_append]; have := ext.vlen; omega, ext.nu, ext.zle, ext.keep, ext.znew⟩
  unfold vEnd at hv
  generalize vnobE (K.nils f) (vkeep (K.cf.keep f id) e) hV = r at *
  cases hgc : K.gc f with
  | false => rw [hgc] at hv; simp only [vEnd1, Option.some.injEq] at hv; subst hv; exact ⟨ν, Z, he2, ext2⟩
  | true =>
    rw [hgc] at hv
    simp only [vEnd1] at hv
    obtain ⟨ν', he3, hr3⟩ := vgc_ok hv he2 hr2
    have hn := hg hgc
    subst hn
    exact ⟨ν', Z, he3, hr3, ext.len, Nat.zero_le _, fun i hi => by omega, ext.zle, ext.keep, ext.znew⟩

theorem viter_ok {bv : VE → VH → Option (AX × VE × VH)} {be : Env → AH → Option (AX × Env × AH)}
    (hb : ∀ (e : VE) (hV : VH) (ee : Env) (h : AH) (x : AX) (e' : VE) (hV' : VH), bv e hV = some (x, e', hV') → Sim K G fl n0 Z0 h0 ν0 e hV ee h → ∃ ee' h', be ee h = some (x, ee', h') ∧ Sim K G fl n0 Z0 h0 ν0 e' hV' ee' h') :
    ∀ (n : Nat) (e : VE) (hV : VH) (ee : Env) (h : AH) (x : AX) (e' : VE) (hV' : VH), viter bv n e hV = some (x, e', hV') → Sim K G fl n0 Z0 h0 ν0 e hV ee h → ∃ ee' h', iter be n ee h = some (x, ee', h') ∧ Sim K G fl n0 Z0 h0 ν0 e' hV' ee' h'
  | 0, e, hV, ee, h, x, e', hV', hv, hs => by simp [viter] at hv
  | n + 1, e, hV, ee, h, x, e', hV', hv, hs => by
    simp only [viter] at hv
    obtain ⟨⟨y, e1, hV1⟩, h1, hv⟩ := Option.bind_eq_some_iff.1 hv
    obtain ⟨ee1, hh1, h2, h3⟩ := hb _ _ _ _ _ _ _ h1 hs
    cases y with
    | norm =>
      obtain ⟨ee2, hh2, h4, h5⟩ := viter_ok hb n _ _ _ _ _ _ _ hv h3
      exact ⟨ee2, hh2, by simp [iter, h2, h4], h5⟩
    | exit id => simp only [Option.some.injEq, Prod.mk.injEq] at hv; obtain ⟨rfl, rfl, rfl⟩ := hv; exact ⟨ee1, hh1, by simp [iter, h2], h3⟩
    | ret => simp only [Option.some.injEq, Prod.mk.injEq] at hv; obtain ⟨rfl, rfl, rfl⟩ := hv; exact ⟨ee1, hh1, by simp [iter, h2], h3⟩

theorem vCode_ok (hcall : CallRel K cv ce) (hpre : CallPre ce) (hf0 : fl ≤ h0.length) {f : FuncId} (hg : K.gc f = true → n0 = 0) : ∀ (c : Code) {e : VE} {hV : VH} {ee : Env} {h : AH} {x : AX} {e' : VE} {hV' : VH}, vCode P K cv f c e hV = some (x, e', hV') → Sim K G fl n0 Z0 h0 ν0 e hV ee h →
    ∃ ee' h', evCode P K.cf ce fl f c ee h = some (x, ee', h') ∧ Sim K G fl n0 Z0 h0 ν0 e' hV' ee' h' := by
  intro c
  induction c with
  | skip => intro e hV ee h x e' hV' hv hs; simp only [vCode, Option.some.injEq, Prod.mk.injEq] at hv; obtain ⟨rfl, rfl, rfl⟩ := hv; exact ⟨ee, h, rfl, hs⟩
  | region id ops d =>
    intro e hV ee h x e' hV' hv hs
    simp only [vCode] at hv
    split at hv
    · simp at hv
    · rename_i hw
      obtain ⟨⟨e1, hV1⟩, h1, hv⟩ := Option.bind_eq_some_iff.1 hv
      obtain ⟨⟨e2, hV2⟩, h2, hv⟩ := Option.map_eq_some_iff.1 hv
      simp only [Prod.mk.injEq] at hv; obtain ⟨rfl, rfl, rfl⟩ := hv
      obtain ⟨ee1, hh1, h3, h4⟩ := vOps_ok hcall hpre hf0 _ h1 hs
      refine ⟨_, _, ?_, vEnd_ok hg h2 h4⟩
      have hw' : ¬ (d && K.cf.wary f id && !stdy P K.cf ce fl ops (regL K.cf f id d ops.toList) ee h []) = true := fun hx => hw (by
        simp only [Bool.and_eq_true, Bool.not_eq_true'] at hx ⊢
        refine ⟨hx.1, ?_⟩
        cases hq : vstdy P K cv ops (regL K.cf f id d ops.toList) e hV [] with
        | false => rfl
        | true =>
          obtain ⟨ν, Z, he, ext⟩ := hs
          have := vstdy_ok hcall hpre hf0 _ hq he ext (pe := []) (fun p hp => by simp at hp)
          rw [this] at hx; simp at hx)
      simp only [evCode, h3, Option.bind_some]
      rw [if_neg hw']
  | seq a b iha ihb =>
    intro e hV ee h x e' hV' hv hs
    simp only [vCode] at hv
    obtain ⟨⟨y, e1, hV1⟩, h1, hv⟩ := Option.bind_eq_some_iff.1 hv
    obtain ⟨ee1, hh1, h2, h3⟩ := iha h1 hs
    cases y with
    | norm =>
      obtain ⟨ee2, hh2, h4, h5⟩ := ihb hv h3
      exact ⟨ee2, hh2, by simp [evCode, h2, h4], h5⟩
    | exit id => simp only [Option.some.injEq, Prod.mk.injEq] at hv; obtain ⟨rfl, rfl, rfl⟩ := hv; exact ⟨ee1, hh1, by simp [evCode, h2], h3⟩
    | ret => simp only [Option.some.injEq, Prod.mk.injEq] at hv; obtain ⟨rfl, rfl, rfl⟩ := hv; exact ⟨ee1, hh1, by simp [evCode, h2], h3⟩
  | cond c a b iha ihb =>
    intro e hV ee h x e' hV' hv hs
    simp only [vCode] at hv
    obtain ⟨v, h1, hv⟩ := Option.bind_eq_some_iff.1 hv
    cases v <;> simp only [reduceCtorEq] at hv
    rename_i t
    obtain ⟨ν, Z, he, ext⟩ := hs
    obtain ⟨c', h2, h3⟩ := vevC_rel he ext.hr h1 rfl
    obtain rfl := bool_rel h3
    cases t with
    | true =>
      simp only [if_true] at hv
      obtain ⟨ee1, hh1, h4, h5⟩ := iha hv ⟨ν, Z, he, ext⟩
      exact ⟨ee1, hh1, by simp [evCode, h2, h4], h5⟩
    | false =>
      simp only [Bool.false_eq_true, if_false] at hv
      obtain ⟨ee1, hh1, h4, h5⟩ := ihb hv ⟨ν, Z, he, ext⟩
      exact ⟨ee1, hh1, by simp [evCode, h2, h4], h5⟩
  | block id c ih =>
    intro e hV ee h x e' hV' hv hs
    simp only [vCode] at hv
    obtain ⟨⟨y, e1, hV1⟩, h1, hv⟩ := Option.map_eq_some_iff.1 hv
    obtain ⟨ee1, hh1, h2, h3⟩ := ih h1 hs
    cases y with
    | norm => simp only [Prod.mk.injEq] at hv; obtain ⟨rfl, rfl, rfl⟩ := hv; exact ⟨ee1, hh1, by simp [evCode, h2], h3⟩
    | ret => simp only [Prod.mk.injEq] at hv; obtain ⟨rfl, rfl, rfl⟩ := hv; exact ⟨ee1, hh1, by simp [evCode, h2], h3⟩
    | exit id' =>
      simp only at hv
      split at hv
      · rename_i e2; simp only [Prod.mk.injEq] at hv; obtain ⟨rfl, rfl, rfl⟩ := hv; exact ⟨ee1, hh1, by simp [evCode, h2, e2], h3⟩
      · rename_i e2; simp only [Prod.mk.injEq] at hv; obtain ⟨rfl, rfl, rfl⟩ := hv; exact ⟨ee1, hh1, by simp [evCode, h2, e2], h3⟩
  | loop c ih =>
    intro e hV ee h x e' hV' hv hs
    simp only [vCode] at hv
    obtain ⟨ee1, hh1, h2, h3⟩ := viter_ok (fun e hV ee h x e' hV' hv hs => ih hv hs) K.cf.rounds e hV ee h x e' hV' hv hs
    exact ⟨ee1, hh1, by simp only [evCode]; exact h2, h3⟩
  | exit id => intro e hV ee h x e' hV' hv hs; simp only [vCode, Option.some.injEq, Prod.mk.injEq] at hv; obtain ⟨rfl, rfl, rfl⟩ := hv; exact ⟨ee, h, rfl, hs⟩
  | ret => intro e hV ee h x e' hV' hv hs; simp only [vCode, Option.some.injEq, Prod.mk.injEq] at hv; obtain ⟨rfl, rfl, rfl⟩ := hv; exact ⟨ee, h, rfl, hs⟩
  | label s => intro e hV ee h x e' hV' hv hs; simp only [vCode, Option.some.injEq, Prod.mk.injEq] at hv; obtain ⟨rfl, rfl, rfl⟩ := hv; exact ⟨ee, h, rfl, hs⟩
  | _ => intro e hV ee h x e' hV' hv hs; simp [vCode] at hv

/-! ### a call -/
theorem entry_rel : ∀ {args : List V} {cargs : List AV} (i : Nat), VAs' Z h ν args cargs → EV Z h ν (ventry args i) (entry cargs i)
  | [], cargs, i, ha => by simp only [VAs'] at ha; subst ha; intro t v hv; simp [ventry, vget] at hv
  | v :: r, cargs, i, ha => by
    simp only [VAs'] at ha
    obtain ⟨a, r', rfl, h1, h2⟩ := ha
    intro t x hx
    simp only [ventry, vget] at hx
    simp only [entry, get]
    split at hx
    · rename_i e1; cases hx; rw [if_pos e1]; exact ⟨a, rfl, h1⟩
    · rename_i e1; rw [if_neg e1]; exact entry_rel (i + 1) h2 t x hx
theorem results_rel (he : EV Z h ν e ee) (hr : HR K G Z h fl ν hV) : ∀ {rs : List ResultVar} {vs : List V}, omap (vresult P e hV) rs = some vs → ∃ as, resultsA P ee h rs = some as ∧ VAs' Z h ν vs as
  | [], vs, hv => by simp [omap] at hv; subst hv; exact ⟨[], rfl, by simp only [VAs']⟩
  | x :: r, vs, hv => by
    rw [omap] at hv
    split at hv
    · rename_i v m hx hm; cases hv
      obtain ⟨as, h3, h4⟩ := results_rel he hr hm
      have : ∃ a, resultA P ee h x = some a ∧ VA' Z h ν v a := by
        cases x with
        | tmp t => exact he t v hx
        | cell a t =>
          simp only [vresult] at hx
          obtain ⟨p, k1, k2, k3⟩ := load_some hx
          obtain ⟨b, k4, k5⟩ := he a p k1
          obtain ⟨c, rfl, k6⟩ := (VA'.atom k2).1 k5
          obtain ⟨i, off, y, rfl, k7, k8⟩ := vload_ok hr k6 k3
          exact ⟨y, by simp [resultA, k4, k7], k8⟩
      obtain ⟨a, h1, h2⟩ := this
      exact ⟨a :: as, by simp [resultsA, h1, h3], by simp only [VAs']; exact ⟨a, as, rfl, h2, h4⟩⟩
    · simp at hv
theorem vtup_rel {vs : List V} {as : List AV} (ha : VAs' Z h ν vs as) : VA' Z h ν (vtup vs) (tupA as) := by
  unfold vtup
  split
  · simp only [VAs'] at ha
    obtain ⟨a, _, rfl, h1, rfl⟩ := ha
    exact h1
  · rename_i hn
    have : tupA as = .tup as := by
      unfold tupA
      split
      · rename_i a
        cases vs with
        | nil => simp [VAs'] at ha
        | cons v r =>
          simp only [VAs'] at ha
          obtain ⟨x, r', e1, h1, h2⟩ := ha
          cases e1
          cases r with
          | nil => exact absurd rfl (hn v)
          | cons _ _ => simp [VAs'] at h2
      · rfl
    rw [this]
    exact ⟨as, rfl, ha⟩

/-- What the tables must keep. -/
structure Kept (K : Kn) : Prop where
  gc : ∀ f, K.gc f = true → K.cf.pure f = true ∧ K.ali f = false
  out : ∀ f, (∀ ks, K.out f ≠ .frz ks) ∨ (K.cf.pure f = true ∧ K.ali f = false)
  own : ∀ f, (∀ ks, K.out f ≠ .own ks) ∨ (K.cf.pure f = true ∧ K.ali f = false)

theorem leave_ok {f : FuncId} (hk : Kept K) (hp : K.cf.pure f = true → K.ali f = false → n0 = 0) {vs : List V} {as : List AV} (ext : Ext K G fl n0 Z0 h0 ν0 Z h ν hV) (ha : VAs' Z h ν vs as) {r : V} {hV' : VH} (hv : vLeave K f hV (some vs) = some (r, hV')) :
    ∃ ν' Z', VA' Z' h ν' r (tupA as) ∧ Ext K G fl n0 Z0 h0 ν0 Z' h ν' hV' := by
  simp only [vLeave] at hv
  split at hv
  · cases hv; exact ⟨ν, Z, vtup_rel ha, ext⟩
  · rename_i ks ho
    have hn : n0 = 0 := by obtain ⟨q1, q2⟩ := (hk.out f).resolve_left fun hx => hx ks ho; exact hp q1 q2
    cases hm : omap (vfrz hV 6) vs with
    | none => rw [hm] at hv; simp [vlv1] at hv
    | some ws =>
      rw [hm] at hv; simp only [vlv1] at hv; cases hv
      let Z1 : Nat → Prop := fun j => Z j ∨ ∃ i, ν i = some j
      refine ⟨fun _ => none, Z1, vtup_rel (VAs'.nrm (ha.of_omap hm fun v c v' _ hva hvf => VA'.frz ext.hr.obj (fun j hj => .inl hj) 6 v c v' hva hvf fun i _ j hj => .inr ⟨i, hj⟩)), ?_⟩
      subst hn
      refine ⟨⟨fun i j hi => by simp at hi, fun i j x hi => by simp at hi, fun i i' j hi => by simp at hi, fun j hj => ?_, fun j hj => .inl (ext.hr.gz j hj), ext.hr.glm (fun j hj => .inl hj) fun _ _ => rfl⟩, ext.len, Nat.zero_le _, fun i hi => by omega, fun j hj => .inl (ext.zle j hj), ext.keep, fun j hj => ?_⟩
      · rcases hj with hj | ⟨i, hj⟩
        · exact ext.hr.zlt j hj
        · exact (ext.hr.dom i j hj).2.2
      · rcases hj with hj | ⟨i, hj⟩
        · exact ext.znew j hj
        · exact (ext.hr.zfl hj).elim (ext.znew j) .inr
  · rename_i ks ho
    have hn : n0 = 0 := by obtain ⟨q1, q2⟩ := (hk.own f).resolve_left fun hx => hx ks ho; exact hp q1 q2
    subst hn
    obtain ⟨h1, m, h2⟩ := nobAs_ok ks vs as hV ha
    have hr2 := ext.hr.app m
    rw [← h2] at hr2
    have hr3 := HR.cutR (vcells (vnobAs ks vs hV).1) hr2
    generalize vnobAs ks vs hV = q at *
    cases hg : K.gc f with
    | false =>
      rw [hg] at hv; simp only [vlv2] at hv; cases hv
      exact ⟨ν, Z, vtup_rel h1, hr2, ext.len, Nat.zero_le _, fun i hi => by omega, ext.zle, ext.keep, ext.znew⟩
    | true =>
      rw [hg] at hv; simp only [vlv2] at hv
      unfold vlv3 at hv
      split at hv
      · rename_i ws g hws; cases hv
        obtain ⟨ν', h3, h4⟩ := vgcL_ok hws h1 hr3
        exact ⟨ν', Z, vtup_rel h3, h4, ext.len, Nat.zero_le _, fun i hi => by omega, ext.zle, ext.keep, ext.znew⟩
      · simp at hv

theorem body_ok (hcall : CallRel K cv ce) (hpre : CallPre ce) (hk : Kept K) {f : FuncId} (hpk : K.cf.pack f = .whole) {args : List V} {hV : VH} {r : V} {hV' : VH} (hv : vBody P K cv f args hV = some (r, hV')) {G : Nat → Prop} {fl : Nat} {Z : Nat → Prop} {h : AH} {ν : Nat → Option Nat} {cargs : List AV} (hp : K.cf.pure f = true → K.ali f = false → hV = []) (hf : fl ≤ h.length) (hr : HR K G Z h fl ν hV) (ha : VAs' Z h ν args cargs) :
    Got K G fl hV Z h ν r hV' (runBody P K.cf ce fl f cargs h) := by
  unfold vBody at hv
  obtain ⟨fn, h1, hv⟩ := Option.bind_eq_some_iff.1 hv
  obtain ⟨c, h2, hv⟩ := Option.bind_eq_some_iff.1 hv
  obtain ⟨⟨x, e', hV1⟩, h3, hv⟩ := Option.bind_eq_some_iff.1 hv
  have hn : K.cf.pure f = true → K.ali f = false → hV.length = 0 := fun e e' => by rw [hp e e']; rfl
  obtain ⟨ee', h', h4, ν', Z', he, ext⟩ := vCode_ok (n0 := hV.length) (Z0 := Z) (h0 := h) (ν0 := ν) hcall hpre hf (fun e => hn (hk.gc f e).1 (hk.gc f e).2) c h3 ⟨ν, Z, entry_rel 0 ha, Ext.refl hr (Nat.le_refl _)⟩
  have key : ∀ (hx : vLeave K f hV1 (omap (vresult P e' hV1) fn.results.toList) = some (r, hV')), ∃ a ν2 Z2, ((resultsA P ee' h' fn.results.toList).bind fun vs => leave (K.cf.pack f) fl h.length vs h') = some (a, h') ∧ VA' Z2 h' ν2 r a ∧ Ext K G fl hV.length Z h ν Z2 h' ν2 hV' := fun hx => by
    cases hm : omap (vresult P e' hV1) fn.results.toList with
    | none => rw [hm] at hx; simp [vLeave] at hx
    | some vs =>
      rw [hm] at hx
      obtain ⟨as, h5, h6⟩ := results_rel he ext.hr hm
      obtain ⟨ν2, Z2, h7, h8⟩ := leave_ok hk hn ext h6 hx
      exact ⟨_, ν2, Z2, by simp [h5, hpk, leave], h7, h8⟩
  cases x with
  | exit id => simp at hv
  | norm =>
    obtain ⟨a, ν2, Z2, k1, k2, k3⟩ := key hv
    exact ⟨a, h', ν2, Z2, by simp only [runBody, h1, h2, h4, Option.bind_some]; exact k1, k2, k3⟩
  | ret =>
    obtain ⟨a, ν2, Z2, k1, k2, k3⟩ := key hv
    exact ⟨a, h', ν2, Z2, by simp only [runBody, h1, h2, h4, Option.bind_some]; exact k1, k2, k3⟩

theorem clone_ok {k : IntKind} {hV : VH} {args : List V} {r : V} {hV' : VH} (hv : vclone k hV args = some (r, hV')) {G : Nat → Prop} {fl : Nat} {Z : Nat → Prop} {h : AH} {ν : Nat → Option Nat} {cargs : List AV} (hf : fl ≤ h.length) (hr : HR K G Z h fl ν hV) (ha : VAs' Z h ν args cargs) :
    ∃ a, cargs = [.c a] ∧ Got K G fl hV Z h ν r hV' ((rdC k h a).map fun l => (.c (.sl h.length 0 l.length 1), h ++ [.ints k l])) := by
  unfold vclone at hv
  split at hv
  · rename_i a
    split at hv
    · rename_i l hl
      split at hv
      · rename_i hc; cases hv
        simp only [VAs'] at ha
        obtain ⟨c, _, rfl, h1, rfl⟩ := ha
        have hat : a.atom = true := by cases a <;> first | rfl | (simp [vrdI] at hl)
        obtain ⟨x, rfl, h2⟩ := (VA'.atom hat).1 h1
        have h3 := (vrdI_ok hr h2 hl).1
        refine ⟨x, rfl, ?_⟩
        exact Got.new hr hf (x := .ints true k l) (o := .ints k l) rfl rfl (by simp [rdC, h3, hc])
      · simp at hv
    · simp at hv
  · simp at hv

theorem vrun_ok (hk : Kept K) : ∀ d, CallRel K (vrun P K d) (run P K.cf d)
  | 0, g, args, hV, r, hV', hv, _, _, _, _, _, _, _, _, _, _ => by simp [vrun] at hv
  | d + 1, g, args, hV, r, hV', hv, G, fl, Z, h, ν, cargs, hp, hf, hr, ha => by
    simp only [vrun] at hv
    split at hv
    · rename_i k hc
      obtain ⟨a, rfl, this⟩ := clone_ok (K := K) hv hf hr ha
      simp only [run, hc]
      exact this
    · rename_i hc hpk
      have := body_ok (vrun_ok hk d) (run_pre P K.cf d) hk hpk hv hp hf hr ha
      simp only [run, hc]
      exact this
    · simp at hv
end
end Go.Eng
end
