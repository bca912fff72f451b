/- The value engine: its rewriting rules, plain laws on numbers, and how arguments are read. No conditions. -/
import Derived.Test.YtkfeofjgdijbeaaVa
import Derived.ChangeArms
import Derived.WideShapes
import Derived.DataReads
set_option linter.unusedVariables false
set_option linter.unusedSimpArgs false
section
/- The value engine: evaluation by rewriting: rules without binders. No conditions. -/
namespace Go.Eng

section
variable (P : Program) (K : Kn) (call : CallV) (f : FuncId)

def vK : List Fr → Option (AX × VE × VH) → Option (AX × VE × VH)
  | [], r => r
  | .code c :: ks, r => vK ks (r.bind fun r => match r.1 with | .norm => vCode P K call f c r.2.1 r.2.2 | x => some (x, r.2))
  | .blk id :: ks, r => vK ks (r.map fun r => match r.1 with | .exit id' => if id' = id then (.norm, r.2) else r | _ => r)
theorem vK_none : ∀ ks, vK P K call f ks none = none
  | [] => rfl
  | .code c :: ks => by simp [vK, vK_none ks]
  | .blk id :: ks => by simp [vK, vK_none ks]

def xC (c : Code) (ks : List Fr) (e : VE) (h : VH) : Option (AX × VE × VH) := vK P K call f ks (vCode P K call f c e h)
def xN (x : AX) (ks : List Fr) (e : VE) (h : VH) : Option (AX × VE × VH) := vK P K call f ks (some (x, e, h))
def xO (id : Nat) (ops l : List Oper) (ks : List Fr) (e : VE) (h : VH) : Option (AX × VE × VH) := vK P K call f ks ((vOps P K call ops.toArray l e h).bind fun r => (vEnd K f id r.1 r.2).map fun r => (.norm, r))
def xE (ks : List Fr) : Option (VE × VH) → Option (AX × VE × VH)
  | some r => xN P K call f .norm ks r.1 r.2
  | none => none
def xX (id : Nat) (ops : List Oper) (dst : Option Nat) (l : List Oper) (ks : List Fr) (e : VE) : Option (V × VH) → Option (AX × VE × VH)
  | some (v, h) => xO P K call f id ops l ks (vput dst v e) h
  | none => none
def xB (a b : Code) (ks : List Fr) (e : VE) (h : VH) : Option V → Option (AX × VE × VH)
  | some (.bool true) => xC P K call f a ks e h
  | some (.bool false) => xC P K call f b ks e h
  | _ => none
def xG (id : Nat) (ops : List Oper) (dst : Option Nat) (op : Op) (l : List Oper) (ks : List Fr) (e : VE) (h : VH) : Option Bool → Option (AX × VE × VH)
  | some true => xX P K call f id ops dst l ks e (vOp P K call e h op)
  | some false => xO P K call f id ops l ks (vput dst (.tup []) e) h
  | none => none
def xW (id : Nat) (ops l : List Oper) (ks : List Fr) (e : VE) (h : VH) : Bool → Option (AX × VE × VH)
  | true => if vstdy P K call ops.toArray l e h [] = true then xO P K call f id ops l ks e h else none
  | false => xO P K call f id ops l ks e h

variable (ks : List Fr) (e : VE) (h : VH)
theorem r_seq (a b : Code) : xC P K call f (.seq a b) ks e h = xC P K call f a (.code b :: ks) e h := rfl
theorem r_skip : xC P K call f .skip ks e h = xN P K call f .norm ks e h := rfl
theorem r_retC : xC P K call f .ret ks e h = xN P K call f .ret ks e h := rfl
theorem r_exitC (id : Nat) : xC P K call f (.exit id) ks e h = xN P K call f (.exit id) ks e h := rfl
theorem r_label (s : Nat) : xC P K call f (.label s) ks e h = xN P K call f .norm ks e h := rfl
theorem r_block (id : Nat) (c : Code) : xC P K call f (.block id c) ks e h = xC P K call f c (.blk id :: ks) e h := rfl
theorem r_region (id : Nat) (l : List Oper) : xC P K call f (.region id l.toArray false) ks e h = xO P K call f id l l ks e h := by
  unfold xC xO; rw [vCode]; simp [regL]
theorem r_or0 (l : List Oper) : ordR none l = l := rfl
theorem r_regionW (id : Nat) (l : List Oper) : xC P K call f (.region id l.toArray true) ks e h = xW P K call f id l (ordR (K.cf.ord f id) l) ks e h (K.cf.wary f id) := by
  unfold xC; rw [vCode]
  simp only [regL, if_true]
  cases K.cf.wary f id with
  | true =>
    simp only [xW, Bool.true_and]
    cases vstdy P K call l.toArray (ordR (K.cf.ord f id) l) e h [] with
    | true => simp [xO]
    | false => simp [vK_none]
  | false => simp [xW, xO]
theorem r_xWt (id : Nat) (ops l : List Oper) : xW P K call f id ops l ks e h true = if vstdy P K call ops.toArray l e h [] = true then xO P K call f id ops l ks e h else none := rfl
theorem r_xW (id : Nat) (ops l : List Oper) : xW P K call f id ops l ks e h false = xO P K call f id ops l ks e h := rfl
theorem r_cond (c : Operand) (a b : Code) : xC P K call f (.cond c a b) ks e h = xB P K call f a b ks e h (vev K e c) := by
  unfold xC; rw [vCode]
  cases vev K e c with
  | none => simp [vK_none, xB]
  | some v => cases v <;> simp [vK_none, xB]; rename_i b; cases b <;> simp [xC]
theorem r_Bt (a b : Code) : xB P K call f a b ks e h (some (.bool true)) = xC P K call f a ks e h := rfl
theorem r_Bf (a b : Code) : xB P K call f a b ks e h (some (.bool false)) = xC P K call f b ks e h := rfl
theorem r_Ncode (c : Code) : xN P K call f .norm (.code c :: ks) e h = xC P K call f c ks e h := rfl
theorem r_Nret (c : Code) : xN P K call f .ret (.code c :: ks) e h = xN P K call f .ret ks e h := rfl
theorem r_Nexit (id : Nat) (c : Code) : xN P K call f (.exit id) (.code c :: ks) e h = xN P K call f (.exit id) ks e h := rfl
theorem r_Nblk (id : Nat) : xN P K call f .norm (.blk id :: ks) e h = xN P K call f .norm ks e h := rfl
theorem r_Nblkr (id : Nat) : xN P K call f .ret (.blk id :: ks) e h = xN P K call f .ret ks e h := rfl
theorem r_Nblke (id id' : Nat) : xN P K call f (.exit id') (.blk id :: ks) e h = if id' = id then xN P K call f .norm ks e h else xN P K call f (.exit id') ks e h := by
  unfold xN; rw [vK]
  by_cases e1 : id' = id <;> simp [e1]
theorem r_Nnil (x : AX) : xN P K call f x [] e h = some (x, e, h) := rfl
theorem r_Es (r : VE × VH) : xE P K call f ks (some r) = xN P K call f .norm ks r.1 r.2 := rfl
theorem r_Onil (id : Nat) (ops : List Oper) : xO P K call f id ops [] ks e h = xE P K call f ks (vEnd K f id e h) := by
  unfold xO xE; simp only [vOps, Option.bind_some]
  cases vEnd K f id e h with
  | none => simp [vK_none]
  | some r => rfl
theorem r_Oop (id : Nat) (ops : List Oper) (dst : Option Nat) (op : Op) (ty : TypeId) (pos : String) (after : Array Edge) (r : List Oper) :
    xO P K call f id ops (⟨dst, op, ty, pos, after, none⟩ :: r) ks e h = xX P K call f id ops dst r ks e (vOp P K call e h op) := by
  unfold xO
  rw [vOps]
  simp only [vwant, Option.bind_some, if_true]
  cases vOp P K call e h op with
  | none => simp [vK_none, xX]
  | some x => rfl
theorem r_Oif (id : Nat) (ops : List Oper) (dst : Option Nat) (op : Op) (ty : TypeId) (pos : String) (after : Array Edge) (g : Nat) (w : Bool) (r : List Oper) :
    xO P K call f id ops (⟨dst, op, ty, pos, after, some (g, w)⟩ :: r) ks e h = xG P K call f id ops dst op r ks e h (vwantV (vgetO e (dstOf ops g)) w) := by
  unfold xO
  rw [vOps]
  have : vwant ops.toArray e ⟨dst, op, ty, pos, after, some (g, w)⟩ = vwantV (vgetO e (dstOf ops g)) w := by
    unfold vwant; simp only [List.getElem?_toArray, dstOf_eq]
  rw [this]
  cases vwantV (vgetO e (dstOf ops g)) w with
  | none => simp [vK_none, xG]
  | some b => cases b with
    | false => simp only [Option.bind_some, Bool.false_eq_true, if_false]; rfl
    | true =>
      simp only [Option.bind_some, if_true, xG]
      cases vOp P K call e h op with
      | none => simp [vK_none, xX]
      | some x => rfl
theorem r_Xs (id : Nat) (ops : List Oper) (dst : Option Nat) (l : List Oper) (v : V) : xX P K call f id ops dst l ks e (some (v, h)) = xO P K call f id ops l ks (vput dst v e) h := rfl
theorem r_Gt (id : Nat) (ops : List Oper) (dst : Option Nat) (op : Op) (l : List Oper) : xG P K call f id ops dst op l ks e h (some true) = xX P K call f id ops dst l ks e (vOp P K call e h op) := rfl
theorem r_Gf (id : Nat) (ops : List Oper) (dst : Option Nat) (op : Op) (l : List Oper) : xG P K call f id ops dst op l ks e h (some false) = xO P K call f id ops l ks (vput dst (.tup []) e) h := rfl
theorem round_v (c : Code) : vCode P K call f c e h = xC P K call f c [] e h := rfl
end
theorem loop_v {P : Program} {K : Kn} {call : CallV} {f : FuncId} {ks : List Fr} {e : VE} {h : VH} {c : Code} {x : AX} {e' : VE} {h' : VH} (hl : viter (vCode P K call f c) K.cf.rounds e h = some (x, e', h')) : xC P K call f (.loop c) ks e h = xN P K call f x ks e' h' := by
  unfold xC; rw [vCode, hl]; rfl
theorem r_wtt : vwantV (some (.bool true)) true = some true := rfl
theorem r_wtf : vwantV (some (.bool true)) false = some false := rfl
theorem r_wft : vwantV (some (.bool false)) true = some false := rfl
theorem r_wff : vwantV (some (.bool false)) false = some true := rfl
theorem r_wu (w : Bool) : vwantV (some (.tup [])) w = some false := rfl
theorem r_gO (e : VE) (d : Nat) : vgetO e (some d) = vget e d := rfl
theorem r_putS (d : Nat) (v : V) (e : VE) : vput (some d) v e = (d, some v) :: e := rfl
theorem r_putN (v : V) (e : VE) : vput none v e = e := rfl
theorem r_get (k : Nat) (v : Option V) (r : VE) (t : Nat) : vget ((k, v) :: r) t = if k = t then v else vget r t := rfl
theorem r_keepN (e : VE) : vkeep [] e = [] := rfl
theorem r_keepC (t : Nat) (r : List Nat) (e : VE) : vkeep (t :: r) e = (t, vget e t) :: vkeep r e := rfl

/-! ### a call -/
def vfin1 (K : Kn) (f : FuncId) (h : VH) : Om → Option (List V) → Option (V × VH)
  | .inl, some vs => some (vtup vs, h)
  | .frz ks, some vs => vlv1 ks (omap (vfrz h 6) vs)
  | .own ks, some vs => vlv2 (K.gc f) (vnobAs ks vs h)
  | _, none => none
def vfin (P : Program) (K : Kn) (f : FuncId) (rs : List ResultVar) : Option (AX × VE × VH) → Option (V × VH)
  | some (.ret, e, h) => vfin1 K f h (K.out f) (omap (vresult P e h) rs)
  | some (.norm, e, h) => vfin1 K f h (K.out f) (omap (vresult P e h) rs)
  | _ => none
theorem vfin1_eq (K : Kn) (f : FuncId) (h : VH) (vs : Option (List V)) : vLeave K f h vs = vfin1 K f h (K.out f) vs := by
  unfold vLeave vfin1
  cases vs <;> cases K.out f <;> rfl
theorem vrun_v {P : Program} {K : Kn} {d : Nat} {f : FuncId} {fn : Func} {c : Code} {args : List V} {h : VH} (hf : P.funcs[f]? = some fn) (hb : fn.body = some c) (hcl : K.cf.clone f = none) (hp : K.cf.pack f = .whole) :
    vrun P K (d + 1) f args h = vfin P K f fn.results.toList (xC P K (vrun P K d) f c [] (ventry args 0) h) := by
  rw [vrun, hcl, hp]
  unfold vBody vfin xC
  rw [hf, Option.bind_some, hb, Option.bind_some, vK]
  cases vCode P K (vrun P K d) f c (ventry args 0) h with
  | none => rfl
  | some r =>
    obtain ⟨x, e, h'⟩ := r
    cases x <;> simp only [Option.bind_some, vfin1_eq]
section
variable (P : Program) (K : Kn) (f : FuncId) (rs : List ResultVar) (e : VE) (h : VH)
theorem r_fr : vfin P K f rs (some (.ret, e, h)) = vfin1 K f h (K.out f) (omap (vresult P e h) rs) := rfl
theorem r_fn : vfin P K f rs (some (.norm, e, h)) = vfin1 K f h (K.out f) (omap (vresult P e h) rs) := rfl
theorem r_fi (vs : List V) : vfin1 K f h .inl (some vs) = some (vtup vs, h) := rfl
theorem r_ff (ks : List (List (Option NK))) (vs : List V) : vfin1 K f h (.frz ks) (some vs) = vlv1 ks (omap (vfrz h 6) vs) := rfl
theorem r_fo (ks : List (List (Option NK))) (vs : List V) : vfin1 K f h (.own ks) (some vs) = vlv2 (K.gc f) (vnobAs ks vs h) := rfl
theorem r_l1 (ks : List (List (Option NK))) (vs : List V) : vlv1 ks (some vs) = some (vtup (vnrmAs ks vs), []) := rfl
theorem r_l2t (r : List V × VH) : vlv2 true r = vlv3 (vgcL r.1 (vcutR r.2 (vcells r.1))) := rfl
theorem r_cun : vcutR h [] = h := rfl
theorem r_cul (i len : Nat) (r : List V) : vcutR h (.sl i 0 len 1 :: r) = vcutR (h.modify i (VO.cut len)) r := rfl
theorem r_cub (b : Bool) (r : List V) : vcutR h (.bool b :: r) = vcutR h r := rfl
theorem r_cui (k : IntKind) (n : Int) (r : List V) : vcutR h (.int k n :: r) = vcutR h r := rfl
theorem r_cus (s : ByteArray) (r : List V) : vcutR h (.str s :: r) = vcutR h r := rfl
theorem r_cuis (k : IntKind) (l : List Int) (r : List V) : vcutR h (.ints k l :: r) = vcutR h r := rfl
theorem r_cuc (s n : Nat) (l r : List V) : vcutR h (.cells s n l :: r) = vcutR h r := rfl
theorem r_cusl (i len s : Nat) (r : List V) (hs : s ≠ 1) : vcutR h (.sl i 0 len s :: r) = vcutR h r := by
  rw [vcutR]; intro _ _ e; exact hs (by injection e)
theorem r_cuti (w : Bool) (k : IntKind) (l : List Int) (n : Nat) : (VO.ints w k l).cut n = .ints w k (l.take n) := rfl
theorem r_cutv (w : Bool) (l : List V) (n : Nat) : (VO.vals w l).cut n = .vals w l := rfl
theorem r_ven : vcells [] = [] := rfl
theorem r_vec (v : V) (r : List V) : vcells (v :: r) = v.cs ++ vcells r := rfl
theorem r_l2f (r : List V × VH) : vlv2 false r = some (vtup r.1, r.2) := rfl
theorem r_l3 (vs : List V) : vlv3 (some (vs, h)) = some (vtup vs, h) := rfl
theorem r_t1 (v : V) : vtup [v] = v := rfl
theorem r_t2 (v w : V) (r : List V) : vtup (v :: w :: r) = .tup (v :: w :: r) := rfl
theorem r_t0 : vtup [] = .tup [] := rfl
theorem r_rt (t : Nat) : vresult P e h (.tmp t) = vget e t := rfl
theorem r_rc (a : Nat) (t : TypeId) : vresult P e h (.cell a t) = vload P t h (vget e a) := rfl
theorem r_en (i : Nat) : ventry [] i = [] := rfl
theorem r_ec (v : V) (r : List V) (i : Nat) : ventry (v :: r) i = (i, some v) :: ventry r (i + 1) := rfl
end
def consM {β : Type} : Option β → Option (List β) → Option (List β)
  | some x, some l => some (x :: l)
  | _, _ => none
theorem r_cM {β : Type} (x : β) (l : List β) : consM (some x) (some l) = some (x :: l) := rfl
theorem r_oN {α β : Type} (F : α → Option β) : omap F [] = some [] := rfl
theorem r_oC {α β : Type} (F : α → Option β) (a : α) (r : List α) : omap F (a :: r) = consM (F a) (omap F r) := by
  rw [omap]; cases F a <;> cases omap F r <;> rfl

/-! ### a region's end -/
section
variable (K : Kn) (f : FuncId) (e : VE) (h : VH)
theorem r_end (id : Nat) : vEnd K f id e h = vEnd1 (K.gc f) (vnobE (K.nils f) (vkeep (K.cf.keep f id) e) h) := rfl
theorem r_endt (r : VE × VH) : vEnd1 true r = vgc r.1 r.2 := rfl
theorem r_endf (r : VE × VH) : vEnd1 false r = some r := rfl
theorem r_nob0 : vnobE (fun _ => none) e h = (e, h) := by
  induction e generalizing h with
  | nil => rfl
  | cons p r ih =>
    obtain ⟨t, v⟩ := p
    cases v with
    | none => simp only [vnobE, ih]
    | some v => simp only [vnobE, vnob1, ih]
theorem r_nobN (nk : Nat → Option NK) : vnobE nk [] h = ([], h) := rfl
theorem r_nobC (nk : Nat → Option NK) (t : Nat) (v : V) (r : VE) : vnobE nk ((t, some v) :: r) h = ((t, some (vnob1 (nk t) v h).1) :: (vnobE nk r (vnob1 (nk t) v h).2).1, (vnobE nk r (vnob1 (nk t) v h).2).2) := rfl
theorem r_nobE (nk : Nat → Option NK) (t : Nat) (r : VE) : vnobE nk ((t, none) :: r) h = ((t, none) :: (vnobE nk r h).1, (vnobE nk r h).2) := rfl
theorem r_nb0 (v : V) : vnob1 none v h = (v, h) := rfl
theorem r_nbi (k : IntKind) : vnob1 (some (.i k)) .nil h = (.sl h.length 0 0 1, h ++ [.ints true k []]) := rfl
theorem r_nbs (s : Nat) : vnob1 (some (.s s)) .nil h = (.sl h.length 0 0 s, h ++ [.vals true []]) := rfl
theorem r_nbsl (k : NK) (i off len sz : Nat) : vnob1 (some k) (.sl i off len sz) h = (.sl i off len sz, h) := by cases k <;> rfl
theorem r_nbin (k : NK) (k' : IntKind) (l : List Int) : vnob1 (some k) (.ints k' l) h = (.ints k' l, h) := by cases k <;> rfl
theorem r_nbce (k : NK) (s n : Nat) (l : List V) : vnob1 (some k) (.cells s n l) h = (.cells s n l, h) := by cases k <;> rfl
theorem r_nLn (vs : List V) : vnobL [] vs h = (vs, h) := rfl
theorem r_nLv (k : Option NK) (ks : List (Option NK)) : vnobL (k :: ks) [] h = ([], h) := rfl
theorem r_nLc (k : Option NK) (ks : List (Option NK)) (v : V) (vs : List V) : vnobL (k :: ks) (v :: vs) h = ((vnob1 k v h).1 :: (vnobL ks vs (vnob1 k v h).2).1, (vnobL ks vs (vnob1 k v h).2).2) := rfl
theorem r_nAa (ks : List (Option NK)) (l : List V) : vnobA ks (.agg l) h = (.agg (vnobL ks l h).1, (vnobL ks l h).2) := by cases ks <;> rfl
theorem r_nAn (v : V) : vnobA [] v h = (v, h) := by
  cases v <;> first | rfl | simp [vnobA, vnobL]
theorem r_nAk_b (q : Option NK) (ks : List (Option NK)) (b : Bool) : vnobA (q :: ks) (.bool b) h = vnob1 q (.bool b) h := rfl
theorem r_nAk_i (q : Option NK) (ks : List (Option NK)) (k : IntKind) (n : Int) : vnobA (q :: ks) (.int k n) h = vnob1 q (.int k n) h := rfl
theorem r_nAk_s (q : Option NK) (ks : List (Option NK)) (s : ByteArray) : vnobA (q :: ks) (.str s) h = vnob1 q (.str s) h := rfl
theorem r_nAk_n (q : Option NK) (ks : List (Option NK))  : vnobA (q :: ks) (.nil) h = vnob1 q (.nil) h := rfl
theorem r_nAk_is (q : Option NK) (ks : List (Option NK)) (k : IntKind) (l : List Int) : vnobA (q :: ks) (.ints k l) h = vnob1 q (.ints k l) h := rfl
theorem r_nAk_ce (q : Option NK) (ks : List (Option NK)) (sz n : Nat) (l : List V) : vnobA (q :: ks) (.cells sz n l) h = vnob1 q (.cells sz n l) h := rfl
theorem r_nAk_fp (q : Option NK) (ks : List (Option NK)) (l : List V) : vnobA (q :: ks) (.fptr l) h = vnob1 q (.fptr l) h := rfl
theorem r_nAk_sl (q : Option NK) (ks : List (Option NK)) (i off len sz : Nat) : vnobA (q :: ks) (.sl i off len sz) h = vnob1 q (.sl i off len sz) h := rfl
theorem r_nAk_pt (q : Option NK) (ks : List (Option NK)) (i off : Nat) : vnobA (q :: ks) (.ptr i off) h = vnob1 q (.ptr i off) h := rfl
theorem r_nAk_fn (q : Option NK) (ks : List (Option NK)) (g : Fn) (a b : List V) : vnobA (q :: ks) (.fn g a b) h = vnob1 q (.fn g a b) h := rfl
theorem r_nsn (vs : List V) : vnobAs [] vs h = (vs, h) := rfl
theorem r_nsv (k : List (Option NK)) (ks : List (List (Option NK))) : vnobAs (k :: ks) [] h = ([], h) := rfl
theorem r_nsc (k : List (Option NK)) (ks : List (List (Option NK))) (v : V) (vs : List V) : vnobAs (k :: ks) (v :: vs) h = ((vnobA k v h).1 :: (vnobAs ks vs (vnobA k v h).2).1, (vnobAs ks vs (vnobA k v h).2).2) := rfl
theorem r_m0 (v : V) : vnrm1 none v = v := rfl
theorem r_mi (k : IntKind) : vnrm1 (some (.i k)) .nil = .ints k [] := rfl
theorem r_ms (s : Nat) : vnrm1 (some (.s s)) .nil = .cells s 0 [] := rfl
theorem r_msl (k : NK) (i off len sz : Nat) : vnrm1 (some k) (.sl i off len sz) = .sl i off len sz := by cases k <;> rfl
theorem r_min (k : NK) (k' : IntKind) (l : List Int) : vnrm1 (some k) (.ints k' l) = .ints k' l := by cases k <;> rfl
theorem r_mce (k : NK) (s n : Nat) (l : List V) : vnrm1 (some k) (.cells s n l) = .cells s n l := by cases k <;> rfl
theorem r_mLn (vs : List V) : vnrmL [] vs = vs := rfl
theorem r_mLv (k : Option NK) (ks : List (Option NK)) : vnrmL (k :: ks) [] = [] := rfl
theorem r_mLc (k : Option NK) (ks : List (Option NK)) (v : V) (vs : List V) : vnrmL (k :: ks) (v :: vs) = vnrm1 k v :: vnrmL ks vs := rfl
theorem r_mAa (ks : List (Option NK)) (l : List V) : vnrmA ks (.agg l) = .agg (vnrmL ks l) := by cases ks <;> rfl
theorem r_mAn (v : V) : vnrmA [] v = v := by
  cases v <;> first | rfl | simp [vnrmA, vnrmL]
theorem r_mAk_b (q : Option NK) (ks : List (Option NK)) (b : Bool) : vnrmA (q :: ks) (.bool b) = vnrm1 q (.bool b) := rfl
theorem r_mAk_i (q : Option NK) (ks : List (Option NK)) (k : IntKind) (n : Int) : vnrmA (q :: ks) (.int k n) = vnrm1 q (.int k n) := rfl
theorem r_mAk_s (q : Option NK) (ks : List (Option NK)) (s : ByteArray) : vnrmA (q :: ks) (.str s) = vnrm1 q (.str s) := rfl
theorem r_mAk_n (q : Option NK) (ks : List (Option NK))  : vnrmA (q :: ks) (.nil) = vnrm1 q (.nil) := rfl
theorem r_mAk_is (q : Option NK) (ks : List (Option NK)) (k : IntKind) (l : List Int) : vnrmA (q :: ks) (.ints k l) = vnrm1 q (.ints k l) := rfl
theorem r_mAk_ce (q : Option NK) (ks : List (Option NK)) (sz n : Nat) (l : List V) : vnrmA (q :: ks) (.cells sz n l) = vnrm1 q (.cells sz n l) := rfl
theorem r_mAk_fp (q : Option NK) (ks : List (Option NK)) (l : List V) : vnrmA (q :: ks) (.fptr l) = vnrm1 q (.fptr l) := rfl
theorem r_mAk_sl (q : Option NK) (ks : List (Option NK)) (i off len sz : Nat) : vnrmA (q :: ks) (.sl i off len sz) = vnrm1 q (.sl i off len sz) := rfl
theorem r_mAk_pt (q : Option NK) (ks : List (Option NK)) (i off : Nat) : vnrmA (q :: ks) (.ptr i off) = vnrm1 q (.ptr i off) := rfl
theorem r_mAk_fn (q : Option NK) (ks : List (Option NK)) (g : Fn) (a b : List V) : vnrmA (q :: ks) (.fn g a b) = vnrm1 q (.fn g a b) := rfl
theorem r_msn (vs : List V) : vnrmAs [] vs = vs := rfl
theorem r_msv (k : List (Option NK)) (ks : List (List (Option NK))) : vnrmAs (k :: ks) [] = [] := rfl
theorem r_msc (k : List (Option NK)) (ks : List (List (Option NK))) (v : V) (vs : List V) : vnrmAs (k :: ks) (v :: vs) = vnrmA k v :: vnrmAs ks vs := rfl
theorem r_atb (b : Bool) : (V.bool b).atom = true := rfl
theorem r_ati (k : IntKind) (n : Int) : (V.int k n).atom = true := rfl
theorem r_ats (s : ByteArray) : (V.str s).atom = true := rfl
theorem r_atn : V.nil.atom = true := rfl
theorem r_atis (k : IntKind) (l : List Int) : (V.ints k l).atom = true := rfl
theorem r_atc (s n : Nat) (l : List V) : (V.cells s n l).atom = true := rfl
theorem r_atf (l : List V) : (V.fptr l).atom = true := rfl
theorem r_atl (i off len sz : Nat) : (V.sl i off len sz).atom = true := rfl
theorem r_atp (i off : Nat) : (V.ptr i off).atom = true := rfl
theorem r_atfn (g : Fn) (a b : List V) : (V.fn g a b).atom = true := rfl

theorem r_gcn : vgc e [] = some (e, []) := rfl
theorem r_gcc (o : VO) (r : VH) : vgc e (o :: r) = vgcBy (reach (o :: r) 3 (addNs [] (erefs e))) e (o :: r) := rfl
theorem r_gLn (vs : List V) : vgcL vs [] = some (vs, []) := rfl
theorem r_gLc (vs : List V) (o : VO) (r : VH) : vgcL vs (o :: r) = vgcLBy (reach (o :: r) 3 (addNs [] (vs.flatMap (vrefs 4)))) vs (o :: r) := rfl
def ndB : List Nat → Bool
  | [] => true
  | a :: r => (!r.contains a) && ndB r
theorem ndB_iff : ∀ l, ndB l = true ↔ l.Nodup
  | [] => by simp [ndB]
  | a :: r => by rw [ndB, Bool.and_eq_true, ndB_iff r, List.nodup_cons]; simp
def gcIf {α : Type} : Bool → Option α → Option α
  | true, x => x
  | false, _ => none
theorem r_gIt {α : Type} (x : Option α) : gcIf true x = x := rfl
theorem r_ndn : ndB [] = true := rfl
theorem r_ndc (a : Nat) (r : List Nat) : ndB (a :: r) = ((!r.contains a) && ndB r) := rfl
theorem r_gcB (o : List Nat) : vgcBy o e h = gcIf (ndB o) (vtwo (vrenE (idxN o) e) (omap (vpickO (idxN o) h) o)) := by
  unfold vgcBy
  cases hn : ndB o with
  | true => rw [if_pos ((ndB_iff o).1 hn)]; rfl
  | false => rw [if_neg fun q => by rw [(ndB_iff o).2 q] at hn; simp at hn]; rfl
theorem r_gLB (o : List Nat) (vs : List V) : vgcLBy o vs h = gcIf (ndB o) (vtwo (omap (vren (idxN o) 4) vs) (omap (vpickO (idxN o) h) o)) := by
  unfold vgcLBy
  cases hn : ndB o with
  | true => rw [if_pos ((ndB_iff o).1 hn)]; rfl
  | false => rw [if_neg fun q => by rw [(ndB_iff o).2 q] at hn; simp at hn]; rfl
theorem r_two {α β : Type} (a : α) (b : β) : vtwo (some a) (some b) = some (a, b) := rfl
def reach1 (h : VH) (n : Nat) (l : List Nat) : List Nat → List Nat
  | [] => l
  | a :: r => reach h n (addNs l (a :: r))
theorem reach_fix (h : VH) : ∀ (n : Nat) (l : List Nat), (l.flatMap fun i => orefs h[i]?) = [] → reach h n l = l
  | 0, l, _ => rfl
  | n + 1, l, hl => by rw [reach, hl]; exact reach_fix h n l hl
theorem r_rea (n : Nat) (l : List Nat) : reach h (n + 1) l = reach1 h n l (l.flatMap fun i => orefs h[i]?) := by
  cases hl : l.flatMap fun i => orefs h[i]? with
  | nil => rw [reach_fix h _ _ hl]; rfl
  | cons a r => rw [reach, hl]; rfl
theorem r_rea0 (l : List Nat) : reach h 0 l = l := rfl
theorem r_re1n (n : Nat) (l : List Nat) : reach1 h n l [] = l := rfl
theorem r_re1c (n : Nat) (l : List Nat) (a : Nat) (r : List Nat) : reach1 h n l (a :: r) = reach h n (addNs l (a :: r)) := rfl
theorem r_ori (w : Bool) (k : IntKind) (l : List Int) : orefs (some (.ints w k l)) = [] := rfl
theorem r_orv (w : Bool) (l : List V) : orefs (some (.vals w l)) = l.flatMap (vrefs 4) := rfl
theorem r_ord : orefs (some .dead) = [] := rfl
theorem r_orn : orefs none = [] := rfl
theorem r_adn (l : List Nat) : addNs l [] = l := rfl
theorem r_adc (l : List Nat) (i : Nat) (r : List Nat) : addNs l (i :: r) = addNs (addN l i) r := rfl
theorem r_ad1 (l : List Nat) (i : Nat) : addN l i = if i ∈ l then l else l ++ [i] := rfl
theorem r_ern : erefs [] = [] := rfl
theorem r_ers (t : Nat) (v : V) (r : VE) : erefs ((t, some v) :: r) = vrefs 4 v ++ erefs r := rfl
theorem r_er0 (t : Nat) (r : VE) : erefs ((t, none) :: r) = erefs r := rfl
theorem r_rsl (n i off len sz : Nat) : vrefs n (.sl i off len sz) = [i] := by cases n <;> rfl
theorem r_rptr (n i off : Nat) : vrefs n (.ptr i off) = [i] := by cases n <;> rfl
theorem r_rb (n : Nat) (b : Bool) : vrefs n (.bool b) = [] := by cases n <;> rfl
theorem r_ri (n : Nat) (k : IntKind) (x : Int) : vrefs n (.int k x) = [] := by cases n <;> rfl
theorem r_rs (n : Nat) (s : ByteArray) : vrefs n (.str s) = [] := by cases n <;> rfl
theorem r_rn (n : Nat) : vrefs n .nil = [] := by cases n <;> rfl
theorem r_ris (n : Nat) (k : IntKind) (l : List Int) : vrefs n (.ints k l) = [] := by cases n <;> rfl
theorem r_rce (n s m : Nat) (l : List V) : vrefs n (.cells s m l) = [] := by cases n <;> rfl
theorem r_rfp (n : Nat) (l : List V) : vrefs n (.fptr l) = [] := by cases n <;> rfl
theorem r_ra4 (l : List V) : vrefs 4 (.agg l) = l.flatMap (vrefs 3) := rfl
theorem r_ra3 (l : List V) : vrefs 3 (.agg l) = l.flatMap (vrefs 2) := rfl
theorem r_rt4 (l : List V) : vrefs 4 (.tup l) = l.flatMap (vrefs 3) := rfl
theorem r_rf4 (g : Fn) (a b : List V) : vrefs 4 (.fn g a b) = a.flatMap (vrefs 3) ++ b.flatMap (vrefs 3) := rfl
theorem r_rf3 (g : Fn) (a b : List V) : vrefs 3 (.fn g a b) = a.flatMap (vrefs 2) ++ b.flatMap (vrefs 2) := rfl
def idxS : Option Nat → Option Nat
  | some n => some (n + 1)
  | none => none
theorem r_idS (n : Nat) : idxS (some n) = some (n + 1) := rfl
theorem r_idc (k : Nat) (r : List Nat) (i : Nat) : idxN (k :: r) i = if k = i then some 0 else idxS (idxN r i) := by
  rw [idxN]; split
  · rfl
  · cases idxN r i <;> rfl
def renS (off len sz : Nat) : Option Nat → Option V
  | some k => some (.sl k off len sz)
  | none => none
def renP (off : Nat) : Option Nat → Option V
  | some k => some (.ptr k off)
  | none => none
def renF (g : Fn) : Option (List V) → Option (List V) → Option V
  | some a, some b => some (.fn g a b)
  | _, _ => none
def renT : Option (List V) → Option V
  | some l => some (.tup l)
  | none => none
theorem r_nS (off len sz k : Nat) : renS off len sz (some k) = some (.sl k off len sz) := rfl
theorem r_nP (off k : Nat) : renP off (some k) = some (.ptr k off) := rfl
theorem r_nF (g : Fn) (a b : List V) : renF g (some a) (some b) = some (.fn g a b) := rfl
theorem r_nT (l : List V) : renT (some l) = some (.tup l) := rfl
section
variable (ρ : Nat → Option Nat)
theorem r_vsl (n i off len sz : Nat) : vren ρ n (.sl i off len sz) = renS off len sz (ρ i) := by
  cases n <;> (unfold vren; cases ρ i <;> rfl)
theorem r_vptr (n i off : Nat) : vren ρ n (.ptr i off) = renP off (ρ i) := by
  cases n <;> (unfold vren; cases ρ i <;> rfl)
theorem r_vb (n : Nat) (b : Bool) : vren ρ n (.bool b) = some (.bool b) := by cases n <;> rfl
theorem r_vi (n : Nat) (k : IntKind) (x : Int) : vren ρ n (.int k x) = some (.int k x) := by cases n <;> rfl
theorem r_vs (n : Nat) (s : ByteArray) : vren ρ n (.str s) = some (.str s) := by cases n <;> rfl
theorem r_vn (n : Nat) : vren ρ n .nil = some .nil := by cases n <;> rfl
theorem r_vis (n : Nat) (k : IntKind) (l : List Int) : vren ρ n (.ints k l) = some (.ints k l) := by cases n <;> rfl
theorem r_vce (n s m : Nat) (l : List V) : vren ρ n (.cells s m l) = some (.cells s m l) := by cases n <;> rfl
theorem r_vfp (n : Nat) (l : List V) : vren ρ n (.fptr l) = some (.fptr l) := by cases n <;> rfl
theorem r_va4 (l : List V) : vren ρ 4 (.agg l) = aggL (omap (vren ρ 3) l) := rfl
theorem r_va3 (l : List V) : vren ρ 3 (.agg l) = aggL (omap (vren ρ 2) l) := rfl
theorem r_vt4 (l : List V) : vren ρ 4 (.tup l) = renT (omap (vren ρ 3) l) := by unfold vren; cases omap (vren ρ 3) l <;> rfl
theorem r_vf4 (g : Fn) (a b : List V) : vren ρ 4 (.fn g a b) = renF g (omap (vren ρ 3) a) (omap (vren ρ 3) b) := by unfold vren; cases omap (vren ρ 3) a <;> cases omap (vren ρ 3) b <;> rfl
theorem r_vf3 (g : Fn) (a b : List V) : vren ρ 3 (.fn g a b) = renF g (omap (vren ρ 2) a) (omap (vren ρ 2) b) := by unfold vren; cases omap (vren ρ 2) a <;> cases omap (vren ρ 2) b <;> rfl
def renV (w : Bool) : Option (List V) → Option VO
  | some l => some (.vals w l)
  | none => none
theorem r_rV (w : Bool) (l : List V) : renV w (some l) = some (.vals w l) := rfl
theorem r_Oi (w : Bool) (k : IntKind) (l : List Int) : vrenO ρ (.ints w k l) = some (.ints w k l) := rfl
theorem r_Ov (w : Bool) (l : List V) : vrenO ρ (.vals w l) = renV w (omap (vren ρ 4) l) := by simp only [vrenO]; cases omap (vren ρ 4) l <;> rfl
theorem r_Od : vrenO ρ .dead = some .dead := rfl
def renE (t : Nat) : Option V → Option VE → Option VE
  | some v, some r => some ((t, some v) :: r)
  | _, _ => none
def renE0 (t : Nat) : Option VE → Option VE
  | some r => some ((t, none) :: r)
  | none => none
theorem r_rE (t : Nat) (v : V) (r : VE) : renE t (some v) (some r) = some ((t, some v) :: r) := rfl
theorem r_rE0 (t : Nat) (r : VE) : renE0 t (some r) = some ((t, none) :: r) := rfl
theorem r_En : vrenE ρ [] = some [] := rfl
theorem r_Ec (t : Nat) (v : V) (r : VE) : vrenE ρ ((t, some v) :: r) = renE t (vren ρ 4 v) (vrenE ρ r) := by
  rw [vrenE]; cases vren ρ 4 v <;> cases vrenE ρ r <;> rfl
theorem r_E0 (t : Nat) (r : VE) : vrenE ρ ((t, none) :: r) = renE0 t (vrenE ρ r) := by
  rw [vrenE]; cases vrenE ρ r <;> rfl
def pickO (ρ : Nat → Option Nat) : Option VO → Option VO
  | some o => vrenO ρ o
  | none => none
theorem r_pO (o : VO) : pickO ρ (some o) = vrenO ρ o := rfl
theorem r_pk (i : Nat) : vpickO ρ h i = pickO ρ h[i]? := by unfold vpickO; cases h[i]? <;> rfl
end
theorem r_agL (l : List V) : aggL (some l) = some (.agg l) := rfl

/-! ### freezing -/
def frzS (F : List V → Option (List V)) (off len sz : Nat) : Option VO → Option V
  | some (.ints _ k l) => if sz = 1 ∧ off + len ≤ l.length then some (.ints k ((l.drop off).take len)) else none
  | some (.vals _ l) => if off + len * sz ≤ l.length then (match F ((l.drop off).take (len * sz)) with
      | some l' => some (.cells sz len l')
      | none => none) else none
  | _ => none
def cellsO (sz n : Nat) : Option (List V) → Option V
  | some l => some (.cells sz n l)
  | none => none
def fptrO : Option (List V) → Option V
  | some l => some (.fptr l)
  | none => none
theorem r_cO (sz n : Nat) (l : List V) : cellsO sz n (some l) = some (.cells sz n l) := rfl
theorem r_fO (l : List V) : fptrO (some l) = some (.fptr l) := rfl
theorem r_fSi (F : List V → Option (List V)) (off len sz : Nat) (w : Bool) (k : IntKind) (l : List Int) : frzS F off len sz (some (.ints w k l)) = if sz = 1 ∧ off + len ≤ l.length then some (.ints k ((l.drop off).take len)) else none := rfl
theorem r_fSv (F : List V → Option (List V)) (off len sz : Nat) (w : Bool) (l : List V) : frzS F off len sz (some (.vals w l)) = if off + len * sz ≤ l.length then cellsO sz len (F ((l.drop off).take (len * sz))) else none := by
  simp only [frzS]; split
  · cases F ((l.drop off).take (len * sz)) <;> rfl
  · rfl
def frzP (F : List V → Option (List V)) (off : Nat) : Option VO → Option V
  | some (.ints _ k l) => if off ≤ l.length then some (.fptr ((l.drop off).map (.int k))) else none
  | some (.vals _ l) => if off ≤ l.length then (match F (l.drop off) with
      | some l' => some (.fptr l')
      | none => none) else none
  | _ => none
theorem r_fPv (F : List V → Option (List V)) (off : Nat) (w : Bool) (l : List V) : frzP F off (some (.vals w l)) = if off ≤ l.length then fptrO (F (l.drop off)) else none := by
  simp only [frzP]; split
  · cases F (l.drop off) <;> rfl
  · rfl
theorem r_fsl (n i off len sz : Nat) : vfrz h (n + 1) (.sl i off len sz) = frzS (omap (vfrz h n)) off len sz h[i]? := by
  rw [vfrz]; unfold frzS; cases h[i]? with
  | none => rfl
  | some o => cases o <;> rfl
theorem r_fptr (n i off : Nat) : vfrz h (n + 1) (.ptr i off) = frzP (omap (vfrz h n)) off h[i]? := by
  rw [vfrz]; unfold frzP; cases h[i]? with
  | none => rfl
  | some o => cases o <;> rfl
theorem r_ffn (n : Nat) (g : Fn) (a b : List V) : vfrz h (n + 1) (.fn g a b) = renF g (omap (vfrz h n) a) (omap (vfrz h n) b) := by
  rw [vfrz]; cases omap (vfrz h n) a <;> cases omap (vfrz h n) b <;> rfl
theorem r_fag (n : Nat) (l : List V) : vfrz h (n + 1) (.agg l) = aggL (omap (vfrz h n) l) := rfl
theorem r_fb (n : Nat) (b : Bool) : vfrz h n (.bool b) = some (.bool b) := by cases n <;> rfl
theorem r_fint (n : Nat) (k : IntKind) (x : Int) : vfrz h n (.int k x) = some (.int k x) := by cases n <;> rfl
theorem r_fstr (n : Nat) (s : ByteArray) : vfrz h n (.str s) = some (.str s) := by cases n <;> rfl
theorem r_fnil (n : Nat) : vfrz h n .nil = some .nil := by cases n <;> rfl
theorem r_fis (n : Nat) (k : IntKind) (l : List Int) : vfrz h n (.ints k l) = some (.ints k l) := by cases n <;> rfl
theorem r_fce (n s m : Nat) (l : List V) : vfrz h n (.cells s m l) = some (.cells s m l) := by cases n <;> rfl
theorem r_ffp (n : Nat) (l : List V) : vfrz h n (.fptr l) = some (.fptr l) := by cases n <;> rfl
end

/-! ### operations -/
section
variable (P : Program) (K : Kn) (call : CallV) (e : VE) (h : VH)
theorem r_res (v : V) : vres (some v) h = some (v, h) := rfl
theorem r_move (x : Operand) : vOp P K call e h (.move x) = vres (vev K e x) h := rfl
theorem r_assign (x : Operand) : vOp P K call e h (.assign x) = vres (vev K e x) h := rfl
theorem r_pick (c a b : Operand) : vOp P K call e h (.pick c a b) = vres (vpick (vev K e c) (vev K e a) (vev K e b)) h := rfl
theorem r_pickt (a b : Option V) : vpick (some (.bool true)) a b = a := rfl
theorem r_pickf (a b : Option V) : vpick (some (.bool false)) a b = b := rfl
theorem r_alloc (t : TypeId) : vOp P K call e h (.alloc t) = valloc (toV? (zeroT P t)) h := rfl
theorem r_box (t : TypeId) (x : Operand) : vOp P K call e h (.box t x) = valloc (vev K e x) h := rfl
theorem r_al (z : V) : valloc (some z) h = if z.one = true then some (.ptr h.length 0, h ++ [.vals true z.cs]) else none := rfl
theorem r_build (t : TypeId) (l : List (Nat × Operand)) : vOp P K call e h (.build t l.toArray) = vres (vbuild P t (vparts K e l)) h := rfl
theorem r_bslice (t : TypeId) (n : Nat) (l : List (Nat × Operand)) : vOp P K call e h (.buildSlice t n l.toArray) = vbslice2 P (K.cf.emt t) n h (elemS P t) (vparts K e l) := rfl
theorem r_load (t : TypeId) (a : Operand) : vOp P K call e h (.load t a) = vres (vload P t h (vev K e a)) h := rfl
theorem r_store (t : TypeId) (a x : Operand) : vOp P K call e h (.store t a x) = vstore P t h (vev K e a) (vev K e x) := rfl
theorem r_nlc (x : Operand) : vOp P K call e h (.nilCheck x) = vres (vnlc (vev K e x)) h := rfl
theorem r_nl1 (i off : Nat) : vnlc (some (.ptr i off)) = some (.ptr i off) := rfl
theorem r_nl2 (l : List V) : vnlc (some (.fptr l)) = some (.fptr l) := rfl
theorem r_bin (op : BinOp) (t t' : TypeId) (x y : Operand) : vOp P K call e h (.binOp op t x y t') = vres (vbin P op t (vev K e x) (vev K e y)) h := rfl
theorem r_un (op : UnOp) (t : TypeId) (x : Operand) : vOp P K call e h (.unOp op t x) = vres (vun op (vev K e x)) h := rfl
theorem r_conv (s d : TypeId) (x : Operand) : vOp P K call e h (.convert s d x) = vconv P s d h (vev K e x) := rfl
theorem r_mkf (g : Fn) (a b : List Operand) : vOp P K call e h (.makeFunc g a.toArray b.toArray) = vres (vfn g (vevs K e a) (vevs K e b)) h := rfl
theorem r_mks (t : TypeId) (l c : Operand) : vOp P K call e h (.makeSlice t l c) = vmake P t h (vev K e l) (vev K e c) := rfl
theorem r_slc (t : TypeId) (x : Operand) (lo hi : Option Operand) : vOp P K call e h (.slice t x lo hi none) = vres (vslice P K t e lo hi (vev K e x)) h := rfl
theorem r_fad (t : TypeId) (x : Operand) (g : Nat) : vOp P K call e h (.fieldAddr t x g) = vres (vfieldAddr P t g (vev K e x)) h := rfl
theorem r_fld (t : TypeId) (x : Operand) (g : Nat) : vOp P K call e h (.field t x g) = vres (vfield P t g (vev K e x)) h := rfl
theorem r_iad (t : TypeId) (x ix : Operand) : vOp P K call e h (.indexAddr t x ix) = vres (vindexAddr P t (vev K e x) (vev K e ix)) h := rfl
theorem r_idx (t : TypeId) (x ix : Operand) : vOp P K call e h (.index t x ix) = vres (vindex P t (vev K e x) (vev K e ix)) h := rfl
theorem r_ext (x : Operand) (i : Nat) : vOp P K call e h (.extract x i) = vres (vextract (vev K e x) i) h := rfl
theorem r_ex1 (l : List V) (i : Nat) : vextract (some (.tup l)) i = l[i]? := rfl
theorem r_callf (g : FuncId) (l : List Operand) (ts : Array TypeId) : vOp P K call e h (.call ⟨.value (.func g), l.toArray, ts⟩) = vcallF K call h g (vevs K e l) := rfl
theorem r_callt (t : Nat) (l : List Operand) (ts : Array TypeId) : vOp P K call e h (.call ⟨.value (.tmp t), l.toArray, ts⟩) = vcallV K call h (vget e t) (vevs K e l) := rfl
theorem r_callen (l : List Operand) (ts : List TypeId) : vOp P K call e h (.call ⟨.builtin .len, l.toArray, ts.toArray⟩) = vres (vlen1 P ts[0]? (vevs K e l)) h := by
  simp [vOp, vCall]
theorem r_calapp (l : List Operand) (ts : List TypeId) : vOp P K call e h (.call ⟨.builtin .append, l.toArray, ts.toArray⟩) = vapp0 (K.cf.papp l.toArray) P ts[0]? ts[1]? h (vevs K e l) := by
  simp [vOp, vCall]
theorem r_calcp (l : List Operand) (ts : List TypeId) : vOp P K call e h (.call ⟨.builtin .copy, l.toArray, ts.toArray⟩) = vcopy0 P h ts[0]? (vevs K e l) := by
  simp [vOp, vCall]
theorem r_calmax (l : List Operand) (ts : Array TypeId) : vOp P K call e h (.call ⟨.builtin .max, l.toArray, ts⟩) = vres (vmm true (vevs K e l)) h := rfl
theorem r_calmin (l : List Operand) (ts : Array TypeId) : vOp P K call e h (.call ⟨.builtin .min, l.toArray, ts⟩) = vres (vmm false (vevs K e l)) h := rfl
theorem r_vt (t : Nat) : vev K e (.tmp t) = vget e t := rfl
theorem r_vcb (b : Bool) : vev K e (.const (.bool b)) = some (.bool b) := rfl
theorem r_vci (k : IntKind) (n : Int) : vev K e (.const (.int k n)) = some (.int k n) := rfl
theorem r_vcs (s : ByteArray) : vev K e (.const (.string s)) = some (.str s) := rfl
theorem r_vcnp : vev K e (.const (.pointer none)) = some .np := rfl
theorem r_vcn : vev K e (.const (.slice none 0 0)) = some .nil := rfl
theorem r_vca (cs : List Value) : vev K e (.const (.agg cs.toArray)) = aggL (omap vofC cs) := by
  simp only [vev, vofK, vofV]; cases omap vofC cs <;> rfl
theorem r_vcf (g : FuncId) : vev K e (.func g) = some (.fn (.func g) [] []) := rfl
theorem r_vcg (g : Nat) : vev K e (.global g) = K.glob g := rfl
theorem r_ofb (b : Bool) : vofC (.bool b) = some (.bool b) := rfl
theorem r_ofi (k : IntKind) (n : Int) : vofC (.int k n) = some (.int k n) := rfl
theorem r_ofs (s : ByteArray) : vofC (.string s) = some (.str s) := rfl
theorem r_ofn : vofC (.slice none 0 0) = some .nil := rfl
theorem r_evs (l : List Operand) : vevs K e l = omap (vev K e) l := rfl
theorem r_pn : vparts K e [] = some [] := rfl
def prt (i : Nat) : Option V → Option (List (Nat × V)) → Option (List (Nat × V))
  | some v, some l => some ((i, v) :: l)
  | _, _ => none
theorem r_prt (i : Nat) (v : V) (l : List (Nat × V)) : prt i (some v) (some l) = some ((i, v) :: l) := rfl
theorem r_pc (i : Nat) (x : Operand) (r : List (Nat × Operand)) : vparts K e ((i, x) :: r) = prt i (vev K e x) (vparts K e r) := by
  rw [vparts]; cases vev K e x <;> cases vparts K e r <;> rfl
theorem r_one_a (l : List V) : (V.agg l).one = true := rfl
theorem r_one_b (b : Bool) : (V.bool b).one = true := rfl
theorem r_one_i (k : IntKind) (n : Int) : (V.int k n).one = true := rfl
theorem r_one_s (s : ByteArray) : (V.str s).one = true := rfl
theorem r_one_n  : (V.nil).one = true := rfl
theorem r_one_is (k : IntKind) (l : List Int) : (V.ints k l).one = true := rfl
theorem r_one_ce (sz n : Nat) (l : List V) : (V.cells sz n l).one = true := rfl
theorem r_one_fp (l : List V) : (V.fptr l).one = true := rfl
theorem r_one_sl (i off len sz : Nat) : (V.sl i off len sz).one = true := rfl
theorem r_one_pt (i off : Nat) : (V.ptr i off).one = true := rfl
theorem r_one_fn (g : Fn) (a b : List V) : (V.fn g a b).one = true := rfl
theorem r_cs_a (l : List V) : (V.agg l).cs = l := rfl
theorem r_cs_b (b : Bool) : (V.bool b).cs = [.bool b] := rfl
theorem r_cs_i (k : IntKind) (n : Int) : (V.int k n).cs = [.int k n] := rfl
theorem r_cs_s (s : ByteArray) : (V.str s).cs = [.str s] := rfl
theorem r_cs_n  : (V.nil).cs = [.nil] := rfl
theorem r_cs_is (k : IntKind) (l : List Int) : (V.ints k l).cs = [.ints k l] := rfl
theorem r_cs_ce (sz n : Nat) (l : List V) : (V.cells sz n l).cs = [.cells sz n l] := rfl
theorem r_cs_fp (l : List V) : (V.fptr l).cs = [.fptr l] := rfl
theorem r_cs_sl (i off len sz : Nat) : (V.sl i off len sz).cs = [.sl i off len sz] := rfl
theorem r_cs_pt (i off : Nat) : (V.ptr i off).cs = [.ptr i off] := rfl
theorem r_cs_fn (g : Fn) (a b : List V) : (V.fn g a b).cs = [.fn g a b] := rfl
theorem r_tov (a : AV) : toV? (some a) = a.toV := rfl
def tovA : Option (List V) → Option V
  | some l => some (.agg l)
  | none => none
theorem r_tovA (l : List V) : tovA (some l) = some (.agg l) := rfl
theorem r_toc (x : CV) : (AV.c x).toV = x.toV := rfl
theorem r_toa (cs : List CV) : (AV.agg cs).toV = tovA (omap CV.toV cs) := by simp only [AV.toV]; cases omap CV.toV cs <;> rfl
theorem r_tb (b : Bool) : (CV.bool b).toV = some (.bool b) := rfl
theorem r_ti (k : IntKind) (n : Int) : (CV.int k n).toV = some (.int k n) := rfl
theorem r_ts (s : ByteArray) : (CV.str s).toV = some (.str s) := rfl
theorem r_tn : CV.nil.toV = some .nil := rfl
theorem r_bd (t : TypeId) (parts : List (Nat × V)) : vbuild P t (some parts) = vbuild2 (placesB P t) (toV? (zeroT P t)) parts := rfl
def filP (ps : List (Nat × Nat)) (cs : List V) (v : V) (r : List (Nat × V)) : Option (Nat × Nat) → Option (List V)
  | some p => vfill (ps[·]?) r (vfill1 v p cs)
  | none => none
def vfilP (ps : List (Nat × Nat)) (l : List (Nat × V)) (cs : Option (List V)) : Option (List V) := vfill (ps[·]?) l cs
theorem r_bd2 (ps : List (Nat × Nat)) (z : V) (parts : List (Nat × V)) : vbuild2 (some ps) (some z) parts = aggL (vfilP ps parts (some z.cs)) := rfl
theorem r_filn (ps : List (Nat × Nat)) (cs : Option (List V)) : vfilP ps [] cs = cs := rfl
def filp1 (v : V) (cs : List V) : Option (Nat × Nat) → Option (List V)
  | some p => vfill1 v p cs
  | none => none
theorem r_fp1 (v : V) (cs : List V) (o s : Nat) : filp1 v cs (some (o, s)) = if v.one = true ∧ v.cs.length = s ∧ o + s ≤ cs.length then some (vsetAll cs o v.cs) else none := rfl
theorem r_filc (ps : List (Nat × Nat)) (i : Nat) (v : V) (r : List (Nat × V)) (cs : List V) : vfilP ps ((i, v) :: r) (some cs) = vfilP ps r (filp1 v cs ps[i]?) := by
  unfold vfilP; rw [vfill]
  cases ps[i]? with
  | none => simp only [filp1]; rw [vfill_none]
  | some p => rfl
def vfilS (s : Nat) (l : List (Nat × V)) (cs : Option (List V)) : Option (List V) := vfill (fun i => some (i * s, s)) l cs
theorem r_fsn (s : Nat) (cs : Option (List V)) : vfilS s [] cs = cs := rfl
theorem r_fsc (s : Nat) (i : Nat) (v : V) (r : List (Nat × V)) (cs : List V) : vfilS s ((i, v) :: r) (some cs) = vfilS s r (filp1 v cs (some (i * s, s))) := rfl
theorem r_san (cs : List V) (o : Nat) : vsetAll cs o [] = cs := rfl
theorem r_sac (cs : List V) (o : Nat) (v : V) (r : List V) : vsetAll cs o (v :: r) = vsetAll (cs.set o v) (o + 1) r := rfl
theorem r_bs2 (em : Bool) (n : Nat) (el : TypeId) (parts : List (Nat × V)) : vbslice2 P em n h (some el) (some parts) = vbslice1 P em el n parts h (sizeT P el) (toV? (zeroT P el)) := rfl
theorem r_bs1 (em : Bool) (el : TypeId) (n : Nat) (parts : List (Nat × V)) (s : Nat) (z : V) : vbslice1 P em el n parts h (some s) (some z) = if n * s ≤ 16777216 ∧ z.cs.length = s ∧ z.one = true then vnewE em (vmk? (kindOf P el) (vfilS s parts (some (vreps n z.cs)))) n s h else none := rfl
theorem r_nE (em : Bool) (o : VO) (n s : Nat) : vnewE em (some o) n s h = some (if em = true ∧ n = 0 then .em else .sl h.length 0 n s, h ++ [o]) := rfl
theorem r_newO (o : VO) (n s : Nat) : vnewO (some o) n s h = some (.sl h.length 0 n s, h ++ [o]) := rfl
theorem r_mkq (ko : Option IntKind) (cs : List V) : vmk? ko (some cs) = vmkO ko cs := rfl
def mkI (k : IntKind) : Option (List Int) → Option VO
  | some l => some (.ints true k l)
  | none => none
theorem r_mkI (k : IntKind) (l : List Int) : mkI k (some l) = some (.ints true k l) := rfl
theorem r_mkOi (k : IntKind) (cs : List V) : vmkO (some k) cs = mkI k (vtoInts k cs) := by simp only [vmkO]; cases vtoInts k cs <;> rfl
theorem r_mkOv (cs : List V) : vmkO none cs = some (.vals true cs) := rfl
theorem r_tIn (k : IntKind) : vtoInts k [] = some [] := rfl
theorem r_tIc (k : IntKind) (n : Int) (r : List V) : vtoInts k (.int k n :: r) = consM (some n) (vtoInts k r) := by
  rw [vtoInts, if_pos rfl]; cases vtoInts k r <;> rfl
theorem r_repz (cs : List V) : vreps 0 cs = [] := rfl
theorem r_repn (n : Nat) (cs : List V) : vreps (n + 1) cs = cs ++ vreps n cs := rfl
theorem r_ldp (t : TypeId) (i off : Nat) : vload P t h (some (.ptr i off)) = vload1 (aggT P t) (sizeT P t) h i off := rfl
theorem r_ldf (t : TypeId) (l : List V) : vload P t h (some (.fptr l)) = vloadF (aggT P t) (sizeT P t) l := rfl
theorem r_l1t (s i off : Nat) : vload1 (some true) (some s) h i off = vobj h[i]? off s := rfl
theorem r_l1f (s : Option Nat) (i off : Nat) : vload1 (some false) s h i off = vat h[i]? off := by cases s <;> rfl
theorem r_lFt (s : Nat) (l : List V) : vloadF (some true) (some s) l = if 0 < s ∧ s ≤ l.length then some (.agg (l.take s)) else none := rfl
theorem r_lFf (s : Option Nat) (l : List V) : vloadF (some false) s l = l[0]? := by cases s <;> rfl
def aggO : Option VO → Option V
  | some x => some (.agg x.cells)
  | none => none
theorem r_aggO (x : VO) : aggO (some x) = some (.agg x.cells) := rfl
theorem r_obj (o : VO) (off s : Nat) : vobj (some o) off s = aggO (o.sub off s) := by simp only [vobj]; cases o.sub off s <;> rfl
theorem r_at (o : VO) (off : Nat) : vat (some o) off = o.at off := rfl
theorem r_ati' (w : Bool) (k : IntKind) (l : List Int) (off : Nat) : (VO.ints w k l).at off = if off < l.length then some (.int k (gt l off)) else none := rfl
theorem r_atv (w : Bool) (l : List V) (off : Nat) : (VO.vals w l).at off = l[off]? := rfl
theorem r_celli (w : Bool) (k : IntKind) (l : List Int) : (VO.ints w k l).cells = l.map (.int k) := rfl
theorem r_cellv (w : Bool) (l : List V) : (VO.vals w l).cells = l := rfl
theorem r_subi (w : Bool) (k : IntKind) (l : List Int) (off n : Nat) : (VO.ints w k l).sub off n = if off + n ≤ l.length then some (.ints w k ((l.drop off).take n)) else none := rfl
theorem r_subv (w : Bool) (l : List V) (off n : Nat) : (VO.vals w l).sub off n = if off + n ≤ l.length then some (.vals w ((l.drop off).take n)) else none := rfl
theorem r_sto (t : TypeId) (i off : Nat) (v : V) : vstore P t h (some (.ptr i off)) (some v) = vsto1 h i off v (sizeT P t) := rfl
theorem r_sto1 (i off : Nat) (v : V) (s : Nat) : vsto1 h i off v (some s) = if v.one = true ∧ v.cs.length = s ∧ 0 < s then vsto2 h i (vsets h[i]? off v.cs) else none := rfl
theorem r_sto2 (i : Nat) (x : VO) : vsto2 h i (some x) = some (.tup [], h.set i x) := rfl
theorem r_sets (o : VO) (off : Nat) (cs : List V) : vsets (some o) off cs = o.sets off cs := rfl
def setR (off : Nat) (r : List V) : Option VO → Option VO
  | some y => y.sets off r
  | none => none
theorem r_setR (off : Nat) (r : List V) (y : VO) : setR off r (some y) = y.sets off r := rfl
theorem r_setn (x : VO) (off : Nat) : x.sets off [] = some x := rfl
theorem r_setc (x : VO) (off : Nat) (v : V) (r : List V) : x.sets off (v :: r) = setR (off + 1) r (x.set1 off v) := by rw [VO.sets]; cases x.set1 off v <;> rfl
theorem r_s1i (k : IntKind) (l : List Int) (off : Nat) (n : Int) : (VO.ints true k l).set1 off (.int k n) = if off < l.length then some (.ints true k (l.set off n)) else none := by simp [VO.set1]
theorem r_s1v (l : List V) (off : Nat) (v : V) : (VO.vals true l).set1 off v = if off < l.length then some (.vals true (l.set off v)) else none := by cases v <;> rfl
theorem r_bin1 (op : BinOp) (t : TypeId) (a b : V) : vbin P op t (some a) (some b) = vbin2 P op t a.toC b.toC := rfl
theorem r_bin2 (op : BinOp) (t : TypeId) (a b : CV) : vbin2 P op t (some a) (some b) = toV1 (binE P op t a b) := rfl
theorem r_tv1 (a : CV) : toV1 (some a) = a.toV := rfl
theorem r_cb (b : Bool) : (V.bool b).toC = some (.bool b) := rfl
theorem r_ci (k : IntKind) (n : Int) : (V.int k n).toC = some (.int k n) := rfl
theorem r_cst (s : ByteArray) : (V.str s).toC = some (.str s) := rfl
theorem r_cn : V.nil.toC = some .nil := rfl
theorem r_csl (i off len sz : Nat) : (V.sl i off len sz).toC = if 0 < len then some (.sl 0 0 len 1) else none := rfl
theorem r_cis (k : IntKind) (l : List Int) : (V.ints k l).toC = if 0 < l.length then some (.sl 0 0 l.length 1) else none := rfl
theorem r_cce (s n : Nat) (l : List V) : (V.cells s n l).toC = if 0 < n then some (.sl 0 0 n 1) else none := rfl
theorem r_uni (op : UnOp) (k : IntKind) (n : Int) : vun op (some (.int k n)) = toV1 (unA op (.int k n)) := rfl
theorem r_unb (op : UnOp) (b : Bool) : vun op (some (.bool b)) = toV1 (unA op (.bool b)) := rfl
theorem r_cv (s d : TypeId) (x : V) : vconv P s d h (some x) = vconvO (vconv2 P h (P.underlying s) (P.underlying d) x) (vconvS P s d h (P.underlying s) (P.underlying d) x) := rfl
theorem r_cvO (r : V × VH) (x : Option (V × VH)) : vconvO (some r) x = some r := rfl
theorem r_cvN (x : Option (V × VH)) : vconvO none x = x := rfl
theorem r_cv0 (e e' : TypeId) (i off len sz : Nat) : vconv2 P h (some (.slice e)) (some (.slice e')) (.sl i off len sz) = none := rfl
theorem r_cvS (s d e e' : TypeId) (i off len sz : Nat) : vconvS P s d h (some (.slice e)) (some (.slice e')) (.sl i off len sz) = if s = d ∧ kindOf P e' = some .u8 ∧ 0 < len ∧ VO.wB h[i]? = true then some (.sl i off len sz, h) else none := rfl
theorem r_wB (o : VO) : VO.wB (some o) = o.w := rfl
theorem r_cvi (k' k k'' : IntKind) (n : Int) : vconv2 P h (some (.int k')) (some (.int k)) (.int k'' n) = some (.int k (k.wrap n), h) := rfl
theorem r_cvs (el : TypeId) (s : ByteArray) : vconv2 P h (some .string) (some (.slice el)) (.str s) = if kindOf P el = some .u8 then some (.sl h.length 0 s.size 1, h ++ [.ints true .u8 (bytesL s)]) else none := rfl
theorem r_cvb (el : TypeId) (k : IntKind) (l : List Int) : vconv2 P h (some (.slice el)) (some .string) (.ints k l) = if kindOf P el = some .u8 then vstrO (vrdI .u8 h (.ints k l)) h else none := rfl
theorem r_cvl (el : TypeId) (i off len sz : Nat) : vconv2 P h (some (.slice el)) (some .string) (.sl i off len sz) = if kindOf P el = some .u8 then vstrO (vrdI .u8 h (.sl i off len sz)) h else none := rfl
theorem r_sO (l : List Int) : vstrO (some l) h = some (.str ⟨(l.map fun n => UInt8.ofNat n.toNat).toArray⟩, h) := rfl
theorem r_rdn (k : IntKind) : vrdI k h .nil = some [] := rfl
theorem r_rdi (k : IntKind) (l : List Int) : vrdI k h (.ints k l) = some l := by simp [vrdI]
theorem r_rdl (k : IntKind) (i off len : Nat) : vrdI k h (.sl i off len 1) = vrdO k (vsub h[i]? off len) := by simp [vrdI]
theorem r_rdO (k : IntKind) (w : Bool) (l : List Int) : vrdO k (some (.ints w k l)) = some l := by simp [vrdO]
theorem r_vsub (o : VO) (off n : Nat) : vsub (some o) off n = o.sub off n := rfl
theorem r_vfn (g : Fn) (a b : List V) : vfn g (some a) (some b) = if (a.all V.atom && b.all V.atom) = true then some (.fn g a b) else none := rfl
theorem r_mk (t : TypeId) (l c : Int) : vmake P t h (some (.int .i64 l)) (some (.int .i64 c)) = vmake1 P l c h (elemS P t) := rfl
theorem r_mk1 (l c : Int) (el : TypeId) : vmake1 P l c h (some el) = vmake2 P el l c h (sizeT P el) (bytesT P el) := rfl
theorem r_mk2 (el : TypeId) (l c : Int) (s b : Nat) : vmake2 P el l c h (some s) (some b) = if 0 ≤ l ∧ l ≤ c ∧ c ≤ 140737488355328 ∧ c * b ≤ 140737488355328 ∧ vlen (vzo (kindOf P el) (toV? (zeroT P el)) l.toNat) = l.toNat * s then vnewO (vzo (kindOf P el) (toV? (zeroT P el)) l.toNat) l.toNat s h else none := rfl
theorem r_zoi (k : IntKind) (n : Nat) : vzo (some k) (some (.int k 0)) n = some (.ints true k (List.replicate n 0)) := by simp [vzo]
theorem r_zov (z : V) (n : Nat) : vzo none (some z) n = if z.one = true then some (.vals true (vreps n z.cs)) else none := rfl
theorem r_leni (w : Bool) (k : IntKind) (l : List Int) : vlen (some (.ints w k l)) = l.length := rfl
theorem r_lenv (w : Bool) (l : List V) : vlen (some (.vals w l)) = l.length := rfl
theorem r_bn (d : Int) : vbound K e none d = some d := rfl
def bndV : Option V → Option Int
  | some (.int _ n) => some n
  | _ => none
theorem r_bndV (k : IntKind) (n : Int) : bndV (some (.int k n)) = some n := rfl
theorem r_bo (x : Operand) (d : Int) : vbound K e (some x) d = bndV (vev K e x) := by
  simp only [vbound]; cases vev K e x with
  | none => rfl
  | some v => cases v <;> rfl
theorem r_sl0 (t : TypeId) (lo hi : Option Operand) (x : V) : vslice P K t e lo hi (some x) = vslice1 P K t e lo hi x x.len := rfl
theorem r_sl1 (t : TypeId) (lo hi : Option Operand) (x : V) (n : Nat) : vslice1 P K t e lo hi x (some n) = vcut1 x (vsize P (elemS P t)) (vbound K e lo 0) (vbound K e hi n) := rfl
theorem r_vsz (el : TypeId) : vsize P (some el) = sizeT P el := rfl
theorem r_ct1 (x : V) (s : Nat) (l u : Int) : vcut1 x (some s) (some l) (some u) = vcut x s l u := rfl
theorem r_cts (i off len sz s : Nat) (l u : Int) : vcut (.sl i off len sz) s l u = if s = sz ∧ 0 ≤ l ∧ l ≤ u ∧ u ≤ len then some (.sl i (off + l.toNat * sz) (u - l).toNat sz) else none := rfl
theorem r_cti (k : IntKind) (x : List Int) (s : Nat) (l u : Int) : vcut (.ints k x) s l u = if s = 1 ∧ 0 ≤ l ∧ l ≤ u ∧ u ≤ x.length then some (.ints k ((x.drop l.toNat).take (u - l).toNat)) else none := rfl
theorem r_ctc (sz n : Nat) (x : List V) (s : Nat) (l u : Int) : vcut (.cells sz n x) s l u = if s = sz ∧ 0 ≤ l ∧ l ≤ u ∧ u ≤ n then some (.cells sz (u - l).toNat ((x.drop (l.toNat * sz)).take ((u - l).toNat * sz))) else none := rfl
theorem r_ctn (s : Nat) (l u : Int) : vcut .nil s l u = if l = 0 ∧ u = 0 then some .nil else none := rfl
theorem r_lnl (i off len sz : Nat) : (V.sl i off len sz).len = some len := rfl
theorem r_lni (k : IntKind) (l : List Int) : (V.ints k l).len = some l.length := rfl
theorem r_lnc (sz n : Nat) (l : List V) : (V.cells sz n l).len = some n := rfl
theorem r_lnn : V.nil.len = some 0 := rfl
theorem r_fa (t : TypeId) (g : Nat) (x : V) : vfieldAddr P t g (some x) = vfadd x (fieldOf P t g) := rfl
theorem r_fap (i off o s : Nat) (b : Bool) : vfadd (.ptr i off) (some (o, s, b)) = if 0 < s then some (.ptr i (off + o)) else none := rfl
theorem r_faf (l : List V) (o s : Nat) (b : Bool) : vfadd (.fptr l) (some (o, s, b)) = if 0 < s ∧ o ≤ l.length then some (.fptr (l.drop o)) else none := rfl
theorem r_fi1 (t : TypeId) (g : Nat) (l : List V) : vfield P t g (some (.agg l)) = vfld l (fieldOf P t g) := rfl
theorem r_fit (l : List V) (o s : Nat) : vfld l (some (o, s, true)) = if o + s ≤ l.length then some (.agg ((l.drop o).take s)) else none := rfl
theorem r_fif (l : List V) (o s : Nat) : vfld l (some (o, s, false)) = l[o]? := rfl
theorem r_ix (t : TypeId) (x : V) (k : IntKind) (n : Int) (hx : ∀ l, x ≠ .fptr l) : vindexAddr P t (some x) (some (.int k n)) = vidx1 x n (vsize P (elemS P t)) := by
  cases x <;> first | rfl | (exact absurd rfl (hx _))
theorem r_ixi (t : TypeId) (k' : IntKind) (l : List Int) (k : IntKind) (n : Int) : vindexAddr P t (some (.ints k' l)) (some (.int k n)) = vidx1 (.ints k' l) n (vsize P (elemS P t)) := rfl
theorem r_ixs (t : TypeId) (i off len sz : Nat) (k : IntKind) (n : Int) : vindexAddr P t (some (.sl i off len sz)) (some (.int k n)) = vidx1 (.sl i off len sz) n (vsize P (elemS P t)) := rfl
theorem r_ixc (t : TypeId) (sz m : Nat) (l : List V) (k : IntKind) (n : Int) : vindexAddr P t (some (.cells sz m l)) (some (.int k n)) = vidx1 (.cells sz m l) n (vsize P (elemS P t)) := rfl
theorem r_ixf (t : TypeId) (l : List V) (k : IntKind) (n : Int) : vindexAddr P t (some (.fptr l)) (some (.int k n)) = vidxF P l n (P.underlying t) := rfl
theorem r_ixF (l : List V) (n : Int) (len : Nat) (el : TypeId) : vidxF P l n (some (.array len el)) = vidxF2 l n len (sizeT P el) := rfl
theorem r_ixF2 (l : List V) (n : Int) (len s : Nat) : vidxF2 l n len (some s) = if 0 ≤ n ∧ n < len ∧ n.toNat * s ≤ l.length then some (.fptr (l.drop (n.toNat * s))) else none := rfl
theorem r_ix1 (x : V) (n : Int) (s : Nat) : vidx1 x n (some s) = vidx x s n := rfl
theorem r_ixsl (i off len sz s : Nat) (n : Int) : vidx (.sl i off len sz) s n = if s = sz ∧ 0 ≤ n ∧ n < len then some (.ptr i (off + n.toNat * sz)) else none := rfl
theorem r_ixin (k : IntKind) (l : List Int) (s : Nat) (n : Int) : vidx (.ints k l) s n = if s = 1 ∧ 0 ≤ n ∧ n < l.length then some (.fptr [.int k (gt l n.toNat)]) else none := rfl
theorem r_ixce (sz m : Nat) (l : List V) (s : Nat) (n : Int) : vidx (.cells sz m l) s n = if s = sz ∧ 0 ≤ n ∧ n < m then some (.fptr ((l.drop (n.toNat * sz)).take sz)) else none := rfl
theorem r_len1 (t : Option TypeId) (args : List V) : vlen1 P t (some args) = vlenA P t args := rfl
theorem r_lenA (t : TypeId) (x : V) : vlenA P (some t) [x] = vlenT (P.underlying t) x := rfl
theorem r_lTs (s : ByteArray) : vlenT (some .string) (.str s) = some (.int .i64 s.size) := rfl
theorem r_lTn (t : TypeId) : vlenT (some (.slice t)) .nil = some (.int .i64 0) := rfl
theorem r_lTl (t : TypeId) (i off n sz : Nat) : vlenT (some (.slice t)) (.sl i off n sz) = some (.int .i64 n) := rfl
theorem r_lTi (t : TypeId) (k : IntKind) (l : List Int) : vlenT (some (.slice t)) (.ints k l) = some (.int .i64 l.length) := rfl
theorem r_lTc (t : TypeId) (s n : Nat) (l : List V) : vlenT (some (.slice t)) (.cells s n l) = some (.int .i64 n) := rfl
theorem r_cp0 (t : Option TypeId) (args : List V) : vcopy0 P h t (some args) = vcopy1 P h t args := rfl
theorem r_cp1 (t : TypeId) (i off len sz : Nat) (s : V) : vcopy1 P h (some t) [.sl i off len sz, s] = if sz = 1 then vcopy2 P i off len h s (elemS P t) else none := rfl
theorem r_cp2 (i off len : Nat) (s : V) (el : TypeId) : vcopy2 P i off len h s (some el) = if sizeT P el = some 1 ∧ s.notStr = true then vcopy3 i off len h (vsrc (kindOf P el) 1 h s) else none := rfl
theorem r_cp3 (i off len : Nat) (x : VO) (n : Nat) : vcopy3 i off len h (some (x, n)) = if min n len = 0 then some (.int .i64 0, h) else if x.cells.length = n then vcopy4 h i (min n len) (vsets h[i]? off (x.cells.take (min n len))) else none := rfl
theorem r_cp4 (i n : Nat) (y : VO) : vcopy4 h i n (some y) = some (.int .i64 n, h.set i y) := rfl
theorem r_nts (i off len sz : Nat) : (V.sl i off len sz).notStr = true := rfl
theorem r_nti (k : IntKind) (l : List Int) : (V.ints k l).notStr = true := rfl
theorem r_ntn : V.nil.notStr = true := rfl
theorem r_app0 (b : AK) (sT xT : Option TypeId) (args : List V) : vapp0 b P sT xT h (some args) = vapp9 P sT xT h args (vpapp b args) := rfl
theorem r_app9 (sT xT : Option TypeId) (args : List V) : vapp9 P sT xT h args true = vappend P sT xT h args := rfl
theorem r_paf (args : List V) : vpapp .no args = true := rfl
theorem r_pat (s : V) (r : List V) : vpapp .pure (s :: r) = s.fresh := rfl
theorem r_pal (s : V) (r : List V) : vpapp .late (s :: r) = s.solid := rfl
theorem r_son : V.nil.solid = true := rfl
theorem r_soe : V.em.solid = true := rfl
theorem r_sos (i off len sz : Nat) : (V.sl i off len sz).solid = decide (0 < len) := rfl
theorem r_frn : V.nil.fresh = true := rfl
theorem r_fre : V.em.fresh = true := rfl
def isTT (a b : Nat) : List Operand → Bool
  | [.tmp x, .tmp y] => x == a && y == b
  | _ => false
theorem r_tt1 (a b x y : Nat) : isTT a b [.tmp x, .tmp y] = (x == a && y == b) := rfl
theorem r_tt2 (a b x : Nat) (v : Value) : isTT a b [.tmp x, .const v] = false := rfl
theorem r_tt3 (a b : Nat) (x y : Operand) (v : Value) : isTT a b [.const v, y] = false := by cases y <;> rfl
theorem r_app (t : TypeId) (xT : Option TypeId) (s x : V) : vappend P (some t) xT h [s, x] = vapp1 P (zerosT P xT) s x h (elemS P t) := rfl
theorem r_app1 (zs : Option Bool) (s x : V) (el : TypeId) : vapp1 P zs s x h (some el) = vapp2 P el zs s x h (sizeT P el) (bytesT P el) (toV? (zeroT P el)) := rfl
theorem r_app2 (el : TypeId) (zs : Option Bool) (s x : V) (size b : Nat) (z : V) : vapp2 P el zs s x h (some size) (some b) (some z) = vapp3 size b z (vnew P el size h zs x) (vold (kindOf P el) size h s) := rfl
theorem r_app3 (size b : Nat) (z : V) (o : VO) (k : Nat) (o' : VO) (k' : Nat) (g : VH) : vapp3 size b z (some (o, k)) (some (o', k', g)) = if z.one = true ∧ z.cs.length = size ∧ k' + k ≤ 140737488355328 ∧ (k' + k) * b ≤ 140737488355328 then vcatO (k' + k) size g (o'.cat o) else none := rfl
theorem r_catO (n size : Nat) (y : VO) : vcatO n size h (some y) = some (.sl h.length 0 n size, h ++ [y]) := rfl
theorem r_cati (w w' : Bool) (k : IntKind) (a b : List Int) : (VO.ints w k a).cat (.ints w' k b) = some (.ints true k (a ++ b)) := by simp [VO.cat]
theorem r_catv (w w' : Bool) (a b : List V) : (VO.vals w a).cat (.vals w' b) = some (.vals true (a ++ b)) := rfl
theorem r_newt (el : TypeId) (size : Nat) (n : Int) : vnew P el size h (some true) (.int .i64 n) = if 0 ≤ n ∧ n ≤ 140737488355328 ∧ vlen (vzo (kindOf P el) (toV? (zeroT P el)) n.toNat) = n.toNat * size then vpair (vzo (kindOf P el) (toV? (zeroT P el)) n.toNat) n.toNat else none := rfl
theorem r_newf (el : TypeId) (size : Nat) (x : V) : vnew P el size h (some false) x = vsrc (kindOf P el) size h x := rfl
theorem r_pair (o : VO) (n : Nat) : vpair (some o) n = some (o, n) := rfl
theorem r_pairK (ko : Option IntKind) (o : VO) (n : Nat) : vpairK ko (some o) n = if kindIs ko o = true then some (o, n) else none := rfl
theorem r_trip (ko : Option IntKind) (o : VO) (n : Nat) (g : VH) : vtrip ko (some o) n g = if kindIs ko o = true then some (o, n, g) else none := rfl
theorem r_kis (k : IntKind) (w : Bool) (l : List Int) : kindIs (some k) (.ints w k l) = true := by simp [kindIs]
theorem r_kiv (w : Bool) (l : List V) : kindIs none (.vals w l) = true := rfl
theorem r_srn (ko : Option IntKind) (size : Nat) : vsrc ko size h .nil = vpair (vmkO ko []) 0 := rfl
theorem r_srl (ko : Option IntKind) (size j off n sz : Nat) : vsrc ko size h (.sl j off n sz) = if sz = size then vpairK ko (vsub h[j]? off (n * sz)) n else none := rfl
theorem r_sri (k : IntKind) (size : Nat) (l : List Int) : vsrc (some k) size h (.ints k l) = if size = 1 then some (.ints true k l, l.length) else none := by simp [vsrc]
theorem r_src (size sz n : Nat) (l : List V) : vsrc none size h (.cells sz n l) = if sz = size then some (.vals true l, n) else none := by simp [vsrc]
theorem r_srs (ko : Option IntKind) (size : Nat) (s : ByteArray) : vsrc ko size h (.str s) = if size = 1 then some (.ints true .u8 (bytesL s), s.size) else none := rfl
theorem r_oln (ko : Option IntKind) (size : Nat) : vold ko size h .nil = vtrip ko (vmkO ko []) 0 h := rfl
theorem r_ole (ko : Option IntKind) (size : Nat) : vold ko size h .em = vtrip ko (vmkO ko []) 0 h := rfl
theorem r_oll (ko : Option IntKind) (size i off len sz : Nat) : vold ko size h (.sl i off len sz) = if sz = size ∧ vw h[i]? = true then vtrip ko (vsub h[i]? off (len * sz)) len (h.set i .dead) else none := rfl
theorem r_vw (o : VO) : vw (some o) = o.w := rfl
theorem r_wi (w : Bool) (k : IntKind) (l : List Int) : (VO.ints w k l).w = w := rfl
theorem r_wv (w : Bool) (l : List V) : (VO.vals w l).w = w := rfl
theorem r_mm (mx : Bool) (args : List V) : vmm mx (some args) = vminmax mx args := rfl
theorem r_max (k k' : IntKind) (x y : Int) : vminmax true [.int k x, .int k' y] = some (.int k (if x < y then y else x)) := rfl
theorem r_min' (k k' : IntKind) (x y : Int) : vminmax false [.int k x, .int k' y] = some (.int k (if y < x then y else x)) := rfl
theorem r_str (s : ByteArray) (t : TypeId) (u : ByteArray) : vbin P .eql t (some (.str s)) (some (.str u)) = some (.bool (s.toList == u.toList)) := rfl

/-! ### calls -/
def callV (K : Kn) (call : CallV) (g : FuncId) (args : List V) : Option (V × VH) := call g (vnrmAs (K.args g) args) []
theorem r_cF (g : FuncId) (args : List V) : vcallF K call h g (some args) = vcall2 K call g args h (K.cf.pure g) := rfl
theorem r_c2t (g : FuncId) (args : List V) : vcall2 K call g args h true = vcall3 K call g args h (K.ali g) := rfl
theorem r_c3f (g : FuncId) (args : List V) : vcall3 K call g args h false = vpure1 K call g args h (omap (vfrz h 6) args) := rfl
theorem r_c3t (g : FuncId) (args : List V) : vcall3 K call g args h true = vaback h (call g args (h.map VO.ro)) := rfl
theorem r_ab (r : V) (h' : VH) : vaback h (some (r, h')) = if (V.noFz 4 r && (h'.drop h.length).all VO.noFz) = true then some (r, h ++ h'.drop h.length) else none := rfl
theorem r_c2f (g : FuncId) (args : List V) : vcall2 K call g args h false = call g args h := rfl
theorem r_cV (g : FuncId) (a b args : List V) : vcallV K call h (some (.fn (.func g) a b)) (some args) = if K.cf.pure g = true ∧ K.ali g = false then vpure1 K call g (a ++ args ++ b) h (omap (vfrz h 6) (a ++ args ++ b)) else none := rfl
theorem r_p1 (g : FuncId) (args fa : List V) : vpure1 K call g args h (some fa) = vland h args (call g (vnrmAs (K.args g) fa) []) := rfl
theorem r_la (args : List V) (r : V) (o : VH) : vland h args (some (r, o)) = vland2 h args r o (V.noFz 4 r && o.all VO.noFz) := rfl
theorem r_la2t (args : List V) (r : V) (o : VH) : vland2 h args r o true = vland3 h (vren (fun i => some (h.length + i)) 4 r) (omap (vshO h.length) o) := rfl
theorem r_la2f (args : List V) (r : V) (o : VH) : vland2 h args r o false = vland3 (roM h (argRefs h args)) (vren (fun i => some (h.length + i)) 4 r) (omap (vshO h.length) o) := rfl
theorem r_la3 (r : V) (o : VH) : vland3 h (some r) (some o) = some (r, h ++ o) := rfl
theorem r_sh (n : Nat) (o : VO) : vshO n o = vrenO (fun i => some (n + i)) o := rfl
theorem r_z_is (n : Nat) (k : IntKind) (l : List Int) : V.noFz n (.ints k l) = false := by cases n <;> rfl
theorem r_z_ce (n s m : Nat) (l : List V) : V.noFz n (.cells s m l) = false := by cases n <;> rfl
theorem r_z_fp (n : Nat) (l : List V) : V.noFz n (.fptr l) = false := by cases n <;> rfl
theorem r_z_b (n : Nat) (b : Bool) : V.noFz n (.bool b) = true := by cases n <;> rfl
theorem r_z_i (n : Nat) (k : IntKind) (x : Int) : V.noFz n (.int k x) = true := by cases n <;> rfl
theorem r_z_s (n : Nat) (s : ByteArray) : V.noFz n (.str s) = true := by cases n <;> rfl
theorem r_z_n (n : Nat) : V.noFz n .nil = true := by cases n <;> rfl
theorem r_z_l (n i off len sz : Nat) : V.noFz n (.sl i off len sz) = true := by cases n <;> rfl
theorem r_z_p (n i off : Nat) : V.noFz n (.ptr i off) = true := by cases n <;> rfl
theorem r_z_a4 (l : List V) : V.noFz 4 (.agg l) = l.all (V.noFz 3) := rfl
theorem r_z_a3 (l : List V) : V.noFz 3 (.agg l) = l.all (V.noFz 2) := rfl
theorem r_z_t4 (l : List V) : V.noFz 4 (.tup l) = l.all (V.noFz 3) := rfl
theorem r_zoI (w : Bool) (k : IntKind) (l : List Int) : (VO.ints w k l).noFz = w := rfl
theorem r_zoV (w : Bool) (l : List V) : (VO.vals w l).noFz = (w && l.all (V.noFz 4)) := rfl
theorem r_roN : roM h [] = h := rfl
theorem r_roC (i : Nat) (r : List Nat) : roM h (i :: r) = roM (h.modify i VO.ro) r := rfl
theorem r_roi (w : Bool) (k : IntKind) (l : List Int) : (VO.ints w k l).ro = .ints false k l := rfl
theorem r_rod : VO.dead.ro = .dead := rfl
theorem r_zod : VO.dead.noFz = true := rfl
theorem r_rov (w : Bool) (l : List V) : (VO.vals w l).ro = .vals false l := rfl
theorem r_aR (args : List V) : argRefs h args = args.flatMap (vtrc h 6) := rfl
def trcO (F : List V → List Nat) (off n : Nat) : Option VO → List Nat
  | some (.vals _ l) => F ((l.drop off).take n)
  | _ => []
def trcP (F : List V → List Nat) (off : Nat) : Option VO → List Nat
  | some (.vals _ l) => F (l.drop off)
  | _ => []
theorem r_trOi (F : List V → List Nat) (off n : Nat) (w : Bool) (k : IntKind) (l : List Int) : trcO F off n (some (.ints w k l)) = [] := rfl
theorem r_trOv (F : List V → List Nat) (off n : Nat) (w : Bool) (l : List V) : trcO F off n (some (.vals w l)) = F ((l.drop off).take n) := rfl
theorem r_trPv (F : List V → List Nat) (off : Nat) (w : Bool) (l : List V) : trcP F off (some (.vals w l)) = F (l.drop off) := rfl
theorem r_trl (n i off len sz : Nat) : vtrc h (n + 1) (.sl i off len sz) = i :: trcO (fun l => l.flatMap (vtrc h n)) off (len * sz) h[i]? := by
  rw [vtrc]; unfold trcO; cases h[i]? with
  | none => rfl
  | some o => cases o <;> rfl
theorem r_trp (n i off : Nat) : vtrc h (n + 1) (.ptr i off) = i :: trcP (fun l => l.flatMap (vtrc h n)) off h[i]? := by
  rw [vtrc]; unfold trcP; cases h[i]? with
  | none => rfl
  | some o => cases o <;> rfl
theorem r_trf (n : Nat) (g : Fn) (a b : List V) : vtrc h (n + 1) (.fn g a b) = a.flatMap (vtrc h n) ++ b.flatMap (vtrc h n) := rfl
theorem r_tra (n : Nat) (l : List V) : vtrc h (n + 1) (.agg l) = l.flatMap (vtrc h n) := rfl
theorem r_trb (n : Nat) (b : Bool) : vtrc h n (.bool b) = [] := by cases n <;> rfl
theorem r_tri (n : Nat) (k : IntKind) (x : Int) : vtrc h n (.int k x) = [] := by cases n <;> rfl
theorem r_trs (n : Nat) (s : ByteArray) : vtrc h n (.str s) = [] := by cases n <;> rfl
theorem r_trn (n : Nat) : vtrc h n .nil = [] := by cases n <;> rfl
theorem r_tris (n : Nat) (k : IntKind) (l : List Int) : vtrc h n (.ints k l) = [] := by cases n <;> rfl
theorem r_trce (n s m : Nat) (l : List V) : vtrc h n (.cells s m l) = [] := by cases n <;> rfl
theorem r_trfp (n : Nat) (l : List V) : vtrc h n (.fptr l) = [] := by cases n <;> rfl
end

/-! ### regions that draw their order, where a load stands beside a store -/
section
variable (P : Program) (K : Kn) (call : CallV) (e : VE) (h : VH) (ops : List Oper) (pend : List Nat)
theorem w_nil : vstdy P K call ops.toArray [] e h pend = true := rfl
def wG (o : Oper) (r : List Oper) : Option Bool → Bool
  | some true => (match vOp P K call e h o.op with
      | some (v, h') => vst3 pend (vldOK v o.op) (vstdy P K call ops.toArray r (vput o.dst v e) h') (vmodJ K call e h pend o.op) (vldI K e o.op)
      | none => false)
  | some false => vstdy P K call ops.toArray r (vput o.dst (.tup []) e) h pend
  | none => false
def wX (o : Oper) (r : List Oper) : Option (V × VH) → Bool
  | some (v, h') => vst3 pend (vldOK v o.op) (vstdy P K call ops.toArray r (vput o.dst v e) h') (vmodJ K call e h pend o.op) (vldI K e o.op)
  | none => false
def wV (o : Oper) (r : List Oper) (v : V) (h' : VH) : Option (List Nat) → Option (List Nat) → Bool
  | some m, some l => (m.all fun i => !pend.contains i) && (vldOK v o.op && vstdy P K call ops.toArray r (vput o.dst v e) h' (l ++ pend))
  | _, _ => false
theorem w_op (dst : Option Nat) (op : Op) (ty : TypeId) (pos : String) (after : Array Edge) (r : List Oper) :
    vstdy P K call ops.toArray (⟨dst, op, ty, pos, after, none⟩ :: r) e h pend = wX P K call e h ops pend ⟨dst, op, ty, pos, after, none⟩ r (vOp P K call e h op) := by
  rw [vstdy]; simp only [vwant]
  cases vOp P K call e h op <;> rfl
theorem w_if (dst : Option Nat) (op : Op) (ty : TypeId) (pos : String) (after : Array Edge) (g : Nat) (w : Bool) (r : List Oper) :
    vstdy P K call ops.toArray (⟨dst, op, ty, pos, after, some (g, w)⟩ :: r) e h pend = wG P K call e h ops pend ⟨dst, op, ty, pos, after, some (g, w)⟩ r (vwantV (vgetO e (dstOf ops g)) w) := by
  rw [vstdy]
  have : vwant ops.toArray e ⟨dst, op, ty, pos, after, some (g, w)⟩ = vwantV (vgetO e (dstOf ops g)) w := by
    unfold vwant; simp only [List.getElem?_toArray, dstOf_eq]
  rw [this]
  cases vwantV (vgetO e (dstOf ops g)) w with
  | none => rfl
  | some b => cases b <;> rfl
theorem w_Gt (o : Oper) (r : List Oper) : wG P K call e h ops pend o r (some true) = wX P K call e h ops pend o r (vOp P K call e h o.op) := by
  unfold wG wX; cases vOp P K call e h o.op <;> rfl
theorem w_Gf (o : Oper) (r : List Oper) : wG P K call e h ops pend o r (some false) = vstdy P K call ops.toArray r (vput o.dst (.tup []) e) h pend := rfl
theorem w_Xs (o : Oper) (r : List Oper) (v : V) (h' : VH) : wX P K call e h ops pend o r (some (v, h')) = wV P K call e ops pend o r v h' (vmodJ K call e h pend o.op) (vldI K e o.op) := by
  unfold wX wV vst3; cases vmodJ K call e h pend o.op <;> cases vldI K e o.op <;> rfl
theorem w_V (o : Oper) (r : List Oper) (v : V) (h' : VH) (m l : List Nat) : wV P K call e ops pend o r v h' (some m) (some l) = ((m.all fun i => !pend.contains i) && (vldOK v o.op && vstdy P K call ops.toArray r (vput o.dst v e) h' (l ++ pend))) := rfl
theorem r_vJ (op : Op) : vmodJ K call e h pend op = vmJ (vimp K call e h pend op) (vmodI K e op) := rfl
theorem r_vJs (x : Option (List Nat)) (m : List Nat) : vmJ x (some m) = some m := rfl
theorem r_vJn (x : Option (List Nat)) : vmJ x none = x := rfl
theorem w_safe (g : FuncId) (args : List V) : vsafe1 call g h pend (some args) = vmodB (vsafe call g args h pend) := rfl
theorem w_safe0 (g : FuncId) (args : List V) : vsafe call g args h [] = true := rfl
theorem w_safeC (g : FuncId) (args : List V) (i : Nat) (r : List Nat) : vsafe call g args h (i :: r) = ((call g args (h.modify i VO.ro)).isSome && vsafe call g args h r) := rfl
end

/-! ### loops -/
section
variable {body : VE → VH → Option (AX × VE × VH)} {n : Nat} {e e' : VE} {h h' : VH}
theorem vi_norm (hb : body e h = some (.norm, e', h')) : viter body (n + 1) e h = viter body n e' h' := by
  rw [viter, hb]; rfl
theorem vi_exit {i : Nat} (hb : body e h = some (.exit i, e', h')) : viter body (n + 1) e h = some (.exit i, e', h') := by
  rw [viter, hb]; rfl
theorem vi_ret (hb : body e h = some (.ret, e', h')) : viter body (n + 1) e h = some (.ret, e', h') := by
  rw [viter, hb]; rfl
/-- A loop whose rounds are told by number: d rounds go on, the next one ends it. -/
theorem vi_for (S : Nat → VE × VH) (d : Nat) {R : Option (AX × VE × VH)} (hn : d < n) (hs : ∀ j, j < d → body (S j).1 (S j).2 = some (.norm, S (j + 1))) (hx : ∀ m, viter body (m + 1) (S d).1 (S d).2 = R) : viter body n (S 0).1 (S 0).2 = R := by
  have key : ∀ k j, j + k = d → ∀ m, k < m → viter body m (S j).1 (S j).2 = R := by
    intro k
    induction k with
    | zero => intro j hj m hm; obtain ⟨m, rfl⟩ : ∃ q, m = q + 1 := ⟨m - 1, by omega⟩; obtain rfl : j = d := by omega
              exact hx m
    | succ k ih => intro j hj m hm; obtain ⟨m, rfl⟩ : ∃ q, m = q + 1 := ⟨m - 1, by omega⟩
                   rw [vi_norm (hs j (by omega))]; exact ih (j + 1) (by omega) m (by omega)
  exact key d 0 (by omega) n hn
/-- A loop with an invariant. -/
theorem vi_inv (I : Nat → VE × VH → Prop) (Q : Option (AX × VE × VH) → Prop) (d : Nat) (hn : d < n)
    (hs : ∀ j s, j < d → I j s → (∃ s', body s.1 s.2 = some (.norm, s') ∧ I (j + 1) s') ∨ ∀ m, Q (viter body (m + 1) s.1 s.2)) (hx : ∀ s, I d s → ∀ m, Q (viter body (m + 1) s.1 s.2)) (s : VE × VH) (h0 : I 0 s) : Q (viter body n s.1 s.2) := by
  have key : ∀ k j, j + k = d → ∀ s, I j s → ∀ m, k < m → Q (viter body m s.1 s.2) := by
    intro k
    induction k with
    | zero => intro j hj s hI m hm; obtain ⟨m, rfl⟩ : ∃ q, m = q + 1 := ⟨m - 1, by omega⟩; obtain rfl : j = d := by omega
              exact hx s hI m
    | succ k ih =>
      intro j hj s hI m hm; obtain ⟨m, rfl⟩ : ∃ q, m = q + 1 := ⟨m - 1, by omega⟩
      rcases hs j s (by omega) hI with ⟨s', h1, h2⟩ | h1
      · rw [vi_norm h1]; exact ih (j + 1) (by omega) s' h2 m (by omega)
      · exact h1 m
  exact key d 0 (by omega) s h0 n hn
end
end Go.Eng
end
section
/- Numbers as lists of digits to the base 65536, the least first: plain laws, with no program in sight. No conditions. -/
namespace Go.Eng.Num

def B : Nat := 65536

/-- The digits of a number, none for 0. -/
def D (n : Nat) : List Int := if h : n = 0 then [] else ((n % 65536 : Nat) : Int) :: D (n / 65536)
termination_by n
decreasing_by omega

theorem D_zero : D 0 = [] := by rw [D]; simp
theorem D_pos {n : Nat} (h : n ≠ 0) : D n = ((n % 65536 : Nat) : Int) :: D (n / 65536) := by rw [D]; simp [h]

def val : List Int → Int
  | [] => 0
  | x :: xs => x + 65536 * val xs

def GoodL (l : List Int) : Prop := ∀ x ∈ l, 0 ≤ x ∧ x < 65536

theorem GoodL.nil : GoodL [] := fun _ h => by simp at h
theorem GoodL.cons {x : Int} {l : List Int} (h0 : 0 ≤ x) (h1 : x < 65536) (h : GoodL l) : GoodL (x :: l) := by
  intro y hy
  rcases List.mem_cons.1 hy with rfl | hy
  · exact ⟨h0, h1⟩
  · exact h y hy
theorem GoodL.tail {x : Int} {l : List Int} (h : GoodL (x :: l)) : GoodL l := fun y hy => h y (List.mem_cons_of_mem _ hy)
theorem GoodL.head {x : Int} {l : List Int} (h : GoodL (x :: l)) : 0 ≤ x ∧ x < 65536 := h x List.mem_cons_self
theorem GoodL.append {a b : List Int} (ha : GoodL a) (hb : GoodL b) : GoodL (a ++ b) := by
  intro x hx
  rcases List.mem_append.1 hx with hx | hx
  · exact ha x hx
  · exact hb x hx
theorem GoodL.snoc {l : List Int} {x : Int} (h : GoodL l) (h0 : 0 ≤ x) (h1 : x < 65536) : GoodL (l ++ [x]) := h.append (GoodL.nil.cons h0 h1)
theorem GoodL.set {l : List Int} (h : GoodL l) (i : Nat) {x : Int} (h0 : 0 ≤ x) (h1 : x < 65536) : GoodL (l.set i x) := by
  intro y hy
  rcases List.mem_or_eq_of_mem_set hy with hy | rfl
  · exact h y hy
  · exact ⟨h0, h1⟩
theorem GoodL.take {l : List Int} (h : GoodL l) (i : Nat) : GoodL (l.take i) := fun x hx => h x (List.mem_of_mem_take hx)
theorem GoodL.drop {l : List Int} (h : GoodL l) (i : Nat) : GoodL (l.drop i) := fun x hx => h x (List.mem_of_mem_drop hx)
theorem GoodL.zeros (n : Nat) : GoodL (List.replicate n 0) := by
  intro x hx
  have := (List.mem_replicate.1 hx).2
  omega
theorem GoodL.getD {l : List Int} (h : GoodL l) (i : Nat) : 0 ≤ l.getD i 0 ∧ l.getD i 0 < 65536 := by
  rw [List.getD_eq_getElem?_getD]
  cases e : l[i]? with
  | none => simp
  | some x => simpa using h x (List.mem_of_getElem? e)

theorem val_nil : val [] = 0 := rfl
theorem val_cons (x : Int) (l : List Int) : val (x :: l) = x + 65536 * val l := rfl
theorem val_append (a b : List Int) : val (a ++ b) = val a + 65536 ^ a.length * val b := by
  induction a with
  | nil => simp [val]
  | cons x a ih => rw [List.cons_append, val_cons, val_cons, ih, List.length_cons, Int.pow_succ]; grind
theorem val_snoc (a : List Int) (x : Int) : val (a ++ [x]) = val a + 65536 ^ a.length * x := by
  rw [val_append]; simp [val]
theorem val_zeros (n : Nat) : val (List.replicate n 0) = 0 := by
  induction n with
  | zero => rfl
  | succ n ih => rw [List.replicate_succ, val_cons, ih]; rfl
theorem pow_pos' (n : Nat) : (0 : Int) < 65536 ^ n := Int.pow_pos (by decide)
theorem powN_pos (n : Nat) : 0 < 65536 ^ n := Nat.pow_pos (by decide)
theorem pow_cast (n : Nat) : ((65536 ^ n : Nat) : Int) = (65536 : Int) ^ n := by rw [Int.natCast_pow]; rfl
theorem val_nonneg {l : List Int} (h : GoodL l) : 0 ≤ val l := by
  induction l with
  | nil => simp [val]
  | cons x l ih => have := ih h.tail; have := h.head; rw [val_cons]; omega
theorem val_lt {l : List Int} (h : GoodL l) : val l < 65536 ^ l.length := by
  induction l with
  | nil => simp [val]
  | cons x l ih =>
    have h1 := ih h.tail
    have h2 := h.head
    rw [val_cons, List.length_cons, Int.pow_succ]
    omega

theorem good_D (n : Nat) : GoodL (D n) := by
  induction n using Nat.strongRecOn with
  | _ n ih =>
    by_cases h : n = 0
    · subst h; rw [D_zero]; exact GoodL.nil
    · rw [D_pos h]; exact GoodL.cons (by omega) (by omega) (ih _ (by omega))
theorem val_D (n : Nat) : val (D n) = n := by
  induction n using Nat.strongRecOn with
  | _ n ih =>
    by_cases h : n = 0
    · subst h; rw [D_zero]; rfl
    · rw [D_pos h, val_cons, ih _ (by omega)]; omega
theorem D_inj {a b : Nat} (h : D a = D b) : a = b := by
  have := val_D a
  rw [h, val_D] at this
  omega
theorem D_nil_iff {n : Nat} : D n = [] ↔ n = 0 := by
  constructor
  · intro h
    exact D_inj (h.trans D_zero.symm)
  · rintro rfl; exact D_zero
theorem len_D_le {n k : Nat} : (D n).length ≤ k ↔ n < 65536 ^ k := by
  induction k generalizing n with
  | zero =>
    rw [Nat.pow_zero]
    constructor
    · intro h
      have := D_nil_iff.1 (List.eq_nil_of_length_eq_zero (by omega : (D n).length = 0))
      omega
    · intro h
      obtain rfl : n = 0 := by omega
      simp [D_zero]
  | succ k ih =>
    by_cases h : n = 0
    · subst h; simp [D_zero, powN_pos]
    · rw [D_pos h, List.length_cons, Nat.pow_succ]
      have := @ih (n / 65536)
      omega
theorem len_D_lt {n k : Nat} : k < (D n).length ↔ 65536 ^ k ≤ n := by
  have := @len_D_le n k
  omega
theorem lt_len_D (n : Nat) : n < 65536 ^ (D n).length := len_D_le.1 (Nat.le_refl _)
theorem le_of_len_D {n : Nat} (h : n ≠ 0) : 65536 ^ ((D n).length - 1) ≤ n := by
  have : 0 < (D n).length := by
    rcases Nat.eq_zero_or_pos (D n).length with e | e
    · exact absurd (D_nil_iff.1 (List.eq_nil_of_length_eq_zero e)) h
    · exact e
  exact len_D_lt.1 (by omega)
theorem len_D_mono {a b : Nat} (h : a ≤ b) : (D a).length ≤ (D b).length := len_D_le.2 (Nat.lt_of_le_of_lt h (lt_len_D b))

/-- A digit of a good list, by its value. -/
theorem getD_val {l : List Int} (h : GoodL l) (i : Nat) : l.getD i 0 = val l / 65536 ^ i % 65536 := by
  induction l generalizing i with
  | nil => simp [val]
  | cons x l ih =>
    have hx := h.head
    rw [val_cons]
    cases i with
    | zero => simp; omega
    | succ i =>
      rw [List.getD_cons_succ, ih h.tail, Int.pow_succ, Int.mul_comm (65536 ^ i), ← Int.ediv_ediv_of_nonneg (by omega)]
      congr 2
      omega
theorem getD_D (n i : Nat) : (D n).getD i 0 = ((n / 65536 ^ i % 65536 : Nat) : Int) := by
  rw [getD_val (good_D n), val_D, ← pow_cast]
  omega

def Norm (l : List Int) : Prop := ∀ h : l ≠ [], l.getLast h ≠ 0
theorem norm_D (n : Nat) : Norm (D n) := by
  induction n using Nat.strongRecOn with
  | _ n ih =>
    intro h
    by_cases h0 : n = 0
    · exact absurd (D_nil_iff.2 h0) h
    · have e := D_pos h0
      by_cases h1 : D (n / 65536) = []
      · have := D_nil_iff.1 h1
        simp only [e, h1]
        simp
        omega
      · simp only [e, List.getLast_cons h1]
        exact ih _ (by omega) h1
theorem D_val {l : List Int} (h : GoodL l) (hn : Norm l) : D (val l).toNat = l := by
  induction l with
  | nil => simp [val, D_zero]
  | cons x l ih =>
    have hx := h.head
    have hv := val_nonneg h.tail
    have hn' : Norm l := by
      intro hl
      have := hn (by simp)
      rwa [List.getLast_cons hl] at this
    have hp : (val (x :: l)).toNat ≠ 0 := by
      by_cases hl : l = []
      · subst hl
        have := hn (by simp)
        simp at this
        rw [val_cons, val_nil]
        omega
      · have h1 : val l ≠ 0 := by
          intro h0
          have := ih h.tail hn'
          rw [h0] at this
          exact hl (by rw [← this]; exact D_zero)
        rw [val_cons]
        omega
    rw [D_pos hp]
    have e1 : ((val (x :: l)).toNat % 65536 : Nat) = x := by rw [val_cons]; omega
    have e2 : (val (x :: l)).toNat / 65536 = (val l).toNat := by rw [val_cons]; omega
    rw [e1, e2, ih h.tail hn']
theorem eq_D {l : List Int} (h : GoodL l) (hn : Norm l) {n : Nat} (e : val l = n) : l = D n := by
  rw [← D_val h hn, e]; rfl
theorem norm_iff (l : List Int) : Norm l ↔ (l = [] ∨ l.getD (l.length - 1) 0 ≠ 0) := by
  unfold Norm
  constructor
  · intro h
    by_cases hl : l = []
    · exact .inl hl
    · refine .inr ?_
      have h1 := h hl
      rw [List.getLast_eq_getElem] at h1
      have h2 : l.length - 1 < l.length := by have := List.length_pos_iff.2 hl; omega
      rw [List.getD_eq_getElem?_getD, List.getElem?_eq_getElem h2]
      exact h1
  · rintro (h | h) hl
    · exact absurd h hl
    · rw [List.getLast_eq_getElem]
      have h2 : l.length - 1 < l.length := by have := List.length_pos_iff.2 hl; omega
      rw [List.getD_eq_getElem?_getD, List.getElem?_eq_getElem h2] at h
      exact h

theorem val_set {l : List Int} {i : Nat} (h : i < l.length) (v : Int) : val (l.set i v) = val l + (v - l.getD i 0) * 65536 ^ i := by
  induction l generalizing i with
  | nil => simp at h
  | cons x l ih =>
    cases i with
    | zero => simp [val]; omega
    | succ i =>
      rw [List.set_cons_succ, val_cons, val_cons, ih (by simpa using h), List.getD_cons_succ, Int.pow_succ]
      grind
theorem val_take {l : List Int} (h : GoodL l) (i : Nat) : val (l.take i) = val l % 65536 ^ i := by
  induction l generalizing i with
  | nil => simp [val]
  | cons x l ih =>
    cases i with
    | zero => simp [val]
    | succ i =>
      have hx := h.head
      have hp := pow_pos' i
      rw [List.take_succ_cons, val_cons, val_cons, ih h.tail, Int.pow_succ]
      have e := Int.mul_ediv_add_emod (val l) (65536 ^ i)
      have h1 := Int.emod_nonneg (val l) (Int.ne_of_gt hp)
      have h2 := Int.emod_lt_of_pos (val l) hp
      generalize val l % 65536 ^ i = r at *
      generalize val l / 65536 ^ i = q at *
      generalize (65536 : Int) ^ i = p at *
      rw [show x + 65536 * val l = (x + 65536 * r) + (p * 65536) * q by rw [← e]; grind]
      rw [Int.add_mul_emod_self_left, Int.emod_eq_of_lt (by omega) (by omega)]
theorem val_drop {l : List Int} (h : GoodL l) (i : Nat) : val (l.drop i) = val l / 65536 ^ i := by
  induction l generalizing i with
  | nil => simp [val]
  | cons x l ih =>
    cases i with
    | zero => simp
    | succ i =>
      have hx := h.head
      rw [List.drop_succ_cons, val_cons, ih h.tail, Int.pow_succ, Int.mul_comm (65536 ^ i), ← Int.ediv_ediv_of_nonneg (by omega)]
      congr 1
      omega
/-- A good list that is known by its value: nought at its end falls away. -/
theorem val_dropLast {l : List Int} (h : l ≠ []) (h0 : l.getLast h = 0) : val l.dropLast = val l := by
  have e := List.dropLast_concat_getLast h
  have h2 := val_snoc l.dropLast (l.getLast h)
  rw [e, h0] at h2
  omega

theorem mod_pow_succ (x i : Nat) : x % 65536 ^ (i + 1) = x % 65536 ^ i + 65536 ^ i * (x / 65536 ^ i % 65536) := Nat.mod_pow_succ
theorem mod_len (x i : Nat) (h : (D x).length ≤ i) : x % 65536 ^ i = x := Nat.mod_eq_of_lt (len_D_le.1 h)

/-- The lowest i digits of a number, as an integer. -/
def lo (x i : Nat) : Int := ((x % 65536 ^ i : Nat) : Int)
/-- A digit of a number, as an integer. -/
def dg (x i : Nat) : Int := ((x / 65536 ^ i % 65536 : Nat) : Int)
theorem lo_zero (x : Nat) : lo x 0 = 0 := by unfold lo; rw [Nat.pow_zero, Nat.mod_one]; rfl
theorem lo_succ (x i : Nat) : lo x (i + 1) = lo x i + 65536 ^ i * dg x i := by
  unfold lo dg
  rw [mod_pow_succ, Int.natCast_add, Int.natCast_mul, pow_cast]
theorem lo_len {x i : Nat} (h : (D x).length ≤ i) : lo x i = x := by unfold lo; rw [mod_len x i h]
theorem dg_bd (x i : Nat) : 0 ≤ dg x i ∧ dg x i < 65536 := by unfold dg; omega
theorem dg_len {x i : Nat} (h : (D x).length ≤ i) : dg x i = 0 := by
  unfold dg
  rw [Nat.div_eq_of_lt (len_D_le.1 h)]
  rfl
theorem lo_nonneg (x i : Nat) : 0 ≤ lo x i := by unfold lo; omega
theorem lo_lt (x i : Nat) : lo x i < 65536 ^ i := by
  unfold lo
  rw [← pow_cast]
  have := Nat.mod_lt x (powN_pos i)
  omega
theorem getD_dg (x i : Nat) : (D x).getD i 0 = dg x i := getD_D x i
/-- One digit of a sum. -/
theorem step_add {v p c a b da db s : Int} (h : v + p * c = a + b) (hs : s = c + da + db) : (v + p * (s % 65536)) + (p * 65536) * (s / 65536) = (a + p * da) + (b + p * db) := by
  have := Int.mul_ediv_add_emod s 65536
  grind
/-- One digit of a difference. -/
theorem step_sub {v p c a b da db r c' : Int} (h : v - p * c = a - b) (hs : r - 65536 * c' = da - c - db) : (v + p * r) - (p * 65536) * c' = (a + p * da) - (b + p * db) := by
  grind

/-- One step of a row of a product. -/
theorem step_mul {v p q c V dx l dy o s v' : Int} (h : v + (p * q) * c = V + p * dx * l) (hs : s = c + (o + dx * dy)) (hv : v' = v + (s % 65536 - o) * (p * q)) : v' + (p * (q * 65536)) * (s / 65536) = V + p * dx * (l + q * dy) := by
  have := Int.mul_ediv_add_emod s 65536
  grind
theorem mul_bd {a b : Int} (ha : 0 ≤ a ∧ a < 65536) (hb : 0 ≤ b ∧ b < 65536) : 0 ≤ a * b ∧ a * b ≤ 4294836225 := by
  constructor
  · exact Int.mul_nonneg ha.1 hb.1
  · have h1 : a * b ≤ 65535 * b := Int.mul_le_mul_of_nonneg_right (by omega) hb.1
    omega
theorem getD_zero_of_lt {l : List Int} (h : GoodL l) {n : Nat} (hv : val l < 65536 ^ n) : l.getD n 0 = 0 := by
  rw [getD_val h, Int.ediv_eq_zero_of_lt (val_nonneg h) hv]
  rfl
theorem getD_set_ne_ {l : List Int} {i j : Nat} (h : i ≠ j) (x : Int) : (l.set i x).getD j 0 = l.getD j 0 := by
  rw [List.getD_eq_getElem?_getD, List.getD_eq_getElem?_getD, List.getElem?_set_ne h]
/-- -1, 0 or 1. -/
def cmpI (x y : Nat) : Int := if x < y then -1 else if x = y then 0 else 1
theorem lt_of_len {x y : Nat} (h : (D x).length < (D y).length) : x < y := by
  have h1 := lt_len_D x
  have h2 := len_D_lt.1 h
  omega
theorem div_pow_succ (x i : Nat) : x / 65536 ^ i = 65536 * (x / 65536 ^ (i + 1)) + x / 65536 ^ i % 65536 := by
  rw [Nat.pow_succ, ← Nat.div_div_eq_div_mul]
  omega
theorem lt_of_div {x y p : Nat} (h : x / p < y / p) : x < y := by
  rcases Nat.lt_or_ge x y with h1 | h1
  · exact h1
  · have := Nat.div_le_div_right (c := p) h1
    omega

theorem divs_nat {x j d : Nat} (hd : 0 < d) : x / 65536 ^ j / d = 65536 * (x / 65536 ^ (j + 1) / d) + (x / 65536 ^ (j + 1) % d * 65536 + x / 65536 ^ j % 65536) / d ∧ x / 65536 ^ j % d = (x / 65536 ^ (j + 1) % d * 65536 + x / 65536 ^ j % 65536) % d := by
  have e := div_pow_succ x j
  generalize x / 65536 ^ (j + 1) = X at *
  generalize x / 65536 ^ j % 65536 = g at *
  have h := Nat.div_add_mod X d
  have e2 : x / 65536 ^ j = (X % d * 65536 + g) + d * (65536 * (X / d)) := by
    rw [e]
    have h3 : 65536 * (d * (X / d) + X % d) = d * (65536 * (X / d)) + X % d * 65536 := by grind
    rw [h] at h3
    omega
  rw [e2]
  constructor
  · rw [Nat.add_mul_div_left _ _ hd]; omega
  · rw [Nat.add_mul_mod_self_left]
theorem divs_lt {r d g : Nat} (hr : r < d) (hg : g < 65536) : (r * 65536 + g) / d < 65536 := by
  rw [Nat.div_lt_iff_lt_mul (by omega)]
  have : (r + 1) * 65536 ≤ d * 65536 := Nat.mul_le_mul_right _ (by omega)
  omega
theorem getD_mul_pow {l : List Int} (h : GoodL l) {j : Nat} {q : Int} (hv : val l = 65536 ^ (j + 1) * q) : l.getD j 0 = 0 := by
  rw [getD_val h, hv, Int.pow_succ, Int.mul_assoc, Int.mul_ediv_cancel_left _ (Int.ne_of_gt (pow_pos' j))]
  omega

end Go.Eng.Num
end
section
/- Digits: the lists that loops build. Plain laws. No conditions. -/
namespace Go.Eng
open Num
theorem gt_mem {l : List Int} {j : Nat} (hj : j < l.length) : gt l j ∈ l := by
  rw [← gt_get l j hj]; exact List.getElem_mem hj
theorem gt_D (x i : Nat) : gt (D x) i = dg x i := getD_dg x i
theorem gt_app_lt {l m : List Int} {j : Nat} (h : j < l.length) : gt (l ++ m) j = gt l j := by
  unfold gt; rw [List.getD_eq_getElem?_getD, List.getD_eq_getElem?_getD, List.getElem?_append_left h]
theorem gt_snoc (l : List Int) (x : Int) : gt (l ++ [x]) l.length = x := by
  unfold gt; simp
/-- The length of the first j without the noughts at their end. -/
def tl (l : List Int) : Nat → Nat
  | 0 => 0
  | j + 1 => if gt l j = 0 then tl l j else j + 1
theorem tl_le (l : List Int) : ∀ j, tl l j ≤ j
  | 0 => Nat.le_refl _
  | j + 1 => by have := tl_le l j; rw [tl]; split <;> omega
theorem tl_val (l : List Int) : ∀ j, j ≤ l.length → val (l.take (tl l j)) = val (l.take j) ∧ Norm (l.take (tl l j))
  | 0, _ => ⟨rfl, fun hx => absurd rfl hx⟩
  | j + 1, hj => by
    have e : l.take (j + 1) = l.take j ++ [gt l j] := by
      rw [List.take_add_one, gt_some (by omega)]; rfl
    by_cases h0 : gt l j = 0
    · have := tl_val l j (by omega)
      rw [tl, if_pos h0, e, val_snoc, h0]
      exact ⟨by rw [this.1]; omega, this.2⟩
    · rw [tl, if_neg h0]
      refine ⟨rfl, fun hx => ?_⟩
      have : (l.take (j + 1)).getLast hx = gt l j := by simp [e]
      rw [this]; exact h0
theorem tl_D {l : List Int} (hg : GoodL l) {v : Nat} (hv : val l = v) : tl l l.length = (D v).length ∧ l.take (D v).length = D v ∧ (D v).length ≤ l.length := by
  have h1 := tl_val l l.length (Nat.le_refl _)
  have h2 := eq_D (hg.take _) h1.2 (n := v) (by rw [h1.1, List.take_length]; exact hv)
  have h3 : tl l l.length = (D v).length := by rw [← h2, List.length_take]; have := tl_le l l.length; omega
  rw [h3] at h2
  exact ⟨h3, h2, by rw [← h3]; exact tl_le _ _⟩
/-- The first k digits. -/
def dgs (n : Nat) : Nat → List Int
  | 0 => []
  | k + 1 => dgs n k ++ [dg n k]
theorem dgs_len (n : Nat) : ∀ k, (dgs n k).length = k
  | 0 => rfl
  | k + 1 => by simp [dgs, dgs_len n k]
theorem dgs_succ (n k : Nat) : dgs n (k + 1) = dgs n k ++ [dg n k] := rfl
theorem dgs_take (n k : Nat) : (dgs n k).take k = dgs n k := List.take_of_length_le (by rw [dgs_len]; exact Nat.le_refl _)
theorem dgs_good (n : Nat) : ∀ k, GoodL (dgs n k)
  | 0 => GoodL.nil
  | k + 1 => (dgs_good n k).snoc (dg_bd n k).1 (dg_bd n k).2
theorem dgs_val (n : Nat) : ∀ k, val (dgs n k) = lo n k
  | 0 => by rw [lo_zero]; rfl
  | k + 1 => by rw [dgs, val_snoc, dgs_val n k, dgs_len, lo_succ]
theorem dgs_tl {n k : Nat} (h : n < 65536 ^ k) : tl (dgs n k) k = (D n).length ∧ (dgs n k).take (D n).length = D n ∧ (D n).length ≤ k := by
  have h1 : val (dgs n k) = n := by rw [dgs_val, lo_len (len_D_le.2 h)]
  have := tl_D (dgs_good n k) h1
  rw [dgs_len] at this
  exact this
theorem lt_pow_len {n k : Nat} (h : n < 65536 ^ k) : (D n).length ≤ k := len_D_le.2 h
/-- What is drawn from a digit and a carry. -/
theorem dg_addN (x y p : Nat) (hp : 0 < p) : (x + y) / p % 65536 = ((x % p + y % p) / p + x / p % 65536 + y / p % 65536) % 65536 ∧ (x % (p * 65536) + y % (p * 65536)) / (p * 65536) = ((x % p + y % p) / p + x / p % 65536 + y / p % 65536) / 65536 := by
  have ex := Nat.div_add_mod x p
  have ey := Nat.div_add_mod y p
  have hx := Nat.mod_lt x hp
  have hy := Nat.mod_lt y hp
  have h1 : (x + y) / p = x / p + y / p + (x % p + y % p) / p := by
    conv => lhs; rw [← ex, ← ey, show p * (x / p) + x % p + (p * (y / p) + y % p) = p * (x / p + y / p) + (x % p + y % p) by rw [Nat.mul_add]; omega]
    rw [Nat.mul_add_div hp]
  have h2 : ∀ z, z % (p * 65536) = z % p + p * (z / p % 65536) := fun z => Nat.mod_mul
  refine ⟨by rw [h1]; omega, ?_⟩
  rw [h2, h2, show x % p + p * (x / p % 65536) + (y % p + p * (y / p % 65536)) = p * (x / p % 65536 + y / p % 65536) + (x % p + y % p) by rw [Nat.mul_add]; omega, ← Nat.div_div_eq_div_mul, Nat.mul_add_div hp]
  congr 1; omega
def carry (x y j : Nat) : Int := (((x % 65536 ^ j + y % 65536 ^ j) / 65536 ^ j : Nat) : Int)
theorem carry_zero (x y : Nat) : carry x y 0 = 0 := by unfold carry; rw [Nat.pow_zero, Nat.mod_one, Nat.mod_one]; rfl
theorem carry_bd (x y j : Nat) : 0 ≤ carry x y j ∧ carry x y j ≤ 1 := by
  unfold carry
  have hp := powN_pos j
  have hx := Nat.mod_lt x hp
  have hy := Nat.mod_lt y hp
  have : (x % 65536 ^ j + y % 65536 ^ j) / 65536 ^ j < 2 := Nat.div_lt_of_lt_mul (by omega)
  generalize (x % 65536 ^ j + y % 65536 ^ j) / 65536 ^ j = q at *
  exact ⟨Int.natCast_nonneg _, by omega⟩
theorem dg_add (x y j : Nat) : dg (x + y) j = (carry x y j + dg x j + dg y j) % 65536 := by
  have := (dg_addN x y _ (powN_pos j)).1
  unfold dg carry; rw [this]; omega
theorem carry_succ (x y j : Nat) : carry x y (j + 1) = (carry x y j + dg x j + dg y j) / 65536 := by
  have := (dg_addN x y _ (powN_pos j)).2
  rw [← Nat.pow_succ] at this
  unfold dg carry; rw [this]; omega
theorem carry_end {x y n : Nat} (hx : (D x).length ≤ n) (hy : (D y).length ≤ n) : carry x y n = dg (x + y) n ∧ x + y < 65536 ^ (n + 1) := by
  have hx := len_D_le.1 hx
  have hy := len_D_le.1 hy
  have e : (65536 : Nat) ^ (n + 1) = 65536 ^ n * 65536 := Nat.pow_succ ..
  refine ⟨?_, by rw [e]; omega⟩
  unfold carry dg
  rw [Nat.mod_eq_of_lt hx, Nat.mod_eq_of_lt hy]
  have : (x + y) / 65536 ^ n < 2 := Nat.div_lt_of_lt_mul (by omega)
  rw [Nat.mod_eq_of_lt (show (x + y) / 65536 ^ n < 65536 by omega)]

/-- What is borrowed. -/
def borrow (x y j : Nat) : Int := if x % 65536 ^ j < y % 65536 ^ j then 1 else 0
theorem borrow_zero (x y : Nat) : borrow x y 0 = 0 := by unfold borrow; rw [Nat.pow_zero, Nat.mod_one, Nat.mod_one]; rfl
theorem borrow_bd (x y j : Nat) : 0 ≤ borrow x y j ∧ borrow x y j ≤ 1 := by unfold borrow; split <;> omega
theorem borrow_step (x y p : Nat) (hp : 0 < p) (h : y ≤ x) :
    ((((x - y) / p % 65536 : Nat) : Int) = ((x / p % 65536 : Nat) : Int) - (if x % p < y % p then 1 else 0) - ((y / p % 65536 : Nat) : Int) + (if ((x / p % 65536 : Nat) : Int) - (if x % p < y % p then 1 else 0) - ((y / p % 65536 : Nat) : Int) < 0 then 65536 else 0)) ∧
    ((x % (p * 65536) < y % (p * 65536)) ↔ ((x / p % 65536 : Nat) : Int) - (if x % p < y % p then 1 else 0) - ((y / p % 65536 : Nat) : Int) < 0) := by
  have h2 : ∀ z, z % (p * 65536) = z % p + p * (z / p % 65536) := fun z => Nat.mod_mul
  have hx := Nat.mod_lt x hp
  have hy := Nat.mod_lt y hp
  have ex := Nat.div_add_mod x p
  have ey := Nat.div_add_mod y p
  have hd : y / p ≤ x / p := Nat.div_le_div_right h
  have key : (x - y) / p = x / p - y / p - (if x % p < y % p then 1 else 0) := by
    split
    · rename_i hl
      have : y / p < x / p := by
        rcases Nat.lt_or_ge (y / p) (x / p) with q | q
        · exact q
        · have e : x / p = y / p := by omega
          rw [e] at ex; omega
      have e1 : x - y = p * (x / p - y / p - 1) + (p + x % p - y % p) := by
        have e2 : x / p = (x / p - y / p - 1) + y / p + 1 := by omega
        have : p * (x / p) = p * (x / p - y / p - 1) + p * (y / p) + p := by
          conv => lhs; rw [e2, Nat.mul_add, Nat.mul_add, Nat.mul_one]
        omega
      have hlt : p + x % p - y % p < p := by omega
      rw [e1, Nat.mul_add_div hp, Nat.div_eq_of_lt hlt, Nat.add_zero]
    · have e1 : x - y = p * (x / p - y / p) + (x % p - y % p) := by
        rw [Nat.mul_sub]
        have : p * (y / p) ≤ p * (x / p) := Nat.mul_le_mul_left _ hd
        rename_i hl
        omega
      have hlt : x % p - y % p < p := by omega
      rw [e1, Nat.mul_add_div hp, Nat.div_eq_of_lt hlt, Nat.add_zero, Nat.sub_zero]
  have hb : (if x % p < y % p then 1 else 0) ≤ x / p - y / p := by
    split
    · rename_i hl
      rcases Nat.lt_or_ge (y / p) (x / p) with q | q
      · omega
      · have e : x / p = y / p := by omega
        rw [e] at ex; omega
    · omega
  constructor
  · rw [key]
    generalize x / p = a at *
    generalize y / p = b at *
    split <;> split <;> simp_all <;> omega
  · rw [h2, h2]
    generalize x / p % 65536 = a
    generalize y / p % 65536 = b
    rcases Nat.lt_trichotomy a b with q | q | q
    · have : p * (a + 1) ≤ p * b := Nat.mul_le_mul_left _ (by omega)
      rw [Nat.mul_add] at this
      constructor
      · intro _; split <;> omega
      · intro _; omega
    · subst q
      split <;> omega
    · have : p * (b + 1) ≤ p * a := Nat.mul_le_mul_left _ (by omega)
      rw [Nat.mul_add] at this
      constructor
      · intro _; omega
      · intro q2; split at q2 <;> omega
theorem dg_sub {x y : Nat} (h : y ≤ x) (j : Nat) : dg (x - y) j = dg x j - borrow x y j - dg y j + (if dg x j - borrow x y j - dg y j < 0 then 65536 else 0) :=
  (borrow_step x y _ (powN_pos j) h).1
theorem borrow_succ {x y : Nat} (h : y ≤ x) (j : Nat) : borrow x y (j + 1) = if dg x j - borrow x y j - dg y j < 0 then 1 else 0 := by
  have := (borrow_step x y _ (powN_pos j) h).2
  rw [← Nat.pow_succ] at this
  unfold borrow dg
  by_cases q : x % 65536 ^ (j + 1) < y % 65536 ^ (j + 1)
  · rw [if_pos q, if_pos (this.1 q)]
  · rw [if_neg q, if_neg (fun r => q (this.2 r))]
theorem lt_pow_of_len {x n : Nat} (h : (D x).length ≤ n) : x < 65536 ^ n := len_D_le.1 h
theorem len_mono {x y : Nat} (h : x ≤ y) : (D x).length ≤ (D y).length := len_D_mono h
theorem lens_D {n : Nat} : (D n).length = 0 ↔ n = 0 := by rw [List.length_eq_zero_iff, D_nil_iff]
end Go.Eng
end
section
/- Shifts and bits of digits. Plain laws. No conditions. -/
namespace Go.Eng
open Num
/-! ### a number times a small one -/
def mcar (x m j : Nat) : Int := ((x % 65536 ^ j * m / 65536 ^ j : Nat) : Int)
theorem mul_dgN (x m p : Nat) (hp : 0 < p) : x * m / p % 65536 = (x % p * m / p + x / p % 65536 * m) % 65536 ∧ x % (p * 65536) * m / (p * 65536) = (x % p * m / p + x / p % 65536 * m) / 65536 := by
  have ex := Nat.div_add_mod x p
  have h2 : x % (p * 65536) = x % p + p * (x / p % 65536) := Nat.mod_mul
  have key : ∀ a b : Nat, (p * a + b) * m / p = a * m + b * m / p := fun a b => by
    rw [Nat.add_mul, Nat.mul_assoc, Nat.mul_add_div hp]
  constructor
  · conv => lhs; rw [← ex, key]
    generalize x % p * m / p = c
    generalize x / p = a
    have h3 : a * m % 65536 = a % 65536 * m % 65536 := by rw [Nat.mul_mod a m, Nat.mul_mod (a % 65536) m, Nat.mod_mod]
    omega
  · rw [h2, ← Nat.div_div_eq_div_mul, Nat.add_comm (x % p), key, Nat.add_comm]
theorem mcar_zero (x m : Nat) : mcar x m 0 = 0 := by unfold mcar; rw [Nat.pow_zero, Nat.mod_one]; simp
theorem mcar_bd {x m : Nat} (hm : 0 < m) (j : Nat) : 0 ≤ mcar x m j ∧ mcar x m j < m := by
  unfold mcar
  have hp := powN_pos j
  have hx := Nat.mod_lt x hp
  have : x % 65536 ^ j * m / 65536 ^ j < m := by
    rw [Nat.div_lt_iff_lt_mul hp, Nat.mul_comm m]
    exact Nat.mul_lt_mul_of_pos_right hx hm
  exact ⟨Int.natCast_nonneg _, Int.ofNat_lt.2 this⟩
theorem dg_mul (x m j : Nat) : dg (x * m) j = (mcar x m j + dg x j * m) % 65536 := by
  have := (mul_dgN x m _ (powN_pos j)).1
  unfold dg mcar; rw [this, Int.natCast_emod, Int.natCast_add, Int.natCast_mul]; rfl
theorem mcar_succ (x m j : Nat) : mcar x m (j + 1) = (mcar x m j + dg x j * m) / 65536 := by
  have := (mul_dgN x m _ (powN_pos j)).2
  rw [← Nat.pow_succ] at this
  unfold dg mcar; rw [this, Int.natCast_ediv, Int.natCast_add, Int.natCast_mul]; rfl
theorem mcar_end {x m n : Nat} (hm : m ≤ 65536) (hx : (D x).length ≤ n) : mcar x m n = dg (x * m) n ∧ x * m < 65536 ^ (n + 1) := by
  have hx := len_D_le.1 hx
  have e : (65536 : Nat) ^ (n + 1) = 65536 ^ n * 65536 := Nat.pow_succ ..
  have hlt : x * m < 65536 ^ n * 65536 := Nat.lt_of_lt_of_le (Nat.mul_lt_mul_of_lt_of_le hx hm (by rcases Nat.eq_zero_or_pos m with h | h <;> omega)) (Nat.le_refl _)
  refine ⟨?_, by rw [e]; exact hlt⟩
  unfold mcar dg
  rw [Nat.mod_eq_of_lt hx]
  have : x * m / 65536 ^ n < 65536 := Nat.div_lt_of_lt_mul hlt
  rw [Nat.mod_eq_of_lt this]
/-! ### a number divided by a small one -/
theorem shr_dgN (z t p : Nat) (ht : t ≤ 16) : z / 2 ^ t / p % 65536 = (z / p % 65536 + z / p / 65536 % 65536 * 65536) / 2 ^ t % 65536 := by
  rw [Nat.div_div_eq_div_mul, Nat.mul_comm, ← Nat.div_div_eq_div_mul]
  generalize z / p = a
  have hq : 0 < 2 ^ t := Nat.two_pow_pos t
  have e : 2 ^ t * 2 ^ (16 - t) = 65536 := by rw [← Nat.pow_add, show t + (16 - t) = 16 by omega]
  have h1 : a = 4294967296 * (a / 4294967296) + (a % 65536 + a / 65536 % 65536 * 65536) := by omega
  have h2 : (4294967296 : Nat) = 2 ^ t * (2 ^ (16 - t) * 65536) := by rw [← Nat.mul_assoc, e]
  conv => lhs; rw [h1, h2, Nat.mul_assoc, Nat.mul_add_div hq]
  generalize (a % 65536 + a / 65536 % 65536 * 65536) / 2 ^ t = b
  rw [Nat.mul_assoc, Nat.mul_comm 65536, ← Nat.mul_assoc]
  omega
theorem dg_shr (z t i : Nat) (ht : t ≤ 16) : dg (z / 2 ^ t) i = (dg z i + dg z (i + 1) * 65536) / ((2 ^ t : Nat) : Int) % 65536 := by
  have := shr_dgN z t (65536 ^ i) ht
  unfold dg
  rw [this, Nat.pow_succ, ← Nat.div_div_eq_div_mul, Int.natCast_emod, Int.natCast_ediv, Int.natCast_add, Int.natCast_mul]; rfl
theorem D_drop (x s : Nat) : (D x).drop s = D (x / 65536 ^ s) := by
  refine eq_D ((good_D x).drop s) ?_ ?_
  · rw [norm_iff]
    by_cases h : s < (D x).length
    · right
      have := (norm_iff _).1 (norm_D x)
      rw [List.length_drop, List.getD_eq_getElem?_getD, List.getElem?_drop, show s + ((D x).length - s - 1) = (D x).length - 1 by omega, ← List.getD_eq_getElem?_getD]
      rcases this with q | q
      · rw [q] at h; simp at h
      · exact q
    · left; exact List.drop_eq_nil_of_le (by omega)
  · rw [val_drop (good_D x), val_D, ← pow_cast]; exact (Int.natCast_ediv _ _).symm
theorem D_shift {x : Nat} (hx : x ≠ 0) (s : Nat) : List.replicate s 0 ++ D x = D (x * 65536 ^ s) := by
  refine eq_D ((GoodL.zeros s).append (good_D x)) ?_ ?_
  · have h := norm_D x
    intro hne
    have hd : D x ≠ [] := fun e => hx (D_nil_iff.1 e)
    rw [List.getLast_append_of_ne_nil _ hd]
    exact h hd
  · rw [val_append, val_zeros, val_D, List.length_replicate, Int.natCast_mul, pow_cast, Int.mul_comm]; omega
theorem len_shl (x k : Nat) : (D (x * 2 ^ k)).length ≤ (D x).length + k / 16 + 1 := by
  rw [len_D_le]
  have h := lt_len_D x
  have e : 65536 ^ ((D x).length + k / 16 + 1) = 65536 ^ (D x).length * 65536 ^ (k / 16 + 1) := by rw [← Nat.pow_add]; congr 1
  rw [e]
  have h2 : 2 ^ k < 65536 ^ (k / 16 + 1) := by
    rw [show (65536 : Nat) = 2 ^ 16 from rfl, ← Nat.pow_mul]
    exact Nat.pow_lt_pow_right (by omega) (by omega)
  exact Nat.mul_lt_mul'' h h2
theorem len_shr (x k : Nat) : (D (x / 2 ^ k)).length ≤ (D x).length := len_mono (Nat.div_le_self _ _)
theorem pow_split (k : Nat) : 2 ^ k = 65536 ^ (k / 16) * 2 ^ (k % 16) := by
  rw [show (65536 : Nat) = 2 ^ 16 from rfl, ← Nat.pow_mul, ← Nat.pow_add]
  congr 1; omega
theorem pow16_le (k : Nat) : 2 ^ (k % 16) ≤ 32768 := by
  have : 2 ^ (k % 16) ≤ 2 ^ 15 := Nat.pow_le_pow_right (by omega) (by omega)
  exact this
theorem len_add {x y n : Nat} (hx : (D x).length ≤ n) (hy : (D y).length ≤ n) : (D (x + y)).length ≤ n + 1 := lt_pow_len (carry_end hx hy).2
theorem len_mul (x y : Nat) : (D (x * y)).length ≤ (D x).length + (D y).length := by
  rw [len_D_le, Nat.pow_add]; exact Nat.mul_lt_mul'' (lt_len_D x) (lt_len_D y)
theorem len_small {n k : Nat} (h : n < 65536 ^ k) : (D n).length ≤ k := len_D_le.2 h

/-! ### the lowest bit -/
def tzG : Nat → Nat → Nat
  | 0, _ => 0
  | f + 1, x => if x % 2 = 1 then 0 else tzG f (x / 2) + 1
/-- How many noughts a number ends with, in bits; 0 of nought. -/
def tz (x : Nat) : Nat := if x = 0 then 0 else tzG x x
theorem tzG_spec : ∀ (f x : Nat), 0 < x → x ≤ f → ∃ o, x = 2 ^ tzG f x * (2 * o + 1)
  | 0, x, h, hf => by omega
  | f + 1, x, h, hf => by
    rw [tzG]
    split
    · exact ⟨x / 2, by rw [Nat.pow_zero]; omega⟩
    · obtain ⟨o, ho⟩ := tzG_spec f (x / 2) (by omega) (by omega)
      exact ⟨o, by rw [Nat.pow_succ, Nat.mul_comm (2 ^ _) 2, Nat.mul_assoc, ← ho]; omega⟩
theorem tz_spec {x : Nat} (h : x ≠ 0) : ∃ o, x = 2 ^ tz x * (2 * o + 1) := by
  unfold tz; rw [if_neg h]; exact tzG_spec x x (by omega) (Nat.le_refl _)
theorem odd_uniq : ∀ {t u a b : Nat}, 2 ^ t * (2 * a + 1) = 2 ^ u * (2 * b + 1) → t = u ∧ a = b
  | 0, 0, a, b, h => by simp at h; exact ⟨rfl, by omega⟩
  | 0, u + 1, a, b, h => by rw [Nat.pow_succ, Nat.mul_assoc, Nat.mul_left_comm] at h; simp at h; omega
  | t + 1, 0, a, b, h => by rw [Nat.pow_succ, Nat.mul_assoc, Nat.mul_left_comm] at h; simp at h; omega
  | t + 1, u + 1, a, b, h => by
    rw [Nat.pow_succ, Nat.pow_succ, Nat.mul_comm (2 ^ t) 2, Nat.mul_comm (2 ^ u) 2, Nat.mul_assoc, Nat.mul_assoc] at h
    have := odd_uniq (Nat.eq_of_mul_eq_mul_left (by omega) h)
    omega
theorem tz_eq {x t o : Nat} (h : x = 2 ^ t * (2 * o + 1)) : tz x = t := by
  have hx : x ≠ 0 := by
    have : 0 < 2 ^ t * (2 * o + 1) := Nat.mul_pos (Nat.two_pow_pos t) (by omega)
    omega
  obtain ⟨o', ho⟩ := tz_spec hx
  exact (odd_uniq (ho.symm.trans h)).1
theorem tz_bit {x : Nat} (h : x ≠ 0) : x / 2 ^ tz x % 2 = 1 := by
  obtain ⟨o, ho⟩ := tz_spec h
  conv => lhs; lhs; lhs; rw [ho]
  rw [Nat.mul_div_cancel_left _ (Nat.two_pow_pos _)]; omega
theorem tz_low {x i : Nat} (h : i < tz x) : x / 2 ^ i % 2 = 0 := by
  by_cases hx : x = 0
  · subst hx; simp
  obtain ⟨o, ho⟩ := tz_spec hx
  have e : tz x = i + 1 + (tz x - i - 1) := by omega
  rw [e, Nat.pow_add, Nat.pow_succ, Nat.mul_assoc, Nat.mul_assoc] at ho
  conv => lhs; lhs; lhs; rw [ho]
  rw [Nat.mul_div_cancel_left _ (Nat.two_pow_pos _)]; omega
theorem tz_lt {x : Nat} (h : x ≠ 0) : tz x < 16 * (D x).length := by
  obtain ⟨o, ho⟩ := tz_spec h
  have h1 := lt_len_D x
  have h2 : 2 ^ tz x ≤ x := by conv => rhs; rw [ho]
                               exact Nat.le_mul_of_pos_right _ (by omega)
  rw [show (65536 : Nat) = 2 ^ 16 from rfl, ← Nat.pow_mul] at h1
  exact (Nat.pow_lt_pow_iff_right (by omega)).1 (Nat.lt_of_le_of_lt h2 h1)
theorem tz_first {x i : Nat} (h0 : x / 65536 ^ i ≠ 0) (hl : x % 65536 ^ i = 0) (hd : x / 65536 ^ i % 65536 ≠ 0) : tz x = 16 * i + tz (x / 65536 ^ i % 65536) := by
  obtain ⟨o, ho⟩ := tz_spec hd
  have hx : x = 65536 ^ i * (x / 65536 ^ i) := by have := Nat.div_add_mod x (65536 ^ i); omega
  have hlt : tz (x / 65536 ^ i % 65536) < 16 := by
    have : 2 ^ tz (x / 65536 ^ i % 65536) < 2 ^ 16 := by
      have h1 : 2 ^ tz (x / 65536 ^ i % 65536) ≤ x / 65536 ^ i % 65536 := by
        conv => rhs; rw [ho]
        exact Nat.le_mul_of_pos_right _ (by omega)
      have : x / 65536 ^ i % 65536 < 65536 := Nat.mod_lt _ (by omega)
      omega
    exact (Nat.pow_lt_pow_iff_right (by omega)).1 this
  generalize hg : x / 65536 ^ i = a at *
  generalize ht : tz (a % 65536) = t at *
  have ha : a = 2 ^ t * (2 * (o + 2 ^ (15 - t) * (a / 65536)) + 1) := by
    have e : 2 ^ t * (2 * 2 ^ (15 - t)) = 65536 := by
      rw [show 2 * 2 ^ (15 - t) = 2 ^ (16 - t) by rw [show 16 - t = 15 - t + 1 by omega, Nat.pow_succ, Nat.mul_comm], ← Nat.pow_add, show t + (16 - t) = 16 by omega]
    have h1 := Nat.div_add_mod a 65536
    have h3 : 2 ^ t * (2 * (o + 2 ^ (15 - t) * (a / 65536)) + 1) = 2 ^ t * (2 * o + 1) + 2 ^ t * (2 * 2 ^ (15 - t)) * (a / 65536) := by grind
    rw [h3, e, ← ho]; omega
  have hpw : (65536 : Nat) ^ i = 2 ^ (16 * i) := by rw [show (65536 : Nat) = 2 ^ 16 from rfl, ← Nat.pow_mul]
  refine tz_eq (o := o + 2 ^ (15 - t) * (a / 65536)) ?_
  rw [Nat.pow_add, Nat.mul_assoc, ← ha, ← hpw]; exact hx
/-- x & -x. -/
theorem land_neg {x t o : Nat} (h : x = 2 ^ t * (2 * o + 1)) (hx : x < 2 ^ 64) : x &&& (2 ^ 64 - x) = 2 ^ t := by
  have hx0 : 0 < x := by have : 0 < 2 ^ t * (2 * o + 1) := Nat.mul_pos (Nat.two_pow_pos t) (by omega)
                         omega
  have h1 : x - 1 = 2 ^ t * (2 * o) + (2 ^ t - 1) := by
    have := Nat.two_pow_pos t
    rw [h, Nat.mul_add]; omega
  have e1 : 2 ^ 64 - x = 2 ^ 64 - ((x - 1) + 1) := by omega
  have h0 : x = 2 ^ t * (2 * o + 1) + 0 := by omega
  apply Nat.eq_of_testBit_eq
  intro j
  rw [Nat.testBit_and, e1, Nat.testBit_two_pow_sub_succ (by omega), h1, Nat.testBit_two_pow_mul_add _ (by have := Nat.two_pow_pos t; omega)]
  conv => lhs; lhs; rw [h0]
  rw [Nat.testBit_two_pow_mul_add _ (Nat.two_pow_pos t), Nat.testBit_two_pow]
  by_cases hj : j < t
  · rw [if_pos hj, if_pos hj]
    simp; omega
  · rw [if_neg hj, if_neg hj]
    by_cases hj2 : j = t
    · subst hj2
      have : j < 64 := by
        have h3 : 2 ^ j ≤ x := by rw [h]; exact Nat.le_mul_of_pos_right _ (by omega)
        exact (Nat.pow_lt_pow_iff_right (a := 2) (by omega)).1 (by omega)
      simp [this]
    · have : j - t = (j - t - 1) + 1 := by omega
      rw [this, Nat.testBit_succ, Nat.testBit_succ, show (2 * o + 1) / 2 = o by omega, show 2 * o / 2 = o by omega]
      have hne : ¬ t = j := fun e => hj2 e.symm
      cases o.testBit (j - t - 1) <;> simp [hne]
end Go.Eng
end
section
/- What numbers of all kinds are as values; whether they are valid. Plain laws. No conditions. -/
namespace Go.Eng
open Num
def limbB (x : Int) : Bool := decide (0 ≤ x) && decide (x ≤ 65535)
def natOkB (l : List Int) : Bool := decide (l.length ≤ 100) && l.all limbB && (decide (l.length = 0) || gt l (l.length - 1) != 0)
theorem limbB_iff (x : Int) : limbB x = true ↔ 0 ≤ x ∧ x < 65536 := by unfold limbB; simp; omega
theorem all_limbB {l : List Int} : l.all limbB = true ↔ GoodL l := by
  rw [List.all_eq_true]
  exact ⟨fun h x hx => (limbB_iff x).1 (h x hx), fun h x hx => (limbB_iff x).2 (h x hx)⟩
theorem natOkB_iff (l : List Int) : natOkB l = true ↔ ∃ n, l = D n ∧ (D n).length ≤ 100 := by
  unfold natOkB
  rw [Bool.and_eq_true, Bool.and_eq_true, Bool.or_eq_true, decide_eq_true_eq, all_limbB, decide_eq_true_eq, bne_iff_ne]
  constructor
  · rintro ⟨⟨h1, h2⟩, h3⟩
    have hn : Norm l := by
      rw [norm_iff]
      rcases h3 with h3 | h3
      · exact .inl (List.eq_nil_of_length_eq_zero h3)
      · exact .inr h3
    have e := D_val h2 hn
    exact ⟨(val l).toNat, e.symm, by rw [e]; exact h1⟩
  · rintro ⟨n, rfl, h1⟩
    refine ⟨⟨h1, good_D n⟩, ?_⟩
    rcases (norm_iff _).1 (norm_D n) with h | h
    · exact .inl (by rw [h]; rfl)
    · exact .inr h
theorem natOkB_D (n : Nat) : natOkB (D n) = decide ((D n).length ≤ 100) := by
  by_cases h : (D n).length ≤ 100
  · rw [(natOkB_iff _).2 ⟨n, rfl, h⟩, decide_eq_true h]
  · rw [decide_eq_false h]
    cases hb : natOkB (D n) with
    | false => rfl
    | true => obtain ⟨m, e, h2⟩ := (natOkB_iff _).1 hb; rw [← e] at h2; omega
def wholeOkB (neg : Bool) (l : List Int) : Bool := natOkB l && !(neg && decide (l.length = 0))
/-- A dyadic number as it lies in memory. -/
structure DyT where
  neg : Bool
  l : List Int
  e : Int
def DyT.v (d : DyT) : List V := [.bool d.neg, .ints .i64 d.l, .int .i64 d.e]
def dyOkB (d : DyT) : Bool := wholeOkB d.neg d.l && (decide (-3000 ≤ d.e) && decide (d.e ≤ 3000)) && (if d.l.length = 0 then decide (d.e = 0) else decide (gt d.l 0 % 2 = 1))
def DyT.sz (d : DyT) : Prop := d.l.length < 100000000
/-- A valid one: its sign, its size, its power. -/
theorem dyOkB_iff (d : DyT) : dyOkB d = true ↔ ∃ x : Nat, d.l = D x ∧ (D x).length ≤ 100 ∧ -3000 ≤ d.e ∧ d.e ≤ 3000 ∧ ((x = 0 ∧ d.neg = false ∧ d.e = 0) ∨ x % 2 = 1) := by
  unfold dyOkB wholeOkB
  rw [Bool.and_eq_true, Bool.and_eq_true, Bool.and_eq_true, Bool.and_eq_true, natOkB_iff, decide_eq_true_eq, decide_eq_true_eq]
  constructor
  · rintro ⟨⟨⟨⟨x, e1, h1⟩, h2⟩, h3, h4⟩, h5⟩
    refine ⟨x, e1, h1, h3, h4, ?_⟩
    rw [e1] at h2 h5
    by_cases h0 : (D x).length = 0
    · rw [if_pos h0] at h5
      left
      refine ⟨lens_D.1 h0, ?_, by simpa using h5⟩
      rw [decide_eq_true h0] at h2
      cases hd : d.neg <;> simp [hd] at h2 ⊢
    · rw [if_neg h0, decide_eq_true_eq, gt_D] at h5
      right
      unfold dg at h5
      rw [Nat.pow_zero, Nat.div_one] at h5
      omega
  · rintro ⟨x, e1, h1, h3, h4, h5⟩
    rw [e1]
    rcases h5 with ⟨rfl, h6, h7⟩ | h5
    · refine ⟨⟨⟨⟨0, rfl, h1⟩, by rw [h6]; rfl⟩, h3, h4⟩, ?_⟩
      rw [if_pos (by rw [D_zero]; rfl)]; simpa using h7
    · have h0 : ¬ (D x).length = 0 := fun h => by rw [lens_D.1 h] at h5; omega
      refine ⟨⟨⟨⟨x, rfl, h1⟩, ?_⟩, h3, h4⟩, ?_⟩
      · rw [decide_eq_false h0]; simp
      · rw [if_neg h0, decide_eq_true_eq, gt_D]
        unfold dg
        rw [Nat.pow_zero, Nat.div_one]
        omega
theorem dyOkB_sz {d : DyT} (h : dyOkB d = true) : d.sz := by
  obtain ⟨x, e, h1, _⟩ := (dyOkB_iff d).1 h
  unfold DyT.sz; rw [e]; omega
/-- Lists of what has several cells. -/
def flat {α : Type} (f : α → List V) : List α → List V
  | [] => []
  | a :: r => f a ++ flat f r
theorem flat_len {α : Type} {f : α → List V} {s : Nat} (hf : ∀ a, (f a).length = s) : ∀ l : List α, (flat f l).length = l.length * s
  | [] => by simp [flat]
  | a :: r => by rw [flat, List.length_append, hf, flat_len hf r, List.length_cons, Nat.add_mul, Nat.one_mul, Nat.add_comm]
theorem flat_sub {α : Type} {f : α → List V} {s : Nat} (hf : ∀ a, (f a).length = s) : ∀ (l : List α) (j : Nat) (a : α), l[j]? = some a → ((flat f l).drop (j * s)).take s = f a
  | [], j, a, h => by simp at h
  | b :: r, 0, a, h => by
    simp at h; subst h
    rw [Nat.zero_mul, List.drop_zero, flat, List.take_append_of_le_length (by rw [hf]; exact Nat.le_refl _), List.take_of_length_le (by rw [hf]; exact Nat.le_refl _)]
  | b :: r, j + 1, a, h => by
    have e : (j + 1) * s = s + j * s := by rw [Nat.add_mul, Nat.one_mul, Nat.add_comm]
    rw [flat, e, List.drop_append, hf]
    rw [List.drop_eq_nil_of_le (by rw [hf]; omega), List.nil_append, show s + j * s - s = j * s by omega]
    exact flat_sub hf r j a (by simpa using h)
theorem DyT.len (d : DyT) : d.v.length = 3 := rfl
end Go.Eng
end
section
/- A quotient digit by digit: how a digit is guessed, and what is taken away. Plain laws. No conditions. -/
namespace Go.Eng
open Num
/-- The two highest digits of what is divided by, the three highest ones of what is divided. -/
structure Kt (P v1 v2 vr top u2 ur : Int) : Prop where
  P0 : 0 < P
  v1l : 32768 ≤ v1
  v1u : v1 < 65536
  v20 : 0 ≤ v2
  v2u : v2 < 65536
  vr0 : 0 ≤ vr
  vru : vr < P
  t0 : 0 ≤ top
  u20 : 0 ≤ u2
  u2u : u2 < 65536
  ur0 : 0 ≤ ur
  uru : ur < P
  lt : (top * 65536 + u2) * P + ur < 65536 * ((v1 * 65536 + v2) * P + vr)
namespace Kt
variable {P v1 v2 vr top u2 ur q r : Int}
theorem mulP (h : Kt P v1 v2 vr top u2 ur) {a b : Int} (hab : a ≤ b) : a * P ≤ b * P := Int.mul_le_mul_of_nonneg_right hab (Int.le_of_lt h.P0)
theorem ofP (h : Kt P v1 v2 vr top u2 ur) {a b : Int} (hab : a * P < b * P) : a < b := Int.lt_of_mul_lt_mul_right hab (Int.le_of_lt h.P0)
theorem top_le (h : Kt P v1 v2 vr top u2 ur) : top ≤ v1 * 65536 + v2 := by
  have h1 : (top * 65536 + u2) * P < (65536 * (v1 * 65536 + v2 + 1)) * P := by
    have h2 : (65536 * (v1 * 65536 + v2 + 1)) * P = 65536 * ((v1 * 65536 + v2) * P + P) := by grind
    have := h.lt; have := h.vru; have := h.ur0
    rw [h2]; omega
  have := h.ofP h1
  have := h.u20
  omega
/-- The guess is one too great at least. -/
theorem dec (h : Kt P v1 v2 vr top u2 ur) (e : q * v1 + r = top) (q0 : 0 ≤ q) (c : 65536 ≤ q ∨ r * 65536 + u2 < q * v2) : (top * 65536 + u2) * P + ur < q * ((v1 * 65536 + v2) * P + vr) := by
  rcases c with c | c
  · have h0 : 0 ≤ (v1 * 65536 + v2) * P + vr := by
      have := Int.mul_nonneg (a := v1 * 65536 + v2) (b := P) (by have := h.v1l; have := h.v20; omega) (Int.le_of_lt h.P0)
      have := h.vr0; omega
    have := Int.mul_le_mul_of_nonneg_right c h0
    have := h.lt
    omega
  · have h1 : (top * 65536 + u2 + 1) * P ≤ (q * (v1 * 65536 + v2)) * P := by
      refine h.mulP ?_
      have : q * (v1 * 65536 + v2) = (q * v1) * 65536 + q * v2 := by grind
      rw [this, show q * v1 = top - r by omega]
      omega
    have h2 : q * ((v1 * 65536 + v2) * P + vr) = (q * (v1 * 65536 + v2)) * P + q * vr := by grind
    have h3 : (top * 65536 + u2 + 1) * P = (top * 65536 + u2) * P + P := by grind
    have h4 := Int.mul_nonneg q0 h.vr0
    have := h.uru
    omega
/-- A guess that passes the test is one too great at most. -/
theorem fin (h : Kt P v1 v2 vr top u2 ur) (e : q * v1 + r = top) (q0 : 0 ≤ q) (q1 : q < 65536) (c : q * v2 ≤ r * 65536 + u2) : (q - 1) * ((v1 * 65536 + v2) * P + vr) ≤ (top * 65536 + u2) * P + ur := by
  have h1 : (q * (v1 * 65536 + v2)) * P ≤ (top * 65536 + u2) * P := by
    refine h.mulP ?_
    have : q * (v1 * 65536 + v2) = (q * v1) * 65536 + q * v2 := by grind
    rw [this, show q * v1 = top - r by omega]
    omega
  have h2 : (q - 1) * ((v1 * 65536 + v2) * P + vr) = (q * (v1 * 65536 + v2)) * P + q * vr - (v1 * 65536 + v2) * P - vr := by grind
  have h3 : q * vr ≤ 65536 * P := by
    have h4 : q * vr ≤ 65536 * vr := Int.mul_le_mul_of_nonneg_right (by omega) h.vr0
    have := h.vru
    omega
  have h5 : 65536 * P ≤ (v1 * 65536 + v2) * P := h.mulP (by have := h.v1l; have := h.v20; omega)
  have := h.vr0; have := h.ur0
  omega
/-- Where the rest grows beyond a digit, the guess has come below the base. -/
theorem brk (h : Kt P v1 v2 vr top u2 ur) (e : q * v1 + r = top) (r0 : 0 ≤ r) (b : 65536 ≤ r + v1) : q ≤ 65536 := by
  have h1 := h.top_le
  rcases Int.lt_or_le 65536 q with h2 | h2
  · have h3 : 65537 * v1 ≤ q * v1 := Int.mul_le_mul_of_nonneg_right (by omega) (by have := h.v1l; omega)
    have := h.v2u
    omega
  · exact h2
theorem q_le (h : Kt P v1 v2 vr top u2 ur) (e : q * v1 + r = top) (r0 : 0 ≤ r) : q ≤ 65537 := by
  have h1 := h.top_le
  rcases Int.lt_or_le 65537 q with h2 | h2
  · have h3 : 65538 * v1 ≤ q * v1 := Int.mul_le_mul_of_nonneg_right (by omega) (by have := h.v1l; omega)
    have := h.v2u
    have := h.v1l
    omega
  · exact h2
theorem brk2 (h : Kt P v1 v2 vr top u2 ur) (q0 : 0 ≤ q) (q1 : q < 65536) (b : 65536 ≤ r) : q * v2 ≤ r * 65536 + u2 := by
  have h1 : q * v2 ≤ 65535 * v2 := Int.mul_le_mul_of_nonneg_right (by omega) h.v20
  have := h.v2u; have := h.u20
  omega
end Kt
/-- The true digit and the guess. -/
theorem guess {U V q t : Int} (hV : 0 < V) (ht : t = U / V) (h1 : U < (q + 1) * V) (h2 : (q - 1) * V ≤ U) : t ≤ q ∧ q ≤ t + 1 := by
  subst ht
  constructor
  · have := Int.ediv_lt_of_lt_mul hV h1; omega
  · have := (Int.le_ediv_iff_mul_le hV).2 h2; omega

/-! ### taking a multiple away, and adding once -/
theorem take_borrow (d : Int) : d + -(d / 65536) * 65536 = d % 65536 ∧ (d < 0 → (-d + 65535) / 65536 = -(d / 65536)) ∧ (0 ≤ d → d < 65536 → -(d / 65536) = 0) := by omega
theorem take_step {V0 u v j i : Int} {p pi q b lov d : Int} (h : u - p * pi * b = V0 - q * p * lov) (hd : v = d - q * j - b) (hu : i = u + (v % 65536 - d) * (p * pi)) : i - p * (pi * 65536) * -(v / 65536) = V0 - q * p * (lov + pi * j) := by
  have := Int.mul_ediv_add_emod v 65536
  grind
theorem add_step {V0 u v j i : Int} {p pi c lov d : Int} (h : u + p * pi * c = V0 + p * lov) (hd : v = c + (d + j)) (hu : i = u + (v % 65536 - d) * (p * pi)) : i + p * (pi * 65536) * (v / 65536) = V0 + p * (lov + pi * j) := by
  have := Int.mul_ediv_add_emod v 65536
  grind
theorem gt_set_eq {l : List Int} {i : Nat} (h : i < l.length) (x : Int) : gt (l.set i x) i = x := by unfold gt; simp [h]
theorem gt_set_ne {l : List Int} {i j : Nat} (h : i ≠ j) (x : Int) : gt (l.set i x) j = gt l j := getD_set_ne_ h x
theorem Num.GoodL.gtB {l : List Int} (h : GoodL l) (i : Nat) : 0 ≤ gt l i ∧ gt l i < 65536 := h.getD i
theorem val_setG {l : List Int} {i : Nat} (h : i < l.length) (v : Int) : val (l.set i v) = val l + (v - gt l i) * 65536 ^ i := val_set h v
theorem gt_dgs2 : ∀ {q n i : Nat}, i < n → gt (dgs q n) i = dg q i
  | q, n + 1, i, h => by
    rw [dgs_succ]
    by_cases h1 : i < n
    · rw [gt_app_lt (by rw [dgs_len]; exact h1)]; exact gt_dgs2 h1
    · obtain rfl : i = n := by omega
      have := gt_snoc (dgs q i) (dg q i)
      rwa [dgs_len] at this
/-- A good list is known by its length and value. -/
theorem good_dgs {l : List Int} {n v : Nat} (hg : GoodL l) (hl : l.length = n) (hv : val l = v) : l = dgs v n := by
  refine List.ext_getElem (by rw [dgs_len, hl]) fun i h1 h2 => ?_
  rw [gt_get, gt_get, gt_dgs2 (by omega)]
  have := getD_val hg i
  show l.getD i 0 = _
  rw [this, hv, ← pow_cast]
  unfold dg; omega
end Go.Eng
end
section
/- Square roots by Newton's steps; how many bits a number has. Plain laws. No conditions. -/
namespace Go.Eng
open Num
def rtG (a : Nat) : Nat → Nat
  | 0 => 0
  | f + 1 => if (rtG a f + 1) * (rtG a f + 1) ≤ a then rtG a f + 1 else rtG a f
/-- The square root, rounded down. -/
def rt (a : Nat) : Nat := rtG a a
theorem rtG_spec (a : Nat) : ∀ f, rtG a f * rtG a f ≤ a ∧ (a < (rtG a f + 1) * (rtG a f + 1) ∨ rtG a f = f)
  | 0 => by simp [rtG]
  | f + 1 => by
    obtain ⟨h1, h2⟩ := rtG_spec a f
    rw [rtG]
    split
    · rename_i h
      refine ⟨h, .inr ?_⟩
      rcases h2 with h2 | h2
      · omega
      · rw [h2]
    · rename_i h
      exact ⟨h1, .inl (by omega)⟩
theorem rt_le (a : Nat) : rt a * rt a ≤ a := (rtG_spec a a).1
theorem rt_lt (a : Nat) : a < (rt a + 1) * (rt a + 1) := by
  unfold rt
  rcases (rtG_spec a a).2 with h | h
  · exact h
  · rw [h]
    have : a + 1 ≤ (a + 1) * (a + 1) := Nat.le_mul_of_pos_right _ (by omega)
    omega
theorem rt_uniq {a s : Nat} (h1 : s * s ≤ a) (h2 : a < (s + 1) * (s + 1)) : s = rt a := by
  have h3 := rt_le a
  have h4 := rt_lt a
  rcases Nat.lt_trichotomy s (rt a) with h | h | h
  · have : (s + 1) * (s + 1) ≤ rt a * rt a := Nat.mul_le_mul h h
    omega
  · exact h
  · have : (rt a + 1) * (rt a + 1) ≤ s * s := Nat.mul_le_mul h h
    omega
/-- A step. -/
def nst (a x : Nat) : Nat := (x + a / x) / 2
theorem nst_ge {a x s : Nat} (hs : s * s ≤ a) (hx : 0 < x) : s ≤ nst a x := by
  unfold nst
  rw [Nat.le_div_iff_mul_le (by omega)]
  by_cases h : 2 * s ≤ x
  · generalize a / x = q; omega
  · have h1 : (2 * s - x) * x ≤ a := by
      refine Nat.le_trans ?_ hs
      have h2 : (2 * s - x) * x + x * x = 2 * s * x := by rw [← Nat.add_mul]; congr 1; omega
      have h3 : 2 * s * x ≤ s * s + x * x := by
        have : (0 : Int) ≤ ((s : Int) - x) * ((s : Int) - x) := by
          rcases Int.le_total 0 ((s : Int) - x) with h | h
          · exact Int.mul_nonneg h h
          · exact Int.mul_nonneg_of_nonpos_of_nonpos h h
        have h4 : ((2 * s * x : Nat) : Int) ≤ ((s * s + x * x : Nat) : Int) := by
          simp only [Int.natCast_mul, Int.natCast_add]
          grind
        exact Int.ofNat_le.1 h4
      omega
    have := (Nat.le_div_iff_mul_le hx).2 h1
    omega
theorem nst_stop {a x : Nat} (hx : 0 < x) (hy : x ≤ nst a x) : x ≤ rt a := by
  unfold nst at hy
  rw [Nat.le_div_iff_mul_le (by omega)] at hy
  have h1 : x * x ≤ a := (Nat.le_div_iff_mul_le hx).1 (by omega)
  have h4 := rt_lt a
  rcases Nat.lt_or_ge (rt a) x with h | h
  · have : (rt a + 1) * (rt a + 1) ≤ x * x := Nat.mul_le_mul h h
    omega
  · exact h
theorem rt_pos {a : Nat} (h : 0 < a) : 0 < rt a := by
  rcases Nat.eq_zero_or_pos (rt a) with h0 | h0
  · have := rt_lt a; rw [h0] at this; omega
  · exact h0
theorem nst_half {a x : Nat} (ha : 0 < a) (hx : rt a ≤ x) : nst a x ≤ rt a + (x - rt a) / 2 + 1 := by
  have h0 := rt_pos ha
  have h1 := rt_lt a
  have h2 : a / x ≤ rt a + 2 := by
    have h3 : a / x ≤ a / rt a := Nat.div_le_div_left hx h0
    have h4 : a / rt a < rt a + 3 := by
      rw [Nat.div_lt_iff_lt_mul h0]
      have : (rt a + 1) * (rt a + 1) = rt a * rt a + 2 * rt a + 1 := by grind
      have : (rt a + 3) * rt a = rt a * rt a + 3 * rt a := by grind
      omega
    omega
  unfold nst
  omega
section
variable {a : Nat} {body : VE → VH → Option (AX × VE × VH)} {S : Nat → VE × VH} {R : AX × VE × VH} {X : Nat}
theorem nst_a (ha : 0 < a) (h1 : ∀ x, rt a ≤ x → x ≤ X → nst a x < x → body (S x).1 (S x).2 = some (.norm, S (nst a x))) (h2 : body (S (rt a)).1 (S (rt a)).2 = some R) (hR : R.1 ≠ .norm) :
    ∀ (m n x : Nat), rt a ≤ x → x ≤ X → x - rt a ≤ m → m < n → viter body n (S x).1 (S x).2 = some R := by
  have hfin : ∀ n, 0 < n → viter body n (S (rt a)).1 (S (rt a)).2 = some R := fun n hn => by
    obtain ⟨n, rfl⟩ : ∃ m, n = m + 1 := ⟨n - 1, by omega⟩
    rw [viter, h2, Option.bind_some]
    obtain ⟨x, e, h⟩ := R
    cases x with
    | norm => exact absurd rfl hR
    | _ => rfl
  intro m
  induction m with
  | zero =>
    intro n x hx hX hm hn
    obtain rfl : x = rt a := by omega
    exact hfin n (by omega)
  | succ m ih =>
    intro n x hx hX hm hn
    by_cases hs : nst a x < x
    · obtain ⟨n, rfl⟩ : ∃ m, n = m + 1 := ⟨n - 1, by omega⟩
      have h0 := rt_pos ha
      have := nst_ge (rt_le a) (x := x) (by omega)
      rw [vi_norm (h1 x hx hX hs)]
      exact ih n (nst a x) this (by omega) (by omega) (by omega)
    · have h0 := rt_pos ha
      have := nst_stop (a := a) (x := x) (by omega) (by omega)
      obtain rfl : x = rt a := by omega
      exact hfin n (by omega)
/-- Newton's loop. -/
theorem nst_run (ha : 0 < a) (h1 : ∀ x, rt a ≤ x → x ≤ X → nst a x < x → body (S x).1 (S x).2 = some (.norm, S (nst a x))) (h2 : body (S (rt a)).1 (S (rt a)).2 = some R) (hR : R.1 ≠ .norm) :
    ∀ (k n x : Nat), rt a ≤ x → x ≤ X → x - rt a ≤ 2 ^ k + 2 → k + 4 < n → viter body n (S x).1 (S x).2 = some R := by
  intro k
  induction k with
  | zero => intro n x hx hX hm hn; exact nst_a ha h1 h2 hR 3 n x hx hX (by simpa using hm) (by omega)
  | succ k ih =>
    intro n x hx hX hm hn
    by_cases hs : nst a x < x
    · obtain ⟨n, rfl⟩ : ∃ m, n = m + 1 := ⟨n - 1, by omega⟩
      have h0 := rt_pos ha
      have := nst_ge (rt_le a) (x := x) (by omega)
      have h3 := nst_half ha hx
      rw [Nat.pow_succ] at hm
      rw [vi_norm (h1 x hx hX hs)]
      exact ih n (nst a x) this (by omega) (by omega) (by omega)
    · have h0 := rt_pos ha
      have := nst_stop (a := a) (x := x) (by omega) (by omega)
      obtain rfl : x = rt a := by omega
      exact nst_a ha h1 h2 hR 0 n _ (Nat.le_refl _) hX (by omega) (by omega)
end

/-! ### bits -/
def nbG : Nat → Nat → Nat
  | 0, _ => 0
  | f + 1, x => if x = 0 then 0 else nbG f (x / 2) + 1
/-- How many bits a number has. -/
def nb (x : Nat) : Nat := nbG x x
theorem nbG_lt : ∀ (f x : Nat), x ≤ f → x < 2 ^ nbG f x ∧ (x ≠ 0 → 2 ^ (nbG f x - 1) ≤ x ∧ 0 < nbG f x)
  | 0, x, h => by obtain rfl : x = 0 := by omega
                  simp [nbG]
  | f + 1, x, h => by
    rw [nbG]
    by_cases h0 : x = 0
    · subst h0; simp
    · rw [if_neg h0]
      obtain ⟨h1, h2⟩ := nbG_lt f (x / 2) (by omega)
      refine ⟨by rw [Nat.pow_succ]; omega, fun _ => ⟨?_, by omega⟩⟩
      rw [Nat.add_sub_cancel]
      by_cases h3 : x / 2 = 0
      · have : nbG f (x / 2) = 0 := by
          rw [h3]; cases f <;> simp [nbG]
        rw [this]; simp; omega
      · obtain ⟨h4, h5⟩ := h2 h3
        have : 2 ^ nbG f (x / 2) = 2 ^ (nbG f (x / 2) - 1) * 2 := by rw [← Nat.pow_succ]; congr 1; omega
        omega
theorem nb_lt (x : Nat) : x < 2 ^ nb x := (nbG_lt x x (Nat.le_refl _)).1
theorem nb_le {x : Nat} (h : x ≠ 0) : 2 ^ (nb x - 1) ≤ x ∧ 0 < nb x := (nbG_lt x x (Nat.le_refl _)).2 h
theorem nb_uniq {x k : Nat} (h1 : 2 ^ k ≤ x) (h2 : x < 2 ^ (k + 1)) : nb x = k + 1 := by
  have hx : x ≠ 0 := by have := Nat.two_pow_pos k; omega
  obtain ⟨h3, h4⟩ := nb_le hx
  have h5 := nb_lt x
  have h6 : k < nb x := (Nat.pow_lt_pow_iff_right (a := 2) (by omega)).1 (Nat.lt_of_le_of_lt h1 h5)
  have h7 : nb x - 1 < k + 1 := (Nat.pow_lt_pow_iff_right (a := 2) (by omega)).1 (Nat.lt_of_le_of_lt h3 h2)
  omega
theorem nb_zero : nb 0 = 0 := rfl
theorem nb_half {x : Nat} (h : x ≠ 0) : nb x = nb (x / 2) + 1 := by
  by_cases h1 : x / 2 = 0
  · obtain rfl : x = 1 := by omega
    rfl
  · obtain ⟨h3, h4⟩ := nb_le h1
    have h5 := nb_lt (x / 2)
    refine (nb_uniq ?_ ?_)
    · have : 2 ^ nb (x / 2) = 2 ^ (nb (x / 2) - 1) * 2 := by rw [← Nat.pow_succ]; congr 1; omega
      omega
    · rw [Nat.pow_succ]; omega
/-- By the highest digit. -/
theorem nb_top {x n : Nat} (hd : x / 65536 ^ n ≠ 0) : nb x = 16 * n + nb (x / 65536 ^ n) := by
  obtain ⟨h3, h4⟩ := nb_le hd
  have h5 := nb_lt (x / 65536 ^ n)
  have e : (65536 : Nat) ^ n = 2 ^ (16 * n) := by rw [show (65536 : Nat) = 2 ^ 16 from rfl, ← Nat.pow_mul]
  generalize nb (x / 65536 ^ n) = k at *
  obtain ⟨k, rfl⟩ : ∃ j, k = j + 1 := ⟨k - 1, by omega⟩
  rw [Nat.add_sub_cancel] at h3
  have := Nat.div_add_mod x (65536 ^ n)
  have h6 := Nat.mod_lt x (powN_pos n)
  refine (nb_uniq (k := 16 * n + k) ?_ ?_).trans (by omega)
  · rw [Nat.pow_add, ← e]
    have := Nat.mul_le_mul_left (65536 ^ n) h3
    omega
  · rw [show 16 * n + k + 1 = 16 * n + (k + 1) by omega, Nat.pow_add, ← e]
    have := (Nat.div_lt_iff_lt_mul (powN_pos n)).1 h5
    rw [Nat.mul_comm]; exact this
end Go.Eng
end
section
/- Decimal digits of a number: from the low end on, and as a text; and back. No conditions. -/
namespace Go.Eng
open Num
namespace Num
/-- The k low decimal digits as bytes, from the low end on. -/
def lsd (n : Nat) : Nat → List Int
  | 0 => []
  | k + 1 => lsd n k ++ [((48 + n / 10 ^ k % 10 : Nat) : Int)]
theorem lsd_len (n : Nat) : ∀ k, (lsd n k).length = k
  | 0 => rfl
  | k + 1 => by rw [lsd, List.length_append, lsd_len n k]; rfl
theorem lsd_cons (n : Nat) : ∀ k, lsd n (k + 1) = ((48 + n % 10 : Nat) : Int) :: lsd (n / 10) k
  | 0 => by simp [lsd]
  | k + 1 => by
    rw [lsd, lsd_cons n k, lsd, Nat.div_div_eq_div_mul, List.cons_append, Nat.mul_comm 10, ← Nat.pow_succ]
theorem lsd_bd (n : Nat) : ∀ k, ∀ x ∈ lsd n k, 48 ≤ x ∧ x ≤ 57
  | 0, x, h => by simp [lsd] at h
  | k + 1, x, h => by
    rw [lsd, List.mem_append] at h
    rcases h with h | h
    · exact lsd_bd n k x h
    · simp only [List.mem_cons, List.not_mem_nil, or_false] at h
      have := Nat.mod_lt (n / 10 ^ k) (by omega : 0 < 10)
      omega
theorem lsd_take (n k : Nat) : ∀ m, k ≤ m → (lsd n m).take k = lsd n k
  | 0, h => by obtain rfl : k = 0 := by omega
               rfl
  | m + 1, h => by
    by_cases e : k = m + 1
    · subst e; exact List.take_of_length_le (by rw [lsd_len]; exact Nat.le_refl _)
    · rw [lsd, List.take_append_of_le_length (by rw [lsd_len]; omega), lsd_take n k m (by omega)]
theorem lsd_at (n : Nat) {i : Nat} : ∀ {m}, i < m → (lsd n m).getD i 0 = ((48 + n / 10 ^ i % 10 : Nat) : Int)
  | m + 1, h => by
    rw [lsd]
    by_cases e : i < m
    · rw [List.getD_eq_getElem?_getD, List.getElem?_append_left (by rw [lsd_len]; exact e), ← List.getD_eq_getElem?_getD]; exact lsd_at n e
    · obtain rfl : i = m := by omega
      rw [List.getD_eq_getElem?_getD, List.getElem?_append_right (by rw [lsd_len]; exact Nat.le_refl _), lsd_len, Nat.sub_self]; rfl
/-- How many decimal digits. -/
def ndG : Nat → Nat → Nat
  | 0, _ => 0
  | f + 1, n => if n = 0 then 0 else ndG f (n / 10) + 1
def nd (n : Nat) : Nat := ndG n n
theorem ndG_spec : ∀ (f n : Nat), n ≤ f → n < 10 ^ ndG f n ∧ (n ≠ 0 → 10 ^ (ndG f n - 1) ≤ n ∧ 0 < ndG f n)
  | 0, n, h => by obtain rfl : n = 0 := by omega
                  simp [ndG]
  | f + 1, n, h => by
    unfold ndG
    by_cases h0 : n = 0
    · subst h0; simp
    · rw [if_neg h0]
      obtain ⟨h1, h2⟩ := ndG_spec f (n / 10) (by omega)
      refine ⟨by rw [Nat.pow_succ]; omega, fun _ => ⟨?_, by omega⟩⟩
      rw [Nat.add_sub_cancel]
      by_cases h3 : n / 10 = 0
      · rw [h3]
        have : ndG f 0 = 0 := by cases f <;> simp [ndG]
        rw [this]; simp; omega
      · obtain ⟨h4, h5⟩ := h2 h3
        have : 10 ^ ndG f (n / 10) = 10 ^ (ndG f (n / 10) - 1) * 10 := by rw [← Nat.pow_succ]; congr 1; omega
        omega
theorem nd_lt (n : Nat) : n < 10 ^ nd n := (ndG_spec n n (Nat.le_refl _)).1
theorem nd_le {n : Nat} (h : n ≠ 0) : 10 ^ (nd n - 1) ≤ n ∧ 0 < nd n := (ndG_spec n n (Nat.le_refl _)).2 h
theorem nd_uniq {n k : Nat} (h1 : 10 ^ k ≤ n) (h2 : n < 10 ^ (k + 1)) : nd n = k + 1 := by
  have h0 : n ≠ 0 := by have : 0 < 10 ^ k := Nat.pow_pos (by omega); omega
  obtain ⟨h3, h4⟩ := nd_le h0
  have h5 := nd_lt n
  have a : k < nd n := (Nat.pow_lt_pow_iff_right (by omega : 1 < 10)).1 (Nat.lt_of_le_of_lt h1 h5)
  have b : nd n - 1 < k + 1 := (Nat.pow_lt_pow_iff_right (by omega : 1 < 10)).1 (Nat.lt_of_le_of_lt h3 h2)
  omega
theorem nd_zero : nd 0 = 0 := rfl
theorem nd_pos {n k : Nat} (h : k < nd n) : 10 ^ k ≤ n := by
  have h0 : n ≠ 0 := by rintro rfl; rw [nd_zero] at h; omega
  exact Nat.le_trans (Nat.pow_le_pow_right (by omega) (by omega)) (nd_le h0).1
theorem nd_div {n k : Nat} (h : nd n ≤ k) : n / 10 ^ k = 0 := Nat.div_eq_of_lt (Nat.lt_of_lt_of_le (nd_lt n) (Nat.pow_le_pow_right (by omega) h))
theorem nd_top {n : Nat} (h : n ≠ 0) : n / 10 ^ (nd n - 1) % 10 ≠ 0 := by
  obtain ⟨h1, h2⟩ := nd_le h
  have h3 := nd_lt n
  have e : 10 ^ nd n = 10 ^ (nd n - 1) * 10 := by rw [← Nat.pow_succ]; congr 1; omega
  have h4 : n / 10 ^ (nd n - 1) < 10 := Nat.div_lt_of_lt_mul (by omega)
  have h5 := Nat.div_pos h1 (Nat.pow_pos (by omega))
  omega
/-- The decimal text of a number. -/
def text (n : Nat) : List Int := if n = 0 then [48] else (lsd n (nd n)).reverse
theorem text_bd (n : Nat) : ∀ x ∈ text n, 48 ≤ x ∧ x ≤ 57 := fun x h => by
  unfold text at h
  split at h
  · simp at h; omega
  · exact lsd_bd _ _ _ (List.mem_reverse.1 h)
theorem text_len {n : Nat} (h : n ≠ 0) : (text n).length = nd n := by unfold text; rw [if_neg h, List.length_reverse, lsd_len]
theorem text_pos (n : Nat) : 0 < (text n).length := by
  by_cases h : n = 0
  · subst h; simp [text]
  · rw [text_len h]; exact (nd_le h).2
/-- What digits stand for. -/
def rdd (v : Nat) (l : List Int) : Nat := l.foldl (fun v c => v * 10 + (c - 48).toNat) v
theorem rdd_snoc (v : Nat) (l : List Int) (c : Int) : rdd v (l ++ [c]) = rdd v l * 10 + (c - 48).toNat := by unfold rdd; rw [List.foldl_append]; rfl
theorem rdd_lsd (n : Nat) : ∀ k v, rdd v (lsd n k).reverse = v * 10 ^ k + n % 10 ^ k
  | 0, v => by simp [lsd, rdd, Nat.mod_one]
  | k + 1, v => by
    rw [lsd, List.reverse_append, List.reverse_singleton, List.singleton_append]
    show rdd (v * 10 + (((48 + n / 10 ^ k % 10 : Nat) : Int) - 48).toNat) (lsd n k).reverse = _
    rw [rdd_lsd n k, Nat.mod_pow_succ, Nat.pow_succ]
    have : (((48 + n / 10 ^ k % 10 : Nat) : Int) - 48).toNat = n / 10 ^ k % 10 := by omega
    rw [this, Nat.add_mul, Nat.mul_assoc, Nat.mul_comm 10, Nat.mul_comm (n / 10 ^ k % 10)]
    omega
theorem rdd_text (n : Nat) : rdd 0 (text n) = n := by
  unfold text
  by_cases h : n = 0
  · rw [if_pos h, h]; rfl
  · rw [if_neg h, rdd_lsd, Nat.mod_eq_of_lt (nd_lt n)]; omega
theorem text_snoc {v d : Nat} (hv : v ≠ 0) (hd : d < 10) : text (v * 10 + d) = text v ++ [((48 + d : Nat) : Int)] := by
  obtain ⟨h1, h2⟩ := nd_le hv
  have h3 := nd_lt v
  have e : nd (v * 10 + d) = nd v + 1 := by
    refine nd_uniq ?_ (by rw [Nat.pow_succ]; omega)
    have : 10 ^ nd v = 10 ^ (nd v - 1) * 10 := by rw [← Nat.pow_succ]; congr 1; omega
    omega
  unfold text
  rw [if_neg (by omega), if_neg hv, e, lsd_cons, List.reverse_cons, show (v * 10 + d) % 10 = d by omega, show (v * 10 + d) / 10 = v by omega]
theorem text_one {d : Nat} (h0 : d ≠ 0) (hd : d < 10) : text d = [((48 + d : Nat) : Int)] := by
  have e : nd d = 1 := nd_uniq (k := 0) (by simp; omega) (by simpa using hd)
  unfold text
  rw [if_neg h0, e, lsd_cons, Nat.mod_eq_of_lt hd]; rfl
/-- Digits without a nought ahead. -/
theorem rdd_ne : ∀ (l : List Int) (v : Nat), v ≠ 0 → rdd v l ≠ 0
  | [], _, h => h
  | x :: r, v, h => rdd_ne r (v * 10 + (x - 48).toNat) (by omega)
theorem rdd_pos {c : Int} (h0 : 49 ≤ c) (l : List Int) : rdd 0 (c :: l) ≠ 0 := rdd_ne l (0 * 10 + (c - 48).toNat) (by omega)
theorem text_rdd {c : Int} (h0 : 49 ≤ c) (h1 : c ≤ 57) (l : List Int) (hl : ∀ x ∈ l, 48 ≤ x ∧ x ≤ 57) : text (rdd 0 (c :: l)) = c :: l := by
  obtain ⟨r, rfl⟩ : ∃ r, l = List.reverse r := ⟨l.reverse, by simp⟩
  induction r with
  | nil =>
    show text (0 * 10 + (c - 48).toNat) = [c]
    rw [Nat.zero_mul, Nat.zero_add, text_one (by omega) (by omega)]
    congr 1; omega
  | cons x r ih =>
    rw [List.reverse_cons] at hl ⊢
    have hx := hl x (by simp)
    have hr : ∀ y ∈ r.reverse, 48 ≤ y ∧ y ≤ 57 := fun y hy => hl y (List.mem_append.2 (.inl hy))
    rw [← List.cons_append, rdd_snoc, text_snoc (rdd_pos h0 _) (by omega), ih hr]
    have : ((48 + (x - 48).toNat : Nat) : Int) = x := by omega
    rw [this]
end Num
end Go.Eng
end
section
/- The value engine: data that a caller hands is read as values. No conditions. -/
namespace Go.Eng

mutual
/-- What a value of the world says: frozen data. -/
def WV (W : World) : V → Value → Prop
  | .bool b, c => c = .bool b
  | .int k n, c => c = .int k n
  | .ints k l, c => (c = .slice none 0 0 ∧ l = []) ∨ ∃ (x : Addr) (cap : Nat) (m : List Int), c = .slice (some x) l.length cap ∧ l.length ≤ cap ∧ m.length = cap ∧ l = m.take l.length ∧ ∀ i, i < m.length → W.cell? (x.add i) = some (.int k (m.getD i 0))
  | .cells sz n l, c => (c = .slice none 0 0 ∧ n = 0 ∧ l = []) ∨ ∃ (x : Addr) (cap : Nat) (m : List Value), c = .slice (some x) n cap ∧ n ≤ cap ∧ m.length = cap * sz ∧ 0 < sz ∧ (∀ i, i < m.length → W.cell? (x.add i) = m[i]?) ∧ WVs W l (m.take (n * sz))
  | _, _ => False
def WVs (W : World) : List V → List Value → Prop
  | [], cs => cs = []
  | v :: r, cs => ∃ c r', cs = c :: r' ∧ WV W v c ∧ WVs W r r'
end

/-- The block of a slice that has a place. -/
theorem blk_of {W : World} {x : Addr} {n : Nat} (hn : 0 < n) (hc : ∀ i, i < n → ∃ v, W.cell? (x.add i) = some v) : x.spot = none ∧ ∃ cs t fz, W.heap[x.block]? = some (.cells cs t fz) ∧ x.off + n ≤ cs.size := by
  obtain ⟨v, h0⟩ := hc 0 hn
  have hx : x.spot = none := by
    unfold Addr.add at h0
    rw [if_pos rfl] at h0
    unfold World.cell? at h0
    split at h0
    · split at h0
      · simp at h0
      · rename_i hs; simpa using hs
    · simp at h0
  obtain ⟨u, h1⟩ := hc (n - 1) (by omega)
  have h1 := cell_add hx h1
  refine ⟨hx, ?_⟩
  unfold World.cell? at h1
  split at h1
  · rename_i c t fz hq
    refine ⟨_, _, _, hq, ?_⟩
    simp only [Option.isSome_none, Bool.false_eq_true, if_false] at h1
    have := (Array.getElem?_eq_some_iff.1 h1).1
    omega
  · simp at h1

theorem VCs.get' {μ : Pl} : ∀ {l : List CV} {vs : List Value}, VCs μ l vs → l.length = vs.length ∧ ∀ (c : Nat) (a : CV), l[c]? = some a → ∃ v, vs[c]? = some v ∧ VC μ a v
  | _, _, .nil => ⟨rfl, fun c a h => by simp at h⟩
  | _, _, .cons a v l vs h t => ⟨by simp [(VCs.get' t).1], fun c b hb => by
      cases c with
      | zero => simp at hb; subst hb; exact ⟨v, by simp, h⟩
      | succ c => simp at hb; simpa using (VCs.get' t).2 c b hb⟩

/-- A heap of objects that are only read. -/
structure Laid (cf : Cfg) (μ : Pl) (W : World) (h : AH) : Prop where
  rel : Rel cf h.length μ W h
  wf : WfH h

/-- One object more. -/
theorem Laid.add {cf : Cfg} {μ : Pl} {W : World} {h : AH} (L : Laid cf μ W h) {x : AO} {p : Option (Nat × Nat × Nat)}
    (hb : ∀ b o e, p = some (b, o, e) → (∃ cs t fz, W.heap[b]? = some (.cells cs t fz) ∧ o + e ≤ cs.size) ∧ x.cells.length ≤ e ∧ ∀ (c : Nat) (a : CV), x.cells[c]? = some a → ∃ v, W.cell? ⟨b, o + c, none⟩ = some v ∧ VC μ a v)
    (hw : ∀ c ∈ x.cells, c.wf h.length = true) : ∃ μ', Laid cf μ' W (h ++ [x]) ∧ Pl.le μ μ' ∧ μ' h.length = p := by
  have hle : Pl.le μ (fun i => if i = h.length then p else μ i) := fun i q hq => by
    have := L.rel.lt i q hq
    simp only
    rw [if_neg (by omega)]; exact hq
  refine ⟨fun i => if i = h.length then p else μ i, ⟨⟨?_, ?_, ?_, ?_, ?_, ?_⟩, ?_⟩, hle, by simp⟩
  · intro i q hq
    rw [List.length_append]
    by_cases e : i = h.length
    · simp; omega
    · simp only [if_neg e] at hq; have := L.rel.lt i q hq; simp; omega
  · intro i b o e hq
    by_cases e' : i = h.length
    · simp only [if_pos e'] at hq; exact (hb b o e hq).1
    · simp only [if_neg e'] at hq; exact L.rel.blk i b o e hq
  · intro i b o e hq hi
    rw [List.length_append] at hi
    by_cases e' : i = h.length
    · simp at hi; omega
    · simp only [if_neg e'] at hq; have := L.rel.lt i _ hq; omega
  · intro i b o e y hq hy
    by_cases e' : i = h.length
    · subst e'
      simp only [if_true] at hq
      simp at hy; subst hy
      obtain ⟨_, h2, h3⟩ := hb b o e hq
      refine ⟨h2, fun c a ha => ?_⟩
      obtain ⟨v, h4, h5⟩ := h3 c a ha
      exact ⟨v, h4, h5.mono hle⟩
    · simp only [if_neg e'] at hq
      have := L.rel.lt i _ hq
      rw [List.getElem?_append_left this] at hy
      obtain ⟨h2, h3⟩ := L.rel.val i b o e y hq hy
      refine ⟨h2, fun c a ha => ?_⟩
      obtain ⟨v, h4, h5⟩ := h3 c a ha
      exact ⟨v, h4, h5.mono hle⟩
  · intro i j q r hij hi hj hn
    rw [List.length_append] at hn
    by_cases e' : j = h.length
    · simp at hn; omega
    · simp only [if_neg e'] at hj; have := L.rel.lt j _ hj; omega
  · intro g a hg; exact (L.rel.glob g a hg).mono hle
  · exact L.wf.app fun c hc => CV.wf_mono (Nat.le_succ _) c (hw c hc)

section
variable {cf : Cfg} {W : World}
def Lt (h : AH) (j : Nat) : Prop := j < h.length
theorem VR.far {h h' : AH} {v : V} {c : CV} (hr : VR (Lt h) h (fun _ => none) v c) : VR (Lt (h ++ h')) (h ++ h') (fun _ => none) v c :=
  hr.mono0 (fun j hj => by unfold Lt at *; rw [List.length_append]; omega) (fun j hj => List.getElem?_append_left hj)
theorem nil_read {μ : Pl} {h : AH} {v : V} (hv : VR (Lt h) h (fun _ => none) v .nil) (L : Laid cf μ W h) {c : Value} (hc : c = .slice none 0 0) :
    ∃ μ' h' a, Laid cf μ' W (h ++ h') ∧ Pl.le μ μ' ∧ VC μ' a c ∧ VR (Lt (h ++ h')) (h ++ h') (fun _ => none) v a ∧ a.wf (h ++ h').length = true :=
  ⟨μ, [], .nil, by rwa [List.append_nil], .refl _, by subst hc; exact .nil, hv.far, rfl⟩
mutual
theorem read_v : ∀ (v : V) (c : Value), WV W v c → ∀ {μ : Pl} {h : AH}, Laid cf μ W h → ∃ μ' h' a, Laid cf μ' W (h ++ h') ∧ Pl.le μ μ' ∧ VC μ' a c ∧ VR (Lt (h ++ h')) (h ++ h') (fun _ => none) v a ∧ a.wf (h ++ h').length = true
  | .bool b, c, hv, μ, h, L => by
    simp only [WV] at hv; subst hv
    exact ⟨μ, [], .bool b, by rwa [List.append_nil], .refl _, .bool b, by simp only [VR], rfl⟩
  | .int k n, c, hv, μ, h, L => by
    simp only [WV] at hv; subst hv
    exact ⟨μ, [], .int k n, by rwa [List.append_nil], .refl _, .int k n, by simp only [VR], rfl⟩
  | .ints k l, c, hv, μ, h, L => by
    simp only [WV] at hv
    rcases hv with ⟨hc, rfl⟩ | ⟨x, cap, m, rfl, h1, h2, h3, h4⟩
    · exact nil_read (by simp [VR]) L hc
    · by_cases hz : cap = 0
      · subst hz
        obtain ⟨μ', L', hle, hp⟩ := L.add (x := .ints k l) (p := none) (fun b o e hq => by cases hq) (fun c hc => by obtain ⟨n, _, rfl⟩ := List.mem_map.1 hc; rfl)
        have h0 : l.length = 0 := by omega
        refine ⟨μ', [.ints k l], .sl h.length 0 l.length 1, L', hle, ?_, ?_, by simp [CV.wf]⟩
        · rw [h0]; exact .sz _ _ _ _
        · simp only [VR]; exact .inr ⟨h.length, 0, l, rfl, by simp [Lt], by simp, by simp, by simp⟩
      · obtain ⟨hx, cs, t, fz, hb, hsz⟩ := blk_of (W := W) (x := x) (n := cap) (by omega) fun i hi => ⟨_, h4 i (by omega)⟩
        obtain ⟨μ', L', hle, hp⟩ := L.add (x := .ints k l) (p := some (x.block, x.off, cap)) (fun b o e hq => by
          cases hq
          refine ⟨⟨_, _, _, hb, hsz⟩, by simp only [AO.cells, List.length_map]; exact h1, fun c a ha => ?_⟩
          simp only [AO.cells, List.getElem?_map] at ha
          obtain ⟨n, hn, rfl⟩ := Option.map_eq_some_iff.1 ha
          have hlt : c < l.length := (List.getElem?_eq_some_iff.1 hn).1
          have hm : m[c]? = some n := by rw [h3, List.getElem?_take_of_lt hlt] at hn; exact hn
          have := cell_add hx (h4 c (by omega))
          rw [List.getD_eq_getElem?_getD, hm] at this
          exact ⟨_, this, .int _ _⟩) (fun c hc => by obtain ⟨n, _, rfl⟩ := List.mem_map.1 hc; rfl)
        refine ⟨μ', [.ints k l], .sl h.length 0 l.length 1, L', hle, ?_, ?_, by simp [CV.wf]⟩
        · have := VC.sl (μ := μ') h.length 0 l.length 1 x.block x.off cap cap hp h1 (by omega)
          obtain ⟨b, o, s⟩ := x
          simp at hx; subst hx
          simpa using this
        · simp only [VR]; exact .inr ⟨h.length, 0, l, rfl, by simp [Lt], by simp, by simp, by simp⟩
  | .cells sz n l, c, hv, μ, h, L => by
    simp only [WV] at hv
    rcases hv with ⟨hc, rfl, rfl⟩ | ⟨x, cap, m, rfl, h1, h2, h3, h4, h5⟩
    · exact nil_read (by simp [VR]) L hc
    · obtain ⟨μ1, g1, as, L1, hle1, hc1, hr1, hw1⟩ := reads_v l _ h5 L
      have hlen := hc1.get'.1
      have hn : n * sz ≤ cap * sz := Nat.mul_le_mul_right _ h1
      rw [List.length_take, h2, Nat.min_eq_left hn] at hlen
      by_cases hz : cap = 0
      · subst hz
        obtain ⟨μ', L', hle, hp⟩ := L1.add (x := .vals as) (p := none) (fun b o e hq => by cases hq) (fun c hc => (wfs_iff _ _).1 hw1 c hc)
        have h0 : n = 0 := by omega
        subst h0
        rw [List.append_assoc] at L'
        refine ⟨μ', g1 ++ [.vals as], .sl (h ++ g1).length 0 0 sz, L', hle1.trans hle, .sz _ _ _ _, ?_, by simp [CV.wf]⟩
        rw [← List.append_assoc]
        simp only [VR]; refine .inr ⟨(h ++ g1).length, 0, as, rfl, by simp [Lt], by simp, by omega, ?_⟩
        simp only [Nat.zero_mul, List.take_zero]
        simp at hlen; subst hlen
        have := hr1.length; simp at this; subst this
        simp only [VRs]
      · have hpos : 0 < cap * sz := Nat.mul_pos (by omega) h3
        obtain ⟨hx, cs, t, fz, hb, hsz⟩ := blk_of (W := W) (x := x) (n := cap * sz) hpos fun i hi => ⟨m[i]'(by omega), by rw [h4 i (by omega)]; exact List.getElem?_eq_getElem (by omega)⟩
        obtain ⟨μ', L', hle, hp⟩ := L1.add (x := .vals as) (p := some (x.block, x.off, cap * sz)) (fun b o e hq => by
          cases hq
          refine ⟨⟨_, _, _, hb, hsz⟩, by simp only [AO.cells]; omega, fun c a ha => ?_⟩
          simp only [AO.cells] at ha
          have hlt : c < as.length := (List.getElem?_eq_some_iff.1 ha).1
          obtain ⟨v, hv1, hv2⟩ := hc1.get'.2 c a ha
          rw [List.getElem?_take_of_lt (by omega)] at hv1
          have := h4 c (by omega)
          rw [hv1] at this
          exact ⟨v, cell_add hx this, hv2⟩) (fun c hc => (wfs_iff _ _).1 hw1 c hc)
        rw [List.append_assoc] at L'
        refine ⟨μ', g1 ++ [.vals as], .sl (h ++ g1).length 0 n sz, L', hle1.trans hle, ?_, ?_, by simp [CV.wf]⟩
        · have := VC.sl (μ := μ') (h ++ g1).length 0 n sz x.block x.off (cap * sz) cap hp h1 (by omega)
          obtain ⟨b, o, s⟩ := x
          simp at hx; subst hx
          simpa using this
        · rw [← List.append_assoc]
          simp only [VR]; refine .inr ⟨(h ++ g1).length, 0, as, rfl, by simp [Lt], by simp, by omega, ?_⟩
          rw [List.drop_zero, List.take_of_length_le (by omega)]
          exact hr1.mono0 (fun j hj => by unfold Lt at *; simp at *; omega) (fun j hj => List.getElem?_append_left hj)
  | .str _, _, hv, _, _, _ => by simp only [WV] at hv
  | .nil, _, hv, _, _, _ => by simp only [WV] at hv
  | .fptr _, _, hv, _, _, _ => by simp only [WV] at hv
  | .sl _ _ _ _, _, hv, _, _, _ => by simp only [WV] at hv
  | .ptr _ _, _, hv, _, _, _ => by simp only [WV] at hv
  | .fn _ _ _, _, hv, _, _, _ => by simp only [WV] at hv
  | .agg _, _, hv, _, _, _ => by simp only [WV] at hv
  | .tup _, _, hv, _, _, _ => by simp only [WV] at hv
theorem reads_v : ∀ (vs : List V) (cs : List Value), WVs W vs cs → ∀ {μ : Pl} {h : AH}, Laid cf μ W h → ∃ μ' h' as, Laid cf μ' W (h ++ h') ∧ Pl.le μ μ' ∧ VCs μ' as cs ∧ VRs (Lt (h ++ h')) (h ++ h') (fun _ => none) vs as ∧ CV.wfs (h ++ h').length as = true
  | [], cs, hv, μ, h, L => by
    simp only [WVs] at hv; subst hv
    exact ⟨μ, [], [], by rwa [List.append_nil], .refl _, .nil, by simp only [VRs], rfl⟩
  | v :: r, cs, hv, μ, h, L => by
    simp only [WVs] at hv
    obtain ⟨c, r', rfl, h1, h2⟩ := hv
    obtain ⟨μ1, g1, a, L1, hle1, hc1, hr1, hw1⟩ := read_v v c h1 L
    obtain ⟨μ2, g2, as, L2, hle2, hc2, hr2, hw2⟩ := reads_v r r' h2 L1
    rw [List.append_assoc] at L2 hr2 hw2
    refine ⟨μ2, g1 ++ g2, a :: as, L2, hle1.trans hle2, .cons _ _ _ _ (hc1.mono hle2) hc2, ?_, ?_⟩
    · simp only [VRs]
      refine ⟨a, as, rfl, ?_, hr2⟩
      have := hr1.far (h' := g2)
      rwa [List.append_assoc] at this
    · simp only [CV.wfs, Bool.and_eq_true]
      refine ⟨CV.wf_mono ?_ a hw1, hw2⟩
      simp
end

/-- An argument: a struct's cells, or one value. -/
def WA (W : World) : V → Value → Prop
  | .agg vs, c => ∃ cs : List Value, c = .agg cs.toArray ∧ WVs W vs cs
  | v, c => WV W v c
def WAs (W : World) : List V → List Value → Prop
  | [], cs => cs = []
  | v :: r, cs => ∃ c r', cs = c :: r' ∧ WA W v c ∧ WAs W r r'
theorem WAs.nil {W : World} : WAs W [] [] := rfl
theorem WAs.cons {W : World} {v : V} {c : Value} {r : List V} {s : List Value} (h : WA W v c) (t : WAs W r s) : WAs W (v :: r) (c :: s) := ⟨_, _, rfl, h, t⟩
theorem WA.one {v : V} {c : Value} (h : WV W v c) : WA W v c := by
  cases v <;> first | exact h | (simp only [WV] at h)
theorem reada_v (v : V) (c : Value) (hv : WA W v c) {μ : Pl} {h : AH} (L : Laid cf μ W h) : ∃ μ' h' a, Laid cf μ' W (h ++ h') ∧ Pl.le μ μ' ∧ VA μ' a c ∧ VA' (Lt (h ++ h')) (h ++ h') (fun _ => none) v a ∧ a.wf (h ++ h').length = true := by
  have atom : WV W v c → (∃ μ' h' a, Laid cf μ' W (h ++ h') ∧ Pl.le μ μ' ∧ VA μ' a c ∧ VA' (Lt (h ++ h')) (h ++ h') (fun _ => none) v a ∧ a.wf (h ++ h').length = true) := fun hw => by
    obtain ⟨μ1, g1, a, L1, hle1, hc1, hr1, hw1⟩ := read_v v c hw L
    exact ⟨μ1, g1, .c a, L1, hle1, .c _ _ hc1, .of hr1, hw1⟩
  cases v with
  | agg vs =>
    obtain ⟨cs, rfl, hw⟩ := hv
    obtain ⟨μ1, g1, as, L1, hle1, hc1, hr1, hw1⟩ := reads_v vs cs hw L
    exact ⟨μ1, g1, .agg as, L1, hle1, .agg _ _ (by simpa using hc1), ⟨as, rfl, hr1⟩, hw1⟩
  | _ => exact atom hv
theorem readas_v : ∀ (vs : List V) (cs : List Value), WAs W vs cs → ∀ {μ : Pl} {h : AH}, Laid cf μ W h → ∃ μ' h' as, Laid cf μ' W (h ++ h') ∧ Pl.le μ μ' ∧ VAs μ' as cs ∧ VAs' (Lt (h ++ h')) (h ++ h') (fun _ => none) vs as ∧ AV.wfs (h ++ h').length as = true
  | [], cs, hv, μ, h, L => by
    simp only [WAs] at hv; subst hv
    exact ⟨μ, [], [], by rwa [List.append_nil], .refl _, .nil, by simp only [VAs'], rfl⟩
  | v :: r, cs, hv, μ, h, L => by
    simp only [WAs] at hv
    obtain ⟨c, r', rfl, h1, h2⟩ := hv
    obtain ⟨μ1, g1, a, L1, hle1, hc1, hr1, hw1⟩ := reada_v v c h1 L
    obtain ⟨μ2, g2, as, L2, hle2, hc2, hr2, hw2⟩ := readas_v r r' h2 L1
    rw [List.append_assoc] at L2 hr2 hw2
    refine ⟨μ2, g1 ++ g2, a :: as, L2, hle1.trans hle2, .cons _ _ _ _ (hc1.mono hle2) hc2, ?_, ?_⟩
    · simp only [VAs']
      refine ⟨a, as, rfl, ?_, hr2⟩
      have := VA'.mono (ν' := fun _ => none) (Z' := Lt (h ++ g1 ++ g2)) (h' := h ++ g1 ++ g2) (fun i j e => e) (fun j hj => by unfold Lt at *; simp at *; omega) (fun j hj => List.getElem?_append_left hj) hr1
      rwa [List.append_assoc] at this
    · simp only [AV.wfs, Bool.and_eq_true]
      refine ⟨AV.wf_mono ?_ a hw1, hw2⟩
      simp
end

/-- A law: what the value engine computes, it does. -/
theorem law_v {P : Program} {K : Kn} (hm : P.follows .mixedOrders = true) (hst : Static P K.cf) (hcl : CloneOK P K.cf) (hk : Kept K) {W : World} {μ : Pl} {h : AH} (L : Laid K.cf μ W h) (hw : WfG K.cf h.length)
    (hG : ∀ g v, K.glob g = some v → ∃ c, K.cf.glob g = some c ∧ VR (Lt h) h (fun _ => none) v c) {d : Nat} {f : FuncId} {vs : List V} {cs : List Value} (hA : WAs W vs cs) (hrun : vrun P K d f vs [] = some (.bool true, [])) :
    Calls P f cs.toArray W (fun e w' => e = .returned (.bool true) ∧ Go.RowKit.Below W.heap.size W w') := by
  obtain ⟨μ1, g1, as, L1, _, hc1, hr1, hw1⟩ := readas_v vs cs hA L
  have H : HR K (fun _ => False) (Lt (h ++ g1)) (h ++ g1) (h ++ g1).length (fun _ => none) [] := {
    dom := fun i j e => by cases e
    obj := fun i j x e => by cases e
    inj := fun i i' j e => by cases e
    zlt := fun j hj => hj
    gz := fun j hj => hj.elim
    gl := fun g v hv => by obtain ⟨c, h1, h2⟩ := hG g v hv; exact ⟨c, h1, h2.far⟩ }
  obtain ⟨a, h', ν', Z', hr, ha, _⟩ := vrun_ok hk d f vs [] _ _ hrun _ _ _ _ _ as (fun _ _ => rfl) (Nat.le_refl _) H hr1
  obtain ⟨_, hc⟩ := run_sound (n0 := (h ++ g1).length) hm hst hcl d _ f _ _ _ _ (Nat.le_refl _) (Nat.le_refl _) L1.wf hw1 (hw.mono (by simp)) hr μ1 W cs.toArray L1.rel (by simpa using hc1)
  refine hc.mono fun e w' ⟨u, μ', e1, e2, s⟩ => ?_
  obtain ⟨c, rfl, hb⟩ := ha
  simp only [VR] at hb; subst hb
  have hu : u = .bool true := by
    cases e2 with
    | c _ _ h => cases h; rfl
  subst hu
  refine ⟨e1, ⟨s.os, s.tape, s.out, s.size, fun b hb => s.frame b hb fun j q hj hq => ?_⟩⟩
  have := L1.rel.lt j q hq
  omega
/-- The heap where there is nothing. -/
theorem laid0 {cf : Cfg} (hg : ∀ g, cf.glob g = none) (W : World) : Laid cf (fun _ => none) W [] :=
  ⟨⟨fun i p h => (by cases h), fun i b o e h => (by cases h), fun i b o e h => (by cases h), fun i b o e x h => (by cases h), fun i j p q _ h => (by cases h), fun g c h => (by rw [hg] at h; cases h)⟩, fun x hx => (by cases hx)⟩
theorem law_v0 {P : Program} {K : Kn} (hm : P.follows .mixedOrders = true) (hst : Static P K.cf) (hcl : CloneOK P K.cf) (hk : Kept K) (hg : ∀ g, K.cf.glob g = none) (hg' : ∀ g, K.glob g = none) {W : World} {d : Nat} {f : FuncId} {vs : List V} {cs : List Value} (hA : WAs W vs cs) (hrun : vrun P K d f vs [] = some (.bool true, [])) :
    Calls P f cs.toArray W (fun e w' => e = .returned (.bool true) ∧ Go.RowKit.Below W.heap.size W w') :=
  law_v hm hst hcl hk (laid0 hg W) (fun g a h => (by rw [hg] at h; cases h)) (fun g v h => (by rw [hg'] at h; cases h)) hA hrun
end Go.Eng
end
section
/- The value engine: arguments that are read as data, by their types. No conditions. -/
namespace Go.Eng
open Go.WideShapes
theorem add_add (a : Addr) (i j : Nat) : (a.add i).add j = a.add (i + j) := by
  by_cases e1 : i = 0 <;> by_cases e2 : j = 0 <;> simp [Addr.add, Nat.add_assoc, e1, e2]
theorem WVs.append {W : World} : ∀ {l l2 : List V} {c c2 : List Value}, WVs W l c → WVs W l2 c2 → WVs W (l ++ l2) (c ++ c2)
  | [], _, _, _, h, h2 => by simp only [WVs] at h; subst h; exact h2
  | v :: r, _, _, _, h, h2 => by
    simp only [WVs] at h
    obtain ⟨x, r', rfl, h1, h3⟩ := h
    simp only [List.cons_append, WVs]
    exact ⟨x, _, rfl, h1, WVs.append h3 h2⟩
section
variable {P : Program}
/-- What reads as data of type t has n cells, and is told by values of T. -/
def OpV (P : Program) (t : TypeId) (n : Nat) (T : List V → Prop) : Prop :=
  P.cellsOf t = n ∧ ∀ {H : Type} {enc : TypeId × Value → H} {W : World} {held : Bool} {fuel : Nat} {cs : List Value} {y : DataW H × List MemPlace}, DataW.trod enc P W 0 (fun _ => true) held fuel t cs = some y → cs.length = n ∧ ∃ vs, T vs ∧ WVs W vs cs
theorem OpV.imp {t n : Nat} {T T' : List V → Prop} (h : OpV P t n T) (hT : ∀ vs, T vs → T' vs) : OpV P t n T' :=
  ⟨h.1, fun hy => ⟨(h.2 hy).1, (h.2 hy).2.imp fun vs h => ⟨hT vs h.1, h.2⟩⟩⟩
theorem OpV.int {t : TypeId} {k : IntKind} (ht : P.underlying t = some (.int k)) (hc : P.cellsOf t = 1) : OpV P t 1 (fun vs => ∃ x : Int, vs = [.int k x] ∧ (Lit.int k x).wf = true) := by
  refine ⟨hc, fun {H enc W held fuel cs y} h => ?_⟩
  obtain ⟨n, rfl, _, hw⟩ := DataW.trod_int ht h
  exact ⟨rfl, _, ⟨n, rfl, hw⟩, by simp [WVs, WV]⟩
theorem OpV.bool {t : TypeId} (ht : P.underlying t = some .bool) (hc : P.cellsOf t = 1) : OpV P t 1 (fun vs => ∃ x : Bool, vs = [.bool x]) := by
  refine ⟨hc, fun {H enc W held fuel cs y} h => ?_⟩
  obtain ⟨n, rfl, _⟩ := DataW.trod_bool ht h
  exact ⟨rfl, _, ⟨n, rfl⟩, by simp [WVs, WV]⟩
theorem ofCells {W : World} {a : Addr} {k : IntKind} : ∀ {cap : Nat}, (∀ i, i < cap → ∃ n : Int, W.cell? (a.add i) = some (.int k n) ∧ (Lit.int k n).wf = true) → ∃ m : List Int, m.length = cap ∧ (∀ i, i < m.length → W.cell? (a.add i) = some (.int k (m.getD i 0))) ∧ ∀ x ∈ m, (Lit.int k x).wf = true
  | 0, _ => ⟨[], rfl, fun i hi => by simp at hi, fun x hx => (by cases hx)⟩
  | cap + 1, h => by
    obtain ⟨m, h1, h2, h3⟩ := ofCells (cap := cap) fun i hi => h i (by omega)
    obtain ⟨n, hn, hw⟩ := h cap (by omega)
    refine ⟨m ++ [n], by simp [h1], fun i hi => ?_, fun x hx => ?_⟩
    · by_cases e : i < m.length
      · rw [h2 i e, List.getD_eq_getElem?_getD, List.getD_eq_getElem?_getD, List.getElem?_append_left e]
      · simp at hi
        have : i = m.length := by omega
        subst this
        rw [List.getD_eq_getElem?_getD, List.getElem?_append_right (Nat.le_refl _), h1, hn]; simp
    · rcases List.mem_append.1 hx with hx | hx
      · exact h3 x hx
      · simp at hx; subst hx; exact hw
theorem OpV.ints {t e : TypeId} {k : IntKind} (ht : P.underlying t = some (.slice e)) (hc : P.cellsOf t = 1) (he : P.underlying e = some (.int k)) (hce : P.cellsOf e = 1) : OpV P t 1 (fun vs => ∃ l : List Int, vs = [.ints k l] ∧ l.length ≤ 9223372036854775807 ∧ ∀ x ∈ l, (Lit.int k x).wf = true) := by
  refine ⟨hc, fun {H enc W held fuel cs y} h => ?_⟩
  rcases DataW.trod_slice ht h with ⟨rfl, _⟩ | ⟨a, len, cap, elems, rest, n, _, rfl, _, _, hl, hm, hlen, hel, hre, _⟩
  · exact ⟨rfl, _, ⟨[], rfl, by simp, fun x hx => (by cases hx)⟩, by simp [WVs, WV]⟩
  · obtain ⟨hrl, hre⟩ := hre rfl
    have hone : ∀ i o, (W.cells? 0 (a.add (i * P.cellsOf e)) (P.cellsOf e)).bind (DataW.trod enc P W 0 (fun _ => true) held n e) = some o → ∃ z : Int, W.cell? (a.add i) = some (.int k z) ∧ (Lit.int k z).wf = true := fun i o h1 => by
      obtain ⟨c, hc1, hc2⟩ := Option.bind_eq_some_iff.1 h1
      obtain ⟨z, rfl, _, hw⟩ := DataW.trod_int he hc2
      have h2 := (World.cells?_some hc1).2.2 0 (by omega)
      rw [add_add, hce] at h2
      exact ⟨z, by simpa using h2, hw⟩
    obtain ⟨m, h1, h2, h3⟩ := ofCells (W := W) (a := a) (k := k) (cap := cap) fun i hi => by
      by_cases hil : i < len
      · have h1 := hel i hil
        rw [List.getElem?_eq_getElem (by omega)] at h1
        exact hone _ _ h1
      · have h1 := hre (i - len) (by omega)
        rw [List.getElem?_eq_getElem (by omega), show len + (i - len) = i by omega] at h1
        exact hone _ _ h1
    have hm' : cap ≤ 9223372036854775807 := by simp only [maxLen] at hm; omega
    have ht : (m.take len).length = len := by rw [List.length_take]; omega
    refine ⟨rfl, _, ⟨m.take len, rfl, by omega, fun x hx => h3 x (List.mem_of_mem_take hx)⟩, ?_⟩
    simp only [WVs, WV]
    exact ⟨_, _, rfl, .inr ⟨a, cap, m, by rw [ht], by omega, h1, by rw [ht], h2⟩, rfl⟩
theorem flat_snoc' {α : Type} (f : α → List V) (a : α) : ∀ l : List α, flat f (l ++ [a]) = flat f l ++ f a
  | [] => by simp [flat]
  | b :: r => by simp [flat, flat_snoc' f a r]
theorem ofRows {W : World} {a : Addr} {α : Type} {f : α → List V} {Q : α → Prop} {sz : Nat} : ∀ {cap : Nat}, (∀ i, i < cap → ∃ (c : List Value) (x : α), c.length = sz ∧ (∀ j, j < sz → W.cell? (a.add (i * sz + j)) = c[j]?) ∧ Q x ∧ WVs W (f x) c) →
    ∃ m : List Value, m.length = cap * sz ∧ (∀ i, i < m.length → W.cell? (a.add i) = m[i]?) ∧ ∀ n, n ≤ cap → ∃ as : List α, as.length = n ∧ (∀ x ∈ as, Q x) ∧ WVs W (flat f as) (m.take (n * sz))
  | 0, _ => ⟨[], by simp, fun i hi => by simp at hi, fun n hn => ⟨[], (by simp; omega), fun x hx => (by cases hx), (by simp [flat, WVs])⟩⟩
  | cap + 1, h => by
    obtain ⟨m, h1, h2, h3⟩ := ofRows (cap := cap) fun i hi => h i (by omega)
    obtain ⟨c, x, hc, hcell, hQ, hw⟩ := h cap (by omega)
    refine ⟨m ++ c, by rw [List.length_append, h1, hc, Nat.add_mul, Nat.one_mul], fun i hi => ?_, fun n hn => ?_⟩
    · by_cases e : i < m.length
      · rw [h2 i e, List.getElem?_append_left e]
      · rw [List.length_append] at hi
        rw [List.getElem?_append_right (by omega), ← hcell (i - m.length) (by omega), ← h1]
        congr 2; omega
    · by_cases e : n ≤ cap
      · obtain ⟨as, g1, g2, g3⟩ := h3 n e
        refine ⟨as, g1, g2, ?_⟩
        rw [List.take_append_of_le_length (by rw [h1]; exact Nat.mul_le_mul_right _ e)]
        exact g3
      · obtain rfl : n = cap + 1 := by omega
        obtain ⟨as, g1, g2, g3⟩ := h3 cap (Nat.le_refl _)
        rw [List.take_of_length_le (by omega)] at g3
        refine ⟨as ++ [x], by simp [g1], fun y hy => ?_, ?_⟩
        · rcases List.mem_append.1 hy with hy | hy
          · exact g2 y hy
          · simp at hy; subst hy; exact hQ
        · rw [List.take_of_length_le (by rw [List.length_append, h1, hc, Nat.add_mul, Nat.one_mul]; exact Nat.le_refl _), flat_snoc']
          exact g3.append hw
theorem OpV.cells {t e : TypeId} {sz : Nat} {α : Type} {f : α → List V} {Q : α → Prop} (ht : P.underlying t = some (.slice e)) (hc : P.cellsOf t = 1) (he : OpV P e sz (fun vs => ∃ x, vs = f x ∧ Q x)) (hsz : 0 < sz) :
    OpV P t 1 (fun vs => ∃ as : List α, vs = [.cells sz as.length (flat f as)] ∧ as.length ≤ 9223372036854775807 ∧ ∀ x ∈ as, Q x) := by
  refine ⟨hc, fun {H enc W held fuel cs y} h => ?_⟩
  rcases DataW.trod_slice ht h with ⟨rfl, _⟩ | ⟨a, len, cap, elems, rest, n, _, rfl, _, _, hl, hm, hlen, hel, hre, _⟩
  · exact ⟨rfl, _, ⟨[], rfl, by simp, fun x hx => (by cases hx)⟩, by simp [WVs, WV, flat]⟩
  · obtain ⟨hrl, hre⟩ := hre rfl
    have hone : ∀ i o, (W.cells? 0 (a.add (i * P.cellsOf e)) (P.cellsOf e)).bind (DataW.trod enc P W 0 (fun _ => true) held n e) = some o → ∃ (c : List Value) (x : α), c.length = sz ∧ (∀ j, j < sz → W.cell? (a.add (i * sz + j)) = c[j]?) ∧ Q x ∧ WVs W (f x) c := fun i o h1 => by
      obtain ⟨c, hc1, hc2⟩ := Option.bind_eq_some_iff.1 h1
      obtain ⟨hcl, vs, ⟨x, rfl, hQ⟩, hw⟩ := he.2 hc2
      rw [he.1] at hc1
      refine ⟨c, x, hcl, fun j hj => ?_, hQ, hw⟩
      have h2 := (World.cells?_some hc1).2.2 j hj
      rwa [add_add] at h2
    obtain ⟨m, h1, h2, h3⟩ := ofRows (W := W) (a := a) (f := f) (Q := Q) (sz := sz) (cap := cap) fun i hi => by
      by_cases hil : i < len
      · have h1 := hel i hil
        rw [List.getElem?_eq_getElem (by omega)] at h1
        exact hone _ _ h1
      · have h1 := hre (i - len) (by omega)
        rw [List.getElem?_eq_getElem (by omega), show len + (i - len) = i by omega] at h1
        exact hone _ _ h1
    have hm' : cap ≤ 9223372036854775807 := by simp only [maxLen] at hm; omega
    obtain ⟨as, g1, g2, g3⟩ := h3 len (by omega)
    refine ⟨rfl, _, ⟨as, rfl, by omega, g2⟩, ?_⟩
    simp only [WVs, WV]
    exact ⟨_, _, rfl, .inr ⟨a, cap, m, by rw [g1], by omega, h1, hsz, h2, by rw [g1]; exact g3⟩, rfl⟩
/-- The fields of a struct. -/
theorem OpV.struct1 {t n0 : Nat} {f0 : Field} {T0 : List V → Prop} (ht : P.underlying t = some (.struct #[f0])) (hc : P.cellsOf t = n0) (h0 : f0.offset = 0) (o0 : OpV P f0.type n0 T0) : OpV P t n0 T0 := by
  refine ⟨hc, fun {H enc W held fuel cs y} h => ?_⟩
  obtain ⟨xs, n, _, _, hl, hx, hf⟩ := DataW.trod_struct ht h
  rw [hc] at hl
  have h1 := hf 0 f0 rfl
  rw [h0, o0.1, List.drop_zero, List.take_of_length_le (by omega), List.getElem?_eq_getElem (by simp [hx])] at h1
  exact o0.2 h1
theorem OpV.struct2 {t n0 n1 : Nat} {f0 f1 : Field} {T0 T1 : List V → Prop} (ht : P.underlying t = some (.struct #[f0, f1])) (hc : P.cellsOf t = n0 + n1) (h0 : f0.offset = 0) (h1 : f1.offset = n0) (o0 : OpV P f0.type n0 T0) (o1 : OpV P f1.type n1 T1) :
    OpV P t (n0 + n1) (fun vs => ∃ v0 v1, vs = v0 ++ v1 ∧ T0 v0 ∧ T1 v1) := by
  refine ⟨hc, fun {H enc W held fuel cs y} h => ?_⟩
  obtain ⟨xs, n, _, _, hl, hx, hf⟩ := DataW.trod_struct ht h
  rw [hc] at hl
  have g0 := hf 0 f0 rfl
  have g1 := hf 1 f1 rfl
  rw [h0, o0.1, List.drop_zero, List.getElem?_eq_getElem (by simp [hx])] at g0
  rw [h1, o1.1, List.take_of_length_le (by rw [List.length_drop]; omega), List.getElem?_eq_getElem (by simp [hx])] at g1
  obtain ⟨_, v0, t0, w0⟩ := o0.2 g0
  obtain ⟨_, v1, t1, w1⟩ := o1.2 g1
  refine ⟨hl, _, ⟨v0, v1, rfl, t0, t1⟩, ?_⟩
  have := w0.append w1
  rwa [List.take_append_drop] at this
theorem OpV.struct3 {t n0 n1 n2 : Nat} {f0 f1 f2 : Field} {T0 T1 T2 : List V → Prop} (ht : P.underlying t = some (.struct #[f0, f1, f2])) (hc : P.cellsOf t = n0 + (n1 + n2)) (h0 : f0.offset = 0) (h1 : f1.offset = n0) (h2 : f2.offset = n0 + n1) (o0 : OpV P f0.type n0 T0) (o1 : OpV P f1.type n1 T1) (o2 : OpV P f2.type n2 T2) :
    OpV P t (n0 + (n1 + n2)) (fun vs => ∃ v0 v1 v2, vs = v0 ++ (v1 ++ v2) ∧ T0 v0 ∧ T1 v1 ∧ T2 v2) := by
  refine ⟨hc, fun {H enc W held fuel cs y} h => ?_⟩
  obtain ⟨xs, n, _, _, hl, hx, hf⟩ := DataW.trod_struct ht h
  rw [hc] at hl
  have g0 := hf 0 f0 rfl
  have g1 := hf 1 f1 rfl
  have g2 := hf 2 f2 rfl
  rw [h0, o0.1, List.drop_zero, List.getElem?_eq_getElem (by simp [hx])] at g0
  rw [h1, o1.1, List.getElem?_eq_getElem (by simp [hx])] at g1
  rw [h2, o2.1, List.take_of_length_le (by rw [List.length_drop]; omega), List.getElem?_eq_getElem (by simp [hx])] at g2
  obtain ⟨_, v0, t0, w0⟩ := o0.2 g0
  obtain ⟨_, v1, t1, w1⟩ := o1.2 g1
  obtain ⟨_, v2, t2, w2⟩ := o2.2 g2
  refine ⟨hl, _, ⟨v0, v1, v2, rfl, t0, t1, t2⟩, ?_⟩
  have := w0.append (w1.append w2)
  rwa [← List.drop_drop, List.take_append_drop, List.take_append_drop] at this
theorem OpV.struct4 {t n0 n1 n2 n3 : Nat} {f0 f1 f2 f3 : Field} {T0 T1 T2 T3 : List V → Prop} (ht : P.underlying t = some (.struct #[f0, f1, f2, f3])) (hc : P.cellsOf t = n0 + (n1 + (n2 + n3))) (h0 : f0.offset = 0) (h1 : f1.offset = n0) (h2 : f2.offset = n0 + n1) (h3 : f3.offset = n0 + n1 + n2)
    (o0 : OpV P f0.type n0 T0) (o1 : OpV P f1.type n1 T1) (o2 : OpV P f2.type n2 T2) (o3 : OpV P f3.type n3 T3) :
    OpV P t (n0 + (n1 + (n2 + n3))) (fun vs => ∃ v0 v1 v2 v3, vs = v0 ++ (v1 ++ (v2 ++ v3)) ∧ T0 v0 ∧ T1 v1 ∧ T2 v2 ∧ T3 v3) := by
  refine ⟨hc, fun {H enc W held fuel cs y} h => ?_⟩
  obtain ⟨xs, n, _, _, hl, hx, hf⟩ := DataW.trod_struct ht h
  rw [hc] at hl
  have g0 := hf 0 f0 rfl
  have g1 := hf 1 f1 rfl
  have g2 := hf 2 f2 rfl
  have g3 := hf 3 f3 rfl
  rw [h0, o0.1, List.drop_zero, List.getElem?_eq_getElem (by simp [hx])] at g0
  rw [h1, o1.1, List.getElem?_eq_getElem (by simp [hx])] at g1
  rw [h2, o2.1, List.getElem?_eq_getElem (by simp [hx])] at g2
  rw [h3, o3.1, List.take_of_length_le (by rw [List.length_drop]; omega), List.getElem?_eq_getElem (by simp [hx])] at g3
  obtain ⟨_, v0, t0, w0⟩ := o0.2 g0
  obtain ⟨_, v1, t1, w1⟩ := o1.2 g1
  obtain ⟨_, v2, t2, w2⟩ := o2.2 g2
  obtain ⟨_, v3, t3, w3⟩ := o3.2 g3
  refine ⟨hl, _, ⟨v0, v1, v2, v3, rfl, t0, t1, t2, t3⟩, ?_⟩
  have := w0.append (w1.append (w2.append w3))
  rwa [← List.drop_drop, ← List.drop_drop, ← List.drop_drop, List.take_append_drop n2, List.take_append_drop n1, List.take_append_drop n0] at this
section
variable {t n : Nat} {T : List V → Prop} {H : Type} {enc : TypeId × Value → H} {W : World} {held : Bool} {r : Reach} {base : Nat} {v : Value} {y : DataW H} {ps : List MemPlace}
theorem WV.len {W : World} {k : IntKind} {l : List Int} {v : Value} {a : Option Addr} {n c : Nat} (h : WA W (.ints k l) v) (e : v = .slice a n c) : l.length = n := by
  subst e
  have h : WV W (.ints k l) (.slice a n c) := h
  simp only [WV] at h
  rcases h with ⟨e, rfl⟩ | ⟨x, cap, m, e, _⟩
  · cases e; rfl
  · cases e; rfl
/-- A parameter that is a struct. -/
theorem OpV.arg {fs : Array Field} (o : OpV P t n T) (ht : P.underlying t = some (.struct fs)) (hv : Value.okWide P W r base t v) (h : DataW.Trod enc P W 0 (fun _ => true) held t v y ps) : ∃ vs, T vs ∧ WA W (.agg vs) v := by
  obtain ⟨cs, rfl, _⟩ := okWide_struct ht hv
  obtain ⟨fuel, hf⟩ := h
  obtain ⟨_, vs, h1, h2⟩ := o.2 hf
  exact ⟨vs, h1, cs.toList, rfl, h2⟩
theorem OpV.argI {k : IntKind} (o : OpV P t 1 (fun vs => ∃ x : Int, vs = [.int k x] ∧ (Lit.int k x).wf = true)) (ht : P.underlying t = some (.int k)) (hv : Value.okWide P W r base t v) (h : DataW.Trod enc P W 0 (fun _ => true) held t v y ps) : ∃ x : Int, (Lit.int k x).wf = true ∧ WA W (.int k x) v := by
  obtain ⟨n, rfl⟩ := okWide_int ht hv
  obtain ⟨fuel, hf⟩ := h
  obtain ⟨_, vs, ⟨x, rfl, hx⟩, h2⟩ := o.2 hf
  simp [Value.cells, WVs, WV] at h2
  subst h2
  exact ⟨_, hx, by simp [WA, WV]⟩
theorem OpV.argB (ht : P.underlying t = some .bool) (hv : Value.okWide P W r base t v) : ∃ x : Bool, WA W (.bool x) v := by
  obtain ⟨n, rfl⟩ := okWide_bool ht hv
  exact ⟨n, by simp [WA, WV]⟩
theorem OpV.argS {e : TypeId} {k : IntKind} (o : OpV P t 1 (fun vs => ∃ l : List Int, vs = [.ints k l] ∧ l.length ≤ 9223372036854775807 ∧ ∀ x ∈ l, (Lit.int k x).wf = true)) (ht : P.underlying t = some (.slice e)) (hv : Value.okWide P W r base t v) (h : DataW.Trod enc P W 0 (fun _ => true) held t v y ps) :
    ∃ l : List Int, l.length ≤ 9223372036854775807 ∧ (∀ x ∈ l, (Lit.int k x).wf = true) ∧ WA W (.ints k l) v := by
  obtain ⟨A, n, c, rfl⟩ := okWide_slice ht hv
  obtain ⟨fuel, hf⟩ := h
  obtain ⟨_, vs, ⟨l, rfl, h1, h3⟩, h2⟩ := o.2 hf
  simp only [Value.cells, WVs] at h2
  obtain ⟨c', r', e1, h2, rfl⟩ := h2
  have : c' = .slice A n c := by simpa using e1.symm
  subst this
  exact ⟨l, h1, h3, h2⟩
end
end
end Go.Eng
end
section
/- Marks: numbers that go up by one. No conditions. -/
namespace Go.Eng
open Num
def iota (k : Int) : Nat → List Int
  | 0 => []
  | n + 1 => iota k n ++ [k + n]
theorem iota_len (k : Int) : ∀ n, (iota k n).length = n
  | 0 => rfl
  | n + 1 => by rw [iota, List.length_append, iota_len k n]; rfl
theorem gt_iota {k : Int} : ∀ {n i : Nat}, i < n → gt (iota k n) i = k + i
  | n + 1, i, h => by
    rw [iota]
    by_cases h1 : i < n
    · rw [gt_app_lt (by rw [iota_len]; exact h1)]; exact gt_iota h1
    · obtain rfl : i = n := by omega
      have := gt_snoc (iota k i) (k + i)
      rwa [iota_len] at this
end Go.Eng
end
