/- Lists that lie in memory of their own: what is laid, frozen, marked, held, laid anew. No conditions. -/
import Derived.Test.YtkfeofjgdijbeaaVb
set_option linter.unusedVariables false
set_option linter.unusedSimpArgs false
section
/- Lists of numbers that lie in memory of their own: what is laid, frozen, marked, held, laid anew. No conditions. -/
namespace Go.Eng
open Num
def mkO1 (x : DyT) (k : Int) : DyT := ⟨decide (k % 3 = 0), iota (k + 1) x.l.length, k + 1 + x.l.length⟩
def mkE : List DyT → Int → Int
  | [], k => k
  | x :: r, k => mkE r (k + 1 + x.l.length + 1)
def mkds : List DyT → Int → List DyT
  | [], _ => []
  | x :: r, k => mkO1 x k :: mkds r (k + 1 + x.l.length + 1)
theorem mkE_app (k : Int) : ∀ (a b : List DyT), mkE (a ++ b) k = mkE b (mkE a k)
  | [], _ => rfl
  | x :: a, b => by rw [List.cons_append, mkE, mkE, mkE_app]
theorem mkds_app (k : Int) : ∀ (a b : List DyT), mkds (a ++ b) k = mkds a k ++ mkds b (mkE a k)
  | [], _ => rfl
  | x :: a, b => by rw [List.cons_append, mkds, mkds, mkE, mkds_app, List.cons_append]
theorem mkds_len (k : Int) : ∀ a : List DyT, (mkds a k).length = a.length
  | [] => rfl
  | x :: a => by rw [mkds, List.length_cons, mkds_len, List.length_cons]
/-- How much is marked. -/
def wt : List DyT → Nat
  | [] => 0
  | x :: r => x.l.length + 2 + wt r
theorem mkE_wt : ∀ (ds : List DyT) (k : Int), mkE ds k = k + wt ds
  | [], k => by simp [mkE, wt]
  | x :: r, k => by rw [mkE, mkE_wt r, wt]; omega
theorem wt_app : ∀ a b : List DyT, wt (a ++ b) = wt a + wt b
  | [], b => by simp [wt]
  | x :: a, b => by rw [List.cons_append, wt, wt_app, wt]; omega
theorem wt_take {ds : List DyT} (j : Nat) : wt (ds.take j) ≤ wt ds := by
  have := wt_app (ds.take j) (ds.drop j)
  rw [List.take_append_drop] at this; omega
theorem wt_bd {m : Nat} : ∀ {ds : List DyT}, (∀ x ∈ ds, x.l.length ≤ m) → wt ds ≤ ds.length * (m + 2)
  | [], _ => by simp [wt]
  | x :: r, h => by
    have h1 := wt_bd (ds := r) fun y hy => h y (List.mem_cons_of_mem _ hy)
    have h2 := h x List.mem_cons_self
    rw [wt, List.length_cons, Nat.add_mul]; omega
/-! ### cells that refer to lists of their own -/
def cellsP (p : Nat → Nat) : Nat → List DyT → List V
  | _, [] => []
  | k, x :: r => .bool x.neg :: .sl (p k) 0 x.l.length 1 :: .int .i64 x.e :: cellsP p (k + 1) r
theorem cellsP_len (p : Nat → Nat) : ∀ (ds : List DyT) (k : Nat), (cellsP p k ds).length = ds.length * 3
  | [], _ => rfl
  | x :: r, k => by rw [cellsP]; simp only [List.length_cons, cellsP_len p r (k + 1)]; omega
theorem cellsP_app (p : Nat → Nat) : ∀ (a b : List DyT) (k : Nat), cellsP p k (a ++ b) = cellsP p k a ++ cellsP p (k + a.length) b
  | [], _, _ => rfl
  | x :: a, b, k => by
    rw [List.cons_append, cellsP, cellsP, cellsP_app p a b, List.length_cons, show k + 1 + a.length = k + (a.length + 1) by omega]; rfl
structure HM (lo hi : Nat) (h : VH) (i : Nat) (p : Nat → Nat) (ds : List DyT) : Prop where
  c : h[i]? = some (.vals true (cellsP p 0 ds))
  e : ∀ j x, ds[j]? = some x → h[p j]? = some (.ints true .i64 x.l)
  inj : ∀ j k, j < ds.length → k < ds.length → p j = p k → j = k
  li : lo ≤ i ∧ i < hi
  lp : ∀ j, j < ds.length → lo ≤ p j ∧ p j < hi
theorem frz_cells {h : VH} {p : Nat → Nat} {n : Nat} : ∀ (ds : List DyT) (k : Nat), (∀ j x, ds[j]? = some x → h[p (k + j)]? = some (.ints true .i64 x.l)) → omap (vfrz h (n + 1)) (cellsP p k ds) = some (flat DyT.v ds)
  | [], _, _ => rfl
  | x :: r, k, hh => by
    have h0 := hh 0 x rfl
    rw [Nat.add_zero] at h0
    have h1 := frz_cells (n := n) r (k + 1) fun j y hy => by rw [show k + 1 + j = k + (j + 1) by omega]; exact hh (j + 1) y hy
    rw [cellsP, r_oC, r_oC, r_oC, h1, r_fb, r_fsl, h0, r_fSi, r_fint]
    rw [if_pos ⟨rfl, by omega⟩]
    simp [consM, flat, DyT.v]
theorem HM.frz {lo hi : Nat} {h : VH} {i : Nat} {p : Nat → Nat} {ds : List DyT} (a : HM lo hi h i p ds) {n sz m : Nat} (hn : n * sz = ds.length * 3) : vfrz h (m + 2) (.sl i 0 n sz) = some (.cells sz n (flat DyT.v ds)) := by
  rw [r_fsl, a.c, r_fSv, hn, if_pos (by rw [cellsP_len]; omega), List.drop_zero, List.take_of_length_le (by rw [cellsP_len]; exact Nat.le_refl _), frz_cells ds 0 (by simpa using a.e)]; rfl
theorem HM.frame {lo hi : Nat} {h h' : VH} {i : Nat} {p : Nat → Nat} {ds : List DyT} (a : HM lo hi h i p ds) (hf : ∀ q, lo ≤ q → q < hi → h'[q]? = h[q]?) : HM lo hi h' i p ds :=
  ⟨by rw [hf _ a.li.1 a.li.2]; exact a.c, fun j x hx => by
    have hj := (List.getElem?_eq_some_iff.1 hx).1
    rw [hf _ (a.lp j hj).1 (a.lp j hj).2]; exact a.e j x hx, a.inj, a.li, a.lp⟩
theorem HM.ne {lo hi : Nat} {h : VH} {i : Nat} {p : Nat → Nat} {ds : List DyT} (a : HM lo hi h i p ds) {j : Nat} (hj : j < ds.length) : p j ≠ i := fun e => by
  have h1 := a.e j ds[j] (List.getElem?_eq_getElem hj)
  rw [e, a.c] at h1; cases h1
/-- An element is written over: its sign, its digits, its power. -/
def stp (h : VH) (i : Nat) (p : Nat → Nat) (A : List DyT) (x y : DyT) (R : List DyT) : VH := ((h.set i (.vals true (cellsP p 0 A ++ .bool y.neg :: .sl (p A.length) 0 x.l.length 1 :: .int .i64 x.e :: cellsP p (A.length + 1) R))).set (p A.length) (.ints true .i64 y.l)).set i (.vals true (cellsP p 0 (A ++ y :: R)))
theorem HM.step {lo hi : Nat} {h : VH} {i : Nat} {p : Nat → Nat} {A R : List DyT} {x y : DyT} (a : HM lo hi h i p (A ++ x :: R)) (hy : y.l.length = x.l.length) : HM lo hi (stp h i p A x y R) i p (A ++ y :: R) := by
  have hlen : (A ++ y :: R).length = (A ++ x :: R).length := by simp
  have hil := (List.getElem?_eq_some_iff.1 a.c).1
  refine ⟨?_, fun j z hz => ?_, fun j k hj hk => a.inj j k (by rwa [hlen] at hj) (by rwa [hlen] at hk), a.li, fun j hj => a.lp j (by rwa [hlen] at hj)⟩
  · unfold stp; simp [hil]
  · have hj := (List.getElem?_eq_some_iff.1 hz).1
    rw [hlen] at hj
    have hne := a.ne hj
    unfold stp
    rw [List.getElem?_set_ne (Ne.symm hne)]
    have hA : A.length < (A ++ x :: R).length := by simp
    by_cases hjA : j = A.length
    · subst hjA
      have hpl := (List.getElem?_eq_some_iff.1 (a.e A.length x (by simp))).1
      rw [List.getElem?_append_right (Nat.le_refl _), Nat.sub_self] at hz
      simp only [List.getElem?_cons_zero, Option.some.injEq] at hz
      subst hz
      simp [hpl]
    · rw [List.getElem?_set_ne (fun e => hjA (a.inj _ _ hj hA e.symm)), List.getElem?_set_ne (Ne.symm hne)]
      refine a.e j z ?_
      rcases Nat.lt_or_ge j A.length with h1 | h1
      · rw [List.getElem?_append_left h1] at hz ⊢; exact hz
      · rw [List.getElem?_append_right h1] at hz ⊢
        obtain ⟨m, hm⟩ : ∃ m, j - A.length = m + 1 := ⟨j - A.length - 1, by omega⟩
        rw [hm] at hz ⊢
        exact hz
theorem stp_len (h : VH) (i : Nat) (p : Nat → Nat) (A : List DyT) (x y : DyT) (R : List DyT) : (stp h i p A x y R).length = h.length := by unfold stp; simp
theorem HM.stp_frame {lo hi : Nat} {h : VH} {i : Nat} {p : Nat → Nat} {A R : List DyT} {x y : DyT} (a : HM lo hi h i p (A ++ x :: R)) {q : Nat} (hq : q < lo ∨ hi ≤ q) : (stp h i p A x y R)[q]? = h[q]? := by
  have h1 := a.li
  have h2 := a.lp A.length (by simp)
  unfold stp
  rw [List.getElem?_set_ne (by omega), List.getElem?_set_ne (by omega), List.getElem?_set_ne (by omega)]
/-! ### laid whole -/
def mblk (b : Nat) (ds : List DyT) : VH := .vals true (cellsP (fun j => b + 1 + j) 0 ds) :: ds.map fun x => .ints true .i64 x.l
theorem mblk_len (b : Nat) (ds : List DyT) : (mblk b ds).length = ds.length + 1 := by unfold mblk; simp
/-! ### what can be laid anew -/
def plV : V → Bool
  | .fn _ _ _ => false
  | .agg _ => false
  | .tup _ => false
  | .np => false
  | .em => false
  | _ => true
def plO : VO → Bool
  | .ints _ _ _ => true
  | .vals _ l => l.all plV
  | .dead => true
def shV (n : Nat) : V → V
  | .sl i off len sz => .sl (n + i) off len sz
  | .ptr i off => .ptr (n + i) off
  | v => v
def shO (n : Nat) : VO → VO
  | .vals w l => .vals w (l.map (shV n))
  | o => o
theorem pl_ren {n m : Nat} : ∀ {v : V}, plV v = true → vren (fun i => some (n + i)) m v = some (shV n v) := fun {v} h => by
  cases v <;> first | (simp [plV] at h; done) | simp [shV, r_vb, r_vi, r_vn, r_vs, r_vis, r_vce, r_vfp, r_vsl, r_nS, r_vptr, r_nP]
theorem pl_omap {n m : Nat} : ∀ {l : List V}, l.all plV = true → omap (vren (fun i => some (n + i)) m) l = some (l.map (shV n))
  | [], _ => rfl
  | v :: r, h => by
    rw [List.all_cons, Bool.and_eq_true] at h
    rw [r_oC, pl_ren h.1, pl_omap h.2]; rfl
theorem pl_shO {n : Nat} : ∀ {o : VO}, plO o = true → vshO n o = some (shO n o) := fun {o} h => by
  cases o with
  | ints w k l => rfl
  | dead => rfl
  | vals w l =>
    unfold plO at h
    rw [r_sh, r_Ov, pl_omap h]; rfl
theorem pl_sh {n : Nat} : ∀ {o : VH}, o.all plO = true → omap (vshO n) o = some (o.map (shO n))
  | [], _ => rfl
  | v :: r, h => by
    rw [List.all_cons, Bool.and_eq_true] at h
    rw [r_oC, pl_shO h.1, pl_sh h.2]; rfl
theorem pl_cellsP (p : Nat → Nat) : ∀ (ds : List DyT) (k : Nat), (cellsP p k ds).all plV = true
  | [], _ => rfl
  | x :: r, k => by rw [cellsP]; simp [plV, pl_cellsP p r (k + 1)]
theorem nf_cellsP (p : Nat → Nat) (n : Nat) : ∀ (ds : List DyT) (k : Nat), (cellsP p k ds).all (V.noFz n) = true
  | [], _ => rfl
  | x :: r, k => by rw [cellsP]; simp [r_z_b, r_z_l, r_z_i, nf_cellsP p n r (k + 1)]
theorem sh_cellsP (p : Nat → Nat) (n : Nat) : ∀ (ds : List DyT) (k : Nat), (cellsP p k ds).map (shV n) = cellsP (fun j => n + p j) k ds
  | [], _ => rfl
  | x :: r, k => by rw [cellsP, cellsP]; simp [shV, sh_cellsP p n r (k + 1)]
theorem pl_mblk (b : Nat) (ds : List DyT) : (mblk b ds).all plO = true := by
  unfold mblk
  rw [List.all_cons, Bool.and_eq_true]
  refine ⟨by simp [plO, pl_cellsP], List.all_eq_true.2 fun x hx => ?_⟩
  obtain ⟨y, _, rfl⟩ := List.mem_map.1 hx
  rfl
theorem nf_mblk (b : Nat) (ds : List DyT) : (mblk b ds).all VO.noFz = true := by
  unfold mblk
  rw [List.all_cons, Bool.and_eq_true]
  refine ⟨by rw [r_zoV, nf_cellsP]; rfl, List.all_eq_true.2 fun x hx => ?_⟩
  obtain ⟨y, _, rfl⟩ := List.mem_map.1 hx
  rfl
theorem sh_mblk (n b : Nat) (ds : List DyT) : (mblk b ds).map (shO n) = mblk (n + b) ds := by
  unfold mblk
  rw [List.map_cons, List.map_map]
  congr 1
  · simp only [shO, sh_cellsP]; congr 2; funext j; omega
/-- What an own result is. -/
structure Own (o : VH) (i : Nat) (p : Nat → Nat) (ds : List DyT) : Prop where
  hm : HM 0 o.length o i p ds
  pl : o.all plO = true
theorem own_mblk (ds : List DyT) : Own (mblk 0 ds) 0 (fun j => 0 + 1 + j) ds := by
  refine ⟨⟨rfl, fun j x hx => ?_, fun j k _ _ h => by omega, ⟨Nat.le_refl _, by rw [mblk_len]; omega⟩, fun j hj => ⟨Nat.zero_le _, by rw [mblk_len]; omega⟩⟩, pl_mblk 0 ds⟩
  unfold mblk
  rw [show 0 + 1 + j = j + 1 by omega, List.getElem?_cons_succ, List.getElem?_map, hx]; rfl
theorem Own.land {o : VH} {i : Nat} {p : Nat → Nat} {ds : List DyT} (a : Own o i p ds) (G : VH) : HM G.length (G ++ o.map (shO G.length)).length (G ++ o.map (shO G.length)) (G.length + i) (fun j => G.length + p j) ds := by
  have hr : ∀ q, (G ++ o.map (shO G.length))[G.length + q]? = o[q]?.map (shO G.length) := fun q => by
    rw [List.getElem?_append_right (by omega), show G.length + q - G.length = q by omega, List.getElem?_map]
  refine ⟨?_, fun j x hx => ?_, fun j k hj hk h => a.hm.inj j k hj hk (by omega), ⟨by omega, ?_⟩, fun j hj => ⟨by omega, ?_⟩⟩
  · rw [hr, a.hm.c]; simp [shO, sh_cellsP]
  · rw [hr, a.hm.e j x hx]; rfl
  · have := a.hm.li.2; simp; omega
  · have := (a.hm.lp j hj).2; simp; omega
/-! ### what is read is made read-only -/
theorem roM_lenH : ∀ (l : List Nat) (h : VH), (roM h l).length = h.length
  | [], _ => rfl
  | i :: r, h => by rw [r_roC, roM_lenH r]; simp
theorem roM_ne {q : Nat} : ∀ (l : List Nat) (h : VH), q ∉ l → (roM h l)[q]? = h[q]?
  | [], _, _ => rfl
  | i :: r, h, hq => by
    rw [r_roC, roM_ne r _ (fun m => hq (List.mem_cons_of_mem _ m)), List.getElem?_modify]
    have : ¬ i = q := fun e => hq (e ▸ List.mem_cons_self)
    simp [this]
theorem trc_cells {h : VH} {p : Nat → Nat} {n : Nat} {m : Nat} : ∀ (ds : List DyT) (k : Nat), (∀ j x, ds[j]? = some x → h[p (k + j)]? = some (.ints true .i64 x.l)) → m ∈ (cellsP p k ds).flatMap (vtrc h (n + 1)) → ∃ j, j < ds.length ∧ m = p (k + j)
  | [], _, _, hm => by simp [cellsP] at hm
  | x :: r, k, hh, hm => by
    have h0 := hh 0 x rfl
    rw [Nat.add_zero] at h0
    rw [cellsP] at hm
    simp only [List.flatMap_cons, r_trb, r_tri, r_trl, h0, r_trOi, List.nil_append, List.mem_append, List.mem_cons, List.not_mem_nil, or_false] at hm
    rcases hm with hm | hm
    · exact ⟨0, by simp, by simpa using hm⟩
    · obtain ⟨j, hj, e⟩ := trc_cells (n := n) r (k + 1) (fun j y hy => by rw [show k + 1 + j = k + (j + 1) by omega]; exact hh (j + 1) y hy) hm
      exact ⟨j + 1, by simp; omega, by rw [e]; congr 1; omega⟩
theorem HM.trc {lo hi : Nat} {h : VH} {i : Nat} {p : Nat → Nat} {ds : List DyT} (a : HM lo hi h i p ds) {n sz m q : Nat} (hn : n * sz = ds.length * 3) (hq : q ∈ vtrc h (m + 2) (.sl i 0 n sz)) : lo ≤ q ∧ q < hi := by
  rw [r_trl, a.c, r_trOv, hn, List.drop_zero, List.take_of_length_le (by rw [cellsP_len]; exact Nat.le_refl _)] at hq
  rcases List.mem_cons.1 hq with e | hq
  · rw [e]; exact a.li
  · obtain ⟨j, hj, e⟩ := trc_cells ds 0 (by simpa using a.e) hq
    rw [e, Nat.zero_add]; exact a.lp j hj
/-! ### what is reached is laid anew, in one order -/
theorem addNs_new : ∀ (r l : List Nat), (∀ x ∈ r, x ∉ l) → r.Nodup → addNs l r = l ++ r
  | [], l, _, _ => by simp [addNs]
  | x :: r, l, h, hn => by
    rw [List.nodup_cons] at hn
    have hx := h x List.mem_cons_self
    have e : addN l x = l ++ [x] := by unfold addN; rw [if_neg hx]
    rw [addNs, e, addNs_new r (l ++ [x]) (fun y hy => by
      rw [List.mem_append, List.mem_singleton]
      rintro (h1 | h1)
      · exact h y (List.mem_cons_of_mem _ hy) h1
      · subst h1; exact hn.1 hy) hn.2, List.append_assoc]; rfl
theorem addNs_old : ∀ (r l : List Nat), (∀ x ∈ r, x ∈ l) → addNs l r = l
  | [], _, _ => rfl
  | x :: r, l, h => by
    have e : addN l x = l := by unfold addN; rw [if_pos (h x List.mem_cons_self)]
    rw [addNs, e, addNs_old r l fun y hy => h y (List.mem_cons_of_mem _ hy)]
theorem addNs_app (a b l : List Nat) : addNs l (a ++ b) = addNs (addNs l a) b := by
  induction a generalizing l with
  | nil => rfl
  | cons x a ih => rw [List.cons_append, addNs, addNs, ih]
theorem refs_cells (p : Nat → Nat) (n : Nat) : ∀ (ds : List DyT) (k : Nat), (cellsP p k ds).flatMap (vrefs n) = (List.range ds.length).map fun j => p (k + j)
  | [], _ => rfl
  | x :: r, k => by
    rw [cellsP, List.length_cons, List.range_succ_eq_map]
    simp only [List.flatMap_cons, r_rb, r_rsl, r_ri, List.nil_append, List.singleton_append, List.map_cons, List.map_map, refs_cells p n r (k + 1)]
    congr 1
    refine List.map_congr_left fun j _ => ?_
    simp only [Function.comp]; congr 1; omega
theorem idxN_app {l m : List Nat} {i : Nat} (h : i ∉ l) : idxN (l ++ m) i = (idxN m i).map (· + l.length) := by
  induction l with
  | nil => simp
  | cons k r ih =>
    rw [List.mem_cons, not_or] at h
    rw [List.cons_append, idxN, if_neg (Ne.symm h.1), ih h.2]
    cases idxN m i with
    | none => rfl
    | some q => simp; omega
theorem idxN_inj {p : Nat → Nat} {n : Nat} (hp : ∀ j k, j < n → k < n → p j = p k → j = k) : ∀ (m a : Nat), a + m = n → ∀ j, a ≤ j → j < n → idxN ((List.range' a m).map p) (p j) = some (j - a)
  | 0, a, h, j, h1, h2 => by omega
  | m + 1, a, h, j, h1, h2 => by
    rw [List.range'_succ, List.map_cons, idxN]
    by_cases e : p a = p j
    · rw [if_pos e]
      have := hp a j (by omega) h2 e
      subst this; simp
    · have hne : a ≠ j := fun h => e (by rw [h])
      rw [if_neg e, idxN_inj hp m (a + 1) (by omega) j (by omega) h2]
      show some (j - (a + 1) + 1) = some (j - a)
      congr 1; omega
/-- The places that a list's cells refer to, behind what comes ahead. -/
structure GcO (ro : List Nat) (i : Nat) (p : Nat → Nat) (n : Nat) : Prop where
  nd : ro.Nodup
  ri : i ∉ ro
  rp : ∀ j, j < n → p j ∉ ro
  ip : ∀ j, j < n → p j ≠ i
  inj : ∀ j k, j < n → k < n → p j = p k → j = k
def gcO (ro : List Nat) (i : Nat) (p : Nat → Nat) (n : Nat) : List Nat := ro ++ i :: (List.range n).map p
section
variable {ro : List Nat} {i : Nat} {p : Nat → Nat} {n : Nat}
theorem GcO.P (a : GcO ro i p n) : ((List.range n).map p).Nodup := by
  rw [List.nodup_iff_pairwise_ne, List.pairwise_map]
  refine List.Pairwise.imp_of_mem ?_ (List.nodup_iff_pairwise_ne.1 List.nodup_range)
  intro x y hx hy hne e
  exact hne (a.inj x y (List.mem_range.1 hx) (List.mem_range.1 hy) e)
theorem GcO.nodup (a : GcO ro i p n) : (gcO ro i p n).Nodup := by
  unfold gcO
  rw [List.nodup_append]
  refine ⟨a.nd, List.nodup_cons.2 ⟨fun h => ?_, a.P⟩, fun x hx y hy e => ?_⟩
  · obtain ⟨j, hj, e⟩ := List.mem_map.1 h
    exact a.ip j (List.mem_range.1 hj) e
  · subst e
    rcases List.mem_cons.1 hy with e | h
    · exact a.ri (e ▸ hx)
    · obtain ⟨j, hj, e⟩ := List.mem_map.1 h
      exact a.rp j (List.mem_range.1 hj) (e ▸ hx)
theorem GcO.ix (a : GcO ro i p n) : idxN (gcO ro i p n) i = some ro.length := by
  unfold gcO
  rw [idxN_app a.ri, idxN, if_pos rfl]; simp
theorem GcO.ixp (a : GcO ro i p n) {j : Nat} (hj : j < n) : idxN (gcO ro i p n) (p j) = some (ro.length + 1 + j) := by
  unfold gcO
  rw [idxN_app (a.rp j hj), idxN, if_neg (Ne.symm (a.ip j hj)), List.range_eq_range', idxN_inj a.inj n 0 (by omega) j (by omega) hj]
  simp; omega
/-- The cells, as they are called anew. -/
theorem GcO.ren (a : GcO ro i p n) {m : Nat} : ∀ (ds : List DyT) (k : Nat), k + ds.length ≤ n → omap (vren (idxN (gcO ro i p n)) m) (cellsP p k ds) = some (cellsP (fun j => ro.length + 1 + j) k ds)
  | [], _, _ => rfl
  | x :: r, k, h => by
    rw [List.length_cons] at h
    rw [cellsP, cellsP, r_oC, r_oC, r_oC, r_vb, r_vsl, a.ixp (by omega), r_nS, r_vi, GcO.ren a r (k + 1) (by omega)]; rfl
end
theorem omap_app {α β : Type} (f : α → Option β) {a b : List α} {x y : List β} (h1 : omap f a = some x) (h2 : omap f b = some y) : omap f (a ++ b) = some (x ++ y) := by
  induction a generalizing x with
  | nil => simp [omap] at h1; subst h1; simpa using h2
  | cons c a ih =>
    rw [r_oC] at h1
    rw [List.cons_append, r_oC]
    cases hc : f c with
    | none => rw [hc] at h1; simp [consM] at h1
    | some v =>
      cases ha : omap f a with
      | none => rw [hc, ha] at h1; simp [consM] at h1
      | some w =>
        rw [hc, ha, r_cM] at h1
        rw [ih ha, r_cM]
        cases h1; rfl
/-- What is reached from roots of which the last refer to a list. -/
theorem HM.reach {lo hi : Nat} {h : VH} {i : Nat} {p : Nat → Nat} {ds : List DyT} (a : HM lo hi h i p ds) {ro : List Nat} (g : GcO ro i p ds.length) (hr : ∀ x, x ∈ ro.flatMap (fun i => orefs h[i]?) → x = i) (hi' : i ∈ ro.flatMap (fun i => orefs h[i]?)) : reach h 3 ro = gcO ro i p ds.length := by
  have hP : ∀ x ∈ (List.range ds.length).map p, orefs h[x]? = [] := fun x hx => by
    obtain ⟨j, hj, e⟩ := List.mem_map.1 hx
    rw [← e, a.e j _ (List.getElem?_eq_getElem (List.mem_range.1 hj))]; rfl
  have h1 : addNs ro (ro.flatMap fun i => orefs h[i]?) = ro ++ [i] := by
    generalize ro.flatMap (fun i => orefs h[i]?) = L at *
    have gen : ∀ (L l : List Nat), (∀ x ∈ L, x = i) → i ∈ l → addNs l L = l := fun L l h hl => addNs_old L l fun x hx => (h x hx) ▸ hl
    cases L with
    | nil => cases hi'
    | cons x L =>
      have hx := hr x List.mem_cons_self
      subst hx
      have e : addN ro x = ro ++ [x] := by unfold addN; rw [if_neg g.ri]
      rw [addNs, e, gen L _ (fun y hy => hr y (List.mem_cons_of_mem _ hy)) (by simp)]
  have ei : orefs h[i]? = (List.range ds.length).map p := by
    rw [a.c, r_orv, refs_cells]; simp
  have h2 : addNs (ro ++ [i]) ((ro ++ [i]).flatMap fun i => orefs h[i]?) = gcO ro i p ds.length := by
    rw [List.flatMap_append, addNs_app, addNs_old _ (ro ++ [i]) (fun x hx => by rw [hr x hx]; simp)]
    simp only [List.flatMap_cons, List.flatMap_nil, List.append_nil, ei]
    rw [addNs_new _ _ (fun x hx => ?_) g.P, List.append_assoc]; rfl
    obtain ⟨j, hj, e⟩ := List.mem_map.1 hx
    rw [List.mem_append, List.mem_singleton, ← e]
    rintro (h | h)
    · exact g.rp j (List.mem_range.1 hj) h
    · exact g.ip j (List.mem_range.1 hj) h
  have h3 : addNs (gcO ro i p ds.length) ((gcO ro i p ds.length).flatMap fun i => orefs h[i]?) = gcO ro i p ds.length := by
    refine addNs_old _ _ fun x hx => ?_
    obtain ⟨y, hy, hxy⟩ := List.mem_flatMap.1 hx
    unfold gcO at hy ⊢
    rcases List.mem_append.1 hy with hy | hy
    · rw [hr x (List.mem_flatMap.2 ⟨y, hy, hxy⟩)]; simp
    · rcases List.mem_cons.1 hy with e | hy
      · rw [e, ei] at hxy; simp only [List.mem_append, List.mem_cons]; exact .inr (.inr hxy)
      · rw [hP y hy] at hxy; cases hxy
  rw [_root_.Go.Eng.reach, h1, _root_.Go.Eng.reach, h2, _root_.Go.Eng.reach, h3]; rfl
/-- The list and its elements, laid anew. -/
theorem HM.pick {lo hi : Nat} {h : VH} {i : Nat} {p : Nat → Nat} {ds : List DyT} (a : HM lo hi h i p ds) {ro : List Nat} (g : GcO ro i p ds.length) : omap (vpickO (idxN (gcO ro i p ds.length)) h) (i :: (List.range ds.length).map p) = some (mblk ro.length ds) := by
  rw [r_oC, r_pk, a.c, r_pO, r_Ov, g.ren ds 0 (by omega), r_rV]
  have : ∀ (m k : Nat), k + m = ds.length → omap (vpickO (idxN (gcO ro i p ds.length)) h) ((List.range' k m).map p) = some ((ds.drop k).map fun x => VO.ints true .i64 x.l) := fun m => by
    induction m with
    | zero => intro k hk; rw [List.drop_of_length_le (by omega)]; rfl
    | succ m ih =>
      intro k hk
      have hget : ds[k]? = some ds[k] := List.getElem?_eq_getElem (by omega)
      rw [List.range'_succ, List.map_cons, r_oC, r_pk, a.e k _ hget, r_pO, r_Oi, ih (k + 1) (by omega), List.drop_eq_getElem_cons (by omega : k < ds.length)]; rfl
  rw [List.range_eq_range', this ds.length 0 (by omega), r_cM]
  rfl
theorem gc_ne {h : VH} {i : Nat} {o : VO} (hc : h[i]? = some o) : ∃ a r, h = a :: r := by
  cases h with
  | nil => cases hc
  | cons a r => exact ⟨a, r, rfl⟩
/-- A function's end: its result is a struct that holds the list. -/
theorem gcL_own {lo hi : Nat} {h : VH} {i : Nat} {p : Nat → Nat} {ds : List DyT} (a : HM lo hi h i p ds) {N : Int} {m sz : Nat} {b : Bool} : vgcL [.agg [.int .i64 N, .sl i 0 m sz], .bool b] h = some ([.agg [.int .i64 N, .sl 0 0 m sz], .bool b], mblk 0 ds) := by
  obtain ⟨o, r, rfl⟩ := gc_ne a.c
  have g : GcO [] i p ds.length := ⟨List.nodup_nil, by simp, fun _ _ => by simp, fun j hj => a.ne hj, a.inj⟩
  have hP : ∀ x ∈ (List.range ds.length).map p, orefs (o :: r)[x]? = [] := fun x hx => by
    obtain ⟨j, hj, e⟩ := List.mem_map.1 hx
    rw [← e, a.e j _ (List.getElem?_eq_getElem (List.mem_range.1 hj))]; rfl
  have ei : orefs (o :: r)[i]? = (List.range ds.length).map p := by
    rw [a.c, r_orv, refs_cells]; simp
  have hr : reach (o :: r) 3 (addNs [] ([V.agg [.int .i64 N, .sl i 0 m sz], .bool b].flatMap (vrefs 4))) = gcO [] i p ds.length := by
    have e0 : addNs [] ([V.agg [.int .i64 N, .sl i 0 m sz], .bool b].flatMap (vrefs 4)) = [i] := by
      simp [r_ra4, r_ri, r_rsl, r_rb, addNs, addN]
    have h1 : addNs [i] ([i].flatMap fun i => orefs (o :: r)[i]?) = gcO [] i p ds.length := by
      simp only [List.flatMap_cons, List.flatMap_nil, List.append_nil, ei]
      rw [addNs_new _ _ (fun x hx => ?_) g.P]; rfl
      obtain ⟨j, hj, e⟩ := List.mem_map.1 hx
      rw [List.mem_singleton, ← e]; exact a.ne (List.mem_range.1 hj)
    have h2 : addNs (gcO [] i p ds.length) ((gcO [] i p ds.length).flatMap fun i => orefs (o :: r)[i]?) = gcO [] i p ds.length := by
      refine addNs_old _ _ fun x hx => ?_
      obtain ⟨y, hy, hxy⟩ := List.mem_flatMap.1 hx
      unfold gcO at hy ⊢
      rw [List.nil_append] at hy ⊢
      rcases List.mem_cons.1 hy with e | hy
      · rw [e, ei] at hxy; exact List.mem_cons_of_mem _ hxy
      · rw [hP y hy] at hxy; cases hxy
    rw [e0, _root_.Go.Eng.reach, h1, _root_.Go.Eng.reach, h2, _root_.Go.Eng.reach, h2]; rfl
  rw [r_gLc, hr, r_gLB, (ndB_iff _).2 g.nodup, r_gIt]
  have hv : omap (vren (idxN (gcO [] i p ds.length)) 4) [.agg [.int .i64 N, .sl i 0 m sz], .bool b] = some [.agg [.int .i64 N, .sl 0 0 m sz], .bool b] := by
    have := g.ix
    rw [List.length_nil] at this
    rw [r_oC, r_va4, r_oC, r_oC, r_vi, r_vsl, this, r_nS]; rfl
  have hp := a.pick g
  have eg : gcO [] i p ds.length = i :: (List.range ds.length).map p := rfl
  rw [hv]
  conv => lhs; arg 2; arg 2; rw [eg]
  rw [hp, r_two]; rfl
/-- A region's end, where the result's cell holds the list. -/
theorem gcE_own {lo hi : Nat} {h : VH} {i : Nat} {p : Nat → Nat} {ds : List DyT} (a : HM lo hi h i p ds) {N : Int} {m sz c s t : Nat} {b : Bool} (hc : h[c]? = some (.vals true [.int .i64 N, .sl i 0 m sz])) : vgc [(s, some (.ptr c 0)), (t, some (.bool b))] h = some ([(s, some (.ptr 0 0)), (t, some (.bool b))], .vals true [.int .i64 N, .sl 1 0 m sz] :: mblk 1 ds) := by
  obtain ⟨o, r, rfl⟩ := gc_ne a.c
  have hci : c ≠ i := fun e => by
    rw [e, a.c] at hc
    have := congrArg List.length (VO.vals.inj (Option.some.inj hc)).2
    rw [cellsP_len] at this
    simp at this; omega
  have hcp : ∀ j, j < ds.length → p j ≠ c := fun j hj e => by
    have := a.e j _ (List.getElem?_eq_getElem hj)
    rw [e, hc] at this; cases this
  have g : GcO [c] i p ds.length := ⟨by simp, by simpa using Ne.symm hci, fun j hj => by simpa using hcp j hj, fun j hj => a.ne hj, a.inj⟩
  have hor : ([c].flatMap fun i => orefs (o :: r)[i]?) = [i] := by
    simp [hc, r_orv, r_ri, r_rsl]
  have hr := a.reach g (fun x hx => by rw [hor] at hx; simpa using hx) (by rw [hor]; simp)
  have e0 : addNs [] (erefs [(s, some (.ptr c 0)), (t, some (.bool b))]) = [c] := by
    simp [r_ers, r_rptr, r_rb, r_ern, addNs, addN]
  rw [r_gcc, e0, hr, r_gcB, (ndB_iff _).2 g.nodup, r_gIt]
  have hx0 : idxN (gcO [c] i p ds.length) c = some 0 := by unfold gcO; simp [idxN]
  have hx1 : idxN (gcO [c] i p ds.length) i = some 1 := g.ix
  have hv : vrenE (idxN (gcO [c] i p ds.length)) [(s, some (.ptr c 0)), (t, some (.bool b))] = some [(s, some (.ptr 0 0)), (t, some (.bool b))] := by
    rw [r_Ec, r_vptr, hx0, r_nP, r_Ec, r_vb, r_En]; rfl
  have hp := a.pick g
  have hq : omap (vpickO (idxN (gcO [c] i p ds.length)) (o :: r)) [c] = some [.vals true [.int .i64 N, .sl 1 0 m sz]] := by
    rw [r_oC, r_pk, hc, r_pO, r_Ov, r_oC, r_oC, r_vi, r_vsl, hx1, r_nS]; rfl
  have eg : gcO [c] i p ds.length = [c] ++ (i :: (List.range ds.length).map p) := rfl
  rw [hv]
  conv => lhs; arg 2; arg 2; rw [eg]
  rw [omap_app _ hq hp, r_two]; rfl
/-! ### a call, in one step -/
theorem callF_own {K : Kn} {call : CallV} {g : FuncId} {args fa : List V} {h : VH} {r r' : V} {o : VH} (hp : K.cf.pure g = true) (ha : K.ali g = false) (hf : omap (vfrz h 6) args = some fa) (hc : call g (vnrmAs (K.args g) fa) [] = some (r, o)) (hz : (V.noFz 4 r && o.all VO.noFz) = true) (hpl : o.all plO = true) (hr : vren (fun i => some (h.length + i)) 4 r = some r') :
    vcallF K call h g (some args) = some (r', h ++ o.map (shO h.length)) := by
  rw [r_cF, hp, r_c2t, ha, r_c3f, hf, r_p1, hc, r_la, hz, r_la2t, hr, pl_sh hpl, r_la3]
/-- What is called holds nothing of the caller's. -/
theorem callF_land {K : Kn} {call : CallV} {g : FuncId} {args fa : List V} {h : VH} {r r' : V} {o : VH} (hp : K.cf.pure g = true) (ha : K.ali g = false) (hf : omap (vfrz h 6) args = some fa) (hc : call g (vnrmAs (K.args g) fa) [] = some (r, o)) (ht : argRefs h args = []) (hpl : o.all plO = true) (hr : vren (fun i => some (h.length + i)) 4 r = some r') :
    vcallF K call h g (some args) = some (r', h ++ o.map (shO h.length)) := by
  rw [r_cF, hp, r_c2t, ha, r_c3f, hf, r_p1, hc, r_la]
  cases (V.noFz 4 r && o.all VO.noFz) with
  | true => rw [r_la2t, hr, pl_sh hpl, r_la3]
  | false => rw [r_la2f, ht, r_roN, hr, pl_sh hpl, r_la3]
theorem callF_frz {K : Kn} {call : CallV} {g : FuncId} {args fa : List V} {h : VH} {r r' : V} (hp : K.cf.pure g = true) (ha : K.ali g = false) (hf : omap (vfrz h 6) args = some fa) (hc : call g (vnrmAs (K.args g) fa) [] = some (r, [])) (hz : V.noFz 4 r = true) (hr : vren (fun i => some (h.length + i)) 4 r = some r') :
    vcallF K call h g (some args) = some (r', h) := by
  have := callF_own hp ha hf hc (by rw [hz]; rfl) rfl hr
  rwa [List.map_nil, List.append_nil] at this
/-- A call whose result is told frozen: what it has read stays as it is. -/
theorem callF_ro {K : Kn} {call : CallV} {g : FuncId} {args fa : List V} {h : VH} {r r' : V} {P : Nat → Prop} (hp : K.cf.pure g = true) (ha : K.ali g = false) (hf : omap (vfrz h 6) args = some fa) (hc : call g (vnrmAs (K.args g) fa) [] = some (r, [])) (hz : V.noFz 4 r = false) (hr : vren (fun i => some (h.length + i)) 4 r = some r') (ht : ∀ q, q ∈ argRefs h args → P q) :
    ∃ h', vcallF K call h g (some args) = some (r', h') ∧ h'.length = h.length ∧ ∀ q, ¬ P q → h'[q]? = h[q]? := by
  refine ⟨roM h (argRefs h args), ?_, roM_lenH _ _, fun q hq => roM_ne _ _ fun m => hq (ht q m)⟩
  rw [r_cF, hp, r_c2t, ha, r_c3f, hf, r_p1, hc, r_la, hz, Bool.false_and, r_la2f, hr]
  simp [omap, r_la3]
end Go.Eng
end
