/- Division, digit by digit: one round, in numbers. No conditions. -/
import Derived.Test.YtnkhamahhgfbhaaDoorDiv3
set_option linter.unusedVariables false
set_option linter.unusedSimpArgs false
namespace Go.Eng
open Num
/-- A list whose digits above one place are nought. -/
theorem val_top {l : List Int} {k : Nat} (hk : k < l.length) (hz : ∀ i, k < i → gt l i = 0) : val l = val (l.take k) + 65536 ^ k * gt l k := by
  have e : l = l.take k ++ (gt l k :: l.drop (k + 1)) := by
    conv => lhs; rw [← List.take_append_drop k l]
    rw [List.drop_eq_getElem_cons hk, gt_get]
  have hd : val (l.drop (k + 1)) = 0 := by
    have : ∀ (m : List Int), (∀ i, gt m i = 0) → val m = 0 := by
      intro m
      induction m with
      | nil => intro _; rfl
      | cons a r ih =>
        intro h
        have h0 : a = 0 := h 0
        rw [val_cons, h0, ih fun i => h (i + 1)]; rfl
    refine this _ fun i => ?_
    have := hz (k + 1 + i) (by omega)
    unfold gt at this ⊢
    rw [List.getD_eq_getElem?_getD] at this ⊢
    rw [List.getElem?_drop]; exact this
  conv => lhs; rw [e]
  rw [val_append, val_cons, hd, List.length_take, Nat.min_eq_left (by omega), Int.mul_zero, Int.add_zero]
theorem val_take_bd {l : List Int} {k : Nat} (hk : k ≤ l.length) (hg : GoodL (l.take k)) : 0 ≤ val (l.take k) ∧ val (l.take k) < 65536 ^ k := by
  refine ⟨val_nonneg hg, ?_⟩
  have := val_lt hg
  rwa [List.length_take, Nat.min_eq_left hk] at this
theorem take_set_ge {l : List Int} {k : Nat} (x : Int) : (l.set k x).take k = l.take k := List.take_set_of_le (Nat.le_refl k)
theorem good_of_set {l : List Int} {k : Nat} (hk : k < l.length) (h : GoodL (l.set k 0)) (h0 : 0 ≤ gt l k) (h1 : gt l k < 65536) : GoodL l := by
  have e : l = (l.set k 0).set k (gt l k) := by
    rw [List.set_set, ← gt_get l k hk]; exact (List.set_getElem_self hk).symm
  rw [e]; exact h.set _ h0 h1
theorem gt_dgs0 {q n i : Nat} (h : n ≤ i) : gt (dgs q n) i = 0 := by
  unfold gt; rw [List.getD_eq_getElem?_getD, List.getElem?_eq_none (by rw [dgs_len]; exact h)]; rfl
section
variable {X V n L j : Nat} {q : Int}
/-- How the numbers of a round lie. -/
structure Rdv (X V n L j : Nat) : Prop where
  n2 : 2 ≤ n
  Vl : (D V).length = n
  Vh : 32768 ≤ dg V (n - 1)
  jl : j + n < L
  Xl : X % (V * 65536 ^ (j + 1)) < 65536 ^ L
namespace Rdv
theorem Vp (h : Rdv X V n L j) : 0 < V := by
  rcases Nat.eq_zero_or_pos V with e | e
  · have := h.Vl; rw [e, D_zero] at this; have := h.n2; simp at *; omega
  · exact e
theorem Ul (h : Rdv X V n L j) : X % (V * 65536 ^ (j + 1)) < V * 65536 ^ (j + 1) := Nat.mod_lt _ (Nat.mul_pos h.Vp (powN_pos _))
theorem Wl (h : Rdv X V n L j) : X % (V * 65536 ^ (j + 1)) / 65536 ^ j < V * 65536 := by
  rw [Nat.div_lt_iff_lt_mul (powN_pos j), Nat.mul_assoc, Nat.mul_comm 65536, ← Nat.pow_succ]
  exact h.Ul
theorem Vlt (h : Rdv X V n L j) : V < 65536 ^ n := by have := lt_len_D V; rwa [h.Vl] at this
theorem digit (h : Rdv X V n L j) : dg (X / V) j = ((X % (V * 65536 ^ (j + 1)) / 65536 ^ j / V : Nat) : Int) := by
  unfold dg
  congr 1
  rw [Nat.div_div_eq_div_mul _ _ V, Nat.mul_comm (65536 ^ j) V, Nat.pow_succ, ← Nat.mul_assoc, Nat.mod_mul_right_div_self, Nat.div_div_eq_div_mul]
theorem three (h : Rdv X V n L j) {W : Nat} (hW : W < V * 65536) : (W : Int) = ((dg W n * 65536 + dg W (n - 1)) * 65536 + dg W (n - 2)) * ((65536 ^ (n - 2) : Nat) : Int) + ((W % 65536 ^ (n - 2) : Nat) : Int) := by
  have hlt : W < 65536 ^ (n + 1) := Nat.lt_of_lt_of_le hW (by rw [Nat.pow_succ]; exact Nat.mul_le_mul_right _ (Nat.le_of_lt h.Vlt))
  have hn := h.n2
  have e1 := Nat.div_add_mod W (65536 ^ (n - 2))
  have e2 : W / 65536 ^ (n - 2) / 65536 = W / 65536 ^ (n - 1) := by rw [Nat.div_div_eq_div_mul, ← Nat.pow_succ]; congr 2; omega
  have e3 : W / 65536 ^ (n - 1) / 65536 = W / 65536 ^ n := by rw [Nat.div_div_eq_div_mul, ← Nat.pow_succ]; congr 2; omega
  have e4 : W / 65536 ^ n / 65536 = 0 := by rw [Nat.div_div_eq_div_mul, ← Nat.pow_succ]; exact Nat.div_eq_of_lt hlt
  have e5 : W / 65536 ^ (n - 2) = (W / 65536 ^ n % 65536 * 65536 + W / 65536 ^ (n - 1) % 65536) * 65536 + W / 65536 ^ (n - 2) % 65536 := by omega
  unfold dg
  generalize W / 65536 ^ (n - 2) = a at *
  have : W = ((W / 65536 ^ n % 65536 * 65536 + W / 65536 ^ (n - 1) % 65536) * 65536 + a % 65536) * 65536 ^ (n - 2) + W % 65536 ^ (n - 2) := by
    rw [← e5, Nat.mul_comm]; exact e1.symm
  exact congrArg Int.ofNat this
theorem two (h : Rdv X V n L j) : (V : Int) = (dg V (n - 1) * 65536 + dg V (n - 2)) * ((65536 ^ (n - 2) : Nat) : Int) + ((V % 65536 ^ (n - 2) : Nat) : Int) := by
  have hn := h.n2
  have e1 := Nat.div_add_mod V (65536 ^ (n - 2))
  have e2 : V / 65536 ^ (n - 2) / 65536 = V / 65536 ^ (n - 1) := by rw [Nat.div_div_eq_div_mul, ← Nat.pow_succ]; congr 2; omega
  have e4 : V / 65536 ^ (n - 1) / 65536 = 0 := by
    rw [Nat.div_div_eq_div_mul, ← Nat.pow_succ, show (n - 1).succ = n by omega]; exact Nat.div_eq_of_lt h.Vlt
  have e5 : V / 65536 ^ (n - 2) = V / 65536 ^ (n - 1) % 65536 * 65536 + V / 65536 ^ (n - 2) % 65536 := by omega
  unfold dg
  generalize V / 65536 ^ (n - 2) = a at *
  have : V = (V / 65536 ^ (n - 1) % 65536 * 65536 + a % 65536) * 65536 ^ (n - 2) + V % 65536 ^ (n - 2) := by
    rw [← e5, Nat.mul_comm]; exact e1.symm
  exact congrArg Int.ofNat this
theorem at_u (h : Rdv X V n L j) {i : Nat} (hi : i ≤ n) : gt (dgs (X % (V * 65536 ^ (j + 1))) L) (j + i) = dg (X % (V * 65536 ^ (j + 1)) / 65536 ^ j) i := by
  have := h.jl
  rw [gt_dgs2 (by omega)]
  unfold dg
  rw [Nat.div_div_eq_div_mul, ← Nat.pow_add]
theorem kt (h : Rdv X V n L j) : Kt ((65536 ^ (n - 2) : Nat) : Int) (gt (D V) (n - 1)) (gt (D V) (n - 2)) ((V % 65536 ^ (n - 2) : Nat) : Int)
    (gt (dgs (X % (V * 65536 ^ (j + 1))) L) (j + n) * 65536 + gt (dgs (X % (V * 65536 ^ (j + 1))) L) (j + n - 1)) (gt (dgs (X % (V * 65536 ^ (j + 1))) L) (j + n - 2)) ((X % (V * 65536 ^ (j + 1)) / 65536 ^ j % 65536 ^ (n - 2) : Nat) : Int) := by
  have hn := h.n2
  have a0 := h.at_u (i := n) (Nat.le_refl _)
  have a1 := h.at_u (i := n - 1) (by omega)
  have a2 := h.at_u (i := n - 2) (by omega)
  rw [show j + (n - 1) = j + n - 1 by omega] at a1
  rw [show j + (n - 2) = j + n - 2 by omega] at a2
  have hW := h.Wl
  have t3 := h.three hW
  have t2 := h.two
  rw [a0, a1, a2, gt_D, gt_D]
  generalize X % (V * 65536 ^ (j + 1)) / 65536 ^ j = W at *
  have b0 := dg_bd W n
  have b1 := dg_bd W (n - 1)
  have b2 := dg_bd W (n - 2)
  have c1 := dg_bd V (n - 1)
  have c2 := dg_bd V (n - 2)
  refine ⟨by have := powN_pos (n - 2); omega, h.Vh, c1.2, c2.1, c2.2, Int.natCast_nonneg _, ?_, by omega, b2.1, b2.2, Int.natCast_nonneg _, ?_, ?_⟩
  · exact Int.ofNat_lt.2 (Nat.mod_lt _ (powN_pos _))
  · exact Int.ofNat_lt.2 (Nat.mod_lt _ (powN_pos _))
  · rw [← t3, ← t2]; omega
/-- What the guess says. -/
theorem gs (h : Rdv X V n L j) (h1 : ((gt (dgs (X % (V * 65536 ^ (j + 1))) L) (j + n) * 65536 + gt (dgs (X % (V * 65536 ^ (j + 1))) L) (j + n - 1)) * 65536 + gt (dgs (X % (V * 65536 ^ (j + 1))) L) (j + n - 2)) * ((65536 ^ (n - 2) : Nat) : Int) + ((X % (V * 65536 ^ (j + 1)) / 65536 ^ j % 65536 ^ (n - 2) : Nat) : Int) < (q + 1) * ((gt (D V) (n - 1) * 65536 + gt (D V) (n - 2)) * ((65536 ^ (n - 2) : Nat) : Int) + ((V % 65536 ^ (n - 2) : Nat) : Int)))
    (h2 : (q - 1) * ((gt (D V) (n - 1) * 65536 + gt (D V) (n - 2)) * ((65536 ^ (n - 2) : Nat) : Int) + ((V % 65536 ^ (n - 2) : Nat) : Int)) ≤ ((gt (dgs (X % (V * 65536 ^ (j + 1))) L) (j + n) * 65536 + gt (dgs (X % (V * 65536 ^ (j + 1))) L) (j + n - 1)) * 65536 + gt (dgs (X % (V * 65536 ^ (j + 1))) L) (j + n - 2)) * ((65536 ^ (n - 2) : Nat) : Int) + ((X % (V * 65536 ^ (j + 1)) / 65536 ^ j % 65536 ^ (n - 2) : Nat) : Int)) :
    q = dg (X / V) j ∨ q = dg (X / V) j + 1 := by
  have hn := h.n2
  have a0 := h.at_u (i := n) (Nat.le_refl _)
  have a1 := h.at_u (i := n - 1) (by omega)
  have a2 := h.at_u (i := n - 2) (by omega)
  rw [show j + (n - 1) = j + n - 1 by omega] at a1
  rw [show j + (n - 2) = j + n - 2 by omega] at a2
  have t3 := h.three h.Wl
  have t2 := h.two
  rw [a0, a1, a2, gt_D, gt_D, ← t3, ← t2] at h1 h2
  have hV := h.Vp
  have hd := h.digit
  generalize X % (V * 65536 ^ (j + 1)) / 65536 ^ j = W at *
  obtain ⟨g1, g2⟩ := guess (t := dg (X / V) j) (U := (W : Int)) (V := (V : Int)) (q := q) (by omega) (by rw [hd, Int.natCast_ediv]) h1 h2
  omega
theorem Uval (h : Rdv X V n L j) : val (dgs (X % (V * 65536 ^ (j + 1))) L) = ((X % (V * 65536 ^ (j + 1)) : Nat) : Int) := by
  rw [dgs_val, lo_len (lt_pow_len h.Xl)]
theorem Unext (h : Rdv X V n L j) : ((X % (V * 65536 ^ (j + 1)) : Nat) : Int) = ((X % (V * 65536 ^ j) : Nat) : Int) + dg (X / V) j * 65536 ^ j * V := by
  have e1 : X % (V * 65536 ^ (j + 1)) % (V * 65536 ^ j) = X % (V * 65536 ^ j) := by
    rw [Nat.pow_succ, ← Nat.mul_assoc]; exact Nat.mod_mul_right_mod _ _ _
  have e2 := Nat.div_add_mod (X % (V * 65536 ^ (j + 1))) (V * 65536 ^ j)
  rw [e1] at e2
  have e3 : X % (V * 65536 ^ (j + 1)) / (V * 65536 ^ j) = X % (V * 65536 ^ (j + 1)) / 65536 ^ j / V := by rw [Nat.div_div_eq_div_mul _ _ V, Nat.mul_comm (65536 ^ j) V]
  rw [e3] at e2
  have e4 := congrArg (fun z : Nat => (z : Int)) e2
  simp only [Int.natCast_add, Int.natCast_mul, pow_cast] at e4
  rw [h.digit, ← e4]
  generalize ((X % (V * 65536 ^ (j + 1)) / 65536 ^ j / V : Nat) : Int) = a
  generalize ((X % (V * 65536 ^ j) : Nat) : Int) = R
  generalize (65536 : Int) ^ j = b
  generalize (V : Int) = w
  clear e1 e2 e3 e4
  grind
theorem Uhi (h : Rdv X V n L j) {i : Nat} (hi : j + n < i) : gt (dgs (X % (V * 65536 ^ (j + 1))) L) i = 0 := by
  by_cases hl : i < L
  · rw [gt_dgs2 hl]
    refine dg_len ?_
    rw [len_D_le]
    refine Nat.lt_of_lt_of_le h.Ul ?_
    have h1 : V * 65536 ^ (j + 1) ≤ 65536 ^ n * 65536 ^ (j + 1) := Nat.mul_le_mul_right _ (Nat.le_of_lt h.Vlt)
    rw [← Nat.pow_add] at h1
    exact Nat.le_trans h1 (Nat.pow_le_pow_right (by omega) (by omega))
  · exact gt_dgs0 (by omega)
theorem Rl (h : Rdv X V n L j) : X % (V * 65536 ^ j) < 65536 ^ (j + n) := by
  have h1 := Nat.mod_lt X (Nat.mul_pos h.Vp (powN_pos j))
  refine Nat.lt_of_lt_of_le h1 ?_
  rw [Nat.pow_add, Nat.mul_comm]
  exact Nat.mul_le_mul_left _ (Nat.le_of_lt h.Vlt)
/-- What a round leaves. -/
theorem out (h : Rdv X V n L j) (q0 : 0 ≤ q) (q1 : q < 65536) (hq : q = dg (X / V) j ∨ q = dg (X / V) j + 1) {u Z : List Int} {z : Int} (hu : u = dgs (X % (V * 65536 ^ (j + 1))) L)
    (hz : z = gt u (j + n) - (tkS u (D V) j q n).2) (hZ : Z = (tkS u (D V) j q n).1.set (j + n) z) :
    Z.length = L ∧ GoodL (Z.set (j + n) 0) ∧ gt Z (j + n) = z ∧ -65536 ≤ z ∧ z < 65536 ∧
    ((q = dg (X / V) j ∧ ¬ z < 0 ∧ Z = dgs (X % (V * 65536 ^ j)) L) ∨
      (q - 1 = dg (X / V) j ∧ z < 0 ∧ (adS Z (D V) j n).1.set (j + n) (z + (adS Z (D V) j n).2) = dgs (X % (V * 65536 ^ j)) L)) := by
  have hjl := h.jl
  have hul : u.length = L := by rw [hu, dgs_len]
  have hgu : GoodL u := by rw [hu]; exact dgs_good _ _
  have hgv := good_D V
  have hvl := h.Vl
  have tl := tk_len (u := u) (v := D V) (j := j) (q := q) n
  have tg := tk_good hgu n (v := D V) (j := j) (q := q)
  have tb := tk_bd hgu hgv q0 q1 n (j := j)
  have tv := tk_val (u := u) (v := D V) (j := j) (q := q) (n := n) (by omega) (by omega) n (Nat.le_refl _)
  have th := fun k => tk_hi (u := u) (v := D V) (j := j) (q := q) n k
  have gu := hgu.gtB (j + n)
  have hV : val ((D V).take n) = V := by rw [List.take_of_length_le (by omega), val_D]
  have hUv : val u = ((X % (V * 65536 ^ (j + 1)) : Nat) : Int) := by rw [hu]; exact h.Uval
  rw [hV, hUv, h.Unext] at tv
  have hhi : ∀ i, j + n < i → gt u i = 0 := fun i hi => by rw [hu]; exact h.Uhi hi
  generalize (tkS u (D V) j q n).1 = T at *
  generalize (tkS u (D V) j q n).2 = b at *
  have hZl : Z.length = L := by rw [hZ, List.length_set, tl, hul]
  have hZg : GoodL (Z.set (j + n) 0) := by rw [hZ, List.set_set]; exact tg.set _ (by omega) (by omega)
  have hZz : gt Z (j + n) = z := by rw [hZ]; exact gt_set_eq (by omega) _
  have hZv : val Z = ((X % (V * 65536 ^ j) : Nat) : Int) + (dg (X / V) j - q) * 65536 ^ j * V := by
    rw [hZ, val_setG (by omega), th (j + n) (Nat.le_refl _), hz, Int.pow_add]
    generalize (65536 : Int) ^ j = p at *
    generalize (65536 : Int) ^ n = r at *
    generalize ((X % (V * 65536 ^ j) : Nat) : Int) = R at *
    generalize dg (X / V) j = t at *
    grind
  have hZhi : ∀ i, j + n < i → gt Z i = 0 := fun i hi => by rw [hZ, gt_set_ne (by omega), th i (by omega)]; exact hhi i hi
  have hZt := val_top (l := Z) (k := j + n) (by omega) hZhi
  have hZb := val_take_bd (l := Z) (k := j + n) (by omega) (by rw [← take_set_ge 0]; exact hZg.take _)
  have hp := pow_pos' (j + n)
  have hRl : ((X % (V * 65536 ^ j) : Nat) : Int) < 65536 ^ (j + n) := by rw [← pow_cast]; exact Int.ofNat_lt.2 h.Rl
  refine ⟨hZl, hZg, hZz, by omega, by omega, ?_⟩
  rw [hZz] at hZt
  rcases hq with hq | hq
  · left
    rw [← hq, Int.sub_self, Int.zero_mul, Int.zero_mul, Int.add_zero] at hZv
    have hz0 : ¬ z < 0 := fun hc => by
      have h5 : 65536 ^ (j + n) * z ≤ 65536 ^ (j + n) * (-1) := Int.mul_le_mul_of_nonneg_left (by omega) (by omega)
      have h6 : (0 : Int) ≤ ((X % (V * 65536 ^ j) : Nat) : Int) := Int.natCast_nonneg _
      omega
    exact ⟨hq, hz0, good_dgs (good_of_set (k := j + n) (by omega) hZg (by omega) (by omega)) hZl hZv⟩
  · right
    have hq' : q - 1 = dg (X / V) j := by omega
    rw [show dg (X / V) j - q = -1 by omega] at hZv
    have hVj : ((X % (V * 65536 ^ j) : Nat) : Int) < 65536 ^ j * V := by
      rw [← pow_cast, ← Int.natCast_mul]
      exact Int.ofNat_lt.2 (Nat.lt_of_lt_of_eq (Nat.mod_lt X (Nat.mul_pos h.Vp (powN_pos j))) (Nat.mul_comm _ _))
    have hzn : z < 0 := by
      rcases Int.lt_or_le z 0 with hc | hc
      · exact hc
      · have h5 : 0 ≤ 65536 ^ (j + n) * z := Int.mul_nonneg (by omega) hc
        have h6 : -1 * 65536 ^ j * (V : Int) = -(65536 ^ j * V) := by grind
        omega
    refine ⟨hq', hzn, ?_⟩
    have al := ad_len (u := Z) (v := D V) (j := j) n
    have ag := ad_good (v := D V) hZg n (Nat.le_refl _)
    have ab := ad_bd (v := D V) hZg hgv n (Nat.le_refl _)
    have av := ad_val (u := Z) (v := D V) (j := j) (n := n) (by omega) (by omega) n (Nat.le_refl _)
    have ah := fun k => ad_hi (u := Z) (v := D V) (j := j) n k
    rw [hV, hZv] at av
    generalize (adS Z (D V) j n).1 = A at *
    generalize (adS Z (D V) j n).2 = c at *
    have az : gt A (j + n) = z := by rw [ah _ (Nat.le_refl _), hZz]
    generalize hY : A.set (j + n) (z + c) = Y
    have hYl : Y.length = L := by rw [← hY, List.length_set, al, hZl]
    have hYg : GoodL (Y.set (j + n) 0) := by rw [← hY, List.set_set]; exact ag
    have hYz : gt Y (j + n) = z + c := by rw [← hY]; exact gt_set_eq (by omega) _
    have hYv : val Y = ((X % (V * 65536 ^ j) : Nat) : Int) := by
      rw [← hY, val_setG (by omega), az, Int.pow_add]
      generalize (65536 : Int) ^ j = p at *
      generalize (65536 : Int) ^ n = r at *
      generalize ((X % (V * 65536 ^ j) : Nat) : Int) = R at *
      grind
    have hYhi : ∀ i, j + n < i → gt Y i = 0 := fun i hi => by rw [← hY, gt_set_ne (by omega), ah i (by omega)]; exact hZhi i hi
    have hYt := val_top (l := Y) (k := j + n) (by omega) hYhi
    have hYb := val_take_bd (l := Y) (k := j + n) (by omega) (by rw [← take_set_ge 0]; exact hYg.take _)
    rw [hYz, hYv] at hYt
    have hzc : z + c = 0 := by
      have h6 : (0 : Int) ≤ ((X % (V * 65536 ^ j) : Nat) : Int) := Int.natCast_nonneg _
      rcases Int.lt_trichotomy (z + c) 0 with hc | hc | hc
      · have h5 : 65536 ^ (j + n) * (z + c) ≤ 65536 ^ (j + n) * (-1) := Int.mul_le_mul_of_nonneg_left (by omega) (by omega)
        omega
      · exact hc
      · have h5 : 65536 ^ (j + n) * 1 ≤ 65536 ^ (j + n) * (z + c) := Int.mul_le_mul_of_nonneg_left (by omega) (by omega)
        omega
    exact good_dgs (good_of_set (k := j + n) (by omega) hYg (by omega) (by omega)) hYl hYv
end Rdv
end
end Go.Eng
