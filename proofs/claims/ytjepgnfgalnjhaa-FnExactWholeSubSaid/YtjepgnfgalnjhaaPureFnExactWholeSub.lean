/- The plain side of the statements: what the printed functions come to, in plain numbers. No conditions. -/
import Derived.Test.YtjepgnfgalnjhaaQ1
import Derived.Test.YtjepgnfgalnjhaaQ2
import Derived.Test.YtjepgnfgalnjhaaQ3
import Derived.Test.YtjepgnfgalnjhaaQ5
import Derived.Test.YtjepgnfgalnjhaaQ8
import Derived.Test.YtjepgnfgalnjhaaQ9
import Derived.Test.YtjepgnfgalnjhaaQ13
import Derived.Test.YtjepgnfgalnjhaaQ15
import Derived.Test.YtjepgnfgalnjhaaQ16
import Derived.Test.YtjepgnfgalnjhaaQ17
import Derived.Test.YtjepgnfgalnjhaaQ20
import Derived.Test.YtjepgnfgalnjhaaQ21
import Derived.Test.YtjepgnfgalnjhaaQ22
import Derived.Test.YtjepgnfgalnjhaaQ23
import Derived.Test.YtjepgnfgalnjhaaQ24
import Derived.Test.YtjepgnfgalnjhaaQ25
import Derived.Test.YtjepgnfgalnjhaaQ27
import Derived.Test.YtjepgnfgalnjhaaQ29
import Derived.Test.YtjepgnfgalnjhaaQ32
import Derived.Test.YtjepgnfgalnjhaaQ33
import Derived.Test.YtjepgnfgalnjhaaQ35
import Derived.Test.YtjepgnfgalnjhaaQ36
import Derived.Test.YtjepgnfgalnjhaaQ37
import Derived.Test.YtjepgnfgalnjhaaQ38
import Derived.Test.YtjepgnfgalnjhaaQ97
import Derived.Test.YtjepgnfgalnjhaaQ98
import Derived.Test.YtjepgnfgalnjhaaQ99
import Derived.Test.YtjepgnfgalnjhaaQ100
import Derived.Test.YtjepgnfgalnjhaaQ101
import Derived.Test.YtjepgnfgalnjhaaQ103
import Derived.Test.YtjepgnfgalnjhaaQ104
import Derived.Test.YtjepgnfgalnjhaaQ105
import Derived.Test.YtjepgnfgalnjhaaQ106
import Derived.Test.YtjepgnfgalnjhaaQ107
import Derived.Test.YtjepgnfgalnjhaaQ109
import Derived.Test.YtjepgnfgalnjhaaQ110
import Derived.Test.YtjepgnfgalnjhaaQ111
import Derived.Test.YtjepgnfgalnjhaaQ113
import Derived.Test.YtjepgnfgalnjhaaQ114
import Derived.Test.YtjepgnfgalnjhaaQ115
import Derived.Test.YtjepgnfgalnjhaaQ116
set_option linter.unusedVariables false
set_option linter.unusedSimpArgs false
namespace Go.Proofs.Ytjepgnfgalnjhaa.Num
end Go.Proofs.Ytjepgnfgalnjhaa.Num
namespace Go.Proofs.Ytjepgnfgalnjhaa.Num
/-- The digits of a number, none for 0. -/
def D (n : Nat) : List Int := if h : n = 0 then [] else ((n % 65536 : Nat) : Int) :: D (n / 65536)
termination_by n
decreasing_by omega
theorem D_zero : D 0 = [] := by rw [D]; simp
theorem D_pos {n : Nat} (h : n ≠ 0) : D n = ((n % 65536 : Nat) : Int) :: D (n / 65536) := by rw [D]; simp [h]
def val : List Int → Int
  | [] => 0
  | x :: xs => x + 65536 * val xs
def GoodL (l : List Int) : Prop := ∀ x ∈ l, 0 ≤ x ∧ x < 65536
theorem GoodL.nil : GoodL [] := fun _ h => by simp at h
theorem GoodL.cons {x : Int} {l : List Int} (h0 : 0 ≤ x) (h1 : x < 65536) (h : GoodL l) : GoodL (x :: l) := by
  intro y hy
  rcases List.mem_cons.1 hy with rfl | hy
  · exact ⟨h0, h1⟩
  · exact h y hy
theorem GoodL.tail {x : Int} {l : List Int} (h : GoodL (x :: l)) : GoodL l := fun y hy => h y (List.mem_cons_of_mem _ hy)
theorem GoodL.head {x : Int} {l : List Int} (h : GoodL (x :: l)) : 0 ≤ x ∧ x < 65536 := h x List.mem_cons_self
theorem GoodL.append {a b : List Int} (ha : GoodL a) (hb : GoodL b) : GoodL (a ++ b) := by
  intro x hx
  rcases List.mem_append.1 hx with hx | hx
  · exact ha x hx
  · exact hb x hx
theorem GoodL.snoc {l : List Int} {x : Int} (h : GoodL l) (h0 : 0 ≤ x) (h1 : x < 65536) : GoodL (l ++ [x]) := h.append (GoodL.nil.cons h0 h1)
theorem GoodL.take {l : List Int} (h : GoodL l) (i : Nat) : GoodL (l.take i) := fun x hx => h x (List.mem_of_mem_take hx)
theorem GoodL.getD {l : List Int} (h : GoodL l) (i : Nat) : 0 ≤ l.getD i 0 ∧ l.getD i 0 < 65536 := by
  rw [List.getD_eq_getElem?_getD]
  cases e : l[i]? with
  | none => simp
  | some x => simpa using h x (List.mem_of_getElem? e)
theorem val_nil : val [] = 0 := rfl
theorem val_cons (x : Int) (l : List Int) : val (x :: l) = x + 65536 * val l := rfl
theorem val_append (a b : List Int) : val (a ++ b) = val a + 65536 ^ a.length * val b := by
  induction a with
  | nil => simp [val]
  | cons x a ih => rw [List.cons_append, val_cons, val_cons, ih, List.length_cons, Int.pow_succ]; grind
theorem val_snoc (a : List Int) (x : Int) : val (a ++ [x]) = val a + 65536 ^ a.length * x := by
  rw [val_append]; simp [val]
theorem powN_pos (n : Nat) : 0 < 65536 ^ n := Nat.pow_pos (by decide)
theorem pow_cast (n : Nat) : ((65536 ^ n : Nat) : Int) = (65536 : Int) ^ n := by rw [Int.natCast_pow]; rfl
theorem val_nonneg {l : List Int} (h : GoodL l) : 0 ≤ val l := by
  induction l with
  | nil => simp [val]
  | cons x l ih => have := ih h.tail; have := h.head; rw [val_cons]; omega
theorem val_lt {l : List Int} (h : GoodL l) : val l < 65536 ^ l.length := by
  induction l with
  | nil => simp [val]
  | cons x l ih =>
    have h1 := ih h.tail
    have h2 := h.head
    rw [val_cons, List.length_cons, Int.pow_succ]
    omega
theorem good_D (n : Nat) : GoodL (D n) := by
  induction n using Nat.strongRecOn with
  | _ n ih =>
    by_cases h : n = 0
    · subst h; rw [D_zero]; exact GoodL.nil
    · rw [D_pos h]; exact GoodL.cons (by omega) (by omega) (ih _ (by omega))
theorem val_D (n : Nat) : val (D n) = n := by
  induction n using Nat.strongRecOn with
  | _ n ih =>
    by_cases h : n = 0
    · subst h; rw [D_zero]; rfl
    · rw [D_pos h, val_cons, ih _ (by omega)]; omega
theorem D_inj {a b : Nat} (h : D a = D b) : a = b := by
  have := val_D a
  rw [h, val_D] at this
  omega
theorem D_nil_iff {n : Nat} : D n = [] ↔ n = 0 := by
  constructor
  · intro h
    exact D_inj (h.trans D_zero.symm)
  · rintro rfl; exact D_zero
theorem len_D_le {n k : Nat} : (D n).length ≤ k ↔ n < 65536 ^ k := by
  induction k generalizing n with
  | zero =>
    rw [Nat.pow_zero]
    constructor
    · intro h
      have := D_nil_iff.1 (List.eq_nil_of_length_eq_zero (by omega : (D n).length = 0))
      omega
    · intro h
      obtain rfl : n = 0 := by omega
      simp [D_zero]
  | succ k ih =>
    by_cases h : n = 0
    · subst h; simp [D_zero, powN_pos]
    · rw [D_pos h, List.length_cons, Nat.pow_succ]
      have := @ih (n / 65536)
      omega
theorem len_D_lt {n k : Nat} : k < (D n).length ↔ 65536 ^ k ≤ n := by
  have := @len_D_le n k
  omega
theorem lt_len_D (n : Nat) : n < 65536 ^ (D n).length := len_D_le.1 (Nat.le_refl _)
theorem len_D_mono {a b : Nat} (h : a ≤ b) : (D a).length ≤ (D b).length := len_D_le.2 (Nat.lt_of_le_of_lt h (lt_len_D b))
/-- A digit of a good list, by its value. -/
theorem getD_val {l : List Int} (h : GoodL l) (i : Nat) : l.getD i 0 = val l / 65536 ^ i % 65536 := by
  induction l generalizing i with
  | nil => simp [val]
  | cons x l ih =>
    have hx := h.head
    rw [val_cons]
    cases i with
    | zero => simp; omega
    | succ i =>
      rw [List.getD_cons_succ, ih h.tail, Int.pow_succ, Int.mul_comm (65536 ^ i), ← Int.ediv_ediv_of_nonneg (by omega)]
      congr 2
      omega
theorem getD_D (n i : Nat) : (D n).getD i 0 = ((n / 65536 ^ i % 65536 : Nat) : Int) := by
  rw [getD_val (good_D n), val_D, ← pow_cast]
  omega
def Norm (l : List Int) : Prop := ∀ h : l ≠ [], l.getLast h ≠ 0
theorem norm_D (n : Nat) : Norm (D n) := by
  induction n using Nat.strongRecOn with
  | _ n ih =>
    intro h
    by_cases h0 : n = 0
    · exact absurd (D_nil_iff.2 h0) h
    · have e := D_pos h0
      by_cases h1 : D (n / 65536) = []
      · have := D_nil_iff.1 h1
        simp only [e, h1]
        simp
        omega
      · simp only [e, List.getLast_cons h1]
        exact ih _ (by omega) h1
theorem D_val {l : List Int} (h : GoodL l) (hn : Norm l) : D (val l).toNat = l := by
  induction l with
  | nil => simp [val, D_zero]
  | cons x l ih =>
    have hx := h.head
    have hv := val_nonneg h.tail
    have hn' : Norm l := by
      intro hl
      have := hn (by simp)
      rwa [List.getLast_cons hl] at this
    have hp : (val (x :: l)).toNat ≠ 0 := by
      by_cases hl : l = []
      · subst hl
        have := hn (by simp)
        simp at this
        rw [val_cons, val_nil]
        omega
      · have h1 : val l ≠ 0 := by
          intro h0
          have := ih h.tail hn'
          rw [h0] at this
          exact hl (by rw [← this]; exact D_zero)
        rw [val_cons]
        omega
    rw [D_pos hp]
    have e1 : ((val (x :: l)).toNat % 65536 : Nat) = x := by rw [val_cons]; omega
    have e2 : (val (x :: l)).toNat / 65536 = (val l).toNat := by rw [val_cons]; omega
    rw [e1, e2, ih h.tail hn']
theorem norm_iff (l : List Int) : Norm l ↔ (l = [] ∨ l.getD (l.length - 1) 0 ≠ 0) := by
  unfold Norm
  constructor
  · intro h
    by_cases hl : l = []
    · exact .inl hl
    · refine .inr ?_
      have h1 := h hl
      rw [List.getLast_eq_getElem] at h1
      have h2 : l.length - 1 < l.length := by have := List.length_pos_iff.2 hl; omega
      rw [List.getD_eq_getElem?_getD, List.getElem?_eq_getElem h2]
      exact h1
  · rintro (h | h) hl
    · exact absurd h hl
    · rw [List.getLast_eq_getElem]
      have h2 : l.length - 1 < l.length := by have := List.length_pos_iff.2 hl; omega
      rw [List.getD_eq_getElem?_getD, List.getElem?_eq_getElem h2] at h
      exact h
/-- A good list that is known by its value: nought at its end falls away. -/
theorem val_dropLast {l : List Int} (h : l ≠ []) (h0 : l.getLast h = 0) : val l.dropLast = val l := by
  have e := List.dropLast_concat_getLast h
  have h2 := val_snoc l.dropLast (l.getLast h)
  rw [e, h0] at h2
  omega
theorem mod_pow_succ (x i : Nat) : x % 65536 ^ (i + 1) = x % 65536 ^ i + 65536 ^ i * (x / 65536 ^ i % 65536) := Nat.mod_pow_succ
theorem mod_len (x i : Nat) (h : (D x).length ≤ i) : x % 65536 ^ i = x := Nat.mod_eq_of_lt (len_D_le.1 h)
/-- The lowest i digits of a number, as an integer. -/
def lo (x i : Nat) : Int := ((x % 65536 ^ i : Nat) : Int)
/-- A digit of a number, as an integer. -/
def dg (x i : Nat) : Int := ((x / 65536 ^ i % 65536 : Nat) : Int)
theorem lo_zero (x : Nat) : lo x 0 = 0 := by unfold lo; rw [Nat.pow_zero, Nat.mod_one]; rfl
theorem lo_succ (x i : Nat) : lo x (i + 1) = lo x i + 65536 ^ i * dg x i := by
  unfold lo dg
  rw [mod_pow_succ, Int.natCast_add, Int.natCast_mul, pow_cast]
theorem lo_len {x i : Nat} (h : (D x).length ≤ i) : lo x i = x := by unfold lo; rw [mod_len x i h]
theorem dg_bd (x i : Nat) : 0 ≤ dg x i ∧ dg x i < 65536 := by unfold dg; omega
theorem dg_len {x i : Nat} (h : (D x).length ≤ i) : dg x i = 0 := by
  unfold dg
  rw [Nat.div_eq_of_lt (len_D_le.1 h)]
  rfl
/-- One digit of a sum. -/
theorem step_add {v p c a b da db s : Int} (h : v + p * c = a + b) (hs : s = c + da + db) : (v + p * (s % 65536)) + (p * 65536) * (s / 65536) = (a + p * da) + (b + p * db) := by
  have := Int.mul_ediv_add_emod s 65536
  grind
/-- One digit of a difference. -/
theorem step_sub {v p c a b da db r c' : Int} (h : v - p * c = a - b) (hs : r - 65536 * c' = da - c - db) : (v + p * r) - (p * 65536) * c' = (a + p * da) - (b + p * db) := by
  grind
/-- -1, 0 or 1. -/
def cmpI (x y : Nat) : Int := if x < y then -1 else if x = y then 0 else 1
theorem lt_of_len {x y : Nat} (h : (D x).length < (D y).length) : x < y := by
  have h1 := lt_len_D x
  have h2 := len_D_lt.1 h
  omega
theorem div_pow_succ (x i : Nat) : x / 65536 ^ i = 65536 * (x / 65536 ^ (i + 1)) + x / 65536 ^ i % 65536 := by
  rw [Nat.pow_succ, ← Nat.div_div_eq_div_mul]
  omega
theorem lt_of_div {x y p : Nat} (h : x / p < y / p) : x < y := by
  rcases Nat.lt_or_ge x y with h1 | h1
  · exact h1
  · have := Nat.div_le_div_right (c := p) h1
    omega
end Go.Proofs.Ytjepgnfgalnjhaa.Num
namespace Go.Proofs.Ytjepgnfgalnjhaa.Ex
open Go.RowKit (wrap64)
open Go.Proofs.Ytjepgnfgalnjhaa.Q Go.Proofs.YtjepgnfgalnjhaaW.PrintWords Go.Proofs.YtjepgnfgalnjhaaW.PrintLast Go.Proofs.YtjepgnfgalnjhaaW.PrintMore Go.Proofs.Ytjepgnfgalnjhaa.Num
theorem Ev.pos {α : Type} {c : Prop} [Decidable c] {a b : Nat → Option α} {r : α} (hc : c) (h : Ev a r) : Ev (fun k => if c then a k else b k) r := by
  simp only [if_pos hc]; exact h
theorem Ev.neg {α : Type} {c : Prop} [Decidable c] {a b : Nat → Option α} {r : α} (hc : ¬ c) (h : Ev b r) : Ev (fun k => if c then a k else b k) r := by
  simp only [if_neg hc]; exact h
theorem Ev.ite {α : Type} {c : Prop} [Decidable c] {a b : Nat → Option α} {r : α} (ha : c → Ev a r) (hb : ¬ c → Ev b r) : Ev (fun k => if c then a k else b k) r := by
  by_cases h : c
  · exact Ev.pos h (ha h)
  · exact Ev.neg h (hb h)
theorem Ev.some {α β : Type} {a : α} {f : Nat → α → Option β} {r : β} (h : Ev (fun k => f k a) r) : Ev (fun k => (Option.some a).bind (f k)) r := h
theorem Ev.eq {α : Type} {a r : α} (h : a = r) : Ev (fun _ => Option.some a) r := h ▸ Ev.now a
theorem w64 {n : Int} (h0 : -9223372036854775808 ≤ n) (h1 : n < 9223372036854775808) : wrap64 n = n := by unfold wrap64; omega
theorem tmod_nn {a : Int} (b : Int) (h : 0 ≤ a) : Int.tmod a b = a % b := Int.tmod_eq_emod_of_nonneg h
theorem tdiv_nn {a : Int} (b : Int) (h : 0 ≤ a) : Int.tdiv a b = a / b := Int.tdiv_eq_ediv_of_nonneg h
theorem rd_D (n : Nat) (i : Int) : rd (D n) i = ((n / 65536 ^ i.toNat % 65536 : Nat) : Int) := getD_D n i.toNat
theorem rd_dg (n i : Nat) : rd (D n) (i : Int) = dg n i := by rw [rd_D, Int.toNat_natCast]; rfl
theorem cast_succ (i : Nat) : (i : Int) + 1 = ((i + 1 : Nat) : Int) := by omega
theorem rd_nat (l : List Int) (i : Nat) : rd l (i : Int) = l.getD i 0 := by unfold rd; rw [Int.toNat_natCast]
theorem good_rd {l : List Int} (h : GoodL l) (i : Int) : 0 ≤ rd l i ∧ rd l i < 65536 := h.getD i.toNat
end Go.Proofs.Ytjepgnfgalnjhaa.Ex
namespace Go.Proofs.Ytjepgnfgalnjhaa.Low
open Go.RowKit (wrap64)
open Go.Proofs.Ytjepgnfgalnjhaa.Q Go.Proofs.YtjepgnfgalnjhaaW.PrintWords Go.Proofs.YtjepgnfgalnjhaaW.PrintLast Go.Proofs.YtjepgnfgalnjhaaW.PrintMore Go.Proofs.Ytjepgnfgalnjhaa.Num
open Go.Proofs.Ytjepgnfgalnjhaa.Ex
theorem trim_ev (l : List Int) (h : GoodL l) (hl : l.length < 1000000000) : Ev (fun k => impl_trim.f k l) (D (val l).toNat) := by
  show Ev (fun k => impl_trim.l0 k l) _
  obtain ⟨n, hn⟩ : ∃ n, l.length = n := ⟨_, rfl⟩
  induction n generalizing l with
  | zero =>
    obtain rfl := List.eq_nil_of_length_eq_zero hn
    refine Ev.step (fun _ => rfl) (Ev.neg (by simp) (Ev.eq ?_))
    simp [val, D_zero]
  | succ n ih =>
    have hl0 : l ≠ [] := by intro e; simp [e] at hn
    refine Ev.step (fun k => by rw [impl_trim.l0]) ?_
    simp (disch := omega) only [w64]
    refine Ev.pos (by omega) (Ev.pos (by omega) (Ev.pos (by omega) ?_))
    have e1 : rd l ((l.length : Int) - 1) = l.getLast hl0 := by
      rw [show (l.length : Int) - 1 = ((l.length - 1 : Nat) : Int) by omega, rd_nat, List.getLast_eq_getElem, List.getD_eq_getElem?_getD, List.getElem?_eq_getElem (by omega)]
      rfl
    have e2 : l.take ((l.length : Int) - 1).toNat = l.dropLast := by
      rw [List.dropLast_eq_take]; congr 1; omega
    rw [e1, e2]
    refine Ev.ite (fun h0 => Ev.pos (by omega) ?_) (fun h0 => Ev.eq ?_)
    · have hd : GoodL l.dropLast := by rw [List.dropLast_eq_take]; exact h.take _
      have := ih l.dropLast hd (by rw [List.length_dropLast]; omega) (by rw [List.length_dropLast]; omega)
      rwa [val_dropLast hl0 h0] at this
    · exact (D_val h (fun _ => h0)).symm
theorem plus_l0 (x y : Nat) (hx : (D x).length < 1000000) (hy : (D y).length ≤ (D x).length) (d : Nat) : ∀ (i : Nat) (out : List Int) (c : Int), i + d = (D x).length → GoodL out → out.length = i → 0 ≤ c → c ≤ 1 →
    val out + 65536 ^ i * c = lo x i + lo y i → Ev (fun k => impl_plus.l0 k (D y) out c (D x) ((D x).length : Int) (i : Int)) (D (x + y)) := by
  induction d with
  | zero =>
    intro i out c hi hg hl h0 h1 hv
    refine Ev.step (fun k => by rw [impl_plus.l0]) ?_
    refine Ev.neg (by omega) (Ev.pos (by omega) ?_)
    refine Ev.bind (trim_ev _ (hg.snoc h0 (by omega)) (by rw [List.length_append]; simp; omega)) (Ev.eq ?_)
    rw [val_snoc, hl, hv, lo_len (by omega), lo_len (by omega)]
    congr 1
  | succ d ih =>
    intro i out c hi hg hl h0 h1 hv
    refine Ev.step (fun k => by rw [impl_plus.l0]) ?_
    simp only [rd_dg]
    have b1 := dg_bd x i
    have b2 := dg_bd y i
    have e1 := lo_succ x i
    have e2 := lo_succ y i
    generalize dg x i = dx at *
    refine Ev.pos (by omega) (Ev.pos (by omega) (Ev.pos (by omega) ?_))
    refine Ev.ite (fun hlt => ?_) (fun hlt => ?_)
    · generalize dg y i = dy at *
      simp (disch := omega) only [w64, tmod_nn, tdiv_nn]
      refine Ev.pos (by omega) ?_
      rw [cast_succ]
      refine ih (i + 1) _ _ (by omega) (hg.snoc (by omega) (by omega)) (by simp; omega) (by omega) (by omega) ?_
      rw [val_snoc, hl, e1, e2, Int.pow_succ]
      exact step_add hv rfl
    · have e3 : dg y i = 0 := dg_len (by omega)
      rw [e3] at e2
      simp (disch := omega) only [w64, tmod_nn, tdiv_nn]
      refine Ev.pos (by omega) ?_
      rw [cast_succ]
      refine ih (i + 1) _ _ (by omega) (hg.snoc (by omega) (by omega)) (by simp; omega) (by omega) (by omega) ?_
      rw [val_snoc, hl, e1, e2, Int.pow_succ]
      exact step_add hv (by omega)
theorem plus_l1 (x y : Nat) (hx : (D x).length < 1000000) (hy : (D y).length ≤ (D x).length) (d : Nat) : ∀ (i : Nat) (out : List Int) (c : Int), i + d = (D x).length → GoodL out → out.length = i → 0 ≤ c → c ≤ 1 →
    val out + 65536 ^ i * c = lo x i + lo y i → Ev (fun k => impl_plus.l1 k (D y) out c (D x) ((D x).length : Int) (i : Int)) (D (x + y)) := by
  induction d with
  | zero =>
    intro i out c hi hg hl h0 h1 hv
    refine Ev.step (fun k => by rw [impl_plus.l1]) ?_
    refine Ev.neg (by omega) (Ev.pos (by omega) ?_)
    refine Ev.bind (trim_ev _ (hg.snoc h0 (by omega)) (by rw [List.length_append]; simp; omega)) (Ev.eq ?_)
    rw [val_snoc, hl, hv, lo_len (by omega), lo_len (by omega)]
    congr 1
  | succ d ih =>
    intro i out c hi hg hl h0 h1 hv
    refine Ev.step (fun k => by rw [impl_plus.l1]) ?_
    simp only [rd_dg]
    have b1 := dg_bd x i
    have b2 := dg_bd y i
    have e1 := lo_succ x i
    have e2 := lo_succ y i
    generalize dg x i = dx at *
    refine Ev.pos (by omega) (Ev.pos (by omega) (Ev.pos (by omega) ?_))
    refine Ev.ite (fun hlt => ?_) (fun hlt => ?_)
    · generalize dg y i = dy at *
      simp (disch := omega) only [w64, tmod_nn, tdiv_nn]
      refine Ev.pos (by omega) ?_
      rw [cast_succ]
      refine ih (i + 1) _ _ (by omega) (hg.snoc (by omega) (by omega)) (by simp; omega) (by omega) (by omega) ?_
      rw [val_snoc, hl, e1, e2, Int.pow_succ]
      exact step_add hv rfl
    · have e3 : dg y i = 0 := dg_len (by omega)
      rw [e3] at e2
      simp (disch := omega) only [w64, tmod_nn, tdiv_nn]
      refine Ev.pos (by omega) ?_
      rw [cast_succ]
      refine ih (i + 1) _ _ (by omega) (hg.snoc (by omega) (by omega)) (by simp; omega) (by omega) (by omega) ?_
      rw [val_snoc, hl, e1, e2, Int.pow_succ]
      exact step_add hv (by omega)
theorem plus_ev (x y : Nat) (hx : (D x).length < 1000000) (hy : (D y).length < 1000000) : Ev (fun k => impl_plus.f k (D x) (D y)) (D (x + y)) := by
  refine Ev.ite (fun h => ?_) (fun h => ?_)
  · simp (disch := omega) only [w64]
    refine Ev.pos (by omega) (Ev.pos (by omega) ?_)
    rw [Nat.add_comm]
    exact plus_l0 y x hy (by omega) _ 0 [] 0 (Nat.zero_add _) GoodL.nil rfl (by omega) (by omega) (by simp [val, lo_zero])
  · simp (disch := omega) only [w64]
    refine Ev.pos (by omega) (Ev.pos (by omega) ?_)
    exact plus_l1 x y hx (by omega) _ 0 [] 0 (Nat.zero_add _) GoodL.nil rfl (by omega) (by omega) (by simp [val, lo_zero])
/-- The reference's cutting of noughts. -/
theorem norm_l0 (l : List Int) (h : GoodL l) (hl : l.length < 1000000000) (n : Nat) (hn : n ≤ l.length) : Ev (fun k => spec_l2norm.l0 k l (n : Int)) (D (val (l.take n)).toNat) := by
  induction n with
  | zero =>
    refine Ev.step (fun k => by rw [spec_l2norm.l0]) ?_
    refine Ev.neg (by omega) (Ev.some (Ev.pos (by omega) (Ev.pos (by omega) (Ev.pos (by simp) (Ev.eq ?_)))))
    simp [val, D_zero]
  | succ n ih =>
    refine Ev.step (fun k => by rw [spec_l2norm.l0]) ?_
    simp (disch := omega) only [w64]
    refine Ev.pos (by omega) (Ev.pos (by omega) (Ev.pos (by omega) ?_))
    rw [show ((n + 1 : Nat) : Int) - 1 = (n : Int) by omega, rd_nat]
    have e : l.take (n + 1) = l.take n ++ [l.getD n 0] := by
      rw [List.take_succ_eq_append_getElem (by omega), List.getD_eq_getElem?_getD, List.getElem?_eq_getElem (by omega)]; rfl
    refine Ev.ite (fun h0 => ?_) (fun h0 => ?_)
    · have := ih (by omega)
      rw [e, val_snoc, h0]
      simpa using this
    · refine Ev.some (Ev.pos (by omega) (Ev.pos (by omega) (Ev.pos (by simp; omega) (Ev.eq ?_))))
      rw [Int.toNat_natCast, List.nil_append]
      refine (D_val (h.take _) ?_).symm
      intro hne
      simp only [e]
      rw [List.getLast_append]
      simpa using h0
theorem norm_ev (l : List Int) (h : GoodL l) (hl : l.length < 1000000000) : Ev (fun k => spec_l2norm.f k l) (D (val l).toNat) := by
  have := norm_l0 l h hl l.length (Nat.le_refl _)
  rwa [List.take_length] at this
/-- The program's difference, of a number and one that is not greater. -/
theorem minus_l0 (x y : Nat) (hx : (D x).length < 1000000) (hyx : y ≤ x) (d : Nat) : ∀ (i : Nat) (out : List Int) (c : Int), i + d = (D x).length → GoodL out → out.length = i → 0 ≤ c → c ≤ 1 →
    val out - 65536 ^ i * c = lo x i - lo y i → Ev (fun k => impl_minus.l0 k (D y) out c (D x) ((D x).length : Int) (i : Int)) (D (x - y)) := by
  have hlen := len_D_mono hyx
  induction d with
  | zero =>
    intro i out c hi hg hl h0 h1 hv
    refine Ev.step (fun k => by rw [impl_minus.l0]) ?_
    refine Ev.neg (by omega) ?_
    refine Ev.bind (trim_ev _ hg (by omega)) (Ev.eq ?_)
    rw [lo_len (by omega), lo_len (by omega)] at hv
    have h2 := val_lt hg
    rw [hl] at h2
    have hc : c = 0 := by
      rcases (by omega : c = 0 ∨ c = 1) with hc | hc
      · exact hc
      · subst hc; omega
    subst hc
    rw [show val out = ((x - y : Nat) : Int) by omega, Int.toNat_natCast]
  | succ d ih =>
    intro i out c hi hg hl h0 h1 hv
    refine Ev.step (fun k => by rw [impl_minus.l0]) ?_
    simp only [rd_dg]
    have b1 := dg_bd x i
    have b2 := dg_bd y i
    have e1 := lo_succ x i
    have e2 := lo_succ y i
    generalize dg x i = dx at *
    have fin : ∀ (r c' dy : Int), lo y (i + 1) = lo y i + 65536 ^ i * dy → r - 65536 * c' = dx - c - dy → 0 ≤ r → r < 65536 → 0 ≤ c' → c' ≤ 1 → Ev (fun k => impl_minus.l0 k (D y) (out ++ [r]) c' (D x) ((D x).length : Int) ((i : Int) + 1)) (D (x - y)) := by
      intro r c' dy e2' hr hr0 hr1 hc0 hc1
      rw [cast_succ]
      refine ih (i + 1) _ _ (by omega) (hg.snoc hr0 hr1) (by simp; omega) hc0 hc1 ?_
      rw [val_snoc, hl, e1, e2', Int.pow_succ]
      exact step_sub hv hr
    refine Ev.pos (by omega) (Ev.pos (by omega) (Ev.pos (by omega) ?_))
    refine Ev.ite (fun hlt => ?_) (fun hlt => ?_)
    · generalize dg y i = dy at *
      simp (disch := omega) only [w64]
      refine Ev.ite (fun hn => Ev.pos (by omega) ?_) (fun hn => Ev.pos (by omega) ?_)
      · exact fin _ _ dy e2 (by omega) (by omega) (by omega) (by omega) (by omega)
      · exact fin _ _ dy e2 (by omega) (by omega) (by omega) (by omega) (by omega)
    · have e3 : dg y i = 0 := dg_len (by omega)
      rw [e3] at e2
      simp (disch := omega) only [w64]
      refine Ev.ite (fun hn => Ev.pos (by omega) ?_) (fun hn => Ev.pos (by omega) ?_)
      · exact fin _ _ 0 e2 (by omega) (by omega) (by omega) (by omega) (by omega)
      · exact fin _ _ 0 e2 (by omega) (by omega) (by omega) (by omega) (by omega)
theorem minus_ev (x y : Nat) (hx : (D x).length < 1000000) (hyx : y ≤ x) : Ev (fun k => impl_minus.f k (D x) (D y)) (D (x - y)) := by
  unfold impl_minus.f
  refine Ev.pos (by omega) (Ev.pos (by omega) ?_)
  exact minus_l0 x y hx hyx _ 0 [] 0 (Nat.zero_add _) GoodL.nil rfl (by omega) (by omega) (by simp [val, lo_zero])
/-- The reference's sum. -/
theorem l2add_l0 (x y : Nat) (hx : (D x).length < 1000000) (hy : (D y).length < 1000000) (d : Nat) : ∀ (i : Nat) (out : List Int) (c : Int), i + d = max (D x).length (D y).length + 1 → GoodL out → out.length = i → 0 ≤ c → c ≤ 1 →
    (i = max (D x).length (D y).length + 1 → c = 0) → val out + 65536 ^ i * c = lo x i + lo y i → Ev (fun k => spec_l2add.l0 k out c (i : Int) (D x) (D y)) (D (x + y)) := by
  induction d with
  | zero =>
    intro i out c hi hg hl h0 h1 hc hv
    refine Ev.step (fun k => by rw [spec_l2add.l0]) ?_
    refine Ev.neg (by omega) (Ev.neg (by omega) ?_)
    refine Ev.step (fun k => by rw [spec_l2add.j1]) ?_
    have hc := hc (by omega)
    subst hc
    refine Ev.neg (by simp) (Ev.bind (norm_ev _ hg (by omega)) (Ev.eq ?_))
    rw [lo_len (by omega), lo_len (by omega)] at hv
    congr 1
    omega
  | succ d ih =>
    intro i out c hi hg hl h0 h1 hc hv
    have b1 := dg_bd x i
    have b2 := dg_bd y i
    have e1 := lo_succ x i
    have e2 := lo_succ y i
    have go : ∀ (s : Int), s = c + dg x i + dg y i → Ev (fun k => spec_l2add.l0 k (out ++ [s % 65536]) (s / 65536) ((i : Int) + 1) (D x) (D y)) (D (x + y)) := by
      intro s hs
      rw [cast_succ]
      refine ih (i + 1) _ _ (by omega) (hg.snoc (by omega) (by omega)) (by simp; omega) (by omega) (by omega) (fun hm => ?_) ?_
      · have z1 : dg x i = 0 := dg_len (by omega)
        have z2 : dg y i = 0 := dg_len (by omega)
        omega
      · rw [val_snoc, hl, e1, e2, Int.pow_succ]
        exact step_add hv hs
    have body : Ev (fun k => spec_l2add.j1 k out c (i : Int) true (D x) (D y)) (D (x + y)) := by
      refine Ev.step (fun k => by rw [spec_l2add.j1]) (Ev.pos rfl ?_)
      simp only [rd_dg]
      refine Ev.ite (fun hlt => Ev.pos (by omega) (Ev.ite (fun hly => ?_) (fun hly => ?_))) (fun hlt => Ev.ite (fun hly => Ev.pos (by omega) ?_) (fun hly => ?_))
      · simp (disch := omega) only [w64, tmod_nn, tdiv_nn]
        exact Ev.pos (by omega) (go _ (by omega))
      · have z2 : dg y i = 0 := dg_len (by omega)
        simp (disch := omega) only [w64, tmod_nn, tdiv_nn]
        exact Ev.pos (by omega) (go _ (by omega))
      · have z1 : dg x i = 0 := dg_len (by omega)
        simp (disch := omega) only [w64, tmod_nn, tdiv_nn]
        exact Ev.pos (by omega) (go _ (by omega))
      · have z1 : dg x i = 0 := dg_len (by omega)
        have z2 : dg y i = 0 := dg_len (by omega)
        simp (disch := omega) only [w64, tmod_nn, tdiv_nn]
        exact Ev.pos (by omega) (go _ (by omega))
    refine Ev.step (fun k => by rw [spec_l2add.l0]) ?_
    refine Ev.ite (fun _ => body) (fun hx' => Ev.ite (fun _ => body) (fun hy' => ?_))
    by_cases hcp : c > 0
    · rw [decide_eq_true hcp]; exact body
    · rw [decide_eq_false hcp]
      refine Ev.step (fun k => by rw [spec_l2add.j1]) ?_
      obtain rfl : c = 0 := by omega
      refine Ev.neg (by simp) (Ev.bind (norm_ev _ hg (by omega)) (Ev.eq ?_))
      rw [lo_len (by omega), lo_len (by omega)] at hv
      congr 1
      omega
theorem l2add_ev (x y : Nat) (hx : (D x).length < 1000000) (hy : (D y).length < 1000000) : Ev (fun k => spec_l2add.f k (D x) (D y)) (D (x + y)) :=
  l2add_l0 x y hx hy (max (D x).length (D y).length + 1) 0 [] 0 (Nat.zero_add _) GoodL.nil rfl (by omega) (by omega) (fun h => by omega) (by simp [val, lo_zero])
/-- The reference's difference. -/
theorem l2sub_l0 (x y : Nat) (hx : (D x).length < 1000000) (hyx : y ≤ x) (d : Nat) : ∀ (i : Nat) (out : List Int) (c : Int), i + d = (D x).length → GoodL out → out.length = i → 0 ≤ c → c ≤ 1 →
    val out - 65536 ^ i * c = lo x i - lo y i → Ev (fun k => spec_l2sub.l0 k out c (i : Int) (D x) (D y)) (D (x - y)) := by
  have hlen := len_D_mono hyx
  induction d with
  | zero =>
    intro i out c hi hg hl h0 h1 hv
    refine Ev.step (fun k => by rw [spec_l2sub.l0]) ?_
    refine Ev.neg (by omega) ?_
    refine Ev.bind (norm_ev _ hg (by omega)) (Ev.eq ?_)
    rw [lo_len (by omega), lo_len (by omega)] at hv
    have h2 := val_lt hg
    rw [hl] at h2
    have hc : c = 0 := by
      rcases (by omega : c = 0 ∨ c = 1) with hc | hc
      · exact hc
      · subst hc; omega
    subst hc
    rw [show val out = ((x - y : Nat) : Int) by omega, Int.toNat_natCast]
  | succ d ih =>
    intro i out c hi hg hl h0 h1 hv
    refine Ev.step (fun k => by rw [spec_l2sub.l0]) ?_
    simp only [rd_dg]
    have b1 := dg_bd x i
    have b2 := dg_bd y i
    have e1 := lo_succ x i
    have e2 := lo_succ y i
    generalize dg x i = dx at *
    have fin : ∀ (r c' dy : Int), lo y (i + 1) = lo y i + 65536 ^ i * dy → r - 65536 * c' = dx - c - dy → 0 ≤ r → r < 65536 → 0 ≤ c' → c' ≤ 1 → Ev (fun k => spec_l2sub.l0 k (out ++ [r]) c' ((i : Int) + 1) (D x) (D y)) (D (x - y)) := by
      intro r c' dy e2' hr hr0 hr1 hc0 hc1
      rw [cast_succ]
      refine ih (i + 1) _ _ (by omega) (hg.snoc hr0 hr1) (by simp; omega) hc0 hc1 ?_
      rw [val_snoc, hl, e1, e2', Int.pow_succ]
      exact step_sub hv hr
    refine Ev.pos (by omega) (Ev.pos (by omega) ?_)
    refine Ev.ite (fun hlt => ?_) (fun hlt => ?_)
    · generalize dg y i = dy at *
      simp (disch := omega) only [w64]
      refine Ev.ite (fun hn => Ev.pos (by omega) ?_) (fun hn => Ev.pos (by omega) ?_)
      · exact fin _ _ dy e2 (by omega) (by omega) (by omega) (by omega) (by omega)
      · exact fin _ _ dy e2 (by omega) (by omega) (by omega) (by omega) (by omega)
    · have e3 : dg y i = 0 := dg_len (by omega)
      rw [e3] at e2
      simp (disch := omega) only [w64]
      refine Ev.ite (fun hn => Ev.pos (by omega) ?_) (fun hn => Ev.pos (by omega) ?_)
      · exact fin _ _ 0 e2 (by omega) (by omega) (by omega) (by omega) (by omega)
      · exact fin _ _ 0 e2 (by omega) (by omega) (by omega) (by omega) (by omega)
theorem l2sub_ev (x y : Nat) (hx : (D x).length < 1000000) (hyx : y ≤ x) : Ev (fun k => spec_l2sub.f k (D x) (D y)) (D (x - y)) :=
  l2sub_l0 x y hx hyx _ 0 [] 0 (Nat.zero_add _) GoodL.nil rfl (by omega) (by omega) (by simp [val, lo_zero])
/-- Comparisons. -/
theorem Compare_ev (a b : Int) : cmp_Compare_int.f a b = some (if a < b then -1 else if a > b then 1 else 0) := by
  unfold cmp_Compare_int.f cmp_isNaN_int.f
  simp only [bne_self_eq_false, Option.bind_some]
  rw [if_neg (by simp), if_neg (by simp)]
  split
  · rfl
  · split <;> rfl
theorem cmp_step {x y i : Nat} (h : x / 65536 ^ (i + 1) = y / 65536 ^ (i + 1)) : (dg x i = dg y i → x / 65536 ^ i = y / 65536 ^ i) ∧ (dg x i < dg y i → x < y) ∧ (dg y i < dg x i → y < x) := by
  have e1 := div_pow_succ x i
  have e2 := div_pow_succ y i
  unfold dg
  refine ⟨fun h1 => by omega, fun h1 => lt_of_div (p := 65536 ^ i) (by omega), fun h1 => lt_of_div (p := 65536 ^ i) (by omega)⟩
theorem div_len {x n : Nat} (h : (D x).length ≤ n) : x / 65536 ^ n = 0 := Nat.div_eq_of_lt (len_D_le.1 h)
theorem compare_l0 (x y : Nat) (hx : (D x).length < 1000000) (hxy : (D x).length = (D y).length) (j : Nat) : j ≤ (D x).length → x / 65536 ^ j = y / 65536 ^ j → Ev (fun k => impl_compare.l0 k (D x) (D y) ((j : Int) - 1)) (cmpI x y) := by
  induction j with
  | zero =>
    intro _ he
    refine Ev.step (fun k => by rw [impl_compare.l0]) (Ev.neg (by omega) (Ev.eq ?_))
    rw [Nat.pow_zero, Nat.div_one, Nat.div_one] at he
    simp [cmpI, he]
  | succ j ih =>
    intro hj he
    obtain ⟨h1, h2, h3⟩ := cmp_step he
    refine Ev.step (fun k => by rw [impl_compare.l0]) ?_
    rw [show ((j + 1 : Nat) : Int) - 1 = (j : Int) by omega]
    simp only [rd_dg]
    simp (disch := omega) only [w64]
    refine Ev.pos (by omega) (Ev.pos (by omega) (Ev.pos (by omega) (Ev.pos (by omega) (Ev.ite (fun h => ih (by omega) (h1 h)) (fun h => ?_)))))
    simp only [Compare_ev, Option.bind_some]
    refine Ev.eq ?_
    unfold cmpI
    rcases Int.lt_or_gt_of_ne h with h | h
    · rw [if_pos h, if_pos (h2 h)]
    · have := h3 h
      rw [if_neg (by omega), if_pos h, if_neg (by omega), if_neg (by omega)]
theorem compare_ev (x y : Nat) (hx : (D x).length < 1000000) (hy : (D y).length < 1000000) : Ev (fun k => impl_compare.f k (D x) (D y)) (cmpI x y) := by
  unfold impl_compare.f
  simp (disch := omega) only [w64]
  refine Ev.ite (fun h => ?_) (fun h => ?_)
  · exact compare_l0 x y hx (by omega) _ (Nat.le_refl _) (by rw [div_len (Nat.le_refl _), div_len (by omega)])
  · simp only [Compare_ev, Option.bind_some]
    refine Ev.eq ?_
    unfold cmpI
    rcases Int.lt_or_gt_of_ne h with h | h
    · rw [if_pos h, if_pos (lt_of_len (by omega))]
    · have := @lt_of_len y x (by omega)
      rw [if_neg (by omega), if_pos h, if_neg (by omega), if_neg (by omega)]
theorem l2cmp_l0 (x y : Nat) (hx : (D x).length < 1000000) (hxy : (D x).length = (D y).length) (j : Nat) : j ≤ (D x).length → x / 65536 ^ j = y / 65536 ^ j → Ev (fun k => spec_l2cmp.l0 k ((j : Int) - 1) (D x) (D y)) (cmpI x y) := by
  induction j with
  | zero =>
    intro _ he
    refine Ev.step (fun k => by rw [spec_l2cmp.l0]) (Ev.neg (by omega) (Ev.eq ?_))
    rw [Nat.pow_zero, Nat.div_one, Nat.div_one] at he
    simp [cmpI, he]
  | succ j ih =>
    intro hj he
    obtain ⟨h1, h2, h3⟩ := cmp_step he
    refine Ev.step (fun k => by rw [spec_l2cmp.l0]) ?_
    rw [show ((j + 1 : Nat) : Int) - 1 = (j : Int) by omega]
    simp only [rd_dg]
    simp (disch := omega) only [w64]
    refine Ev.pos (by omega) (Ev.pos (by omega) (Ev.pos (by omega) (Ev.pos (by omega) (Ev.ite (fun h => Ev.eq ?_) (fun h => Ev.ite (fun h' => Ev.eq ?_) (fun h' => ih (by omega) (h1 (by omega))))))))
    · unfold cmpI
      rw [if_pos (h2 h)]
    · have := h3 h'
      unfold cmpI
      rw [if_neg (by omega), if_neg (by omega)]
theorem l2cmp_ev (x y : Nat) (hx : (D x).length < 1000000) (hy : (D y).length < 1000000) : Ev (fun k => spec_l2cmp.f k (D x) (D y)) (cmpI x y) := by
  unfold spec_l2cmp.f
  simp (disch := omega) only [w64]
  refine Ev.ite (fun h => ?_) (fun h => Ev.ite (fun h' => Ev.eq ?_) (fun h' => Ev.eq ?_))
  · exact l2cmp_l0 x y hx (by omega) _ (Nat.le_refl _) (by rw [div_len (Nat.le_refl _), div_len (by omega)])
  · unfold cmpI
    rw [if_pos (lt_of_len (by omega))]
  · have := @lt_of_len y x (by omega)
    unfold cmpI
    rw [if_neg (by omega), if_neg (by omega)]
end Go.Proofs.Ytjepgnfgalnjhaa.Low
namespace Go.Proofs.Ytjepgnfgalnjhaa.Law
open Go.RowKit (wrap64)
open Go.Proofs.Ytjepgnfgalnjhaa.Q Go.Proofs.YtjepgnfgalnjhaaW.PrintWords Go.Proofs.YtjepgnfgalnjhaaW.PrintLast Go.Proofs.YtjepgnfgalnjhaaW.PrintMore Go.Proofs.Ytjepgnfgalnjhaa.Num
open Go.Proofs.Ytjepgnfgalnjhaa.Ex Go.Proofs.Ytjepgnfgalnjhaa.Low
theorem toIntS_l0 (l : List Int) (hl : l.length < 100000000) (d : Nat) : ∀ (i : Nat) (out : List Int), i + d = l.length → out.length = l.length → out.take i = l.take i → Ev (fun k => laws_toIntS.l0 k l out (i : Int)) l := by
  induction d with
  | zero =>
    intro i out hi ho ht
    refine Ev.step (fun k => by rw [laws_toIntS.l0]) (Ev.neg (by omega) (Ev.eq ?_))
    rwa [List.take_of_length_le (by omega), List.take_of_length_le (by omega)] at ht
  | succ d ih =>
    intro i out hi ho ht
    refine Ev.step (fun k => by rw [laws_toIntS.l0]) (Ev.pos (by omega) (Ev.pos (by omega) (Ev.pos (by omega) ?_)))
    simp (disch := omega) only [w64]
    rw [cast_succ, Int.toNat_natCast]
    refine ih (i + 1) _ (by omega) (by rw [List.length_set]; exact ho) ?_
    rw [List.take_succ_eq_append_getElem (by rw [List.length_set]; omega), List.take_succ_eq_append_getElem (by omega), List.getElem_set_self, List.take_set_of_le (by omega), ht, rd_nat, List.getD_eq_getElem?_getD, List.getElem?_eq_getElem (by omega)]
    rfl
theorem toIntS_ev (l : List Int) (hl : l.length < 100000000) : Ev (fun k => laws_toIntS.f k l) l := by
  unfold laws_toIntS.f
  refine Ev.pos (by omega) (Ev.pos (by omega) ?_)
  exact toIntS_l0 l hl _ 0 _ (Nat.zero_add _) (by simp) rfl
theorem toNat_ev (l : List Int) (hl : l.length < 100000000) : Ev (fun k => laws_toNat.f k l) l := Ev.bind (toIntS_ev l hl) (Ev.now _)
theorem eqIntS_l0 (l : List Int) (hl : l.length < 100000000) (d : Nat) : ∀ (i : Nat), i + d = l.length → Ev (fun k => laws_eqIntS.l0 k l l (i : Int)) true := by
  induction d with
  | zero =>
    intro i hi
    exact Ev.step (fun k => by rw [laws_eqIntS.l0]) (Ev.neg (by omega) (Ev.now _))
  | succ d ih =>
    intro i hi
    refine Ev.step (fun k => by rw [laws_eqIntS.l0]) (Ev.pos (by omega) (Ev.pos (by omega) (Ev.pos (by omega) (Ev.pos rfl ?_))))
    simp (disch := omega) only [w64]
    rw [cast_succ]
    exact ih (i + 1) (by omega)
theorem eqIntS_ev (l : List Int) (hl : l.length < 100000000) : Ev (fun k => laws_eqIntS.f k l l) true := Ev.pos rfl (eqIntS_l0 l hl _ 0 (Nat.zero_add _))
theorem eqNat_ev (l : List Int) (hl : l.length < 100000000) : Ev (fun k => laws_eqNat.f k l l) true := Ev.bind (eqIntS_ev l hl) (Ev.pos rfl (Ev.now _))
/-- What marking leaves: one number behind the other. -/
def marks (n : Nat) (a : Int) : List Int := (List.range n).map fun (i : Nat) => a + (i : Int)
theorem marks_len (n : Nat) (a : Int) : (marks n a).length = n := by simp [marks]
theorem marks_rd (n : Nat) (a : Int) (i : Nat) (h : i < n) : rd (marks n a) (i : Int) = a + i := by
  rw [rd_nat, List.getD_eq_getElem?_getD, List.getElem?_eq_getElem (by rw [marks_len]; exact h)]
  simp [marks]
theorem markIntS_l0 (l : List Int) (a : Int) (ha : 0 ≤ a) (ha' : a < 1000000000000) (hl : l.length < 100000000) (d : Nat) : ∀ (i : Nat) (out : List Int), i + d = l.length → out.length = l.length → out.take i = marks i a → Ev (fun k => laws_markIntS.l0 k out (a + i) (i : Int)) (a + l.length, marks l.length a) := by
  induction d with
  | zero =>
    intro i out hi ho ht
    refine Ev.step (fun k => by rw [laws_markIntS.l0]) (Ev.neg (by omega) (Ev.eq ?_))
    rw [List.take_of_length_le (by omega)] at ht
    rw [ht, show i = l.length by omega]
  | succ d ih =>
    intro i out hi ho ht
    refine Ev.step (fun k => by rw [laws_markIntS.l0]) (Ev.pos (by omega) (Ev.pos (by omega) ?_))
    simp (disch := omega) only [w64]
    rw [Int.add_assoc, cast_succ, Int.toNat_natCast]
    refine ih (i + 1) _ (by omega) (by rw [List.length_set]; exact ho) ?_
    rw [List.take_succ_eq_append_getElem (by rw [List.length_set]; omega), List.getElem_set_self, List.take_set_of_le (by omega), ht]
    simp [marks, List.range_succ]
theorem markIntS_ev (l : List Int) (a : Int) (ha : 0 ≤ a) (ha' : a < 1000000000000) (hl : l.length < 100000000) : Ev (fun k => laws_markIntS.f k l a) (a + l.length, marks l.length a) := by
  have := markIntS_l0 l a ha ha' hl _ 0 l (Nat.zero_add _) rfl rfl
  unfold laws_markIntS.f
  simpa using this
theorem markNat_ev (l : List Int) (a : Int) (ha : 0 ≤ a) (ha' : a < 1000000000000) (hl : l.length < 100000000) : Ev (fun k => laws_markNat.f k l a) (a + l.length, marks l.length a) := Ev.bind (markIntS_ev l a ha ha' hl) (Ev.now _)
theorem heldIntS_l0 (n : Nat) (a : Int) (ha : 0 ≤ a) (ha' : a < 1000000000000) (hl : n < 100000000) (d : Nat) : ∀ (i : Nat), i + d = n → Ev (fun k => laws_heldIntS.l0 k (marks n a) (a + i) (i : Int)) (a + n) := by
  induction d with
  | zero =>
    intro i hi
    refine Ev.step (fun k => by rw [laws_heldIntS.l0]) (Ev.neg (by rw [marks_len]; omega) (Ev.eq ?_))
    omega
  | succ d ih =>
    intro i hi
    refine Ev.step (fun k => by rw [laws_heldIntS.l0]) (Ev.pos (by rw [marks_len]; omega) (Ev.pos (by omega) (Ev.pos (marks_rd n a i (by omega)) ?_)))
    simp (disch := omega) only [w64]
    rw [Int.add_assoc, cast_succ]
    exact ih (i + 1) (by omega)
theorem heldIntS_ev (n : Nat) (a : Int) (ha : 0 ≤ a) (ha' : a < 1000000000000) (hl : n < 100000000) : Ev (fun k => laws_heldIntS.f k (marks n a) a) (a + n) := by
  have := heldIntS_l0 n a ha ha' hl _ 0 (Nat.zero_add _)
  unfold laws_heldIntS.f
  simpa using this
theorem heldNat_ev (n : Nat) (a : Int) (ha : 0 ≤ a) (ha' : a < 1000000000000) (hl : n < 100000000) : Ev (fun k => laws_heldNat.f k (marks n a) a) (a + n) := Ev.bind (heldIntS_ev n a ha ha' hl) (Ev.neg (by omega) (Ev.now _))
/-- What is left of a size. -/
def left (n : Nat) (a : Int) : Int := if a - n < 0 then -1 else a - n
theorem left_eq {n : Nat} {a : Int} (h : ¬ left n a < 0) : left n a = a - n ∧ (n : Int) ≤ a := by
  unfold left at *
  by_cases h1 : a - (n : Int) < 0
  · rw [if_pos h1] at h; omega
  · rw [if_neg h1]; omega
theorem szIntS_eq (l : List Int) (a : Int) (ha : 0 ≤ a) (ha' : a ≤ 1048576) (hl : l.length ≤ 9223372036854775807) : laws_szIntS.f l a = some (left l.length a) := by
  unfold laws_szIntS.f left
  rw [w64 (by omega) (by omega)]
  split <;> rfl
theorem szNat_eq (l : List Int) (a : Int) (ha : 0 ≤ a) (ha' : a ≤ 1048576) (hl : l.length ≤ 9223372036854775807) : laws_szNat.f l a = some (left l.length a) := by
  unfold laws_szNat.f
  rw [szIntS_eq l a ha ha' hl, Option.bind_some]
  unfold left
  by_cases h : a - (l.length : Int) < 0
  · rw [if_pos h]; rfl
  · rw [if_neg h, if_neg h]
/-- The test of a number. -/
theorem limbB_iff (x : Int) : limbB x = true ↔ 0 ≤ x ∧ x < 65536 := by unfold limbB; simp; omega
theorem all_limbB {l : List Int} : l.all limbB = true ↔ GoodL l := by
  rw [List.all_eq_true]
  exact ⟨fun h x hx => (limbB_iff x).1 (h x hx), fun h x hx => (limbB_iff x).2 (h x hx)⟩
theorem natOkB_iff (l : List Int) : natOkB l = true ↔ ∃ n, l = D n ∧ (D n).length ≤ 100 := by
  unfold natOkB
  rw [Bool.and_eq_true, Bool.and_eq_true, Bool.or_eq_true, decide_eq_true_eq, all_limbB, decide_eq_true_eq]
  constructor
  · rintro ⟨h1, h2, h3⟩
    have hn : Norm l := by
      rw [norm_iff]
      rcases h3 with h3 | h3
      · exact .inl (List.eq_nil_of_length_eq_zero h3)
      · by_cases h0 : l = []
        · exact .inl h0
        · have := List.length_pos_iff.2 h0
          rw [show (l.length : Int) - 1 = ((l.length - 1 : Nat) : Int) by omega, rd_nat] at h3
          exact .inr (by simpa using h3)
    have e := D_val h2 hn
    exact ⟨(val l).toNat, e.symm, by rw [e]; exact h1⟩
  · rintro ⟨n, rfl, h1⟩
    refine ⟨h1, good_D n, ?_⟩
    rcases (norm_iff _).1 (norm_D n) with h | h
    · exact .inl (by rw [h]; rfl)
    · by_cases h0 : (D n).length = 0
      · exact .inl h0
      · refine .inr ?_
        rw [show ((D n).length : Int) - 1 = (((D n).length - 1 : Nat) : Int) by omega, rd_nat]
        simpa using h
theorem specNatOk_l0 (l : List Int) (hl : l.length ≤ 100) (d : Nat) : ∀ (i : Nat), i + d = l.length → GoodL (l.take i) → Ev (fun k => spec_NatOk.l0 k (i : Int) l) (natOkB l) := by
  have tk : ∀ i, (h : i < l.length) → l.take (i + 1) = l.take i ++ [rd l (i : Int)] := fun i h => by
    rw [List.take_succ_eq_append_getElem h, rd_nat, List.getD_eq_getElem?_getD, List.getElem?_eq_getElem h]; rfl
  induction d with
  | zero =>
    intro i hi hg
    rw [List.take_of_length_le (by omega)] at hg
    have e0 : natOkB l = (decide (l.length = 0) || rd l ((l.length : Int) - 1) != 0) := by
      unfold natOkB
      rw [decide_eq_true hl, all_limbB.2 hg]
      rfl
    refine Ev.step (fun k => by rw [spec_NatOk.l0]) (Ev.neg (by omega) ?_)
    simp (disch := omega) only [w64]
    refine Ev.ite (fun h => Ev.eq ?_) (fun h => Ev.pos (by omega) (Ev.pos (by omega) (Ev.eq ?_)))
    · rw [e0, decide_eq_true (by omega)]; rfl
    · have hz := good_rd hg ((l.length : Int) - 1)
      rw [e0, decide_eq_false (p := l.length = 0) (by omega), Bool.false_or]
      by_cases h1 : rd l ((l.length : Int) - 1) = 0
      · rw [h1]; rfl
      · rw [decide_eq_true (by omega)]
        exact (bne_iff_ne.2 h1).symm
  | succ d ih =>
    intro i hi hg
    refine Ev.step (fun k => by rw [spec_NatOk.l0]) (Ev.pos (by omega) (Ev.pos (by omega) ?_))
    simp (disch := omega) only [w64]
    have bad : ¬ (0 ≤ rd l (i : Int) ∧ rd l (i : Int) < 65536) → false = natOkB l := by
      intro h
      cases e : natOkB l with
      | false => rfl
      | true =>
        obtain ⟨n, hn, _⟩ := (natOkB_iff l).1 e
        exact absurd (good_rd (hn ▸ good_D n : GoodL l) (i : Int)) h
    refine Ev.ite (fun h => Ev.eq (bad (by omega))) (fun h => Ev.ite (fun h2 => Ev.eq (bad (by omega))) (fun h2 => ?_))
    rw [cast_succ]
    refine ih (i + 1) (by omega) ?_
    rw [tk i (by omega)]
    exact hg.snoc (by omega) (by omega)
theorem specNatOk_ev (l : List Int) : Ev (fun k => spec_NatOk.f k l) (natOkB l) := by
  unfold spec_NatOk.f
  refine Ev.ite (fun h => Ev.eq ?_) (fun h => specNatOk_l0 l (by omega) _ 0 (Nat.zero_add _) GoodL.nil)
  unfold natOkB
  rw [decide_eq_false (by omega)]
  rfl
/-- What is not too long. -/
def fits (l : List Int) : List Int × Bool := if l.length ≤ 100 then (l, true) else ([], false)
theorem clone_eq (l : List Int) (hl : l.length < 1000000000) : slices_Clone_int_int.f l = some l := by
  unfold slices_Clone_int_int.f
  simp only [Option.bind_some, List.length_nil, List.nil_append]
  rw [if_pos (by omega)]
theorem natOf_eq (l : List Int) (hl : l.length < 1000000000) : impl_natOf.f l = some (fits l) := by
  unfold impl_natOf.f fits
  by_cases h : l.length ≤ 100
  · rw [if_neg (by omega), if_pos h, clone_eq l hl]; rfl
  · rw [if_pos (by omega), if_neg h]
end Go.Proofs.Ytjepgnfgalnjhaa.Law
namespace Go.Proofs.Ytjepgnfgalnjhaa.ExA
open Go.RowKit (wrap64)
open Go.Proofs.Ytjepgnfgalnjhaa.Q Go.Proofs.YtjepgnfgalnjhaaW.PrintWords Go.Proofs.YtjepgnfgalnjhaaW.PrintLast Go.Proofs.YtjepgnfgalnjhaaW.PrintMore Go.Proofs.Ytjepgnfgalnjhaa.Num
open Go.Proofs.Ytjepgnfgalnjhaa.Ex Go.Proofs.Ytjepgnfgalnjhaa.Low Go.Proofs.Ytjepgnfgalnjhaa.Law
/-- The number of a list. -/
def N (l : List Int) : Nat := (val l).toNat
theorem N_D (n : Nat) : N (D n) = n := by unfold N; rw [val_D, Int.toNat_natCast]
theorem len_add {x y n : Nat} (hx : (D x).length ≤ n) (hy : (D y).length ≤ n) : (D (x + y)).length ≤ n + 1 := by
  rw [len_D_le] at *
  have := powN_pos n
  rw [Nat.pow_succ]
  omega
theorem len_mono {x y : Nat} (h : x ≤ y) : (D x).length ≤ (D y).length := by
  rw [len_D_le]
  exact Nat.lt_of_le_of_lt h ((len_D_le).1 (Nat.le_refl _))
theorem cmp_neg {x y : Nat} : cmpI x y < 0 ↔ x < y := by
  unfold cmpI; split <;> (try split) <;> omega
end Go.Proofs.Ytjepgnfgalnjhaa.ExA
namespace Go.Proofs.Ytjepgnfgalnjhaa.ExO
open Go.RowKit (wrap64)
open Go.Proofs.Ytjepgnfgalnjhaa.Q Go.Proofs.YtjepgnfgalnjhaaW.PrintWords Go.Proofs.YtjepgnfgalnjhaaW.PrintLast Go.Proofs.YtjepgnfgalnjhaaW.PrintMore Go.Proofs.Ytjepgnfgalnjhaa.Num
open Go.Proofs.Ytjepgnfgalnjhaa.Ex Go.Proofs.Ytjepgnfgalnjhaa.Low Go.Proofs.Ytjepgnfgalnjhaa.Law Go.Proofs.Ytjepgnfgalnjhaa.ExA
theorem D_inj {x y : Nat} : D x = D y ↔ x = y := by
  constructor
  · intro h; have := congrArg N h; rwa [N_D, N_D] at this
  · rintro rfl; rfl
end Go.Proofs.Ytjepgnfgalnjhaa.ExO
namespace Go.Proofs.Ytjepgnfgalnjhaa.ExW
open Go.RowKit (wrap64)
open Go.Proofs.Ytjepgnfgalnjhaa.Q Go.Proofs.YtjepgnfgalnjhaaW.PrintWords Go.Proofs.YtjepgnfgalnjhaaW.PrintLast Go.Proofs.YtjepgnfgalnjhaaW.PrintMore Go.Proofs.Ytjepgnfgalnjhaa.Num
open Go.Proofs.Ytjepgnfgalnjhaa.Ex Go.Proofs.Ytjepgnfgalnjhaa.Low Go.Proofs.Ytjepgnfgalnjhaa.Law Go.Proofs.Ytjepgnfgalnjhaa.ExA
theorem D_len_pos (n : Nat) : 0 < (D n).length ↔ 0 < n := by
  have h := @len_D_le n 0
  constructor
  · intro a; apply Nat.pos_of_ne_zero; intro b; subst b; have := h.2 (by decide); omega
  · intro a; apply Nat.pos_of_ne_zero; intro b; have := h.1 (by omega); simp at this; omega
theorem D_len_pos' (n : Nat) : decide (0 < (D n).length) = decide (0 < n) := by simp only [D_len_pos]
/-- A sign and a size. -/
def Zi (s : Bool) (x : Nat) : Int := if s then -(x : Int) else x
/-- An integer's parts. -/
def Wi (z : Int) : Bool × List Int := (decide (z < 0), D z.natAbs)
def wfit (z : Int) : Bool × List Int × Bool := if (D z.natAbs).length ≤ 100 then (decide (z < 0), D z.natAbs, true) else (false, [], false)
def whOkB (s : Bool) (l : List Int) : Bool := natOkB l && (!s || decide (0 < l.length))
def whBin (op : Int → Int → Int) (s : Bool) (a : List Int) (t : Bool) (b : List Int) : Bool × List Int × Bool := if whOkB s a = true ∧ whOkB t b = true then wfit (op (Zi s (N a)) (Zi t (N b))) else (false, [], false)
theorem whBin_len (op : Int → Int → Int) (s : Bool) (a : List Int) (t : Bool) (b : List Int) : (whBin op s a t b).2.1.length ≤ 100 := by
  unfold whBin wfit
  split
  · split
    · assumption
    · simp
  · simp
theorem normD_ev (n : Nat) (h : (D n).length < 1000000000) : Ev (fun k => spec_l2norm.f k (D n)) (D n) := by
  have := norm_ev (D n) (good_D n) h
  rwa [val_D, Int.toNat_natCast] at this
theorem l3make_ev (s : Bool) (n : Nat) (h : (D n).length < 1000000000) : Ev (fun k => spec_l3make.f k s (D n)) (s && decide (0 < n), D n) := by
  refine Ev.ite (fun hs => Ev.bind (normD_ev n h) (Ev.eq ?_)) (fun hs => Ev.bind (normD_ev n h) (Ev.eq ?_))
  · subst hs; rw [D_len_pos']; rfl
  · simp only [Bool.not_eq_true] at hs; subst hs; rfl
theorem specWhOk_ev (s : Bool) (l : List Int) : Ev (fun k => spec_WholeOk.f k s l) (whOkB s l) := by
  refine Ev.bind (specNatOk_ev l) (Ev.ite (fun h => Ev.ite (fun hs => Ev.eq ?_) (fun hs => Ev.eq ?_)) (fun h => Ev.eq ?_))
  · unfold whOkB; simp [h, hs]
  · unfold whOkB; simp [h, hs]
  · unfold whOkB; simp_all
theorem implWhOk_eq (s : Bool) (l : List Int) : impl_WholeOk.f s l = some (whOkB s l) := by
  unfold impl_WholeOk.f
  unfold impl_NatOk.f
  rw [Option.bind_some]
  unfold whOkB
  cases natOkB l <;> cases s <;> simp <;> (cases l <;> simp <;> omega)
theorem areWholes_eq (s : Bool) (a : List Int) (t : Bool) (b : List Int) : impl_areWholes.f s a t b = some (whOkB s a && whOkB t b) := by
  unfold impl_areWholes.f
  rw [implWhOk_eq, implWhOk_eq]
  cases whOkB s a <;> simp
theorem wholeOf_eq (s : Bool) (n : Nat) (h : (D n).length < 1000000000) : impl_wholeOf.f s (D n) = some (if (D n).length ≤ 100 then (s && decide (0 < n), D n, true) else (false, [], false)) := by
  unfold impl_wholeOf.f
  rw [natOf_eq _ h, Option.bind_some]
  unfold fits
  by_cases c : (D n).length ≤ 100
  · rw [if_pos c, if_pos c]; cases s <;> simp [D_len_pos']
  · rw [if_neg c, if_neg c]; simp
theorem l3fits_eq (s : Bool) (l : List Int) : spec_l3fits.f s l = some (if l.length ≤ 100 then (s, l, true) else (false, [], false)) := by
  unfold spec_l3fits.f
  by_cases c : l.length ≤ 100
  · rw [if_neg (by omega), if_pos c]
  · rw [if_pos (by omega), if_neg c]
theorem l3fits_W (z : Int) : spec_l3fits.f (Wi z).1 (Wi z).2 = some (wfit z) := by rw [l3fits_eq]; rfl
theorem Wi_same (s : Bool) (x y : Nat) : (s && decide (0 < x + y), D (x + y)) = Wi (Zi s x + Zi s y) := by
  unfold Wi Zi
  cases s
  · simp only [Bool.false_and, Bool.false_eq_true, if_false]
    rw [show ((x : Int) + (y : Int)).natAbs = x + y by omega, decide_eq_false (by omega)]
  · simp only [Bool.true_and, if_true]
    rw [show (-(x : Int) + -(y : Int)).natAbs = x + y by omega]
    congr 1
    rw [decide_eq_decide]; omega
theorem Wi_less (s t : Bool) (x y : Nat) (hst : s ≠ t) (h : y ≤ x) : (s && decide (0 < x - y), D (x - y)) = Wi (Zi s x + Zi t y) := by
  unfold Wi Zi
  cases s <;> cases t <;> simp only [ne_eq, not_true_eq_false, reduceCtorEq, not_false_eq_true] at hst
  · simp only [Bool.false_and, Bool.false_eq_true, if_false, if_true]
    rw [show ((x : Int) + -(y : Int)).natAbs = x - y by omega, decide_eq_false (by omega)]
  · simp only [Bool.true_and, if_true, Bool.false_eq_true, if_false]
    rw [show (-(x : Int) + (y : Int)).natAbs = x - y by omega]
    congr 1
    rw [decide_eq_decide]; omega
theorem len_addN {x y : Nat} (hx : (D x).length ≤ 200) (hy : (D y).length ≤ 200) : (D (x + y)).length ≤ 201 := len_add hx hy
theorem l3add_ev (s : Bool) (x : Nat) (t : Bool) (y : Nat) (hx : (D x).length ≤ 200) (hy : (D y).length ≤ 200) : Ev (fun k => spec_l3add.f k s (D x) t (D y)) (Wi (Zi s x + Zi t y)) := by
  have hxy := len_addN hx hy
  have hs1 := len_mono (Nat.sub_le x y)
  have hs2 := len_mono (Nat.sub_le y x)
  refine Ev.ite (fun h => ?_) (fun h => Ev.bind (l2cmp_ev x y (by omega) (by omega)) (Ev.ite (fun c => ?_) (fun c => ?_)))
  · obtain rfl : s = t := by simpa using h
    refine Ev.bind (l2add_ev x y (by omega) (by omega)) (Ev.bind (l3make_ev s (x + y) (by omega)) (Ev.eq ?_))
    exact Wi_same s x y
  · have hst : s ≠ t := by simpa using h
    have : y ≤ x := by have := @cmp_neg x y; omega
    refine Ev.bind (l2sub_ev x y (by omega) this) (Ev.bind (l3make_ev s (x - y) (by omega)) (Ev.eq ?_))
    exact Wi_less s t x y hst this
  · have hst : s ≠ t := by simpa using h
    have : x ≤ y := by have := @cmp_neg x y; omega
    refine Ev.bind (l2sub_ev y x (by omega) this) (Ev.bind (l3make_ev t (y - x) (by omega)) (Ev.eq ?_))
    rw [Int.add_comm]
    exact Wi_less t s y x (Ne.symm hst) this
theorem signedSum_ev (s : Bool) (x : Nat) (t : Bool) (y : Nat) (hx : (D x).length ≤ 200) (hy : (D y).length ≤ 200) : ∃ u n, Ev (fun k => impl_signedSum.f k s (D x) t (D y)) (u, D n) ∧ (D n).length ≤ 201 ∧ (u && decide (0 < n), D n) = Wi (Zi s x + Zi t y) := by
  have hxy := len_addN hx hy
  have hs1 := len_mono (Nat.sub_le x y)
  have hs2 := len_mono (Nat.sub_le y x)
  by_cases hst : s = t
  · subst hst
    refine ⟨s, x + y, Ev.pos (by simp) (Ev.bind (plus_ev x y (by omega) (by omega)) (Ev.now _)), hxy, Wi_same s x y⟩
  · by_cases c : x < y
    · refine ⟨t, y - x, Ev.neg (by simpa using hst) (Ev.bind (compare_ev x y (by omega) (by omega)) (Ev.neg (by have := @cmp_neg x y; omega) (Ev.bind (minus_ev y x (by omega) (by omega)) (Ev.now _)))), by omega, ?_⟩
      rw [Int.add_comm]
      exact Wi_less t s y x (Ne.symm hst) (by omega)
    · refine ⟨s, x - y, Ev.neg (by simpa using hst) (Ev.bind (compare_ev x y (by omega) (by omega)) (Ev.pos (by have := @cmp_neg x y; omega) (Ev.bind (minus_ev x y (by omega) (by omega)) (Ev.now _)))), by omega, ?_⟩
      exact Wi_less s t x y hst (by omega)
theorem l3neg_ev (s : Bool) (x : Nat) (hx : (D x).length ≤ 200) : Ev (fun k => spec_l3neg.f k s (D x)) (!s && decide (0 < x), D x) := Ev.bind (l3make_ev (!s) x (by omega)) (Ev.now _)
theorem Zi_and (s : Bool) (x : Nat) : Zi (s && decide (0 < x)) x = Zi s x := by
  unfold Zi
  by_cases h : 0 < x
  · simp [h]
  · have : x = 0 := by omega
    subst this; cases s <;> simp
theorem Zi_not (s : Bool) (x : Nat) : Zi (!s) x = - Zi s x := by unfold Zi; cases s <;> simp
theorem wfit_of {u : Bool} {n : Nat} {z : Int} (h : (u && decide (0 < n), D n) = Wi z) : (if (D n).length ≤ 100 then (u && decide (0 < n), D n, true) else (false, [], false)) = wfit z := by
  unfold Wi at h
  unfold wfit
  obtain ⟨h1, h2⟩ := Prod.mk.inj h
  rw [← h2, ← h1]
theorem whOk_nat {s : Bool} {a : List Int} (h : whOkB s a = true) : ∃ x, a = D x ∧ (D x).length ≤ 100 := by
  unfold whOkB at h
  rw [Bool.and_eq_true] at h
  exact (natOkB_iff a).1 h.1
theorem specWholeSub_ev (s : Bool) (a : List Int) (t : Bool) (b : List Int) : Ev (fun k => spec_WholeSub.f k s a t b) (whBin (· - ·) s a t b) := by
  refine Ev.bind (specWhOk_ev s a) (Ev.ite (fun ha => Ev.bind (specWhOk_ev t b) (Ev.step (fun k => by rw [spec_WholeSub.j0]) ?_)) (fun ha => Ev.step (fun k => by rw [spec_WholeSub.j0]) (Ev.pos rfl (Ev.eq ?_))))
  · refine Ev.ite (fun hb => Ev.eq ?_) (fun hb => ?_)
    · unfold whBin; rw [if_neg (by simp_all)]
    · have hb : whOkB t b = true := by simpa using hb
      obtain ⟨x, rfl, hx⟩ := whOk_nat ha
      obtain ⟨y, rfl, hy⟩ := whOk_nat hb
      refine Ev.bind (l3neg_ev t y (by omega)) (Ev.bind (l3add_ev s x _ y (by omega) (by omega)) ?_)
      simp only [l3fits_W, Option.bind_some]
      refine Ev.eq ?_
      unfold whBin
      rw [if_pos ⟨ha, hb⟩, N_D, N_D, Zi_and, Zi_not]
      exact congrArg wfit Int.sub_eq_add_neg.symm
  · unfold whBin; rw [if_neg (by simp_all)]
theorem implWholeSub_ev (s : Bool) (a : List Int) (t : Bool) (b : List Int) : Ev (fun k => impl_WholeSub.f k s a t b) (whBin (· - ·) s a t b) := by
  unfold impl_WholeSub.f
  simp only [areWholes_eq, Option.bind_some]
  refine Ev.ite (fun h => ?_) (fun h => Ev.eq ?_)
  · rw [Bool.and_eq_true] at h
    obtain ⟨x, rfl, hx⟩ := whOk_nat h.1
    obtain ⟨y, rfl, hy⟩ := whOk_nat h.2
    obtain ⟨u, n, he, hl, hw⟩ := signedSum_ev s x (!t) y (by omega) (by omega)
    refine Ev.bind he ?_
    simp only [wholeOf_eq u n (by omega), Option.bind_some]
    refine Ev.eq ?_
    unfold whBin
    rw [if_pos h, N_D, N_D, wfit_of hw, Zi_not]
    exact congrArg wfit Int.sub_eq_add_neg.symm
  · unfold whBin; rw [if_neg (by simpa using h)]
theorem szWhole_eq (s : Bool) (l : List Int) (a : Int) (ha : 0 ≤ a) (ha' : a ≤ 1048576) (hl : l.length ≤ 9223372036854775807) : laws_szWhole.f s l a = some (left l.length a) := by
  unfold laws_szWhole.f
  rw [szNat_eq l a ha ha' hl, Option.bind_some]
  unfold left
  by_cases h : a - (l.length : Int) < 0
  · rw [if_pos h]; rfl
  · rw [if_neg h, if_neg h]
theorem toWhole_ev (s : Bool) (l : List Int) (hl : l.length < 100000000) : Ev (fun k => laws_toWhole.f k s l) (s, l) := Ev.bind (toNat_ev l hl) (Ev.now _)
theorem eqWhole_ev (s : Bool) (l : List Int) (hl : l.length < 100000000) : Ev (fun k => laws_eqWhole.f k s l s l) true := Ev.neg (by simp) (Ev.bind (eqNat_ev l hl) (Ev.pos rfl (Ev.now _)))
theorem markWhole_ev (s : Bool) (l : List Int) (a : Int) (ha : 0 ≤ a) (ha' : a < 1000000000000) (hl : l.length < 100000000) : Ev (fun k => laws_markWhole.f k s l a) (a + l.length, marks l.length a) := Ev.bind (markNat_ev l a ha ha' hl) (Ev.now _)
theorem heldWhole_ev (s : Bool) (n : Nat) (a : Int) (ha : 0 ≤ a) (ha' : a < 1000000000000) (hl : n < 100000000) : Ev (fun k => laws_heldWhole.f k s (marks n a) a) (a + n) := Ev.bind (heldNat_ev n a ha ha' hl) (Ev.neg (by omega) (Ev.now _))
theorem FnExactWholeSub_ev (a0 : Bool) (l0 : List Int) (a1 : Bool) (l1 : List Int) (h0 : l0.length ≤ 9223372036854775807) (h1 : l1.length ≤ 9223372036854775807) : Ev (fun k => laws_FnExactWholeSub.f k a0 l0 a1 l1) true := by
  have hl := whBin_len (· - ·) a0 l0 a1 l1
  have hs := specWholeSub_ev a0 l0 a1 l1
  have hi := implWholeSub_ev a0 l0 a1 l1
  generalize whBin (· - ·) a0 l0 a1 l1 = W at *
  obtain ⟨s, g, b⟩ := W
  unfold laws_FnExactWholeSub.f
  simp only [szWhole_eq a0 l0 1048576 (by omega) (by omega) (by omega), Option.bind_some]
  refine Ev.ite (fun _ => Ev.now _) (fun s0 => ?_)
  obtain ⟨r0, r1⟩ := left_eq s0
  simp only [r0, szWhole_eq a1 l1 (1048576 - (l0.length : Int)) (by omega) (by omega) (by omega), Option.bind_some]
  refine Ev.ite (fun _ => Ev.now _) (fun s1 => ?_)
  obtain ⟨r2, r3⟩ := left_eq s1
  clear s0 s1 r0 r2
  repeat first
    | exact Ev.now _
    | refine Ev.bind (toWhole_ev _ _ (by omega)) ?_
    | refine Ev.bind hs ?_
    | refine Ev.bind hi ?_
    | refine Ev.bind (eqWhole_ev _ _ (by first | omega | (dsimp only at *; omega))) ?_
    | refine Ev.bind (markWhole_ev _ _ _ (by first | omega | (dsimp only at *; omega)) (by first | omega | (dsimp only at *; omega)) (by first | omega | (dsimp only at *; omega))) ?_
    | refine Ev.bind (heldWhole_ev _ _ _ (by first | omega | (dsimp only at *; omega)) (by first | omega | (dsimp only at *; omega)) (by first | omega | (dsimp only at *; omega))) ?_
    | refine Ev.pos rfl ?_
    | refine Ev.neg (by omega) ?_
    | refine Ev.neg (by simp) ?_
end Go.Proofs.Ytjepgnfgalnjhaa.ExW
