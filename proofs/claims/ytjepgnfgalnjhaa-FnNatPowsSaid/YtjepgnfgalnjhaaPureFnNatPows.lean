/- The plain side of the statements: what the printed functions come to, in plain numbers. No conditions. -/
import Derived.Test.YtjepgnfgalnjhaaQ3
import Derived.Test.YtjepgnfgalnjhaaQ5
import Derived.Test.YtjepgnfgalnjhaaQ13
import Derived.Test.YtjepgnfgalnjhaaQ14
import Derived.Test.YtjepgnfgalnjhaaQ15
import Derived.Test.YtjepgnfgalnjhaaQ16
import Derived.Test.YtjepgnfgalnjhaaQ17
import Derived.Test.YtjepgnfgalnjhaaQ18
import Derived.Test.YtjepgnfgalnjhaaQ19
import Derived.Test.YtjepgnfgalnjhaaQ42
import Derived.Test.YtjepgnfgalnjhaaQ50
import Derived.Test.YtjepgnfgalnjhaaQ57
import Derived.Test.YtjepgnfgalnjhaaQ59
import Derived.Test.YtjepgnfgalnjhaaQ61
import Derived.Test.YtjepgnfgalnjhaaQ62
import Derived.Test.YtjepgnfgalnjhaaQ64
import Derived.Test.YtjepgnfgalnjhaaQ65
import Derived.Test.YtjepgnfgalnjhaaQ66
import Derived.Test.YtjepgnfgalnjhaaQ67
import Derived.Test.YtjepgnfgalnjhaaQ68
import Derived.Test.YtjepgnfgalnjhaaQ69
import Derived.Test.YtjepgnfgalnjhaaQ70
import Derived.Test.YtjepgnfgalnjhaaQ71
import Derived.Test.YtjepgnfgalnjhaaQ72
import Derived.Test.YtjepgnfgalnjhaaQ74
import Derived.Test.YtjepgnfgalnjhaaQ75
import Derived.Test.YtjepgnfgalnjhaaQ76
set_option linter.unusedVariables false
set_option linter.unusedSimpArgs false
namespace Go.Proofs.Ytjepgnfgalnjhaa.Num
end Go.Proofs.Ytjepgnfgalnjhaa.Num
namespace Go.Proofs.Ytjepgnfgalnjhaa.And
open Go.RowKit (wrap64)
open Go.Proofs.Ytjepgnfgalnjhaa.Q Go.Proofs.YtjepgnfgalnjhaaW.PrintWords Go.Proofs.YtjepgnfgalnjhaaW.PrintLast Go.Proofs.YtjepgnfgalnjhaaW.PrintMore Go.Proofs.Ytjepgnfgalnjhaa.Num
theorem and255 (n : Int) : Go.bits .and .i64 n 255 = n % 256 := by
  have h255 : (BitVec.ofInt 64 255).toNat = 2 ^ 8 - 1 := by decide
  have key : (BitVec.ofInt 64 n &&& BitVec.ofInt 64 255).toNat = (n % ((2 ^ 64 : Nat) : Int)).toNat % 2 ^ 8 := by
    rw [BitVec.toNat_and, BitVec.toNat_ofInt, h255, Nat.and_two_pow_sub_one_eq_mod]
  show Go.IntKind.i64.wrap ((BitVec.ofInt 64 n &&& BitVec.ofInt 64 255).toNat : Nat) = n % 256
  rw [key, Go.IntKind.wrap_i64]
  omega
end Go.Proofs.Ytjepgnfgalnjhaa.And
namespace Go.Proofs.Ytjepgnfgalnjhaa.Num
/-- The digits of a number, none for 0. -/
def D (n : Nat) : List Int := if h : n = 0 then [] else ((n % 65536 : Nat) : Int) :: D (n / 65536)
termination_by n
decreasing_by omega
theorem D_zero : D 0 = [] := by rw [D]; simp
theorem D_pos {n : Nat} (h : n ≠ 0) : D n = ((n % 65536 : Nat) : Int) :: D (n / 65536) := by rw [D]; simp [h]
def val : List Int → Int
  | [] => 0
  | x :: xs => x + 65536 * val xs
def GoodL (l : List Int) : Prop := ∀ x ∈ l, 0 ≤ x ∧ x < 65536
theorem GoodL.nil : GoodL [] := fun _ h => by simp at h
theorem GoodL.cons {x : Int} {l : List Int} (h0 : 0 ≤ x) (h1 : x < 65536) (h : GoodL l) : GoodL (x :: l) := by
  intro y hy
  rcases List.mem_cons.1 hy with rfl | hy
  · exact ⟨h0, h1⟩
  · exact h y hy
theorem GoodL.tail {x : Int} {l : List Int} (h : GoodL (x :: l)) : GoodL l := fun y hy => h y (List.mem_cons_of_mem _ hy)
theorem GoodL.head {x : Int} {l : List Int} (h : GoodL (x :: l)) : 0 ≤ x ∧ x < 65536 := h x List.mem_cons_self
theorem GoodL.append {a b : List Int} (ha : GoodL a) (hb : GoodL b) : GoodL (a ++ b) := by
  intro x hx
  rcases List.mem_append.1 hx with hx | hx
  · exact ha x hx
  · exact hb x hx
theorem GoodL.snoc {l : List Int} {x : Int} (h : GoodL l) (h0 : 0 ≤ x) (h1 : x < 65536) : GoodL (l ++ [x]) := h.append (GoodL.nil.cons h0 h1)
theorem GoodL.set {l : List Int} (h : GoodL l) (i : Nat) {x : Int} (h0 : 0 ≤ x) (h1 : x < 65536) : GoodL (l.set i x) := by
  intro y hy
  rcases List.mem_or_eq_of_mem_set hy with hy | rfl
  · exact h y hy
  · exact ⟨h0, h1⟩
theorem GoodL.take {l : List Int} (h : GoodL l) (i : Nat) : GoodL (l.take i) := fun x hx => h x (List.mem_of_mem_take hx)
theorem GoodL.zeros (n : Nat) : GoodL (List.replicate n 0) := by
  intro x hx
  have := (List.mem_replicate.1 hx).2
  omega
theorem GoodL.getD {l : List Int} (h : GoodL l) (i : Nat) : 0 ≤ l.getD i 0 ∧ l.getD i 0 < 65536 := by
  rw [List.getD_eq_getElem?_getD]
  cases e : l[i]? with
  | none => simp
  | some x => simpa using h x (List.mem_of_getElem? e)
theorem val_nil : val [] = 0 := rfl
theorem val_cons (x : Int) (l : List Int) : val (x :: l) = x + 65536 * val l := rfl
theorem val_append (a b : List Int) : val (a ++ b) = val a + 65536 ^ a.length * val b := by
  induction a with
  | nil => simp [val]
  | cons x a ih => rw [List.cons_append, val_cons, val_cons, ih, List.length_cons, Int.pow_succ]; grind
theorem val_snoc (a : List Int) (x : Int) : val (a ++ [x]) = val a + 65536 ^ a.length * x := by
  rw [val_append]; simp [val]
theorem val_zeros (n : Nat) : val (List.replicate n 0) = 0 := by
  induction n with
  | zero => rfl
  | succ n ih => rw [List.replicate_succ, val_cons, ih]; rfl
theorem pow_pos' (n : Nat) : (0 : Int) < 65536 ^ n := Int.pow_pos (by decide)
theorem powN_pos (n : Nat) : 0 < 65536 ^ n := Nat.pow_pos (by decide)
theorem pow_cast (n : Nat) : ((65536 ^ n : Nat) : Int) = (65536 : Int) ^ n := by rw [Int.natCast_pow]; rfl
theorem val_nonneg {l : List Int} (h : GoodL l) : 0 ≤ val l := by
  induction l with
  | nil => simp [val]
  | cons x l ih => have := ih h.tail; have := h.head; rw [val_cons]; omega
theorem val_lt {l : List Int} (h : GoodL l) : val l < 65536 ^ l.length := by
  induction l with
  | nil => simp [val]
  | cons x l ih =>
    have h1 := ih h.tail
    have h2 := h.head
    rw [val_cons, List.length_cons, Int.pow_succ]
    omega
theorem good_D (n : Nat) : GoodL (D n) := by
  induction n using Nat.strongRecOn with
  | _ n ih =>
    by_cases h : n = 0
    · subst h; rw [D_zero]; exact GoodL.nil
    · rw [D_pos h]; exact GoodL.cons (by omega) (by omega) (ih _ (by omega))
theorem val_D (n : Nat) : val (D n) = n := by
  induction n using Nat.strongRecOn with
  | _ n ih =>
    by_cases h : n = 0
    · subst h; rw [D_zero]; rfl
    · rw [D_pos h, val_cons, ih _ (by omega)]; omega
theorem D_inj {a b : Nat} (h : D a = D b) : a = b := by
  have := val_D a
  rw [h, val_D] at this
  omega
theorem D_nil_iff {n : Nat} : D n = [] ↔ n = 0 := by
  constructor
  · intro h
    exact D_inj (h.trans D_zero.symm)
  · rintro rfl; exact D_zero
theorem len_D_le {n k : Nat} : (D n).length ≤ k ↔ n < 65536 ^ k := by
  induction k generalizing n with
  | zero =>
    rw [Nat.pow_zero]
    constructor
    · intro h
      have := D_nil_iff.1 (List.eq_nil_of_length_eq_zero (by omega : (D n).length = 0))
      omega
    · intro h
      obtain rfl : n = 0 := by omega
      simp [D_zero]
  | succ k ih =>
    by_cases h : n = 0
    · subst h; simp [D_zero, powN_pos]
    · rw [D_pos h, List.length_cons, Nat.pow_succ]
      have := @ih (n / 65536)
      omega
theorem lt_len_D (n : Nat) : n < 65536 ^ (D n).length := len_D_le.1 (Nat.le_refl _)
/-- A digit of a good list, by its value. -/
theorem getD_val {l : List Int} (h : GoodL l) (i : Nat) : l.getD i 0 = val l / 65536 ^ i % 65536 := by
  induction l generalizing i with
  | nil => simp [val]
  | cons x l ih =>
    have hx := h.head
    rw [val_cons]
    cases i with
    | zero => simp; omega
    | succ i =>
      rw [List.getD_cons_succ, ih h.tail, Int.pow_succ, Int.mul_comm (65536 ^ i), ← Int.ediv_ediv_of_nonneg (by omega)]
      congr 2
      omega
theorem getD_D (n i : Nat) : (D n).getD i 0 = ((n / 65536 ^ i % 65536 : Nat) : Int) := by
  rw [getD_val (good_D n), val_D, ← pow_cast]
  omega
def Norm (l : List Int) : Prop := ∀ h : l ≠ [], l.getLast h ≠ 0
theorem norm_D (n : Nat) : Norm (D n) := by
  induction n using Nat.strongRecOn with
  | _ n ih =>
    intro h
    by_cases h0 : n = 0
    · exact absurd (D_nil_iff.2 h0) h
    · have e := D_pos h0
      by_cases h1 : D (n / 65536) = []
      · have := D_nil_iff.1 h1
        simp only [e, h1]
        simp
        omega
      · simp only [e, List.getLast_cons h1]
        exact ih _ (by omega) h1
theorem D_val {l : List Int} (h : GoodL l) (hn : Norm l) : D (val l).toNat = l := by
  induction l with
  | nil => simp [val, D_zero]
  | cons x l ih =>
    have hx := h.head
    have hv := val_nonneg h.tail
    have hn' : Norm l := by
      intro hl
      have := hn (by simp)
      rwa [List.getLast_cons hl] at this
    have hp : (val (x :: l)).toNat ≠ 0 := by
      by_cases hl : l = []
      · subst hl
        have := hn (by simp)
        simp at this
        rw [val_cons, val_nil]
        omega
      · have h1 : val l ≠ 0 := by
          intro h0
          have := ih h.tail hn'
          rw [h0] at this
          exact hl (by rw [← this]; exact D_zero)
        rw [val_cons]
        omega
    rw [D_pos hp]
    have e1 : ((val (x :: l)).toNat % 65536 : Nat) = x := by rw [val_cons]; omega
    have e2 : (val (x :: l)).toNat / 65536 = (val l).toNat := by rw [val_cons]; omega
    rw [e1, e2, ih h.tail hn']
theorem norm_iff (l : List Int) : Norm l ↔ (l = [] ∨ l.getD (l.length - 1) 0 ≠ 0) := by
  unfold Norm
  constructor
  · intro h
    by_cases hl : l = []
    · exact .inl hl
    · refine .inr ?_
      have h1 := h hl
      rw [List.getLast_eq_getElem] at h1
      have h2 : l.length - 1 < l.length := by have := List.length_pos_iff.2 hl; omega
      rw [List.getD_eq_getElem?_getD, List.getElem?_eq_getElem h2]
      exact h1
  · rintro (h | h) hl
    · exact absurd h hl
    · rw [List.getLast_eq_getElem]
      have h2 : l.length - 1 < l.length := by have := List.length_pos_iff.2 hl; omega
      rw [List.getD_eq_getElem?_getD, List.getElem?_eq_getElem h2] at h
      exact h
theorem val_set {l : List Int} {i : Nat} (h : i < l.length) (v : Int) : val (l.set i v) = val l + (v - l.getD i 0) * 65536 ^ i := by
  induction l generalizing i with
  | nil => simp at h
  | cons x l ih =>
    cases i with
    | zero => simp [val]; omega
    | succ i =>
      rw [List.set_cons_succ, val_cons, val_cons, ih (by simpa using h), List.getD_cons_succ, Int.pow_succ]
      grind
/-- A good list that is known by its value: nought at its end falls away. -/
theorem val_dropLast {l : List Int} (h : l ≠ []) (h0 : l.getLast h = 0) : val l.dropLast = val l := by
  have e := List.dropLast_concat_getLast h
  have h2 := val_snoc l.dropLast (l.getLast h)
  rw [e, h0] at h2
  omega
theorem mod_pow_succ (x i : Nat) : x % 65536 ^ (i + 1) = x % 65536 ^ i + 65536 ^ i * (x / 65536 ^ i % 65536) := Nat.mod_pow_succ
theorem mod_len (x i : Nat) (h : (D x).length ≤ i) : x % 65536 ^ i = x := Nat.mod_eq_of_lt (len_D_le.1 h)
/-- The lowest i digits of a number, as an integer. -/
def lo (x i : Nat) : Int := ((x % 65536 ^ i : Nat) : Int)
/-- A digit of a number, as an integer. -/
def dg (x i : Nat) : Int := ((x / 65536 ^ i % 65536 : Nat) : Int)
theorem lo_zero (x : Nat) : lo x 0 = 0 := by unfold lo; rw [Nat.pow_zero, Nat.mod_one]; rfl
theorem lo_succ (x i : Nat) : lo x (i + 1) = lo x i + 65536 ^ i * dg x i := by
  unfold lo dg
  rw [mod_pow_succ, Int.natCast_add, Int.natCast_mul, pow_cast]
theorem lo_len {x i : Nat} (h : (D x).length ≤ i) : lo x i = x := by unfold lo; rw [mod_len x i h]
theorem dg_bd (x i : Nat) : 0 ≤ dg x i ∧ dg x i < 65536 := by unfold dg; omega
theorem lo_nonneg (x i : Nat) : 0 ≤ lo x i := by unfold lo; omega
theorem lo_lt (x i : Nat) : lo x i < 65536 ^ i := by
  unfold lo
  rw [← pow_cast]
  have := Nat.mod_lt x (powN_pos i)
  omega
/-- One step of a row of a product. -/
theorem step_mul {v p q c V dx l dy o s v' : Int} (h : v + (p * q) * c = V + p * dx * l) (hs : s = c + (o + dx * dy)) (hv : v' = v + (s % 65536 - o) * (p * q)) : v' + (p * (q * 65536)) * (s / 65536) = V + p * dx * (l + q * dy) := by
  have := Int.mul_ediv_add_emod s 65536
  grind
theorem mul_bd {a b : Int} (ha : 0 ≤ a ∧ a < 65536) (hb : 0 ≤ b ∧ b < 65536) : 0 ≤ a * b ∧ a * b ≤ 4294836225 := by
  constructor
  · exact Int.mul_nonneg ha.1 hb.1
  · have h1 : a * b ≤ 65535 * b := Int.mul_le_mul_of_nonneg_right (by omega) hb.1
    omega
theorem getD_zero_of_lt {l : List Int} (h : GoodL l) {n : Nat} (hv : val l < 65536 ^ n) : l.getD n 0 = 0 := by
  rw [getD_val h, Int.ediv_eq_zero_of_lt (val_nonneg h) hv]
  rfl
theorem getD_set_ne_ {l : List Int} {i j : Nat} (h : i ≠ j) (x : Int) : (l.set i x).getD j 0 = l.getD j 0 := by
  rw [List.getD_eq_getElem?_getD, List.getD_eq_getElem?_getD, List.getElem?_set_ne h]
end Go.Proofs.Ytjepgnfgalnjhaa.Num
namespace Go.Proofs.Ytjepgnfgalnjhaa.Ex
open Go.RowKit (wrap64)
open Go.Proofs.Ytjepgnfgalnjhaa.Q Go.Proofs.YtjepgnfgalnjhaaW.PrintWords Go.Proofs.YtjepgnfgalnjhaaW.PrintLast Go.Proofs.YtjepgnfgalnjhaaW.PrintMore Go.Proofs.Ytjepgnfgalnjhaa.Num
theorem Ev.pos {α : Type} {c : Prop} [Decidable c] {a b : Nat → Option α} {r : α} (hc : c) (h : Ev a r) : Ev (fun k => if c then a k else b k) r := by
  simp only [if_pos hc]; exact h
theorem Ev.neg {α : Type} {c : Prop} [Decidable c] {a b : Nat → Option α} {r : α} (hc : ¬ c) (h : Ev b r) : Ev (fun k => if c then a k else b k) r := by
  simp only [if_neg hc]; exact h
theorem Ev.ite {α : Type} {c : Prop} [Decidable c] {a b : Nat → Option α} {r : α} (ha : c → Ev a r) (hb : ¬ c → Ev b r) : Ev (fun k => if c then a k else b k) r := by
  by_cases h : c
  · exact Ev.pos h (ha h)
  · exact Ev.neg h (hb h)
theorem Ev.some {α β : Type} {a : α} {f : Nat → α → Option β} {r : β} (h : Ev (fun k => f k a) r) : Ev (fun k => (Option.some a).bind (f k)) r := h
theorem Ev.eq {α : Type} {a r : α} (h : a = r) : Ev (fun _ => Option.some a) r := h ▸ Ev.now a
theorem Ev.to {α : Type} {g : Nat → Option α} {r r' : α} (h : Ev g r) (e : r = r') : Ev g r' := e ▸ h
theorem w64 {n : Int} (h0 : -9223372036854775808 ≤ n) (h1 : n < 9223372036854775808) : wrap64 n = n := by unfold wrap64; omega
theorem tmod_nn {a : Int} (b : Int) (h : 0 ≤ a) : Int.tmod a b = a % b := Int.tmod_eq_emod_of_nonneg h
theorem tdiv_nn {a : Int} (b : Int) (h : 0 ≤ a) : Int.tdiv a b = a / b := Int.tdiv_eq_ediv_of_nonneg h
theorem rd_D (n : Nat) (i : Int) : rd (D n) i = ((n / 65536 ^ i.toNat % 65536 : Nat) : Int) := getD_D n i.toNat
theorem rd_dg (n i : Nat) : rd (D n) (i : Int) = dg n i := by rw [rd_D, Int.toNat_natCast]; rfl
theorem cast_succ (i : Nat) : (i : Int) + 1 = ((i + 1 : Nat) : Int) := by omega
theorem rd_nat (l : List Int) (i : Nat) : rd l (i : Int) = l.getD i 0 := by unfold rd; rw [Int.toNat_natCast]
theorem good_rd {l : List Int} (h : GoodL l) (i : Int) : 0 ≤ rd l i ∧ rd l i < 65536 := h.getD i.toNat
end Go.Proofs.Ytjepgnfgalnjhaa.Ex
namespace Go.Proofs.Ytjepgnfgalnjhaa.Bits
open Go.RowKit (wrap64)
open Go.Proofs.Ytjepgnfgalnjhaa.Q Go.Proofs.YtjepgnfgalnjhaaW.PrintWords Go.Proofs.YtjepgnfgalnjhaaW.PrintLast Go.Proofs.YtjepgnfgalnjhaaW.PrintMore Go.Proofs.Ytjepgnfgalnjhaa.Num
open Go.Proofs.Ytjepgnfgalnjhaa.Ex
/-- The bits of a number. -/
def bl (n : Nat) : Nat := if n = 0 then 0 else n.log2 + 1
theorem bl_le {n k : Nat} : bl n ≤ k ↔ n < 2 ^ k := by
  unfold bl
  by_cases h : n = 0
  · subst h; simp; exact Nat.two_pow_pos k
  · rw [if_neg h, ← Nat.log2_lt h]; omega
theorem bl_eq {n b : Nat} (h : ∀ k, n < 2 ^ k ↔ b ≤ k) : bl n = b := by
  have h1 := (@bl_le n b).2 ((h b).2 (Nat.le_refl _))
  have h2 := (h (bl n)).1 ((@bl_le n (bl n)).1 (Nat.le_refl _))
  omega
theorem bl_shift {n j : Nat} (h : 2 ^ j ≤ n) : bl n = bl (n / 2 ^ j) + j := by
  refine bl_eq fun k => ?_
  by_cases hk : k < j
  · have : 2 ^ k ≤ 2 ^ j := Nat.pow_le_pow_right (by decide) (by omega)
    constructor
    · intro; omega
    · intro; omega
  · have e : 2 ^ k = 2 ^ (k - j) * 2 ^ j := by rw [← Nat.pow_add]; congr 1; omega
    rw [e, ← Nat.div_lt_iff_lt_mul (Nat.two_pow_pos j), ← bl_le]
    omega
theorem tab_bl : ∀ i : Fin 256, bt (⟨#[0, 1, 2, 2, 3, 3, 3, 3, 4, 4, 4, 4, 4, 4, 4, 4, 5, 5, 5, 5, 5, 5, 5, 5, 5, 5, 5, 5, 5, 5, 5, 5, 6, 6, 6, 6, 6, 6, 6, 6, 6, 6, 6, 6, 6, 6, 6, 6, 6, 6, 6, 6, 6, 6, 6, 6, 6, 6, 6, 6, 6, 6, 6, 6, 7, 7, 7, 7, 7, 7, 7, 7, 7, 7, 7, 7, 7, 7, 7, 7, 7, 7, 7, 7, 7, 7, 7, 7, 7, 7, 7, 7, 7, 7, 7, 7, 7, 7, 7, 7, 7, 7, 7, 7, 7, 7, 7, 7, 7, 7, 7, 7, 7, 7, 7, 7, 7, 7, 7, 7, 7, 7, 7, 7, 7, 7, 7, 7, 8, 8, 8, 8, 8, 8, 8, 8, 8, 8, 8, 8, 8, 8, 8, 8, 8, 8, 8, 8, 8, 8, 8, 8, 8, 8, 8, 8, 8, 8, 8, 8, 8, 8, 8, 8, 8, 8, 8, 8, 8, 8, 8, 8, 8, 8, 8, 8, 8, 8, 8, 8, 8, 8, 8, 8, 8, 8, 8, 8, 8, 8, 8, 8, 8, 8, 8, 8, 8, 8, 8, 8, 8, 8, 8, 8, 8, 8, 8, 8, 8, 8, 8, 8, 8, 8, 8, 8, 8, 8, 8, 8, 8, 8, 8, 8, 8, 8, 8, 8, 8, 8, 8, 8, 8, 8, 8, 8, 8, 8, 8, 8, 8, 8, 8, 8, 8, 8, 8, 8, 8, 8, 8, 8, 8, 8, 8, 8]⟩ : ByteArray) (i.1 : Int) = (bl i.1 : Int) := by decide +kernel
theorem tab_eq {i : Nat} (h : i < 256) : bt (⟨#[0, 1, 2, 2, 3, 3, 3, 3, 4, 4, 4, 4, 4, 4, 4, 4, 5, 5, 5, 5, 5, 5, 5, 5, 5, 5, 5, 5, 5, 5, 5, 5, 6, 6, 6, 6, 6, 6, 6, 6, 6, 6, 6, 6, 6, 6, 6, 6, 6, 6, 6, 6, 6, 6, 6, 6, 6, 6, 6, 6, 6, 6, 6, 6, 7, 7, 7, 7, 7, 7, 7, 7, 7, 7, 7, 7, 7, 7, 7, 7, 7, 7, 7, 7, 7, 7, 7, 7, 7, 7, 7, 7, 7, 7, 7, 7, 7, 7, 7, 7, 7, 7, 7, 7, 7, 7, 7, 7, 7, 7, 7, 7, 7, 7, 7, 7, 7, 7, 7, 7, 7, 7, 7, 7, 7, 7, 7, 7, 8, 8, 8, 8, 8, 8, 8, 8, 8, 8, 8, 8, 8, 8, 8, 8, 8, 8, 8, 8, 8, 8, 8, 8, 8, 8, 8, 8, 8, 8, 8, 8, 8, 8, 8, 8, 8, 8, 8, 8, 8, 8, 8, 8, 8, 8, 8, 8, 8, 8, 8, 8, 8, 8, 8, 8, 8, 8, 8, 8, 8, 8, 8, 8, 8, 8, 8, 8, 8, 8, 8, 8, 8, 8, 8, 8, 8, 8, 8, 8, 8, 8, 8, 8, 8, 8, 8, 8, 8, 8, 8, 8, 8, 8, 8, 8, 8, 8, 8, 8, 8, 8, 8, 8, 8, 8, 8, 8, 8, 8, 8, 8, 8, 8, 8, 8, 8, 8, 8, 8, 8, 8, 8, 8, 8, 8, 8, 8]⟩ : ByteArray) (i : Int) = (bl i : Int) := tab_bl ⟨i, h⟩
theorem bl_small {n k : Nat} (h : n < 2 ^ k) : bl n ≤ k := bl_le.2 h
theorem Len64_ev (n : Nat) (h : n < 65536) : Ev (fun k => bits_Len64.f k (n : Int)) (bl n : Int) := by
  refine Ev.neg (by omega) (Ev.step (fun k => by rw [bits_Len64.j0]) (Ev.neg (by omega) ?_))
  have h8 := @bl_small n 16 (by omega)
  refine Ev.ite (fun c => ?_) (fun c => ?_)
  · have e : (n : Int) / 256 % 256 = ((n / 256 : Nat) : Int) := by omega
    rw [e]
    refine Ev.pos (by omega) (Ev.pos (by omega) (Ev.eq ?_))
    rw [tab_eq (by omega)]
    have := @bl_shift n 8 (by omega)
    simp only [show (2 : Nat) ^ 8 = 256 from rfl] at this
    rw [this]; simp only [wrap64]; omega
  · have e : (n : Int) % 256 = (n : Int) := by omega
    rw [e]
    refine Ev.pos (by omega) (Ev.pos (by omega) (Ev.eq ?_))
    rw [tab_eq (by omega)]
    simp only [wrap64]; omega
theorem bitsOf_ev (n : Nat) (h : (D n).length < 1000000) : Ev (fun k => impl_bitsOf.f k (D n)) (bl n : Int) := by
  by_cases hn : n = 0
  · subst hn; rw [D_zero]; exact Ev.pos rfl (Ev.eq rfl)
  have hl : 0 < (D n).length := by
    have h := @len_D_le n 0
    apply Nat.pos_of_ne_zero; intro b; have := h.1 (by omega); simp at this; omega
  have e : wrap64 (((D n).length : Int) - 1) = (((D n).length - 1 : Nat) : Int) := by rw [w64 (by omega) (by omega)]; omega
  unfold impl_bitsOf.f
  refine Ev.neg (by omega) ?_
  simp only [e]
  refine Ev.pos (by omega) (Ev.pos (by omega) ?_)
  generalize hL : (D n).length = L at *
  have h1 : ¬ n < 65536 ^ (L - 1) := by rw [← len_D_le, hL]; omega
  have h2 : n < 65536 ^ L := by rw [← len_D_le, hL]; exact Nat.le_refl _
  have e2 : (65536 : Nat) ^ (L - 1) = 2 ^ (16 * (L - 1)) := by rw [Nat.pow_mul]
  have h3 : n / 65536 ^ (L - 1) < 65536 := by
    rw [Nat.div_lt_iff_lt_mul (by exact Nat.pos_of_ne_zero (by intro z; rw [e2] at z; have := Nat.two_pow_pos (16 * (L - 1)); omega)), Nat.mul_comm, ← Nat.pow_succ]
    rwa [show (L - 1).succ = L by omega]
  have hb := @bl_shift n (16 * (L - 1)) (by omega)
  rw [← e2] at hb
  rw [rd_D, Int.toNat_natCast, Nat.mod_eq_of_lt h3]
  generalize n / 65536 ^ (L - 1) = t at *
  have hbt := @bl_small t 16 (by omega)
  have e3 : Go.IntKind.u64.wrap (t : Int) = (t : Int) := by rw [Go.IntKind.wrap_u64]; omega
  simp only [e3]
  refine Ev.bind (Ev.bind (Len64_ev t h3) (Ev.now _)) (Ev.eq ?_)
  have hw1 : wrap64 (16 * ((L - 1 : Nat) : Int)) = 16 * ((L - 1 : Nat) : Int) := w64 (by omega) (by omega)
  have hw2 : wrap64 (16 * ((L - 1 : Nat) : Int) + (bl t : Int)) = 16 * ((L - 1 : Nat) : Int) + (bl t : Int) := w64 (by omega) (by omega)
  rw [hw1, hw2, hb]
  omega
end Go.Proofs.Ytjepgnfgalnjhaa.Bits
namespace Go.Proofs.Ytjepgnfgalnjhaa.Low
open Go.RowKit (wrap64)
open Go.Proofs.Ytjepgnfgalnjhaa.Q Go.Proofs.YtjepgnfgalnjhaaW.PrintWords Go.Proofs.YtjepgnfgalnjhaaW.PrintLast Go.Proofs.YtjepgnfgalnjhaaW.PrintMore Go.Proofs.Ytjepgnfgalnjhaa.Num
open Go.Proofs.Ytjepgnfgalnjhaa.Ex
theorem trim_ev (l : List Int) (h : GoodL l) (hl : l.length < 1000000000) : Ev (fun k => impl_trim.f k l) (D (val l).toNat) := by
  show Ev (fun k => impl_trim.l0 k l) _
  obtain ⟨n, hn⟩ : ∃ n, l.length = n := ⟨_, rfl⟩
  induction n generalizing l with
  | zero =>
    obtain rfl := List.eq_nil_of_length_eq_zero hn
    refine Ev.step (fun _ => rfl) (Ev.neg (by simp) (Ev.eq ?_))
    simp [val, D_zero]
  | succ n ih =>
    have hl0 : l ≠ [] := by intro e; simp [e] at hn
    refine Ev.step (fun k => by rw [impl_trim.l0]) ?_
    simp (disch := omega) only [w64]
    refine Ev.pos (by omega) (Ev.pos (by omega) (Ev.pos (by omega) ?_))
    have e1 : rd l ((l.length : Int) - 1) = l.getLast hl0 := by
      rw [show (l.length : Int) - 1 = ((l.length - 1 : Nat) : Int) by omega, rd_nat, List.getLast_eq_getElem, List.getD_eq_getElem?_getD, List.getElem?_eq_getElem (by omega)]
      rfl
    have e2 : l.take ((l.length : Int) - 1).toNat = l.dropLast := by
      rw [List.dropLast_eq_take]; congr 1; omega
    rw [e1, e2]
    refine Ev.ite (fun h0 => Ev.pos (by omega) ?_) (fun h0 => Ev.eq ?_)
    · have hd : GoodL l.dropLast := by rw [List.dropLast_eq_take]; exact h.take _
      have := ih l.dropLast hd (by rw [List.length_dropLast]; omega) (by rw [List.length_dropLast]; omega)
      rwa [val_dropLast hl0 h0] at this
    · exact (D_val h (fun _ => h0)).symm
/-- The program's product. -/
theorem times_l1 (x y i : Nat) (v0 : Int) (R : List Int) (hx : (D x).length < 1000000) (hy : (D y).length < 1000000) (hi : i < (D x).length)
    (H : ∀ out, GoodL out → out.length = (D x).length + (D y).length → val out = v0 + 65536 ^ i * dg x i * y → Ev (fun k => impl_times.l0 k (D y) out (D x) ((D x).length : Int) ((i + 1 : Nat) : Int)) R) (d : Nat) :
    ∀ (j : Nat) (out : List Int) (c : Int), j + d = (D y).length → GoodL out → out.length = (D x).length + (D y).length → 0 ≤ c → c < 65536 → out.getD (i + (D y).length) 0 = 0 →
      val out + 65536 ^ i * 65536 ^ j * c = v0 + 65536 ^ i * dg x i * lo y j → Ev (fun k => impl_times.l1 k (D y) out (i : Int) (dg x i) c (D x) ((D x).length : Int) (i : Int) (D y) ((D y).length : Int) (j : Int)) R := by
  induction d with
  | zero =>
    intro j out c hj hg hl h0 h1 hz hv
    refine Ev.step (fun k => by rw [impl_times.l1]) ?_
    simp (disch := omega) only [w64]
    refine Ev.neg (by omega) (Ev.pos (by omega) (Ev.pos (by omega) ?_))
    rw [cast_succ, show ((i : Int) + ((D y).length : Int)).toNat = i + (D y).length by omega]
    refine H _ (hg.set _ h0 h1) (by rw [List.length_set]; exact hl) ?_
    rw [val_set (by omega), hz, Int.pow_add]
    rw [lo_len (by omega), show j = (D y).length by omega] at hv
    grind
  | succ d ih =>
    intro j out c hj hg hl h0 h1 hz hv
    refine Ev.step (fun k => by rw [impl_times.l1]) ?_
    have b1 := dg_bd x i
    have b2 := dg_bd y j
    have e2 := lo_succ y j
    have bm := mul_bd b1 b2
    have bo := hg.getD (i + j)
    simp only [rd_dg]
    refine Ev.pos (by omega) (Ev.pos (by omega) (Ev.pos (by omega) ?_))
    rw [show wrap64 ((i : Int) + (j : Int)) = ((i + j : Nat) : Int) by rw [w64 (by omega) (by omega)]; omega]
    simp only [rd_nat, Int.toNat_natCast]
    generalize hdx : dg x i = dx at *
    generalize hdy : dg y j = dy at *
    generalize ho : out.getD (i + j) 0 = o at *
    simp (disch := omega) only [w64, tmod_nn, tdiv_nn]
    refine Ev.pos (by omega) (Ev.pos (by omega) ?_)
    rw [cast_succ]
    refine ih (j + 1) _ _ (by omega) (hg.set _ (by omega) (by omega)) (by rw [List.length_set]; exact hl) (by omega) (by omega) (by rw [getD_set_ne_ (by omega)]; exact hz) ?_
    rw [e2, Int.pow_succ]
    refine step_mul hv rfl ?_
    rw [val_set (by omega), ho, Int.pow_add]
theorem row_zero {x y i : Nat} {out : List Int} (hg : GoodL out) (hv : val out = lo x i * y) : out.getD (i + (D y).length) 0 = 0 := by
  refine getD_zero_of_lt hg ?_
  rw [hv, Int.pow_add]
  have h1 := lo_lt x i
  have h2 : (y : Int) < 65536 ^ (D y).length := by rw [← pow_cast]; exact Int.ofNat_lt.2 (lt_len_D y)
  have h3 := lo_nonneg x i
  have h4 := pow_pos' i
  exact Int.lt_of_le_of_lt (Int.mul_le_mul_of_nonneg_right (Int.le_of_lt h1) (by omega)) (Int.mul_lt_mul_of_pos_left h2 h4)
theorem times_l0 (x y : Nat) (hx : (D x).length < 1000000) (hy : (D y).length < 1000000) (d : Nat) : ∀ (i : Nat) (out : List Int), i + d = (D x).length → GoodL out → out.length = (D x).length + (D y).length →
    val out = lo x i * y → Ev (fun k => impl_times.l0 k (D y) out (D x) ((D x).length : Int) (i : Int)) (D (x * y)) := by
  induction d with
  | zero =>
    intro i out hi hg hl hv
    refine Ev.step (fun k => by rw [impl_times.l0]) ?_
    refine Ev.neg (by omega) (Ev.bind (trim_ev _ hg (by omega)) (Ev.eq ?_))
    rw [hv, lo_len (by omega), ← Int.natCast_mul, Int.toNat_natCast]
  | succ d ih =>
    intro i out hi hg hl hv
    refine Ev.step (fun k => by rw [impl_times.l0]) ?_
    simp only [rd_dg]
    refine Ev.pos (by omega) (Ev.pos (by omega) (Ev.pos (by omega) ?_))
    refine times_l1 x y i (lo x i * y) _ hx hy (by omega) (fun out' hg' hl' hv' => ih (i + 1) out' (by omega) hg' hl' ?_) _ 0 out 0 (Nat.zero_add _) hg hl (by omega) (by omega) (row_zero hg hv) ?_
    · rw [hv', lo_succ]; grind
    · rw [lo_zero, hv]; grind
theorem times_ev (x y : Nat) (hx : (D x).length < 1000000) (hy : (D y).length < 1000000) : Ev (fun k => impl_times.f k (D x) (D y)) (D (x * y)) := by
  unfold impl_times.f
  simp (disch := omega) only [w64]
  refine Ev.pos (by omega) (Ev.pos (by omega) ?_)
  refine times_l0 x y hx hy _ 0 _ (Nat.zero_add _) (GoodL.zeros _) (by rw [List.length_replicate]; omega) ?_
  rw [val_zeros, lo_zero]; simp
/-- The reference's cutting of noughts. -/
theorem norm_l0 (l : List Int) (h : GoodL l) (hl : l.length < 1000000000) (n : Nat) (hn : n ≤ l.length) : Ev (fun k => spec_l2norm.l0 k l (n : Int)) (D (val (l.take n)).toNat) := by
  induction n with
  | zero =>
    refine Ev.step (fun k => by rw [spec_l2norm.l0]) ?_
    refine Ev.neg (by omega) (Ev.some (Ev.pos (by omega) (Ev.pos (by omega) (Ev.pos (by simp) (Ev.eq ?_)))))
    simp [val, D_zero]
  | succ n ih =>
    refine Ev.step (fun k => by rw [spec_l2norm.l0]) ?_
    simp (disch := omega) only [w64]
    refine Ev.pos (by omega) (Ev.pos (by omega) (Ev.pos (by omega) ?_))
    rw [show ((n + 1 : Nat) : Int) - 1 = (n : Int) by omega, rd_nat]
    have e : l.take (n + 1) = l.take n ++ [l.getD n 0] := by
      rw [List.take_succ_eq_append_getElem (by omega), List.getD_eq_getElem?_getD, List.getElem?_eq_getElem (by omega)]; rfl
    refine Ev.ite (fun h0 => ?_) (fun h0 => ?_)
    · have := ih (by omega)
      rw [e, val_snoc, h0]
      simpa using this
    · refine Ev.some (Ev.pos (by omega) (Ev.pos (by omega) (Ev.pos (by simp; omega) (Ev.eq ?_))))
      rw [Int.toNat_natCast, List.nil_append]
      refine (D_val (h.take _) ?_).symm
      intro hne
      simp only [e]
      rw [List.getLast_append]
      simpa using h0
theorem norm_ev (l : List Int) (h : GoodL l) (hl : l.length < 1000000000) : Ev (fun k => spec_l2norm.f k l) (D (val l).toNat) := by
  have := norm_l0 l h hl l.length (Nat.le_refl _)
  rwa [List.take_length] at this
/-- Numbers of the machine. -/
theorem small_l0 (m : Nat) : ∀ (n : Nat) (out : List Int), n < 65536 ^ m → n < 9223372036854775808 → out.length + m < 1000000 → Ev (fun k => impl_small.l0 k (n : Int) out) (out ++ D n) := by
  induction m with
  | zero =>
    intro n out hm hn hl
    obtain rfl : n = 0 := by rw [Nat.pow_zero] at hm; omega
    exact Ev.step (fun k => by rw [impl_small.l0]) (Ev.neg (by omega) (Ev.eq (by rw [D_zero, List.append_nil])))
  | succ m ih =>
    intro n out hm hn hl
    refine Ev.step (fun k => by rw [impl_small.l0]) ?_
    by_cases h : n = 0
    · subst h
      exact Ev.neg (by omega) (Ev.eq (by rw [D_zero, List.append_nil]))
    · simp (disch := omega) only [w64, tmod_nn, tdiv_nn]
      refine Ev.pos (by omega) (Ev.pos (by omega) ?_)
      rw [Nat.pow_succ] at hm
      have := ih (n / 65536) (out ++ [((n % 65536 : Nat) : Int)]) (by omega) (by omega) (by simp; omega)
      rw [D_pos h]
      simpa using this
theorem small_ev (n : Nat) (hn : n < 9223372036854775808) : Ev (fun k => impl_small.f k (n : Int)) (D n) :=
  small_l0 4 n [] (Nat.lt_of_lt_of_le hn (by decide)) hn (by simp)
theorem l2of_l0 (m : Nat) : ∀ (n : Nat) (out : List Int), n < 65536 ^ m → n < 9223372036854775808 → out.length + m < 1000000 → Ev (fun k => spec_l2of.l0 k (n : Int) out) (out ++ D n) := by
  induction m with
  | zero =>
    intro n out hm hn hl
    obtain rfl : n = 0 := by rw [Nat.pow_zero] at hm; omega
    exact Ev.step (fun k => by rw [spec_l2of.l0]) (Ev.neg (by omega) (Ev.eq (by rw [D_zero, List.append_nil])))
  | succ m ih =>
    intro n out hm hn hl
    refine Ev.step (fun k => by rw [spec_l2of.l0]) ?_
    by_cases h : n = 0
    · subst h
      exact Ev.neg (by omega) (Ev.eq (by rw [D_zero, List.append_nil]))
    · simp (disch := omega) only [w64, tmod_nn, tdiv_nn]
      refine Ev.pos (by omega) (Ev.pos (by omega) ?_)
      rw [Nat.pow_succ] at hm
      have := ih (n / 65536) (out ++ [((n % 65536 : Nat) : Int)]) (by omega) (by omega) (by simp; omega)
      rw [D_pos h]
      simpa using this
theorem l2of_ev (n : Nat) (hn : n < 9223372036854775808) : Ev (fun k => spec_l2of.f k (n : Int)) (D n) :=
  l2of_l0 4 n [] (Nat.lt_of_lt_of_le hn (by decide)) hn (by simp)
end Go.Proofs.Ytjepgnfgalnjhaa.Low
namespace Go.Proofs.Ytjepgnfgalnjhaa.Law
open Go.RowKit (wrap64)
open Go.Proofs.Ytjepgnfgalnjhaa.Q Go.Proofs.YtjepgnfgalnjhaaW.PrintWords Go.Proofs.YtjepgnfgalnjhaaW.PrintLast Go.Proofs.YtjepgnfgalnjhaaW.PrintMore Go.Proofs.Ytjepgnfgalnjhaa.Num
open Go.Proofs.Ytjepgnfgalnjhaa.Ex Go.Proofs.Ytjepgnfgalnjhaa.Low
/-- The test of a number. -/
theorem limbB_iff (x : Int) : limbB x = true ↔ 0 ≤ x ∧ x < 65536 := by unfold limbB; simp; omega
theorem all_limbB {l : List Int} : l.all limbB = true ↔ GoodL l := by
  rw [List.all_eq_true]
  exact ⟨fun h x hx => (limbB_iff x).1 (h x hx), fun h x hx => (limbB_iff x).2 (h x hx)⟩
theorem natOkB_iff (l : List Int) : natOkB l = true ↔ ∃ n, l = D n ∧ (D n).length ≤ 100 := by
  unfold natOkB
  rw [Bool.and_eq_true, Bool.and_eq_true, Bool.or_eq_true, decide_eq_true_eq, all_limbB, decide_eq_true_eq]
  constructor
  · rintro ⟨h1, h2, h3⟩
    have hn : Norm l := by
      rw [norm_iff]
      rcases h3 with h3 | h3
      · exact .inl (List.eq_nil_of_length_eq_zero h3)
      · by_cases h0 : l = []
        · exact .inl h0
        · have := List.length_pos_iff.2 h0
          rw [show (l.length : Int) - 1 = ((l.length - 1 : Nat) : Int) by omega, rd_nat] at h3
          exact .inr (by simpa using h3)
    have e := D_val h2 hn
    exact ⟨(val l).toNat, e.symm, by rw [e]; exact h1⟩
  · rintro ⟨n, rfl, h1⟩
    refine ⟨h1, good_D n, ?_⟩
    rcases (norm_iff _).1 (norm_D n) with h | h
    · exact .inl (by rw [h]; rfl)
    · by_cases h0 : (D n).length = 0
      · exact .inl h0
      · refine .inr ?_
        rw [show ((D n).length : Int) - 1 = (((D n).length - 1 : Nat) : Int) by omega, rd_nat]
        simpa using h
theorem natOkB_D {n : Nat} (h : (D n).length ≤ 100) : natOkB (D n) = true := (natOkB_iff _).2 ⟨n, rfl, h⟩
theorem specNatOk_l0 (l : List Int) (hl : l.length ≤ 100) (d : Nat) : ∀ (i : Nat), i + d = l.length → GoodL (l.take i) → Ev (fun k => spec_NatOk.l0 k (i : Int) l) (natOkB l) := by
  have tk : ∀ i, (h : i < l.length) → l.take (i + 1) = l.take i ++ [rd l (i : Int)] := fun i h => by
    rw [List.take_succ_eq_append_getElem h, rd_nat, List.getD_eq_getElem?_getD, List.getElem?_eq_getElem h]; rfl
  induction d with
  | zero =>
    intro i hi hg
    rw [List.take_of_length_le (by omega)] at hg
    have e0 : natOkB l = (decide (l.length = 0) || rd l ((l.length : Int) - 1) != 0) := by
      unfold natOkB
      rw [decide_eq_true hl, all_limbB.2 hg]
      rfl
    refine Ev.step (fun k => by rw [spec_NatOk.l0]) (Ev.neg (by omega) ?_)
    simp (disch := omega) only [w64]
    refine Ev.ite (fun h => Ev.eq ?_) (fun h => Ev.pos (by omega) (Ev.pos (by omega) (Ev.eq ?_)))
    · rw [e0, decide_eq_true (by omega)]; rfl
    · have hz := good_rd hg ((l.length : Int) - 1)
      rw [e0, decide_eq_false (p := l.length = 0) (by omega), Bool.false_or]
      by_cases h1 : rd l ((l.length : Int) - 1) = 0
      · rw [h1]; rfl
      · rw [decide_eq_true (by omega)]
        exact (bne_iff_ne.2 h1).symm
  | succ d ih =>
    intro i hi hg
    refine Ev.step (fun k => by rw [spec_NatOk.l0]) (Ev.pos (by omega) (Ev.pos (by omega) ?_))
    simp (disch := omega) only [w64]
    have bad : ¬ (0 ≤ rd l (i : Int) ∧ rd l (i : Int) < 65536) → false = natOkB l := by
      intro h
      cases e : natOkB l with
      | false => rfl
      | true =>
        obtain ⟨n, hn, _⟩ := (natOkB_iff l).1 e
        exact absurd (good_rd (hn ▸ good_D n : GoodL l) (i : Int)) h
    refine Ev.ite (fun h => Ev.eq (bad (by omega))) (fun h => Ev.ite (fun h2 => Ev.eq (bad (by omega))) (fun h2 => ?_))
    rw [cast_succ]
    refine ih (i + 1) (by omega) ?_
    rw [tk i (by omega)]
    exact hg.snoc (by omega) (by omega)
theorem specNatOk_ev (l : List Int) : Ev (fun k => spec_NatOk.f k l) (natOkB l) := by
  unfold spec_NatOk.f
  refine Ev.ite (fun h => Ev.eq ?_) (fun h => specNatOk_l0 l (by omega) _ 0 (Nat.zero_add _) GoodL.nil)
  unfold natOkB
  rw [decide_eq_false (by omega)]
  rfl
/-- What is not too long. -/
def fits (l : List Int) : List Int × Bool := if l.length ≤ 100 then (l, true) else ([], false)
theorem clone_eq (l : List Int) (hl : l.length < 1000000000) : slices_Clone_int_int.f l = some l := by
  unfold slices_Clone_int_int.f
  simp only [Option.bind_some, List.length_nil, List.nil_append]
  rw [if_pos (by omega)]
theorem natOf_eq (l : List Int) (hl : l.length < 1000000000) : impl_natOf.f l = some (fits l) := by
  unfold impl_natOf.f fits
  by_cases h : l.length ≤ 100
  · rw [if_neg (by omega), if_pos h, clone_eq l hl]; rfl
  · rw [if_pos (by omega), if_neg h]
theorem NatOk_eq (l : List Int) : impl_NatOk.f l = some (natOkB l) := rfl
theorem areNats_eq (a b : List Int) : impl_areNats.f a b = some (natOkB a && natOkB b) := by
  unfold impl_areNats.f
  rw [NatOk_eq, NatOk_eq]
  simp only [Option.bind_some]
  cases natOkB a <;> simp
end Go.Proofs.Ytjepgnfgalnjhaa.Law
namespace Go.Proofs.Ytjepgnfgalnjhaa.Draw
open Go.RowKit (wrap64)
open Go.Proofs.Ytjepgnfgalnjhaa.Q Go.Proofs.YtjepgnfgalnjhaaW.PrintWords Go.Proofs.YtjepgnfgalnjhaaW.PrintLast Go.Proofs.YtjepgnfgalnjhaaW.PrintMore Go.Proofs.Ytjepgnfgalnjhaa.Num
open Go.Proofs.Ytjepgnfgalnjhaa.Ex Go.Proofs.Ytjepgnfgalnjhaa.Low Go.Proofs.Ytjepgnfgalnjhaa.Law Go.Proofs.Ytjepgnfgalnjhaa.And
/-- A place in a code. -/
def At (s : List Int) (i : Int) : Prop := s.length ≤ 140737488351232 ∧ 0 ≤ i ∧ i ≤ s.length
theorem l1New_l0 (s : List Int) (hs : s.length ≤ 140737488351232) (d : Nat) : ∀ (v : Int) (i : Nat), i + d = 4000 → ∃ u, Ev (fun k => spec_l1New.l0 k s v (i : Int)) (s, 0, u) := by
  induction d with
  | zero =>
    intro v i hi
    refine ⟨v, Ev.step (fun k => by rw [spec_l1New.l0]) ?_⟩
    exact Ev.ite (fun _ => Ev.neg (by omega) (Ev.now _)) (fun _ => Ev.now _)
  | succ d ih =>
    intro v i hi
    by_cases h : (i : Int) < s.length
    · obtain ⟨u, hu⟩ := ih (Go.bits .and .i64 (wrap64 ((wrap64 ((wrap64 (v * 131)) + (wrap64 (rd s i)))) + 7)) 1073741823) (i + 1) (by omega)
      refine ⟨u, Ev.step (fun k => by rw [spec_l1New.l0]) (Ev.pos h (Ev.pos (by omega) (Ev.pos (by omega) ?_)))⟩
      rw [show wrap64 ((i : Int) + 1) = ((i + 1 : Nat) : Int) by rw [w64 (by omega) (by omega)]; omega]
      exact hu
    · refine ⟨v, Ev.step (fun k => by rw [spec_l1New.l0]) ?_⟩
      exact Ev.neg h (Ev.now _)
theorem l1New_ev (s : List Int) (hs : s.length ≤ 140737488351232) : ∃ u, Ev (fun k => spec_l1New.f k s) (s, 0, u) := l1New_l0 s hs 4000 _ 0 rfl
theorem l1Byte_eq {s : List Int} {i : Int} (h : At s i) (v : Int) : ∃ b j u, spec_l1Byte.f s i v = some (b, j, u) ∧ 0 ≤ b ∧ b < 256 ∧ At s j := by
  unfold spec_l1Byte.f
  simp only [and255]
  obtain ⟨h1, h2, h3⟩ := h
  by_cases c : i < s.length
  · rw [if_pos c, if_pos h2]
    refine ⟨_, _, _, rfl, by omega, by omega, h1, ?_⟩
    rw [w64 (by omega) (by omega)]; omega
  · rw [if_neg c]
    exact ⟨_, _, _, rfl, by omega, by omega, h1, h2, h3⟩
theorem l1Below_eq {s : List Int} {i : Int} (h : At s i) (v a : Int) (ha : 0 < a) (ha' : a < 4294967296) : ∃ b j u, spec_l1Below.f s i v a = some (b, j, u) ∧ 0 ≤ b ∧ b < a ∧ At s j := by
  unfold spec_l1Below.f
  rw [if_neg (by omega)]
  obtain ⟨b1, j1, u1, e1, p1, q1, r1⟩ := l1Byte_eq h v
  by_cases c : a ≤ 256
  · rw [if_pos c, e1]
    simp only [Option.bind_some]
    rw [if_neg (by omega)]
    refine ⟨_, _, _, rfl, ?_, ?_, r1⟩
    · exact Int.tmod_nonneg _ p1
    · exact Int.tmod_lt_of_pos _ ha
  · rw [if_neg c, e1]
    simp only [Option.bind_some]
    obtain ⟨b2, j2, u2, e2, p2, q2, r2⟩ := l1Byte_eq r1 u1
    rw [e2]; simp only [Option.bind_some]
    obtain ⟨b3, j3, u3, e3, p3, q3, r3⟩ := l1Byte_eq r2 u2
    rw [e3]; simp only [Option.bind_some]
    obtain ⟨b4, j4, u4, e4, p4, q4, r4⟩ := l1Byte_eq r3 u3
    rw [e4]; simp only [Option.bind_some]
    rw [if_neg (by omega)]
    refine ⟨_, _, _, rfl, ?_, ?_, r4⟩
    · refine Int.tmod_nonneg _ ?_
      simp only [wrap64]; omega
    · exact Int.tmod_lt_of_pos _ ha
theorem l1PickInt_eq {s : List Int} {i : Int} (h : At s i) (v : Int) (l : List Int) (hl : 0 < l.length) (hl' : l.length < 1000) : ∃ b j u, spec_l1PickInt.f s i v l = some (b, j, u) ∧ b ∈ l ∧ At s j := by
  unfold spec_l1PickInt.f
  obtain ⟨b, j, u, e, p, q, r⟩ := l1Below_eq h v (l.length : Int) (by omega) (by omega)
  rw [e]; simp only [Option.bind_some]
  rw [if_pos p, if_pos q]
  refine ⟨_, _, _, rfl, ?_, r⟩
  unfold rd
  rw [List.getD_eq_getElem?_getD, List.getElem?_eq_getElem (by omega)]
  exact List.getElem_mem _
theorem l1Once_eq {s : List Int} {i : Int} (h : At s i) (v a : Int) (ha : 0 < a) (ha' : a < 4294967296) : ∃ b j u, spec_l1Once.f s i v a = some (b, j, u) ∧ At s j := by
  unfold spec_l1Once.f
  obtain ⟨b, j, u, e, p, q, r⟩ := l1Below_eq h v a ha ha'
  rw [e]; simp only [Option.bind_some]
  exact ⟨_, _, _, rfl, r⟩
theorem l2drawLen_eq {s : List Int} {i : Int} (h : At s i) (v : Int) : ∃ n j u, spec_l2drawLen.f s i v = some (n, j, u) ∧ 0 ≤ n ∧ n ≤ 100 ∧ At s j := by
  unfold spec_l2drawLen.f
  obtain ⟨b, j, u, e, r⟩ := l1Once_eq h v 12 (by omega) (by omega)
  rw [e]; simp only [Option.bind_some]
  cases b
  · obtain ⟨b, j, u, e, p, q, r⟩ := l1Below_eq r u 6 (by omega) (by omega)
    rw [if_neg (by simp), e]; simp only [Option.bind_some]
    exact ⟨_, _, _, rfl, p, by omega, r⟩
  · obtain ⟨b, j, u, e, p, r⟩ := l1PickInt_eq r u [100, 99, 50, 20] (by simp) (by simp)
    rw [if_pos rfl, e]; simp only [Option.bind_some]
    simp at p
    exact ⟨_, _, _, rfl, by omega, by omega, r⟩
theorem goodL_snoc {l : List Int} {x : Int} (h : GoodL l) (h1 : 0 ≤ x) (h2 : x < 65536) : GoodL (l ++ [x]) := by
  intro y hy
  rcases List.mem_append.1 hy with hy | hy
  · exact h y hy
  · simp at hy; subst hy; exact ⟨h1, h2⟩
theorem norm_len (l : List Int) (h : GoodL l) : (D (val l).toNat).length ≤ l.length := by
  rw [len_D_le]
  have h1 := val_lt h
  have h2 := val_nonneg h
  have h3 : ((65536 : Int) ^ l.length) = ((65536 ^ l.length : Nat) : Int) := by rw [Int.natCast_pow]; rfl
  rw [h3] at h1
  omega
theorem l2draw_l0 {s : List Int} (n d : Nat) (hn : n ≤ 100) : ∀ (l : List Int) (i v : Int), At s i → GoodL l → l.length + d = n → ∃ x j u, Ev (fun k => spec_l2draw.l0 k l (n : Int) (l.length : Int) s i v) (D x, j, u) ∧ (D x).length ≤ 100 ∧ At s j := by
  induction d with
  | zero =>
    intro l i v hi hl hd
    obtain ⟨b, j, u, e, r⟩ := l1Once_eq hi v 4 (by omega) (by omega)
    cases b
    · refine ⟨(val l).toNat, j, u, Ev.step (fun k => by rw [spec_l2draw.l0]) (Ev.neg (by omega) ?_), Nat.le_trans (norm_len l hl) (by omega), r⟩
      simp only [e, Option.bind_some]
      exact Ev.neg (by simp) (Ev.bind (norm_ev l hl (by omega)) (Ev.now _))
    · obtain ⟨b, j', u', e', p, r'⟩ := l1PickInt_eq r u [0, 1, 2, 9, 10, 65535, 65536, 1099511627776, 4611686018427387903, 4611686018427387904] (by simp) (by simp)
      have hb : 0 ≤ b ∧ b ≤ 4611686018427387904 := by simp at p; omega
      obtain ⟨m, rfl⟩ : ∃ m : Nat, b = m := ⟨b.toNat, by omega⟩
      refine ⟨m, j', u', Ev.step (fun k => by rw [spec_l2draw.l0]) (Ev.neg (by omega) ?_), ?_, r'⟩
      · simp only [e, Option.bind_some]
        refine Ev.pos (by simp) ?_
        simp only [e', Option.bind_some]
        exact Ev.bind (l2of_ev m (by omega)) (Ev.now _)
      · refine Nat.le_trans (len_D_le.2 (?_ : m < 65536 ^ 4)) (by omega)
        omega
  | succ d ih =>
    intro l i v hi hl hd
    obtain ⟨b, j, u, e, p, q, r⟩ := l1Below_eq hi v 4 (by omega) (by omega)
    have key : ∀ (y : Int) (j u : Int), 0 ≤ y → y < 65536 → At s j → ∃ x j' u', Ev (fun k => spec_l2draw.l0 k (l ++ [y]) (n : Int) (wrap64 ((l.length : Int) + 1)) s j u) (D x, j', u') ∧ (D x).length ≤ 100 ∧ At s j' := by
      intro y j u h1 h2 h3
      have := ih (l ++ [y]) j u h3 (goodL_snoc hl h1 h2) (by simp; omega)
      rw [show wrap64 ((l.length : Int) + 1) = ((l ++ [y]).length : Int) by rw [w64 (by omega) (by omega)]; simp]
      exact this
    by_cases c0 : b = 0
    · obtain ⟨x, j', u', hx, hl', r'⟩ := key 65535 j u (by omega) (by omega) r
      refine ⟨x, j', u', Ev.step (fun k => by rw [spec_l2draw.l0]) (Ev.pos (by omega) ?_), hl', r'⟩
      simp only [e, Option.bind_some]
      exact Ev.pos c0 (Ev.pos (by omega) hx)
    · by_cases c1 : b = 1
      · obtain ⟨x, j', u', hx, hl', r'⟩ := key 0 j u (by omega) (by omega) r
        refine ⟨x, j', u', Ev.step (fun k => by rw [spec_l2draw.l0]) (Ev.pos (by omega) ?_), hl', r'⟩
        simp only [e, Option.bind_some]
        exact Ev.neg c0 (Ev.pos c1 (Ev.pos (by omega) hx))
      · obtain ⟨b2, j2, u2, e2, p2, q2, r2⟩ := l1Below_eq r u 65536 (by omega) (by omega)
        obtain ⟨x, j', u', hx, hl', r'⟩ := key b2 j2 u2 (by omega) (by omega) r2
        refine ⟨x, j', u', Ev.step (fun k => by rw [spec_l2draw.l0]) (Ev.pos (by omega) ?_), hl', r'⟩
        simp only [e, Option.bind_some]
        refine Ev.neg c0 (Ev.neg c1 ?_)
        simp only [e2, Option.bind_some]
        exact Ev.pos (by omega) hx
theorem l2draw_ev {s : List Int} {i : Int} (h : At s i) (v : Int) : ∃ x j u, Ev (fun k => spec_l2draw.f k s i v) (D x, j, u) ∧ (D x).length ≤ 100 ∧ At s j := by
  obtain ⟨n, j, u, e, p, q, r⟩ := l2drawLen_eq h v
  obtain ⟨m, rfl⟩ : ∃ m : Nat, n = m := ⟨n.toNat, by omega⟩
  obtain ⟨x, j', u', hx, hl, r'⟩ := l2draw_l0 m m (by omega) [] j u r (by intro y hy; simp at hy) (by simp)
  refine ⟨x, j', u', ?_, hl, r'⟩
  unfold spec_l2draw.f
  simp only [e, Option.bind_some]
  exact hx
/-- A list whose limbs are small, some of them wrong perhaps. -/
def Bent (l : List Int) : Prop := l.length ≤ 101 ∧ ∀ x ∈ l, -1 ≤ x ∧ x ≤ 65536
theorem bent_D {x : Nat} (h : (D x).length ≤ 101) : Bent (D x) := ⟨h, fun y hy => by have := good_D x y hy; omega⟩
theorem bent_snoc {l : List Int} {x : Int} (hl : l.length ≤ 100) (h : Bent l) (h1 : -1 ≤ x) (h2 : x ≤ 65536) : Bent (l ++ [x]) := by
  refine ⟨by simp; omega, fun y hy => ?_⟩
  rcases List.mem_append.1 hy with hy | hy
  · exact h.2 y hy
  · simp at hy; subst hy; exact ⟨h1, h2⟩
theorem l2bent_l0 {s : List Int} (d : Nat) : ∀ (l : List Int) (i v : Int), Bent l → l.length + d = 101 → ∃ m, Ev (fun k => spec_l2bent.l0 k s i v l) (m, i, v) ∧ Bent m := by
  induction d with
  | zero =>
    intro l i v hb hd
    refine ⟨l, Ev.step (fun k => by rw [spec_l2bent.l0]) ?_, hb⟩
    exact Ev.neg (by omega) (Ev.now _)
  | succ d ih =>
    intro l i v hb hd
    obtain ⟨m, hm, hb'⟩ := ih (l ++ [1]) i v (bent_snoc (by omega) hb (by omega) (by omega)) (by simp; omega)
    exact ⟨m, Ev.step (fun k => by rw [spec_l2bent.l0]) (Ev.pos (by omega) (Ev.pos (by omega) hm)), hb'⟩
theorem l2bent_ev {s : List Int} {i : Int} (h : At s i) (v : Int) : ∃ l j u, Ev (fun k => spec_l2bent.f k s i v) (l, j, u) ∧ Bent l ∧ At s j := by
  obtain ⟨x, j, u, hx, hl, r⟩ := l2draw_ev h v
  obtain ⟨b, j1, u1, e1, r1⟩ := l1Once_eq r u 9 (by omega) (by omega)
  have hb := bent_D (x := x) (by omega)
  cases b
  · refine ⟨D x, j1, u1, Ev.bind hx ?_, hb, r1⟩
    simp only [e1, Option.bind_some]
    exact Ev.neg (by simp) (Ev.now _)
  · obtain ⟨b2, j2, u2, e2, p2, q2, r2⟩ := l1Below_eq r1 u1 4 (by omega) (by omega)
    have start : ∀ {l : List Int} {j u : Int}, Ev (fun k => if b2 = 0 then (if (D x).length < 17592186044416 then some (D x ++ [0], j2, u2) else none) else if b2 = 1 then (if (D x).length < 17592186044416 then some (D x ++ [-1], j2, u2) else none) else if b2 = 2 then (if (D x).length < 17592186044416 then some (D x ++ [65536], j2, u2) else none) else spec_l2bent.l0 k s j2 u2 (D x)) (l, j, u) → Ev (fun k => spec_l2bent.f k s i v) (l, j, u) := by
      intro l j u g
      refine Ev.bind hx ?_
      simp only [e1, Option.bind_some]
      refine Ev.pos (by simp) ?_
      simp only [e2, Option.bind_some]
      exact g
    by_cases c0 : b2 = 0
    · exact ⟨_, _, _, start (Ev.pos c0 (Ev.pos (by omega) (Ev.now _))), bent_snoc hl hb (by omega) (by omega), r2⟩
    by_cases c1 : b2 = 1
    · exact ⟨_, _, _, start (Ev.neg c0 (Ev.pos c1 (Ev.pos (by omega) (Ev.now _)))), bent_snoc hl hb (by omega) (by omega), r2⟩
    by_cases c2 : b2 = 2
    · exact ⟨_, _, _, start (Ev.neg c0 (Ev.neg c1 (Ev.pos c2 (Ev.pos (by omega) (Ev.now _))))), bent_snoc hl hb (by omega) (by omega), r2⟩
    obtain ⟨m, hm, hb'⟩ := l2bent_l0 (s := s) (101 - (D x).length) (D x) j2 u2 hb (by omega)
    exact ⟨m, j2, u2, start (Ev.neg c0 (Ev.neg c1 (Ev.neg c2 hm))), hb', r2⟩
end Go.Proofs.Ytjepgnfgalnjhaa.Draw
namespace Go.Proofs.Ytjepgnfgalnjhaa.ExA
open Go.RowKit (wrap64)
open Go.Proofs.Ytjepgnfgalnjhaa.Q Go.Proofs.YtjepgnfgalnjhaaW.PrintWords Go.Proofs.YtjepgnfgalnjhaaW.PrintLast Go.Proofs.YtjepgnfgalnjhaaW.PrintMore Go.Proofs.Ytjepgnfgalnjhaa.Num
open Go.Proofs.Ytjepgnfgalnjhaa.Ex Go.Proofs.Ytjepgnfgalnjhaa.Low Go.Proofs.Ytjepgnfgalnjhaa.Law
/-- The number of a list. -/
def N (l : List Int) : Nat := (val l).toNat
theorem N_D (n : Nat) : N (D n) = n := by unfold N; rw [val_D, Int.toNat_natCast]
theorem len_mul {x y : Nat} (hx : (D x).length ≤ 100) (hy : (D y).length ≤ 100) : (D (x * y)).length ≤ 200 := by
  rw [len_D_le] at *
  calc x * y < 65536 ^ 100 * 65536 ^ 100 := Nat.mul_lt_mul'' hx hy
    _ = 65536 ^ 200 := by rw [← Nat.pow_add]
def natBin (op : Nat → Nat → Nat) (a b : List Int) : List Int × Bool := if natOkB a = true ∧ natOkB b = true then fits (D (op (N a) (N b))) else ([], false)
theorem implNatMul_ev (a b : List Int) : Ev (fun k => impl_NatMul.f k a b) (natBin (· * ·) a b) := by
  unfold impl_NatMul.f
  simp only [areNats_eq, Option.bind_some]
  refine Ev.ite (fun h => ?_) (fun h => Ev.eq ?_)
  · rw [Bool.and_eq_true] at h
    obtain ⟨x, rfl, hx⟩ := (natOkB_iff a).1 h.1
    obtain ⟨y, rfl, hy⟩ := (natOkB_iff b).1 h.2
    have := len_mul hx hy
    refine Ev.bind (times_ev x y (by omega) (by omega)) ?_
    simp only [natOf_eq _ (by omega : (D (x * y)).length < 1000000000), Option.bind_some]
    refine Ev.eq ?_
    unfold natBin
    rw [if_pos h, N_D, N_D]
  · unfold natBin; rw [if_neg (by simpa using h)]
theorem len_mono {x y : Nat} (h : x ≤ y) : (D x).length ≤ (D y).length := by
  rw [len_D_le]
  exact Nat.lt_of_le_of_lt h ((len_D_le).1 (Nat.le_refl _))
end Go.Proofs.Ytjepgnfgalnjhaa.ExA
namespace Go.Proofs.Ytjepgnfgalnjhaa.ExO
open Go.RowKit (wrap64)
open Go.Proofs.Ytjepgnfgalnjhaa.Q Go.Proofs.YtjepgnfgalnjhaaW.PrintWords Go.Proofs.YtjepgnfgalnjhaaW.PrintLast Go.Proofs.YtjepgnfgalnjhaaW.PrintMore Go.Proofs.Ytjepgnfgalnjhaa.Num
open Go.Proofs.Ytjepgnfgalnjhaa.Ex Go.Proofs.Ytjepgnfgalnjhaa.Low Go.Proofs.Ytjepgnfgalnjhaa.Law Go.Proofs.Ytjepgnfgalnjhaa.ExA Go.Proofs.Ytjepgnfgalnjhaa.Bits Go.Proofs.Ytjepgnfgalnjhaa.Draw
theorem nat_ev (n : Nat) (hn : n < 9223372036854775808) : Ev (fun k => laws_nat.f k (n : Int)) (D n) := by
  refine Ev.bind (a := (D n, true)) (Ev.neg (by omega) (Ev.bind (l2of_ev n hn) (Ev.now _))) (Ev.now _)
theorem sameNat_l0 (a b : List Int) (ha : a.length < 1000000) (hab : a.length = b.length) (d : Nat) : ∀ (i : Nat), i + d = a.length → (∀ j, j < i → rd a (j : Int) = rd b (j : Int)) → Ev (fun k => laws_sameNat.l0 k (i : Int) a b) (decide (a = b)) := by
  induction d with
  | zero =>
    intro i hi hj
    refine Ev.step (fun k => by rw [laws_sameNat.l0]) ?_
    refine Ev.neg (by omega) (Ev.eq ?_)
    symm
    rw [decide_eq_true_eq]
    refine List.ext_getElem hab fun j h1 h2 => ?_
    have := hj j (by omega)
    unfold rd at this
    simpa [List.getD_eq_getElem?_getD, h1, h2] using this
  | succ d ih =>
    intro i hi hj
    refine Ev.step (fun k => by rw [laws_sameNat.l0]) (Ev.pos (by omega) (Ev.pos (by omega) (Ev.pos (by omega) (Ev.ite (fun c => ?_) (fun c => Ev.eq ?_)))))
    · rw [w64 (by omega) (by omega), cast_succ]
      refine ih (i + 1) (by omega) fun j h => ?_
      by_cases e : j = i
      · subst e; exact c
      · exact hj j (by omega)
    · symm
      rw [decide_eq_false_iff_not]
      intro e; subst e; exact c rfl
theorem sameNat_ev (a b : List Int) (ha : a.length < 1000000) (hb : b.length < 1000000) : Ev (fun k => laws_sameNat.f k a b) (decide (a = b)) := by
  refine Ev.ite (fun h => sameNat_l0 a b ha (by omega) _ 0 (Nat.zero_add _) (fun j hj => absurd hj (by omega))) (fun h => Ev.eq ?_)
  symm
  rw [decide_eq_false_iff_not]
  intro e; subst e; exact h rfl
theorem D_inj {x y : Nat} : D x = D y ↔ x = y := by
  constructor
  · intro h; have := congrArg N h; rwa [N_D, N_D] at this
  · rintro rfl; rfl
theorem len_u8 {n : Nat} (h : n ≤ 255) : (D n).length ≤ 100 := Nat.le_trans (len_D_le.2 (by omega : n < 65536 ^ 1)) (by omega)
end Go.Proofs.Ytjepgnfgalnjhaa.ExO
namespace Go.Proofs.Ytjepgnfgalnjhaa.ExP
open Go.RowKit (wrap64)
open Go.Proofs.Ytjepgnfgalnjhaa.Q Go.Proofs.YtjepgnfgalnjhaaW.PrintWords Go.Proofs.YtjepgnfgalnjhaaW.PrintLast Go.Proofs.YtjepgnfgalnjhaaW.PrintMore Go.Proofs.Ytjepgnfgalnjhaa.Num
open Go.Proofs.Ytjepgnfgalnjhaa.Ex Go.Proofs.Ytjepgnfgalnjhaa.Low Go.Proofs.Ytjepgnfgalnjhaa.Law Go.Proofs.Ytjepgnfgalnjhaa.ExA Go.Proofs.Ytjepgnfgalnjhaa.Bits
/-- From the power p on, d times more. -/
def powGo (x : Nat) : Nat → Nat → List Int × Bool
  | p, 0 => (D p, true)
  | p, d + 1 => if (D (p * x)).length ≤ 100 then powGo x (p * x) d else ([], false)
def natPow (a : List Int) (n : Int) : List Int × Bool := if natOkB a = true ∧ 0 ≤ n ∧ n ≤ 1600 then powGo (N a) 1 n.toNat else ([], false)
theorem len_one {q : Nat} (h : q ≤ 1) : (D q).length ≤ 100 := by
  rw [len_D_le]
  exact Nat.lt_of_le_of_lt h (by decide)
theorem powGo_small {x : Nat} (hx : x ≤ 1) (d : Nat) : ∀ p, p ≤ 1 → powGo x p d = (D (p * x ^ d), true) := by
  induction d with
  | zero => intro p h; simp [powGo]
  | succ d ih =>
    intro p h
    have h2 : p * x ≤ 1 := by
      have := Nat.mul_le_mul h hx
      omega
    rw [powGo, if_pos (len_one h2), ih _ h2, Nat.pow_succ, Nat.mul_assoc, Nat.mul_comm x]
theorem pow_small {x : Nat} (hx : x ≤ 1) {d : Nat} (hd : 0 < d) : x ^ d = x := by
  have : x = 0 ∨ x = 1 := by omega
  rcases this with rfl | rfl
  · exact Nat.zero_pow hd
  · simp
theorem bl_two {x : Nat} : bl x < 2 ↔ x ≤ 1 := by
  have := @bl_le x 1
  simp at this
  omega
theorem implPow_l0 (x : Nat) (hx : (D x).length ≤ 100) (n : Nat) (hn : n ≤ 1600) (d : Nat) : ∀ (i p : Nat), i + d = n → (D p).length ≤ 100 → Ev (fun k => impl_NatPow.l0 k (D p) (n : Int) (i : Int) (D x)) (powGo x p d) := by
  induction d with
  | zero =>
    intro i p hi hp
    refine Ev.step (fun k => by rw [impl_NatPow.l0]) (Ev.neg (by omega) ?_)
    simp only [natOf_eq (D p) (by omega), Option.bind_some]
    refine Ev.eq ?_
    unfold fits; rw [if_pos hp]; rfl
  | succ d ih =>
    intro i p hi hp
    refine Ev.step (fun k => by rw [impl_NatPow.l0]) (Ev.pos (by omega) (Ev.bind (times_ev p x (by omega) (by omega)) (Ev.ite (fun c => Ev.eq ?_) (fun c => ?_))))
    · rw [powGo, if_neg (by omega)]
    · rw [powGo, if_pos (by omega), w64 (by omega) (by omega)]
      exact ih (i + 1) (p * x) (by omega) (by omega)
theorem within_eq (a b c : Int) : impl_within.f a b c = some (decide (b ≤ a ∧ a ≤ c)) := by
  unfold impl_within.f
  by_cases h : b ≤ a <;> simp [h]
theorem implNatPow_ev (a : List Int) (n : Int) : Ev (fun k => impl_NatPow.f k a n) (natPow a n) := by
  unfold impl_NatPow.f impl_NatOk.f
  simp only [Option.bind_some, within_eq]
  refine Ev.ite (fun ha => Ev.step (fun k => by rw [impl_NatPow.j0]) (Ev.ite (fun c => Ev.eq ?_) (fun c => ?_))) (fun ha => Ev.step (fun k => by rw [impl_NatPow.j0]) (Ev.pos rfl (Ev.eq ?_)))
  · unfold natPow; rw [if_neg (by simp at c; omega)]
  · have c : 0 ≤ n ∧ n ≤ 1600 := by simpa using c
    obtain ⟨x, rfl, hx⟩ := (natOkB_iff a).1 ha
    obtain ⟨m, rfl⟩ : ∃ m : Nat, n = m := ⟨n.toNat, by omega⟩
    have hb := @bl_two x
    unfold natPow
    rw [if_pos ⟨ha, by omega, by omega⟩, N_D, Int.toNat_natCast]
    have go : Ev (fun k => (impl_small.f k 1).bind fun t662 => (impl_NatPow.l0 k t662 (m : Int) 0 (D x))) (powGo x 1 m) :=
      Ev.bind (small_ev 1 (by omega)) (implPow_l0 x hx m (by omega) m 0 1 (by omega) (len_one (Nat.le_refl _)))
    refine Ev.bind (bitsOf_ev x (by omega)) (Ev.ite (fun z => Ev.step (fun k => by rw [impl_NatPow.j1]) (Ev.ite (fun y => ?_) (fun y => go))) (fun z => Ev.step (fun k => by rw [impl_NatPow.j1]) (Ev.neg (by simp) go)))
    simp only [natOf_eq (D x) (by omega), Option.bind_some]
    refine Ev.eq ?_
    have hx1 : x ≤ 1 := by omega
    rw [decide_eq_true_eq] at y
    rw [powGo_small hx1 m 1 (Nat.le_refl _), Nat.one_mul, pow_small hx1 (by omega)]
    unfold fits; rw [if_pos hx]
  · unfold natPow; rw [if_neg (by simp_all)]
end Go.Proofs.Ytjepgnfgalnjhaa.ExP
namespace Go.Proofs.Ytjepgnfgalnjhaa.ExQ
open Go.RowKit (wrap64)
open Go.Proofs.Ytjepgnfgalnjhaa.Q Go.Proofs.YtjepgnfgalnjhaaW.PrintWords Go.Proofs.YtjepgnfgalnjhaaW.PrintLast Go.Proofs.YtjepgnfgalnjhaaW.PrintMore Go.Proofs.Ytjepgnfgalnjhaa.Num
open Go.Proofs.Ytjepgnfgalnjhaa.Ex Go.Proofs.Ytjepgnfgalnjhaa.Low Go.Proofs.Ytjepgnfgalnjhaa.Law Go.Proofs.Ytjepgnfgalnjhaa.ExA Go.Proofs.Ytjepgnfgalnjhaa.Bits Go.Proofs.Ytjepgnfgalnjhaa.Draw Go.Proofs.Ytjepgnfgalnjhaa.ExP Go.Proofs.Ytjepgnfgalnjhaa.ExO
theorem powGo_eq (x d : Nat) : ∀ p, (D p).length ≤ 100 → powGo x p d = fits (D (p * x ^ d)) := by
  induction d with
  | zero => intro p h; unfold powGo fits; simp [h]
  | succ d ih =>
    intro p h
    have e : p * x ^ (d + 1) = p * x * x ^ d := by rw [Nat.pow_succ, Nat.mul_assoc, Nat.mul_comm x]
    unfold powGo
    split
    · rename_i c
      rw [ih _ c, e]
    · rename_i c
      unfold fits
      rw [if_neg]
      intro z
      apply c
      refine Nat.le_trans (len_mono ?_) z
      rw [e]
      by_cases hx : x = 0
      · subst hx; simp
      · exact Nat.le_mul_of_pos_right _ (Nat.pow_pos (by omega))
theorem natPow_eq {x : Nat} (hx : (D x).length ≤ 100) {n : Nat} (hn : n ≤ 1600) : natPow (D x) (n : Int) = fits (D (x ^ n)) := by
  unfold natPow
  rw [if_pos ⟨natOkB_D hx, by omega, by omega⟩, N_D, Int.toNat_natCast, powGo_eq x n 1 (len_one (Nat.le_refl _)), Nat.one_mul]
theorem sameNat_refl (a : List Int) (ha : a.length < 1000000) : Ev (fun k => laws_sameNat.f k a a) true := Ev.to (sameNat_ev a a ha ha) (by simp)
theorem fits_ok {l : List Int} (h : l.length ≤ 100) : fits l = (l, true) := if_pos h
theorem fits_bad {l : List Int} (h : ¬ l.length ≤ 100) : fits l = ([], false) := if_neg h
theorem natBin_D (op : Nat → Nat → Nat) {x y : Nat} (hx : (D x).length ≤ 100) (hy : (D y).length ≤ 100) : natBin op (D x) (D y) = fits (D (op x y)) := by
  unfold natBin; rw [if_pos ⟨natOkB_D hx, natOkB_D hy⟩, N_D, N_D]
theorem DrawNatPow_ev (s : List Int) (hs : s.length ≤ 140737488351232) : ∃ a n, Ev (fun k => spec_DrawNatPow.f k s) (a, n) ∧ a.length ≤ 101 ∧ -1 ≤ n ∧ n ≤ 1601 := by
  obtain ⟨u0, h0⟩ := l1New_ev s hs
  obtain ⟨a, j1, u1, h1, b1, r1⟩ := l2bent_ev (s := s) (i := 0) ⟨hs, by omega, by omega⟩ u0
  obtain ⟨n, j2, u2, h2, p2, r2⟩ := l1PickInt_eq r1 u1 [0, 1, 2, 3, 5, 17, 400, 1600, 1601, -1] (by simp) (by simp)
  refine ⟨a, n, Ev.bind h0 (Ev.bind h1 ?_), b1.1, ?_, ?_⟩
  · simp only [h2, Option.bind_some]
    exact Ev.now _
  · simp at p2; omega
  · simp at p2; omega
theorem FnNatPows_ev (l0 : List Int) (h0 : l0.length ≤ 140737488351232) : Ev (fun k => laws_FnNatPows.f k l0) true := by
  obtain ⟨a, n, hd, ha, hn0, hn1⟩ := DrawNatPow_ev l0 h0
  have bad : natPow a n = ([], false) → Ev (fun k => laws_FnNatPows.j0 k n (natPow a n).2 true a (natPow a n).1) true := by
    intro h
    rw [h]
    refine Ev.step (fun k => by rw [laws_FnNatPows.j0]) ?_
    refine Ev.pos rfl ?_
    refine Ev.bind (nat_ev 2 (by omega)) ?_
    refine Ev.bind (implNatPow_ev _ _) ?_
    rw [show natPow (D 2) 3 = (D 8, true) by
      have := @natPow_eq 2 (len_u8 (by omega)) 3 (by omega)
      rw [fits_ok (len_u8 (by decide))] at this
      exact this]
    refine Ev.neg (by simp) ?_
    refine Ev.pos rfl ?_
    refine Ev.bind (nat_ev 8 (by omega)) ?_
    exact Ev.bind (sameNat_refl _ (by have := @len_u8 8 (by omega); dsimp only; omega)) (Ev.now _)
  refine Ev.bind hd (Ev.bind (implNatPow_ev a n) (Ev.bind (specNatOk_ev a) (Ev.ite (fun ka => Ev.ite (fun c => bad ?_) (fun c => ?_)) (fun ka => bad ?_))))
  · unfold natPow; rw [if_neg (by omega)]
  · by_cases c2 : n > 1600
    · rw [decide_eq_true c2]
      refine bad ?_
      unfold natPow; rw [if_neg (by omega)]
    rw [decide_eq_false c2]
    obtain ⟨x, rfl, hx⟩ := (natOkB_iff a).1 ka
    obtain ⟨m, rfl⟩ : ∃ m : Nat, n = m := ⟨n.toNat, by omega⟩
    rw [natPow_eq hx (by omega)]
    refine Ev.step (fun k => by rw [laws_FnNatPows.j0]) ?_
    refine Ev.neg (by simp) ?_
    by_cases hm : m = 0
    · subst hm
      rw [Nat.pow_zero, fits_ok (len_u8 (by omega))]
      refine Ev.pos rfl ?_
      refine Ev.pos rfl ?_
      refine Ev.bind (nat_ev 1 (by omega)) ?_
      exact Ev.bind (sameNat_refl _ (by have := @len_u8 1 (by omega); dsimp only; omega)) (Ev.now _)
    · refine Ev.neg (by omega) ?_
      obtain ⟨m, rfl⟩ : ∃ q, m = q + 1 := ⟨m - 1, by omega⟩
      rw [show wrap64 (((m + 1 : Nat) : Int) - 1) = (m : Int) by rw [w64 (by omega) (by omega)]; omega]
      refine Ev.bind (implNatPow_ev _ _) ?_
      rw [natPow_eq hx (by omega)]
      refine Ev.bind (implNatMul_ev _ _) ?_
      by_cases c : (D (x ^ (m + 1))).length ≤ 100
      · have c' : (D (x ^ m)).length ≤ 100 := by
          by_cases hx0 : x = 0
          · subst hx0
            refine len_one ?_
            by_cases z : m = 0
            · subst z; simp
            · rw [Nat.zero_pow (by omega)]; omega
          · exact Nat.le_trans (len_mono (Nat.pow_le_pow_right (by omega) (by omega))) c
        rw [fits_ok c, fits_ok c']
        dsimp only
        rw [natBin_D _ c' hx, ← Nat.pow_succ, fits_ok c]
        refine Ev.pos rfl ?_
        refine Ev.pos rfl ?_
        refine Ev.pos rfl ?_
        exact Ev.bind (sameNat_refl _ (by dsimp only; omega)) (Ev.pos rfl (Ev.now _))
      · rw [fits_bad c]
        refine Ev.neg (by simp) ?_
        by_cases c' : (D (x ^ m)).length ≤ 100
        · rw [fits_ok c']
          dsimp only
          rw [natBin_D _ c' hx, ← Nat.pow_succ, fits_bad c]
          exact Ev.pos rfl (Ev.neg (by simp) (Ev.now _))
        · rw [fits_bad c']
          exact Ev.neg (by simp) (Ev.now _)
  · unfold natPow; rw [if_neg (by simp_all)]
end Go.Proofs.Ytjepgnfgalnjhaa.ExQ
namespace Go.Proofs.Ytjepgnfgalnjhaa.Pure
open Go.RowKit (wrap64)
open Go.Proofs.Ytjepgnfgalnjhaa.Q Go.Proofs.YtjepgnfgalnjhaaW.PrintWords Go.Proofs.YtjepgnfgalnjhaaW.PrintLast Go.Proofs.YtjepgnfgalnjhaaW.PrintMore Go.Proofs.Ytjepgnfgalnjhaa.Num
theorem FnNatPows : Q.laws_FnNatPows.Pure := by
  intro l0 h1 h2 h3
  obtain ⟨K, h⟩ := ExQ.FnNatPows_ev l0 (by omega)
  exact ⟨K, h K (Nat.le_refl _)⟩
end Go.Proofs.Ytjepgnfgalnjhaa.Pure
