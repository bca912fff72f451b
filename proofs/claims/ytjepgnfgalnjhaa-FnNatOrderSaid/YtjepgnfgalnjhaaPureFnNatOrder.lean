/- The plain side of the statements: what the printed functions come to, in plain numbers. No conditions. -/
import Derived.Test.YtjepgnfgalnjhaaQ3
import Derived.Test.YtjepgnfgalnjhaaQ5
import Derived.Test.YtjepgnfgalnjhaaQ13
import Derived.Test.YtjepgnfgalnjhaaQ14
import Derived.Test.YtjepgnfgalnjhaaQ15
import Derived.Test.YtjepgnfgalnjhaaQ16
import Derived.Test.YtjepgnfgalnjhaaQ17
import Derived.Test.YtjepgnfgalnjhaaQ27
import Derived.Test.YtjepgnfgalnjhaaQ35
import Derived.Test.YtjepgnfgalnjhaaQ36
import Derived.Test.YtjepgnfgalnjhaaQ37
import Derived.Test.YtjepgnfgalnjhaaQ38
import Derived.Test.YtjepgnfgalnjhaaQ39
import Derived.Test.YtjepgnfgalnjhaaQ42
import Derived.Test.YtjepgnfgalnjhaaQ50
import Derived.Test.YtjepgnfgalnjhaaQ59
import Derived.Test.YtjepgnfgalnjhaaQ61
import Derived.Test.YtjepgnfgalnjhaaQ64
import Derived.Test.YtjepgnfgalnjhaaQ65
import Derived.Test.YtjepgnfgalnjhaaQ66
import Derived.Test.YtjepgnfgalnjhaaQ67
import Derived.Test.YtjepgnfgalnjhaaQ68
import Derived.Test.YtjepgnfgalnjhaaQ69
import Derived.Test.YtjepgnfgalnjhaaQ70
import Derived.Test.YtjepgnfgalnjhaaQ71
import Derived.Test.YtjepgnfgalnjhaaQ74
import Derived.Test.YtjepgnfgalnjhaaQ75
import Derived.Test.YtjepgnfgalnjhaaQ78
import Derived.Test.YtjepgnfgalnjhaaQ92
import Derived.Test.YtjepgnfgalnjhaaQ93
import Derived.Test.YtjepgnfgalnjhaaQ94
import Derived.Test.YtjepgnfgalnjhaaQ95
import Derived.Test.YtjepgnfgalnjhaaQ96
set_option linter.unusedVariables false
set_option linter.unusedSimpArgs false
namespace Go.Proofs.Ytjepgnfgalnjhaa.Num
end Go.Proofs.Ytjepgnfgalnjhaa.Num
namespace Go.Proofs.Ytjepgnfgalnjhaa.And
open Go.RowKit (wrap64)
open Go.Proofs.Ytjepgnfgalnjhaa.Q Go.Proofs.YtjepgnfgalnjhaaW.PrintWords Go.Proofs.YtjepgnfgalnjhaaW.PrintLast Go.Proofs.YtjepgnfgalnjhaaW.PrintMore Go.Proofs.Ytjepgnfgalnjhaa.Num
theorem and255 (n : Int) : Go.bits .and .i64 n 255 = n % 256 := by
  have h255 : (BitVec.ofInt 64 255).toNat = 2 ^ 8 - 1 := by decide
  have key : (BitVec.ofInt 64 n &&& BitVec.ofInt 64 255).toNat = (n % ((2 ^ 64 : Nat) : Int)).toNat % 2 ^ 8 := by
    rw [BitVec.toNat_and, BitVec.toNat_ofInt, h255, Nat.and_two_pow_sub_one_eq_mod]
  show Go.IntKind.i64.wrap ((BitVec.ofInt 64 n &&& BitVec.ofInt 64 255).toNat : Nat) = n % 256
  rw [key, Go.IntKind.wrap_i64]
  omega
end Go.Proofs.Ytjepgnfgalnjhaa.And
namespace Go.Proofs.Ytjepgnfgalnjhaa.Num
/-- The digits of a number, none for 0. -/
def D (n : Nat) : List Int := if h : n = 0 then [] else ((n % 65536 : Nat) : Int) :: D (n / 65536)
termination_by n
decreasing_by omega
theorem D_zero : D 0 = [] := by rw [D]; simp
theorem D_pos {n : Nat} (h : n ≠ 0) : D n = ((n % 65536 : Nat) : Int) :: D (n / 65536) := by rw [D]; simp [h]
def val : List Int → Int
  | [] => 0
  | x :: xs => x + 65536 * val xs
def GoodL (l : List Int) : Prop := ∀ x ∈ l, 0 ≤ x ∧ x < 65536
theorem GoodL.nil : GoodL [] := fun _ h => by simp at h
theorem GoodL.cons {x : Int} {l : List Int} (h0 : 0 ≤ x) (h1 : x < 65536) (h : GoodL l) : GoodL (x :: l) := by
  intro y hy
  rcases List.mem_cons.1 hy with rfl | hy
  · exact ⟨h0, h1⟩
  · exact h y hy
theorem GoodL.tail {x : Int} {l : List Int} (h : GoodL (x :: l)) : GoodL l := fun y hy => h y (List.mem_cons_of_mem _ hy)
theorem GoodL.head {x : Int} {l : List Int} (h : GoodL (x :: l)) : 0 ≤ x ∧ x < 65536 := h x List.mem_cons_self
theorem GoodL.append {a b : List Int} (ha : GoodL a) (hb : GoodL b) : GoodL (a ++ b) := by
  intro x hx
  rcases List.mem_append.1 hx with hx | hx
  · exact ha x hx
  · exact hb x hx
theorem GoodL.snoc {l : List Int} {x : Int} (h : GoodL l) (h0 : 0 ≤ x) (h1 : x < 65536) : GoodL (l ++ [x]) := h.append (GoodL.nil.cons h0 h1)
theorem GoodL.take {l : List Int} (h : GoodL l) (i : Nat) : GoodL (l.take i) := fun x hx => h x (List.mem_of_mem_take hx)
theorem GoodL.getD {l : List Int} (h : GoodL l) (i : Nat) : 0 ≤ l.getD i 0 ∧ l.getD i 0 < 65536 := by
  rw [List.getD_eq_getElem?_getD]
  cases e : l[i]? with
  | none => simp
  | some x => simpa using h x (List.mem_of_getElem? e)
theorem val_nil : val [] = 0 := rfl
theorem val_cons (x : Int) (l : List Int) : val (x :: l) = x + 65536 * val l := rfl
theorem val_append (a b : List Int) : val (a ++ b) = val a + 65536 ^ a.length * val b := by
  induction a with
  | nil => simp [val]
  | cons x a ih => rw [List.cons_append, val_cons, val_cons, ih, List.length_cons, Int.pow_succ]; grind
theorem val_snoc (a : List Int) (x : Int) : val (a ++ [x]) = val a + 65536 ^ a.length * x := by
  rw [val_append]; simp [val]
theorem powN_pos (n : Nat) : 0 < 65536 ^ n := Nat.pow_pos (by decide)
theorem pow_cast (n : Nat) : ((65536 ^ n : Nat) : Int) = (65536 : Int) ^ n := by rw [Int.natCast_pow]; rfl
theorem val_nonneg {l : List Int} (h : GoodL l) : 0 ≤ val l := by
  induction l with
  | nil => simp [val]
  | cons x l ih => have := ih h.tail; have := h.head; rw [val_cons]; omega
theorem val_lt {l : List Int} (h : GoodL l) : val l < 65536 ^ l.length := by
  induction l with
  | nil => simp [val]
  | cons x l ih =>
    have h1 := ih h.tail
    have h2 := h.head
    rw [val_cons, List.length_cons, Int.pow_succ]
    omega
theorem good_D (n : Nat) : GoodL (D n) := by
  induction n using Nat.strongRecOn with
  | _ n ih =>
    by_cases h : n = 0
    · subst h; rw [D_zero]; exact GoodL.nil
    · rw [D_pos h]; exact GoodL.cons (by omega) (by omega) (ih _ (by omega))
theorem val_D (n : Nat) : val (D n) = n := by
  induction n using Nat.strongRecOn with
  | _ n ih =>
    by_cases h : n = 0
    · subst h; rw [D_zero]; rfl
    · rw [D_pos h, val_cons, ih _ (by omega)]; omega
theorem D_inj {a b : Nat} (h : D a = D b) : a = b := by
  have := val_D a
  rw [h, val_D] at this
  omega
theorem D_nil_iff {n : Nat} : D n = [] ↔ n = 0 := by
  constructor
  · intro h
    exact D_inj (h.trans D_zero.symm)
  · rintro rfl; exact D_zero
theorem len_D_le {n k : Nat} : (D n).length ≤ k ↔ n < 65536 ^ k := by
  induction k generalizing n with
  | zero =>
    rw [Nat.pow_zero]
    constructor
    · intro h
      have := D_nil_iff.1 (List.eq_nil_of_length_eq_zero (by omega : (D n).length = 0))
      omega
    · intro h
      obtain rfl : n = 0 := by omega
      simp [D_zero]
  | succ k ih =>
    by_cases h : n = 0
    · subst h; simp [D_zero, powN_pos]
    · rw [D_pos h, List.length_cons, Nat.pow_succ]
      have := @ih (n / 65536)
      omega
theorem len_D_lt {n k : Nat} : k < (D n).length ↔ 65536 ^ k ≤ n := by
  have := @len_D_le n k
  omega
theorem lt_len_D (n : Nat) : n < 65536 ^ (D n).length := len_D_le.1 (Nat.le_refl _)
theorem len_D_mono {a b : Nat} (h : a ≤ b) : (D a).length ≤ (D b).length := len_D_le.2 (Nat.lt_of_le_of_lt h (lt_len_D b))
/-- A digit of a good list, by its value. -/
theorem getD_val {l : List Int} (h : GoodL l) (i : Nat) : l.getD i 0 = val l / 65536 ^ i % 65536 := by
  induction l generalizing i with
  | nil => simp [val]
  | cons x l ih =>
    have hx := h.head
    rw [val_cons]
    cases i with
    | zero => simp; omega
    | succ i =>
      rw [List.getD_cons_succ, ih h.tail, Int.pow_succ, Int.mul_comm (65536 ^ i), ← Int.ediv_ediv_of_nonneg (by omega)]
      congr 2
      omega
theorem getD_D (n i : Nat) : (D n).getD i 0 = ((n / 65536 ^ i % 65536 : Nat) : Int) := by
  rw [getD_val (good_D n), val_D, ← pow_cast]
  omega
def Norm (l : List Int) : Prop := ∀ h : l ≠ [], l.getLast h ≠ 0
theorem norm_D (n : Nat) : Norm (D n) := by
  induction n using Nat.strongRecOn with
  | _ n ih =>
    intro h
    by_cases h0 : n = 0
    · exact absurd (D_nil_iff.2 h0) h
    · have e := D_pos h0
      by_cases h1 : D (n / 65536) = []
      · have := D_nil_iff.1 h1
        simp only [e, h1]
        simp
        omega
      · simp only [e, List.getLast_cons h1]
        exact ih _ (by omega) h1
theorem D_val {l : List Int} (h : GoodL l) (hn : Norm l) : D (val l).toNat = l := by
  induction l with
  | nil => simp [val, D_zero]
  | cons x l ih =>
    have hx := h.head
    have hv := val_nonneg h.tail
    have hn' : Norm l := by
      intro hl
      have := hn (by simp)
      rwa [List.getLast_cons hl] at this
    have hp : (val (x :: l)).toNat ≠ 0 := by
      by_cases hl : l = []
      · subst hl
        have := hn (by simp)
        simp at this
        rw [val_cons, val_nil]
        omega
      · have h1 : val l ≠ 0 := by
          intro h0
          have := ih h.tail hn'
          rw [h0] at this
          exact hl (by rw [← this]; exact D_zero)
        rw [val_cons]
        omega
    rw [D_pos hp]
    have e1 : ((val (x :: l)).toNat % 65536 : Nat) = x := by rw [val_cons]; omega
    have e2 : (val (x :: l)).toNat / 65536 = (val l).toNat := by rw [val_cons]; omega
    rw [e1, e2, ih h.tail hn']
theorem norm_iff (l : List Int) : Norm l ↔ (l = [] ∨ l.getD (l.length - 1) 0 ≠ 0) := by
  unfold Norm
  constructor
  · intro h
    by_cases hl : l = []
    · exact .inl hl
    · refine .inr ?_
      have h1 := h hl
      rw [List.getLast_eq_getElem] at h1
      have h2 : l.length - 1 < l.length := by have := List.length_pos_iff.2 hl; omega
      rw [List.getD_eq_getElem?_getD, List.getElem?_eq_getElem h2]
      exact h1
  · rintro (h | h) hl
    · exact absurd h hl
    · rw [List.getLast_eq_getElem]
      have h2 : l.length - 1 < l.length := by have := List.length_pos_iff.2 hl; omega
      rw [List.getD_eq_getElem?_getD, List.getElem?_eq_getElem h2] at h
      exact h
/-- A good list that is known by its value: nought at its end falls away. -/
theorem val_dropLast {l : List Int} (h : l ≠ []) (h0 : l.getLast h = 0) : val l.dropLast = val l := by
  have e := List.dropLast_concat_getLast h
  have h2 := val_snoc l.dropLast (l.getLast h)
  rw [e, h0] at h2
  omega
theorem mod_pow_succ (x i : Nat) : x % 65536 ^ (i + 1) = x % 65536 ^ i + 65536 ^ i * (x / 65536 ^ i % 65536) := Nat.mod_pow_succ
theorem mod_len (x i : Nat) (h : (D x).length ≤ i) : x % 65536 ^ i = x := Nat.mod_eq_of_lt (len_D_le.1 h)
/-- The lowest i digits of a number, as an integer. -/
def lo (x i : Nat) : Int := ((x % 65536 ^ i : Nat) : Int)
/-- A digit of a number, as an integer. -/
def dg (x i : Nat) : Int := ((x / 65536 ^ i % 65536 : Nat) : Int)
theorem lo_zero (x : Nat) : lo x 0 = 0 := by unfold lo; rw [Nat.pow_zero, Nat.mod_one]; rfl
theorem lo_succ (x i : Nat) : lo x (i + 1) = lo x i + 65536 ^ i * dg x i := by
  unfold lo dg
  rw [mod_pow_succ, Int.natCast_add, Int.natCast_mul, pow_cast]
theorem lo_len {x i : Nat} (h : (D x).length ≤ i) : lo x i = x := by unfold lo; rw [mod_len x i h]
theorem dg_bd (x i : Nat) : 0 ≤ dg x i ∧ dg x i < 65536 := by unfold dg; omega
theorem dg_len {x i : Nat} (h : (D x).length ≤ i) : dg x i = 0 := by
  unfold dg
  rw [Nat.div_eq_of_lt (len_D_le.1 h)]
  rfl
/-- One digit of a difference. -/
theorem step_sub {v p c a b da db r c' : Int} (h : v - p * c = a - b) (hs : r - 65536 * c' = da - c - db) : (v + p * r) - (p * 65536) * c' = (a + p * da) - (b + p * db) := by
  grind
/-- -1, 0 or 1. -/
def cmpI (x y : Nat) : Int := if x < y then -1 else if x = y then 0 else 1
theorem lt_of_len {x y : Nat} (h : (D x).length < (D y).length) : x < y := by
  have h1 := lt_len_D x
  have h2 := len_D_lt.1 h
  omega
theorem div_pow_succ (x i : Nat) : x / 65536 ^ i = 65536 * (x / 65536 ^ (i + 1)) + x / 65536 ^ i % 65536 := by
  rw [Nat.pow_succ, ← Nat.div_div_eq_div_mul]
  omega
theorem lt_of_div {x y p : Nat} (h : x / p < y / p) : x < y := by
  rcases Nat.lt_or_ge x y with h1 | h1
  · exact h1
  · have := Nat.div_le_div_right (c := p) h1
    omega
end Go.Proofs.Ytjepgnfgalnjhaa.Num
namespace Go.Proofs.Ytjepgnfgalnjhaa.Ex
open Go.RowKit (wrap64)
open Go.Proofs.Ytjepgnfgalnjhaa.Q Go.Proofs.YtjepgnfgalnjhaaW.PrintWords Go.Proofs.YtjepgnfgalnjhaaW.PrintLast Go.Proofs.YtjepgnfgalnjhaaW.PrintMore Go.Proofs.Ytjepgnfgalnjhaa.Num
theorem Ev.pos {α : Type} {c : Prop} [Decidable c] {a b : Nat → Option α} {r : α} (hc : c) (h : Ev a r) : Ev (fun k => if c then a k else b k) r := by
  simp only [if_pos hc]; exact h
theorem Ev.neg {α : Type} {c : Prop} [Decidable c] {a b : Nat → Option α} {r : α} (hc : ¬ c) (h : Ev b r) : Ev (fun k => if c then a k else b k) r := by
  simp only [if_neg hc]; exact h
theorem Ev.ite {α : Type} {c : Prop} [Decidable c] {a b : Nat → Option α} {r : α} (ha : c → Ev a r) (hb : ¬ c → Ev b r) : Ev (fun k => if c then a k else b k) r := by
  by_cases h : c
  · exact Ev.pos h (ha h)
  · exact Ev.neg h (hb h)
theorem Ev.some {α β : Type} {a : α} {f : Nat → α → Option β} {r : β} (h : Ev (fun k => f k a) r) : Ev (fun k => (Option.some a).bind (f k)) r := h
theorem Ev.eq {α : Type} {a r : α} (h : a = r) : Ev (fun _ => Option.some a) r := h ▸ Ev.now a
theorem w64 {n : Int} (h0 : -9223372036854775808 ≤ n) (h1 : n < 9223372036854775808) : wrap64 n = n := by unfold wrap64; omega
theorem tmod_nn {a : Int} (b : Int) (h : 0 ≤ a) : Int.tmod a b = a % b := Int.tmod_eq_emod_of_nonneg h
theorem tdiv_nn {a : Int} (b : Int) (h : 0 ≤ a) : Int.tdiv a b = a / b := Int.tdiv_eq_ediv_of_nonneg h
theorem rd_D (n : Nat) (i : Int) : rd (D n) i = ((n / 65536 ^ i.toNat % 65536 : Nat) : Int) := getD_D n i.toNat
theorem rd_dg (n i : Nat) : rd (D n) (i : Int) = dg n i := by rw [rd_D, Int.toNat_natCast]; rfl
theorem cast_succ (i : Nat) : (i : Int) + 1 = ((i + 1 : Nat) : Int) := by omega
theorem rd_nat (l : List Int) (i : Nat) : rd l (i : Int) = l.getD i 0 := by unfold rd; rw [Int.toNat_natCast]
theorem good_rd {l : List Int} (h : GoodL l) (i : Int) : 0 ≤ rd l i ∧ rd l i < 65536 := h.getD i.toNat
end Go.Proofs.Ytjepgnfgalnjhaa.Ex
namespace Go.Proofs.Ytjepgnfgalnjhaa.Bits
open Go.RowKit (wrap64)
open Go.Proofs.Ytjepgnfgalnjhaa.Q Go.Proofs.YtjepgnfgalnjhaaW.PrintWords Go.Proofs.YtjepgnfgalnjhaaW.PrintLast Go.Proofs.YtjepgnfgalnjhaaW.PrintMore Go.Proofs.Ytjepgnfgalnjhaa.Num
open Go.Proofs.Ytjepgnfgalnjhaa.Ex
/-- The bits of a number. -/
def bl (n : Nat) : Nat := if n = 0 then 0 else n.log2 + 1
theorem bl_le {n k : Nat} : bl n ≤ k ↔ n < 2 ^ k := by
  unfold bl
  by_cases h : n = 0
  · subst h; simp; exact Nat.two_pow_pos k
  · rw [if_neg h, ← Nat.log2_lt h]; omega
theorem bl_eq {n b : Nat} (h : ∀ k, n < 2 ^ k ↔ b ≤ k) : bl n = b := by
  have h1 := (@bl_le n b).2 ((h b).2 (Nat.le_refl _))
  have h2 := (h (bl n)).1 ((@bl_le n (bl n)).1 (Nat.le_refl _))
  omega
theorem bl_shift {n j : Nat} (h : 2 ^ j ≤ n) : bl n = bl (n / 2 ^ j) + j := by
  refine bl_eq fun k => ?_
  by_cases hk : k < j
  · have : 2 ^ k ≤ 2 ^ j := Nat.pow_le_pow_right (by decide) (by omega)
    constructor
    · intro; omega
    · intro; omega
  · have e : 2 ^ k = 2 ^ (k - j) * 2 ^ j := by rw [← Nat.pow_add]; congr 1; omega
    rw [e, ← Nat.div_lt_iff_lt_mul (Nat.two_pow_pos j), ← bl_le]
    omega
theorem tab_bl : ∀ i : Fin 256, bt (⟨#[0, 1, 2, 2, 3, 3, 3, 3, 4, 4, 4, 4, 4, 4, 4, 4, 5, 5, 5, 5, 5, 5, 5, 5, 5, 5, 5, 5, 5, 5, 5, 5, 6, 6, 6, 6, 6, 6, 6, 6, 6, 6, 6, 6, 6, 6, 6, 6, 6, 6, 6, 6, 6, 6, 6, 6, 6, 6, 6, 6, 6, 6, 6, 6, 7, 7, 7, 7, 7, 7, 7, 7, 7, 7, 7, 7, 7, 7, 7, 7, 7, 7, 7, 7, 7, 7, 7, 7, 7, 7, 7, 7, 7, 7, 7, 7, 7, 7, 7, 7, 7, 7, 7, 7, 7, 7, 7, 7, 7, 7, 7, 7, 7, 7, 7, 7, 7, 7, 7, 7, 7, 7, 7, 7, 7, 7, 7, 7, 8, 8, 8, 8, 8, 8, 8, 8, 8, 8, 8, 8, 8, 8, 8, 8, 8, 8, 8, 8, 8, 8, 8, 8, 8, 8, 8, 8, 8, 8, 8, 8, 8, 8, 8, 8, 8, 8, 8, 8, 8, 8, 8, 8, 8, 8, 8, 8, 8, 8, 8, 8, 8, 8, 8, 8, 8, 8, 8, 8, 8, 8, 8, 8, 8, 8, 8, 8, 8, 8, 8, 8, 8, 8, 8, 8, 8, 8, 8, 8, 8, 8, 8, 8, 8, 8, 8, 8, 8, 8, 8, 8, 8, 8, 8, 8, 8, 8, 8, 8, 8, 8, 8, 8, 8, 8, 8, 8, 8, 8, 8, 8, 8, 8, 8, 8, 8, 8, 8, 8, 8, 8, 8, 8, 8, 8, 8, 8]⟩ : ByteArray) (i.1 : Int) = (bl i.1 : Int) := by decide +kernel
theorem tab_eq {i : Nat} (h : i < 256) : bt (⟨#[0, 1, 2, 2, 3, 3, 3, 3, 4, 4, 4, 4, 4, 4, 4, 4, 5, 5, 5, 5, 5, 5, 5, 5, 5, 5, 5, 5, 5, 5, 5, 5, 6, 6, 6, 6, 6, 6, 6, 6, 6, 6, 6, 6, 6, 6, 6, 6, 6, 6, 6, 6, 6, 6, 6, 6, 6, 6, 6, 6, 6, 6, 6, 6, 7, 7, 7, 7, 7, 7, 7, 7, 7, 7, 7, 7, 7, 7, 7, 7, 7, 7, 7, 7, 7, 7, 7, 7, 7, 7, 7, 7, 7, 7, 7, 7, 7, 7, 7, 7, 7, 7, 7, 7, 7, 7, 7, 7, 7, 7, 7, 7, 7, 7, 7, 7, 7, 7, 7, 7, 7, 7, 7, 7, 7, 7, 7, 7, 8, 8, 8, 8, 8, 8, 8, 8, 8, 8, 8, 8, 8, 8, 8, 8, 8, 8, 8, 8, 8, 8, 8, 8, 8, 8, 8, 8, 8, 8, 8, 8, 8, 8, 8, 8, 8, 8, 8, 8, 8, 8, 8, 8, 8, 8, 8, 8, 8, 8, 8, 8, 8, 8, 8, 8, 8, 8, 8, 8, 8, 8, 8, 8, 8, 8, 8, 8, 8, 8, 8, 8, 8, 8, 8, 8, 8, 8, 8, 8, 8, 8, 8, 8, 8, 8, 8, 8, 8, 8, 8, 8, 8, 8, 8, 8, 8, 8, 8, 8, 8, 8, 8, 8, 8, 8, 8, 8, 8, 8, 8, 8, 8, 8, 8, 8, 8, 8, 8, 8, 8, 8, 8, 8, 8, 8, 8, 8]⟩ : ByteArray) (i : Int) = (bl i : Int) := tab_bl ⟨i, h⟩
theorem bl_small {n k : Nat} (h : n < 2 ^ k) : bl n ≤ k := bl_le.2 h
theorem Len64_ev (n : Nat) (h : n < 65536) : Ev (fun k => bits_Len64.f k (n : Int)) (bl n : Int) := by
  refine Ev.neg (by omega) (Ev.step (fun k => by rw [bits_Len64.j0]) (Ev.neg (by omega) ?_))
  have h8 := @bl_small n 16 (by omega)
  refine Ev.ite (fun c => ?_) (fun c => ?_)
  · have e : (n : Int) / 256 % 256 = ((n / 256 : Nat) : Int) := by omega
    rw [e]
    refine Ev.pos (by omega) (Ev.pos (by omega) (Ev.eq ?_))
    rw [tab_eq (by omega)]
    have := @bl_shift n 8 (by omega)
    simp only [show (2 : Nat) ^ 8 = 256 from rfl] at this
    rw [this]; simp only [wrap64]; omega
  · have e : (n : Int) % 256 = (n : Int) := by omega
    rw [e]
    refine Ev.pos (by omega) (Ev.pos (by omega) (Ev.eq ?_))
    rw [tab_eq (by omega)]
    simp only [wrap64]; omega
theorem bitsOf_ev (n : Nat) (h : (D n).length < 1000000) : Ev (fun k => impl_bitsOf.f k (D n)) (bl n : Int) := by
  by_cases hn : n = 0
  · subst hn; rw [D_zero]; exact Ev.pos rfl (Ev.eq rfl)
  have hl : 0 < (D n).length := by
    have h := @len_D_le n 0
    apply Nat.pos_of_ne_zero; intro b; have := h.1 (by omega); simp at this; omega
  have e : wrap64 (((D n).length : Int) - 1) = (((D n).length - 1 : Nat) : Int) := by rw [w64 (by omega) (by omega)]; omega
  unfold impl_bitsOf.f
  refine Ev.neg (by omega) ?_
  simp only [e]
  refine Ev.pos (by omega) (Ev.pos (by omega) ?_)
  generalize hL : (D n).length = L at *
  have h1 : ¬ n < 65536 ^ (L - 1) := by rw [← len_D_le, hL]; omega
  have h2 : n < 65536 ^ L := by rw [← len_D_le, hL]; exact Nat.le_refl _
  have e2 : (65536 : Nat) ^ (L - 1) = 2 ^ (16 * (L - 1)) := by rw [Nat.pow_mul]
  have h3 : n / 65536 ^ (L - 1) < 65536 := by
    rw [Nat.div_lt_iff_lt_mul (by exact Nat.pos_of_ne_zero (by intro z; rw [e2] at z; have := Nat.two_pow_pos (16 * (L - 1)); omega)), Nat.mul_comm, ← Nat.pow_succ]
    rwa [show (L - 1).succ = L by omega]
  have hb := @bl_shift n (16 * (L - 1)) (by omega)
  rw [← e2] at hb
  rw [rd_D, Int.toNat_natCast, Nat.mod_eq_of_lt h3]
  generalize n / 65536 ^ (L - 1) = t at *
  have hbt := @bl_small t 16 (by omega)
  have e3 : Go.IntKind.u64.wrap (t : Int) = (t : Int) := by rw [Go.IntKind.wrap_u64]; omega
  simp only [e3]
  refine Ev.bind (Ev.bind (Len64_ev t h3) (Ev.now _)) (Ev.eq ?_)
  have hw1 : wrap64 (16 * ((L - 1 : Nat) : Int)) = 16 * ((L - 1 : Nat) : Int) := w64 (by omega) (by omega)
  have hw2 : wrap64 (16 * ((L - 1 : Nat) : Int) + (bl t : Int)) = 16 * ((L - 1 : Nat) : Int) + (bl t : Int) := w64 (by omega) (by omega)
  rw [hw1, hw2, hb]
  omega
end Go.Proofs.Ytjepgnfgalnjhaa.Bits
namespace Go.Proofs.Ytjepgnfgalnjhaa.Low
open Go.RowKit (wrap64)
open Go.Proofs.Ytjepgnfgalnjhaa.Q Go.Proofs.YtjepgnfgalnjhaaW.PrintWords Go.Proofs.YtjepgnfgalnjhaaW.PrintLast Go.Proofs.YtjepgnfgalnjhaaW.PrintMore Go.Proofs.Ytjepgnfgalnjhaa.Num
open Go.Proofs.Ytjepgnfgalnjhaa.Ex
theorem trim_ev (l : List Int) (h : GoodL l) (hl : l.length < 1000000000) : Ev (fun k => impl_trim.f k l) (D (val l).toNat) := by
  show Ev (fun k => impl_trim.l0 k l) _
  obtain ⟨n, hn⟩ : ∃ n, l.length = n := ⟨_, rfl⟩
  induction n generalizing l with
  | zero =>
    obtain rfl := List.eq_nil_of_length_eq_zero hn
    refine Ev.step (fun _ => rfl) (Ev.neg (by simp) (Ev.eq ?_))
    simp [val, D_zero]
  | succ n ih =>
    have hl0 : l ≠ [] := by intro e; simp [e] at hn
    refine Ev.step (fun k => by rw [impl_trim.l0]) ?_
    simp (disch := omega) only [w64]
    refine Ev.pos (by omega) (Ev.pos (by omega) (Ev.pos (by omega) ?_))
    have e1 : rd l ((l.length : Int) - 1) = l.getLast hl0 := by
      rw [show (l.length : Int) - 1 = ((l.length - 1 : Nat) : Int) by omega, rd_nat, List.getLast_eq_getElem, List.getD_eq_getElem?_getD, List.getElem?_eq_getElem (by omega)]
      rfl
    have e2 : l.take ((l.length : Int) - 1).toNat = l.dropLast := by
      rw [List.dropLast_eq_take]; congr 1; omega
    rw [e1, e2]
    refine Ev.ite (fun h0 => Ev.pos (by omega) ?_) (fun h0 => Ev.eq ?_)
    · have hd : GoodL l.dropLast := by rw [List.dropLast_eq_take]; exact h.take _
      have := ih l.dropLast hd (by rw [List.length_dropLast]; omega) (by rw [List.length_dropLast]; omega)
      rwa [val_dropLast hl0 h0] at this
    · exact (D_val h (fun _ => h0)).symm
/-- The reference's cutting of noughts. -/
theorem norm_l0 (l : List Int) (h : GoodL l) (hl : l.length < 1000000000) (n : Nat) (hn : n ≤ l.length) : Ev (fun k => spec_l2norm.l0 k l (n : Int)) (D (val (l.take n)).toNat) := by
  induction n with
  | zero =>
    refine Ev.step (fun k => by rw [spec_l2norm.l0]) ?_
    refine Ev.neg (by omega) (Ev.some (Ev.pos (by omega) (Ev.pos (by omega) (Ev.pos (by simp) (Ev.eq ?_)))))
    simp [val, D_zero]
  | succ n ih =>
    refine Ev.step (fun k => by rw [spec_l2norm.l0]) ?_
    simp (disch := omega) only [w64]
    refine Ev.pos (by omega) (Ev.pos (by omega) (Ev.pos (by omega) ?_))
    rw [show ((n + 1 : Nat) : Int) - 1 = (n : Int) by omega, rd_nat]
    have e : l.take (n + 1) = l.take n ++ [l.getD n 0] := by
      rw [List.take_succ_eq_append_getElem (by omega), List.getD_eq_getElem?_getD, List.getElem?_eq_getElem (by omega)]; rfl
    refine Ev.ite (fun h0 => ?_) (fun h0 => ?_)
    · have := ih (by omega)
      rw [e, val_snoc, h0]
      simpa using this
    · refine Ev.some (Ev.pos (by omega) (Ev.pos (by omega) (Ev.pos (by simp; omega) (Ev.eq ?_))))
      rw [Int.toNat_natCast, List.nil_append]
      refine (D_val (h.take _) ?_).symm
      intro hne
      simp only [e]
      rw [List.getLast_append]
      simpa using h0
theorem norm_ev (l : List Int) (h : GoodL l) (hl : l.length < 1000000000) : Ev (fun k => spec_l2norm.f k l) (D (val l).toNat) := by
  have := norm_l0 l h hl l.length (Nat.le_refl _)
  rwa [List.take_length] at this
/-- The program's difference, of a number and one that is not greater. -/
theorem minus_l0 (x y : Nat) (hx : (D x).length < 1000000) (hyx : y ≤ x) (d : Nat) : ∀ (i : Nat) (out : List Int) (c : Int), i + d = (D x).length → GoodL out → out.length = i → 0 ≤ c → c ≤ 1 →
    val out - 65536 ^ i * c = lo x i - lo y i → Ev (fun k => impl_minus.l0 k (D y) out c (D x) ((D x).length : Int) (i : Int)) (D (x - y)) := by
  have hlen := len_D_mono hyx
  induction d with
  | zero =>
    intro i out c hi hg hl h0 h1 hv
    refine Ev.step (fun k => by rw [impl_minus.l0]) ?_
    refine Ev.neg (by omega) ?_
    refine Ev.bind (trim_ev _ hg (by omega)) (Ev.eq ?_)
    rw [lo_len (by omega), lo_len (by omega)] at hv
    have h2 := val_lt hg
    rw [hl] at h2
    have hc : c = 0 := by
      rcases (by omega : c = 0 ∨ c = 1) with hc | hc
      · exact hc
      · subst hc; omega
    subst hc
    rw [show val out = ((x - y : Nat) : Int) by omega, Int.toNat_natCast]
  | succ d ih =>
    intro i out c hi hg hl h0 h1 hv
    refine Ev.step (fun k => by rw [impl_minus.l0]) ?_
    simp only [rd_dg]
    have b1 := dg_bd x i
    have b2 := dg_bd y i
    have e1 := lo_succ x i
    have e2 := lo_succ y i
    generalize dg x i = dx at *
    have fin : ∀ (r c' dy : Int), lo y (i + 1) = lo y i + 65536 ^ i * dy → r - 65536 * c' = dx - c - dy → 0 ≤ r → r < 65536 → 0 ≤ c' → c' ≤ 1 → Ev (fun k => impl_minus.l0 k (D y) (out ++ [r]) c' (D x) ((D x).length : Int) ((i : Int) + 1)) (D (x - y)) := by
      intro r c' dy e2' hr hr0 hr1 hc0 hc1
      rw [cast_succ]
      refine ih (i + 1) _ _ (by omega) (hg.snoc hr0 hr1) (by simp; omega) hc0 hc1 ?_
      rw [val_snoc, hl, e1, e2', Int.pow_succ]
      exact step_sub hv hr
    refine Ev.pos (by omega) (Ev.pos (by omega) (Ev.pos (by omega) ?_))
    refine Ev.ite (fun hlt => ?_) (fun hlt => ?_)
    · generalize dg y i = dy at *
      simp (disch := omega) only [w64]
      refine Ev.ite (fun hn => Ev.pos (by omega) ?_) (fun hn => Ev.pos (by omega) ?_)
      · exact fin _ _ dy e2 (by omega) (by omega) (by omega) (by omega) (by omega)
      · exact fin _ _ dy e2 (by omega) (by omega) (by omega) (by omega) (by omega)
    · have e3 : dg y i = 0 := dg_len (by omega)
      rw [e3] at e2
      simp (disch := omega) only [w64]
      refine Ev.ite (fun hn => Ev.pos (by omega) ?_) (fun hn => Ev.pos (by omega) ?_)
      · exact fin _ _ 0 e2 (by omega) (by omega) (by omega) (by omega) (by omega)
      · exact fin _ _ 0 e2 (by omega) (by omega) (by omega) (by omega) (by omega)
theorem minus_ev (x y : Nat) (hx : (D x).length < 1000000) (hyx : y ≤ x) : Ev (fun k => impl_minus.f k (D x) (D y)) (D (x - y)) := by
  unfold impl_minus.f
  refine Ev.pos (by omega) (Ev.pos (by omega) ?_)
  exact minus_l0 x y hx hyx _ 0 [] 0 (Nat.zero_add _) GoodL.nil rfl (by omega) (by omega) (by simp [val, lo_zero])
/-- Comparisons. -/
theorem Compare_ev (a b : Int) : cmp_Compare_int.f a b = some (if a < b then -1 else if a > b then 1 else 0) := by
  unfold cmp_Compare_int.f cmp_isNaN_int.f
  simp only [bne_self_eq_false, Option.bind_some]
  rw [if_neg (by simp), if_neg (by simp)]
  split
  · rfl
  · split <;> rfl
theorem cmp_step {x y i : Nat} (h : x / 65536 ^ (i + 1) = y / 65536 ^ (i + 1)) : (dg x i = dg y i → x / 65536 ^ i = y / 65536 ^ i) ∧ (dg x i < dg y i → x < y) ∧ (dg y i < dg x i → y < x) := by
  have e1 := div_pow_succ x i
  have e2 := div_pow_succ y i
  unfold dg
  refine ⟨fun h1 => by omega, fun h1 => lt_of_div (p := 65536 ^ i) (by omega), fun h1 => lt_of_div (p := 65536 ^ i) (by omega)⟩
theorem div_len {x n : Nat} (h : (D x).length ≤ n) : x / 65536 ^ n = 0 := Nat.div_eq_of_lt (len_D_le.1 h)
theorem compare_l0 (x y : Nat) (hx : (D x).length < 1000000) (hxy : (D x).length = (D y).length) (j : Nat) : j ≤ (D x).length → x / 65536 ^ j = y / 65536 ^ j → Ev (fun k => impl_compare.l0 k (D x) (D y) ((j : Int) - 1)) (cmpI x y) := by
  induction j with
  | zero =>
    intro _ he
    refine Ev.step (fun k => by rw [impl_compare.l0]) (Ev.neg (by omega) (Ev.eq ?_))
    rw [Nat.pow_zero, Nat.div_one, Nat.div_one] at he
    simp [cmpI, he]
  | succ j ih =>
    intro hj he
    obtain ⟨h1, h2, h3⟩ := cmp_step he
    refine Ev.step (fun k => by rw [impl_compare.l0]) ?_
    rw [show ((j + 1 : Nat) : Int) - 1 = (j : Int) by omega]
    simp only [rd_dg]
    simp (disch := omega) only [w64]
    refine Ev.pos (by omega) (Ev.pos (by omega) (Ev.pos (by omega) (Ev.pos (by omega) (Ev.ite (fun h => ih (by omega) (h1 h)) (fun h => ?_)))))
    simp only [Compare_ev, Option.bind_some]
    refine Ev.eq ?_
    unfold cmpI
    rcases Int.lt_or_gt_of_ne h with h | h
    · rw [if_pos h, if_pos (h2 h)]
    · have := h3 h
      rw [if_neg (by omega), if_pos h, if_neg (by omega), if_neg (by omega)]
theorem compare_ev (x y : Nat) (hx : (D x).length < 1000000) (hy : (D y).length < 1000000) : Ev (fun k => impl_compare.f k (D x) (D y)) (cmpI x y) := by
  unfold impl_compare.f
  simp (disch := omega) only [w64]
  refine Ev.ite (fun h => ?_) (fun h => ?_)
  · exact compare_l0 x y hx (by omega) _ (Nat.le_refl _) (by rw [div_len (Nat.le_refl _), div_len (by omega)])
  · simp only [Compare_ev, Option.bind_some]
    refine Ev.eq ?_
    unfold cmpI
    rcases Int.lt_or_gt_of_ne h with h | h
    · rw [if_pos h, if_pos (lt_of_len (by omega))]
    · have := @lt_of_len y x (by omega)
      rw [if_neg (by omega), if_pos h, if_neg (by omega), if_neg (by omega)]
/-- Numbers of the machine. -/
theorem small_l0 (m : Nat) : ∀ (n : Nat) (out : List Int), n < 65536 ^ m → n < 9223372036854775808 → out.length + m < 1000000 → Ev (fun k => impl_small.l0 k (n : Int) out) (out ++ D n) := by
  induction m with
  | zero =>
    intro n out hm hn hl
    obtain rfl : n = 0 := by rw [Nat.pow_zero] at hm; omega
    exact Ev.step (fun k => by rw [impl_small.l0]) (Ev.neg (by omega) (Ev.eq (by rw [D_zero, List.append_nil])))
  | succ m ih =>
    intro n out hm hn hl
    refine Ev.step (fun k => by rw [impl_small.l0]) ?_
    by_cases h : n = 0
    · subst h
      exact Ev.neg (by omega) (Ev.eq (by rw [D_zero, List.append_nil]))
    · simp (disch := omega) only [w64, tmod_nn, tdiv_nn]
      refine Ev.pos (by omega) (Ev.pos (by omega) ?_)
      rw [Nat.pow_succ] at hm
      have := ih (n / 65536) (out ++ [((n % 65536 : Nat) : Int)]) (by omega) (by omega) (by simp; omega)
      rw [D_pos h]
      simpa using this
theorem small_ev (n : Nat) (hn : n < 9223372036854775808) : Ev (fun k => impl_small.f k (n : Int)) (D n) :=
  small_l0 4 n [] (Nat.lt_of_lt_of_le hn (by decide)) hn (by simp)
theorem l2of_l0 (m : Nat) : ∀ (n : Nat) (out : List Int), n < 65536 ^ m → n < 9223372036854775808 → out.length + m < 1000000 → Ev (fun k => spec_l2of.l0 k (n : Int) out) (out ++ D n) := by
  induction m with
  | zero =>
    intro n out hm hn hl
    obtain rfl : n = 0 := by rw [Nat.pow_zero] at hm; omega
    exact Ev.step (fun k => by rw [spec_l2of.l0]) (Ev.neg (by omega) (Ev.eq (by rw [D_zero, List.append_nil])))
  | succ m ih =>
    intro n out hm hn hl
    refine Ev.step (fun k => by rw [spec_l2of.l0]) ?_
    by_cases h : n = 0
    · subst h
      exact Ev.neg (by omega) (Ev.eq (by rw [D_zero, List.append_nil]))
    · simp (disch := omega) only [w64, tmod_nn, tdiv_nn]
      refine Ev.pos (by omega) (Ev.pos (by omega) ?_)
      rw [Nat.pow_succ] at hm
      have := ih (n / 65536) (out ++ [((n % 65536 : Nat) : Int)]) (by omega) (by omega) (by simp; omega)
      rw [D_pos h]
      simpa using this
theorem l2of_ev (n : Nat) (hn : n < 9223372036854775808) : Ev (fun k => spec_l2of.f k (n : Int)) (D n) :=
  l2of_l0 4 n [] (Nat.lt_of_lt_of_le hn (by decide)) hn (by simp)
end Go.Proofs.Ytjepgnfgalnjhaa.Low
namespace Go.Proofs.Ytjepgnfgalnjhaa.Law
open Go.RowKit (wrap64)
open Go.Proofs.Ytjepgnfgalnjhaa.Q Go.Proofs.YtjepgnfgalnjhaaW.PrintWords Go.Proofs.YtjepgnfgalnjhaaW.PrintLast Go.Proofs.YtjepgnfgalnjhaaW.PrintMore Go.Proofs.Ytjepgnfgalnjhaa.Num
open Go.Proofs.Ytjepgnfgalnjhaa.Ex Go.Proofs.Ytjepgnfgalnjhaa.Low
/-- The test of a number. -/
theorem limbB_iff (x : Int) : limbB x = true ↔ 0 ≤ x ∧ x < 65536 := by unfold limbB; simp; omega
theorem all_limbB {l : List Int} : l.all limbB = true ↔ GoodL l := by
  rw [List.all_eq_true]
  exact ⟨fun h x hx => (limbB_iff x).1 (h x hx), fun h x hx => (limbB_iff x).2 (h x hx)⟩
theorem natOkB_iff (l : List Int) : natOkB l = true ↔ ∃ n, l = D n ∧ (D n).length ≤ 100 := by
  unfold natOkB
  rw [Bool.and_eq_true, Bool.and_eq_true, Bool.or_eq_true, decide_eq_true_eq, all_limbB, decide_eq_true_eq]
  constructor
  · rintro ⟨h1, h2, h3⟩
    have hn : Norm l := by
      rw [norm_iff]
      rcases h3 with h3 | h3
      · exact .inl (List.eq_nil_of_length_eq_zero h3)
      · by_cases h0 : l = []
        · exact .inl h0
        · have := List.length_pos_iff.2 h0
          rw [show (l.length : Int) - 1 = ((l.length - 1 : Nat) : Int) by omega, rd_nat] at h3
          exact .inr (by simpa using h3)
    have e := D_val h2 hn
    exact ⟨(val l).toNat, e.symm, by rw [e]; exact h1⟩
  · rintro ⟨n, rfl, h1⟩
    refine ⟨h1, good_D n, ?_⟩
    rcases (norm_iff _).1 (norm_D n) with h | h
    · exact .inl (by rw [h]; rfl)
    · by_cases h0 : (D n).length = 0
      · exact .inl h0
      · refine .inr ?_
        rw [show ((D n).length : Int) - 1 = (((D n).length - 1 : Nat) : Int) by omega, rd_nat]
        simpa using h
theorem natOkB_D {n : Nat} (h : (D n).length ≤ 100) : natOkB (D n) = true := (natOkB_iff _).2 ⟨n, rfl, h⟩
theorem specNatOk_l0 (l : List Int) (hl : l.length ≤ 100) (d : Nat) : ∀ (i : Nat), i + d = l.length → GoodL (l.take i) → Ev (fun k => spec_NatOk.l0 k (i : Int) l) (natOkB l) := by
  have tk : ∀ i, (h : i < l.length) → l.take (i + 1) = l.take i ++ [rd l (i : Int)] := fun i h => by
    rw [List.take_succ_eq_append_getElem h, rd_nat, List.getD_eq_getElem?_getD, List.getElem?_eq_getElem h]; rfl
  induction d with
  | zero =>
    intro i hi hg
    rw [List.take_of_length_le (by omega)] at hg
    have e0 : natOkB l = (decide (l.length = 0) || rd l ((l.length : Int) - 1) != 0) := by
      unfold natOkB
      rw [decide_eq_true hl, all_limbB.2 hg]
      rfl
    refine Ev.step (fun k => by rw [spec_NatOk.l0]) (Ev.neg (by omega) ?_)
    simp (disch := omega) only [w64]
    refine Ev.ite (fun h => Ev.eq ?_) (fun h => Ev.pos (by omega) (Ev.pos (by omega) (Ev.eq ?_)))
    · rw [e0, decide_eq_true (by omega)]; rfl
    · have hz := good_rd hg ((l.length : Int) - 1)
      rw [e0, decide_eq_false (p := l.length = 0) (by omega), Bool.false_or]
      by_cases h1 : rd l ((l.length : Int) - 1) = 0
      · rw [h1]; rfl
      · rw [decide_eq_true (by omega)]
        exact (bne_iff_ne.2 h1).symm
  | succ d ih =>
    intro i hi hg
    refine Ev.step (fun k => by rw [spec_NatOk.l0]) (Ev.pos (by omega) (Ev.pos (by omega) ?_))
    simp (disch := omega) only [w64]
    have bad : ¬ (0 ≤ rd l (i : Int) ∧ rd l (i : Int) < 65536) → false = natOkB l := by
      intro h
      cases e : natOkB l with
      | false => rfl
      | true =>
        obtain ⟨n, hn, _⟩ := (natOkB_iff l).1 e
        exact absurd (good_rd (hn ▸ good_D n : GoodL l) (i : Int)) h
    refine Ev.ite (fun h => Ev.eq (bad (by omega))) (fun h => Ev.ite (fun h2 => Ev.eq (bad (by omega))) (fun h2 => ?_))
    rw [cast_succ]
    refine ih (i + 1) (by omega) ?_
    rw [tk i (by omega)]
    exact hg.snoc (by omega) (by omega)
theorem specNatOk_ev (l : List Int) : Ev (fun k => spec_NatOk.f k l) (natOkB l) := by
  unfold spec_NatOk.f
  refine Ev.ite (fun h => Ev.eq ?_) (fun h => specNatOk_l0 l (by omega) _ 0 (Nat.zero_add _) GoodL.nil)
  unfold natOkB
  rw [decide_eq_false (by omega)]
  rfl
/-- What is not too long. -/
def fits (l : List Int) : List Int × Bool := if l.length ≤ 100 then (l, true) else ([], false)
theorem clone_eq (l : List Int) (hl : l.length < 1000000000) : slices_Clone_int_int.f l = some l := by
  unfold slices_Clone_int_int.f
  simp only [Option.bind_some, List.length_nil, List.nil_append]
  rw [if_pos (by omega)]
theorem natOf_eq (l : List Int) (hl : l.length < 1000000000) : impl_natOf.f l = some (fits l) := by
  unfold impl_natOf.f fits
  by_cases h : l.length ≤ 100
  · rw [if_neg (by omega), if_pos h, clone_eq l hl]; rfl
  · rw [if_pos (by omega), if_neg h]
theorem NatOk_eq (l : List Int) : impl_NatOk.f l = some (natOkB l) := rfl
theorem areNats_eq (a b : List Int) : impl_areNats.f a b = some (natOkB a && natOkB b) := by
  unfold impl_areNats.f
  rw [NatOk_eq, NatOk_eq]
  simp only [Option.bind_some]
  cases natOkB a <;> simp
end Go.Proofs.Ytjepgnfgalnjhaa.Law
namespace Go.Proofs.Ytjepgnfgalnjhaa.Draw
open Go.RowKit (wrap64)
open Go.Proofs.Ytjepgnfgalnjhaa.Q Go.Proofs.YtjepgnfgalnjhaaW.PrintWords Go.Proofs.YtjepgnfgalnjhaaW.PrintLast Go.Proofs.YtjepgnfgalnjhaaW.PrintMore Go.Proofs.Ytjepgnfgalnjhaa.Num
open Go.Proofs.Ytjepgnfgalnjhaa.Ex Go.Proofs.Ytjepgnfgalnjhaa.Low Go.Proofs.Ytjepgnfgalnjhaa.Law Go.Proofs.Ytjepgnfgalnjhaa.And
/-- A place in a code. -/
def At (s : List Int) (i : Int) : Prop := s.length ≤ 140737488351232 ∧ 0 ≤ i ∧ i ≤ s.length
theorem l1New_l0 (s : List Int) (hs : s.length ≤ 140737488351232) (d : Nat) : ∀ (v : Int) (i : Nat), i + d = 4000 → ∃ u, Ev (fun k => spec_l1New.l0 k s v (i : Int)) (s, 0, u) := by
  induction d with
  | zero =>
    intro v i hi
    refine ⟨v, Ev.step (fun k => by rw [spec_l1New.l0]) ?_⟩
    exact Ev.ite (fun _ => Ev.neg (by omega) (Ev.now _)) (fun _ => Ev.now _)
  | succ d ih =>
    intro v i hi
    by_cases h : (i : Int) < s.length
    · obtain ⟨u, hu⟩ := ih (Go.bits .and .i64 (wrap64 ((wrap64 ((wrap64 (v * 131)) + (wrap64 (rd s i)))) + 7)) 1073741823) (i + 1) (by omega)
      refine ⟨u, Ev.step (fun k => by rw [spec_l1New.l0]) (Ev.pos h (Ev.pos (by omega) (Ev.pos (by omega) ?_)))⟩
      rw [show wrap64 ((i : Int) + 1) = ((i + 1 : Nat) : Int) by rw [w64 (by omega) (by omega)]; omega]
      exact hu
    · refine ⟨v, Ev.step (fun k => by rw [spec_l1New.l0]) ?_⟩
      exact Ev.neg h (Ev.now _)
theorem l1New_ev (s : List Int) (hs : s.length ≤ 140737488351232) : ∃ u, Ev (fun k => spec_l1New.f k s) (s, 0, u) := l1New_l0 s hs 4000 _ 0 rfl
theorem l1Byte_eq {s : List Int} {i : Int} (h : At s i) (v : Int) : ∃ b j u, spec_l1Byte.f s i v = some (b, j, u) ∧ 0 ≤ b ∧ b < 256 ∧ At s j := by
  unfold spec_l1Byte.f
  simp only [and255]
  obtain ⟨h1, h2, h3⟩ := h
  by_cases c : i < s.length
  · rw [if_pos c, if_pos h2]
    refine ⟨_, _, _, rfl, by omega, by omega, h1, ?_⟩
    rw [w64 (by omega) (by omega)]; omega
  · rw [if_neg c]
    exact ⟨_, _, _, rfl, by omega, by omega, h1, h2, h3⟩
theorem l1Below_eq {s : List Int} {i : Int} (h : At s i) (v a : Int) (ha : 0 < a) (ha' : a < 4294967296) : ∃ b j u, spec_l1Below.f s i v a = some (b, j, u) ∧ 0 ≤ b ∧ b < a ∧ At s j := by
  unfold spec_l1Below.f
  rw [if_neg (by omega)]
  obtain ⟨b1, j1, u1, e1, p1, q1, r1⟩ := l1Byte_eq h v
  by_cases c : a ≤ 256
  · rw [if_pos c, e1]
    simp only [Option.bind_some]
    rw [if_neg (by omega)]
    refine ⟨_, _, _, rfl, ?_, ?_, r1⟩
    · exact Int.tmod_nonneg _ p1
    · exact Int.tmod_lt_of_pos _ ha
  · rw [if_neg c, e1]
    simp only [Option.bind_some]
    obtain ⟨b2, j2, u2, e2, p2, q2, r2⟩ := l1Byte_eq r1 u1
    rw [e2]; simp only [Option.bind_some]
    obtain ⟨b3, j3, u3, e3, p3, q3, r3⟩ := l1Byte_eq r2 u2
    rw [e3]; simp only [Option.bind_some]
    obtain ⟨b4, j4, u4, e4, p4, q4, r4⟩ := l1Byte_eq r3 u3
    rw [e4]; simp only [Option.bind_some]
    rw [if_neg (by omega)]
    refine ⟨_, _, _, rfl, ?_, ?_, r4⟩
    · refine Int.tmod_nonneg _ ?_
      simp only [wrap64]; omega
    · exact Int.tmod_lt_of_pos _ ha
theorem l1PickInt_eq {s : List Int} {i : Int} (h : At s i) (v : Int) (l : List Int) (hl : 0 < l.length) (hl' : l.length < 1000) : ∃ b j u, spec_l1PickInt.f s i v l = some (b, j, u) ∧ b ∈ l ∧ At s j := by
  unfold spec_l1PickInt.f
  obtain ⟨b, j, u, e, p, q, r⟩ := l1Below_eq h v (l.length : Int) (by omega) (by omega)
  rw [e]; simp only [Option.bind_some]
  rw [if_pos p, if_pos q]
  refine ⟨_, _, _, rfl, ?_, r⟩
  unfold rd
  rw [List.getD_eq_getElem?_getD, List.getElem?_eq_getElem (by omega)]
  exact List.getElem_mem _
theorem l1Once_eq {s : List Int} {i : Int} (h : At s i) (v a : Int) (ha : 0 < a) (ha' : a < 4294967296) : ∃ b j u, spec_l1Once.f s i v a = some (b, j, u) ∧ At s j := by
  unfold spec_l1Once.f
  obtain ⟨b, j, u, e, p, q, r⟩ := l1Below_eq h v a ha ha'
  rw [e]; simp only [Option.bind_some]
  exact ⟨_, _, _, rfl, r⟩
theorem l2drawLen_eq {s : List Int} {i : Int} (h : At s i) (v : Int) : ∃ n j u, spec_l2drawLen.f s i v = some (n, j, u) ∧ 0 ≤ n ∧ n ≤ 100 ∧ At s j := by
  unfold spec_l2drawLen.f
  obtain ⟨b, j, u, e, r⟩ := l1Once_eq h v 12 (by omega) (by omega)
  rw [e]; simp only [Option.bind_some]
  cases b
  · obtain ⟨b, j, u, e, p, q, r⟩ := l1Below_eq r u 6 (by omega) (by omega)
    rw [if_neg (by simp), e]; simp only [Option.bind_some]
    exact ⟨_, _, _, rfl, p, by omega, r⟩
  · obtain ⟨b, j, u, e, p, r⟩ := l1PickInt_eq r u [100, 99, 50, 20] (by simp) (by simp)
    rw [if_pos rfl, e]; simp only [Option.bind_some]
    simp at p
    exact ⟨_, _, _, rfl, by omega, by omega, r⟩
theorem goodL_snoc {l : List Int} {x : Int} (h : GoodL l) (h1 : 0 ≤ x) (h2 : x < 65536) : GoodL (l ++ [x]) := by
  intro y hy
  rcases List.mem_append.1 hy with hy | hy
  · exact h y hy
  · simp at hy; subst hy; exact ⟨h1, h2⟩
theorem norm_len (l : List Int) (h : GoodL l) : (D (val l).toNat).length ≤ l.length := by
  rw [len_D_le]
  have h1 := val_lt h
  have h2 := val_nonneg h
  have h3 : ((65536 : Int) ^ l.length) = ((65536 ^ l.length : Nat) : Int) := by rw [Int.natCast_pow]; rfl
  rw [h3] at h1
  omega
theorem l2draw_l0 {s : List Int} (n d : Nat) (hn : n ≤ 100) : ∀ (l : List Int) (i v : Int), At s i → GoodL l → l.length + d = n → ∃ x j u, Ev (fun k => spec_l2draw.l0 k l (n : Int) (l.length : Int) s i v) (D x, j, u) ∧ (D x).length ≤ 100 ∧ At s j := by
  induction d with
  | zero =>
    intro l i v hi hl hd
    obtain ⟨b, j, u, e, r⟩ := l1Once_eq hi v 4 (by omega) (by omega)
    cases b
    · refine ⟨(val l).toNat, j, u, Ev.step (fun k => by rw [spec_l2draw.l0]) (Ev.neg (by omega) ?_), Nat.le_trans (norm_len l hl) (by omega), r⟩
      simp only [e, Option.bind_some]
      exact Ev.neg (by simp) (Ev.bind (norm_ev l hl (by omega)) (Ev.now _))
    · obtain ⟨b, j', u', e', p, r'⟩ := l1PickInt_eq r u [0, 1, 2, 9, 10, 65535, 65536, 1099511627776, 4611686018427387903, 4611686018427387904] (by simp) (by simp)
      have hb : 0 ≤ b ∧ b ≤ 4611686018427387904 := by simp at p; omega
      obtain ⟨m, rfl⟩ : ∃ m : Nat, b = m := ⟨b.toNat, by omega⟩
      refine ⟨m, j', u', Ev.step (fun k => by rw [spec_l2draw.l0]) (Ev.neg (by omega) ?_), ?_, r'⟩
      · simp only [e, Option.bind_some]
        refine Ev.pos (by simp) ?_
        simp only [e', Option.bind_some]
        exact Ev.bind (l2of_ev m (by omega)) (Ev.now _)
      · refine Nat.le_trans (len_D_le.2 (?_ : m < 65536 ^ 4)) (by omega)
        omega
  | succ d ih =>
    intro l i v hi hl hd
    obtain ⟨b, j, u, e, p, q, r⟩ := l1Below_eq hi v 4 (by omega) (by omega)
    have key : ∀ (y : Int) (j u : Int), 0 ≤ y → y < 65536 → At s j → ∃ x j' u', Ev (fun k => spec_l2draw.l0 k (l ++ [y]) (n : Int) (wrap64 ((l.length : Int) + 1)) s j u) (D x, j', u') ∧ (D x).length ≤ 100 ∧ At s j' := by
      intro y j u h1 h2 h3
      have := ih (l ++ [y]) j u h3 (goodL_snoc hl h1 h2) (by simp; omega)
      rw [show wrap64 ((l.length : Int) + 1) = ((l ++ [y]).length : Int) by rw [w64 (by omega) (by omega)]; simp]
      exact this
    by_cases c0 : b = 0
    · obtain ⟨x, j', u', hx, hl', r'⟩ := key 65535 j u (by omega) (by omega) r
      refine ⟨x, j', u', Ev.step (fun k => by rw [spec_l2draw.l0]) (Ev.pos (by omega) ?_), hl', r'⟩
      simp only [e, Option.bind_some]
      exact Ev.pos c0 (Ev.pos (by omega) hx)
    · by_cases c1 : b = 1
      · obtain ⟨x, j', u', hx, hl', r'⟩ := key 0 j u (by omega) (by omega) r
        refine ⟨x, j', u', Ev.step (fun k => by rw [spec_l2draw.l0]) (Ev.pos (by omega) ?_), hl', r'⟩
        simp only [e, Option.bind_some]
        exact Ev.neg c0 (Ev.pos c1 (Ev.pos (by omega) hx))
      · obtain ⟨b2, j2, u2, e2, p2, q2, r2⟩ := l1Below_eq r u 65536 (by omega) (by omega)
        obtain ⟨x, j', u', hx, hl', r'⟩ := key b2 j2 u2 (by omega) (by omega) r2
        refine ⟨x, j', u', Ev.step (fun k => by rw [spec_l2draw.l0]) (Ev.pos (by omega) ?_), hl', r'⟩
        simp only [e, Option.bind_some]
        refine Ev.neg c0 (Ev.neg c1 ?_)
        simp only [e2, Option.bind_some]
        exact Ev.pos (by omega) hx
theorem l2draw_ev {s : List Int} {i : Int} (h : At s i) (v : Int) : ∃ x j u, Ev (fun k => spec_l2draw.f k s i v) (D x, j, u) ∧ (D x).length ≤ 100 ∧ At s j := by
  obtain ⟨n, j, u, e, p, q, r⟩ := l2drawLen_eq h v
  obtain ⟨m, rfl⟩ : ∃ m : Nat, n = m := ⟨n.toNat, by omega⟩
  obtain ⟨x, j', u', hx, hl, r'⟩ := l2draw_l0 m m (by omega) [] j u r (by intro y hy; simp at hy) (by simp)
  refine ⟨x, j', u', ?_, hl, r'⟩
  unfold spec_l2draw.f
  simp only [e, Option.bind_some]
  exact hx
/-- A list whose limbs are small, some of them wrong perhaps. -/
def Bent (l : List Int) : Prop := l.length ≤ 101 ∧ ∀ x ∈ l, -1 ≤ x ∧ x ≤ 65536
theorem bent_D {x : Nat} (h : (D x).length ≤ 101) : Bent (D x) := ⟨h, fun y hy => by have := good_D x y hy; omega⟩
theorem bent_snoc {l : List Int} {x : Int} (hl : l.length ≤ 100) (h : Bent l) (h1 : -1 ≤ x) (h2 : x ≤ 65536) : Bent (l ++ [x]) := by
  refine ⟨by simp; omega, fun y hy => ?_⟩
  rcases List.mem_append.1 hy with hy | hy
  · exact h.2 y hy
  · simp at hy; subst hy; exact ⟨h1, h2⟩
theorem l2bent_l0 {s : List Int} (d : Nat) : ∀ (l : List Int) (i v : Int), Bent l → l.length + d = 101 → ∃ m, Ev (fun k => spec_l2bent.l0 k s i v l) (m, i, v) ∧ Bent m := by
  induction d with
  | zero =>
    intro l i v hb hd
    refine ⟨l, Ev.step (fun k => by rw [spec_l2bent.l0]) ?_, hb⟩
    exact Ev.neg (by omega) (Ev.now _)
  | succ d ih =>
    intro l i v hb hd
    obtain ⟨m, hm, hb'⟩ := ih (l ++ [1]) i v (bent_snoc (by omega) hb (by omega) (by omega)) (by simp; omega)
    exact ⟨m, Ev.step (fun k => by rw [spec_l2bent.l0]) (Ev.pos (by omega) (Ev.pos (by omega) hm)), hb'⟩
theorem l2bent_ev {s : List Int} {i : Int} (h : At s i) (v : Int) : ∃ l j u, Ev (fun k => spec_l2bent.f k s i v) (l, j, u) ∧ Bent l ∧ At s j := by
  obtain ⟨x, j, u, hx, hl, r⟩ := l2draw_ev h v
  obtain ⟨b, j1, u1, e1, r1⟩ := l1Once_eq r u 9 (by omega) (by omega)
  have hb := bent_D (x := x) (by omega)
  cases b
  · refine ⟨D x, j1, u1, Ev.bind hx ?_, hb, r1⟩
    simp only [e1, Option.bind_some]
    exact Ev.neg (by simp) (Ev.now _)
  · obtain ⟨b2, j2, u2, e2, p2, q2, r2⟩ := l1Below_eq r1 u1 4 (by omega) (by omega)
    have start : ∀ {l : List Int} {j u : Int}, Ev (fun k => if b2 = 0 then (if (D x).length < 17592186044416 then some (D x ++ [0], j2, u2) else none) else if b2 = 1 then (if (D x).length < 17592186044416 then some (D x ++ [-1], j2, u2) else none) else if b2 = 2 then (if (D x).length < 17592186044416 then some (D x ++ [65536], j2, u2) else none) else spec_l2bent.l0 k s j2 u2 (D x)) (l, j, u) → Ev (fun k => spec_l2bent.f k s i v) (l, j, u) := by
      intro l j u g
      refine Ev.bind hx ?_
      simp only [e1, Option.bind_some]
      refine Ev.pos (by simp) ?_
      simp only [e2, Option.bind_some]
      exact g
    by_cases c0 : b2 = 0
    · exact ⟨_, _, _, start (Ev.pos c0 (Ev.pos (by omega) (Ev.now _))), bent_snoc hl hb (by omega) (by omega), r2⟩
    by_cases c1 : b2 = 1
    · exact ⟨_, _, _, start (Ev.neg c0 (Ev.pos c1 (Ev.pos (by omega) (Ev.now _)))), bent_snoc hl hb (by omega) (by omega), r2⟩
    by_cases c2 : b2 = 2
    · exact ⟨_, _, _, start (Ev.neg c0 (Ev.neg c1 (Ev.pos c2 (Ev.pos (by omega) (Ev.now _))))), bent_snoc hl hb (by omega) (by omega), r2⟩
    obtain ⟨m, hm, hb'⟩ := l2bent_l0 (s := s) (101 - (D x).length) (D x) j2 u2 hb (by omega)
    exact ⟨m, j2, u2, start (Ev.neg c0 (Ev.neg c1 (Ev.neg c2 hm))), hb', r2⟩
end Go.Proofs.Ytjepgnfgalnjhaa.Draw
namespace Go.Proofs.Ytjepgnfgalnjhaa.ExA
open Go.RowKit (wrap64)
open Go.Proofs.Ytjepgnfgalnjhaa.Q Go.Proofs.YtjepgnfgalnjhaaW.PrintWords Go.Proofs.YtjepgnfgalnjhaaW.PrintLast Go.Proofs.YtjepgnfgalnjhaaW.PrintMore Go.Proofs.Ytjepgnfgalnjhaa.Num
open Go.Proofs.Ytjepgnfgalnjhaa.Ex Go.Proofs.Ytjepgnfgalnjhaa.Low Go.Proofs.Ytjepgnfgalnjhaa.Law
/-- The number of a list. -/
def N (l : List Int) : Nat := (val l).toNat
theorem N_D (n : Nat) : N (D n) = n := by unfold N; rw [val_D, Int.toNat_natCast]
theorem len_mono {x y : Nat} (h : x ≤ y) : (D x).length ≤ (D y).length := by
  rw [len_D_le]
  exact Nat.lt_of_le_of_lt h ((len_D_le).1 (Nat.le_refl _))
theorem cmp_neg {x y : Nat} : cmpI x y < 0 ↔ x < y := by
  unfold cmpI; split <;> (try split) <;> omega
/-- The difference. -/
def natSub (a b : List Int) : List Int × Bool := if natOkB a = true ∧ natOkB b = true ∧ N b ≤ N a then (D (N a - N b), true) else ([], false)
theorem implNatSub_ev (a b : List Int) : Ev (fun k => impl_NatSub.f k a b) (natSub a b) := by
  unfold impl_NatSub.f
  simp only [areNats_eq, Option.bind_some]
  refine Ev.ite (fun h => ?_) (fun h => Ev.step (fun k => by rw [impl_NatSub.j0]) (Ev.pos rfl (Ev.eq ?_)))
  · rw [Bool.and_eq_true] at h
    obtain ⟨x, rfl, hx⟩ := (natOkB_iff a).1 h.1
    obtain ⟨y, rfl, hy⟩ := (natOkB_iff b).1 h.2
    refine Ev.bind (compare_ev x y (by omega) (by omega)) (Ev.step (fun k => by rw [impl_NatSub.j0]) (Ev.ite (fun c => Ev.eq ?_) (fun c => ?_)))
    · rw [decide_eq_true_eq, cmp_neg] at c; unfold natSub; rw [if_neg (by rw [N_D, N_D]; omega)]
    · rw [decide_eq_true_eq, cmp_neg] at c
      have hl := Nat.le_trans (len_mono (Nat.sub_le x y)) hx
      refine Ev.bind (minus_ev x y (by omega) (by omega)) ?_
      simp only [natOf_eq _ (by omega : (D (x - y)).length < 1000000000), Option.bind_some]
      refine Ev.eq ?_
      unfold natSub fits; rw [if_pos hl, if_pos ⟨h.1, h.2, by rw [N_D, N_D]; omega⟩, N_D, N_D]
  · unfold natSub; rw [if_neg (by intro z; simp_all)]
end Go.Proofs.Ytjepgnfgalnjhaa.ExA
namespace Go.Proofs.Ytjepgnfgalnjhaa.ExO
open Go.RowKit (wrap64)
open Go.Proofs.Ytjepgnfgalnjhaa.Q Go.Proofs.YtjepgnfgalnjhaaW.PrintWords Go.Proofs.YtjepgnfgalnjhaaW.PrintLast Go.Proofs.YtjepgnfgalnjhaaW.PrintMore Go.Proofs.Ytjepgnfgalnjhaa.Num
open Go.Proofs.Ytjepgnfgalnjhaa.Ex Go.Proofs.Ytjepgnfgalnjhaa.Low Go.Proofs.Ytjepgnfgalnjhaa.Law Go.Proofs.Ytjepgnfgalnjhaa.ExA Go.Proofs.Ytjepgnfgalnjhaa.Bits Go.Proofs.Ytjepgnfgalnjhaa.Draw
theorem normAny_l0 (l : List Int) (hl : l.length < 1000000000) (n : Nat) (hn : n ≤ l.length) : ∃ m, Ev (fun k => spec_l2norm.l0 k l (n : Int)) m ∧ m.length ≤ l.length := by
  induction n with
  | zero =>
    refine ⟨[] ++ l.take ((0 : Nat) : Int).toNat, Ev.step (fun k => by rw [spec_l2norm.l0]) ?_, by simp⟩
    exact Ev.neg (by omega) (Ev.some (Ev.pos (by omega) (Ev.pos (by omega) (Ev.pos (by simp) (Ev.now _)))))
  | succ n ih =>
    obtain ⟨m, hm, hml⟩ := ih (by omega)
    by_cases h0 : rd l (n : Int) = 0
    · refine ⟨m, Ev.step (fun k => by rw [spec_l2norm.l0]) ?_, hml⟩
      simp (disch := omega) only [w64]
      refine Ev.pos (by omega) (Ev.pos (by omega) (Ev.pos (by omega) ?_))
      rw [show ((n + 1 : Nat) : Int) - 1 = (n : Int) by omega]
      exact Ev.pos h0 hm
    · refine ⟨[] ++ l.take ((n + 1 : Nat) : Int).toNat, Ev.step (fun k => by rw [spec_l2norm.l0]) ?_, by simp; omega⟩
      simp (disch := omega) only [w64]
      refine Ev.pos (by omega) (Ev.pos (by omega) (Ev.pos (by omega) ?_))
      rw [show ((n + 1 : Nat) : Int) - 1 = (n : Int) by omega]
      exact Ev.neg h0 (Ev.some (Ev.pos (by omega) (Ev.pos (by omega) (Ev.pos (by simp; omega) (Ev.now _)))))
theorem normAny_ev (l : List Int) (hl : l.length < 1000000000) : ∃ m, Ev (fun k => spec_l2norm.f k l) m ∧ m.length ≤ l.length := normAny_l0 l hl l.length (Nat.le_refl _)
theorem bent_rd {l : List Int} (h : ∀ x ∈ l, -1 ≤ x ∧ x ≤ 65536) (i : Nat) : -1 ≤ rd l (i : Int) ∧ rd l (i : Int) ≤ 65536 := by
  unfold rd
  rw [Int.toNat_natCast, List.getD_eq_getElem?_getD]
  by_cases c : i < l.length
  · rw [List.getElem?_eq_getElem c]; exact h _ (List.getElem_mem c)
  · rw [List.getElem?_eq_none (by omega)]; simp
theorem tdiv_small {s : Int} (h1 : -65536 < s) (h2 : s ≤ 140000) : 0 ≤ Int.tdiv s 65536 ∧ Int.tdiv s 65536 ≤ 2 := by
  by_cases h : 0 ≤ s
  · rw [Int.tdiv_eq_ediv_of_nonneg h]; omega
  · have e : s = -(-s) := by omega
    rw [e, Int.neg_tdiv, Int.tdiv_eq_ediv_of_nonneg (by omega)]
    omega
theorem addAny_l0 (a b : List Int) (ha : ∀ x ∈ a, -1 ≤ x ∧ x ≤ 65536) (hb : ∀ x ∈ b, -1 ≤ x ∧ x ≤ 65536) (hla : a.length ≤ 1000) (hlb : b.length ≤ 1000) (d : Nat) :
    ∀ (i : Nat) (out : List Int) (c : Int), i + d = max a.length b.length + 1 → out.length = i → 0 ≤ c → c ≤ 2 → (d = 0 → c = 0) → ∃ m, Ev (fun k => spec_l2add.l0 k out c (i : Int) a b) m ∧ m.length ≤ max a.length b.length + 1 := by
  induction d with
  | zero =>
    intro i out c hi hl h0 h1 hc
    obtain ⟨m, hm, hml⟩ := normAny_ev out (by omega)
    refine ⟨m, Ev.step (fun k => by rw [spec_l2add.l0]) (Ev.neg (by omega) (Ev.neg (by omega) (Ev.step (fun k => by rw [spec_l2add.j1]) ?_))), by omega⟩
    obtain rfl := hc rfl
    exact Ev.neg (by simp) (Ev.bind hm (Ev.now _))
  | succ d ih =>
    intro i out c hi hl h0 h1 hc
    have ra := bent_rd ha i
    have rb := bent_rd hb i
    have go : ∀ (y c' : Int), 0 ≤ c' → c' ≤ 2 → (d = 0 → c' = 0) → ∃ m, Ev (fun k => spec_l2add.l0 k (out ++ [y]) (wrap64 c') (wrap64 ((i : Int) + 1)) a b) m ∧ m.length ≤ max a.length b.length + 1 := by
      intro y c' h2 h3 h4
      rw [w64 (by omega) (by omega), w64 (by omega) (by omega), cast_succ]
      exact ih (i + 1) _ c' (by omega) (by simp; omega) h2 h3 h4
    have lift : ∀ {m : List Int}, (i : Int) < a.length ∨ (i : Int) < b.length ∨ c > 0 → Ev (fun k => spec_l2add.j1 k out c (i : Int) true a b) m → Ev (fun k => spec_l2add.l0 k out c (i : Int) a b) m := by
      intro m h g
      refine Ev.step (fun k => by rw [spec_l2add.l0]) (Ev.ite (fun _ => g) (fun h1 => Ev.ite (fun _ => g) (fun h2 => ?_)))
      rw [decide_eq_true (by omega)]; exact g
    by_cases hx : (i : Int) < a.length
    · by_cases hy : (i : Int) < b.length
      · have e1 : wrap64 (wrap64 (c + rd a (i : Int)) + rd b (i : Int)) = c + rd a (i : Int) + rd b (i : Int) := by rw [w64 (n := c + rd a (i : Int)) (by omega) (by omega), w64 (by omega) (by omega)]
        have b1 := @tdiv_small (c + rd a (i : Int) + rd b (i : Int)) (by omega) (by omega)
        obtain ⟨m, hm, hml⟩ := go (Int.tmod (c + rd a (i : Int) + rd b (i : Int)) 65536) _ b1.1 b1.2 (by omega)
        refine ⟨m, lift (.inl hx) (Ev.step (fun k => by rw [spec_l2add.j1]) (Ev.pos rfl (Ev.pos hx (Ev.pos (by omega) (Ev.pos hy (Ev.pos (by omega) ?_)))))), hml⟩
        rw [e1]; exact hm
      · have e1 : wrap64 (c + rd a (i : Int)) = c + rd a (i : Int) := w64 (by omega) (by omega)
        have b1 := @tdiv_small (c + rd a (i : Int)) (by omega) (by omega)
        obtain ⟨m, hm, hml⟩ := go (Int.tmod (c + rd a (i : Int)) 65536) _ b1.1 b1.2 (by omega)
        refine ⟨m, lift (.inl hx) (Ev.step (fun k => by rw [spec_l2add.j1]) (Ev.pos rfl (Ev.pos hx (Ev.pos (by omega) (Ev.neg hy (Ev.pos (by omega) ?_)))))), hml⟩
        rw [e1]; exact hm
    · by_cases hy : (i : Int) < b.length
      · have e1 : wrap64 (c + rd b (i : Int)) = c + rd b (i : Int) := w64 (by omega) (by omega)
        have b1 := @tdiv_small (c + rd b (i : Int)) (by omega) (by omega)
        obtain ⟨m, hm, hml⟩ := go (Int.tmod (c + rd b (i : Int)) 65536) _ b1.1 b1.2 (by omega)
        refine ⟨m, lift (.inr (.inl hy)) (Ev.step (fun k => by rw [spec_l2add.j1]) (Ev.pos rfl (Ev.neg hx (Ev.pos hy (Ev.pos (by omega) (Ev.pos (by omega) ?_)))))), hml⟩
        rw [e1]; exact hm
      · by_cases hc0 : c > 0
        · have b1 := @tdiv_small c (by omega) (by omega)
          have b2 : Int.tdiv c 65536 = 0 := by rw [Int.tdiv_eq_ediv_of_nonneg (by omega)]; omega
          obtain ⟨m, hm, hml⟩ := go (Int.tmod c 65536) (Int.tdiv c 65536) b1.1 b1.2 (fun _ => b2)
          exact ⟨m, lift (.inr (.inr hc0)) (Ev.step (fun k => by rw [spec_l2add.j1]) (Ev.pos rfl (Ev.neg hx (Ev.neg hy (Ev.pos (by omega) hm))))), hml⟩
        · obtain ⟨m, hm, hml⟩ := normAny_ev out (by omega)
          refine ⟨m, Ev.step (fun k => by rw [spec_l2add.l0]) (Ev.neg hx (Ev.neg hy (Ev.step (fun k => by rw [spec_l2add.j1]) ?_))), by omega⟩
          exact Ev.neg (by simp; omega) (Ev.bind hm (Ev.now _))
theorem addAny_ev (a b : List Int) (ha : ∀ x ∈ a, -1 ≤ x ∧ x ≤ 65536) (hb : ∀ x ∈ b, -1 ≤ x ∧ x ≤ 65536) (hla : a.length ≤ 1000) (hlb : b.length ≤ 1000) : ∃ m, Ev (fun k => spec_l2add.f k a b) m ∧ m.length ≤ max a.length b.length + 1 :=
  addAny_l0 a b ha hb hla hlb _ 0 [] 0 (Nat.zero_add _) rfl (by omega) (by omega) (fun _ => rfl)
theorem DrawNatCmp_ev (s : List Int) (hs : s.length ≤ 140737488351232) : ∃ a b, Ev (fun k => spec_DrawNatCmp.f k s) (a, b) ∧ a.length ≤ 101 ∧ b.length ≤ 102 := by
  obtain ⟨u0, h0⟩ := l1New_ev s hs
  obtain ⟨a, j1, u1, h1, b1, r1⟩ := l2bent_ev (s := s) (i := 0) ⟨hs, by omega, by omega⟩ u0
  obtain ⟨t, j2, u2, h2, r2⟩ := l1Once_eq r1 u1 3 (by omega) (by omega)
  cases t
  · obtain ⟨b, j3, u3, h3, b3, r3⟩ := l2bent_ev r2 u2
    refine ⟨a, b, Ev.bind h0 (Ev.bind h1 ?_), b1.1, by have := b3.1; omega⟩
    simp only [h2, Option.bind_some]
    exact Ev.neg (by simp) (Ev.bind h3 (Ev.now _))
  · obtain ⟨y, j3, u3, h3, p3, q3, r3⟩ := l1Below_eq r2 u2 2 (by omega) (by omega)
    obtain ⟨n, rfl⟩ : ∃ n : Nat, y = n := ⟨y.toNat, by omega⟩
    have hn : (D n).length ≤ 1 := len_D_le.2 (by omega)
    obtain ⟨m, hm, hml⟩ := addAny_ev a (D n) b1.2 (bent_D (by omega)).2 (by have := b1.1; omega) (by omega)
    refine ⟨a, m, Ev.bind h0 (Ev.bind h1 ?_), b1.1, by have := b1.1; omega⟩
    simp only [h2, Option.bind_some]
    refine Ev.pos (by simp) ?_
    simp only [h3, Option.bind_some]
    exact Ev.bind (l2of_ev n (by omega)) (Ev.bind hm (Ev.now _))
theorem nat_ev (n : Nat) (hn : n < 9223372036854775808) : Ev (fun k => laws_nat.f k (n : Int)) (D n) := by
  refine Ev.bind (a := (D n, true)) (Ev.neg (by omega) (Ev.bind (l2of_ev n hn) (Ev.now _))) (Ev.now _)
theorem implNatOf_ev (n : Nat) (hn : n < 9223372036854775808) : Ev (fun k => impl_NatOf.f k (n : Int)) (D n, true) := by
  have hl : (D n).length ≤ 4 := len_D_le.2 (by omega)
  refine Ev.neg (by omega) (Ev.bind (small_ev n hn) ?_)
  simp only [natOf_eq (D n) (by omega), Option.bind_some]
  refine Ev.eq ?_
  unfold fits; rw [if_pos (by omega)]
theorem NatInt_l0 (x : Nat) (hx : x < 2 ^ 62) (n : Nat) : n ≤ (D x).length → Ev (fun k => impl_NatInt.l0 k ((x / 65536 ^ n : Nat) : Int) ((n : Int) - 1) (D x)) ((x : Int), true) := by
  induction n with
  | zero =>
    intro _
    refine Ev.step (fun k => by rw [impl_NatInt.l0]) ?_
    refine Ev.neg (by omega) (Ev.eq ?_)
    simp
  | succ n ih =>
    intro hn
    have hl : (D x).length ≤ 4 := len_D_le.2 (by omega)
    refine Ev.step (fun k => by rw [impl_NatInt.l0]) (Ev.pos (by omega) (Ev.pos (by omega) (Ev.pos (by omega) ?_)))
    have e : ((n + 1 : Nat) : Int) - 1 = (n : Int) := by omega
    rw [e, rd_D, Int.toNat_natCast]
    have h1 : x / 65536 ^ n / 65536 = x / 65536 ^ (n + 1) := by rw [Nat.div_div_eq_div_mul, Nat.pow_succ]
    have h2 : x / 65536 ^ n ≤ x := Nat.div_le_self _ _
    rw [← h1]
    generalize hq : x / 65536 ^ n = q at *
    have e2 : wrap64 (wrap64 (((q / 65536 : Nat) : Int) * 65536) + ((q % 65536 : Nat) : Int)) = (q : Int) := by
      rw [w64 (n := ((q / 65536 : Nat) : Int) * 65536) (by omega) (by omega), w64 (by omega) (by omega)]; omega
    rw [e2, w64 (by omega) (by omega)]
    exact ih (by omega)
theorem NatInt_ev (x : Nat) (hx : x < 2 ^ 62) : Ev (fun k => impl_NatInt.f k (D x)) ((x : Int), true) := by
  have hl : (D x).length ≤ 4 := len_D_le.2 (by omega)
  have hb := @bl_small x 62 hx
  unfold impl_NatInt.f impl_NatOk.f
  simp only [Option.bind_some]
  refine Ev.pos (natOkB_D (by omega)) (Ev.bind (bitsOf_ev x (by omega)) (Ev.step (fun k => by rw [impl_NatInt.j0]) (Ev.neg (by simp; omega) ?_)))
  have := NatInt_l0 x hx (D x).length (Nat.le_refl _)
  rw [w64 (by omega) (by omega)]
  rwa [Nat.div_eq_of_lt (len_D_le.1 (Nat.le_refl _))] at this
theorem sameNat_l0 (a b : List Int) (ha : a.length < 1000000) (hab : a.length = b.length) (d : Nat) : ∀ (i : Nat), i + d = a.length → (∀ j, j < i → rd a (j : Int) = rd b (j : Int)) → Ev (fun k => laws_sameNat.l0 k (i : Int) a b) (decide (a = b)) := by
  induction d with
  | zero =>
    intro i hi hj
    refine Ev.step (fun k => by rw [laws_sameNat.l0]) ?_
    refine Ev.neg (by omega) (Ev.eq ?_)
    symm
    rw [decide_eq_true_eq]
    refine List.ext_getElem hab fun j h1 h2 => ?_
    have := hj j (by omega)
    unfold rd at this
    simpa [List.getD_eq_getElem?_getD, h1, h2] using this
  | succ d ih =>
    intro i hi hj
    refine Ev.step (fun k => by rw [laws_sameNat.l0]) (Ev.pos (by omega) (Ev.pos (by omega) (Ev.pos (by omega) (Ev.ite (fun c => ?_) (fun c => Ev.eq ?_)))))
    · rw [w64 (by omega) (by omega), cast_succ]
      refine ih (i + 1) (by omega) fun j h => ?_
      by_cases e : j = i
      · subst e; exact c
      · exact hj j (by omega)
    · symm
      rw [decide_eq_false_iff_not]
      intro e; subst e; exact c rfl
theorem sameNat_ev (a b : List Int) (ha : a.length < 1000000) (hb : b.length < 1000000) : Ev (fun k => laws_sameNat.f k a b) (decide (a = b)) := by
  refine Ev.ite (fun h => sameNat_l0 a b ha (by omega) _ 0 (Nat.zero_add _) (fun j hj => absurd hj (by omega))) (fun h => Ev.eq ?_)
  symm
  rw [decide_eq_false_iff_not]
  intro e; subst e; exact h rfl
theorem at_eq (s : List Int) (hs : s.length ≤ 140737488351232) (hb : ∀ x ∈ s, 0 ≤ x ∧ x ≤ 255) (i : Int) (hi : 0 ≤ i) : ∃ n : Nat, laws_at.f s i = some (n : Int) ∧ n ≤ 255 := by
  unfold laws_at.f
  by_cases h : (s.length : Int) = 0
  · rw [if_pos h]; exact ⟨0, rfl, by omega⟩
  · rw [if_neg h]
    have h1 := Int.tmod_nonneg (s.length : Int) hi
    have h2 := Int.tmod_lt_of_pos i (show 0 < (s.length : Int) by omega)
    rw [if_pos h1, if_pos h2]
    have hm : rd s (Int.tmod i s.length) ∈ s := by
      unfold rd
      rw [List.getD_eq_getElem?_getD, List.getElem?_eq_getElem (by omega)]
      exact List.getElem_mem _
    have := hb _ hm
    refine ⟨(rd s (Int.tmod i s.length)).toNat, ?_, by omega⟩
    rw [w64 (by omega) (by omega)]
    congr 1; omega
/-- The comparison, whatever is compared. -/
def natCmp (a b : List Int) : Int := if natOkB a = true ∧ natOkB b = true then cmpI (N a) (N b) else 0
theorem NatCmp_ev (a b : List Int) : Ev (fun k => impl_NatCmp.f k a b) (natCmp a b) := by
  unfold impl_NatCmp.f
  simp only [areNats_eq, Option.bind_some]
  refine Ev.ite (fun h => ?_) (fun h => Ev.eq ?_)
  · rw [Bool.and_eq_true] at h
    obtain ⟨x, rfl, hx⟩ := (natOkB_iff a).1 h.1
    obtain ⟨y, rfl, hy⟩ := (natOkB_iff b).1 h.2
    refine Ev.bind (compare_ev x y (by omega) (by omega)) (Ev.eq ?_)
    unfold natCmp; rw [if_pos h, N_D, N_D]
  · unfold natCmp; rw [if_neg (by simpa using h)]
theorem natCmp_D {x y : Nat} (hx : (D x).length ≤ 100) (hy : (D y).length ≤ 100) : natCmp (D x) (D y) = cmpI x y := by
  unfold natCmp; rw [if_pos ⟨natOkB_D hx, natOkB_D hy⟩, N_D, N_D]
theorem D_inj {x y : Nat} : D x = D y ↔ x = y := by
  constructor
  · intro h; have := congrArg N h; rwa [N_D, N_D] at this
  · rintro rfl; rfl
theorem cmp_swap (x y : Nat) : cmpI x y = - cmpI y x := by
  unfold cmpI; repeat (first | split | omega)
theorem cmp_zero {x y : Nat} : cmpI x y = 0 ↔ x = y := by
  unfold cmpI; repeat (first | split | omega)
theorem cmp_bd (x y : Nat) : -1 ≤ cmpI x y ∧ cmpI x y ≤ 1 := by
  unfold cmpI; repeat (first | split | omega)
theorem len_u8 {n : Nat} (h : n ≤ 255) : (D n).length ≤ 100 := Nat.le_trans (len_D_le.2 (by omega : n < 65536 ^ 1)) (by omega)
theorem FnNatOrder_ev (l0 : List Int) (h0 : l0.length ≤ 140737488351232) (hb : ∀ x ∈ l0, 0 ≤ x ∧ x ≤ 255) : Ev (fun k => laws_FnNatOrder.f k l0) true := by
  obtain ⟨a, b, hd, ha, hbl⟩ := DrawNatCmp_ev l0 h0
  have bad : natCmp a b = 0 → Ev (fun k => laws_FnNatOrder.j0 k l0 (natCmp a b) true a b) true := by
    intro h
    refine Ev.step (fun k => by rw [laws_FnNatOrder.j0]) ?_
    refine Ev.pos rfl (Ev.pos h ?_)
    refine Ev.bind (nat_ev 2 (by omega)) ?_
    refine Ev.bind (nat_ev 1 (by omega)) ?_
    refine Ev.bind (NatCmp_ev _ _) (Ev.eq ?_)
    rw [natCmp_D (len_u8 (by omega)) (len_u8 (by omega))]; rfl
  refine Ev.bind hd (Ev.bind (NatCmp_ev a b) (Ev.bind (specNatOk_ev a) (Ev.ite (fun ka => Ev.bind (specNatOk_ev b) ?_) (fun ka => bad ?_))))
  · by_cases kb : natOkB b = true
    · rw [kb]
      obtain ⟨x, rfl, hx⟩ := (natOkB_iff a).1 ka
      obtain ⟨y, rfl, hy⟩ := (natOkB_iff b).1 kb
      obtain ⟨p, ep, bp⟩ := at_eq l0 h0 hb 1 (by omega)
      obtain ⟨q, eq, bq⟩ := at_eq l0 h0 hb 2 (by omega)
      refine Ev.step (fun k => by rw [laws_FnNatOrder.j0]) (Ev.neg (by simp) (Ev.bind (implNatSub_ev _ _) ?_))
      simp only [ep, eq, Option.bind_some]
      have c1 := cmp_bd y x
      refine Ev.bind (implNatOf_ev p (by omega)) (Ev.bind (NatInt_ev p (by omega)) (Ev.bind (NatCmp_ev _ _) (Ev.pos ?_ (Ev.bind (sameNat_ev _ _ (by omega) (by omega)) (Ev.pos ?_ (Ev.pos ?_ (Ev.pos rfl (Ev.pos rfl (Ev.pos rfl (Ev.bind (nat_ev p (by omega)) (Ev.bind (nat_ev q (by omega)) (Ev.bind (NatCmp_ev _ _) (Ev.eq ?_)))))))))))))
      · rw [natCmp_D hx hy, natCmp_D hy hx, w64 (by omega) (by omega)]; exact cmp_swap x y
      · rw [natCmp_D hx hy]
        have := @cmp_zero x y
        have := @D_inj x y
        by_cases e : x = y <;> simp_all
      · unfold natSub
        rw [natCmp_D hx hy, N_D, N_D]
        have := @cmp_neg x y
        by_cases e : y ≤ x
        · rw [if_pos ⟨ka, kb, e⟩]; simp; omega
        · rw [if_neg (by omega)]; simp; omega
      · rw [natCmp_D (len_u8 bp) (len_u8 bq)]
        have := @cmp_neg p q
        by_cases e : p < q
        · simp [this.2 e]; omega
        · have e' : ¬ cmpI p q < 0 := fun z => e (this.1 z)
          simp only [decide_eq_false e', decide_eq_false (show ¬ (p : Int) < q by omega)]; rfl
    · have kb : natOkB b = false := by simpa using kb
      rw [kb]
      refine bad ?_
      unfold natCmp; rw [if_neg (by simp [kb])]
  · unfold natCmp; rw [if_neg (by simp_all)]
end Go.Proofs.Ytjepgnfgalnjhaa.ExO
namespace Go.Proofs.Ytjepgnfgalnjhaa.Pure
open Go.RowKit (wrap64)
open Go.Proofs.Ytjepgnfgalnjhaa.Q Go.Proofs.YtjepgnfgalnjhaaW.PrintWords Go.Proofs.YtjepgnfgalnjhaaW.PrintLast Go.Proofs.YtjepgnfgalnjhaaW.PrintMore Go.Proofs.Ytjepgnfgalnjhaa.Num
theorem u8_bd {x : Int} (h : (Go.Lit.int .u8 x).wf = true) : 0 ≤ x ∧ x ≤ 255 := by
  simp only [Go.Lit.wf, Go.IntKind.min, Go.IntKind.max, Go.IntKind.signed, Go.IntKind.bits, Bool.and_eq_true, decide_eq_true_eq, Bool.false_eq_true, if_false] at h
  omega
theorem FnNatOrder : Q.laws_FnNatOrder.Pure := by
  intro l0 h1 h2 h3
  obtain ⟨K, h⟩ := ExO.FnNatOrder_ev l0 (by omega) (fun x hx => u8_bd (h3 x hx))
  exact ⟨K, h K (Nat.le_refl _)⟩
end Go.Proofs.Ytjepgnfgalnjhaa.Pure
