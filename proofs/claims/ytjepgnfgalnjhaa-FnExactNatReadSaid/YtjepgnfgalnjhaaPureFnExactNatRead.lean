/- The plain side of the statements: what the printed functions come to, in plain numbers. No conditions. -/
import Derived.Test.YtjepgnfgalnjhaaQ4
import Derived.Test.YtjepgnfgalnjhaaQ5
import Derived.Test.YtjepgnfgalnjhaaQ6
import Derived.Test.YtjepgnfgalnjhaaQ15
import Derived.Test.YtjepgnfgalnjhaaQ16
import Derived.Test.YtjepgnfgalnjhaaQ17
import Derived.Test.YtjepgnfgalnjhaaQ18
import Derived.Test.YtjepgnfgalnjhaaQ20
import Derived.Test.YtjepgnfgalnjhaaQ21
import Derived.Test.YtjepgnfgalnjhaaQ22
import Derived.Test.YtjepgnfgalnjhaaQ23
import Derived.Test.YtjepgnfgalnjhaaQ24
import Derived.Test.YtjepgnfgalnjhaaQ25
import Derived.Test.YtjepgnfgalnjhaaQ27
import Derived.Test.YtjepgnfgalnjhaaQ29
import Derived.Test.YtjepgnfgalnjhaaQ41
import Derived.Test.YtjepgnfgalnjhaaQ42
import Derived.Test.YtjepgnfgalnjhaaQ43
import Derived.Test.YtjepgnfgalnjhaaQ44
import Derived.Test.YtjepgnfgalnjhaaQ45
import Derived.Test.YtjepgnfgalnjhaaQ49
import Derived.Test.YtjepgnfgalnjhaaQ50
import Derived.Test.YtjepgnfgalnjhaaQ51
import Derived.Test.YtjepgnfgalnjhaaQ52
import Derived.Test.YtjepgnfgalnjhaaQ53
import Derived.Test.YtjepgnfgalnjhaaQ54
import Derived.Test.YtjepgnfgalnjhaaQ55
set_option linter.unusedVariables false
set_option linter.unusedSimpArgs false
namespace Go.Proofs.Ytjepgnfgalnjhaa.Num
end Go.Proofs.Ytjepgnfgalnjhaa.Num
namespace Go.Proofs.Ytjepgnfgalnjhaa.Num
/-- The digits of a number, none for 0. -/
def D (n : Nat) : List Int := if h : n = 0 then [] else ((n % 65536 : Nat) : Int) :: D (n / 65536)
termination_by n
decreasing_by omega
theorem D_zero : D 0 = [] := by rw [D]; simp
theorem D_pos {n : Nat} (h : n ≠ 0) : D n = ((n % 65536 : Nat) : Int) :: D (n / 65536) := by rw [D]; simp [h]
def val : List Int → Int
  | [] => 0
  | x :: xs => x + 65536 * val xs
def GoodL (l : List Int) : Prop := ∀ x ∈ l, 0 ≤ x ∧ x < 65536
theorem GoodL.nil : GoodL [] := fun _ h => by simp at h
theorem GoodL.cons {x : Int} {l : List Int} (h0 : 0 ≤ x) (h1 : x < 65536) (h : GoodL l) : GoodL (x :: l) := by
  intro y hy
  rcases List.mem_cons.1 hy with rfl | hy
  · exact ⟨h0, h1⟩
  · exact h y hy
theorem GoodL.tail {x : Int} {l : List Int} (h : GoodL (x :: l)) : GoodL l := fun y hy => h y (List.mem_cons_of_mem _ hy)
theorem GoodL.head {x : Int} {l : List Int} (h : GoodL (x :: l)) : 0 ≤ x ∧ x < 65536 := h x List.mem_cons_self
theorem GoodL.append {a b : List Int} (ha : GoodL a) (hb : GoodL b) : GoodL (a ++ b) := by
  intro x hx
  rcases List.mem_append.1 hx with hx | hx
  · exact ha x hx
  · exact hb x hx
theorem GoodL.snoc {l : List Int} {x : Int} (h : GoodL l) (h0 : 0 ≤ x) (h1 : x < 65536) : GoodL (l ++ [x]) := h.append (GoodL.nil.cons h0 h1)
theorem GoodL.set {l : List Int} (h : GoodL l) (i : Nat) {x : Int} (h0 : 0 ≤ x) (h1 : x < 65536) : GoodL (l.set i x) := by
  intro y hy
  rcases List.mem_or_eq_of_mem_set hy with hy | rfl
  · exact h y hy
  · exact ⟨h0, h1⟩
theorem GoodL.take {l : List Int} (h : GoodL l) (i : Nat) : GoodL (l.take i) := fun x hx => h x (List.mem_of_mem_take hx)
theorem GoodL.drop {l : List Int} (h : GoodL l) (i : Nat) : GoodL (l.drop i) := fun x hx => h x (List.mem_of_mem_drop hx)
theorem GoodL.zeros (n : Nat) : GoodL (List.replicate n 0) := by
  intro x hx
  have := (List.mem_replicate.1 hx).2
  omega
theorem GoodL.getD {l : List Int} (h : GoodL l) (i : Nat) : 0 ≤ l.getD i 0 ∧ l.getD i 0 < 65536 := by
  rw [List.getD_eq_getElem?_getD]
  cases e : l[i]? with
  | none => simp
  | some x => simpa using h x (List.mem_of_getElem? e)
theorem val_nil : val [] = 0 := rfl
theorem val_cons (x : Int) (l : List Int) : val (x :: l) = x + 65536 * val l := rfl
theorem val_append (a b : List Int) : val (a ++ b) = val a + 65536 ^ a.length * val b := by
  induction a with
  | nil => simp [val]
  | cons x a ih => rw [List.cons_append, val_cons, val_cons, ih, List.length_cons, Int.pow_succ]; grind
theorem val_snoc (a : List Int) (x : Int) : val (a ++ [x]) = val a + 65536 ^ a.length * x := by
  rw [val_append]; simp [val]
theorem val_zeros (n : Nat) : val (List.replicate n 0) = 0 := by
  induction n with
  | zero => rfl
  | succ n ih => rw [List.replicate_succ, val_cons, ih]; rfl
theorem pow_pos' (n : Nat) : (0 : Int) < 65536 ^ n := Int.pow_pos (by decide)
theorem powN_pos (n : Nat) : 0 < 65536 ^ n := Nat.pow_pos (by decide)
theorem pow_cast (n : Nat) : ((65536 ^ n : Nat) : Int) = (65536 : Int) ^ n := by rw [Int.natCast_pow]; rfl
theorem val_nonneg {l : List Int} (h : GoodL l) : 0 ≤ val l := by
  induction l with
  | nil => simp [val]
  | cons x l ih => have := ih h.tail; have := h.head; rw [val_cons]; omega
theorem good_D (n : Nat) : GoodL (D n) := by
  induction n using Nat.strongRecOn with
  | _ n ih =>
    by_cases h : n = 0
    · subst h; rw [D_zero]; exact GoodL.nil
    · rw [D_pos h]; exact GoodL.cons (by omega) (by omega) (ih _ (by omega))
theorem val_D (n : Nat) : val (D n) = n := by
  induction n using Nat.strongRecOn with
  | _ n ih =>
    by_cases h : n = 0
    · subst h; rw [D_zero]; rfl
    · rw [D_pos h, val_cons, ih _ (by omega)]; omega
theorem D_inj {a b : Nat} (h : D a = D b) : a = b := by
  have := val_D a
  rw [h, val_D] at this
  omega
theorem D_nil_iff {n : Nat} : D n = [] ↔ n = 0 := by
  constructor
  · intro h
    exact D_inj (h.trans D_zero.symm)
  · rintro rfl; exact D_zero
theorem len_D_le {n k : Nat} : (D n).length ≤ k ↔ n < 65536 ^ k := by
  induction k generalizing n with
  | zero =>
    rw [Nat.pow_zero]
    constructor
    · intro h
      have := D_nil_iff.1 (List.eq_nil_of_length_eq_zero (by omega : (D n).length = 0))
      omega
    · intro h
      obtain rfl : n = 0 := by omega
      simp [D_zero]
  | succ k ih =>
    by_cases h : n = 0
    · subst h; simp [D_zero, powN_pos]
    · rw [D_pos h, List.length_cons, Nat.pow_succ]
      have := @ih (n / 65536)
      omega
theorem lt_len_D (n : Nat) : n < 65536 ^ (D n).length := len_D_le.1 (Nat.le_refl _)
/-- A digit of a good list, by its value. -/
theorem getD_val {l : List Int} (h : GoodL l) (i : Nat) : l.getD i 0 = val l / 65536 ^ i % 65536 := by
  induction l generalizing i with
  | nil => simp [val]
  | cons x l ih =>
    have hx := h.head
    rw [val_cons]
    cases i with
    | zero => simp; omega
    | succ i =>
      rw [List.getD_cons_succ, ih h.tail, Int.pow_succ, Int.mul_comm (65536 ^ i), ← Int.ediv_ediv_of_nonneg (by omega)]
      congr 2
      omega
theorem getD_D (n i : Nat) : (D n).getD i 0 = ((n / 65536 ^ i % 65536 : Nat) : Int) := by
  rw [getD_val (good_D n), val_D, ← pow_cast]
  omega
def Norm (l : List Int) : Prop := ∀ h : l ≠ [], l.getLast h ≠ 0
theorem D_val {l : List Int} (h : GoodL l) (hn : Norm l) : D (val l).toNat = l := by
  induction l with
  | nil => simp [val, D_zero]
  | cons x l ih =>
    have hx := h.head
    have hv := val_nonneg h.tail
    have hn' : Norm l := by
      intro hl
      have := hn (by simp)
      rwa [List.getLast_cons hl] at this
    have hp : (val (x :: l)).toNat ≠ 0 := by
      by_cases hl : l = []
      · subst hl
        have := hn (by simp)
        simp at this
        rw [val_cons, val_nil]
        omega
      · have h1 : val l ≠ 0 := by
          intro h0
          have := ih h.tail hn'
          rw [h0] at this
          exact hl (by rw [← this]; exact D_zero)
        rw [val_cons]
        omega
    rw [D_pos hp]
    have e1 : ((val (x :: l)).toNat % 65536 : Nat) = x := by rw [val_cons]; omega
    have e2 : (val (x :: l)).toNat / 65536 = (val l).toNat := by rw [val_cons]; omega
    rw [e1, e2, ih h.tail hn']
theorem val_set {l : List Int} {i : Nat} (h : i < l.length) (v : Int) : val (l.set i v) = val l + (v - l.getD i 0) * 65536 ^ i := by
  induction l generalizing i with
  | nil => simp at h
  | cons x l ih =>
    cases i with
    | zero => simp [val]; omega
    | succ i =>
      rw [List.set_cons_succ, val_cons, val_cons, ih (by simpa using h), List.getD_cons_succ, Int.pow_succ]
      grind
/-- A good list that is known by its value: nought at its end falls away. -/
theorem val_dropLast {l : List Int} (h : l ≠ []) (h0 : l.getLast h = 0) : val l.dropLast = val l := by
  have e := List.dropLast_concat_getLast h
  have h2 := val_snoc l.dropLast (l.getLast h)
  rw [e, h0] at h2
  omega
theorem mod_pow_succ (x i : Nat) : x % 65536 ^ (i + 1) = x % 65536 ^ i + 65536 ^ i * (x / 65536 ^ i % 65536) := Nat.mod_pow_succ
theorem mod_len (x i : Nat) (h : (D x).length ≤ i) : x % 65536 ^ i = x := Nat.mod_eq_of_lt (len_D_le.1 h)
/-- The lowest i digits of a number, as an integer. -/
def lo (x i : Nat) : Int := ((x % 65536 ^ i : Nat) : Int)
/-- A digit of a number, as an integer. -/
def dg (x i : Nat) : Int := ((x / 65536 ^ i % 65536 : Nat) : Int)
theorem lo_zero (x : Nat) : lo x 0 = 0 := by unfold lo; rw [Nat.pow_zero, Nat.mod_one]; rfl
theorem lo_succ (x i : Nat) : lo x (i + 1) = lo x i + 65536 ^ i * dg x i := by
  unfold lo dg
  rw [mod_pow_succ, Int.natCast_add, Int.natCast_mul, pow_cast]
theorem lo_len {x i : Nat} (h : (D x).length ≤ i) : lo x i = x := by unfold lo; rw [mod_len x i h]
theorem dg_bd (x i : Nat) : 0 ≤ dg x i ∧ dg x i < 65536 := by unfold dg; omega
theorem dg_len {x i : Nat} (h : (D x).length ≤ i) : dg x i = 0 := by
  unfold dg
  rw [Nat.div_eq_of_lt (len_D_le.1 h)]
  rfl
theorem lo_nonneg (x i : Nat) : 0 ≤ lo x i := by unfold lo; omega
theorem lo_lt (x i : Nat) : lo x i < 65536 ^ i := by
  unfold lo
  rw [← pow_cast]
  have := Nat.mod_lt x (powN_pos i)
  omega
/-- One digit of a sum. -/
theorem step_add {v p c a b da db s : Int} (h : v + p * c = a + b) (hs : s = c + da + db) : (v + p * (s % 65536)) + (p * 65536) * (s / 65536) = (a + p * da) + (b + p * db) := by
  have := Int.mul_ediv_add_emod s 65536
  grind
/-- One step of a row of a product. -/
theorem step_mul {v p q c V dx l dy o s v' : Int} (h : v + (p * q) * c = V + p * dx * l) (hs : s = c + (o + dx * dy)) (hv : v' = v + (s % 65536 - o) * (p * q)) : v' + (p * (q * 65536)) * (s / 65536) = V + p * dx * (l + q * dy) := by
  have := Int.mul_ediv_add_emod s 65536
  grind
theorem mul_bd {a b : Int} (ha : 0 ≤ a ∧ a < 65536) (hb : 0 ≤ b ∧ b < 65536) : 0 ≤ a * b ∧ a * b ≤ 4294836225 := by
  constructor
  · exact Int.mul_nonneg ha.1 hb.1
  · have h1 : a * b ≤ 65535 * b := Int.mul_le_mul_of_nonneg_right (by omega) hb.1
    omega
theorem getD_zero_of_lt {l : List Int} (h : GoodL l) {n : Nat} (hv : val l < 65536 ^ n) : l.getD n 0 = 0 := by
  rw [getD_val h, Int.ediv_eq_zero_of_lt (val_nonneg h) hv]
  rfl
theorem getD_set_ne_ {l : List Int} {i j : Nat} (h : i ≠ j) (x : Int) : (l.set i x).getD j 0 = l.getD j 0 := by
  rw [List.getD_eq_getElem?_getD, List.getD_eq_getElem?_getD, List.getElem?_set_ne h]
end Go.Proofs.Ytjepgnfgalnjhaa.Num
namespace Go.Proofs.Ytjepgnfgalnjhaa.Ex
open Go.RowKit (wrap64)
open Go.Proofs.Ytjepgnfgalnjhaa.Q Go.Proofs.YtjepgnfgalnjhaaW.PrintWords Go.Proofs.YtjepgnfgalnjhaaW.PrintLast Go.Proofs.YtjepgnfgalnjhaaW.PrintMore Go.Proofs.Ytjepgnfgalnjhaa.Num
theorem Ev.pos {α : Type} {c : Prop} [Decidable c] {a b : Nat → Option α} {r : α} (hc : c) (h : Ev a r) : Ev (fun k => if c then a k else b k) r := by
  simp only [if_pos hc]; exact h
theorem Ev.neg {α : Type} {c : Prop} [Decidable c] {a b : Nat → Option α} {r : α} (hc : ¬ c) (h : Ev b r) : Ev (fun k => if c then a k else b k) r := by
  simp only [if_neg hc]; exact h
theorem Ev.ite {α : Type} {c : Prop} [Decidable c] {a b : Nat → Option α} {r : α} (ha : c → Ev a r) (hb : ¬ c → Ev b r) : Ev (fun k => if c then a k else b k) r := by
  by_cases h : c
  · exact Ev.pos h (ha h)
  · exact Ev.neg h (hb h)
theorem Ev.some {α β : Type} {a : α} {f : Nat → α → Option β} {r : β} (h : Ev (fun k => f k a) r) : Ev (fun k => (Option.some a).bind (f k)) r := h
theorem Ev.eq {α : Type} {a r : α} (h : a = r) : Ev (fun _ => Option.some a) r := h ▸ Ev.now a
theorem Ev.to {α : Type} {g : Nat → Option α} {r r' : α} (h : Ev g r) (e : r = r') : Ev g r' := e ▸ h
theorem w64 {n : Int} (h0 : -9223372036854775808 ≤ n) (h1 : n < 9223372036854775808) : wrap64 n = n := by unfold wrap64; omega
theorem tmod_nn {a : Int} (b : Int) (h : 0 ≤ a) : Int.tmod a b = a % b := Int.tmod_eq_emod_of_nonneg h
theorem tdiv_nn {a : Int} (b : Int) (h : 0 ≤ a) : Int.tdiv a b = a / b := Int.tdiv_eq_ediv_of_nonneg h
theorem rd_D (n : Nat) (i : Int) : rd (D n) i = ((n / 65536 ^ i.toNat % 65536 : Nat) : Int) := getD_D n i.toNat
theorem rd_dg (n i : Nat) : rd (D n) (i : Int) = dg n i := by rw [rd_D, Int.toNat_natCast]; rfl
theorem cast_succ (i : Nat) : (i : Int) + 1 = ((i + 1 : Nat) : Int) := by omega
theorem rd_nat (l : List Int) (i : Nat) : rd l (i : Int) = l.getD i 0 := by unfold rd; rw [Int.toNat_natCast]
end Go.Proofs.Ytjepgnfgalnjhaa.Ex
namespace Go.Proofs.Ytjepgnfgalnjhaa.Low
open Go.RowKit (wrap64)
open Go.Proofs.Ytjepgnfgalnjhaa.Q Go.Proofs.YtjepgnfgalnjhaaW.PrintWords Go.Proofs.YtjepgnfgalnjhaaW.PrintLast Go.Proofs.YtjepgnfgalnjhaaW.PrintMore Go.Proofs.Ytjepgnfgalnjhaa.Num
open Go.Proofs.Ytjepgnfgalnjhaa.Ex
theorem trim_ev (l : List Int) (h : GoodL l) (hl : l.length < 1000000000) : Ev (fun k => impl_trim.f k l) (D (val l).toNat) := by
  show Ev (fun k => impl_trim.l0 k l) _
  obtain ⟨n, hn⟩ : ∃ n, l.length = n := ⟨_, rfl⟩
  induction n generalizing l with
  | zero =>
    obtain rfl := List.eq_nil_of_length_eq_zero hn
    refine Ev.step (fun _ => rfl) (Ev.neg (by simp) (Ev.eq ?_))
    simp [val, D_zero]
  | succ n ih =>
    have hl0 : l ≠ [] := by intro e; simp [e] at hn
    refine Ev.step (fun k => by rw [impl_trim.l0]) ?_
    simp (disch := omega) only [w64]
    refine Ev.pos (by omega) (Ev.pos (by omega) (Ev.pos (by omega) ?_))
    have e1 : rd l ((l.length : Int) - 1) = l.getLast hl0 := by
      rw [show (l.length : Int) - 1 = ((l.length - 1 : Nat) : Int) by omega, rd_nat, List.getLast_eq_getElem, List.getD_eq_getElem?_getD, List.getElem?_eq_getElem (by omega)]
      rfl
    have e2 : l.take ((l.length : Int) - 1).toNat = l.dropLast := by
      rw [List.dropLast_eq_take]; congr 1; omega
    rw [e1, e2]
    refine Ev.ite (fun h0 => Ev.pos (by omega) ?_) (fun h0 => Ev.eq ?_)
    · have hd : GoodL l.dropLast := by rw [List.dropLast_eq_take]; exact h.take _
      have := ih l.dropLast hd (by rw [List.length_dropLast]; omega) (by rw [List.length_dropLast]; omega)
      rwa [val_dropLast hl0 h0] at this
    · exact (D_val h (fun _ => h0)).symm
theorem plus_l0 (x y : Nat) (hx : (D x).length < 1000000) (hy : (D y).length ≤ (D x).length) (d : Nat) : ∀ (i : Nat) (out : List Int) (c : Int), i + d = (D x).length → GoodL out → out.length = i → 0 ≤ c → c ≤ 1 →
    val out + 65536 ^ i * c = lo x i + lo y i → Ev (fun k => impl_plus.l0 k (D y) out c (D x) ((D x).length : Int) (i : Int)) (D (x + y)) := by
  induction d with
  | zero =>
    intro i out c hi hg hl h0 h1 hv
    refine Ev.step (fun k => by rw [impl_plus.l0]) ?_
    refine Ev.neg (by omega) (Ev.pos (by omega) ?_)
    refine Ev.bind (trim_ev _ (hg.snoc h0 (by omega)) (by rw [List.length_append]; simp; omega)) (Ev.eq ?_)
    rw [val_snoc, hl, hv, lo_len (by omega), lo_len (by omega)]
    congr 1
  | succ d ih =>
    intro i out c hi hg hl h0 h1 hv
    refine Ev.step (fun k => by rw [impl_plus.l0]) ?_
    simp only [rd_dg]
    have b1 := dg_bd x i
    have b2 := dg_bd y i
    have e1 := lo_succ x i
    have e2 := lo_succ y i
    generalize dg x i = dx at *
    refine Ev.pos (by omega) (Ev.pos (by omega) (Ev.pos (by omega) ?_))
    refine Ev.ite (fun hlt => ?_) (fun hlt => ?_)
    · generalize dg y i = dy at *
      simp (disch := omega) only [w64, tmod_nn, tdiv_nn]
      refine Ev.pos (by omega) ?_
      rw [cast_succ]
      refine ih (i + 1) _ _ (by omega) (hg.snoc (by omega) (by omega)) (by simp; omega) (by omega) (by omega) ?_
      rw [val_snoc, hl, e1, e2, Int.pow_succ]
      exact step_add hv rfl
    · have e3 : dg y i = 0 := dg_len (by omega)
      rw [e3] at e2
      simp (disch := omega) only [w64, tmod_nn, tdiv_nn]
      refine Ev.pos (by omega) ?_
      rw [cast_succ]
      refine ih (i + 1) _ _ (by omega) (hg.snoc (by omega) (by omega)) (by simp; omega) (by omega) (by omega) ?_
      rw [val_snoc, hl, e1, e2, Int.pow_succ]
      exact step_add hv (by omega)
theorem plus_l1 (x y : Nat) (hx : (D x).length < 1000000) (hy : (D y).length ≤ (D x).length) (d : Nat) : ∀ (i : Nat) (out : List Int) (c : Int), i + d = (D x).length → GoodL out → out.length = i → 0 ≤ c → c ≤ 1 →
    val out + 65536 ^ i * c = lo x i + lo y i → Ev (fun k => impl_plus.l1 k (D y) out c (D x) ((D x).length : Int) (i : Int)) (D (x + y)) := by
  induction d with
  | zero =>
    intro i out c hi hg hl h0 h1 hv
    refine Ev.step (fun k => by rw [impl_plus.l1]) ?_
    refine Ev.neg (by omega) (Ev.pos (by omega) ?_)
    refine Ev.bind (trim_ev _ (hg.snoc h0 (by omega)) (by rw [List.length_append]; simp; omega)) (Ev.eq ?_)
    rw [val_snoc, hl, hv, lo_len (by omega), lo_len (by omega)]
    congr 1
  | succ d ih =>
    intro i out c hi hg hl h0 h1 hv
    refine Ev.step (fun k => by rw [impl_plus.l1]) ?_
    simp only [rd_dg]
    have b1 := dg_bd x i
    have b2 := dg_bd y i
    have e1 := lo_succ x i
    have e2 := lo_succ y i
    generalize dg x i = dx at *
    refine Ev.pos (by omega) (Ev.pos (by omega) (Ev.pos (by omega) ?_))
    refine Ev.ite (fun hlt => ?_) (fun hlt => ?_)
    · generalize dg y i = dy at *
      simp (disch := omega) only [w64, tmod_nn, tdiv_nn]
      refine Ev.pos (by omega) ?_
      rw [cast_succ]
      refine ih (i + 1) _ _ (by omega) (hg.snoc (by omega) (by omega)) (by simp; omega) (by omega) (by omega) ?_
      rw [val_snoc, hl, e1, e2, Int.pow_succ]
      exact step_add hv rfl
    · have e3 : dg y i = 0 := dg_len (by omega)
      rw [e3] at e2
      simp (disch := omega) only [w64, tmod_nn, tdiv_nn]
      refine Ev.pos (by omega) ?_
      rw [cast_succ]
      refine ih (i + 1) _ _ (by omega) (hg.snoc (by omega) (by omega)) (by simp; omega) (by omega) (by omega) ?_
      rw [val_snoc, hl, e1, e2, Int.pow_succ]
      exact step_add hv (by omega)
theorem plus_ev (x y : Nat) (hx : (D x).length < 1000000) (hy : (D y).length < 1000000) : Ev (fun k => impl_plus.f k (D x) (D y)) (D (x + y)) := by
  refine Ev.ite (fun h => ?_) (fun h => ?_)
  · simp (disch := omega) only [w64]
    refine Ev.pos (by omega) (Ev.pos (by omega) ?_)
    rw [Nat.add_comm]
    exact plus_l0 y x hy (by omega) _ 0 [] 0 (Nat.zero_add _) GoodL.nil rfl (by omega) (by omega) (by simp [val, lo_zero])
  · simp (disch := omega) only [w64]
    refine Ev.pos (by omega) (Ev.pos (by omega) ?_)
    exact plus_l1 x y hx (by omega) _ 0 [] 0 (Nat.zero_add _) GoodL.nil rfl (by omega) (by omega) (by simp [val, lo_zero])
/-- The program's product. -/
theorem times_l1 (x y i : Nat) (v0 : Int) (R : List Int) (hx : (D x).length < 1000000) (hy : (D y).length < 1000000) (hi : i < (D x).length)
    (H : ∀ out, GoodL out → out.length = (D x).length + (D y).length → val out = v0 + 65536 ^ i * dg x i * y → Ev (fun k => impl_times.l0 k (D y) out (D x) ((D x).length : Int) ((i + 1 : Nat) : Int)) R) (d : Nat) :
    ∀ (j : Nat) (out : List Int) (c : Int), j + d = (D y).length → GoodL out → out.length = (D x).length + (D y).length → 0 ≤ c → c < 65536 → out.getD (i + (D y).length) 0 = 0 →
      val out + 65536 ^ i * 65536 ^ j * c = v0 + 65536 ^ i * dg x i * lo y j → Ev (fun k => impl_times.l1 k (D y) out (i : Int) (dg x i) c (D x) ((D x).length : Int) (i : Int) (D y) ((D y).length : Int) (j : Int)) R := by
  induction d with
  | zero =>
    intro j out c hj hg hl h0 h1 hz hv
    refine Ev.step (fun k => by rw [impl_times.l1]) ?_
    simp (disch := omega) only [w64]
    refine Ev.neg (by omega) (Ev.pos (by omega) (Ev.pos (by omega) ?_))
    rw [cast_succ, show ((i : Int) + ((D y).length : Int)).toNat = i + (D y).length by omega]
    refine H _ (hg.set _ h0 h1) (by rw [List.length_set]; exact hl) ?_
    rw [val_set (by omega), hz, Int.pow_add]
    rw [lo_len (by omega), show j = (D y).length by omega] at hv
    grind
  | succ d ih =>
    intro j out c hj hg hl h0 h1 hz hv
    refine Ev.step (fun k => by rw [impl_times.l1]) ?_
    have b1 := dg_bd x i
    have b2 := dg_bd y j
    have e2 := lo_succ y j
    have bm := mul_bd b1 b2
    have bo := hg.getD (i + j)
    simp only [rd_dg]
    refine Ev.pos (by omega) (Ev.pos (by omega) (Ev.pos (by omega) ?_))
    rw [show wrap64 ((i : Int) + (j : Int)) = ((i + j : Nat) : Int) by rw [w64 (by omega) (by omega)]; omega]
    simp only [rd_nat, Int.toNat_natCast]
    generalize hdx : dg x i = dx at *
    generalize hdy : dg y j = dy at *
    generalize ho : out.getD (i + j) 0 = o at *
    simp (disch := omega) only [w64, tmod_nn, tdiv_nn]
    refine Ev.pos (by omega) (Ev.pos (by omega) ?_)
    rw [cast_succ]
    refine ih (j + 1) _ _ (by omega) (hg.set _ (by omega) (by omega)) (by rw [List.length_set]; exact hl) (by omega) (by omega) (by rw [getD_set_ne_ (by omega)]; exact hz) ?_
    rw [e2, Int.pow_succ]
    refine step_mul hv rfl ?_
    rw [val_set (by omega), ho, Int.pow_add]
theorem row_zero {x y i : Nat} {out : List Int} (hg : GoodL out) (hv : val out = lo x i * y) : out.getD (i + (D y).length) 0 = 0 := by
  refine getD_zero_of_lt hg ?_
  rw [hv, Int.pow_add]
  have h1 := lo_lt x i
  have h2 : (y : Int) < 65536 ^ (D y).length := by rw [← pow_cast]; exact Int.ofNat_lt.2 (lt_len_D y)
  have h3 := lo_nonneg x i
  have h4 := pow_pos' i
  exact Int.lt_of_le_of_lt (Int.mul_le_mul_of_nonneg_right (Int.le_of_lt h1) (by omega)) (Int.mul_lt_mul_of_pos_left h2 h4)
theorem times_l0 (x y : Nat) (hx : (D x).length < 1000000) (hy : (D y).length < 1000000) (d : Nat) : ∀ (i : Nat) (out : List Int), i + d = (D x).length → GoodL out → out.length = (D x).length + (D y).length →
    val out = lo x i * y → Ev (fun k => impl_times.l0 k (D y) out (D x) ((D x).length : Int) (i : Int)) (D (x * y)) := by
  induction d with
  | zero =>
    intro i out hi hg hl hv
    refine Ev.step (fun k => by rw [impl_times.l0]) ?_
    refine Ev.neg (by omega) (Ev.bind (trim_ev _ hg (by omega)) (Ev.eq ?_))
    rw [hv, lo_len (by omega), ← Int.natCast_mul, Int.toNat_natCast]
  | succ d ih =>
    intro i out hi hg hl hv
    refine Ev.step (fun k => by rw [impl_times.l0]) ?_
    simp only [rd_dg]
    refine Ev.pos (by omega) (Ev.pos (by omega) (Ev.pos (by omega) ?_))
    refine times_l1 x y i (lo x i * y) _ hx hy (by omega) (fun out' hg' hl' hv' => ih (i + 1) out' (by omega) hg' hl' ?_) _ 0 out 0 (Nat.zero_add _) hg hl (by omega) (by omega) (row_zero hg hv) ?_
    · rw [hv', lo_succ]; grind
    · rw [lo_zero, hv]; grind
theorem times_ev (x y : Nat) (hx : (D x).length < 1000000) (hy : (D y).length < 1000000) : Ev (fun k => impl_times.f k (D x) (D y)) (D (x * y)) := by
  unfold impl_times.f
  simp (disch := omega) only [w64]
  refine Ev.pos (by omega) (Ev.pos (by omega) ?_)
  refine times_l0 x y hx hy _ 0 _ (Nat.zero_add _) (GoodL.zeros _) (by rw [List.length_replicate]; omega) ?_
  rw [val_zeros, lo_zero]; simp
/-- The reference's cutting of noughts. -/
theorem norm_l0 (l : List Int) (h : GoodL l) (hl : l.length < 1000000000) (n : Nat) (hn : n ≤ l.length) : Ev (fun k => spec_l2norm.l0 k l (n : Int)) (D (val (l.take n)).toNat) := by
  induction n with
  | zero =>
    refine Ev.step (fun k => by rw [spec_l2norm.l0]) ?_
    refine Ev.neg (by omega) (Ev.some (Ev.pos (by omega) (Ev.pos (by omega) (Ev.pos (by simp) (Ev.eq ?_)))))
    simp [val, D_zero]
  | succ n ih =>
    refine Ev.step (fun k => by rw [spec_l2norm.l0]) ?_
    simp (disch := omega) only [w64]
    refine Ev.pos (by omega) (Ev.pos (by omega) (Ev.pos (by omega) ?_))
    rw [show ((n + 1 : Nat) : Int) - 1 = (n : Int) by omega, rd_nat]
    have e : l.take (n + 1) = l.take n ++ [l.getD n 0] := by
      rw [List.take_succ_eq_append_getElem (by omega), List.getD_eq_getElem?_getD, List.getElem?_eq_getElem (by omega)]; rfl
    refine Ev.ite (fun h0 => ?_) (fun h0 => ?_)
    · have := ih (by omega)
      rw [e, val_snoc, h0]
      simpa using this
    · refine Ev.some (Ev.pos (by omega) (Ev.pos (by omega) (Ev.pos (by simp; omega) (Ev.eq ?_))))
      rw [Int.toNat_natCast, List.nil_append]
      refine (D_val (h.take _) ?_).symm
      intro hne
      simp only [e]
      rw [List.getLast_append]
      simpa using h0
theorem norm_ev (l : List Int) (h : GoodL l) (hl : l.length < 1000000000) : Ev (fun k => spec_l2norm.f k l) (D (val l).toNat) := by
  have := norm_l0 l h hl l.length (Nat.le_refl _)
  rwa [List.take_length] at this
/-- The reference's product. -/
theorem l2mul_l1 (x y i : Nat) (v0 : Int) (R : List Int) (hx : (D x).length < 1000000) (hy : (D y).length < 1000000) (hi : i < (D x).length)
    (H : ∀ out, GoodL out → out.length = (D x).length + (D y).length → val out = v0 + 65536 ^ i * dg x i * y → Ev (fun k => spec_l2mul.l0 k out ((i + 1 : Nat) : Int) (D x) (D y)) R) (d : Nat) :
    ∀ (j : Nat) (out : List Int) (c : Int), j + d = (D y).length → GoodL out → out.length = (D x).length + (D y).length → 0 ≤ c → c < 65536 → out.getD (i + (D y).length) 0 = 0 →
      val out + 65536 ^ i * 65536 ^ j * c = v0 + 65536 ^ i * dg x i * lo y j → Ev (fun k => spec_l2mul.l1 k out (i : Int) c (j : Int) (D x) (D y)) R := by
  induction d with
  | zero =>
    intro j out c hj hg hl h0 h1 hz hv
    refine Ev.step (fun k => by rw [spec_l2mul.l1]) ?_
    rw [show wrap64 ((i : Int) + ((D y).length : Int)) = ((i + (D y).length : Nat) : Int) by rw [w64 (by omega) (by omega)]; omega]
    simp only [rd_nat, Int.toNat_natCast, hz]
    simp (disch := omega) only [w64]
    refine Ev.neg (by omega) (Ev.pos (by omega) (Ev.pos (by omega) ?_))
    rw [cast_succ]
    refine H _ (hg.set _ (by omega) (by omega)) (by rw [List.length_set]; exact hl) ?_
    rw [val_set (by omega), hz, Int.pow_add]
    rw [lo_len (by omega), show j = (D y).length by omega] at hv
    grind
  | succ d ih =>
    intro j out c hj hg hl h0 h1 hz hv
    refine Ev.step (fun k => by rw [spec_l2mul.l1]) ?_
    have b1 := dg_bd x i
    have b2 := dg_bd y j
    have e2 := lo_succ y j
    have bm := mul_bd b1 b2
    have bo := hg.getD (i + j)
    simp only [rd_dg]
    rw [show wrap64 ((i : Int) + (j : Int)) = ((i + j : Nat) : Int) by rw [w64 (by omega) (by omega)]; omega]
    simp only [rd_nat, Int.toNat_natCast]
    generalize hdx : dg x i = dx at *
    generalize hdy : dg y j = dy at *
    generalize ho : out.getD (i + j) 0 = o at *
    simp (disch := omega) only [w64, tmod_nn, tdiv_nn]
    refine Ev.pos (by omega) (Ev.pos (by omega) (Ev.pos (by omega) (Ev.pos (by omega) (Ev.pos (by omega) (Ev.pos (by omega) ?_)))))
    rw [cast_succ]
    refine ih (j + 1) _ _ (by omega) (hg.set _ (by omega) (by omega)) (by rw [List.length_set]; exact hl) (by omega) (by omega) (by rw [getD_set_ne_ (by omega)]; exact hz) ?_
    rw [e2, Int.pow_succ]
    refine step_mul (o := o) (dy := dy) hv ?_ ?_
    · omega
    rw [val_set (by omega), ho, Int.pow_add]
theorem l2mul_l0 (x y : Nat) (hx : (D x).length < 1000000) (hy : (D y).length < 1000000) (d : Nat) : ∀ (i : Nat) (out : List Int), i + d = (D x).length → GoodL out → out.length = (D x).length + (D y).length →
    val out = lo x i * y → Ev (fun k => spec_l2mul.l0 k out (i : Int) (D x) (D y)) (D (x * y)) := by
  induction d with
  | zero =>
    intro i out hi hg hl hv
    refine Ev.step (fun k => by rw [spec_l2mul.l0]) ?_
    refine Ev.neg (by omega) (Ev.bind (norm_ev _ hg (by omega)) (Ev.eq ?_))
    rw [hv, lo_len (by omega), ← Int.natCast_mul, Int.toNat_natCast]
  | succ d ih =>
    intro i out hi hg hl hv
    refine Ev.step (fun k => by rw [spec_l2mul.l0]) ?_
    refine Ev.pos (by omega) ?_
    refine l2mul_l1 x y i (lo x i * y) _ hx hy (by omega) (fun out' hg' hl' hv' => ih (i + 1) out' (by omega) hg' hl' ?_) _ 0 out 0 (Nat.zero_add _) hg hl (by omega) (by omega) (row_zero hg hv) ?_
    · rw [hv', lo_succ]; grind
    · rw [lo_zero, hv]; grind
theorem l2mul_ev (x y : Nat) (hx : (D x).length < 1000000) (hy : (D y).length < 1000000) : Ev (fun k => spec_l2mul.f k (D x) (D y)) (D (x * y)) := by
  unfold spec_l2mul.f
  simp (disch := omega) only [w64]
  refine Ev.pos (by omega) (Ev.pos (by omega) ?_)
  refine l2mul_l0 x y hx hy _ 0 _ (Nat.zero_add _) (GoodL.zeros _) (by rw [List.length_replicate]; omega) ?_
  rw [val_zeros, lo_zero]; simp
/-- The reference's sum. -/
theorem l2add_l0 (x y : Nat) (hx : (D x).length < 1000000) (hy : (D y).length < 1000000) (d : Nat) : ∀ (i : Nat) (out : List Int) (c : Int), i + d = max (D x).length (D y).length + 1 → GoodL out → out.length = i → 0 ≤ c → c ≤ 1 →
    (i = max (D x).length (D y).length + 1 → c = 0) → val out + 65536 ^ i * c = lo x i + lo y i → Ev (fun k => spec_l2add.l0 k out c (i : Int) (D x) (D y)) (D (x + y)) := by
  induction d with
  | zero =>
    intro i out c hi hg hl h0 h1 hc hv
    refine Ev.step (fun k => by rw [spec_l2add.l0]) ?_
    refine Ev.neg (by omega) (Ev.neg (by omega) ?_)
    refine Ev.step (fun k => by rw [spec_l2add.j1]) ?_
    have hc := hc (by omega)
    subst hc
    refine Ev.neg (by simp) (Ev.bind (norm_ev _ hg (by omega)) (Ev.eq ?_))
    rw [lo_len (by omega), lo_len (by omega)] at hv
    congr 1
    omega
  | succ d ih =>
    intro i out c hi hg hl h0 h1 hc hv
    have b1 := dg_bd x i
    have b2 := dg_bd y i
    have e1 := lo_succ x i
    have e2 := lo_succ y i
    have go : ∀ (s : Int), s = c + dg x i + dg y i → Ev (fun k => spec_l2add.l0 k (out ++ [s % 65536]) (s / 65536) ((i : Int) + 1) (D x) (D y)) (D (x + y)) := by
      intro s hs
      rw [cast_succ]
      refine ih (i + 1) _ _ (by omega) (hg.snoc (by omega) (by omega)) (by simp; omega) (by omega) (by omega) (fun hm => ?_) ?_
      · have z1 : dg x i = 0 := dg_len (by omega)
        have z2 : dg y i = 0 := dg_len (by omega)
        omega
      · rw [val_snoc, hl, e1, e2, Int.pow_succ]
        exact step_add hv hs
    have body : Ev (fun k => spec_l2add.j1 k out c (i : Int) true (D x) (D y)) (D (x + y)) := by
      refine Ev.step (fun k => by rw [spec_l2add.j1]) (Ev.pos rfl ?_)
      simp only [rd_dg]
      refine Ev.ite (fun hlt => Ev.pos (by omega) (Ev.ite (fun hly => ?_) (fun hly => ?_))) (fun hlt => Ev.ite (fun hly => Ev.pos (by omega) ?_) (fun hly => ?_))
      · simp (disch := omega) only [w64, tmod_nn, tdiv_nn]
        exact Ev.pos (by omega) (go _ (by omega))
      · have z2 : dg y i = 0 := dg_len (by omega)
        simp (disch := omega) only [w64, tmod_nn, tdiv_nn]
        exact Ev.pos (by omega) (go _ (by omega))
      · have z1 : dg x i = 0 := dg_len (by omega)
        simp (disch := omega) only [w64, tmod_nn, tdiv_nn]
        exact Ev.pos (by omega) (go _ (by omega))
      · have z1 : dg x i = 0 := dg_len (by omega)
        have z2 : dg y i = 0 := dg_len (by omega)
        simp (disch := omega) only [w64, tmod_nn, tdiv_nn]
        exact Ev.pos (by omega) (go _ (by omega))
    refine Ev.step (fun k => by rw [spec_l2add.l0]) ?_
    refine Ev.ite (fun _ => body) (fun hx' => Ev.ite (fun _ => body) (fun hy' => ?_))
    by_cases hcp : c > 0
    · rw [decide_eq_true hcp]; exact body
    · rw [decide_eq_false hcp]
      refine Ev.step (fun k => by rw [spec_l2add.j1]) ?_
      obtain rfl : c = 0 := by omega
      refine Ev.neg (by simp) (Ev.bind (norm_ev _ hg (by omega)) (Ev.eq ?_))
      rw [lo_len (by omega), lo_len (by omega)] at hv
      congr 1
      omega
theorem l2add_ev (x y : Nat) (hx : (D x).length < 1000000) (hy : (D y).length < 1000000) : Ev (fun k => spec_l2add.f k (D x) (D y)) (D (x + y)) :=
  l2add_l0 x y hx hy (max (D x).length (D y).length + 1) 0 [] 0 (Nat.zero_add _) GoodL.nil rfl (by omega) (by omega) (fun h => by omega) (by simp [val, lo_zero])
/-- Numbers of the machine. -/
theorem small_l0 (m : Nat) : ∀ (n : Nat) (out : List Int), n < 65536 ^ m → n < 9223372036854775808 → out.length + m < 1000000 → Ev (fun k => impl_small.l0 k (n : Int) out) (out ++ D n) := by
  induction m with
  | zero =>
    intro n out hm hn hl
    obtain rfl : n = 0 := by rw [Nat.pow_zero] at hm; omega
    exact Ev.step (fun k => by rw [impl_small.l0]) (Ev.neg (by omega) (Ev.eq (by rw [D_zero, List.append_nil])))
  | succ m ih =>
    intro n out hm hn hl
    refine Ev.step (fun k => by rw [impl_small.l0]) ?_
    by_cases h : n = 0
    · subst h
      exact Ev.neg (by omega) (Ev.eq (by rw [D_zero, List.append_nil]))
    · simp (disch := omega) only [w64, tmod_nn, tdiv_nn]
      refine Ev.pos (by omega) (Ev.pos (by omega) ?_)
      rw [Nat.pow_succ] at hm
      have := ih (n / 65536) (out ++ [((n % 65536 : Nat) : Int)]) (by omega) (by omega) (by simp; omega)
      rw [D_pos h]
      simpa using this
theorem small_ev (n : Nat) (hn : n < 9223372036854775808) : Ev (fun k => impl_small.f k (n : Int)) (D n) :=
  small_l0 4 n [] (Nat.lt_of_lt_of_le hn (by decide)) hn (by simp)
theorem l2of_l0 (m : Nat) : ∀ (n : Nat) (out : List Int), n < 65536 ^ m → n < 9223372036854775808 → out.length + m < 1000000 → Ev (fun k => spec_l2of.l0 k (n : Int) out) (out ++ D n) := by
  induction m with
  | zero =>
    intro n out hm hn hl
    obtain rfl : n = 0 := by rw [Nat.pow_zero] at hm; omega
    exact Ev.step (fun k => by rw [spec_l2of.l0]) (Ev.neg (by omega) (Ev.eq (by rw [D_zero, List.append_nil])))
  | succ m ih =>
    intro n out hm hn hl
    refine Ev.step (fun k => by rw [spec_l2of.l0]) ?_
    by_cases h : n = 0
    · subst h
      exact Ev.neg (by omega) (Ev.eq (by rw [D_zero, List.append_nil]))
    · simp (disch := omega) only [w64, tmod_nn, tdiv_nn]
      refine Ev.pos (by omega) (Ev.pos (by omega) ?_)
      rw [Nat.pow_succ] at hm
      have := ih (n / 65536) (out ++ [((n % 65536 : Nat) : Int)]) (by omega) (by omega) (by simp; omega)
      rw [D_pos h]
      simpa using this
theorem l2of_ev (n : Nat) (hn : n < 9223372036854775808) : Ev (fun k => spec_l2of.f k (n : Int)) (D n) :=
  l2of_l0 4 n [] (Nat.lt_of_lt_of_le hn (by decide)) hn (by simp)
end Go.Proofs.Ytjepgnfgalnjhaa.Low
namespace Go.Proofs.Ytjepgnfgalnjhaa.Law
open Go.RowKit (wrap64)
open Go.Proofs.Ytjepgnfgalnjhaa.Q Go.Proofs.YtjepgnfgalnjhaaW.PrintWords Go.Proofs.YtjepgnfgalnjhaaW.PrintLast Go.Proofs.YtjepgnfgalnjhaaW.PrintMore Go.Proofs.Ytjepgnfgalnjhaa.Num
open Go.Proofs.Ytjepgnfgalnjhaa.Ex Go.Proofs.Ytjepgnfgalnjhaa.Low
theorem eqIntS_l0 (l : List Int) (hl : l.length < 100000000) (d : Nat) : ∀ (i : Nat), i + d = l.length → Ev (fun k => laws_eqIntS.l0 k l l (i : Int)) true := by
  induction d with
  | zero =>
    intro i hi
    exact Ev.step (fun k => by rw [laws_eqIntS.l0]) (Ev.neg (by omega) (Ev.now _))
  | succ d ih =>
    intro i hi
    refine Ev.step (fun k => by rw [laws_eqIntS.l0]) (Ev.pos (by omega) (Ev.pos (by omega) (Ev.pos (by omega) (Ev.pos rfl ?_))))
    simp (disch := omega) only [w64]
    rw [cast_succ]
    exact ih (i + 1) (by omega)
theorem eqIntS_ev (l : List Int) (hl : l.length < 100000000) : Ev (fun k => laws_eqIntS.f k l l) true := Ev.pos rfl (eqIntS_l0 l hl _ 0 (Nat.zero_add _))
theorem eqNat_ev (l : List Int) (hl : l.length < 100000000) : Ev (fun k => laws_eqNat.f k l l) true := Ev.bind (eqIntS_ev l hl) (Ev.pos rfl (Ev.now _))
/-- What marking leaves: one number behind the other. -/
def marks (n : Nat) (a : Int) : List Int := (List.range n).map fun (i : Nat) => a + (i : Int)
theorem marks_len (n : Nat) (a : Int) : (marks n a).length = n := by simp [marks]
theorem marks_rd (n : Nat) (a : Int) (i : Nat) (h : i < n) : rd (marks n a) (i : Int) = a + i := by
  rw [rd_nat, List.getD_eq_getElem?_getD, List.getElem?_eq_getElem (by rw [marks_len]; exact h)]
  simp [marks]
theorem markIntS_l0 (l : List Int) (a : Int) (ha : 0 ≤ a) (ha' : a < 1000000000000) (hl : l.length < 100000000) (d : Nat) : ∀ (i : Nat) (out : List Int), i + d = l.length → out.length = l.length → out.take i = marks i a → Ev (fun k => laws_markIntS.l0 k out (a + i) (i : Int)) (a + l.length, marks l.length a) := by
  induction d with
  | zero =>
    intro i out hi ho ht
    refine Ev.step (fun k => by rw [laws_markIntS.l0]) (Ev.neg (by omega) (Ev.eq ?_))
    rw [List.take_of_length_le (by omega)] at ht
    rw [ht, show i = l.length by omega]
  | succ d ih =>
    intro i out hi ho ht
    refine Ev.step (fun k => by rw [laws_markIntS.l0]) (Ev.pos (by omega) (Ev.pos (by omega) ?_))
    simp (disch := omega) only [w64]
    rw [Int.add_assoc, cast_succ, Int.toNat_natCast]
    refine ih (i + 1) _ (by omega) (by rw [List.length_set]; exact ho) ?_
    rw [List.take_succ_eq_append_getElem (by rw [List.length_set]; omega), List.getElem_set_self, List.take_set_of_le (by omega), ht]
    simp [marks, List.range_succ]
theorem markIntS_ev (l : List Int) (a : Int) (ha : 0 ≤ a) (ha' : a < 1000000000000) (hl : l.length < 100000000) : Ev (fun k => laws_markIntS.f k l a) (a + l.length, marks l.length a) := by
  have := markIntS_l0 l a ha ha' hl _ 0 l (Nat.zero_add _) rfl rfl
  unfold laws_markIntS.f
  simpa using this
theorem markNat_ev (l : List Int) (a : Int) (ha : 0 ≤ a) (ha' : a < 1000000000000) (hl : l.length < 100000000) : Ev (fun k => laws_markNat.f k l a) (a + l.length, marks l.length a) := Ev.bind (markIntS_ev l a ha ha' hl) (Ev.now _)
theorem heldIntS_l0 (n : Nat) (a : Int) (ha : 0 ≤ a) (ha' : a < 1000000000000) (hl : n < 100000000) (d : Nat) : ∀ (i : Nat), i + d = n → Ev (fun k => laws_heldIntS.l0 k (marks n a) (a + i) (i : Int)) (a + n) := by
  induction d with
  | zero =>
    intro i hi
    refine Ev.step (fun k => by rw [laws_heldIntS.l0]) (Ev.neg (by rw [marks_len]; omega) (Ev.eq ?_))
    omega
  | succ d ih =>
    intro i hi
    refine Ev.step (fun k => by rw [laws_heldIntS.l0]) (Ev.pos (by rw [marks_len]; omega) (Ev.pos (by omega) (Ev.pos (marks_rd n a i (by omega)) ?_)))
    simp (disch := omega) only [w64]
    rw [Int.add_assoc, cast_succ]
    exact ih (i + 1) (by omega)
theorem heldIntS_ev (n : Nat) (a : Int) (ha : 0 ≤ a) (ha' : a < 1000000000000) (hl : n < 100000000) : Ev (fun k => laws_heldIntS.f k (marks n a) a) (a + n) := by
  have := heldIntS_l0 n a ha ha' hl _ 0 (Nat.zero_add _)
  unfold laws_heldIntS.f
  simpa using this
theorem heldNat_ev (n : Nat) (a : Int) (ha : 0 ≤ a) (ha' : a < 1000000000000) (hl : n < 100000000) : Ev (fun k => laws_heldNat.f k (marks n a) a) (a + n) := Ev.bind (heldIntS_ev n a ha ha' hl) (Ev.neg (by omega) (Ev.now _))
/-- What is not too long. -/
def fits (l : List Int) : List Int × Bool := if l.length ≤ 100 then (l, true) else ([], false)
theorem l2fits_eq (l : List Int) : spec_l2fits.f l = some (fits l) := by
  unfold spec_l2fits.f fits
  by_cases h : l.length ≤ 100
  · rw [if_neg (by omega), if_pos h]
  · rw [if_pos (by omega), if_neg h]
theorem clone_eq (l : List Int) (hl : l.length < 1000000000) : slices_Clone_int_int.f l = some l := by
  unfold slices_Clone_int_int.f
  simp only [Option.bind_some, List.length_nil, List.nil_append]
  rw [if_pos (by omega)]
theorem natOf_eq (l : List Int) (hl : l.length < 1000000000) : impl_natOf.f l = some (fits l) := by
  unfold impl_natOf.f fits
  by_cases h : l.length ≤ 100
  · rw [if_neg (by omega), if_pos h, clone_eq l hl]; rfl
  · rw [if_pos (by omega), if_neg h]
theorem fits_len (l : List Int) : (fits l).1.length ≤ 100 := by
  unfold fits
  split
  · assumption
  · simp
end Go.Proofs.Ytjepgnfgalnjhaa.Law
namespace Go.Proofs.Ytjepgnfgalnjhaa.ExA
open Go.RowKit (wrap64)
open Go.Proofs.Ytjepgnfgalnjhaa.Q Go.Proofs.YtjepgnfgalnjhaaW.PrintWords Go.Proofs.YtjepgnfgalnjhaaW.PrintLast Go.Proofs.YtjepgnfgalnjhaaW.PrintMore Go.Proofs.Ytjepgnfgalnjhaa.Num
open Go.Proofs.Ytjepgnfgalnjhaa.Ex Go.Proofs.Ytjepgnfgalnjhaa.Low Go.Proofs.Ytjepgnfgalnjhaa.Law
/-- The number of a list. -/
def N (l : List Int) : Nat := (val l).toNat
theorem N_D (n : Nat) : N (D n) = n := by unfold N; rw [val_D, Int.toNat_natCast]
end Go.Proofs.Ytjepgnfgalnjhaa.ExA
namespace Go.Proofs.Ytjepgnfgalnjhaa.ExO
open Go.RowKit (wrap64)
open Go.Proofs.Ytjepgnfgalnjhaa.Q Go.Proofs.YtjepgnfgalnjhaaW.PrintWords Go.Proofs.YtjepgnfgalnjhaaW.PrintLast Go.Proofs.YtjepgnfgalnjhaaW.PrintMore Go.Proofs.Ytjepgnfgalnjhaa.Num
open Go.Proofs.Ytjepgnfgalnjhaa.Ex Go.Proofs.Ytjepgnfgalnjhaa.Low Go.Proofs.Ytjepgnfgalnjhaa.Law Go.Proofs.Ytjepgnfgalnjhaa.ExA
theorem D_inj {x y : Nat} : D x = D y ↔ x = y := by
  constructor
  · intro h; have := congrArg N h; rwa [N_D, N_D] at this
  · rintro rfl; rfl
end Go.Proofs.Ytjepgnfgalnjhaa.ExO
namespace Go.Proofs.Ytjepgnfgalnjhaa.ExT
open Go.RowKit (wrap64)
open Go.Proofs.Ytjepgnfgalnjhaa.Q Go.Proofs.YtjepgnfgalnjhaaW.PrintWords Go.Proofs.YtjepgnfgalnjhaaW.PrintLast Go.Proofs.YtjepgnfgalnjhaaW.PrintMore Go.Proofs.Ytjepgnfgalnjhaa.Num
open Go.Proofs.Ytjepgnfgalnjhaa.Ex Go.Proofs.Ytjepgnfgalnjhaa.Low Go.Proofs.Ytjepgnfgalnjhaa.Law Go.Proofs.Ytjepgnfgalnjhaa.ExA
/-- The number that the first digits of a text say. -/
def decN (l : List Int) : Nat → Nat
  | 0 => 0
  | i + 1 => decN l i * 10 + ((rd l (i : Int) - 48) % 256).toNat
theorem decN_lt (l : List Int) (i : Nat) : decN l i < 65536 ^ i := by
  induction i with
  | zero => simp [decN]
  | succ i ih => rw [decN, Nat.pow_succ]; omega
theorem decN_len (l : List Int) (i : Nat) : (D (decN l i)).length ≤ i := len_D_le.2 (decN_lt l i)
theorem len_ten : (D 10).length ≤ 1 := len_D_le.2 (by decide)
theorem ten_len (l : List Int) (i : Nat) : (D (decN l i * 10)).length ≤ i + 1 := by
  rw [len_D_le, Nat.pow_succ]
  have := decN_lt l i
  omega
theorem dig_len (x : Int) : (D ((x - 48) % 256).toNat).length ≤ 1 := len_D_le.2 (by omega)
theorem fromDigits_l0 (l : List Int) (hl : l.length ≤ 1000) (d : Nat) : ∀ i, i + d = l.length → Ev (fun k => impl_fromDigits.l0 k (D (decN l i)) l (l.length : Int) (i : Int)) (D (decN l l.length)) := by
  induction d with
  | zero =>
    intro i hi
    refine Ev.step (fun k => by rw [impl_fromDigits.l0]) ?_
    refine Ev.neg (by omega) (Ev.eq ?_)
    rw [show i = l.length by omega]
  | succ d ih =>
    intro i hi
    have h1 := decN_len l i
    have h2 := len_ten
    have h3 := ten_len l i
    have h4 := dig_len (rd l (i : Int))
    have e : (rd l (i : Int) - 48) % 256 = (((rd l (i : Int) - 48) % 256).toNat : Int) := by omega
    refine Ev.step (fun k => by rw [impl_fromDigits.l0]) ?_
    refine Ev.pos (by omega) (Ev.pos (by omega) (Ev.pos (by omega) ?_))
    refine Ev.bind (small_ev 10 (by omega)) ?_
    refine Ev.bind (times_ev _ _ (by omega) (by omega)) ?_
    rw [e]
    refine Ev.bind (small_ev _ (by omega)) ?_
    refine Ev.bind (plus_ev _ _ (by omega) (by omega)) ?_
    rw [w64 (by omega) (by omega), cast_succ]
    exact ih (i + 1) (by omega)
theorem fromDigits_ev (l : List Int) (hl : l.length ≤ 1000) : Ev (fun k => impl_fromDigits.f k l) (D (decN l l.length)) := by
  have := fromDigits_l0 l hl _ 0 (Nat.zero_add _)
  rw [decN, D_zero] at this
  exact this
theorem l2digits_l0 (l : List Int) (hl : l.length ≤ 1000) (d : Nat) : ∀ i, i + d = l.length → Ev (fun k => spec_l2digits.l0 k l (i : Int) (D (decN l i))) (D (decN l l.length)) := by
  induction d with
  | zero =>
    intro i hi
    refine Ev.step (fun k => by rw [spec_l2digits.l0]) ?_
    refine Ev.neg (by omega) (Ev.eq ?_)
    rw [show i = l.length by omega]
  | succ d ih =>
    intro i hi
    have h1 := decN_len l i
    have h2 := len_ten
    have h3 := ten_len l i
    have h4 := dig_len (rd l (i : Int))
    have e : (rd l (i : Int) - 48) % 256 = (((rd l (i : Int) - 48) % 256).toNat : Int) := by omega
    refine Ev.step (fun k => by rw [spec_l2digits.l0]) ?_
    refine Ev.pos (by omega) ?_
    refine Ev.bind (l2of_ev 10 (by omega)) ?_
    refine Ev.bind (l2mul_ev _ _ (by omega) (by omega)) ?_
    refine Ev.pos (by omega) ?_
    rw [e]
    refine Ev.bind (l2of_ev _ (by omega)) ?_
    refine Ev.bind (l2add_ev _ _ (by omega) (by omega)) ?_
    rw [w64 (by omega) (by omega), cast_succ]
    exact ih (i + 1) (by omega)
theorem l2digits_ev (l : List Int) (hl : l.length ≤ 1000) : Ev (fun k => spec_l2digits.f k l) (D (decN l l.length)) := by
  have := l2digits_l0 l hl _ 0 (Nat.zero_add _)
  rw [decN, D_zero] at this
  exact this
theorem isDigits_l0 (l : List Int) (hl : l.length ≤ 1000000) (d : Nat) : ∀ i, i + d = l.length → Ev (fun k => spec_l2isDigits.l0 k l (i : Int)) (if (l.drop i).all digB = true then decide (0 < l.length) else false) := by
  induction d with
  | zero =>
    intro i hi
    refine Ev.step (fun k => by rw [spec_l2isDigits.l0]) ?_
    refine Ev.neg (by omega) (Ev.eq ?_)
    rw [List.drop_of_length_le (by omega)]; simp
  | succ d ih =>
    intro i hi
    have hdr : l.drop i = rd l (i : Int) :: l.drop (i + 1) := by
      rw [rd_nat, List.drop_eq_getElem_cons (by omega), List.getD_eq_getElem?_getD, List.getElem?_eq_getElem (by omega)]; rfl
    refine Ev.step (fun k => by rw [spec_l2isDigits.l0]) ?_
    refine Ev.pos (by omega) (Ev.pos (by omega) ?_)
    refine Ev.ite (fun c => Ev.eq ?_) (fun c => Ev.ite (fun c2 => Ev.eq ?_) (fun c2 => ?_))
    · rw [hdr, List.all_cons, if_neg]; unfold digB; rw [decide_eq_false (by omega)]; simp
    · rw [hdr, List.all_cons, if_neg]; unfold digB; rw [decide_eq_false (p := rd l (i : Int) ≤ 57) (by omega)]; simp
    · rw [w64 (by omega) (by omega), cast_succ, hdr, List.all_cons, show digB (rd l (i : Int)) = true by unfold digB; rw [decide_eq_true (by omega), decide_eq_true (by omega)]; rfl, Bool.true_and]
      exact ih (i + 1) (by omega)
theorem isDigits_ev (l : List Int) (hl : l.length ≤ 1000000) : Ev (fun k => spec_l2isDigits.f k l) (digitsB l) := by
  refine Ev.to (isDigits_l0 l hl _ 0 (Nat.zero_add _)) ?_
  unfold digitsB
  rw [List.drop_zero]
  cases l.all digB <;> simp
/-- What is read. -/
def natRead (l : List Int) : List Int × Bool := if l.length ≤ 400 ∧ digitsB l = true ∧ ¬ (1 < l.length ∧ (rd l 0 == 48) = true) then fits (D (decN l l.length)) else ([], false)
theorem natRead_len (l : List Int) : (natRead l).1.length ≤ 100 := by
  unfold natRead
  split
  · exact fits_len _
  · simp
theorem specNatRead_ev (l : List Int) : Ev (fun k => spec_NatRead.f k l) (natRead l) := by
  have bad : ¬ (l.length ≤ 400 ∧ digitsB l = true ∧ ¬ (1 < l.length ∧ (rd l 0 == 48) = true)) → Ev (fun k => spec_NatRead.j0 k l true) (natRead l) := by
    intro h
    refine Ev.step (fun k => by rw [spec_NatRead.j0]) ?_
    refine Ev.pos rfl (Ev.eq ?_)
    unfold natRead; rw [if_neg h]
  have good : l.length ≤ 400 ∧ digitsB l = true ∧ ¬ (1 < l.length ∧ (rd l 0 == 48) = true) → Ev (fun k => spec_NatRead.j0 k l false) (natRead l) := by
    intro h
    refine Ev.step (fun k => by rw [spec_NatRead.j0]) ?_
    refine Ev.neg (by simp) ?_
    refine Ev.bind (l2digits_ev l (by omega)) ?_
    simp only [l2fits_eq, Option.bind_some]
    refine Ev.eq ?_
    unfold natRead; rw [if_pos h]
  refine Ev.ite (fun c => bad (by omega)) (fun c => ?_)
  refine Ev.bind (isDigits_ev l (by omega)) (Ev.ite (fun d => Ev.ite (fun e => Ev.pos (by omega) ?_) (fun e => good ⟨by omega, d, by omega⟩)) (fun d => bad (by simp [d])))
  cases z : (rd l 0 == 48)
  · exact good ⟨by omega, d, by simp [z]⟩
  · exact bad (by simp [z]; omega)
theorem implNatRead_ev (l : List Int) : Ev (fun k => impl_NatRead.f k l) (natRead l) := by
  have bad : ¬ (l.length ≤ 400 ∧ digitsB l = true ∧ ¬ (1 < l.length ∧ (rd l 0 == 48) = true)) → Ev (fun k => impl_NatRead.j0 k l true) (natRead l) := by
    intro h
    refine Ev.step (fun k => by rw [impl_NatRead.j0]) ?_
    refine Ev.pos rfl (Ev.eq ?_)
    unfold natRead; rw [if_neg h]
  have good : l.length ≤ 400 ∧ digitsB l = true ∧ ¬ (1 < l.length ∧ (rd l 0 == 48) = true) → Ev (fun k => impl_NatRead.j0 k l false) (natRead l) := by
    intro h
    have := decN_len l l.length
    refine Ev.step (fun k => by rw [impl_NatRead.j0]) ?_
    refine Ev.neg (by simp) ?_
    refine Ev.bind (fromDigits_ev l (by omega)) ?_
    simp only [natOf_eq (D (decN l l.length)) (by omega), Option.bind_some]
    refine Ev.eq ?_
    unfold natRead; rw [if_pos h]
  unfold impl_NatRead.f impl_areDigits.f
  simp only [Option.bind_some]
  refine Ev.ite (fun c => bad (by omega)) (fun c => ?_)
  refine Ev.ite (fun d => Ev.ite (fun e => Ev.pos (by omega) ?_) (fun e => good ⟨by omega, d, by omega⟩)) (fun d => bad (by simp [d]))
  cases z : (rd l 0 == 48)
  · exact good ⟨by omega, d, by simp [z]⟩
  · exact bad (by simp [z]; omega)
theorem toByteS_l0 (l : List Int) (hl : l.length < 100000000) (d : Nat) : ∀ (i : Nat) (out : List Int), i + d = l.length → out.length = l.length → out.take i = l.take i → Ev (fun k => laws_toByteS.l0 k l out (i : Int)) l := by
  induction d with
  | zero =>
    intro i out hi ho ht
    refine Ev.step (fun k => by rw [laws_toByteS.l0]) (Ev.neg (by omega) (Ev.eq ?_))
    rwa [List.take_of_length_le (by omega), List.take_of_length_le (by omega)] at ht
  | succ d ih =>
    intro i out hi ho ht
    refine Ev.step (fun k => by rw [laws_toByteS.l0]) (Ev.pos (by omega) (Ev.pos (by omega) (Ev.pos (by omega) ?_)))
    simp (disch := omega) only [w64]
    rw [cast_succ, Int.toNat_natCast]
    refine ih (i + 1) _ (by omega) (by rw [List.length_set]; exact ho) ?_
    rw [List.take_succ_eq_append_getElem (by rw [List.length_set]; omega), List.take_succ_eq_append_getElem (by omega), List.getElem_set_self, List.take_set_of_le (by omega), ht, rd_nat, List.getD_eq_getElem?_getD, List.getElem?_eq_getElem (by omega)]
    rfl
theorem toByteS_ev (l : List Int) (hl : l.length < 100000000) : Ev (fun k => laws_toByteS.f k l) l := by
  unfold laws_toByteS.f
  refine Ev.pos (by omega) (Ev.pos (by omega) ?_)
  exact toByteS_l0 l hl _ 0 _ (Nat.zero_add _) (by simp) rfl
theorem eqByteS_l0 (l : List Int) (hl : l.length < 100000000) (d : Nat) : ∀ (i : Nat), i + d = l.length → Ev (fun k => laws_eqByteS.l0 k l l (i : Int)) true := by
  induction d with
  | zero =>
    intro i hi
    exact Ev.step (fun k => by rw [laws_eqByteS.l0]) (Ev.neg (by omega) (Ev.now _))
  | succ d ih =>
    intro i hi
    refine Ev.step (fun k => by rw [laws_eqByteS.l0]) (Ev.pos (by omega) (Ev.pos (by omega) (Ev.pos (by omega) (Ev.pos rfl ?_))))
    simp (disch := omega) only [w64]
    rw [cast_succ]
    exact ih (i + 1) (by omega)
theorem eqByteS_ev (l : List Int) (hl : l.length < 100000000) : Ev (fun k => laws_eqByteS.f k l l) true := Ev.pos rfl (eqByteS_l0 l hl _ 0 (Nat.zero_add _))
theorem markByteS_l0 (n : Nat) (a : Int) (ha : 0 ≤ a) (ha' : a < 1000000000000) (hl : n < 100000000) (d : Nat) : ∀ (i : Nat) (out : List Int), i + d = n → out.length = n → ∃ m, Ev (fun k => laws_markByteS.l0 k out (a + i) (i : Int)) (a + n, m) := by
  induction d with
  | zero =>
    intro i out hi ho
    refine ⟨out, Ev.step (fun k => by rw [laws_markByteS.l0]) (Ev.neg (by omega) (Ev.eq ?_))⟩
    rw [show i = n by omega]
  | succ d ih =>
    intro i out hi ho
    obtain ⟨m, hm⟩ := ih (i + 1) (out.set (i : Int).toNat ((a + i) % 256)) (by omega) (by rw [List.length_set]; exact ho)
    refine ⟨m, Ev.step (fun k => by rw [laws_markByteS.l0]) (Ev.pos (by omega) (Ev.pos (by omega) ?_))⟩
    rw [w64 (by omega) (by omega), w64 (by omega) (by omega), Int.add_assoc, cast_succ]
    exact hm
theorem markByteS_ev (l : List Int) (a : Int) (ha : 0 ≤ a) (ha' : a < 1000000000000) (hl : l.length < 100000000) : ∃ m, Ev (fun k => laws_markByteS.f k l a) (a + l.length, m) := by
  obtain ⟨m, hm⟩ := markByteS_l0 l.length a ha ha' hl _ 0 l (Nat.zero_add _) rfl
  exact ⟨m, by unfold laws_markByteS.f; simpa using hm⟩
theorem FnExactNatRead_ev (l0 : List Int) : Ev (fun k => laws_FnExactNatRead.f k l0) true := by
  have hl := natRead_len l0
  have hs := specNatRead_ev l0
  have hi := implNatRead_ev l0
  generalize natRead l0 = W at *
  obtain ⟨g, b⟩ := W
  unfold laws_FnExactNatRead.f
  refine Ev.ite (fun _ => Ev.now _) (fun s0 => ?_)
  obtain ⟨m, hm⟩ := markByteS_ev l0 1 (by omega) (by omega) (by omega)
  repeat first
    | exact Ev.now _
    | refine Ev.bind (toByteS_ev _ (by omega)) ?_
    | refine Ev.bind hs ?_
    | refine Ev.bind hi ?_
    | refine Ev.bind (eqByteS_ev _ (by omega)) ?_
    | refine Ev.bind hm ?_
    | refine Ev.bind (eqNat_ev _ (by first | omega | (dsimp only at *; omega))) ?_
    | refine Ev.bind (markNat_ev _ _ (by first | omega | (dsimp only at *; omega)) (by first | omega | (dsimp only at *; omega)) (by first | omega | (dsimp only at *; omega))) ?_
    | refine Ev.bind (heldNat_ev _ _ (by first | omega | (dsimp only at *; omega)) (by first | omega | (dsimp only at *; omega)) (by first | omega | (dsimp only at *; omega))) ?_
    | refine Ev.pos rfl ?_
    | refine Ev.neg (by omega) ?_
    | refine Ev.neg (by simp) ?_
    | refine Ev.neg (by dsimp only; omega) ?_
end Go.Proofs.Ytjepgnfgalnjhaa.ExT
namespace Go.Proofs.Ytjepgnfgalnjhaa.Pure
open Go.RowKit (wrap64)
open Go.Proofs.Ytjepgnfgalnjhaa.Q Go.Proofs.YtjepgnfgalnjhaaW.PrintWords Go.Proofs.YtjepgnfgalnjhaaW.PrintLast Go.Proofs.YtjepgnfgalnjhaaW.PrintMore Go.Proofs.Ytjepgnfgalnjhaa.Num
theorem FnExactNatRead : Q.laws_FnExactNatRead.Pure := by
  intro l0 h1 h2 h3
  obtain ⟨K, h⟩ := ExT.FnExactNatRead_ev l0
  exact ⟨K, h K (Nat.le_refl _)⟩
end Go.Proofs.Ytjepgnfgalnjhaa.Pure
