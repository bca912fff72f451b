/- Comparison of dyadics is comparison of numbers. Plain law. No conditions. -/
import Derived.Test.YtlcoopdgammmjaaIv1
set_option linter.unusedVariables false
set_option linter.unusedSimpArgs false
namespace Go.Eng
open Num
def sg (n : Bool) (a : Nat) : Int := if n then -(a : Int) else a
theorem cmpI_le (a b : Nat) : cmpI a b ≤ 0 ↔ a ≤ b := by
  unfold cmpI
  split
  · omega
  · split <;> omega
theorem cmpI_eq (a b : Nat) : cmpI a b = 0 ↔ a = b := by
  unfold cmpI
  split
  · omega
  · split <;> omega
theorem scmp_le {n m : Bool} {a b : Nat} (ha : a = 0 → n = false) (hb : b = 0 → m = false) : scmp n a m b ≤ 0 ↔ sg n a ≤ sg m b := by
  unfold scmp sg
  cases n <;> cases m <;> simp [cmpI_le] <;> simp at ha hb <;> omega
theorem scmp_eq {n m : Bool} {a b : Nat} (ha : a = 0 → n = false) (hb : b = 0 → m = false) : scmp n a m b = 0 ↔ sg n a = sg m b := by
  unfold scmp sg
  cases n <;> cases m <;> simp [cmpI_eq] <;> simp at ha hb <;> omega
theorem sg_mul (n : Bool) (a k : Nat) : sg n (a * k) = sg n a * k := by
  unfold sg; cases n <;> simp [Int.neg_mul]
/-- The number, scaled. -/
def DyT.sv (K : Int) (x : DyT) : Int := sg x.neg x.n * (2 ^ (x.e - K).toNat : Nat)
theorem al_sv {a : Nat} {ex ey K : Int} {b : Nat} (hx : K ≤ ex) (hy : K ≤ ey) : a * 2 ^ (ex - K).toNat = alA a ex b ey * 2 ^ (alE a ex b ey - K).toNat ∧ b * 2 ^ (ey - K).toNat = alB a ex b ey * 2 ^ (alE a ex b ey - K).toNat := by
  unfold alA alB alE
  by_cases hb : b = 0
  · subst hb
    simp
  · by_cases ha : a = 0
    · subst ha
      simp [hb]
    · rw [if_neg hb, if_neg ha]
      by_cases h : ey < ex
      · rw [if_pos h, Nat.mul_assoc, ← Nat.pow_add, Int.sub_self]
        refine ⟨by rw [show (ex - ey).toNat + (ey - K).toNat = (ex - K).toNat by omega], by simp⟩
      · rw [if_neg h, Nat.mul_assoc b, ← Nat.pow_add, Int.sub_self]
        refine ⟨by simp, by rw [show (ey - ex).toNat + (ex - K).toNat = (ey - K).toNat by omega]⟩
theorem al_zero {a : Nat} {ex ey : Int} {b : Nat} : (alA a ex b ey = 0 ↔ a = 0) ∧ (alB a ex b ey = 0 ↔ b = 0) := by
  unfold alA alB
  have h1 := Nat.two_pow_pos (ex - alE a ex b ey).toNat
  have h2 := Nat.two_pow_pos (ey - alE a ex b ey).toNat
  refine ⟨⟨fun h => ?_, fun h => by rw [h, Nat.zero_mul]⟩, ⟨fun h => ?_, fun h => by rw [h, Nat.zero_mul]⟩⟩
  · rcases Nat.mul_eq_zero.1 h with h | h <;> omega
  · rcases Nat.mul_eq_zero.1 h with h | h <;> omega
theorem dcmp_sv {x y : DyT} {K : Int} (hx : dyOkB x = true) (hy : dyOkB y = true) (h1 : K ≤ x.e) (h2 : K ≤ y.e) : (dcmp x y ≤ 0 ↔ x.sv K ≤ y.sv K) ∧ (dcmp x y = 0 ↔ x.sv K = y.sv K) := by
  obtain ⟨_, _, _, _, a4⟩ := ok_D hx
  obtain ⟨_, _, _, _, b4⟩ := ok_D hy
  unfold dcmp DyT.sv
  have z := al_zero (a := x.n) (ex := x.e) (ey := y.e) (b := y.n)
  have za : alA x.n x.e y.n y.e = 0 → x.neg = false := fun h => a4 (z.1.1 h)
  have zb : alB x.n x.e y.n y.e = 0 → y.neg = false := fun h => b4 (z.2.1 h)
  rw [scmp_le za zb, scmp_eq za zb, ← sg_mul, ← sg_mul, (al_sv h1 h2).1, (al_sv h1 h2).2, sg_mul, sg_mul]
  have hp : (0 : Int) < (2 ^ (alE x.n x.e y.n y.e - K).toNat : Nat) := by exact_mod_cast Nat.two_pow_pos _
  exact ⟨⟨fun h => Int.mul_le_mul_of_nonneg_right h (Int.le_of_lt hp), fun h => Int.le_of_mul_le_mul_right h hp⟩, ⟨fun h => by rw [h], fun h => Int.eq_of_mul_eq_mul_right (by omega) h⟩⟩
theorem dyOk_e {x : DyT} (hx : dyOkB x = true) : -3000 ≤ x.e := by
  obtain ⟨_, _, _, h, _⟩ := (dyOkB_iff x).1 hx
  exact h
theorem dcmp_le {x y : DyT} (hx : dyOkB x = true) (hy : dyOkB y = true) : dcmp x y ≤ 0 ↔ x.sv (-3000) ≤ y.sv (-3000) := (dcmp_sv hx hy (dyOk_e hx) (dyOk_e hy)).1
theorem dcmp_eq {x y : DyT} (hx : dyOkB x = true) (hy : dyOkB y = true) : dcmp x y = 0 ↔ x.sv (-3000) = y.sv (-3000) := (dcmp_sv hx hy (dyOk_e hx) (dyOk_e hy)).2
theorem dcmp_trans {x y z : DyT} (hx : dyOkB x = true) (hy : dyOkB y = true) (hz : dyOkB z = true) (h1 : dcmp x y ≤ 0) (h2 : dcmp y z ≤ 0) : dcmp x z ≤ 0 :=
  (dcmp_le hx hz).2 (Int.le_trans ((dcmp_le hx hy).1 h1) ((dcmp_le hy hz).1 h2))
end Go.Eng
