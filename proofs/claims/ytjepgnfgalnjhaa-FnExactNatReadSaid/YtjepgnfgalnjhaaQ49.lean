/- The machine side of Go functions, written by a program of this session over the print of the translation. No conditions. -/
import Derived.Test.YtjepgnfgalnjhaaQ0
import Derived.Test.YtjepgnfgalnjhaaQ48
namespace Go.Proofs.Ytjepgnfgalnjhaa.Q
open Go.RowKit Go.Proofs.YtjepgnfgalnjhaaW.PrintWords Go.Proofs.YtjepgnfgalnjhaaW.PrintLast Go.Proofs.YtjepgnfgalnjhaaW.PrintMore
attribute [local go_sem] max2_int min2_int max_two min_two max_three min_three max_four min_four   -- for this text's walks alone
set_option linter.unusedVariables false
set_option linter.unusedSimpArgs false

/-! ### impl_areDigits: function 79 (by hand) -/
def digB (x : Int) : Bool := decide (48 ≤ x) && decide (x ≤ 57)
theorem digB_no {x : Int} (h : 48 ≤ x) : digB x = decide (x ≤ 57) := by simp [digB, h]
theorem digB_neg {x : Int} (h : ¬ 48 ≤ x) : digB x = false := by simp [digB, h]
theorem impl_areDigits_1.calls (x : Int) (w : World) :
    Calls Try.prog 109 #[.int .u8 x] w fun e w' => e = .returned (.bool (digB x)) ∧ Below w.heap.size w w' := by
  by_cases h0 : 48 ≤ x
  · rw [digB_no h0]
    have b0 : decide (48 ≤ x) = true := decide_eq_true h0
    clear h0
    go_enter Try.func109, Try.ntmps109
    go_wp2
    go_ret
    exact ⟨rfl, Below.refl _ _⟩
  · rw [digB_neg h0]
    have b0 : decide (48 ≤ x) = false := decide_eq_false h0
    clear h0
    go_enter Try.func109, Try.ntmps109
    go_wp2
    go_ret
    exact ⟨rfl, Below.refl _ _⟩
def digitsB (l : List Int) : Bool := decide (0 < l.length) && l.all digB
def impl_areDigits.f (l0 : List Int) : Option (Bool) := some (digitsB l0)
set_option maxHeartbeats 4000000 in
theorem impl_areDigits.calls (A0 : Option Addr) (c0 : Nat) (l0 : List Int) (r : Bool) (w : World) (hr0 : Kd.C (Kd.int .u8) w A0 l0.length l0) (hc0 : l0.length ≤ c0) (h : impl_areDigits.f l0 = some r) :
    Calls Try.prog 79 #[.slice A0 l0.length c0] w fun e w' => e = .returned (.bool r) ∧ Below w.heap.size w w' := by
  obtain rfl := Option.some.inj h
  clear h
  have HC := Aside0.mk (impl_areAll_byte.calls digB 109 A0 c0 l0 w hr0 (enters_of Try.func109 (by kernel_rfl) rfl) (fun W x => impl_areDigits_1.calls x W))
  clear hr0 hc0
  unfold digitsB
  by_cases c1 : 0 < l0.length
  · rw [decide_eq_true c1, Bool.true_and]
    have b1 : decide (0 < (l0.length : Int)) = true := decide_eq_true (by omega)
    have b1' : decide (0 < l0.length) = true := decide_eq_true c1
    clear c1
    go_enter Try.func79, Try.ntmps79
    go_wp2_with (go_at_call 108; refine HC.out.mono ?_; rintro e w1 ⟨rfl, hb⟩; have HB := Aside0.mk hb; clear hb)
    go_ret
    exact ⟨rfl, HB.out⟩
  · rw [decide_eq_false c1, Bool.false_and]
    have b1 : decide (0 < (l0.length : Int)) = false := decide_eq_false (by omega)
    have b1' : decide (0 < l0.length) = false := decide_eq_false c1
    clear c1
    go_enter Try.func79, Try.ntmps79
    go_wp2
    go_ret
    exact ⟨rfl, Below.refl _ _⟩


end Go.Proofs.Ytjepgnfgalnjhaa.Q
