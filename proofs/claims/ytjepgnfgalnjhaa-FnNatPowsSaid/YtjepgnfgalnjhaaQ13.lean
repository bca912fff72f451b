/- The machine side of Go functions, written by a program of this session over the print of the translation. No conditions. -/
import Derived.Test.YtjepgnfgalnjhaaQ0
import Derived.Test.YtjepgnfgalnjhaaQ12
namespace Go.Proofs.Ytjepgnfgalnjhaa.Q
open Go.RowKit Go.Proofs.YtjepgnfgalnjhaaW.PrintWords Go.Proofs.YtjepgnfgalnjhaaW.PrintLast Go.Proofs.YtjepgnfgalnjhaaW.PrintMore
attribute [local go_sem] max2_int min2_int max_two min_two max_three min_three max_four min_four   -- for this text's walks alone
set_option linter.unusedVariables false
set_option linter.unusedSimpArgs false

/-! ### impl_NatOk: function 40 (by hand) -/
def limbB (x : Int) : Bool := decide (0 ≤ x) && decide (x ≤ 65535)
theorem limbB_no {x : Int} (h : 0 ≤ x) : limbB x = decide (x ≤ 65535) := by simp [limbB, h]
theorem limbB_neg {x : Int} (h : ¬ 0 ≤ x) : limbB x = false := by simp [limbB, h]
theorem impl_NatOk_1.calls (x : Int) (w : World) :
    Calls Try.prog 90 #[.int .i64 x] w fun e w' => e = .returned (.bool (limbB x)) ∧ Below w.heap.size w w' := by
  by_cases h0 : 0 ≤ x
  · rw [limbB_no h0]
    have b0 : decide (0 ≤ x) = true := decide_eq_true h0
    clear h0
    go_enter Try.func90, Try.ntmps90
    go_wp2_with go_in
    go_ret
    exact ⟨rfl, Below.refl _ _⟩
  · rw [limbB_neg h0]
    have b0 : decide (0 ≤ x) = false := decide_eq_false h0
    clear h0
    go_enter Try.func90, Try.ntmps90
    go_wp2_with go_in
    go_ret
    exact ⟨rfl, Below.refl _ _⟩
/-- Is a list of digits in its one form, and not too long? -/
def natOkB (l : List Int) : Bool := decide (l.length ≤ 100) && (l.all limbB && (decide (l.length = 0) || rd l ((l.length : Int) - 1) != 0))
def impl_NatOk.f (l0_0 : List Int) : Option (Bool) := some (natOkB l0_0)
set_option maxHeartbeats 4000000 in
set_option maxRecDepth 100000 in
theorem impl_NatOk.calls (A0_0 : Option Addr) (c0_0 : Nat) (l0_0 : List Int) (r : Bool) (w : World) (hr0_0 : Kd.C (Kd.int .i64) w A0_0 l0_0.length l0_0) (hc0_0 : l0_0.length ≤ c0_0) (h : impl_NatOk.f l0_0 = some r) :
    Calls Try.prog 40 #[.agg #[.slice A0_0 l0_0.length c0_0]] w fun e w' => e = .returned (.bool r) ∧ Below w.heap.size w w' := by
  obtain rfl := Option.some.inj h
  clear h
  have hu26 := Try.underlying26
  have hm : l0_0.length ≤ 9223372036854775807 := hr0_0.2.1
  have hB1 : Below w.heap.size w (w.alloc (.cells #[.slice A0_0 l0_0.length c0_0] 26)) := below_alloc (Below.refl _ _) _
  have HC := Aside0.mk (impl_areAll_int.calls limbB 90 A0_0 c0_0 l0_0 (w.alloc (.cells #[.slice A0_0 l0_0.length c0_0] 26)) (Kd.C_below hr0_0 hB1) (enters_of Try.func90 (by kernel_rfl) rfl) (fun W x => impl_NatOk_1.calls x W))
  have HB1 := Aside0.mk hB1
  have HR := Aside0.mk hr0_0
  clear hB1 hr0_0
  unfold natOkB
  by_cases c1 : l0_0.length ≤ 100
  · rw [decide_eq_true c1, Bool.true_and]
    have b1 : decide ((l0_0.length : Int) ≤ 100) = true := decide_eq_true (by omega)
    have b1' : decide (l0_0.length ≤ 100) = true := decide_eq_true (by omega)
    cases c2 : l0_0.all limbB with
    | false =>
      rw [Bool.false_and]
      rw [c2] at HC
      go_enter Try.func40, Try.ntmps40
      go_wp2_with (go_at_call 89; refine HC.out.mono ?_; rintro e w1 ⟨rfl, hb⟩; have HB := Aside0.mk (below_step HB1.out hb); clear hb)
      go_ret
      exact ⟨rfl, HB.out⟩
    | true =>
      rw [Bool.true_and]
      rw [c2] at HC
      by_cases c3 : l0_0.length = 0
      · have b3 : ((l0_0.length : Int) == 0) = true := beq_iff_eq.mpr (by omega)
        have b3' : (l0_0.length == 0) = true := beq_iff_eq.mpr c3
        rw [decide_eq_true c3, Bool.true_or]
        obtain rfl := List.eq_nil_of_length_eq_zero c3
        simp only [List.length_nil] at HC HB1 ⊢
        clear b3 b3' b1 b1' c3 hm hc0_0 c1
        go_enter Try.func40, Try.ntmps40
        go_wp2_with (go_at_call 89; refine HC.out.mono ?_; rintro e w1 ⟨rfl, hb⟩; have hcz : w1.cell? ⟨w.heap.size, 0, none⟩ = some (.slice A0_0 0 c0_0) := (hb.cell (p := ⟨w.heap.size, 0, none⟩) (by simp)).trans (by simp); have HB := Aside0.mk (below_step HB1.out hb); clear hb)
        go_ret
        exact ⟨rfl, HB.out⟩
      · have b3 : ((l0_0.length : Int) == 0) = false := beq_eq_false_iff_ne.mpr (by omega)
        have b3' : (l0_0.length == 0) = false := beq_eq_false_iff_ne.mpr c3
        rw [decide_eq_false c3, Bool.false_or]
        obtain ⟨ad, e0, hx⟩ := Kd.at_int HR.out ((l0_0.length : Int) - 1) (by omega) (by omega)
        cases e0
        rw [show ((l0_0.length : Int) - 1).toNat = l0_0.length - 1 by omega] at hx
        have HX := Aside0.mk hx
        clear hx
        have p1 : (0 : Int) ≤ (l0_0.length : Int) - 1 := by omega
        have p2 : (l0_0.length : Int) - 1 < (l0_0.length : Int) := by omega
        go_enter Try.func40, Try.ntmps40
        go_wp2_with (go_at_call 89; refine HC.out.mono ?_; rintro e w1 ⟨rfl, hb⟩; have hcz : w1.cell? ⟨w.heap.size, 0, none⟩ = some (.slice (some ad) l0_0.length c0_0) := (hb.cell (p := ⟨w.heap.size, 0, none⟩) (by simp)).trans (by simp); have HB := Aside0.mk (below_step HB1.out hb); have hx := (HB.out.cell (World.block_lt_of_cell? w _ HX.out)).trans HX.out; clear hb)
        go_ret
        exact ⟨rfl, HB.out⟩
  · rw [decide_eq_false c1, Bool.false_and]
    have b1 : decide ((l0_0.length : Int) ≤ 100) = false := decide_eq_false (by omega)
    have b1' : decide (l0_0.length ≤ 100) = false := decide_eq_false (by omega)
    go_enter Try.func40, Try.ntmps40
    go_wp2
    go_ret
    exact ⟨rfl, HB1.out⟩


end Go.Proofs.Ytjepgnfgalnjhaa.Q
