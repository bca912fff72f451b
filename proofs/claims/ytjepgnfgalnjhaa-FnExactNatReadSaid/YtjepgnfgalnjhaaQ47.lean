/- The machine side of Go functions, written by a program of this session over the print of the translation. No conditions. -/
import Derived.Test.YtjepgnfgalnjhaaQ0
import Derived.Test.YtjepgnfgalnjhaaQ46
namespace Go.Proofs.Ytjepgnfgalnjhaa.Q
open Go.RowKit Go.Proofs.YtjepgnfgalnjhaaW.PrintWords Go.Proofs.YtjepgnfgalnjhaaW.PrintLast Go.Proofs.YtjepgnfgalnjhaaW.PrintMore
attribute [local go_sem] max2_int min2_int max_two min_two max_three min_three max_four min_four   -- for this text's walks alone
set_option linter.unusedVariables false
set_option linter.unusedSimpArgs false

/-! ### slices_ContainsFunc_byte_byte: function 121 (by hand) -/
theorem slices_ContainsFunc_byte_byte.calls (p : Int → Bool) (g : Nat) (lb : Array Value) (A0 : Option Addr) (c0 : Nat) (l0 : List Int) (w : World) (hr0 : Kd.C (Kd.int .u8) w A0 l0.length l0)
    (eg : ∀ args w, (callFunc g args).run Try.prog w = .ok (.enter g args) w)
    (hp : ∀ W x, Below w.heap.size w W → Calls Try.prog g (#[.int .u8 x] ++ lb) W fun e W' => e = .returned (.bool (p x)) ∧ Below W.heap.size W W') :
    Calls Try.prog 121 #[.slice A0 l0.length c0, .func (.func g) #[] lb] w fun e w' => e = .returned (.bool (l0.any p)) ∧ Below w.heap.size w w' := by
  have HC := Aside0.mk (slices_IndexFunc_byte_byte.calls p g lb A0 c0 l0 w hr0 eg hp)
  clear hp hr0
  go_enter Try.func121, Try.ntmps121
  go_wp2_with (go_at_call 126; refine HC.out.mono ?_; rintro e w1 ⟨⟨i, rfl, hi⟩, hb⟩; have HI := Aside0.mk hi; have HB := Aside0.mk hb; clear hi hb)
  go_ret
  refine ⟨?_, HB.out⟩
  rw [← HI.out]
  rfl


end Go.Proofs.Ytjepgnfgalnjhaa.Q
