/- FnExactNatPow: its row: the law answers true whatever it is called with, and changes nothing that its caller holds. No conditions. -/
import Derived.Test.YtjepgnfgalnjhaaRows
import Derived.Test.YtjepgnfgalnjhaaQ63
import Derived.Test.YtjepgnfgalnjhaaOpen
import Derived.Test.YtjepgnfgalnjhaaPureFnExactNatPow
import Derived.WalkKit
import Derived.ProofKit
import Derived.OpenShut
import Derived.ShutString
import Derived.ChangeOld
import Derived.Below
import Derived.SizedLaws
namespace Go.Proofs.Ytjepgnfgalnjhaa.fnExactNatPow
open Go.ChangeShapes Go.WideShapes Go.ChangeAt Go.RowKit Go.Proofs.YtjepgnfgalnjhaaW.PrintWords
set_option linter.unusedVariables false
theorem own : ownKnob Try.prog.godebug = none := by kernel_rfl
theorem laidOut : laidOutB Try.prog = true := by kernel_rfl
set_option maxRecDepth 100000 in
theorem lifted (os : Os) (started : os.Started) (H : Type) (enc : TypeId × Value → H) :
    ReturnsInHanded {} Try.checked os 7 .any (Rows.fnExactNatPowSpec.pre6 enc Try.prog Try.f7 Rows.fnExactNatPowRow.domain false) (Rows.fnExactNatPowSpec.post enc Try.prog Try.f7 false true false false) := by
  refine returnsInHanded_of_change_sized (C := Try.checked) own started (by kernel_rfl) Try.func7
    (ChangeSpec.witness6 (enc := enc) (C := Try.checked) false ⟨#[], #[.agg #[.slice none 0 0], .int .i64 0], []⟩ 8 (by kernel_rfl) (by kernel_rfl) (by kernel_rfl) (by kernel_rfl)) ?_
  intro W base args ds gs before hval0 hW hcnd hsz0 _
  have hval : ∀ (j : Nat) t v, Try.f7.params[j]? = some t → args[j]? = some v → Value.okWide Try.prog W .any base t v := hval0
  have hW' := hW
  obtain ⟨p, q, hA0, hV, rfl, hfz, hnd⟩ := hW
  have hA : DataW.TrodAll enc Try.prog W 0 (fun _ => true) true Try.f7.params.toList args.toList ds p := hA0
  rw [Try.params7] at hA hval
  obtain ⟨v0, vs0, d0, ds0, p0, q0, hargs0, rfl, rfl, h0, r0⟩ := trodAll_cons hA
  obtain ⟨v1, vs1, d1, ds1, p1, q1, hargs1, rfl, rfl, h1, r1⟩ := trodAll_cons r0
  obtain ⟨rfl, rfl, rfl⟩ := trodAll_nil r1
  obtain rfl : args = #[v0, v1] := by cases args; simp_all
  obtain ⟨rfl, rfl⟩ := trodVars_none hV
  have k0 := h0
  have lt0 : ∀ x ∈ p0, x.block < W.heap.size := by obtain ⟨m, hm⟩ := k0; exact DataW.trod_lt m _ _ _ hm
  have k1 := h1
  have lt1 : ∀ x ∈ p1, x.block < W.heap.size := by obtain ⟨m, hm⟩ := k1; exact DataW.trod_lt m _ _ _ hm
  obtain ⟨cs0, rfl, hcs0⟩ := Op.arg (Op.struct1 Try.underlying24 (by kernel_rfl) rfl (Op.slice_ (Kd.int .i64) Try.underlying22 (by kernel_rfl) (Op.int_ Try.underlying3 (by kernel_rfl)) (fun W cs h => by obtain ⟨x, rfl, _⟩ := h; exact ⟨x, rfl⟩))) Try.underlying24 (hval 0 24 v0 rfl rfl) h0
  obtain ⟨A0_0, c0_0, l0_0, rfl, hc0_0, hr0_0⟩ := hcs0
  obtain ⟨a1, rfl⟩ := okWide_int Try.underlying3 (hval 1 3 v1 rfl rfl)
  have wf1 : (Lit.int .i64 a1).wf = true := by obtain ⟨fuel, hf⟩ := h1; obtain ⟨x, hx, hw⟩ := ((Op.int_ Try.underlying3 (by kernel_rfl)).2 hf).2; simp [Value.cells] at hx; subst hx; exact hw
  clear hA0 hval0 hsz0
  obtain ⟨k, hk⟩ := ExP.FnExactNatPow_ev l0_0 a1 hr0_0.2.1 wf1
  have h := hk k (Nat.le_refl k)
  refine (Q.laws_FnExactNatPow.calls k A0_0 c0_0 l0_0 a1 true W hr0_0 hc0_0 h).mono fun e W' ⟨he, bel⟩ => ?_
  subst he
  exact ⟨_, rfl, _, _, _, [], _, [], hW', trodAll_mk1 (shut_bool Try.underlying4 _), (trodAll_cons_mk (Below.trod laidOut (by kernel_rfl) (of_decide_eq_true (by kernel_rfl)) k0 bel lt0) (trodAll_cons_mk (Below.trod laidOut (by kernel_rfl) (of_decide_eq_true (by kernel_rfl)) k1 bel lt1) trodAll_mk0)), rfl, bel.frame _, fun h => by cases h⟩
theorem over : Rows.fnExactNatPowRow.holds Try.pinned (OpenSpec.ofChange Rows.fnExactNatPowSpec) :=
  OpenClaim.holds_of_wide 7 Try.f7 rfl rfl rfl rfl rfl rfl rfl ⟨rfl, rfl, rfl, rfl, rfl⟩ rfl rfl rfl rfl rfl (by kernel_rfl) Try.func7 (by kernel_rfl)
    (of_decide_eq_true (by kernel_rfl)) (by unfold Func.isWrapper; first | (rw [if_pos (by decide +kernel)]; kernel_rfl) | (rw [if_neg (by decide +kernel)]; exact ⟨rfl, rfl⟩))
    (fun os started H enc _ => lifted os started H enc)
theorem proved : Rows.FnExactNatPowSaid := over
#print axioms proved
end Go.Proofs.Ytjepgnfgalnjhaa.fnExactNatPow
namespace Go.Proofs.Ytjepgnfgalnjhaa
/-- The row, under a short name, for the claim. -/
theorem fnExactNatPow_holds : Rows.FnExactNatPowSaid := fnExactNatPow.proved
end Go.Proofs.Ytjepgnfgalnjhaa
