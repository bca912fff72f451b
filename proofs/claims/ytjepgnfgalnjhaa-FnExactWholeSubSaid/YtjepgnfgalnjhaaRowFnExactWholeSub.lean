/- FnExactWholeSub: its row: the law answers true whatever it is called with, and changes nothing that its caller holds. No conditions. -/
import Derived.Test.YtjepgnfgalnjhaaRows
import Derived.Test.YtjepgnfgalnjhaaQ116
import Derived.Test.YtjepgnfgalnjhaaOpen
import Derived.Test.YtjepgnfgalnjhaaPureFnExactWholeSub
import Derived.WalkKit
import Derived.ProofKit
import Derived.OpenShut
import Derived.ShutString
import Derived.ChangeOld
import Derived.Below
import Derived.SizedLaws
namespace Go.Proofs.Ytjepgnfgalnjhaa.fnExactWholeSub
open Go.ChangeShapes Go.WideShapes Go.ChangeAt Go.RowKit Go.Proofs.YtjepgnfgalnjhaaW.PrintWords
set_option linter.unusedVariables false
theorem own : ownKnob Try.prog.godebug = none := by kernel_rfl
theorem laidOut : laidOutB Try.prog = true := by kernel_rfl
set_option maxRecDepth 100000 in
theorem lifted (os : Os) (started : os.Started) (H : Type) (enc : TypeId × Value → H) :
    ReturnsInHanded {} Try.checked os 13 .any (Rows.fnExactWholeSubSpec.pre6 enc Try.prog Try.f13 Rows.fnExactWholeSubRow.domain false) (Rows.fnExactWholeSubSpec.post enc Try.prog Try.f13 false true false false) := by
  refine returnsInHanded_of_change_sized (C := Try.checked) own started (by kernel_rfl) Try.func13
    (ChangeSpec.witness6 (enc := enc) (C := Try.checked) false ⟨#[], #[.agg #[.bool false, .slice none 0 0], .agg #[.bool false, .slice none 0 0]], []⟩ 8 (by kernel_rfl) (by kernel_rfl) (by kernel_rfl) (by kernel_rfl)) ?_
  intro W base args ds gs before hval0 hW hcnd hsz0 _
  have hval : ∀ (j : Nat) t v, Try.f13.params[j]? = some t → args[j]? = some v → Value.okWide Try.prog W .any base t v := hval0
  have hW' := hW
  obtain ⟨p, q, hA0, hV, rfl, hfz, hnd⟩ := hW
  have hA : DataW.TrodAll enc Try.prog W 0 (fun _ => true) true Try.f13.params.toList args.toList ds p := hA0
  rw [Try.params13] at hA hval
  obtain ⟨v0, vs0, d0, ds0, p0, q0, hargs0, rfl, rfl, h0, r0⟩ := trodAll_cons hA
  obtain ⟨v1, vs1, d1, ds1, p1, q1, hargs1, rfl, rfl, h1, r1⟩ := trodAll_cons r0
  obtain ⟨rfl, rfl, rfl⟩ := trodAll_nil r1
  obtain rfl : args = #[v0, v1] := by cases args; simp_all
  obtain ⟨rfl, rfl⟩ := trodVars_none hV
  have k0 := h0
  have lt0 : ∀ x ∈ p0, x.block < W.heap.size := by obtain ⟨m, hm⟩ := k0; exact DataW.trod_lt m _ _ _ hm
  have k1 := h1
  have lt1 : ∀ x ∈ p1, x.block < W.heap.size := by obtain ⟨m, hm⟩ := k1; exact DataW.trod_lt m _ _ _ hm
  obtain ⟨cs0, rfl, hcs0⟩ := Op.arg (Op.struct2 Try.underlying56 (by kernel_rfl) rfl rfl (Op.bool_ Try.underlying4 (by kernel_rfl)) (Op.struct1 Try.underlying24 (by kernel_rfl) rfl (Op.slice_ (Kd.int .i64) Try.underlying22 (by kernel_rfl) (Op.int_ Try.underlying3 (by kernel_rfl)) (fun W cs h => by obtain ⟨x, rfl, _⟩ := h; exact ⟨x, rfl⟩)))) Try.underlying56 (hval 0 56 v0 rfl rfl) h0
  obtain ⟨cs0_0, cs0_1, rfl, hs0_0, hs0_1⟩ := hcs0
  obtain ⟨a0_0, rfl⟩ := hs0_0
  obtain ⟨A0_1, c0_1, l0_1, rfl, hc0_1, hr0_1⟩ := hs0_1
  obtain ⟨cs1, rfl, hcs1⟩ := Op.arg (Op.struct2 Try.underlying56 (by kernel_rfl) rfl rfl (Op.bool_ Try.underlying4 (by kernel_rfl)) (Op.struct1 Try.underlying24 (by kernel_rfl) rfl (Op.slice_ (Kd.int .i64) Try.underlying22 (by kernel_rfl) (Op.int_ Try.underlying3 (by kernel_rfl)) (fun W cs h => by obtain ⟨x, rfl, _⟩ := h; exact ⟨x, rfl⟩)))) Try.underlying56 (hval 1 56 v1 rfl rfl) h1
  obtain ⟨cs1_0, cs1_1, rfl, hs1_0, hs1_1⟩ := hcs1
  obtain ⟨a1_0, rfl⟩ := hs1_0
  obtain ⟨A1_1, c1_1, l1_1, rfl, hc1_1, hr1_1⟩ := hs1_1
  clear hA0 hval0 hsz0
  obtain ⟨k, hk⟩ := ExW.FnExactWholeSub_ev a0_0 l0_1 a1_0 l1_1 hr0_1.2.1 hr1_1.2.1
  have h := hk k (Nat.le_refl k)
  refine (Q.laws_FnExactWholeSub.calls k a0_0 A0_1 c0_1 l0_1 a1_0 A1_1 c1_1 l1_1 true W hr0_1 hc0_1 hr1_1 hc1_1 h).mono fun e W' ⟨he, bel⟩ => ?_
  subst he
  exact ⟨_, rfl, _, _, _, [], _, [], hW', trodAll_mk1 (shut_bool Try.underlying4 _), (trodAll_cons_mk (Below.trod laidOut (by kernel_rfl) (of_decide_eq_true (by kernel_rfl)) k0 bel lt0) (trodAll_cons_mk (Below.trod laidOut (by kernel_rfl) (of_decide_eq_true (by kernel_rfl)) k1 bel lt1) trodAll_mk0)), rfl, bel.frame _, fun h => by cases h⟩
theorem over : Rows.fnExactWholeSubRow.holds Try.pinned (OpenSpec.ofChange Rows.fnExactWholeSubSpec) :=
  OpenClaim.holds_of_wide 13 Try.f13 rfl rfl rfl rfl rfl rfl rfl ⟨rfl, rfl, rfl, rfl, rfl⟩ rfl rfl rfl rfl rfl (by kernel_rfl) Try.func13 (by kernel_rfl)
    (of_decide_eq_true (by kernel_rfl)) (by unfold Func.isWrapper; first | (rw [if_pos (by decide +kernel)]; kernel_rfl) | (rw [if_neg (by decide +kernel)]; exact ⟨rfl, rfl⟩))
    (fun os started H enc _ => lifted os started H enc)
theorem proved : Rows.FnExactWholeSubSaid := over
#print axioms proved
end Go.Proofs.Ytjepgnfgalnjhaa.fnExactWholeSub
namespace Go.Proofs.Ytjepgnfgalnjhaa
/-- The row, under a short name, for the claim. -/
theorem fnExactWholeSub_holds : Rows.FnExactWholeSubSaid := fnExactWholeSub.proved
end Go.Proofs.Ytjepgnfgalnjhaa
