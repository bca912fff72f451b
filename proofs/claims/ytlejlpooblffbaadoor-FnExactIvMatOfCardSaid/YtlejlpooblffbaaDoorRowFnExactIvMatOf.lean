/- FnExactIvMatOf: its row: the law answers true whatever it is called with, and changes nothing that its caller holds. No conditions. -/
import Derived.Test.YtlejlpooblffbaaDoorRows
import Derived.Test.YtlejlpooblffbaaDoorLIvMatOf
import Derived.Test.YtlejlpooblffbaaDoorCloneV
import Derived.Test.YtlejlpooblffbaaDoorTie
import Derived.Test.YtlejlpooblffbaaDoorCards
import Derived.Test.YtlejlpooblffbaaDoorVb
import Derived.Stop.Joined
import Derived.LaidOnce
import Derived.WalkKit
import Derived.ProofKit
import Derived.OpenShut
import Derived.ShutString
import Derived.ChangeOld
import Derived.Below
import Derived.SizedLaws
import Derived.ChangeSlices
import Derived.ChangeShapes
import Derived.ChangeAt
import Derived.WideShapes
import Derived.RowKit
import Derived.KernelRfl
set_option linter.unusedVariables false
set_option linter.unusedSimpArgs false
namespace Go.Proofs.YtlejlpooblffbaaDoor.fnExactIvMatOf
open Go.ChangeShapes Go.WideShapes Go.ChangeAt Go.RowKit Go.Eng
set_option linter.unusedVariables false
theorem own : ownKnob Tryd.prog.godebug = none := by kernel_rfl
theorem laidOut : laidOutB Tryd.prog = true := by kernel_rfl
theorem mixed : Tryd.prog.follows .mixedOrders = true := by kernel_rfl
def tab0 : List Int := [0, 1, 28, 2, 29, 14, 24, 3, 30, 22, 20, 15, 25, 17, 4, 8, 31, 27, 13, 23, 21, 19, 16, 7, 26, 12, 18, 6, 11, 5, 10, 9]
theorem gn0 : Tryd.prog.globalNamed "math/bits.deBruijn32tab" = some 0 := by kernel_rfl
theorem gt0 : (Tryd.prog.globals[0]?).map (·.type) = some 162 := by kernel_rfl
theorem gv0 : globT0 = tab0.map (.int .u8) := rfl
def tab1 : List Int := [0, 1, 56, 2, 57, 49, 28, 3, 61, 58, 42, 50, 38, 29, 17, 4, 62, 47, 59, 36, 45, 43, 51, 22, 53, 39, 33, 30, 24, 18, 12, 5, 63, 55, 48, 27, 60, 41, 37, 16, 46, 35, 44, 21, 52, 32, 23, 11, 54, 26, 40, 15, 34, 20, 31, 10, 25, 14, 19, 9, 13, 8, 7, 6]
theorem gn1 : Tryd.prog.globalNamed "math/bits.deBruijn64tab" = some 1 := by kernel_rfl
theorem gt1 : (Tryd.prog.globals[1]?).map (·.type) = some 163 := by kernel_rfl
theorem gv1 : globT1 = tab1.map (.int .u8) := rfl
abbrev laidL : List (String × DataW Unit) := Rows.fnExactIvMatOfRow.laid
theorem door_met (os : Os) (args : Array Value) : laidMetH Tryd.prog laidL ((World.doorLaid Tryd.prog 400 os).forCall (fun _ _ => 0) ⟨#[], args, []⟩).memory :=
  laidMetH_of_parts3 (fuel := 8) (laidMet_of_run' 8 (by kernel_rfl) (by kernel_rfl)) (by kernel_rfl) (by kernel_rfl)
theorem tabs {W : World} (h : laidMetH Tryd.prog laidL W) : ∃ μ, Laid cf μ W [.ints .u8 tab0, .ints .u8 tab1] := by
  rw [MakeChecks.laidMetH_plain _ _ _ (by kernel_rfl)] at h
  obtain ⟨ps, ⟨g0, t0, cs0, f0, p0, q0, hg0, ht0, hv0, hd0, ⟨g1, t1, cs1, f1, p1, q1, hg1, ht1, hv1, hd1, _, _⟩, _⟩, _, _⟩ := h
  obtain rfl := Option.some.inj (gn0.symm.trans hg0)
  obtain rfl := Option.some.inj (gt0.symm.trans ht0)
  obtain rfl := Option.some.inj (gn1.symm.trans hg1)
  obtain rfl := Option.some.inj (gt1.symm.trans ht1)
  exact ⟨_, laid2 (fun g c hc => by
    have hc : (match (generalizing := false) g with | 0 => some (CV.ptr 0 0) | 1 => some (CV.ptr 1 0) | _ => none) = some c := hc
    split at hc
    · exact .inl ⟨rfl, by cases hc; rfl⟩
    · exact .inr ⟨rfl, by cases hc; rfl⟩
    · cases hc)
    (tab_heap (zs := tab0) gn0 Tryd.underlying162 Tryd.underlying5 (by kernel_rfl) (by kernel_rfl) hv0 hd0) (tab_heap (zs := tab1) gn1 Tryd.underlying163 Tryd.underlying5 (by kernel_rfl) (by kernel_rfl) hv1 hd1)⟩
theorem wfG : WfG cf 2 := fun g c hc => by
  have hc : (match (generalizing := false) g with | 0 => some (CV.ptr 0 0) | 1 => some (CV.ptr 1 0) | _ => none) = some c := hc
  split at hc
  · cases hc; rfl
  · cases hc; rfl
  · cases hc
theorem hG : ∀ g v, kn.glob g = some v → ∃ c, kn.cf.glob g = some c ∧ VR (Lt [.ints .u8 tab0, .ints .u8 tab1]) [.ints .u8 tab0, .ints .u8 tab1] (fun _ => Option.none) v c := fun g v hv => by
  have hv : (match (generalizing := false) g with | 0 => some (V.fptr globT0) | 1 => some (V.fptr globT1) | _ => none) = some v := hv
  split at hv
  · cases hv; exact ⟨.ptr 0 0, rfl, by rw [gv0]; exact vr_tab rfl⟩
  · cases hv; exact ⟨.ptr 1 0, rfl, by rw [gv1]; exact vr_tab rfl⟩
  · cases hv
set_option maxRecDepth 100000 in
theorem lifted (os : Os) (started : os.Started) (H : Type) (enc : TypeId × Value → H) :
    ReturnsInHanded {} Tryd.checked os 8 .any (fun w args => (Rows.fnExactIvMatOfSpec.pre enc Tryd.prog Tryd.f8 [] false w args ∧ laidMetH Tryd.prog laidL w) ∧ sizedMet enc Tryd.prog Tryd.f8 (OpenSpec.ofChange Rows.fnExactIvMatOfSpec) false w args) (Rows.fnExactIvMatOfSpec.post enc Tryd.prog Tryd.f8 false true false false) := by
  refine returnsInHanded_of_change_and (C := Tryd.checked) (X := fun w _ => laidMetH Tryd.prog laidL w) (fun _ _ _ hh h => h.of_heap hh) own started (by kernel_rfl) Tryd.func8
    (ChangeSpec.witness_shaped (enc := enc) (C := Tryd.checked) (os := os) (X := fun w _ => laidMetH Tryd.prog laidL w) false (World.doorLaid Tryd.prog 400 os) #[.agg #[.int .i64 0, .slice none 0 0]] 8 rfl (World.shaped_of_RefB (by kernel_rfl) (by kernel_rfl)) (by kernel_rfl) (by kernel_rfl) (by kernel_rfl) (door_met os _)) ?_
  intro W base args ds gs before hval0 hW hcnd hsz0 hL _
  have hval : ∀ (j : Nat) t v, Tryd.f8.params[j]? = some t → args[j]? = some v → Value.okWide Tryd.prog W .any base t v := hval0
  have hW' := hW
  obtain ⟨p, q, hA0, hV, rfl, hfz, hnd⟩ := hW
  have hA : DataW.TrodAll enc Tryd.prog W 0 (fun _ => true) true Tryd.f8.params.toList args.toList ds p := hA0
  rw [Tryd.params8] at hA hval
  obtain ⟨v0, vs0, d0, ds0, p0, q0, hargs0, rfl, rfl, h0, r0⟩ := trodAll_cons hA
  obtain ⟨rfl, rfl, rfl⟩ := trodAll_nil r0
  obtain rfl : args = #[v0] := by cases args; simp_all
  obtain ⟨rfl, rfl⟩ := trodVars_none hV
  have k0 := h0
  have lt0 : ∀ x ∈ p0, x.block < W.heap.size := by obtain ⟨m, hm⟩ := k0; exact DataW.trod_lt m _ _ _ hm
  obtain ⟨_, ⟨N0, ds0, rfl, hN0, hl0, hr0⟩, wa0⟩ := opMat.arg Tryd.underlying24 (hval 0 24 v0 rfl rfl) h0
  clear hA0 hval0 hsz0
  obtain ⟨μL, hLd⟩ := tabs hL
  refine (law_v (P := Tryd.prog) (K := kn) mixed static clones kept hLd wfG hG (cs := [v0]) (WAs.cons wa0 WAs.nil) (FnExactIvMatOf_v 0 hN0 hl0 hr0)).mono fun e W' ⟨he, bel⟩ => ?_
  subst he
  exact ⟨_, rfl, _, _, _, [], _, [], hW', trodAll_mk1 (shut_bool Tryd.underlying4 _), (trodAll_cons_mk (Below.trod laidOut (by kernel_rfl) (of_decide_eq_true (by kernel_rfl)) k0 bel lt0) trodAll_mk0), rfl, bel.frame _, fun h => by cases h⟩
theorem over : Rows.fnExactIvMatOfRow.holds Tryd.pinned (OpenSpec.ofChange Rows.fnExactIvMatOfSpec) :=
  OpenClaim.holds_of_wide 8 Tryd.f8 rfl rfl rfl rfl rfl rfl rfl ⟨rfl, rfl, rfl, rfl, rfl⟩ rfl rfl rfl rfl rfl (by kernel_rfl) Tryd.func8 (by kernel_rfl)
    (of_decide_eq_true (by kernel_rfl)) (by unfold Func.isWrapper; first | (rw [if_pos (by decide +kernel)]; kernel_rfl) | (rw [if_neg (by decide +kernel)]; exact ⟨rfl, rfl⟩))
    (fun os started H enc _ => lifted os started H enc)
theorem card_holds : Rows.FnExactIvMatOfCardSaid :=
  Claim7.holds_tied_plain_at .later [] [.data, .data] true (true, "74589b33328ec2a5188a86b9e251139f1afdb9b5f741d39dc290bc48daa41797") false
    over (fun _ h => by cases h) (by kernel_rfl) (fun _ h => by cases h) fnExactIvMatOf_row_tie rfl ⟨rfl, rfl⟩ (by kernel_rfl) rfl
    (fun f fn hf hfn => by
      obtain rfl : f = 8 := Option.some.inj ((show Tryd.prog.funcNamed "loop.example/g00382/laws.FnExactIvMatOf" = some 8 by kernel_rfl).symm.trans hf) |>.symm
      obtain rfl : fn = Tryd.f8 := (Option.some.inj (Tryd.func8.symm.trans hfn)).symm
      refine ⟨by kernel_rfl, fun j t ht => ?_⟩
      rw [Tryd.params8] at ht
      have h3 : t ∈ ([24] : List TypeId) := by simpa using Array.mem_of_getElem? ht
      have hall : ([24] : List TypeId).all (fun t => Tryd.prog.wantsStandIn t == false) = true := by kernel_rfl
      exact eq_of_beq (List.all_eq_true.1 hall t h3))
    (by kernel_rfl)
#print axioms card_holds
end Go.Proofs.YtlejlpooblffbaaDoor.fnExactIvMatOf
namespace Go.Proofs.YtlejlpooblffbaaDoor
/-- The card, under a short name, for the claim. -/
theorem fnExactIvMatOf_card : Rows.FnExactIvMatOfCardSaid := fnExactIvMatOf.card_holds
end Go.Proofs.YtlejlpooblffbaaDoor
