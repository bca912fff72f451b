/- How arguments that are read as data are told by the print's kinds: integers, bools, slices, structs, by their types. No conditions. -/
import Derived.Test.YtjepgnfgalnjhaaWWords
import Derived.ChangeArms
import Derived.WideShapes
import Derived.DataReads
set_option linter.unusedVariables false
set_option linter.unusedSimpArgs false
namespace Go.Proofs.YtjepgnfgalnjhaaW.PrintWords
open Go.RowKit Go.WideShapes
section
variable {P : Program}
/-- What reads as data of type t has n cells, and is told by R. -/
def Op (P : Program) (t : TypeId) (n : Nat) (R : World → List Value → Prop) : Prop :=
  P.cellsOf t = n ∧ ∀ {H : Type} {enc : TypeId × Value → H} {W : World} {spare : Nat → Bool} {held : Bool} {fuel : Nat} {cs : List Value} {y : DataW H × List MemPlace}, DataW.trod enc P W 0 spare held fuel t cs = some y → cs.length = n ∧ R W cs
theorem Op.imp_ {t n : Nat} {R R' : World → List Value → Prop} (h : Op P t n R) (hR : ∀ W cs, R W cs → R' W cs) : Op P t n R' :=
  ⟨h.1, fun hy => ⟨(h.2 hy).1, hR _ _ (h.2 hy).2⟩⟩
theorem Op.int_ {t : TypeId} {k : IntKind} (ht : P.underlying t = some (.int k)) (hc : P.cellsOf t = 1) : Op P t 1 (fun _ cs => ∃ x : Int, cs = [.int k x] ∧ (Lit.int k x).wf = true) := by
  refine ⟨hc, fun {H enc W spare held fuel cs y} h => ?_⟩
  cases fuel with
  | zero => simp [DataW.trod] at h
  | succ n =>
    unfold DataW.trod at h
    rw [ht] at h
    split at h <;> simp_all
theorem Op.bool_ {t : TypeId} (ht : P.underlying t = some .bool) (hc : P.cellsOf t = 1) : Op P t 1 (fun _ cs => ∃ x : Bool, cs = [.bool x]) := by
  refine ⟨hc, fun {H enc W spare held fuel cs y} h => ?_⟩
  cases fuel with
  | zero => simp [DataW.trod] at h
  | succ n =>
    unfold DataW.trod at h
    rw [ht] at h
    split at h <;> simp_all
theorem Op.slice_ {α : Type} {t e : TypeId} (d : Kd α) {R : World → List Value → Prop} (ht : P.underlying t = some (.slice e)) (hc : P.cellsOf t = 1) (he : Op P e d.sz R) (hd : ∀ W cs, R W cs → ∃ x, d.K W x cs) :
    Op P t 1 (fun W cs => ∃ (A : Option Addr) (c : Nat) (xs : List α), cs = [.slice A xs.length c] ∧ xs.length ≤ c ∧ d.C W A xs.length xs) := by
  refine ⟨hc, fun {H enc W spare held fuel cs y} h => ?_⟩
  rcases DataW.trod_slice ht h with ⟨rfl, _⟩ | ⟨a, len, cap, elems, rest, n, _, rfl, _, _, hl, hm, hlen, hel, _, _⟩
  · exact ⟨rfl, none, 0, [], rfl, Nat.le_refl _, rfl, by simp, fun hp => absurd hp (by simp)⟩
  · refine ⟨rfl, ?_⟩
    have each : ∀ i, i < len → ∃ x : α, ∃ c : List Value, c.length = d.sz ∧ d.K W x c ∧ ∀ j u, c[j]? = some u → W.cell? (a.add (i * d.sz + j)) = some u := by
      intro i hi
      have h1 := hel i hi
      rw [List.getElem?_eq_getElem (by omega)] at h1
      obtain ⟨c, hc1, hc2⟩ := Option.bind_eq_some_iff.1 h1
      obtain ⟨hcl, hR⟩ := he.2 hc2
      obtain ⟨x, hx⟩ := hd _ _ hR
      rw [he.1] at hc1
      refine ⟨x, c, hcl, hx, fun j u hu => ?_⟩
      have h2 := World.cells?_some hc1
      have hj := (List.getElem?_eq_some_iff.1 hu).1
      have h3 := h2.2.2 j (by omega)
      rw [hu] at h3
      rw [← h3]
      congr 1
      by_cases e1 : i * d.sz = 0 <;> by_cases e2 : j = 0 <;> simp [Addr.add, Nat.add_assoc, e1, e2]
    have hm' : len ≤ 9223372036854775807 := by simp only [maxLen] at hm; omega
    refine ⟨some a, cap, List.ofFn (fun i : Fin len => Classical.choose (each i.1 i.2)), by simp, by simpa using hl, by simp, by simpa using hm', fun _ => ⟨a, rfl, fun j p hj => ?_⟩⟩
    obtain ⟨hjl, hp⟩ := List.getElem?_eq_some_iff.1 hj
    have hjl' : j < len := by simpa using hjl
    have hp' : Classical.choose (each j hjl') = p := by simpa using hp
    rw [← hp']
    exact Classical.choose_spec (each j hjl')
/-- The fields of a struct. -/
theorem Op.struct1 {t n0 : Nat} {f0 : Field} {R0 : World → List Value → Prop} (ht : P.underlying t = some (.struct #[f0])) (hc : P.cellsOf t = n0) (h0 : f0.offset = 0) (o0 : Op P f0.type n0 R0) : Op P t n0 R0 := by
  refine ⟨hc, fun {H enc W spare held fuel cs y} h => ?_⟩
  obtain ⟨xs, n, _, _, hl, hx, hf⟩ := DataW.trod_struct ht h
  rw [hc] at hl
  have h1 := hf 0 f0 rfl
  rw [h0, o0.1, List.drop_zero, List.take_of_length_le (by omega), List.getElem?_eq_getElem (by simp [hx])] at h1
  exact o0.2 h1
theorem Op.struct2 {t n0 n1 : Nat} {f0 f1 : Field} {R0 R1 : World → List Value → Prop} (ht : P.underlying t = some (.struct #[f0, f1])) (hc : P.cellsOf t = n0 + n1) (h0 : f0.offset = 0) (h1 : f1.offset = n0) (o0 : Op P f0.type n0 R0) (o1 : Op P f1.type n1 R1) :
    Op P t (n0 + n1) (fun W cs => ∃ c0 c1, cs = c0 ++ c1 ∧ R0 W c0 ∧ R1 W c1) := by
  refine ⟨hc, fun {H enc W spare held fuel cs y} h => ?_⟩
  obtain ⟨xs, n, _, _, hl, hx, hf⟩ := DataW.trod_struct ht h
  rw [hc] at hl
  have g0 := hf 0 f0 rfl
  have g1 := hf 1 f1 rfl
  rw [h0, o0.1, List.drop_zero, List.getElem?_eq_getElem (by simp [hx])] at g0
  rw [h1, o1.1, List.take_of_length_le (by rw [List.length_drop]; omega), List.getElem?_eq_getElem (by simp [hx])] at g1
  exact ⟨hl, _, _, (List.take_append_drop n0 cs).symm, (o0.2 g0).2, (o1.2 g1).2⟩
theorem Op.struct3 {t n0 n1 n2 : Nat} {f0 f1 f2 : Field} {R0 R1 R2 : World → List Value → Prop} (ht : P.underlying t = some (.struct #[f0, f1, f2])) (hc : P.cellsOf t = n0 + (n1 + n2)) (h0 : f0.offset = 0) (h1 : f1.offset = n0) (h2 : f2.offset = n0 + n1) (o0 : Op P f0.type n0 R0) (o1 : Op P f1.type n1 R1) (o2 : Op P f2.type n2 R2) :
    Op P t (n0 + (n1 + n2)) (fun W cs => ∃ c0 c1 c2, cs = c0 ++ (c1 ++ c2) ∧ R0 W c0 ∧ R1 W c1 ∧ R2 W c2) := by
  refine ⟨hc, fun {H enc W spare held fuel cs y} h => ?_⟩
  obtain ⟨xs, n, _, _, hl, hx, hf⟩ := DataW.trod_struct ht h
  rw [hc] at hl
  have g0 := hf 0 f0 rfl
  have g1 := hf 1 f1 rfl
  have g2 := hf 2 f2 rfl
  rw [h0, o0.1, List.drop_zero, List.getElem?_eq_getElem (by simp [hx])] at g0
  rw [h1, o1.1, List.getElem?_eq_getElem (by simp [hx])] at g1
  rw [h2, o2.1, List.take_of_length_le (by rw [List.length_drop]; omega), List.getElem?_eq_getElem (by simp [hx])] at g2
  refine ⟨hl, _, _, _, ?_, (o0.2 g0).2, (o1.2 g1).2, (o2.2 g2).2⟩
  rw [← List.drop_drop, List.take_append_drop, List.take_append_drop]
theorem Op.struct4 {t n0 n1 n2 n3 : Nat} {f0 f1 f2 f3 : Field} {R0 R1 R2 R3 : World → List Value → Prop} (ht : P.underlying t = some (.struct #[f0, f1, f2, f3])) (hc : P.cellsOf t = n0 + (n1 + (n2 + n3))) (h0 : f0.offset = 0) (h1 : f1.offset = n0) (h2 : f2.offset = n0 + n1) (h3 : f3.offset = n0 + n1 + n2)
    (o0 : Op P f0.type n0 R0) (o1 : Op P f1.type n1 R1) (o2 : Op P f2.type n2 R2) (o3 : Op P f3.type n3 R3) :
    Op P t (n0 + (n1 + (n2 + n3))) (fun W cs => ∃ c0 c1 c2 c3, cs = c0 ++ (c1 ++ (c2 ++ c3)) ∧ R0 W c0 ∧ R1 W c1 ∧ R2 W c2 ∧ R3 W c3) := by
  refine ⟨hc, fun {H enc W spare held fuel cs y} h => ?_⟩
  obtain ⟨xs, n, _, _, hl, hx, hf⟩ := DataW.trod_struct ht h
  rw [hc] at hl
  have g0 := hf 0 f0 rfl
  have g1 := hf 1 f1 rfl
  have g2 := hf 2 f2 rfl
  have g3 := hf 3 f3 rfl
  rw [h0, o0.1, List.drop_zero, List.getElem?_eq_getElem (by simp [hx])] at g0
  rw [h1, o1.1, List.getElem?_eq_getElem (by simp [hx])] at g1
  rw [h2, o2.1, List.getElem?_eq_getElem (by simp [hx])] at g2
  rw [h3, o3.1, List.take_of_length_le (by rw [List.length_drop]; omega), List.getElem?_eq_getElem (by simp [hx])] at g3
  refine ⟨hl, _, _, _, _, ?_, (o0.2 g0).2, (o1.2 g1).2, (o2.2 g2).2, (o3.2 g3).2⟩
  rw [← List.drop_drop, ← List.drop_drop, ← List.drop_drop, List.take_append_drop n2, List.take_append_drop n1, List.take_append_drop n0]
/-- A parameter that is a struct. -/
theorem Op.arg {t n : Nat} {fs : Array Field} {R : World → List Value → Prop} (o : Op P t n R) (ht : P.underlying t = some (.struct fs)) {H : Type} {enc : TypeId × Value → H} {W : World} {spare : Nat → Bool} {held : Bool} {r : Reach} {base : Nat} {v : Value} {y : DataW H} {ps : List MemPlace}
    (hv : Value.okWide P W r base t v) (h : DataW.Trod enc P W 0 spare held t v y ps) : ∃ cs : List Value, v = .agg cs.toArray ∧ R W cs := by
  obtain ⟨cs, rfl, _⟩ := okWide_struct ht hv
  obtain ⟨fuel, hf⟩ := h
  exact ⟨cs.toList, rfl, (o.2 hf).2⟩
end
end Go.Proofs.YtjepgnfgalnjhaaW.PrintWords
