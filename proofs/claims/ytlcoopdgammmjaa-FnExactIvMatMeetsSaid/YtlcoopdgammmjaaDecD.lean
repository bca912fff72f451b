/- Equality of dyadics is decidable. No conditions. -/
import Derived.Test.YtlcoopdgammmjaaSeat
import Derived.Test.YtlcoopdgammmjaaVb
set_option linter.unusedVariables false
set_option linter.unusedSimpArgs false
namespace Go.Eng
instance : DecidableEq DyT := fun a b => match a, b with
  | ⟨n, l, e⟩, ⟨m, k, f⟩ => if h : n = m ∧ l = k ∧ e = f then .isTrue (by obtain ⟨rfl, rfl, rfl⟩ := h; rfl) else .isFalse (fun q => h (by cases q; exact ⟨rfl, rfl, rfl⟩))
end Go.Eng
