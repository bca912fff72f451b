/- The law's intervals as values. No conditions. -/
import Derived.Test.YtlcoopdgammmjaaOps
import Derived.Test.YtlcoopdgammmjaaIv1
set_option linter.unusedVariables false
set_option linter.unusedSimpArgs false
namespace Go.Eng
open Go.Proofs Num
def IvT.row (x : IvT) : Prop := x.lo.row ∧ x.hi.row
theorem opIv : OpV Try.prog 30 6 (fun vs => ∃ x : IvT, vs = x.v ∧ x.row) :=
  (OpV.struct2 Try.underlying30 (by kernel_rfl) rfl rfl opDy opDy).imp fun vs ⟨_, _, e, ⟨x, e1, h1⟩, ⟨y, e2, h2⟩⟩ => ⟨⟨x, y⟩, by rw [e, e1, e2]; rfl, h1, h2⟩
def TIvs (vs : List V) : Prop := ∃ ds : List IvT, vs = [.cells 6 ds.length (flat IvT.v ds)] ∧ ds.length ≤ 9223372036854775807 ∧ ∀ x ∈ ds, x.row
theorem opIvs : OpV Try.prog 49 1 TIvs := OpV.cells Try.underlying49 (by kernel_rfl) opIv (by omega)
theorem opIvMat : OpV Try.prog 51 2 (fun vs => ∃ (N : Int) (ds : List IvT), vs = [.int .i64 N, .cells 6 ds.length (flat IvT.v ds)] ∧ (Lit.int .i64 N).wf = true ∧ ds.length ≤ 9223372036854775807 ∧ ∀ x ∈ ds, x.row) :=
  (OpV.struct2 Try.underlying51 (by kernel_rfl) rfl rfl opInt opIvs).imp fun vs ⟨_, _, e, ⟨n, e1, h1⟩, ⟨ds, e2, h2, h3⟩⟩ => ⟨n, ds, by rw [e, e1, e2]; rfl, h1, h2, h3⟩
end Go.Eng
