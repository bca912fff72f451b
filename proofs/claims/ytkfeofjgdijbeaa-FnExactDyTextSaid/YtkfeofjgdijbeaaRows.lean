/-
  No cell of these rows narrows 'for every input' (looked for: loops, veiled, ifaces, maps, wideKeys, modest, calm, conditions, laid).
  DERIVED. THE GIVEN ROWS OF THIS SEAT. 3 by the template 'for every input the law returns true; each argument reads behind the call as it read before'; 0 by the template 'total and deterministic' (their statements: YtkfeofjgdijbeaaTotals.lean).
  GIVEN WITH THE SEED: the statements are not yours to turn. If you find one false, say at which input.
  Laid BY PROGRAM, IN A SANDBOX (cutbox-rows.mjs): the forced cells as the released guide's own fill.sh prints them over the translation 48c3d96427c1326c… (all of the seat's roots in one cut). By AI agents, Wed Nov 11 2026. No macro, syntax, notation, axiom, sorry.
-/
import Derived.Test.YtkfeofjgdijbeaaChecked
import GoSem.Claim
import GoSem.ClaimJoined
import GoSem.ClaimMapViews
import Derived.JoinedTies
import Derived.KernelRfl
namespace Go.Proofs.Ytkfeofjgdijbeaa
/- THE CELL 'sum', in the pinned program and in every row, IS THE sha256 OF THE DUMP (.gsa) THAT YtkfeofjgdijbeaaProg.lean LOADS. Nothing in Lean hashes anything: it is a label: what it is worth is what the hold of that sum in a sandbox is worth. -/
noncomputable def Try.pinned : Pinned := { name := "ytkfeofjgdijbeaa", sum := "48c3d96427c1326c0f1f9697bb235e630bf7bf47dd2cc226ce8037c8e747b19d", checked := Try.checked }
namespace Rows
def none {H : Type} : Left H := { results := [], args := [] }

/-- 'laws.FnPlains': WHATEVER THE INPUT: true; the input reads as it did. -/
def fnPlainsSpec : ChangeSpec := { name := "fnPlains", fn := fun _ => fun
  | [d] => { results := [.lit (.bool true)], args := [d] }
  | _ => none }
def fnPlainsRow : OpenClaim := { program := "ytkfeofjgdijbeaa", sum := "48c3d96427c1326c0f1f9697bb235e630bf7bf47dd2cc226ce8037c8e747b19d", func := "loop.example/g00382/laws.FnPlains", spec := "fnPlains", unfollowed := true, recurses := true, apart := false }
def FnPlainsSaid : Prop := fnPlainsRow.holds Try.pinned (OpenSpec.ofChange fnPlainsSpec)

/-- ITS FALSE NEIGHBOUR: 'it returns false'. Refute it at one input. -/
def fnPlainsWrong : ChangeSpec := { name := "fnPlains", fn := fun _ => fun
  | [d] => { results := [.lit (.bool false)], args := [d] }
  | _ => none }
def FnPlainsWrongFalsely : Prop := fnPlainsRow.holds Try.pinned (OpenSpec.ofChange fnPlainsWrong)

/-- 'laws.FnExactDyText': WHATEVER THE INPUT: true; the input reads as it did. -/
def fnExactDyTextSpec : ChangeSpec := { name := "fnExactDyText", fn := fun _ => fun
  | [d] => { results := [.lit (.bool true)], args := [d] }
  | _ => none }
def fnExactDyTextRow : OpenClaim := { program := "ytkfeofjgdijbeaa", sum := "48c3d96427c1326c0f1f9697bb235e630bf7bf47dd2cc226ce8037c8e747b19d", func := "loop.example/g00382/laws.FnExactDyText", spec := "fnExactDyText", unfollowed := true, recurses := true, apart := false }
def FnExactDyTextSaid : Prop := fnExactDyTextRow.holds Try.pinned (OpenSpec.ofChange fnExactDyTextSpec)

/-- ITS FALSE NEIGHBOUR: 'it returns false'. Refute it at one input. -/
def fnExactDyTextWrong : ChangeSpec := { name := "fnExactDyText", fn := fun _ => fun
  | [d] => { results := [.lit (.bool false)], args := [d] }
  | _ => none }
def FnExactDyTextWrongFalsely : Prop := fnExactDyTextRow.holds Try.pinned (OpenSpec.ofChange fnExactDyTextWrong)

/-- 'laws.FnExactMatRank': WHATEVER THE INPUT: true; the input reads as it did. -/
def fnExactMatRankSpec : ChangeSpec := { name := "fnExactMatRank", fn := fun _ => fun
  | [d] => { results := [.lit (.bool true)], args := [d] }
  | _ => none }
def fnExactMatRankRow : OpenClaim := { program := "ytkfeofjgdijbeaa", sum := "48c3d96427c1326c0f1f9697bb235e630bf7bf47dd2cc226ce8037c8e747b19d", func := "loop.example/g00382/laws.FnExactMatRank", spec := "fnExactMatRank", unfollowed := true, recurses := true, apart := false }
def FnExactMatRankSaid : Prop := fnExactMatRankRow.holds Try.pinned (OpenSpec.ofChange fnExactMatRankSpec)

/-- ITS FALSE NEIGHBOUR: 'it returns false'. Refute it at one input. -/
def fnExactMatRankWrong : ChangeSpec := { name := "fnExactMatRank", fn := fun _ => fun
  | [d] => { results := [.lit (.bool false)], args := [d] }
  | _ => none }
def FnExactMatRankWrongFalsely : Prop := fnExactMatRankRow.holds Try.pinned (OpenSpec.ofChange fnExactMatRankWrong)

/- THE SECOND FORM. 'bulk': how many values and letters a reading holds, each counted each time it is reached (what is shared counts as often as it is met; a slice's spare places count too). A statement '..UptoSaid' is the law's where the arguments, and the package variables that the reading takes, are together of bulk at most 1048576: NARROWER than '..Said'. Prove '..Said' where nothing that the law and all that it calls make is longer than what came in: it says more and counts as full. Else prove '..UptoSaid'. A law counts once. -/
mutual
def uptoBulk {H : Type} : DataW H → Nat
  | .lit (.string bytes) => bytes.length + 1
  | .lit _ => 1
  | .nil => 1
  | .ptr d => uptoBulk d + 1
  | .slice elems spare => uptoBulkAll elems + uptoBulkAll spare + 1
  | .agg parts => uptoBulkAll parts + 1
  | .iface _ d => uptoBulk d + 1
  | .map entries => uptoBulkEntries entries + 1
  | .held _ => 1
def uptoBulkAll {H : Type} : List (DataW H) → Nat
  | [] => 0
  | d :: r => uptoBulk d + uptoBulkAll r
def uptoBulkEntries {H : Type} : List (Lit × DataW H) → Nat
  | [] => 0
  | x :: r => uptoBulkEntry x + uptoBulkEntries r
def uptoBulkEntry {H : Type} : Lit × DataW H → Nat
  | (.string bytes, d) => bytes.length + uptoBulk d + 1
  | (_, d) => uptoBulk d + 1
 end
def uptoSmall : (H : Type) → List (DataW H) → Bool := fun _ ds => decide (uptoBulkAll ds ≤ 1048576)
def OpenSpec.upto (s : _root_.Go.ChangeSpec) : _root_.Go.OpenSpec := { _root_.Go.OpenSpec.ofChange s with cond := some uptoSmall }

/-- 'laws.FnPlains', WHERE WHAT IT READS IS OF BULK AT MOST 1048576: true; the input reads as it did. -/
def fnPlainsUptoRow : OpenClaim := { program := "ytkfeofjgdijbeaa", sum := "48c3d96427c1326c0f1f9697bb235e630bf7bf47dd2cc226ce8037c8e747b19d", func := "loop.example/g00382/laws.FnPlains", spec := "fnPlains", unfollowed := true, recurses := true, apart := false, narrowed := true }
def FnPlainsUptoSaid : Prop := fnPlainsUptoRow.holds Try.pinned (OpenSpec.upto fnPlainsSpec)

/-- 'laws.FnExactDyText', WHERE WHAT IT READS IS OF BULK AT MOST 1048576: true; the input reads as it did. -/
def fnExactDyTextUptoRow : OpenClaim := { program := "ytkfeofjgdijbeaa", sum := "48c3d96427c1326c0f1f9697bb235e630bf7bf47dd2cc226ce8037c8e747b19d", func := "loop.example/g00382/laws.FnExactDyText", spec := "fnExactDyText", unfollowed := true, recurses := true, apart := false, narrowed := true }
def FnExactDyTextUptoSaid : Prop := fnExactDyTextUptoRow.holds Try.pinned (OpenSpec.upto fnExactDyTextSpec)

/-- 'laws.FnExactMatRank', WHERE WHAT IT READS IS OF BULK AT MOST 1048576: true; the input reads as it did. -/
def fnExactMatRankUptoRow : OpenClaim := { program := "ytkfeofjgdijbeaa", sum := "48c3d96427c1326c0f1f9697bb235e630bf7bf47dd2cc226ce8037c8e747b19d", func := "loop.example/g00382/laws.FnExactMatRank", spec := "fnExactMatRank", unfollowed := true, recurses := true, apart := false, narrowed := true }
def FnExactMatRankUptoSaid : Prop := fnExactMatRankUptoRow.holds Try.pinned (OpenSpec.upto fnExactMatRankSpec)

end Rows
end Go.Proofs.Ytkfeofjgdijbeaa
