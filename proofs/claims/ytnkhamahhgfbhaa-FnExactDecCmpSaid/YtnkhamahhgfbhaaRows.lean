/-
  No cell of these rows narrows 'for every input' (looked for: loops, veiled, ifaces, maps, wideKeys, modest, calm, conditions, laid).
  DERIVED. THE GIVEN ROWS OF THIS SEAT. 3 by the template 'for every input the law returns true; each argument reads behind the call as it read before'; 0 by the template 'total and deterministic' (their statements: YtnkhamahhgfbhaaTotals.lean).
  GIVEN WITH THE SEED: the statements are not yours to turn. If you find one false, say at which input.
  Laid BY PROGRAM, IN A SANDBOX (cutbox-rows.mjs): the forced cells as the released guide's own fill.sh prints them over the translation 4a85df5781dd744c… (all of the seat's roots in one cut). By AI agents, Wed Nov 11 2026. No macro, syntax, notation, axiom, sorry.
-/
import Derived.Test.YtnkhamahhgfbhaaChecked
import GoSem.Claim
import GoSem.ClaimJoined
import GoSem.ClaimMapViews
import Derived.JoinedTies
import Derived.KernelRfl
namespace Go.Proofs.Ytnkhamahhgfbhaa
/- THE CELL 'sum', in the pinned program and in every row, IS THE sha256 OF THE DUMP (.gsa) THAT YtnkhamahhgfbhaaProg.lean LOADS. Nothing in Lean hashes anything: it is a label: what it is worth is what the hold of that sum in a sandbox is worth. -/
noncomputable def Try.pinned : Pinned := { name := "ytnkhamahhgfbhaa", sum := "4a85df5781dd744cd9fdcb22106b279cd8bd870216688940a356d7e5e652fc0e", checked := Try.checked }
namespace Rows
def none {H : Type} : Left H := { results := [], args := [] }

/-- 'laws.FnExactDyText': WHATEVER THE INPUT: true; the input reads as it did. -/
def fnExactDyTextSpec : ChangeSpec := { name := "fnExactDyText", fn := fun _ => fun
  | [d] => { results := [.lit (.bool true)], args := [d] }
  | _ => none }
def fnExactDyTextRow : OpenClaim := { program := "ytnkhamahhgfbhaa", sum := "4a85df5781dd744cd9fdcb22106b279cd8bd870216688940a356d7e5e652fc0e", func := "loop.example/g00382/laws.FnExactDyText", spec := "fnExactDyText", unfollowed := true, recurses := true, apart := false }
def FnExactDyTextSaid : Prop := fnExactDyTextRow.holds Try.pinned (OpenSpec.ofChange fnExactDyTextSpec)

/-- ITS FALSE NEIGHBOUR: 'it returns false'. Refute it at one input. -/
def fnExactDyTextWrong : ChangeSpec := { name := "fnExactDyText", fn := fun _ => fun
  | [d] => { results := [.lit (.bool false)], args := [d] }
  | _ => none }
def FnExactDyTextWrongFalsely : Prop := fnExactDyTextRow.holds Try.pinned (OpenSpec.ofChange fnExactDyTextWrong)

/-- 'laws.FnExactDecCmp': WHATEVER THE INPUT: true; the input reads as it did. -/
def fnExactDecCmpSpec : ChangeSpec := { name := "fnExactDecCmp", fn := fun _ => fun
  | [d1, d2] => { results := [.lit (.bool true)], args := [d1, d2] }
  | _ => none }
def fnExactDecCmpRow : OpenClaim := { program := "ytnkhamahhgfbhaa", sum := "4a85df5781dd744cd9fdcb22106b279cd8bd870216688940a356d7e5e652fc0e", func := "loop.example/g00382/laws.FnExactDecCmp", spec := "fnExactDecCmp", unfollowed := true, recurses := true, apart := false }
def FnExactDecCmpSaid : Prop := fnExactDecCmpRow.holds Try.pinned (OpenSpec.ofChange fnExactDecCmpSpec)

/-- ITS FALSE NEIGHBOUR: 'it returns false'. Refute it at one input. -/
def fnExactDecCmpWrong : ChangeSpec := { name := "fnExactDecCmp", fn := fun _ => fun
  | [d1, d2] => { results := [.lit (.bool false)], args := [d1, d2] }
  | _ => none }
def FnExactDecCmpWrongFalsely : Prop := fnExactDecCmpRow.holds Try.pinned (OpenSpec.ofChange fnExactDecCmpWrong)

/-- 'laws.FnExactFlToInt': WHATEVER THE INPUT: true; the input reads as it did. -/
def fnExactFlToIntSpec : ChangeSpec := { name := "fnExactFlToInt", fn := fun _ => fun
  | [d1, d2] => { results := [.lit (.bool true)], args := [d1, d2] }
  | _ => none }
def fnExactFlToIntRow : OpenClaim := { program := "ytnkhamahhgfbhaa", sum := "4a85df5781dd744cd9fdcb22106b279cd8bd870216688940a356d7e5e652fc0e", func := "loop.example/g00382/laws.FnExactFlToInt", spec := "fnExactFlToInt", unfollowed := true, recurses := true, apart := false }
def FnExactFlToIntSaid : Prop := fnExactFlToIntRow.holds Try.pinned (OpenSpec.ofChange fnExactFlToIntSpec)

/-- ITS FALSE NEIGHBOUR: 'it returns false'. Refute it at one input. -/
def fnExactFlToIntWrong : ChangeSpec := { name := "fnExactFlToInt", fn := fun _ => fun
  | [d1, d2] => { results := [.lit (.bool false)], args := [d1, d2] }
  | _ => none }
def FnExactFlToIntWrongFalsely : Prop := fnExactFlToIntRow.holds Try.pinned (OpenSpec.ofChange fnExactFlToIntWrong)

/- THE SECOND FORM. 'bulk': how many values and letters a reading holds, each counted each time it is reached (what is shared counts as often as it is met; a slice's spare places count too). A statement '..UptoSaid' is the law's where the arguments, and the package variables that the reading takes, are together of bulk at most 1048576: NARROWER than '..Said'. Prove '..Said' where nothing that the law and all that it calls make is longer than what came in: it says more and counts as full. Else prove '..UptoSaid'. A law counts once. -/
mutual
def uptoBulk {H : Type} : DataW H → Nat
  | .lit (.string bytes) => bytes.length + 1
  | .lit _ => 1
  | .nil => 1
  | .ptr d => uptoBulk d + 1
  | .slice elems spare => uptoBulkAll elems + uptoBulkAll spare + 1
  | .agg parts => uptoBulkAll parts + 1
  | .iface _ d => uptoBulk d + 1
  | .map entries => uptoBulkEntries entries + 1
  | .held _ => 1
def uptoBulkAll {H : Type} : List (DataW H) → Nat
  | [] => 0
  | d :: r => uptoBulk d + uptoBulkAll r
def uptoBulkEntries {H : Type} : List (Lit × DataW H) → Nat
  | [] => 0
  | x :: r => uptoBulkEntry x + uptoBulkEntries r
def uptoBulkEntry {H : Type} : Lit × DataW H → Nat
  | (.string bytes, d) => bytes.length + uptoBulk d + 1
  | (_, d) => uptoBulk d + 1
 end
def uptoSmall : (H : Type) → List (DataW H) → Bool := fun _ ds => decide (uptoBulkAll ds ≤ 1048576)
def OpenSpec.upto (s : _root_.Go.ChangeSpec) : _root_.Go.OpenSpec := { _root_.Go.OpenSpec.ofChange s with cond := some uptoSmall }

/-- 'laws.FnExactDyText', WHERE WHAT IT READS IS OF BULK AT MOST 1048576: true; the input reads as it did. -/
def fnExactDyTextUptoRow : OpenClaim := { program := "ytnkhamahhgfbhaa", sum := "4a85df5781dd744cd9fdcb22106b279cd8bd870216688940a356d7e5e652fc0e", func := "loop.example/g00382/laws.FnExactDyText", spec := "fnExactDyText", unfollowed := true, recurses := true, apart := false, narrowed := true }
def FnExactDyTextUptoSaid : Prop := fnExactDyTextUptoRow.holds Try.pinned (OpenSpec.upto fnExactDyTextSpec)

/-- 'laws.FnExactDecCmp', WHERE WHAT IT READS IS OF BULK AT MOST 1048576: true; the input reads as it did. -/
def fnExactDecCmpUptoRow : OpenClaim := { program := "ytnkhamahhgfbhaa", sum := "4a85df5781dd744cd9fdcb22106b279cd8bd870216688940a356d7e5e652fc0e", func := "loop.example/g00382/laws.FnExactDecCmp", spec := "fnExactDecCmp", unfollowed := true, recurses := true, apart := false, narrowed := true }
def FnExactDecCmpUptoSaid : Prop := fnExactDecCmpUptoRow.holds Try.pinned (OpenSpec.upto fnExactDecCmpSpec)

/-- 'laws.FnExactFlToInt', WHERE WHAT IT READS IS OF BULK AT MOST 1048576: true; the input reads as it did. -/
def fnExactFlToIntUptoRow : OpenClaim := { program := "ytnkhamahhgfbhaa", sum := "4a85df5781dd744cd9fdcb22106b279cd8bd870216688940a356d7e5e652fc0e", func := "loop.example/g00382/laws.FnExactFlToInt", spec := "fnExactFlToInt", unfollowed := true, recurses := true, apart := false, narrowed := true }
def FnExactFlToIntUptoSaid : Prop := fnExactFlToIntUptoRow.holds Try.pinned (OpenSpec.upto fnExactFlToIntSpec)

end Rows
end Go.Proofs.Ytnkhamahhgfbhaa
