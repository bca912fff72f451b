/-
  No cell of these rows narrows 'for every input' (looked for: loops, veiled, ifaces, maps, wideKeys, modest, calm, conditions, laid).
  DERIVED. THE GIVEN ROWS OF THIS SEAT. 11 by the template 'for every input the law returns true; each argument reads behind the call as it read before'; 0 by the template 'total and deterministic' (their statements: YteojcbmelbohlaaTotals.lean).
  GIVEN WITH THE SEED: the statements are not yours to turn. If you find one false, say at which input.
  Laid BY PROGRAM, IN A SANDBOX (cutbox-rows.mjs): the forced cells as the released guide's own fill.sh prints them over the translation 86f4e3fb54933795… (all of the seat's roots in one cut). By AI agents, Wed Nov 11 2026. No macro, syntax, notation, axiom, sorry.
-/
import Derived.Test.YteojcbmelbohlaaChecked
import GoSem.Claim
import GoSem.ClaimJoined
import GoSem.ClaimMapViews
import Derived.JoinedTies
import Derived.KernelRfl
namespace Go.Proofs.Yteojcbmelbohlaa
/- THE CELL 'sum', in the pinned program and in every row, IS THE sha256 OF THE DUMP (.gsa) THAT YteojcbmelbohlaaProg.lean LOADS. Nothing in Lean hashes anything: it is a label: what it is worth is what the hold of that sum in a sandbox is worth. -/
noncomputable def Try.pinned : Pinned := { name := "yteojcbmelbohlaa", sum := "86f4e3fb54933795ee5cf68c47cceef2e2191680243cd375e082b3a6a0e93647", checked := Try.checked }
namespace Rows
def none {H : Type} : Left H := { results := [], args := [] }

/-- 'laws.FnNatRing': WHATEVER THE INPUT: true; the input reads as it did. -/
def fnNatRingSpec : ChangeSpec := { name := "fnNatRing", fn := fun _ => fun
  | [d] => { results := [.lit (.bool true)], args := [d] }
  | _ => none }
def fnNatRingRow : OpenClaim := { program := "yteojcbmelbohlaa", sum := "86f4e3fb54933795ee5cf68c47cceef2e2191680243cd375e082b3a6a0e93647", func := "loop.example/g00382/laws.FnNatRing", spec := "fnNatRing", unfollowed := true, recurses := true, apart := false }
def FnNatRingSaid : Prop := fnNatRingRow.holds Try.pinned (OpenSpec.ofChange fnNatRingSpec)

/-- ITS FALSE NEIGHBOUR: 'it returns false'. Refute it at one input. -/
def fnNatRingWrong : ChangeSpec := { name := "fnNatRing", fn := fun _ => fun
  | [d] => { results := [.lit (.bool false)], args := [d] }
  | _ => none }
def FnNatRingWrongFalsely : Prop := fnNatRingRow.holds Try.pinned (OpenSpec.ofChange fnNatRingWrong)

/-- 'laws.FnNatTexts': WHATEVER THE INPUT: true; the input reads as it did. -/
def fnNatTextsSpec : ChangeSpec := { name := "fnNatTexts", fn := fun _ => fun
  | [d] => { results := [.lit (.bool true)], args := [d] }
  | _ => none }
def fnNatTextsRow : OpenClaim := { program := "yteojcbmelbohlaa", sum := "86f4e3fb54933795ee5cf68c47cceef2e2191680243cd375e082b3a6a0e93647", func := "loop.example/g00382/laws.FnNatTexts", spec := "fnNatTexts", unfollowed := true, recurses := true, apart := false }
def FnNatTextsSaid : Prop := fnNatTextsRow.holds Try.pinned (OpenSpec.ofChange fnNatTextsSpec)

/-- ITS FALSE NEIGHBOUR: 'it returns false'. Refute it at one input. -/
def fnNatTextsWrong : ChangeSpec := { name := "fnNatTexts", fn := fun _ => fun
  | [d] => { results := [.lit (.bool false)], args := [d] }
  | _ => none }
def FnNatTextsWrongFalsely : Prop := fnNatTextsRow.holds Try.pinned (OpenSpec.ofChange fnNatTextsWrong)

/-- 'laws.FnWholes': WHATEVER THE INPUT: true; the input reads as it did. -/
def fnWholesSpec : ChangeSpec := { name := "fnWholes", fn := fun _ => fun
  | [d] => { results := [.lit (.bool true)], args := [d] }
  | _ => none }
def fnWholesRow : OpenClaim := { program := "yteojcbmelbohlaa", sum := "86f4e3fb54933795ee5cf68c47cceef2e2191680243cd375e082b3a6a0e93647", func := "loop.example/g00382/laws.FnWholes", spec := "fnWholes", unfollowed := true, recurses := true, apart := false }
def FnWholesSaid : Prop := fnWholesRow.holds Try.pinned (OpenSpec.ofChange fnWholesSpec)

/-- ITS FALSE NEIGHBOUR: 'it returns false'. Refute it at one input. -/
def fnWholesWrong : ChangeSpec := { name := "fnWholes", fn := fun _ => fun
  | [d] => { results := [.lit (.bool false)], args := [d] }
  | _ => none }
def FnWholesWrongFalsely : Prop := fnWholesRow.holds Try.pinned (OpenSpec.ofChange fnWholesWrong)

/-- 'laws.FnExactNatRoot': WHATEVER THE INPUT: true; the input reads as it did. -/
def fnExactNatRootSpec : ChangeSpec := { name := "fnExactNatRoot", fn := fun _ => fun
  | [d] => { results := [.lit (.bool true)], args := [d] }
  | _ => none }
def fnExactNatRootRow : OpenClaim := { program := "yteojcbmelbohlaa", sum := "86f4e3fb54933795ee5cf68c47cceef2e2191680243cd375e082b3a6a0e93647", func := "loop.example/g00382/laws.FnExactNatRoot", spec := "fnExactNatRoot", unfollowed := true, recurses := true, apart := false }
def FnExactNatRootSaid : Prop := fnExactNatRootRow.holds Try.pinned (OpenSpec.ofChange fnExactNatRootSpec)

/-- ITS FALSE NEIGHBOUR: 'it returns false'. Refute it at one input. -/
def fnExactNatRootWrong : ChangeSpec := { name := "fnExactNatRoot", fn := fun _ => fun
  | [d] => { results := [.lit (.bool false)], args := [d] }
  | _ => none }
def FnExactNatRootWrongFalsely : Prop := fnExactNatRootRow.holds Try.pinned (OpenSpec.ofChange fnExactNatRootWrong)

/-- 'laws.FnNatRoots': WHATEVER THE INPUT: true; the input reads as it did. -/
def fnNatRootsSpec : ChangeSpec := { name := "fnNatRoots", fn := fun _ => fun
  | [d] => { results := [.lit (.bool true)], args := [d] }
  | _ => none }
def fnNatRootsRow : OpenClaim := { program := "yteojcbmelbohlaa", sum := "86f4e3fb54933795ee5cf68c47cceef2e2191680243cd375e082b3a6a0e93647", func := "loop.example/g00382/laws.FnNatRoots", spec := "fnNatRoots", unfollowed := true, recurses := true, apart := false }
def FnNatRootsSaid : Prop := fnNatRootsRow.holds Try.pinned (OpenSpec.ofChange fnNatRootsSpec)

/-- ITS FALSE NEIGHBOUR: 'it returns false'. Refute it at one input. -/
def fnNatRootsWrong : ChangeSpec := { name := "fnNatRoots", fn := fun _ => fun
  | [d] => { results := [.lit (.bool false)], args := [d] }
  | _ => none }
def FnNatRootsWrongFalsely : Prop := fnNatRootsRow.holds Try.pinned (OpenSpec.ofChange fnNatRootsWrong)

/-- 'laws.FnNatDivs': WHATEVER THE INPUT: true; the input reads as it did. -/
def fnNatDivsSpec : ChangeSpec := { name := "fnNatDivs", fn := fun _ => fun
  | [d] => { results := [.lit (.bool true)], args := [d] }
  | _ => none }
def fnNatDivsRow : OpenClaim := { program := "yteojcbmelbohlaa", sum := "86f4e3fb54933795ee5cf68c47cceef2e2191680243cd375e082b3a6a0e93647", func := "loop.example/g00382/laws.FnNatDivs", spec := "fnNatDivs", unfollowed := true, recurses := true, apart := false }
def FnNatDivsSaid : Prop := fnNatDivsRow.holds Try.pinned (OpenSpec.ofChange fnNatDivsSpec)

/-- ITS FALSE NEIGHBOUR: 'it returns false'. Refute it at one input. -/
def fnNatDivsWrong : ChangeSpec := { name := "fnNatDivs", fn := fun _ => fun
  | [d] => { results := [.lit (.bool false)], args := [d] }
  | _ => none }
def FnNatDivsWrongFalsely : Prop := fnNatDivsRow.holds Try.pinned (OpenSpec.ofChange fnNatDivsWrong)

/-- 'laws.FnWholeDivs': WHATEVER THE INPUT: true; the input reads as it did. -/
def fnWholeDivsSpec : ChangeSpec := { name := "fnWholeDivs", fn := fun _ => fun
  | [d] => { results := [.lit (.bool true)], args := [d] }
  | _ => none }
def fnWholeDivsRow : OpenClaim := { program := "yteojcbmelbohlaa", sum := "86f4e3fb54933795ee5cf68c47cceef2e2191680243cd375e082b3a6a0e93647", func := "loop.example/g00382/laws.FnWholeDivs", spec := "fnWholeDivs", unfollowed := true, recurses := true, apart := false }
def FnWholeDivsSaid : Prop := fnWholeDivsRow.holds Try.pinned (OpenSpec.ofChange fnWholeDivsSpec)

/-- ITS FALSE NEIGHBOUR: 'it returns false'. Refute it at one input. -/
def fnWholeDivsWrong : ChangeSpec := { name := "fnWholeDivs", fn := fun _ => fun
  | [d] => { results := [.lit (.bool false)], args := [d] }
  | _ => none }
def FnWholeDivsWrongFalsely : Prop := fnWholeDivsRow.holds Try.pinned (OpenSpec.ofChange fnWholeDivsWrong)

/-- 'laws.FnExactWholeDiv': WHATEVER THE INPUT: true; the input reads as it did. -/
def fnExactWholeDivSpec : ChangeSpec := { name := "fnExactWholeDiv", fn := fun _ => fun
  | [d1, d2] => { results := [.lit (.bool true)], args := [d1, d2] }
  | _ => none }
def fnExactWholeDivRow : OpenClaim := { program := "yteojcbmelbohlaa", sum := "86f4e3fb54933795ee5cf68c47cceef2e2191680243cd375e082b3a6a0e93647", func := "loop.example/g00382/laws.FnExactWholeDiv", spec := "fnExactWholeDiv", unfollowed := true, recurses := true, apart := false }
def FnExactWholeDivSaid : Prop := fnExactWholeDivRow.holds Try.pinned (OpenSpec.ofChange fnExactWholeDivSpec)

/-- ITS FALSE NEIGHBOUR: 'it returns false'. Refute it at one input. -/
def fnExactWholeDivWrong : ChangeSpec := { name := "fnExactWholeDiv", fn := fun _ => fun
  | [d1, d2] => { results := [.lit (.bool false)], args := [d1, d2] }
  | _ => none }
def FnExactWholeDivWrongFalsely : Prop := fnExactWholeDivRow.holds Try.pinned (OpenSpec.ofChange fnExactWholeDivWrong)

/-- 'laws.FnPlains': WHATEVER THE INPUT: true; the input reads as it did. -/
def fnPlainsSpec : ChangeSpec := { name := "fnPlains", fn := fun _ => fun
  | [d] => { results := [.lit (.bool true)], args := [d] }
  | _ => none }
def fnPlainsRow : OpenClaim := { program := "yteojcbmelbohlaa", sum := "86f4e3fb54933795ee5cf68c47cceef2e2191680243cd375e082b3a6a0e93647", func := "loop.example/g00382/laws.FnPlains", spec := "fnPlains", unfollowed := true, recurses := true, apart := false }
def FnPlainsSaid : Prop := fnPlainsRow.holds Try.pinned (OpenSpec.ofChange fnPlainsSpec)

/-- ITS FALSE NEIGHBOUR: 'it returns false'. Refute it at one input. -/
def fnPlainsWrong : ChangeSpec := { name := "fnPlains", fn := fun _ => fun
  | [d] => { results := [.lit (.bool false)], args := [d] }
  | _ => none }
def FnPlainsWrongFalsely : Prop := fnPlainsRow.holds Try.pinned (OpenSpec.ofChange fnPlainsWrong)

/-- 'laws.FnWholeTexts': WHATEVER THE INPUT: true; the input reads as it did. -/
def fnWholeTextsSpec : ChangeSpec := { name := "fnWholeTexts", fn := fun _ => fun
  | [d] => { results := [.lit (.bool true)], args := [d] }
  | _ => none }
def fnWholeTextsRow : OpenClaim := { program := "yteojcbmelbohlaa", sum := "86f4e3fb54933795ee5cf68c47cceef2e2191680243cd375e082b3a6a0e93647", func := "loop.example/g00382/laws.FnWholeTexts", spec := "fnWholeTexts", unfollowed := true, recurses := true, apart := false }
def FnWholeTextsSaid : Prop := fnWholeTextsRow.holds Try.pinned (OpenSpec.ofChange fnWholeTextsSpec)

/-- ITS FALSE NEIGHBOUR: 'it returns false'. Refute it at one input. -/
def fnWholeTextsWrong : ChangeSpec := { name := "fnWholeTexts", fn := fun _ => fun
  | [d] => { results := [.lit (.bool false)], args := [d] }
  | _ => none }
def FnWholeTextsWrongFalsely : Prop := fnWholeTextsRow.holds Try.pinned (OpenSpec.ofChange fnWholeTextsWrong)

/-- 'laws.FnExactWholeRead': WHATEVER THE INPUT: true; the input reads as it did. -/
def fnExactWholeReadSpec : ChangeSpec := { name := "fnExactWholeRead", fn := fun _ => fun
  | [d] => { results := [.lit (.bool true)], args := [d] }
  | _ => none }
def fnExactWholeReadRow : OpenClaim := { program := "yteojcbmelbohlaa", sum := "86f4e3fb54933795ee5cf68c47cceef2e2191680243cd375e082b3a6a0e93647", func := "loop.example/g00382/laws.FnExactWholeRead", spec := "fnExactWholeRead", unfollowed := true, recurses := true, apart := false }
def FnExactWholeReadSaid : Prop := fnExactWholeReadRow.holds Try.pinned (OpenSpec.ofChange fnExactWholeReadSpec)

/-- ITS FALSE NEIGHBOUR: 'it returns false'. Refute it at one input. -/
def fnExactWholeReadWrong : ChangeSpec := { name := "fnExactWholeRead", fn := fun _ => fun
  | [d] => { results := [.lit (.bool false)], args := [d] }
  | _ => none }
def FnExactWholeReadWrongFalsely : Prop := fnExactWholeReadRow.holds Try.pinned (OpenSpec.ofChange fnExactWholeReadWrong)

/- THE SECOND FORM. 'bulk': how many values and letters a reading holds, each counted each time it is reached (what is shared counts as often as it is met; a slice's spare places count too). A statement '..UptoSaid' is the law's where the arguments, and the package variables that the reading takes, are together of bulk at most 1048576: NARROWER than '..Said'. Prove '..Said' where nothing that the law and all that it calls make is longer than what came in: it says more and counts as full. Else prove '..UptoSaid'. A law counts once. -/
mutual
def uptoBulk {H : Type} : DataW H → Nat
  | .lit (.string bytes) => bytes.length + 1
  | .lit _ => 1
  | .nil => 1
  | .ptr d => uptoBulk d + 1
  | .slice elems spare => uptoBulkAll elems + uptoBulkAll spare + 1
  | .agg parts => uptoBulkAll parts + 1
  | .iface _ d => uptoBulk d + 1
  | .map entries => uptoBulkEntries entries + 1
  | .held _ => 1
def uptoBulkAll {H : Type} : List (DataW H) → Nat
  | [] => 0
  | d :: r => uptoBulk d + uptoBulkAll r
def uptoBulkEntries {H : Type} : List (Lit × DataW H) → Nat
  | [] => 0
  | x :: r => uptoBulkEntry x + uptoBulkEntries r
def uptoBulkEntry {H : Type} : Lit × DataW H → Nat
  | (.string bytes, d) => bytes.length + uptoBulk d + 1
  | (_, d) => uptoBulk d + 1
 end
def uptoSmall : (H : Type) → List (DataW H) → Bool := fun _ ds => decide (uptoBulkAll ds ≤ 1048576)
def OpenSpec.upto (s : _root_.Go.ChangeSpec) : _root_.Go.OpenSpec := { _root_.Go.OpenSpec.ofChange s with cond := some uptoSmall }

/-- 'laws.FnNatRing', WHERE WHAT IT READS IS OF BULK AT MOST 1048576: true; the input reads as it did. -/
def fnNatRingUptoRow : OpenClaim := { program := "yteojcbmelbohlaa", sum := "86f4e3fb54933795ee5cf68c47cceef2e2191680243cd375e082b3a6a0e93647", func := "loop.example/g00382/laws.FnNatRing", spec := "fnNatRing", unfollowed := true, recurses := true, apart := false, narrowed := true }
def FnNatRingUptoSaid : Prop := fnNatRingUptoRow.holds Try.pinned (OpenSpec.upto fnNatRingSpec)

/-- 'laws.FnNatTexts', WHERE WHAT IT READS IS OF BULK AT MOST 1048576: true; the input reads as it did. -/
def fnNatTextsUptoRow : OpenClaim := { program := "yteojcbmelbohlaa", sum := "86f4e3fb54933795ee5cf68c47cceef2e2191680243cd375e082b3a6a0e93647", func := "loop.example/g00382/laws.FnNatTexts", spec := "fnNatTexts", unfollowed := true, recurses := true, apart := false, narrowed := true }
def FnNatTextsUptoSaid : Prop := fnNatTextsUptoRow.holds Try.pinned (OpenSpec.upto fnNatTextsSpec)

/-- 'laws.FnWholes', WHERE WHAT IT READS IS OF BULK AT MOST 1048576: true; the input reads as it did. -/
def fnWholesUptoRow : OpenClaim := { program := "yteojcbmelbohlaa", sum := "86f4e3fb54933795ee5cf68c47cceef2e2191680243cd375e082b3a6a0e93647", func := "loop.example/g00382/laws.FnWholes", spec := "fnWholes", unfollowed := true, recurses := true, apart := false, narrowed := true }
def FnWholesUptoSaid : Prop := fnWholesUptoRow.holds Try.pinned (OpenSpec.upto fnWholesSpec)

/-- 'laws.FnExactNatRoot', WHERE WHAT IT READS IS OF BULK AT MOST 1048576: true; the input reads as it did. -/
def fnExactNatRootUptoRow : OpenClaim := { program := "yteojcbmelbohlaa", sum := "86f4e3fb54933795ee5cf68c47cceef2e2191680243cd375e082b3a6a0e93647", func := "loop.example/g00382/laws.FnExactNatRoot", spec := "fnExactNatRoot", unfollowed := true, recurses := true, apart := false, narrowed := true }
def FnExactNatRootUptoSaid : Prop := fnExactNatRootUptoRow.holds Try.pinned (OpenSpec.upto fnExactNatRootSpec)

/-- 'laws.FnNatRoots', WHERE WHAT IT READS IS OF BULK AT MOST 1048576: true; the input reads as it did. -/
def fnNatRootsUptoRow : OpenClaim := { program := "yteojcbmelbohlaa", sum := "86f4e3fb54933795ee5cf68c47cceef2e2191680243cd375e082b3a6a0e93647", func := "loop.example/g00382/laws.FnNatRoots", spec := "fnNatRoots", unfollowed := true, recurses := true, apart := false, narrowed := true }
def FnNatRootsUptoSaid : Prop := fnNatRootsUptoRow.holds Try.pinned (OpenSpec.upto fnNatRootsSpec)

/-- 'laws.FnNatDivs', WHERE WHAT IT READS IS OF BULK AT MOST 1048576: true; the input reads as it did. -/
def fnNatDivsUptoRow : OpenClaim := { program := "yteojcbmelbohlaa", sum := "86f4e3fb54933795ee5cf68c47cceef2e2191680243cd375e082b3a6a0e93647", func := "loop.example/g00382/laws.FnNatDivs", spec := "fnNatDivs", unfollowed := true, recurses := true, apart := false, narrowed := true }
def FnNatDivsUptoSaid : Prop := fnNatDivsUptoRow.holds Try.pinned (OpenSpec.upto fnNatDivsSpec)

/-- 'laws.FnWholeDivs', WHERE WHAT IT READS IS OF BULK AT MOST 1048576: true; the input reads as it did. -/
def fnWholeDivsUptoRow : OpenClaim := { program := "yteojcbmelbohlaa", sum := "86f4e3fb54933795ee5cf68c47cceef2e2191680243cd375e082b3a6a0e93647", func := "loop.example/g00382/laws.FnWholeDivs", spec := "fnWholeDivs", unfollowed := true, recurses := true, apart := false, narrowed := true }
def FnWholeDivsUptoSaid : Prop := fnWholeDivsUptoRow.holds Try.pinned (OpenSpec.upto fnWholeDivsSpec)

/-- 'laws.FnExactWholeDiv', WHERE WHAT IT READS IS OF BULK AT MOST 1048576: true; the input reads as it did. -/
def fnExactWholeDivUptoRow : OpenClaim := { program := "yteojcbmelbohlaa", sum := "86f4e3fb54933795ee5cf68c47cceef2e2191680243cd375e082b3a6a0e93647", func := "loop.example/g00382/laws.FnExactWholeDiv", spec := "fnExactWholeDiv", unfollowed := true, recurses := true, apart := false, narrowed := true }
def FnExactWholeDivUptoSaid : Prop := fnExactWholeDivUptoRow.holds Try.pinned (OpenSpec.upto fnExactWholeDivSpec)

/-- 'laws.FnPlains', WHERE WHAT IT READS IS OF BULK AT MOST 1048576: true; the input reads as it did. -/
def fnPlainsUptoRow : OpenClaim := { program := "yteojcbmelbohlaa", sum := "86f4e3fb54933795ee5cf68c47cceef2e2191680243cd375e082b3a6a0e93647", func := "loop.example/g00382/laws.FnPlains", spec := "fnPlains", unfollowed := true, recurses := true, apart := false, narrowed := true }
def FnPlainsUptoSaid : Prop := fnPlainsUptoRow.holds Try.pinned (OpenSpec.upto fnPlainsSpec)

/-- 'laws.FnWholeTexts', WHERE WHAT IT READS IS OF BULK AT MOST 1048576: true; the input reads as it did. -/
def fnWholeTextsUptoRow : OpenClaim := { program := "yteojcbmelbohlaa", sum := "86f4e3fb54933795ee5cf68c47cceef2e2191680243cd375e082b3a6a0e93647", func := "loop.example/g00382/laws.FnWholeTexts", spec := "fnWholeTexts", unfollowed := true, recurses := true, apart := false, narrowed := true }
def FnWholeTextsUptoSaid : Prop := fnWholeTextsUptoRow.holds Try.pinned (OpenSpec.upto fnWholeTextsSpec)

/-- 'laws.FnExactWholeRead', WHERE WHAT IT READS IS OF BULK AT MOST 1048576: true; the input reads as it did. -/
def fnExactWholeReadUptoRow : OpenClaim := { program := "yteojcbmelbohlaa", sum := "86f4e3fb54933795ee5cf68c47cceef2e2191680243cd375e082b3a6a0e93647", func := "loop.example/g00382/laws.FnExactWholeRead", spec := "fnExactWholeRead", unfollowed := true, recurses := true, apart := false, narrowed := true }
def FnExactWholeReadUptoSaid : Prop := fnExactWholeReadUptoRow.holds Try.pinned (OpenSpec.upto fnExactWholeReadSpec)

end Rows
end Go.Proofs.Yteojcbmelbohlaa
