/-
  No cell of these rows narrows 'for every input' (looked for: loops, veiled, ifaces, maps, wideKeys, modest, calm, conditions, laid).
  DERIVED. THE GIVEN ROWS OF THIS SEAT. 12 by the template 'for every input the law returns true; each argument reads behind the call as it read before'; 0 by the template 'total and deterministic' (their statements: YtjepgnfgalnjhaaTotals.lean).
  GIVEN WITH THE SEED: the statements are not yours to turn. If you find one false, say at which input.
  Laid BY PROGRAM, IN A SANDBOX (cutbox-rows.mjs): the forced cells as the released guide's own fill.sh prints them over the translation 0b95ff74f30ae074… (all of the seat's roots in one cut). By AI agents, Wed Nov 11 2026. No macro, syntax, notation, axiom, sorry.
-/
import Derived.Test.YtjepgnfgalnjhaaChecked
import GoSem.Claim
import GoSem.ClaimJoined
import GoSem.ClaimMapViews
import Derived.JoinedTies
import Derived.KernelRfl
namespace Go.Proofs.Ytjepgnfgalnjhaa
/- THE CELL 'sum', in the pinned program and in every row, IS THE sha256 OF THE DUMP (.gsa) THAT YtjepgnfgalnjhaaProg.lean LOADS. Nothing in Lean hashes anything: it is a label: what it is worth is what the hold of that sum in a sandbox is worth. -/
noncomputable def Try.pinned : Pinned := { name := "ytjepgnfgalnjhaa", sum := "0b95ff74f30ae0745b063417ef90c9824da41c89fbb16a1d4c5d8c918ec42e0a", checked := Try.checked }
namespace Rows
def none {H : Type} : Left H := { results := [], args := [] }

/-- 'laws.FnExactNatMul': WHATEVER THE INPUT: true; the input reads as it did. -/
def fnExactNatMulSpec : ChangeSpec := { name := "fnExactNatMul", fn := fun _ => fun
  | [d1, d2] => { results := [.lit (.bool true)], args := [d1, d2] }
  | _ => none }
def fnExactNatMulRow : OpenClaim := { program := "ytjepgnfgalnjhaa", sum := "0b95ff74f30ae0745b063417ef90c9824da41c89fbb16a1d4c5d8c918ec42e0a", func := "loop.example/g00382/laws.FnExactNatMul", spec := "fnExactNatMul", unfollowed := true, recurses := true, apart := false }
def FnExactNatMulSaid : Prop := fnExactNatMulRow.holds Try.pinned (OpenSpec.ofChange fnExactNatMulSpec)

/-- ITS FALSE NEIGHBOUR: 'it returns false'. Refute it at one input. -/
def fnExactNatMulWrong : ChangeSpec := { name := "fnExactNatMul", fn := fun _ => fun
  | [d1, d2] => { results := [.lit (.bool false)], args := [d1, d2] }
  | _ => none }
def FnExactNatMulWrongFalsely : Prop := fnExactNatMulRow.holds Try.pinned (OpenSpec.ofChange fnExactNatMulWrong)

/-- 'laws.FnExactNatAdd': WHATEVER THE INPUT: true; the input reads as it did. -/
def fnExactNatAddSpec : ChangeSpec := { name := "fnExactNatAdd", fn := fun _ => fun
  | [d1, d2] => { results := [.lit (.bool true)], args := [d1, d2] }
  | _ => none }
def fnExactNatAddRow : OpenClaim := { program := "ytjepgnfgalnjhaa", sum := "0b95ff74f30ae0745b063417ef90c9824da41c89fbb16a1d4c5d8c918ec42e0a", func := "loop.example/g00382/laws.FnExactNatAdd", spec := "fnExactNatAdd", unfollowed := true, recurses := true, apart := false }
def FnExactNatAddSaid : Prop := fnExactNatAddRow.holds Try.pinned (OpenSpec.ofChange fnExactNatAddSpec)

/-- ITS FALSE NEIGHBOUR: 'it returns false'. Refute it at one input. -/
def fnExactNatAddWrong : ChangeSpec := { name := "fnExactNatAdd", fn := fun _ => fun
  | [d1, d2] => { results := [.lit (.bool false)], args := [d1, d2] }
  | _ => none }
def FnExactNatAddWrongFalsely : Prop := fnExactNatAddRow.holds Try.pinned (OpenSpec.ofChange fnExactNatAddWrong)

/-- 'laws.FnExactNatSub': WHATEVER THE INPUT: true; the input reads as it did. -/
def fnExactNatSubSpec : ChangeSpec := { name := "fnExactNatSub", fn := fun _ => fun
  | [d1, d2] => { results := [.lit (.bool true)], args := [d1, d2] }
  | _ => none }
def fnExactNatSubRow : OpenClaim := { program := "ytjepgnfgalnjhaa", sum := "0b95ff74f30ae0745b063417ef90c9824da41c89fbb16a1d4c5d8c918ec42e0a", func := "loop.example/g00382/laws.FnExactNatSub", spec := "fnExactNatSub", unfollowed := true, recurses := true, apart := false }
def FnExactNatSubSaid : Prop := fnExactNatSubRow.holds Try.pinned (OpenSpec.ofChange fnExactNatSubSpec)

/-- ITS FALSE NEIGHBOUR: 'it returns false'. Refute it at one input. -/
def fnExactNatSubWrong : ChangeSpec := { name := "fnExactNatSub", fn := fun _ => fun
  | [d1, d2] => { results := [.lit (.bool false)], args := [d1, d2] }
  | _ => none }
def FnExactNatSubWrongFalsely : Prop := fnExactNatSubRow.holds Try.pinned (OpenSpec.ofChange fnExactNatSubWrong)

/-- 'laws.FnExactNatRead': WHATEVER THE INPUT: true; the input reads as it did. -/
def fnExactNatReadSpec : ChangeSpec := { name := "fnExactNatRead", fn := fun _ => fun
  | [d] => { results := [.lit (.bool true)], args := [d] }
  | _ => none }
def fnExactNatReadRow : OpenClaim := { program := "ytjepgnfgalnjhaa", sum := "0b95ff74f30ae0745b063417ef90c9824da41c89fbb16a1d4c5d8c918ec42e0a", func := "loop.example/g00382/laws.FnExactNatRead", spec := "fnExactNatRead", unfollowed := true, recurses := true, apart := false }
def FnExactNatReadSaid : Prop := fnExactNatReadRow.holds Try.pinned (OpenSpec.ofChange fnExactNatReadSpec)

/-- ITS FALSE NEIGHBOUR: 'it returns false'. Refute it at one input. -/
def fnExactNatReadWrong : ChangeSpec := { name := "fnExactNatRead", fn := fun _ => fun
  | [d] => { results := [.lit (.bool false)], args := [d] }
  | _ => none }
def FnExactNatReadWrongFalsely : Prop := fnExactNatReadRow.holds Try.pinned (OpenSpec.ofChange fnExactNatReadWrong)

/-- 'laws.FnExactNatPow': WHATEVER THE INPUT: true; the input reads as it did. -/
def fnExactNatPowSpec : ChangeSpec := { name := "fnExactNatPow", fn := fun _ => fun
  | [d1, d2] => { results := [.lit (.bool true)], args := [d1, d2] }
  | _ => none }
def fnExactNatPowRow : OpenClaim := { program := "ytjepgnfgalnjhaa", sum := "0b95ff74f30ae0745b063417ef90c9824da41c89fbb16a1d4c5d8c918ec42e0a", func := "loop.example/g00382/laws.FnExactNatPow", spec := "fnExactNatPow", unfollowed := true, recurses := true, apart := false }
def FnExactNatPowSaid : Prop := fnExactNatPowRow.holds Try.pinned (OpenSpec.ofChange fnExactNatPowSpec)

/-- ITS FALSE NEIGHBOUR: 'it returns false'. Refute it at one input. -/
def fnExactNatPowWrong : ChangeSpec := { name := "fnExactNatPow", fn := fun _ => fun
  | [d1, d2] => { results := [.lit (.bool false)], args := [d1, d2] }
  | _ => none }
def FnExactNatPowWrongFalsely : Prop := fnExactNatPowRow.holds Try.pinned (OpenSpec.ofChange fnExactNatPowWrong)

/-- 'laws.FnNatPows': WHATEVER THE INPUT: true; the input reads as it did. -/
def fnNatPowsSpec : ChangeSpec := { name := "fnNatPows", fn := fun _ => fun
  | [d] => { results := [.lit (.bool true)], args := [d] }
  | _ => none }
def fnNatPowsRow : OpenClaim := { program := "ytjepgnfgalnjhaa", sum := "0b95ff74f30ae0745b063417ef90c9824da41c89fbb16a1d4c5d8c918ec42e0a", func := "loop.example/g00382/laws.FnNatPows", spec := "fnNatPows", unfollowed := true, recurses := true, apart := false }
def FnNatPowsSaid : Prop := fnNatPowsRow.holds Try.pinned (OpenSpec.ofChange fnNatPowsSpec)

/-- ITS FALSE NEIGHBOUR: 'it returns false'. Refute it at one input. -/
def fnNatPowsWrong : ChangeSpec := { name := "fnNatPows", fn := fun _ => fun
  | [d] => { results := [.lit (.bool false)], args := [d] }
  | _ => none }
def FnNatPowsWrongFalsely : Prop := fnNatPowsRow.holds Try.pinned (OpenSpec.ofChange fnNatPowsWrong)

/-- 'laws.FnNatRing': WHATEVER THE INPUT: true; the input reads as it did. -/
def fnNatRingSpec : ChangeSpec := { name := "fnNatRing", fn := fun _ => fun
  | [d] => { results := [.lit (.bool true)], args := [d] }
  | _ => none }
def fnNatRingRow : OpenClaim := { program := "ytjepgnfgalnjhaa", sum := "0b95ff74f30ae0745b063417ef90c9824da41c89fbb16a1d4c5d8c918ec42e0a", func := "loop.example/g00382/laws.FnNatRing", spec := "fnNatRing", unfollowed := true, recurses := true, apart := false }
def FnNatRingSaid : Prop := fnNatRingRow.holds Try.pinned (OpenSpec.ofChange fnNatRingSpec)

/-- ITS FALSE NEIGHBOUR: 'it returns false'. Refute it at one input. -/
def fnNatRingWrong : ChangeSpec := { name := "fnNatRing", fn := fun _ => fun
  | [d] => { results := [.lit (.bool false)], args := [d] }
  | _ => none }
def FnNatRingWrongFalsely : Prop := fnNatRingRow.holds Try.pinned (OpenSpec.ofChange fnNatRingWrong)

/-- 'laws.FnNatTexts': WHATEVER THE INPUT: true; the input reads as it did. -/
def fnNatTextsSpec : ChangeSpec := { name := "fnNatTexts", fn := fun _ => fun
  | [d] => { results := [.lit (.bool true)], args := [d] }
  | _ => none }
def fnNatTextsRow : OpenClaim := { program := "ytjepgnfgalnjhaa", sum := "0b95ff74f30ae0745b063417ef90c9824da41c89fbb16a1d4c5d8c918ec42e0a", func := "loop.example/g00382/laws.FnNatTexts", spec := "fnNatTexts", unfollowed := true, recurses := true, apart := false }
def FnNatTextsSaid : Prop := fnNatTextsRow.holds Try.pinned (OpenSpec.ofChange fnNatTextsSpec)

/-- ITS FALSE NEIGHBOUR: 'it returns false'. Refute it at one input. -/
def fnNatTextsWrong : ChangeSpec := { name := "fnNatTexts", fn := fun _ => fun
  | [d] => { results := [.lit (.bool false)], args := [d] }
  | _ => none }
def FnNatTextsWrongFalsely : Prop := fnNatTextsRow.holds Try.pinned (OpenSpec.ofChange fnNatTextsWrong)

/-- 'laws.FnNatOrder': WHATEVER THE INPUT: true; the input reads as it did. -/
def fnNatOrderSpec : ChangeSpec := { name := "fnNatOrder", fn := fun _ => fun
  | [d] => { results := [.lit (.bool true)], args := [d] }
  | _ => none }
def fnNatOrderRow : OpenClaim := { program := "ytjepgnfgalnjhaa", sum := "0b95ff74f30ae0745b063417ef90c9824da41c89fbb16a1d4c5d8c918ec42e0a", func := "loop.example/g00382/laws.FnNatOrder", spec := "fnNatOrder", unfollowed := true, recurses := true, apart := false }
def FnNatOrderSaid : Prop := fnNatOrderRow.holds Try.pinned (OpenSpec.ofChange fnNatOrderSpec)

/-- ITS FALSE NEIGHBOUR: 'it returns false'. Refute it at one input. -/
def fnNatOrderWrong : ChangeSpec := { name := "fnNatOrder", fn := fun _ => fun
  | [d] => { results := [.lit (.bool false)], args := [d] }
  | _ => none }
def FnNatOrderWrongFalsely : Prop := fnNatOrderRow.holds Try.pinned (OpenSpec.ofChange fnNatOrderWrong)

/-- 'laws.FnExactWholeAdd': WHATEVER THE INPUT: true; the input reads as it did. -/
def fnExactWholeAddSpec : ChangeSpec := { name := "fnExactWholeAdd", fn := fun _ => fun
  | [d1, d2] => { results := [.lit (.bool true)], args := [d1, d2] }
  | _ => none }
def fnExactWholeAddRow : OpenClaim := { program := "ytjepgnfgalnjhaa", sum := "0b95ff74f30ae0745b063417ef90c9824da41c89fbb16a1d4c5d8c918ec42e0a", func := "loop.example/g00382/laws.FnExactWholeAdd", spec := "fnExactWholeAdd", unfollowed := true, recurses := true, apart := false }
def FnExactWholeAddSaid : Prop := fnExactWholeAddRow.holds Try.pinned (OpenSpec.ofChange fnExactWholeAddSpec)

/-- ITS FALSE NEIGHBOUR: 'it returns false'. Refute it at one input. -/
def fnExactWholeAddWrong : ChangeSpec := { name := "fnExactWholeAdd", fn := fun _ => fun
  | [d1, d2] => { results := [.lit (.bool false)], args := [d1, d2] }
  | _ => none }
def FnExactWholeAddWrongFalsely : Prop := fnExactWholeAddRow.holds Try.pinned (OpenSpec.ofChange fnExactWholeAddWrong)

/-- 'laws.FnExactWholeSub': WHATEVER THE INPUT: true; the input reads as it did. -/
def fnExactWholeSubSpec : ChangeSpec := { name := "fnExactWholeSub", fn := fun _ => fun
  | [d1, d2] => { results := [.lit (.bool true)], args := [d1, d2] }
  | _ => none }
def fnExactWholeSubRow : OpenClaim := { program := "ytjepgnfgalnjhaa", sum := "0b95ff74f30ae0745b063417ef90c9824da41c89fbb16a1d4c5d8c918ec42e0a", func := "loop.example/g00382/laws.FnExactWholeSub", spec := "fnExactWholeSub", unfollowed := true, recurses := true, apart := false }
def FnExactWholeSubSaid : Prop := fnExactWholeSubRow.holds Try.pinned (OpenSpec.ofChange fnExactWholeSubSpec)

/-- ITS FALSE NEIGHBOUR: 'it returns false'. Refute it at one input. -/
def fnExactWholeSubWrong : ChangeSpec := { name := "fnExactWholeSub", fn := fun _ => fun
  | [d1, d2] => { results := [.lit (.bool false)], args := [d1, d2] }
  | _ => none }
def FnExactWholeSubWrongFalsely : Prop := fnExactWholeSubRow.holds Try.pinned (OpenSpec.ofChange fnExactWholeSubWrong)

/-- 'laws.FnExactWholeMul': WHATEVER THE INPUT: true; the input reads as it did. -/
def fnExactWholeMulSpec : ChangeSpec := { name := "fnExactWholeMul", fn := fun _ => fun
  | [d1, d2] => { results := [.lit (.bool true)], args := [d1, d2] }
  | _ => none }
def fnExactWholeMulRow : OpenClaim := { program := "ytjepgnfgalnjhaa", sum := "0b95ff74f30ae0745b063417ef90c9824da41c89fbb16a1d4c5d8c918ec42e0a", func := "loop.example/g00382/laws.FnExactWholeMul", spec := "fnExactWholeMul", unfollowed := true, recurses := true, apart := false }
def FnExactWholeMulSaid : Prop := fnExactWholeMulRow.holds Try.pinned (OpenSpec.ofChange fnExactWholeMulSpec)

/-- ITS FALSE NEIGHBOUR: 'it returns false'. Refute it at one input. -/
def fnExactWholeMulWrong : ChangeSpec := { name := "fnExactWholeMul", fn := fun _ => fun
  | [d1, d2] => { results := [.lit (.bool false)], args := [d1, d2] }
  | _ => none }
def FnExactWholeMulWrongFalsely : Prop := fnExactWholeMulRow.holds Try.pinned (OpenSpec.ofChange fnExactWholeMulWrong)

/- THE SECOND FORM. 'bulk': how many values and letters a reading holds, each counted each time it is reached (what is shared counts as often as it is met; a slice's spare places count too). A statement '..UptoSaid' is the law's where the arguments, and the package variables that the reading takes, are together of bulk at most 1048576: NARROWER than '..Said'. Prove '..Said' where nothing that the law and all that it calls make is longer than what came in: it says more and counts as full. Else prove '..UptoSaid'. A law counts once. -/
mutual
def uptoBulk {H : Type} : DataW H → Nat
  | .lit (.string bytes) => bytes.length + 1
  | .lit _ => 1
  | .nil => 1
  | .ptr d => uptoBulk d + 1
  | .slice elems spare => uptoBulkAll elems + uptoBulkAll spare + 1
  | .agg parts => uptoBulkAll parts + 1
  | .iface _ d => uptoBulk d + 1
  | .map entries => uptoBulkEntries entries + 1
  | .held _ => 1
def uptoBulkAll {H : Type} : List (DataW H) → Nat
  | [] => 0
  | d :: r => uptoBulk d + uptoBulkAll r
def uptoBulkEntries {H : Type} : List (Lit × DataW H) → Nat
  | [] => 0
  | x :: r => uptoBulkEntry x + uptoBulkEntries r
def uptoBulkEntry {H : Type} : Lit × DataW H → Nat
  | (.string bytes, d) => bytes.length + uptoBulk d + 1
  | (_, d) => uptoBulk d + 1
 end
def uptoSmall : (H : Type) → List (DataW H) → Bool := fun _ ds => decide (uptoBulkAll ds ≤ 1048576)
def OpenSpec.upto (s : _root_.Go.ChangeSpec) : _root_.Go.OpenSpec := { _root_.Go.OpenSpec.ofChange s with cond := some uptoSmall }

/-- 'laws.FnExactNatMul', WHERE WHAT IT READS IS OF BULK AT MOST 1048576: true; the input reads as it did. -/
def fnExactNatMulUptoRow : OpenClaim := { program := "ytjepgnfgalnjhaa", sum := "0b95ff74f30ae0745b063417ef90c9824da41c89fbb16a1d4c5d8c918ec42e0a", func := "loop.example/g00382/laws.FnExactNatMul", spec := "fnExactNatMul", unfollowed := true, recurses := true, apart := false, narrowed := true }
def FnExactNatMulUptoSaid : Prop := fnExactNatMulUptoRow.holds Try.pinned (OpenSpec.upto fnExactNatMulSpec)

/-- 'laws.FnExactNatAdd', WHERE WHAT IT READS IS OF BULK AT MOST 1048576: true; the input reads as it did. -/
def fnExactNatAddUptoRow : OpenClaim := { program := "ytjepgnfgalnjhaa", sum := "0b95ff74f30ae0745b063417ef90c9824da41c89fbb16a1d4c5d8c918ec42e0a", func := "loop.example/g00382/laws.FnExactNatAdd", spec := "fnExactNatAdd", unfollowed := true, recurses := true, apart := false, narrowed := true }
def FnExactNatAddUptoSaid : Prop := fnExactNatAddUptoRow.holds Try.pinned (OpenSpec.upto fnExactNatAddSpec)

/-- 'laws.FnExactNatSub', WHERE WHAT IT READS IS OF BULK AT MOST 1048576: true; the input reads as it did. -/
def fnExactNatSubUptoRow : OpenClaim := { program := "ytjepgnfgalnjhaa", sum := "0b95ff74f30ae0745b063417ef90c9824da41c89fbb16a1d4c5d8c918ec42e0a", func := "loop.example/g00382/laws.FnExactNatSub", spec := "fnExactNatSub", unfollowed := true, recurses := true, apart := false, narrowed := true }
def FnExactNatSubUptoSaid : Prop := fnExactNatSubUptoRow.holds Try.pinned (OpenSpec.upto fnExactNatSubSpec)

/-- 'laws.FnExactNatRead', WHERE WHAT IT READS IS OF BULK AT MOST 1048576: true; the input reads as it did. -/
def fnExactNatReadUptoRow : OpenClaim := { program := "ytjepgnfgalnjhaa", sum := "0b95ff74f30ae0745b063417ef90c9824da41c89fbb16a1d4c5d8c918ec42e0a", func := "loop.example/g00382/laws.FnExactNatRead", spec := "fnExactNatRead", unfollowed := true, recurses := true, apart := false, narrowed := true }
def FnExactNatReadUptoSaid : Prop := fnExactNatReadUptoRow.holds Try.pinned (OpenSpec.upto fnExactNatReadSpec)

/-- 'laws.FnExactNatPow', WHERE WHAT IT READS IS OF BULK AT MOST 1048576: true; the input reads as it did. -/
def fnExactNatPowUptoRow : OpenClaim := { program := "ytjepgnfgalnjhaa", sum := "0b95ff74f30ae0745b063417ef90c9824da41c89fbb16a1d4c5d8c918ec42e0a", func := "loop.example/g00382/laws.FnExactNatPow", spec := "fnExactNatPow", unfollowed := true, recurses := true, apart := false, narrowed := true }
def FnExactNatPowUptoSaid : Prop := fnExactNatPowUptoRow.holds Try.pinned (OpenSpec.upto fnExactNatPowSpec)

/-- 'laws.FnNatPows', WHERE WHAT IT READS IS OF BULK AT MOST 1048576: true; the input reads as it did. -/
def fnNatPowsUptoRow : OpenClaim := { program := "ytjepgnfgalnjhaa", sum := "0b95ff74f30ae0745b063417ef90c9824da41c89fbb16a1d4c5d8c918ec42e0a", func := "loop.example/g00382/laws.FnNatPows", spec := "fnNatPows", unfollowed := true, recurses := true, apart := false, narrowed := true }
def FnNatPowsUptoSaid : Prop := fnNatPowsUptoRow.holds Try.pinned (OpenSpec.upto fnNatPowsSpec)

/-- 'laws.FnNatRing', WHERE WHAT IT READS IS OF BULK AT MOST 1048576: true; the input reads as it did. -/
def fnNatRingUptoRow : OpenClaim := { program := "ytjepgnfgalnjhaa", sum := "0b95ff74f30ae0745b063417ef90c9824da41c89fbb16a1d4c5d8c918ec42e0a", func := "loop.example/g00382/laws.FnNatRing", spec := "fnNatRing", unfollowed := true, recurses := true, apart := false, narrowed := true }
def FnNatRingUptoSaid : Prop := fnNatRingUptoRow.holds Try.pinned (OpenSpec.upto fnNatRingSpec)

/-- 'laws.FnNatTexts', WHERE WHAT IT READS IS OF BULK AT MOST 1048576: true; the input reads as it did. -/
def fnNatTextsUptoRow : OpenClaim := { program := "ytjepgnfgalnjhaa", sum := "0b95ff74f30ae0745b063417ef90c9824da41c89fbb16a1d4c5d8c918ec42e0a", func := "loop.example/g00382/laws.FnNatTexts", spec := "fnNatTexts", unfollowed := true, recurses := true, apart := false, narrowed := true }
def FnNatTextsUptoSaid : Prop := fnNatTextsUptoRow.holds Try.pinned (OpenSpec.upto fnNatTextsSpec)

/-- 'laws.FnNatOrder', WHERE WHAT IT READS IS OF BULK AT MOST 1048576: true; the input reads as it did. -/
def fnNatOrderUptoRow : OpenClaim := { program := "ytjepgnfgalnjhaa", sum := "0b95ff74f30ae0745b063417ef90c9824da41c89fbb16a1d4c5d8c918ec42e0a", func := "loop.example/g00382/laws.FnNatOrder", spec := "fnNatOrder", unfollowed := true, recurses := true, apart := false, narrowed := true }
def FnNatOrderUptoSaid : Prop := fnNatOrderUptoRow.holds Try.pinned (OpenSpec.upto fnNatOrderSpec)

/-- 'laws.FnExactWholeAdd', WHERE WHAT IT READS IS OF BULK AT MOST 1048576: true; the input reads as it did. -/
def fnExactWholeAddUptoRow : OpenClaim := { program := "ytjepgnfgalnjhaa", sum := "0b95ff74f30ae0745b063417ef90c9824da41c89fbb16a1d4c5d8c918ec42e0a", func := "loop.example/g00382/laws.FnExactWholeAdd", spec := "fnExactWholeAdd", unfollowed := true, recurses := true, apart := false, narrowed := true }
def FnExactWholeAddUptoSaid : Prop := fnExactWholeAddUptoRow.holds Try.pinned (OpenSpec.upto fnExactWholeAddSpec)

/-- 'laws.FnExactWholeSub', WHERE WHAT IT READS IS OF BULK AT MOST 1048576: true; the input reads as it did. -/
def fnExactWholeSubUptoRow : OpenClaim := { program := "ytjepgnfgalnjhaa", sum := "0b95ff74f30ae0745b063417ef90c9824da41c89fbb16a1d4c5d8c918ec42e0a", func := "loop.example/g00382/laws.FnExactWholeSub", spec := "fnExactWholeSub", unfollowed := true, recurses := true, apart := false, narrowed := true }
def FnExactWholeSubUptoSaid : Prop := fnExactWholeSubUptoRow.holds Try.pinned (OpenSpec.upto fnExactWholeSubSpec)

/-- 'laws.FnExactWholeMul', WHERE WHAT IT READS IS OF BULK AT MOST 1048576: true; the input reads as it did. -/
def fnExactWholeMulUptoRow : OpenClaim := { program := "ytjepgnfgalnjhaa", sum := "0b95ff74f30ae0745b063417ef90c9824da41c89fbb16a1d4c5d8c918ec42e0a", func := "loop.example/g00382/laws.FnExactWholeMul", spec := "fnExactWholeMul", unfollowed := true, recurses := true, apart := false, narrowed := true }
def FnExactWholeMulUptoSaid : Prop := fnExactWholeMulUptoRow.holds Try.pinned (OpenSpec.upto fnExactWholeMulSpec)

end Rows
end Go.Proofs.Ytjepgnfgalnjhaa
