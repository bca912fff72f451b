/-
  NARROWER THAN 'FOR EVERY INPUT', by the rows' own cells (each row's printed sentence says how): FnDyRing: laid · FnExactIvOf: laid · FnExactIvJoin: laid · FnExactIvMeet: laid · FnExactIvMatOf: laid · FnExactMatId: laid · FnExactMatAt: laid · FnExactMatTurn: laid · FnExactMatMinor: laid · FnExactMatScale: laid.
  DERIVED. THE GIVEN ROWS OF THIS SEAT. 10 by the template 'for every input the law returns true; each argument reads behind the call as it read before'; 0 by the template 'total and deterministic' (their statements: YtidlnhhaegojjaaDoorTotals.lean).
  GIVEN WITH THE SEED: the statements are not yours to turn. If you find one false, say at which input.
  Laid BY PROGRAM, IN A SANDBOX (cutbox-rows.mjs): the forced cells as the released guide's own fill.sh prints them over the translation d7b350c4f9a17d36… (all of the seat's roots in one cut). By AI agents, Wed Nov 11 2026. No macro, syntax, notation, axiom, sorry.
-/
import Derived.Test.YtidlnhhaegojjaaDoorChecked
import GoSem.Claim
import GoSem.ClaimJoined
import GoSem.ClaimMapViews
import Derived.JoinedTies
import Derived.KernelRfl
namespace Go.Proofs.YtidlnhhaegojjaaDoor
/- THE CELL 'sum', in the pinned program and in every row, IS THE sha256 OF THE DUMP (.gsa) THAT YtidlnhhaegojjaaDoorProg.lean LOADS. Nothing in Lean hashes anything: it is a label: what it is worth is what the hold of that sum in a sandbox is worth. -/
noncomputable def Tryd.pinned : Pinned := { name := "ytidlnhhaegojjaadoor", sum := "d7b350c4f9a17d36e1ee382ea796efe54fbe342ff28a044632a2a13f732bed1b", checked := Tryd.checked }
namespace Rows
def none {H : Type} : Left H := { results := [], args := [] }

/- WHAT THE LISTED PACKAGE-LEVEL VARIABLES READ AS WHEN THE CALL BEGINS. Each datum BY PROGRAM (the guide's laid-datum.mjs) off the statement by which the dump's own 'gosem.cut.vars' lays the variable. In a bare row this is a premise. The card (YtidlnhhaegojjaaDoorCards.lean) ties it to the program's text. -/
def laid_math_bits_deBruijn32tab {H : Type} : DataW H := .agg [.lit (.int .u8 0), .lit (.int .u8 1), .lit (.int .u8 28), .lit (.int .u8 2), .lit (.int .u8 29), .lit (.int .u8 14), .lit (.int .u8 24), .lit (.int .u8 3), .lit (.int .u8 30), .lit (.int .u8 22), .lit (.int .u8 20), .lit (.int .u8 15), .lit (.int .u8 25), .lit (.int .u8 17), .lit (.int .u8 4), .lit (.int .u8 8), .lit (.int .u8 31), .lit (.int .u8 27), .lit (.int .u8 13), .lit (.int .u8 23), .lit (.int .u8 21), .lit (.int .u8 19), .lit (.int .u8 16), .lit (.int .u8 7), .lit (.int .u8 26), .lit (.int .u8 12), .lit (.int .u8 18), .lit (.int .u8 6), .lit (.int .u8 11), .lit (.int .u8 5), .lit (.int .u8 10), .lit (.int .u8 9)]
def laid_math_bits_deBruijn64tab {H : Type} : DataW H := .agg [.lit (.int .u8 0), .lit (.int .u8 1), .lit (.int .u8 56), .lit (.int .u8 2), .lit (.int .u8 57), .lit (.int .u8 49), .lit (.int .u8 28), .lit (.int .u8 3), .lit (.int .u8 61), .lit (.int .u8 58), .lit (.int .u8 42), .lit (.int .u8 50), .lit (.int .u8 38), .lit (.int .u8 29), .lit (.int .u8 17), .lit (.int .u8 4), .lit (.int .u8 62), .lit (.int .u8 47), .lit (.int .u8 59), .lit (.int .u8 36), .lit (.int .u8 45), .lit (.int .u8 43), .lit (.int .u8 51), .lit (.int .u8 22), .lit (.int .u8 53), .lit (.int .u8 39), .lit (.int .u8 33), .lit (.int .u8 30), .lit (.int .u8 24), .lit (.int .u8 18), .lit (.int .u8 12), .lit (.int .u8 5), .lit (.int .u8 63), .lit (.int .u8 55), .lit (.int .u8 48), .lit (.int .u8 27), .lit (.int .u8 60), .lit (.int .u8 41), .lit (.int .u8 37), .lit (.int .u8 16), .lit (.int .u8 46), .lit (.int .u8 35), .lit (.int .u8 44), .lit (.int .u8 21), .lit (.int .u8 52), .lit (.int .u8 32), .lit (.int .u8 23), .lit (.int .u8 11), .lit (.int .u8 54), .lit (.int .u8 26), .lit (.int .u8 40), .lit (.int .u8 15), .lit (.int .u8 34), .lit (.int .u8 20), .lit (.int .u8 31), .lit (.int .u8 10), .lit (.int .u8 25), .lit (.int .u8 14), .lit (.int .u8 19), .lit (.int .u8 9), .lit (.int .u8 13), .lit (.int .u8 8), .lit (.int .u8 7), .lit (.int .u8 6)]

/-- 'laws.FnDyRing': WHATEVER THE INPUT: true; the input reads as it did. -/
def fnDyRingSpec : ChangeSpec := { name := "fnDyRing", fn := fun _ => fun
  | [d] => { results := [.lit (.bool true)], args := [d] }
  | _ => none }
def fnDyRingRow : OpenClaim := { program := "ytidlnhhaegojjaadoor", sum := "d7b350c4f9a17d36e1ee382ea796efe54fbe342ff28a044632a2a13f732bed1b", func := "loop.example/g00382/laws.FnDyRing", spec := "fnDyRing", unfollowed := true, recurses := true, named := ["math/bits.deBruijn32tab", "math/bits.deBruijn64tab"], apart := false, laid := [("math/bits.deBruijn32tab", laid_math_bits_deBruijn32tab), ("math/bits.deBruijn64tab", laid_math_bits_deBruijn64tab)] }
def FnDyRingSaid : Prop := fnDyRingRow.holds Tryd.pinned (OpenSpec.ofChange fnDyRingSpec)

/-- ITS FALSE NEIGHBOUR: 'it returns false'. Refute it at one input. -/
def fnDyRingWrong : ChangeSpec := { name := "fnDyRing", fn := fun _ => fun
  | [d] => { results := [.lit (.bool false)], args := [d] }
  | _ => none }
def FnDyRingWrongFalsely : Prop := fnDyRingRow.holds Tryd.pinned (OpenSpec.ofChange fnDyRingWrong)

/-- 'laws.FnExactIvOf': WHATEVER THE INPUT: true; the input reads as it did. -/
def fnExactIvOfSpec : ChangeSpec := { name := "fnExactIvOf", fn := fun _ => fun
  | [d1, d2] => { results := [.lit (.bool true)], args := [d1, d2] }
  | _ => none }
def fnExactIvOfRow : OpenClaim := { program := "ytidlnhhaegojjaadoor", sum := "d7b350c4f9a17d36e1ee382ea796efe54fbe342ff28a044632a2a13f732bed1b", func := "loop.example/g00382/laws.FnExactIvOf", spec := "fnExactIvOf", unfollowed := true, recurses := true, named := ["math/bits.deBruijn32tab", "math/bits.deBruijn64tab"], apart := false, laid := [("math/bits.deBruijn32tab", laid_math_bits_deBruijn32tab), ("math/bits.deBruijn64tab", laid_math_bits_deBruijn64tab)] }
def FnExactIvOfSaid : Prop := fnExactIvOfRow.holds Tryd.pinned (OpenSpec.ofChange fnExactIvOfSpec)

/-- ITS FALSE NEIGHBOUR: 'it returns false'. Refute it at one input. -/
def fnExactIvOfWrong : ChangeSpec := { name := "fnExactIvOf", fn := fun _ => fun
  | [d1, d2] => { results := [.lit (.bool false)], args := [d1, d2] }
  | _ => none }
def FnExactIvOfWrongFalsely : Prop := fnExactIvOfRow.holds Tryd.pinned (OpenSpec.ofChange fnExactIvOfWrong)

/-- 'laws.FnExactIvJoin': WHATEVER THE INPUT: true; the input reads as it did. -/
def fnExactIvJoinSpec : ChangeSpec := { name := "fnExactIvJoin", fn := fun _ => fun
  | [d1, d2] => { results := [.lit (.bool true)], args := [d1, d2] }
  | _ => none }
def fnExactIvJoinRow : OpenClaim := { program := "ytidlnhhaegojjaadoor", sum := "d7b350c4f9a17d36e1ee382ea796efe54fbe342ff28a044632a2a13f732bed1b", func := "loop.example/g00382/laws.FnExactIvJoin", spec := "fnExactIvJoin", unfollowed := true, recurses := true, named := ["math/bits.deBruijn32tab", "math/bits.deBruijn64tab"], apart := false, laid := [("math/bits.deBruijn32tab", laid_math_bits_deBruijn32tab), ("math/bits.deBruijn64tab", laid_math_bits_deBruijn64tab)] }
def FnExactIvJoinSaid : Prop := fnExactIvJoinRow.holds Tryd.pinned (OpenSpec.ofChange fnExactIvJoinSpec)

/-- ITS FALSE NEIGHBOUR: 'it returns false'. Refute it at one input. -/
def fnExactIvJoinWrong : ChangeSpec := { name := "fnExactIvJoin", fn := fun _ => fun
  | [d1, d2] => { results := [.lit (.bool false)], args := [d1, d2] }
  | _ => none }
def FnExactIvJoinWrongFalsely : Prop := fnExactIvJoinRow.holds Tryd.pinned (OpenSpec.ofChange fnExactIvJoinWrong)

/-- 'laws.FnExactIvMeet': WHATEVER THE INPUT: true; the input reads as it did. -/
def fnExactIvMeetSpec : ChangeSpec := { name := "fnExactIvMeet", fn := fun _ => fun
  | [d1, d2] => { results := [.lit (.bool true)], args := [d1, d2] }
  | _ => none }
def fnExactIvMeetRow : OpenClaim := { program := "ytidlnhhaegojjaadoor", sum := "d7b350c4f9a17d36e1ee382ea796efe54fbe342ff28a044632a2a13f732bed1b", func := "loop.example/g00382/laws.FnExactIvMeet", spec := "fnExactIvMeet", unfollowed := true, recurses := true, named := ["math/bits.deBruijn32tab", "math/bits.deBruijn64tab"], apart := false, laid := [("math/bits.deBruijn32tab", laid_math_bits_deBruijn32tab), ("math/bits.deBruijn64tab", laid_math_bits_deBruijn64tab)] }
def FnExactIvMeetSaid : Prop := fnExactIvMeetRow.holds Tryd.pinned (OpenSpec.ofChange fnExactIvMeetSpec)

/-- ITS FALSE NEIGHBOUR: 'it returns false'. Refute it at one input. -/
def fnExactIvMeetWrong : ChangeSpec := { name := "fnExactIvMeet", fn := fun _ => fun
  | [d1, d2] => { results := [.lit (.bool false)], args := [d1, d2] }
  | _ => none }
def FnExactIvMeetWrongFalsely : Prop := fnExactIvMeetRow.holds Tryd.pinned (OpenSpec.ofChange fnExactIvMeetWrong)

/-- 'laws.FnExactIvMatOf': WHATEVER THE INPUT: true; the input reads as it did. -/
def fnExactIvMatOfSpec : ChangeSpec := { name := "fnExactIvMatOf", fn := fun _ => fun
  | [d] => { results := [.lit (.bool true)], args := [d] }
  | _ => none }
def fnExactIvMatOfRow : OpenClaim := { program := "ytidlnhhaegojjaadoor", sum := "d7b350c4f9a17d36e1ee382ea796efe54fbe342ff28a044632a2a13f732bed1b", func := "loop.example/g00382/laws.FnExactIvMatOf", spec := "fnExactIvMatOf", unfollowed := true, recurses := true, named := ["math/bits.deBruijn32tab", "math/bits.deBruijn64tab"], apart := false, laid := [("math/bits.deBruijn32tab", laid_math_bits_deBruijn32tab), ("math/bits.deBruijn64tab", laid_math_bits_deBruijn64tab)] }
def FnExactIvMatOfSaid : Prop := fnExactIvMatOfRow.holds Tryd.pinned (OpenSpec.ofChange fnExactIvMatOfSpec)

/-- ITS FALSE NEIGHBOUR: 'it returns false'. Refute it at one input. -/
def fnExactIvMatOfWrong : ChangeSpec := { name := "fnExactIvMatOf", fn := fun _ => fun
  | [d] => { results := [.lit (.bool false)], args := [d] }
  | _ => none }
def FnExactIvMatOfWrongFalsely : Prop := fnExactIvMatOfRow.holds Tryd.pinned (OpenSpec.ofChange fnExactIvMatOfWrong)

/-- 'laws.FnExactMatId': WHATEVER THE INPUT: true; the input reads as it did. -/
def fnExactMatIdSpec : ChangeSpec := { name := "fnExactMatId", fn := fun _ => fun
  | [d] => { results := [.lit (.bool true)], args := [d] }
  | _ => none }
def fnExactMatIdRow : OpenClaim := { program := "ytidlnhhaegojjaadoor", sum := "d7b350c4f9a17d36e1ee382ea796efe54fbe342ff28a044632a2a13f732bed1b", func := "loop.example/g00382/laws.FnExactMatId", spec := "fnExactMatId", unfollowed := true, recurses := true, named := ["math/bits.deBruijn32tab", "math/bits.deBruijn64tab"], apart := false, laid := [("math/bits.deBruijn32tab", laid_math_bits_deBruijn32tab), ("math/bits.deBruijn64tab", laid_math_bits_deBruijn64tab)] }
def FnExactMatIdSaid : Prop := fnExactMatIdRow.holds Tryd.pinned (OpenSpec.ofChange fnExactMatIdSpec)

/-- ITS FALSE NEIGHBOUR: 'it returns false'. Refute it at one input. -/
def fnExactMatIdWrong : ChangeSpec := { name := "fnExactMatId", fn := fun _ => fun
  | [d] => { results := [.lit (.bool false)], args := [d] }
  | _ => none }
def FnExactMatIdWrongFalsely : Prop := fnExactMatIdRow.holds Tryd.pinned (OpenSpec.ofChange fnExactMatIdWrong)

/-- 'laws.FnExactMatAt': WHATEVER THE INPUT: true; the input reads as it did. -/
def fnExactMatAtSpec : ChangeSpec := { name := "fnExactMatAt", fn := fun _ => fun
  | [d1, d2, d3] => { results := [.lit (.bool true)], args := [d1, d2, d3] }
  | _ => none }
def fnExactMatAtRow : OpenClaim := { program := "ytidlnhhaegojjaadoor", sum := "d7b350c4f9a17d36e1ee382ea796efe54fbe342ff28a044632a2a13f732bed1b", func := "loop.example/g00382/laws.FnExactMatAt", spec := "fnExactMatAt", unfollowed := true, recurses := true, named := ["math/bits.deBruijn32tab", "math/bits.deBruijn64tab"], apart := false, laid := [("math/bits.deBruijn32tab", laid_math_bits_deBruijn32tab), ("math/bits.deBruijn64tab", laid_math_bits_deBruijn64tab)] }
def FnExactMatAtSaid : Prop := fnExactMatAtRow.holds Tryd.pinned (OpenSpec.ofChange fnExactMatAtSpec)

/-- ITS FALSE NEIGHBOUR: 'it returns false'. Refute it at one input. -/
def fnExactMatAtWrong : ChangeSpec := { name := "fnExactMatAt", fn := fun _ => fun
  | [d1, d2, d3] => { results := [.lit (.bool false)], args := [d1, d2, d3] }
  | _ => none }
def FnExactMatAtWrongFalsely : Prop := fnExactMatAtRow.holds Tryd.pinned (OpenSpec.ofChange fnExactMatAtWrong)

/-- 'laws.FnExactMatTurn': WHATEVER THE INPUT: true; the input reads as it did. -/
def fnExactMatTurnSpec : ChangeSpec := { name := "fnExactMatTurn", fn := fun _ => fun
  | [d] => { results := [.lit (.bool true)], args := [d] }
  | _ => none }
def fnExactMatTurnRow : OpenClaim := { program := "ytidlnhhaegojjaadoor", sum := "d7b350c4f9a17d36e1ee382ea796efe54fbe342ff28a044632a2a13f732bed1b", func := "loop.example/g00382/laws.FnExactMatTurn", spec := "fnExactMatTurn", unfollowed := true, recurses := true, named := ["math/bits.deBruijn32tab", "math/bits.deBruijn64tab"], apart := false, laid := [("math/bits.deBruijn32tab", laid_math_bits_deBruijn32tab), ("math/bits.deBruijn64tab", laid_math_bits_deBruijn64tab)] }
def FnExactMatTurnSaid : Prop := fnExactMatTurnRow.holds Tryd.pinned (OpenSpec.ofChange fnExactMatTurnSpec)

/-- ITS FALSE NEIGHBOUR: 'it returns false'. Refute it at one input. -/
def fnExactMatTurnWrong : ChangeSpec := { name := "fnExactMatTurn", fn := fun _ => fun
  | [d] => { results := [.lit (.bool false)], args := [d] }
  | _ => none }
def FnExactMatTurnWrongFalsely : Prop := fnExactMatTurnRow.holds Tryd.pinned (OpenSpec.ofChange fnExactMatTurnWrong)

/-- 'laws.FnExactMatMinor': WHATEVER THE INPUT: true; the input reads as it did. -/
def fnExactMatMinorSpec : ChangeSpec := { name := "fnExactMatMinor", fn := fun _ => fun
  | [d1, d2, d3] => { results := [.lit (.bool true)], args := [d1, d2, d3] }
  | _ => none }
def fnExactMatMinorRow : OpenClaim := { program := "ytidlnhhaegojjaadoor", sum := "d7b350c4f9a17d36e1ee382ea796efe54fbe342ff28a044632a2a13f732bed1b", func := "loop.example/g00382/laws.FnExactMatMinor", spec := "fnExactMatMinor", unfollowed := true, recurses := true, named := ["math/bits.deBruijn32tab", "math/bits.deBruijn64tab"], apart := false, laid := [("math/bits.deBruijn32tab", laid_math_bits_deBruijn32tab), ("math/bits.deBruijn64tab", laid_math_bits_deBruijn64tab)] }
def FnExactMatMinorSaid : Prop := fnExactMatMinorRow.holds Tryd.pinned (OpenSpec.ofChange fnExactMatMinorSpec)

/-- ITS FALSE NEIGHBOUR: 'it returns false'. Refute it at one input. -/
def fnExactMatMinorWrong : ChangeSpec := { name := "fnExactMatMinor", fn := fun _ => fun
  | [d1, d2, d3] => { results := [.lit (.bool false)], args := [d1, d2, d3] }
  | _ => none }
def FnExactMatMinorWrongFalsely : Prop := fnExactMatMinorRow.holds Tryd.pinned (OpenSpec.ofChange fnExactMatMinorWrong)

/-- 'laws.FnExactMatScale': WHATEVER THE INPUT: true; the input reads as it did. -/
def fnExactMatScaleSpec : ChangeSpec := { name := "fnExactMatScale", fn := fun _ => fun
  | [d1, d2] => { results := [.lit (.bool true)], args := [d1, d2] }
  | _ => none }
def fnExactMatScaleRow : OpenClaim := { program := "ytidlnhhaegojjaadoor", sum := "d7b350c4f9a17d36e1ee382ea796efe54fbe342ff28a044632a2a13f732bed1b", func := "loop.example/g00382/laws.FnExactMatScale", spec := "fnExactMatScale", unfollowed := true, recurses := true, named := ["math/bits.deBruijn32tab", "math/bits.deBruijn64tab"], apart := false, laid := [("math/bits.deBruijn32tab", laid_math_bits_deBruijn32tab), ("math/bits.deBruijn64tab", laid_math_bits_deBruijn64tab)] }
def FnExactMatScaleSaid : Prop := fnExactMatScaleRow.holds Tryd.pinned (OpenSpec.ofChange fnExactMatScaleSpec)

/-- ITS FALSE NEIGHBOUR: 'it returns false'. Refute it at one input. -/
def fnExactMatScaleWrong : ChangeSpec := { name := "fnExactMatScale", fn := fun _ => fun
  | [d1, d2] => { results := [.lit (.bool false)], args := [d1, d2] }
  | _ => none }
def FnExactMatScaleWrongFalsely : Prop := fnExactMatScaleRow.holds Tryd.pinned (OpenSpec.ofChange fnExactMatScaleWrong)

/- THE SECOND FORM. 'bulk': how many values and letters a reading holds, each counted each time it is reached (what is shared counts as often as it is met; a slice's spare places count too). A statement '..UptoSaid' is the law's where the arguments, and the package variables that the reading takes, are together of bulk at most 1048576: NARROWER than '..Said'. Prove '..Said' where nothing that the law and all that it calls make is longer than what came in: it says more and counts as full. Else prove '..UptoSaid'. A law counts once. -/
mutual
def uptoBulk {H : Type} : DataW H → Nat
  | .lit (.string bytes) => bytes.length + 1
  | .lit _ => 1
  | .nil => 1
  | .ptr d => uptoBulk d + 1
  | .slice elems spare => uptoBulkAll elems + uptoBulkAll spare + 1
  | .agg parts => uptoBulkAll parts + 1
  | .iface _ d => uptoBulk d + 1
  | .map entries => uptoBulkEntries entries + 1
  | .held _ => 1
def uptoBulkAll {H : Type} : List (DataW H) → Nat
  | [] => 0
  | d :: r => uptoBulk d + uptoBulkAll r
def uptoBulkEntries {H : Type} : List (Lit × DataW H) → Nat
  | [] => 0
  | x :: r => uptoBulkEntry x + uptoBulkEntries r
def uptoBulkEntry {H : Type} : Lit × DataW H → Nat
  | (.string bytes, d) => bytes.length + uptoBulk d + 1
  | (_, d) => uptoBulk d + 1
 end
def uptoSmall : (H : Type) → List (DataW H) → Bool := fun _ ds => decide (uptoBulkAll ds ≤ 1048576)
def OpenSpec.upto (s : _root_.Go.ChangeSpec) : _root_.Go.OpenSpec := { _root_.Go.OpenSpec.ofChange s with cond := some uptoSmall }

/-- 'laws.FnDyRing', WHERE WHAT IT READS IS OF BULK AT MOST 1048576: true; the input reads as it did. -/
def fnDyRingUptoRow : OpenClaim := { program := "ytidlnhhaegojjaadoor", sum := "d7b350c4f9a17d36e1ee382ea796efe54fbe342ff28a044632a2a13f732bed1b", func := "loop.example/g00382/laws.FnDyRing", spec := "fnDyRing", unfollowed := true, recurses := true, named := ["math/bits.deBruijn32tab", "math/bits.deBruijn64tab"], apart := false, laid := [("math/bits.deBruijn32tab", laid_math_bits_deBruijn32tab), ("math/bits.deBruijn64tab", laid_math_bits_deBruijn64tab)], narrowed := true }
def FnDyRingUptoSaid : Prop := fnDyRingUptoRow.holds Tryd.pinned (OpenSpec.upto fnDyRingSpec)

/-- 'laws.FnExactIvOf', WHERE WHAT IT READS IS OF BULK AT MOST 1048576: true; the input reads as it did. -/
def fnExactIvOfUptoRow : OpenClaim := { program := "ytidlnhhaegojjaadoor", sum := "d7b350c4f9a17d36e1ee382ea796efe54fbe342ff28a044632a2a13f732bed1b", func := "loop.example/g00382/laws.FnExactIvOf", spec := "fnExactIvOf", unfollowed := true, recurses := true, named := ["math/bits.deBruijn32tab", "math/bits.deBruijn64tab"], apart := false, laid := [("math/bits.deBruijn32tab", laid_math_bits_deBruijn32tab), ("math/bits.deBruijn64tab", laid_math_bits_deBruijn64tab)], narrowed := true }
def FnExactIvOfUptoSaid : Prop := fnExactIvOfUptoRow.holds Tryd.pinned (OpenSpec.upto fnExactIvOfSpec)

/-- 'laws.FnExactIvJoin', WHERE WHAT IT READS IS OF BULK AT MOST 1048576: true; the input reads as it did. -/
def fnExactIvJoinUptoRow : OpenClaim := { program := "ytidlnhhaegojjaadoor", sum := "d7b350c4f9a17d36e1ee382ea796efe54fbe342ff28a044632a2a13f732bed1b", func := "loop.example/g00382/laws.FnExactIvJoin", spec := "fnExactIvJoin", unfollowed := true, recurses := true, named := ["math/bits.deBruijn32tab", "math/bits.deBruijn64tab"], apart := false, laid := [("math/bits.deBruijn32tab", laid_math_bits_deBruijn32tab), ("math/bits.deBruijn64tab", laid_math_bits_deBruijn64tab)], narrowed := true }
def FnExactIvJoinUptoSaid : Prop := fnExactIvJoinUptoRow.holds Tryd.pinned (OpenSpec.upto fnExactIvJoinSpec)

/-- 'laws.FnExactIvMeet', WHERE WHAT IT READS IS OF BULK AT MOST 1048576: true; the input reads as it did. -/
def fnExactIvMeetUptoRow : OpenClaim := { program := "ytidlnhhaegojjaadoor", sum := "d7b350c4f9a17d36e1ee382ea796efe54fbe342ff28a044632a2a13f732bed1b", func := "loop.example/g00382/laws.FnExactIvMeet", spec := "fnExactIvMeet", unfollowed := true, recurses := true, named := ["math/bits.deBruijn32tab", "math/bits.deBruijn64tab"], apart := false, laid := [("math/bits.deBruijn32tab", laid_math_bits_deBruijn32tab), ("math/bits.deBruijn64tab", laid_math_bits_deBruijn64tab)], narrowed := true }
def FnExactIvMeetUptoSaid : Prop := fnExactIvMeetUptoRow.holds Tryd.pinned (OpenSpec.upto fnExactIvMeetSpec)

/-- 'laws.FnExactIvMatOf', WHERE WHAT IT READS IS OF BULK AT MOST 1048576: true; the input reads as it did. -/
def fnExactIvMatOfUptoRow : OpenClaim := { program := "ytidlnhhaegojjaadoor", sum := "d7b350c4f9a17d36e1ee382ea796efe54fbe342ff28a044632a2a13f732bed1b", func := "loop.example/g00382/laws.FnExactIvMatOf", spec := "fnExactIvMatOf", unfollowed := true, recurses := true, named := ["math/bits.deBruijn32tab", "math/bits.deBruijn64tab"], apart := false, laid := [("math/bits.deBruijn32tab", laid_math_bits_deBruijn32tab), ("math/bits.deBruijn64tab", laid_math_bits_deBruijn64tab)], narrowed := true }
def FnExactIvMatOfUptoSaid : Prop := fnExactIvMatOfUptoRow.holds Tryd.pinned (OpenSpec.upto fnExactIvMatOfSpec)

/-- 'laws.FnExactMatId', WHERE WHAT IT READS IS OF BULK AT MOST 1048576: true; the input reads as it did. -/
def fnExactMatIdUptoRow : OpenClaim := { program := "ytidlnhhaegojjaadoor", sum := "d7b350c4f9a17d36e1ee382ea796efe54fbe342ff28a044632a2a13f732bed1b", func := "loop.example/g00382/laws.FnExactMatId", spec := "fnExactMatId", unfollowed := true, recurses := true, named := ["math/bits.deBruijn32tab", "math/bits.deBruijn64tab"], apart := false, laid := [("math/bits.deBruijn32tab", laid_math_bits_deBruijn32tab), ("math/bits.deBruijn64tab", laid_math_bits_deBruijn64tab)], narrowed := true }
def FnExactMatIdUptoSaid : Prop := fnExactMatIdUptoRow.holds Tryd.pinned (OpenSpec.upto fnExactMatIdSpec)

/-- 'laws.FnExactMatAt', WHERE WHAT IT READS IS OF BULK AT MOST 1048576: true; the input reads as it did. -/
def fnExactMatAtUptoRow : OpenClaim := { program := "ytidlnhhaegojjaadoor", sum := "d7b350c4f9a17d36e1ee382ea796efe54fbe342ff28a044632a2a13f732bed1b", func := "loop.example/g00382/laws.FnExactMatAt", spec := "fnExactMatAt", unfollowed := true, recurses := true, named := ["math/bits.deBruijn32tab", "math/bits.deBruijn64tab"], apart := false, laid := [("math/bits.deBruijn32tab", laid_math_bits_deBruijn32tab), ("math/bits.deBruijn64tab", laid_math_bits_deBruijn64tab)], narrowed := true }
def FnExactMatAtUptoSaid : Prop := fnExactMatAtUptoRow.holds Tryd.pinned (OpenSpec.upto fnExactMatAtSpec)

/-- 'laws.FnExactMatTurn', WHERE WHAT IT READS IS OF BULK AT MOST 1048576: true; the input reads as it did. -/
def fnExactMatTurnUptoRow : OpenClaim := { program := "ytidlnhhaegojjaadoor", sum := "d7b350c4f9a17d36e1ee382ea796efe54fbe342ff28a044632a2a13f732bed1b", func := "loop.example/g00382/laws.FnExactMatTurn", spec := "fnExactMatTurn", unfollowed := true, recurses := true, named := ["math/bits.deBruijn32tab", "math/bits.deBruijn64tab"], apart := false, laid := [("math/bits.deBruijn32tab", laid_math_bits_deBruijn32tab), ("math/bits.deBruijn64tab", laid_math_bits_deBruijn64tab)], narrowed := true }
def FnExactMatTurnUptoSaid : Prop := fnExactMatTurnUptoRow.holds Tryd.pinned (OpenSpec.upto fnExactMatTurnSpec)

/-- 'laws.FnExactMatMinor', WHERE WHAT IT READS IS OF BULK AT MOST 1048576: true; the input reads as it did. -/
def fnExactMatMinorUptoRow : OpenClaim := { program := "ytidlnhhaegojjaadoor", sum := "d7b350c4f9a17d36e1ee382ea796efe54fbe342ff28a044632a2a13f732bed1b", func := "loop.example/g00382/laws.FnExactMatMinor", spec := "fnExactMatMinor", unfollowed := true, recurses := true, named := ["math/bits.deBruijn32tab", "math/bits.deBruijn64tab"], apart := false, laid := [("math/bits.deBruijn32tab", laid_math_bits_deBruijn32tab), ("math/bits.deBruijn64tab", laid_math_bits_deBruijn64tab)], narrowed := true }
def FnExactMatMinorUptoSaid : Prop := fnExactMatMinorUptoRow.holds Tryd.pinned (OpenSpec.upto fnExactMatMinorSpec)

/-- 'laws.FnExactMatScale', WHERE WHAT IT READS IS OF BULK AT MOST 1048576: true; the input reads as it did. -/
def fnExactMatScaleUptoRow : OpenClaim := { program := "ytidlnhhaegojjaadoor", sum := "d7b350c4f9a17d36e1ee382ea796efe54fbe342ff28a044632a2a13f732bed1b", func := "loop.example/g00382/laws.FnExactMatScale", spec := "fnExactMatScale", unfollowed := true, recurses := true, named := ["math/bits.deBruijn32tab", "math/bits.deBruijn64tab"], apart := false, laid := [("math/bits.deBruijn32tab", laid_math_bits_deBruijn32tab), ("math/bits.deBruijn64tab", laid_math_bits_deBruijn64tab)], narrowed := true }
def FnExactMatScaleUptoSaid : Prop := fnExactMatScaleUptoRow.holds Tryd.pinned (OpenSpec.upto fnExactMatScaleSpec)

end Rows
end Go.Proofs.YtidlnhhaegojjaaDoor
