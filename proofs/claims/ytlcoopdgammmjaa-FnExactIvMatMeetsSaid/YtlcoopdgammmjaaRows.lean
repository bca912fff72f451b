/-
  No cell of these rows narrows 'for every input' (looked for: loops, veiled, ifaces, maps, wideKeys, modest, calm, conditions, laid).
  DERIVED. THE GIVEN ROWS OF THIS SEAT. 6 by the template 'for every input the law returns true; each argument reads behind the call as it read before'; 0 by the template 'total and deterministic' (their statements: YtlcoopdgammmjaaTotals.lean).
  GIVEN WITH THE SEED: the statements are not yours to turn. If you find one false, say at which input.
  Laid BY PROGRAM, IN A SANDBOX (cutbox-rows.mjs): the forced cells as the released guide's own fill.sh prints them over the translation 883dda1c95614ba6… (all of the seat's roots in one cut). By AI agents, Wed Nov 11 2026. No macro, syntax, notation, axiom, sorry.
-/
import Derived.Test.YtlcoopdgammmjaaChecked
import GoSem.Claim
import GoSem.ClaimJoined
import GoSem.ClaimMapViews
import Derived.JoinedTies
import Derived.KernelRfl
namespace Go.Proofs.Ytlcoopdgammmjaa
/- THE CELL 'sum', in the pinned program and in every row, IS THE sha256 OF THE DUMP (.gsa) THAT YtlcoopdgammmjaaProg.lean LOADS. Nothing in Lean hashes anything: it is a label: what it is worth is what the hold of that sum in a sandbox is worth. -/
noncomputable def Try.pinned : Pinned := { name := "ytlcoopdgammmjaa", sum := "883dda1c95614ba61fae56f0eaa5d623c3ac6796fdc36afadf29c33d647e1cd9", checked := Try.checked }
namespace Rows
def none {H : Type} : Left H := { results := [], args := [] }

/-- 'laws.FnExactIvOk': WHATEVER THE INPUT: true; the input reads as it did. -/
def fnExactIvOkSpec : ChangeSpec := { name := "fnExactIvOk", fn := fun _ => fun
  | [d] => { results := [.lit (.bool true)], args := [d] }
  | _ => none }
def fnExactIvOkRow : OpenClaim := { program := "ytlcoopdgammmjaa", sum := "883dda1c95614ba61fae56f0eaa5d623c3ac6796fdc36afadf29c33d647e1cd9", func := "loop.example/g00382/laws.FnExactIvOk", spec := "fnExactIvOk", unfollowed := true, recurses := true, apart := false }
def FnExactIvOkSaid : Prop := fnExactIvOkRow.holds Try.pinned (OpenSpec.ofChange fnExactIvOkSpec)

/-- ITS FALSE NEIGHBOUR: 'it returns false'. Refute it at one input. -/
def fnExactIvOkWrong : ChangeSpec := { name := "fnExactIvOk", fn := fun _ => fun
  | [d] => { results := [.lit (.bool false)], args := [d] }
  | _ => none }
def FnExactIvOkWrongFalsely : Prop := fnExactIvOkRow.holds Try.pinned (OpenSpec.ofChange fnExactIvOkWrong)

/-- 'laws.FnExactIvHas': WHATEVER THE INPUT: true; the input reads as it did. -/
def fnExactIvHasSpec : ChangeSpec := { name := "fnExactIvHas", fn := fun _ => fun
  | [d1, d2] => { results := [.lit (.bool true)], args := [d1, d2] }
  | _ => none }
def fnExactIvHasRow : OpenClaim := { program := "ytlcoopdgammmjaa", sum := "883dda1c95614ba61fae56f0eaa5d623c3ac6796fdc36afadf29c33d647e1cd9", func := "loop.example/g00382/laws.FnExactIvHas", spec := "fnExactIvHas", unfollowed := true, recurses := true, apart := false }
def FnExactIvHasSaid : Prop := fnExactIvHasRow.holds Try.pinned (OpenSpec.ofChange fnExactIvHasSpec)

/-- ITS FALSE NEIGHBOUR: 'it returns false'. Refute it at one input. -/
def fnExactIvHasWrong : ChangeSpec := { name := "fnExactIvHas", fn := fun _ => fun
  | [d1, d2] => { results := [.lit (.bool false)], args := [d1, d2] }
  | _ => none }
def FnExactIvHasWrongFalsely : Prop := fnExactIvHasRow.holds Try.pinned (OpenSpec.ofChange fnExactIvHasWrong)

/-- 'laws.FnExactIvWithin': WHATEVER THE INPUT: true; the input reads as it did. -/
def fnExactIvWithinSpec : ChangeSpec := { name := "fnExactIvWithin", fn := fun _ => fun
  | [d1, d2] => { results := [.lit (.bool true)], args := [d1, d2] }
  | _ => none }
def fnExactIvWithinRow : OpenClaim := { program := "ytlcoopdgammmjaa", sum := "883dda1c95614ba61fae56f0eaa5d623c3ac6796fdc36afadf29c33d647e1cd9", func := "loop.example/g00382/laws.FnExactIvWithin", spec := "fnExactIvWithin", unfollowed := true, recurses := true, apart := false }
def FnExactIvWithinSaid : Prop := fnExactIvWithinRow.holds Try.pinned (OpenSpec.ofChange fnExactIvWithinSpec)

/-- ITS FALSE NEIGHBOUR: 'it returns false'. Refute it at one input. -/
def fnExactIvWithinWrong : ChangeSpec := { name := "fnExactIvWithin", fn := fun _ => fun
  | [d1, d2] => { results := [.lit (.bool false)], args := [d1, d2] }
  | _ => none }
def FnExactIvWithinWrongFalsely : Prop := fnExactIvWithinRow.holds Try.pinned (OpenSpec.ofChange fnExactIvWithinWrong)

/-- 'laws.FnExactIvMatOk': WHATEVER THE INPUT: true; the input reads as it did. -/
def fnExactIvMatOkSpec : ChangeSpec := { name := "fnExactIvMatOk", fn := fun _ => fun
  | [d] => { results := [.lit (.bool true)], args := [d] }
  | _ => none }
def fnExactIvMatOkRow : OpenClaim := { program := "ytlcoopdgammmjaa", sum := "883dda1c95614ba61fae56f0eaa5d623c3ac6796fdc36afadf29c33d647e1cd9", func := "loop.example/g00382/laws.FnExactIvMatOk", spec := "fnExactIvMatOk", unfollowed := true, recurses := true, apart := false }
def FnExactIvMatOkSaid : Prop := fnExactIvMatOkRow.holds Try.pinned (OpenSpec.ofChange fnExactIvMatOkSpec)

/-- ITS FALSE NEIGHBOUR: 'it returns false'. Refute it at one input. -/
def fnExactIvMatOkWrong : ChangeSpec := { name := "fnExactIvMatOk", fn := fun _ => fun
  | [d] => { results := [.lit (.bool false)], args := [d] }
  | _ => none }
def FnExactIvMatOkWrongFalsely : Prop := fnExactIvMatOkRow.holds Try.pinned (OpenSpec.ofChange fnExactIvMatOkWrong)

/-- 'laws.FnExactIvMatMeets': WHATEVER THE INPUT: true; the input reads as it did. -/
def fnExactIvMatMeetsSpec : ChangeSpec := { name := "fnExactIvMatMeets", fn := fun _ => fun
  | [d1, d2] => { results := [.lit (.bool true)], args := [d1, d2] }
  | _ => none }
def fnExactIvMatMeetsRow : OpenClaim := { program := "ytlcoopdgammmjaa", sum := "883dda1c95614ba61fae56f0eaa5d623c3ac6796fdc36afadf29c33d647e1cd9", func := "loop.example/g00382/laws.FnExactIvMatMeets", spec := "fnExactIvMatMeets", unfollowed := true, recurses := true, apart := false }
def FnExactIvMatMeetsSaid : Prop := fnExactIvMatMeetsRow.holds Try.pinned (OpenSpec.ofChange fnExactIvMatMeetsSpec)

/-- ITS FALSE NEIGHBOUR: 'it returns false'. Refute it at one input. -/
def fnExactIvMatMeetsWrong : ChangeSpec := { name := "fnExactIvMatMeets", fn := fun _ => fun
  | [d1, d2] => { results := [.lit (.bool false)], args := [d1, d2] }
  | _ => none }
def FnExactIvMatMeetsWrongFalsely : Prop := fnExactIvMatMeetsRow.holds Try.pinned (OpenSpec.ofChange fnExactIvMatMeetsWrong)

/-- 'laws.FnExactIvMatHas': WHATEVER THE INPUT: true; the input reads as it did. -/
def fnExactIvMatHasSpec : ChangeSpec := { name := "fnExactIvMatHas", fn := fun _ => fun
  | [d1, d2] => { results := [.lit (.bool true)], args := [d1, d2] }
  | _ => none }
def fnExactIvMatHasRow : OpenClaim := { program := "ytlcoopdgammmjaa", sum := "883dda1c95614ba61fae56f0eaa5d623c3ac6796fdc36afadf29c33d647e1cd9", func := "loop.example/g00382/laws.FnExactIvMatHas", spec := "fnExactIvMatHas", unfollowed := true, recurses := true, apart := false }
def FnExactIvMatHasSaid : Prop := fnExactIvMatHasRow.holds Try.pinned (OpenSpec.ofChange fnExactIvMatHasSpec)

/-- ITS FALSE NEIGHBOUR: 'it returns false'. Refute it at one input. -/
def fnExactIvMatHasWrong : ChangeSpec := { name := "fnExactIvMatHas", fn := fun _ => fun
  | [d1, d2] => { results := [.lit (.bool false)], args := [d1, d2] }
  | _ => none }
def FnExactIvMatHasWrongFalsely : Prop := fnExactIvMatHasRow.holds Try.pinned (OpenSpec.ofChange fnExactIvMatHasWrong)

/- THE SECOND FORM. 'bulk': how many values and letters a reading holds, each counted each time it is reached (what is shared counts as often as it is met; a slice's spare places count too). A statement '..UptoSaid' is the law's where the arguments, and the package variables that the reading takes, are together of bulk at most 1048576: NARROWER than '..Said'. Prove '..Said' where nothing that the law and all that it calls make is longer than what came in: it says more and counts as full. Else prove '..UptoSaid'. A law counts once. -/
mutual
def uptoBulk {H : Type} : DataW H → Nat
  | .lit (.string bytes) => bytes.length + 1
  | .lit _ => 1
  | .nil => 1
  | .ptr d => uptoBulk d + 1
  | .slice elems spare => uptoBulkAll elems + uptoBulkAll spare + 1
  | .agg parts => uptoBulkAll parts + 1
  | .iface _ d => uptoBulk d + 1
  | .map entries => uptoBulkEntries entries + 1
  | .held _ => 1
def uptoBulkAll {H : Type} : List (DataW H) → Nat
  | [] => 0
  | d :: r => uptoBulk d + uptoBulkAll r
def uptoBulkEntries {H : Type} : List (Lit × DataW H) → Nat
  | [] => 0
  | x :: r => uptoBulkEntry x + uptoBulkEntries r
def uptoBulkEntry {H : Type} : Lit × DataW H → Nat
  | (.string bytes, d) => bytes.length + uptoBulk d + 1
  | (_, d) => uptoBulk d + 1
 end
def uptoSmall : (H : Type) → List (DataW H) → Bool := fun _ ds => decide (uptoBulkAll ds ≤ 1048576)
def OpenSpec.upto (s : _root_.Go.ChangeSpec) : _root_.Go.OpenSpec := { _root_.Go.OpenSpec.ofChange s with cond := some uptoSmall }

/-- 'laws.FnExactIvOk', WHERE WHAT IT READS IS OF BULK AT MOST 1048576: true; the input reads as it did. -/
def fnExactIvOkUptoRow : OpenClaim := { program := "ytlcoopdgammmjaa", sum := "883dda1c95614ba61fae56f0eaa5d623c3ac6796fdc36afadf29c33d647e1cd9", func := "loop.example/g00382/laws.FnExactIvOk", spec := "fnExactIvOk", unfollowed := true, recurses := true, apart := false, narrowed := true }
def FnExactIvOkUptoSaid : Prop := fnExactIvOkUptoRow.holds Try.pinned (OpenSpec.upto fnExactIvOkSpec)

/-- 'laws.FnExactIvHas', WHERE WHAT IT READS IS OF BULK AT MOST 1048576: true; the input reads as it did. -/
def fnExactIvHasUptoRow : OpenClaim := { program := "ytlcoopdgammmjaa", sum := "883dda1c95614ba61fae56f0eaa5d623c3ac6796fdc36afadf29c33d647e1cd9", func := "loop.example/g00382/laws.FnExactIvHas", spec := "fnExactIvHas", unfollowed := true, recurses := true, apart := false, narrowed := true }
def FnExactIvHasUptoSaid : Prop := fnExactIvHasUptoRow.holds Try.pinned (OpenSpec.upto fnExactIvHasSpec)

/-- 'laws.FnExactIvWithin', WHERE WHAT IT READS IS OF BULK AT MOST 1048576: true; the input reads as it did. -/
def fnExactIvWithinUptoRow : OpenClaim := { program := "ytlcoopdgammmjaa", sum := "883dda1c95614ba61fae56f0eaa5d623c3ac6796fdc36afadf29c33d647e1cd9", func := "loop.example/g00382/laws.FnExactIvWithin", spec := "fnExactIvWithin", unfollowed := true, recurses := true, apart := false, narrowed := true }
def FnExactIvWithinUptoSaid : Prop := fnExactIvWithinUptoRow.holds Try.pinned (OpenSpec.upto fnExactIvWithinSpec)

/-- 'laws.FnExactIvMatOk', WHERE WHAT IT READS IS OF BULK AT MOST 1048576: true; the input reads as it did. -/
def fnExactIvMatOkUptoRow : OpenClaim := { program := "ytlcoopdgammmjaa", sum := "883dda1c95614ba61fae56f0eaa5d623c3ac6796fdc36afadf29c33d647e1cd9", func := "loop.example/g00382/laws.FnExactIvMatOk", spec := "fnExactIvMatOk", unfollowed := true, recurses := true, apart := false, narrowed := true }
def FnExactIvMatOkUptoSaid : Prop := fnExactIvMatOkUptoRow.holds Try.pinned (OpenSpec.upto fnExactIvMatOkSpec)

/-- 'laws.FnExactIvMatMeets', WHERE WHAT IT READS IS OF BULK AT MOST 1048576: true; the input reads as it did. -/
def fnExactIvMatMeetsUptoRow : OpenClaim := { program := "ytlcoopdgammmjaa", sum := "883dda1c95614ba61fae56f0eaa5d623c3ac6796fdc36afadf29c33d647e1cd9", func := "loop.example/g00382/laws.FnExactIvMatMeets", spec := "fnExactIvMatMeets", unfollowed := true, recurses := true, apart := false, narrowed := true }
def FnExactIvMatMeetsUptoSaid : Prop := fnExactIvMatMeetsUptoRow.holds Try.pinned (OpenSpec.upto fnExactIvMatMeetsSpec)

/-- 'laws.FnExactIvMatHas', WHERE WHAT IT READS IS OF BULK AT MOST 1048576: true; the input reads as it did. -/
def fnExactIvMatHasUptoRow : OpenClaim := { program := "ytlcoopdgammmjaa", sum := "883dda1c95614ba61fae56f0eaa5d623c3ac6796fdc36afadf29c33d647e1cd9", func := "loop.example/g00382/laws.FnExactIvMatHas", spec := "fnExactIvMatHas", unfollowed := true, recurses := true, apart := false, narrowed := true }
def FnExactIvMatHasUptoSaid : Prop := fnExactIvMatHasUptoRow.holds Try.pinned (OpenSpec.upto fnExactIvMatHasSpec)

end Rows
end Go.Proofs.Ytlcoopdgammmjaa
