/-
  DERIVED. GIVEN WITH THE SEED: THE CARDS: each row of YtidlnhhaegojjaaGreatDoorRows.lean that lists a variable, with what it lists TIED to the program's text (the seventh form; the later family's looks); each row that meets fmt, with fmt's text TOLD by the authors' own Lean function (tested against real Go, not proved from fmt's source: count such statements apart). THE CARD IS WHAT COUNTS. Prove the row's statement (the work); the ties are given (YtidlnhhaegojjaaGreatDoorTie.lean); close each card by the builder's one call (the guide's Derived/Test/ToyasCard.lean, 'card_holds'). Laid BY PROGRAM, IN A SANDBOX (cutbox-door.mjs). By AI agents, Wed Nov 11 2026. No macro, syntax, notation, axiom, sorry.
-/
import Derived.Test.YtidlnhhaegojjaaGreatDoorRows
import GoSem.ClaimSeven
namespace Go.Proofs.YtidlnhhaegojjaaGreatDoor
namespace Rows

/-- THE TIED CARD OF 'laws.FnExactIvMul'. -/
def fnExactIvMulCard : Claim7 := { stood := { row := fnExactIvMulRow, standIns := [], harness := (true, "cd19966480ae96fe6464665606813bcbb14fd0b08f0d7c57b46c08ad2167671f"), looks := false }, kinds := [], alts := [], laidByText := true, laidKinds := [.data, .data], laidTests := true, laidLooks := .later }
def FnExactIvMulCardSaid : Prop := Claim7.holds Tryz.pinned (.plain (OpenSpec.ofChange fnExactIvMulSpec)) fnExactIvMulCard

/-- THE SECOND FORM's CARD OF 'laws.FnExactIvMul'. -/
def fnExactIvMulUptoCard : Claim7 := { stood := { row := fnExactIvMulUptoRow, standIns := [], harness := (true, "cd19966480ae96fe6464665606813bcbb14fd0b08f0d7c57b46c08ad2167671f"), looks := false }, kinds := [], alts := [], laidByText := true, laidKinds := [.data, .data], laidTests := true, laidLooks := .later }
def FnExactIvMulUptoCardSaid : Prop := Claim7.holds Tryz.pinned (.plain (OpenSpec.upto fnExactIvMulSpec)) fnExactIvMulUptoCard
end Rows
end Go.Proofs.YtidlnhhaegojjaaGreatDoor
