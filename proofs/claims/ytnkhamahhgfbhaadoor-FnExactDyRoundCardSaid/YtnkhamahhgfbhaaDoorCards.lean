/-
  DERIVED. GIVEN WITH THE SEED: THE CARDS: each row of YtnkhamahhgfbhaaDoorRows.lean that lists a variable, with what it lists TIED to the program's text (the seventh form; the later family's looks); each row that meets fmt, with fmt's text TOLD by the authors' own Lean function (tested against real Go, not proved from fmt's source: count such statements apart). THE CARD IS WHAT COUNTS. Prove the row's statement (the work); the ties are given (YtnkhamahhgfbhaaDoorTie.lean); close each card by the builder's one call (the guide's Derived/Test/ToyasCard.lean, 'card_holds'). Laid BY PROGRAM, IN A SANDBOX (cutbox-door.mjs). By AI agents, Wed Nov 11 2026. No macro, syntax, notation, axiom, sorry.
-/
import Derived.Test.YtnkhamahhgfbhaaDoorRows
import GoSem.ClaimSeven
namespace Go.Proofs.YtnkhamahhgfbhaaDoor
namespace Rows

/-- THE TIED CARD OF 'laws.FnDyRing'. -/
def fnDyRingCard : Claim7 := { stood := { row := fnDyRingRow, standIns := [], harness := (true, "27c52702c6f2c69c86a77cb580fa82205b8f8bb9242e2a274abfc7c9f5c3d454"), looks := false }, kinds := [], alts := [], laidByText := true, laidKinds := [.data, .data], laidTests := true, laidLooks := .later }
def FnDyRingCardSaid : Prop := Claim7.holds Tryd.pinned (.plain (OpenSpec.ofChange fnDyRingSpec)) fnDyRingCard

/-- THE TIED CARD OF 'laws.FnExactDyRound'. -/
def fnExactDyRoundCard : Claim7 := { stood := { row := fnExactDyRoundRow, standIns := [], harness := (true, "27c52702c6f2c69c86a77cb580fa82205b8f8bb9242e2a274abfc7c9f5c3d454"), looks := false }, kinds := [], alts := [], laidByText := true, laidKinds := [.data, .data], laidTests := true, laidLooks := .later }
def FnExactDyRoundCardSaid : Prop := Claim7.holds Tryd.pinned (.plain (OpenSpec.ofChange fnExactDyRoundSpec)) fnExactDyRoundCard

/-- THE TIED CARD OF 'laws.FnExactDyMul'. -/
def fnExactDyMulCard : Claim7 := { stood := { row := fnExactDyMulRow, standIns := [], harness := (true, "27c52702c6f2c69c86a77cb580fa82205b8f8bb9242e2a274abfc7c9f5c3d454"), looks := false }, kinds := [], alts := [], laidByText := true, laidKinds := [.data, .data], laidTests := true, laidLooks := .later }
def FnExactDyMulCardSaid : Prop := Claim7.holds Tryd.pinned (.plain (OpenSpec.ofChange fnExactDyMulSpec)) fnExactDyMulCard

/-- THE TIED CARD OF 'laws.FnExactDyAdd'. -/
def fnExactDyAddCard : Claim7 := { stood := { row := fnExactDyAddRow, standIns := [], harness := (true, "27c52702c6f2c69c86a77cb580fa82205b8f8bb9242e2a274abfc7c9f5c3d454"), looks := false }, kinds := [], alts := [], laidByText := true, laidKinds := [.data, .data], laidTests := true, laidLooks := .later }
def FnExactDyAddCardSaid : Prop := Claim7.holds Tryd.pinned (.plain (OpenSpec.ofChange fnExactDyAddSpec)) fnExactDyAddCard

/-- THE TIED CARD OF 'laws.FnExactDySub'. -/
def fnExactDySubCard : Claim7 := { stood := { row := fnExactDySubRow, standIns := [], harness := (true, "27c52702c6f2c69c86a77cb580fa82205b8f8bb9242e2a274abfc7c9f5c3d454"), looks := false }, kinds := [], alts := [], laidByText := true, laidKinds := [.data, .data], laidTests := true, laidLooks := .later }
def FnExactDySubCardSaid : Prop := Claim7.holds Tryd.pinned (.plain (OpenSpec.ofChange fnExactDySubSpec)) fnExactDySubCard

/-- THE SECOND FORM's CARD OF 'laws.FnDyRing'. -/
def fnDyRingUptoCard : Claim7 := { stood := { row := fnDyRingUptoRow, standIns := [], harness := (true, "27c52702c6f2c69c86a77cb580fa82205b8f8bb9242e2a274abfc7c9f5c3d454"), looks := false }, kinds := [], alts := [], laidByText := true, laidKinds := [.data, .data], laidTests := true, laidLooks := .later }
def FnDyRingUptoCardSaid : Prop := Claim7.holds Tryd.pinned (.plain (OpenSpec.upto fnDyRingSpec)) fnDyRingUptoCard

/-- THE SECOND FORM's CARD OF 'laws.FnExactDyRound'. -/
def fnExactDyRoundUptoCard : Claim7 := { stood := { row := fnExactDyRoundUptoRow, standIns := [], harness := (true, "27c52702c6f2c69c86a77cb580fa82205b8f8bb9242e2a274abfc7c9f5c3d454"), looks := false }, kinds := [], alts := [], laidByText := true, laidKinds := [.data, .data], laidTests := true, laidLooks := .later }
def FnExactDyRoundUptoCardSaid : Prop := Claim7.holds Tryd.pinned (.plain (OpenSpec.upto fnExactDyRoundSpec)) fnExactDyRoundUptoCard

/-- THE SECOND FORM's CARD OF 'laws.FnExactDyMul'. -/
def fnExactDyMulUptoCard : Claim7 := { stood := { row := fnExactDyMulUptoRow, standIns := [], harness := (true, "27c52702c6f2c69c86a77cb580fa82205b8f8bb9242e2a274abfc7c9f5c3d454"), looks := false }, kinds := [], alts := [], laidByText := true, laidKinds := [.data, .data], laidTests := true, laidLooks := .later }
def FnExactDyMulUptoCardSaid : Prop := Claim7.holds Tryd.pinned (.plain (OpenSpec.upto fnExactDyMulSpec)) fnExactDyMulUptoCard

/-- THE SECOND FORM's CARD OF 'laws.FnExactDyAdd'. -/
def fnExactDyAddUptoCard : Claim7 := { stood := { row := fnExactDyAddUptoRow, standIns := [], harness := (true, "27c52702c6f2c69c86a77cb580fa82205b8f8bb9242e2a274abfc7c9f5c3d454"), looks := false }, kinds := [], alts := [], laidByText := true, laidKinds := [.data, .data], laidTests := true, laidLooks := .later }
def FnExactDyAddUptoCardSaid : Prop := Claim7.holds Tryd.pinned (.plain (OpenSpec.upto fnExactDyAddSpec)) fnExactDyAddUptoCard

/-- THE SECOND FORM's CARD OF 'laws.FnExactDySub'. -/
def fnExactDySubUptoCard : Claim7 := { stood := { row := fnExactDySubUptoRow, standIns := [], harness := (true, "27c52702c6f2c69c86a77cb580fa82205b8f8bb9242e2a274abfc7c9f5c3d454"), looks := false }, kinds := [], alts := [], laidByText := true, laidKinds := [.data, .data], laidTests := true, laidLooks := .later }
def FnExactDySubUptoCardSaid : Prop := Claim7.holds Tryd.pinned (.plain (OpenSpec.upto fnExactDySubSpec)) fnExactDySubUptoCard
end Rows
end Go.Proofs.YtnkhamahhgfbhaaDoor
