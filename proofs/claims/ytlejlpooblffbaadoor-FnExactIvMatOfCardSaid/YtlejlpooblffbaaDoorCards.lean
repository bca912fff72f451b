/-
  DERIVED. GIVEN WITH THE SEED: THE CARDS: each row of YtlejlpooblffbaaDoorRows.lean that lists a variable, with what it lists TIED to the program's text (the seventh form; the later family's looks); each row that meets fmt, with fmt's text TOLD by the authors' own Lean function (tested against real Go, not proved from fmt's source: count such statements apart). THE CARD IS WHAT COUNTS. Prove the row's statement (the work); the ties are given (YtlejlpooblffbaaDoorTie.lean); close each card by the builder's one call (the guide's Derived/Test/ToyasCard.lean, 'card_holds'). Laid BY PROGRAM, IN A SANDBOX (cutbox-door.mjs). By AI agents, Wed Nov 11 2026. No macro, syntax, notation, axiom, sorry.
-/
import Derived.Test.YtlejlpooblffbaaDoorRows
import GoSem.ClaimSeven
namespace Go.Proofs.YtlejlpooblffbaaDoor
namespace Rows

/-- THE TIED CARD OF 'laws.FnExactMatAt'. -/
def fnExactMatAtCard : Claim7 := { stood := { row := fnExactMatAtRow, standIns := [], harness := (true, "74589b33328ec2a5188a86b9e251139f1afdb9b5f741d39dc290bc48daa41797"), looks := false }, kinds := [], alts := [], laidByText := true, laidKinds := [.data, .data], laidTests := true, laidLooks := .later }
def FnExactMatAtCardSaid : Prop := Claim7.holds Tryd.pinned (.plain (OpenSpec.ofChange fnExactMatAtSpec)) fnExactMatAtCard

/-- THE TIED CARD OF 'laws.FnExactMatId'. -/
def fnExactMatIdCard : Claim7 := { stood := { row := fnExactMatIdRow, standIns := [], harness := (true, "74589b33328ec2a5188a86b9e251139f1afdb9b5f741d39dc290bc48daa41797"), looks := false }, kinds := [], alts := [], laidByText := true, laidKinds := [.data, .data], laidTests := true, laidLooks := .later }
def FnExactMatIdCardSaid : Prop := Claim7.holds Tryd.pinned (.plain (OpenSpec.ofChange fnExactMatIdSpec)) fnExactMatIdCard

/-- THE TIED CARD OF 'laws.FnExactMatTurn'. -/
def fnExactMatTurnCard : Claim7 := { stood := { row := fnExactMatTurnRow, standIns := [], harness := (true, "74589b33328ec2a5188a86b9e251139f1afdb9b5f741d39dc290bc48daa41797"), looks := false }, kinds := [], alts := [], laidByText := true, laidKinds := [.data, .data], laidTests := true, laidLooks := .later }
def FnExactMatTurnCardSaid : Prop := Claim7.holds Tryd.pinned (.plain (OpenSpec.ofChange fnExactMatTurnSpec)) fnExactMatTurnCard

/-- THE TIED CARD OF 'laws.FnExactMatMinor'. -/
def fnExactMatMinorCard : Claim7 := { stood := { row := fnExactMatMinorRow, standIns := [], harness := (true, "74589b33328ec2a5188a86b9e251139f1afdb9b5f741d39dc290bc48daa41797"), looks := false }, kinds := [], alts := [], laidByText := true, laidKinds := [.data, .data], laidTests := true, laidLooks := .later }
def FnExactMatMinorCardSaid : Prop := Claim7.holds Tryd.pinned (.plain (OpenSpec.ofChange fnExactMatMinorSpec)) fnExactMatMinorCard

/-- THE TIED CARD OF 'laws.FnExactMatScale'. -/
def fnExactMatScaleCard : Claim7 := { stood := { row := fnExactMatScaleRow, standIns := [], harness := (true, "74589b33328ec2a5188a86b9e251139f1afdb9b5f741d39dc290bc48daa41797"), looks := false }, kinds := [], alts := [], laidByText := true, laidKinds := [.data, .data], laidTests := true, laidLooks := .later }
def FnExactMatScaleCardSaid : Prop := Claim7.holds Tryd.pinned (.plain (OpenSpec.ofChange fnExactMatScaleSpec)) fnExactMatScaleCard

/-- THE TIED CARD OF 'laws.FnExactIvMatOf'. -/
def fnExactIvMatOfCard : Claim7 := { stood := { row := fnExactIvMatOfRow, standIns := [], harness := (true, "74589b33328ec2a5188a86b9e251139f1afdb9b5f741d39dc290bc48daa41797"), looks := false }, kinds := [], alts := [], laidByText := true, laidKinds := [.data, .data], laidTests := true, laidLooks := .later }
def FnExactIvMatOfCardSaid : Prop := Claim7.holds Tryd.pinned (.plain (OpenSpec.ofChange fnExactIvMatOfSpec)) fnExactIvMatOfCard

/-- THE SECOND FORM's CARD OF 'laws.FnExactMatAt'. -/
def fnExactMatAtUptoCard : Claim7 := { stood := { row := fnExactMatAtUptoRow, standIns := [], harness := (true, "74589b33328ec2a5188a86b9e251139f1afdb9b5f741d39dc290bc48daa41797"), looks := false }, kinds := [], alts := [], laidByText := true, laidKinds := [.data, .data], laidTests := true, laidLooks := .later }
def FnExactMatAtUptoCardSaid : Prop := Claim7.holds Tryd.pinned (.plain (OpenSpec.upto fnExactMatAtSpec)) fnExactMatAtUptoCard

/-- THE SECOND FORM's CARD OF 'laws.FnExactMatId'. -/
def fnExactMatIdUptoCard : Claim7 := { stood := { row := fnExactMatIdUptoRow, standIns := [], harness := (true, "74589b33328ec2a5188a86b9e251139f1afdb9b5f741d39dc290bc48daa41797"), looks := false }, kinds := [], alts := [], laidByText := true, laidKinds := [.data, .data], laidTests := true, laidLooks := .later }
def FnExactMatIdUptoCardSaid : Prop := Claim7.holds Tryd.pinned (.plain (OpenSpec.upto fnExactMatIdSpec)) fnExactMatIdUptoCard

/-- THE SECOND FORM's CARD OF 'laws.FnExactMatTurn'. -/
def fnExactMatTurnUptoCard : Claim7 := { stood := { row := fnExactMatTurnUptoRow, standIns := [], harness := (true, "74589b33328ec2a5188a86b9e251139f1afdb9b5f741d39dc290bc48daa41797"), looks := false }, kinds := [], alts := [], laidByText := true, laidKinds := [.data, .data], laidTests := true, laidLooks := .later }
def FnExactMatTurnUptoCardSaid : Prop := Claim7.holds Tryd.pinned (.plain (OpenSpec.upto fnExactMatTurnSpec)) fnExactMatTurnUptoCard

/-- THE SECOND FORM's CARD OF 'laws.FnExactMatMinor'. -/
def fnExactMatMinorUptoCard : Claim7 := { stood := { row := fnExactMatMinorUptoRow, standIns := [], harness := (true, "74589b33328ec2a5188a86b9e251139f1afdb9b5f741d39dc290bc48daa41797"), looks := false }, kinds := [], alts := [], laidByText := true, laidKinds := [.data, .data], laidTests := true, laidLooks := .later }
def FnExactMatMinorUptoCardSaid : Prop := Claim7.holds Tryd.pinned (.plain (OpenSpec.upto fnExactMatMinorSpec)) fnExactMatMinorUptoCard

/-- THE SECOND FORM's CARD OF 'laws.FnExactMatScale'. -/
def fnExactMatScaleUptoCard : Claim7 := { stood := { row := fnExactMatScaleUptoRow, standIns := [], harness := (true, "74589b33328ec2a5188a86b9e251139f1afdb9b5f741d39dc290bc48daa41797"), looks := false }, kinds := [], alts := [], laidByText := true, laidKinds := [.data, .data], laidTests := true, laidLooks := .later }
def FnExactMatScaleUptoCardSaid : Prop := Claim7.holds Tryd.pinned (.plain (OpenSpec.upto fnExactMatScaleSpec)) fnExactMatScaleUptoCard

/-- THE SECOND FORM's CARD OF 'laws.FnExactIvMatOf'. -/
def fnExactIvMatOfUptoCard : Claim7 := { stood := { row := fnExactIvMatOfUptoRow, standIns := [], harness := (true, "74589b33328ec2a5188a86b9e251139f1afdb9b5f741d39dc290bc48daa41797"), looks := false }, kinds := [], alts := [], laidByText := true, laidKinds := [.data, .data], laidTests := true, laidLooks := .later }
def FnExactIvMatOfUptoCardSaid : Prop := Claim7.holds Tryd.pinned (.plain (OpenSpec.upto fnExactIvMatOfSpec)) fnExactIvMatOfUptoCard
end Rows
end Go.Proofs.YtlejlpooblffbaaDoor
