/-
  DERIVED. GIVEN WITH THE SEED: THE CARDS: each row of YtidlnhhaegojjaaDoorRows.lean that lists a variable, with what it lists TIED to the program's text (the seventh form; the later family's looks); each row that meets fmt, with fmt's text TOLD by the authors' own Lean function (tested against real Go, not proved from fmt's source: count such statements apart). THE CARD IS WHAT COUNTS. Prove the row's statement (the work); the ties are given (YtidlnhhaegojjaaDoorTie.lean); close each card by the builder's one call (the guide's Derived/Test/ToyasCard.lean, 'card_holds'). Laid BY PROGRAM, IN A SANDBOX (cutbox-door.mjs). By AI agents, Wed Nov 11 2026. No macro, syntax, notation, axiom, sorry.
-/
import Derived.Test.YtidlnhhaegojjaaDoorRows
import GoSem.ClaimSeven
namespace Go.Proofs.YtidlnhhaegojjaaDoor
namespace Rows

/-- THE TIED CARD OF 'laws.FnDyRing'. -/
def fnDyRingCard : Claim7 := { stood := { row := fnDyRingRow, standIns := [], harness := (true, "51d127f26a3fa17c53c6dc29a3cd5c23d2273d49a6ebd6e60a59c42239e155cc"), looks := false }, kinds := [], alts := [], laidByText := true, laidKinds := [.data, .data], laidTests := true, laidLooks := .later }
def FnDyRingCardSaid : Prop := Claim7.holds Tryd.pinned (.plain (OpenSpec.ofChange fnDyRingSpec)) fnDyRingCard

/-- THE TIED CARD OF 'laws.FnExactIvOf'. -/
def fnExactIvOfCard : Claim7 := { stood := { row := fnExactIvOfRow, standIns := [], harness := (true, "51d127f26a3fa17c53c6dc29a3cd5c23d2273d49a6ebd6e60a59c42239e155cc"), looks := false }, kinds := [], alts := [], laidByText := true, laidKinds := [.data, .data], laidTests := true, laidLooks := .later }
def FnExactIvOfCardSaid : Prop := Claim7.holds Tryd.pinned (.plain (OpenSpec.ofChange fnExactIvOfSpec)) fnExactIvOfCard

/-- THE TIED CARD OF 'laws.FnExactIvJoin'. -/
def fnExactIvJoinCard : Claim7 := { stood := { row := fnExactIvJoinRow, standIns := [], harness := (true, "51d127f26a3fa17c53c6dc29a3cd5c23d2273d49a6ebd6e60a59c42239e155cc"), looks := false }, kinds := [], alts := [], laidByText := true, laidKinds := [.data, .data], laidTests := true, laidLooks := .later }
def FnExactIvJoinCardSaid : Prop := Claim7.holds Tryd.pinned (.plain (OpenSpec.ofChange fnExactIvJoinSpec)) fnExactIvJoinCard

/-- THE TIED CARD OF 'laws.FnExactIvMeet'. -/
def fnExactIvMeetCard : Claim7 := { stood := { row := fnExactIvMeetRow, standIns := [], harness := (true, "51d127f26a3fa17c53c6dc29a3cd5c23d2273d49a6ebd6e60a59c42239e155cc"), looks := false }, kinds := [], alts := [], laidByText := true, laidKinds := [.data, .data], laidTests := true, laidLooks := .later }
def FnExactIvMeetCardSaid : Prop := Claim7.holds Tryd.pinned (.plain (OpenSpec.ofChange fnExactIvMeetSpec)) fnExactIvMeetCard

/-- THE TIED CARD OF 'laws.FnExactIvMatOf'. -/
def fnExactIvMatOfCard : Claim7 := { stood := { row := fnExactIvMatOfRow, standIns := [], harness := (true, "51d127f26a3fa17c53c6dc29a3cd5c23d2273d49a6ebd6e60a59c42239e155cc"), looks := false }, kinds := [], alts := [], laidByText := true, laidKinds := [.data, .data], laidTests := true, laidLooks := .later }
def FnExactIvMatOfCardSaid : Prop := Claim7.holds Tryd.pinned (.plain (OpenSpec.ofChange fnExactIvMatOfSpec)) fnExactIvMatOfCard

/-- THE TIED CARD OF 'laws.FnExactMatId'. -/
def fnExactMatIdCard : Claim7 := { stood := { row := fnExactMatIdRow, standIns := [], harness := (true, "51d127f26a3fa17c53c6dc29a3cd5c23d2273d49a6ebd6e60a59c42239e155cc"), looks := false }, kinds := [], alts := [], laidByText := true, laidKinds := [.data, .data], laidTests := true, laidLooks := .later }
def FnExactMatIdCardSaid : Prop := Claim7.holds Tryd.pinned (.plain (OpenSpec.ofChange fnExactMatIdSpec)) fnExactMatIdCard

/-- THE TIED CARD OF 'laws.FnExactMatAt'. -/
def fnExactMatAtCard : Claim7 := { stood := { row := fnExactMatAtRow, standIns := [], harness := (true, "51d127f26a3fa17c53c6dc29a3cd5c23d2273d49a6ebd6e60a59c42239e155cc"), looks := false }, kinds := [], alts := [], laidByText := true, laidKinds := [.data, .data], laidTests := true, laidLooks := .later }
def FnExactMatAtCardSaid : Prop := Claim7.holds Tryd.pinned (.plain (OpenSpec.ofChange fnExactMatAtSpec)) fnExactMatAtCard

/-- THE TIED CARD OF 'laws.FnExactMatTurn'. -/
def fnExactMatTurnCard : Claim7 := { stood := { row := fnExactMatTurnRow, standIns := [], harness := (true, "51d127f26a3fa17c53c6dc29a3cd5c23d2273d49a6ebd6e60a59c42239e155cc"), looks := false }, kinds := [], alts := [], laidByText := true, laidKinds := [.data, .data], laidTests := true, laidLooks := .later }
def FnExactMatTurnCardSaid : Prop := Claim7.holds Tryd.pinned (.plain (OpenSpec.ofChange fnExactMatTurnSpec)) fnExactMatTurnCard

/-- THE TIED CARD OF 'laws.FnExactMatMinor'. -/
def fnExactMatMinorCard : Claim7 := { stood := { row := fnExactMatMinorRow, standIns := [], harness := (true, "51d127f26a3fa17c53c6dc29a3cd5c23d2273d49a6ebd6e60a59c42239e155cc"), looks := false }, kinds := [], alts := [], laidByText := true, laidKinds := [.data, .data], laidTests := true, laidLooks := .later }
def FnExactMatMinorCardSaid : Prop := Claim7.holds Tryd.pinned (.plain (OpenSpec.ofChange fnExactMatMinorSpec)) fnExactMatMinorCard

/-- THE TIED CARD OF 'laws.FnExactMatScale'. -/
def fnExactMatScaleCard : Claim7 := { stood := { row := fnExactMatScaleRow, standIns := [], harness := (true, "51d127f26a3fa17c53c6dc29a3cd5c23d2273d49a6ebd6e60a59c42239e155cc"), looks := false }, kinds := [], alts := [], laidByText := true, laidKinds := [.data, .data], laidTests := true, laidLooks := .later }
def FnExactMatScaleCardSaid : Prop := Claim7.holds Tryd.pinned (.plain (OpenSpec.ofChange fnExactMatScaleSpec)) fnExactMatScaleCard

/-- THE SECOND FORM's CARD OF 'laws.FnDyRing'. -/
def fnDyRingUptoCard : Claim7 := { stood := { row := fnDyRingUptoRow, standIns := [], harness := (true, "51d127f26a3fa17c53c6dc29a3cd5c23d2273d49a6ebd6e60a59c42239e155cc"), looks := false }, kinds := [], alts := [], laidByText := true, laidKinds := [.data, .data], laidTests := true, laidLooks := .later }
def FnDyRingUptoCardSaid : Prop := Claim7.holds Tryd.pinned (.plain (OpenSpec.upto fnDyRingSpec)) fnDyRingUptoCard

/-- THE SECOND FORM's CARD OF 'laws.FnExactIvOf'. -/
def fnExactIvOfUptoCard : Claim7 := { stood := { row := fnExactIvOfUptoRow, standIns := [], harness := (true, "51d127f26a3fa17c53c6dc29a3cd5c23d2273d49a6ebd6e60a59c42239e155cc"), looks := false }, kinds := [], alts := [], laidByText := true, laidKinds := [.data, .data], laidTests := true, laidLooks := .later }
def FnExactIvOfUptoCardSaid : Prop := Claim7.holds Tryd.pinned (.plain (OpenSpec.upto fnExactIvOfSpec)) fnExactIvOfUptoCard

/-- THE SECOND FORM's CARD OF 'laws.FnExactIvJoin'. -/
def fnExactIvJoinUptoCard : Claim7 := { stood := { row := fnExactIvJoinUptoRow, standIns := [], harness := (true, "51d127f26a3fa17c53c6dc29a3cd5c23d2273d49a6ebd6e60a59c42239e155cc"), looks := false }, kinds := [], alts := [], laidByText := true, laidKinds := [.data, .data], laidTests := true, laidLooks := .later }
def FnExactIvJoinUptoCardSaid : Prop := Claim7.holds Tryd.pinned (.plain (OpenSpec.upto fnExactIvJoinSpec)) fnExactIvJoinUptoCard

/-- THE SECOND FORM's CARD OF 'laws.FnExactIvMeet'. -/
def fnExactIvMeetUptoCard : Claim7 := { stood := { row := fnExactIvMeetUptoRow, standIns := [], harness := (true, "51d127f26a3fa17c53c6dc29a3cd5c23d2273d49a6ebd6e60a59c42239e155cc"), looks := false }, kinds := [], alts := [], laidByText := true, laidKinds := [.data, .data], laidTests := true, laidLooks := .later }
def FnExactIvMeetUptoCardSaid : Prop := Claim7.holds Tryd.pinned (.plain (OpenSpec.upto fnExactIvMeetSpec)) fnExactIvMeetUptoCard

/-- THE SECOND FORM's CARD OF 'laws.FnExactIvMatOf'. -/
def fnExactIvMatOfUptoCard : Claim7 := { stood := { row := fnExactIvMatOfUptoRow, standIns := [], harness := (true, "51d127f26a3fa17c53c6dc29a3cd5c23d2273d49a6ebd6e60a59c42239e155cc"), looks := false }, kinds := [], alts := [], laidByText := true, laidKinds := [.data, .data], laidTests := true, laidLooks := .later }
def FnExactIvMatOfUptoCardSaid : Prop := Claim7.holds Tryd.pinned (.plain (OpenSpec.upto fnExactIvMatOfSpec)) fnExactIvMatOfUptoCard

/-- THE SECOND FORM's CARD OF 'laws.FnExactMatId'. -/
def fnExactMatIdUptoCard : Claim7 := { stood := { row := fnExactMatIdUptoRow, standIns := [], harness := (true, "51d127f26a3fa17c53c6dc29a3cd5c23d2273d49a6ebd6e60a59c42239e155cc"), looks := false }, kinds := [], alts := [], laidByText := true, laidKinds := [.data, .data], laidTests := true, laidLooks := .later }
def FnExactMatIdUptoCardSaid : Prop := Claim7.holds Tryd.pinned (.plain (OpenSpec.upto fnExactMatIdSpec)) fnExactMatIdUptoCard

/-- THE SECOND FORM's CARD OF 'laws.FnExactMatAt'. -/
def fnExactMatAtUptoCard : Claim7 := { stood := { row := fnExactMatAtUptoRow, standIns := [], harness := (true, "51d127f26a3fa17c53c6dc29a3cd5c23d2273d49a6ebd6e60a59c42239e155cc"), looks := false }, kinds := [], alts := [], laidByText := true, laidKinds := [.data, .data], laidTests := true, laidLooks := .later }
def FnExactMatAtUptoCardSaid : Prop := Claim7.holds Tryd.pinned (.plain (OpenSpec.upto fnExactMatAtSpec)) fnExactMatAtUptoCard

/-- THE SECOND FORM's CARD OF 'laws.FnExactMatTurn'. -/
def fnExactMatTurnUptoCard : Claim7 := { stood := { row := fnExactMatTurnUptoRow, standIns := [], harness := (true, "51d127f26a3fa17c53c6dc29a3cd5c23d2273d49a6ebd6e60a59c42239e155cc"), looks := false }, kinds := [], alts := [], laidByText := true, laidKinds := [.data, .data], laidTests := true, laidLooks := .later }
def FnExactMatTurnUptoCardSaid : Prop := Claim7.holds Tryd.pinned (.plain (OpenSpec.upto fnExactMatTurnSpec)) fnExactMatTurnUptoCard

/-- THE SECOND FORM's CARD OF 'laws.FnExactMatMinor'. -/
def fnExactMatMinorUptoCard : Claim7 := { stood := { row := fnExactMatMinorUptoRow, standIns := [], harness := (true, "51d127f26a3fa17c53c6dc29a3cd5c23d2273d49a6ebd6e60a59c42239e155cc"), looks := false }, kinds := [], alts := [], laidByText := true, laidKinds := [.data, .data], laidTests := true, laidLooks := .later }
def FnExactMatMinorUptoCardSaid : Prop := Claim7.holds Tryd.pinned (.plain (OpenSpec.upto fnExactMatMinorSpec)) fnExactMatMinorUptoCard

/-- THE SECOND FORM's CARD OF 'laws.FnExactMatScale'. -/
def fnExactMatScaleUptoCard : Claim7 := { stood := { row := fnExactMatScaleUptoRow, standIns := [], harness := (true, "51d127f26a3fa17c53c6dc29a3cd5c23d2273d49a6ebd6e60a59c42239e155cc"), looks := false }, kinds := [], alts := [], laidByText := true, laidKinds := [.data, .data], laidTests := true, laidLooks := .later }
def FnExactMatScaleUptoCardSaid : Prop := Claim7.holds Tryd.pinned (.plain (OpenSpec.upto fnExactMatScaleSpec)) fnExactMatScaleUptoCard
end Rows
end Go.Proofs.YtidlnhhaegojjaaDoor
