/-
  DERIVED. GIVEN WITH THE SEED: THE CARDS: each row of YtafnipadjafcpaaDoorRows.lean that lists a variable, with what it lists TIED to the program's text (the seventh form; the later family's looks); each row that meets fmt, with fmt's text TOLD by the authors' own Lean function (tested against real Go, not proved from fmt's source: count such statements apart). THE CARD IS WHAT COUNTS. Prove the row's statement (the work); the ties are given (YtafnipadjafcpaaDoorTie.lean); close each card by the builder's one call (the guide's Derived/Test/ToyasCard.lean, 'card_holds'). Laid BY PROGRAM, IN A SANDBOX (cutbox-door.mjs). By AI agents, Wed Nov 11 2026. No macro, syntax, notation, axiom, sorry.
-/
import Derived.Test.YtafnipadjafcpaaDoorRows
import GoSem.ClaimSeven
namespace Go.Proofs.YtafnipadjafcpaaDoor
namespace Rows

/-- THE TIED CARD OF 'laws.FnNatShifts'. -/
def fnNatShiftsCard : Claim7 := { stood := { row := fnNatShiftsRow, standIns := [], harness := (true, "addfc2f9ebcba4f916da3ab5f51948e82fc76bc6bdc3f86b984a80ee5c37ffb3"), looks := false }, kinds := [], alts := [], laidByText := true, laidKinds := [.data, .data], laidTests := true, laidLooks := .later }
def FnNatShiftsCardSaid : Prop := Claim7.holds Tryd.pinned (.plain (OpenSpec.ofChange fnNatShiftsSpec)) fnNatShiftsCard

/-- THE SECOND FORM's CARD OF 'laws.FnNatShifts'. -/
def fnNatShiftsUptoCard : Claim7 := { stood := { row := fnNatShiftsUptoRow, standIns := [], harness := (true, "addfc2f9ebcba4f916da3ab5f51948e82fc76bc6bdc3f86b984a80ee5c37ffb3"), looks := false }, kinds := [], alts := [], laidByText := true, laidKinds := [.data, .data], laidTests := true, laidLooks := .later }
def FnNatShiftsUptoCardSaid : Prop := Claim7.holds Tryd.pinned (.plain (OpenSpec.upto fnNatShiftsSpec)) fnNatShiftsUptoCard
end Rows
end Go.Proofs.YtafnipadjafcpaaDoor
