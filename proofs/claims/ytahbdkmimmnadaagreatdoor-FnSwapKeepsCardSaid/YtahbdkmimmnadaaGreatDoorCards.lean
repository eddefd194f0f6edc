/-
  DERIVED. GIVEN WITH THE SEED: THE CARDS: each row of YtahbdkmimmnadaaGreatDoorRows.lean that lists a variable, with what it lists TIED to the program's text (the seventh form; the later family's looks); each row that meets fmt, with fmt's text TOLD by the authors' own Lean function (tested against real Go, not proved from fmt's source: count such statements apart). THE CARD IS WHAT COUNTS. Prove the row's statement (the work); the ties are given (YtahbdkmimmnadaaGreatDoorTie.lean); close each card by the builder's one call (the guide's Derived/Test/ToyasCard.lean, 'card_holds'). Laid BY PROGRAM, IN A SANDBOX (cutbox-door.mjs). By AI agents, Wed Nov 11 2026. No macro, syntax, notation, axiom, sorry.
-/
import Derived.Test.YtahbdkmimmnadaaGreatDoorRows
import GoSem.ClaimSeven
namespace Go.Proofs.YtahbdkmimmnadaaGreatDoor
namespace Rows

/-- THE TIED CARD OF 'laws.FnExactRepairEdges'. -/
def fnExactRepairEdgesCard : Claim7 := { stood := { row := fnExactRepairEdgesRow, standIns := [], harness := (true, "30872a8fe1c0cf17efac5f90e7f2b968f3881aab7aed8265e46bf3cb3063f46c"), looks := false }, kinds := [], alts := [], laidByText := true, laidKinds := [.data, .data], laidTests := true, laidLooks := .later }
def FnExactRepairEdgesCardSaid : Prop := Claim7.holds Tryz.pinned (.plain (OpenSpec.ofChange fnExactRepairEdgesSpec)) fnExactRepairEdgesCard

/-- THE TIED CARD OF 'laws.FnRepairAll'. -/
def fnRepairAllCard : Claim7 := { stood := { row := fnRepairAllRow, standIns := [], harness := (true, "30872a8fe1c0cf17efac5f90e7f2b968f3881aab7aed8265e46bf3cb3063f46c"), looks := false }, kinds := [], alts := [], laidByText := true, laidKinds := [.data, .data], laidTests := true, laidLooks := .later }
def FnRepairAllCardSaid : Prop := Claim7.holds Tryz.pinned (.plain (OpenSpec.ofChange fnRepairAllSpec)) fnRepairAllCard

/-- THE TIED CARD OF 'laws.FnRepairEdges'. -/
def fnRepairEdgesCard : Claim7 := { stood := { row := fnRepairEdgesRow, standIns := [], harness := (true, "30872a8fe1c0cf17efac5f90e7f2b968f3881aab7aed8265e46bf3cb3063f46c"), looks := false }, kinds := [], alts := [], laidByText := true, laidKinds := [.data, .data], laidTests := true, laidLooks := .later }
def FnRepairEdgesCardSaid : Prop := Claim7.holds Tryz.pinned (.plain (OpenSpec.ofChange fnRepairEdgesSpec)) fnRepairEdgesCard

/-- THE TIED CARD OF 'laws.FnSwapKeeps'. -/
def fnSwapKeepsCard : Claim7 := { stood := { row := fnSwapKeepsRow, standIns := [], harness := (true, "30872a8fe1c0cf17efac5f90e7f2b968f3881aab7aed8265e46bf3cb3063f46c"), looks := false }, kinds := [], alts := [], laidByText := true, laidKinds := [.data, .data], laidTests := true, laidLooks := .later }
def FnSwapKeepsCardSaid : Prop := Claim7.holds Tryz.pinned (.plain (OpenSpec.ofChange fnSwapKeepsSpec)) fnSwapKeepsCard

/-- THE TIED CARD OF 'laws.FnAddVerdict'. -/
def fnAddVerdictCard : Claim7 := { stood := { row := fnAddVerdictRow, standIns := [], harness := (true, "30872a8fe1c0cf17efac5f90e7f2b968f3881aab7aed8265e46bf3cb3063f46c"), looks := false }, kinds := [], alts := [], laidByText := true, laidKinds := [.data, .data], laidTests := true, laidLooks := .later }
def FnAddVerdictCardSaid : Prop := Claim7.holds Tryz.pinned (.plain (OpenSpec.ofChange fnAddVerdictSpec)) fnAddVerdictCard

/-- THE TIED CARD OF 'laws.FnQuotientMinimal'. -/
def fnQuotientMinimalCard : Claim7 := { stood := { row := fnQuotientMinimalRow, standIns := [], harness := (true, "30872a8fe1c0cf17efac5f90e7f2b968f3881aab7aed8265e46bf3cb3063f46c"), looks := false }, kinds := [], alts := [], laidByText := true, laidKinds := [.data, .data, .data], laidTests := true, laidLooks := .later }
def FnQuotientMinimalCardSaid : Prop := Claim7.holds Tryz.pinned (.plain (OpenSpec.ofChange fnQuotientMinimalSpec)) fnQuotientMinimalCard

/-- THE SECOND FORM's CARD OF 'laws.FnExactRepairEdges'. -/
def fnExactRepairEdgesUptoCard : Claim7 := { stood := { row := fnExactRepairEdgesUptoRow, standIns := [], harness := (true, "30872a8fe1c0cf17efac5f90e7f2b968f3881aab7aed8265e46bf3cb3063f46c"), looks := false }, kinds := [], alts := [], laidByText := true, laidKinds := [.data, .data], laidTests := true, laidLooks := .later }
def FnExactRepairEdgesUptoCardSaid : Prop := Claim7.holds Tryz.pinned (.plain (OpenSpec.upto fnExactRepairEdgesSpec)) fnExactRepairEdgesUptoCard

/-- THE SECOND FORM's CARD OF 'laws.FnRepairAll'. -/
def fnRepairAllUptoCard : Claim7 := { stood := { row := fnRepairAllUptoRow, standIns := [], harness := (true, "30872a8fe1c0cf17efac5f90e7f2b968f3881aab7aed8265e46bf3cb3063f46c"), looks := false }, kinds := [], alts := [], laidByText := true, laidKinds := [.data, .data], laidTests := true, laidLooks := .later }
def FnRepairAllUptoCardSaid : Prop := Claim7.holds Tryz.pinned (.plain (OpenSpec.upto fnRepairAllSpec)) fnRepairAllUptoCard

/-- THE SECOND FORM's CARD OF 'laws.FnRepairEdges'. -/
def fnRepairEdgesUptoCard : Claim7 := { stood := { row := fnRepairEdgesUptoRow, standIns := [], harness := (true, "30872a8fe1c0cf17efac5f90e7f2b968f3881aab7aed8265e46bf3cb3063f46c"), looks := false }, kinds := [], alts := [], laidByText := true, laidKinds := [.data, .data], laidTests := true, laidLooks := .later }
def FnRepairEdgesUptoCardSaid : Prop := Claim7.holds Tryz.pinned (.plain (OpenSpec.upto fnRepairEdgesSpec)) fnRepairEdgesUptoCard

/-- THE SECOND FORM's CARD OF 'laws.FnSwapKeeps'. -/
def fnSwapKeepsUptoCard : Claim7 := { stood := { row := fnSwapKeepsUptoRow, standIns := [], harness := (true, "30872a8fe1c0cf17efac5f90e7f2b968f3881aab7aed8265e46bf3cb3063f46c"), looks := false }, kinds := [], alts := [], laidByText := true, laidKinds := [.data, .data], laidTests := true, laidLooks := .later }
def FnSwapKeepsUptoCardSaid : Prop := Claim7.holds Tryz.pinned (.plain (OpenSpec.upto fnSwapKeepsSpec)) fnSwapKeepsUptoCard

/-- THE SECOND FORM's CARD OF 'laws.FnAddVerdict'. -/
def fnAddVerdictUptoCard : Claim7 := { stood := { row := fnAddVerdictUptoRow, standIns := [], harness := (true, "30872a8fe1c0cf17efac5f90e7f2b968f3881aab7aed8265e46bf3cb3063f46c"), looks := false }, kinds := [], alts := [], laidByText := true, laidKinds := [.data, .data], laidTests := true, laidLooks := .later }
def FnAddVerdictUptoCardSaid : Prop := Claim7.holds Tryz.pinned (.plain (OpenSpec.upto fnAddVerdictSpec)) fnAddVerdictUptoCard

/-- THE SECOND FORM's CARD OF 'laws.FnQuotientMinimal'. -/
def fnQuotientMinimalUptoCard : Claim7 := { stood := { row := fnQuotientMinimalUptoRow, standIns := [], harness := (true, "30872a8fe1c0cf17efac5f90e7f2b968f3881aab7aed8265e46bf3cb3063f46c"), looks := false }, kinds := [], alts := [], laidByText := true, laidKinds := [.data, .data, .data], laidTests := true, laidLooks := .later }
def FnQuotientMinimalUptoCardSaid : Prop := Claim7.holds Tryz.pinned (.plain (OpenSpec.upto fnQuotientMinimalSpec)) fnQuotientMinimalUptoCard
end Rows
end Go.Proofs.YtahbdkmimmnadaaGreatDoor
