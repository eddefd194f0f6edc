/-
  DERIVED. GIVEN WITH THE SEED: THE CARDS: each row of YthlkcebdfbjdoaaGreatDoorRows.lean that lists a variable, with what it lists TIED to the program's text (the seventh form; the later family's looks); each row that meets fmt, with fmt's text TOLD by the authors' own Lean function (tested against real Go, not proved from fmt's source: count such statements apart). THE CARD IS WHAT COUNTS. Prove the row's statement (the work); the ties are given (YthlkcebdfbjdoaaGreatDoorTie.lean); close each card by the builder's one call (the guide's Derived/Test/ToyasCard.lean, 'card_holds'). Laid BY PROGRAM, IN A SANDBOX (cutbox-door.mjs). By AI agents, Wed Nov 11 2026. No macro, syntax, notation, axiom, sorry.
-/
import Derived.Test.YthlkcebdfbjdoaaGreatDoorRows
import GoSem.ClaimSeven
namespace Go.Proofs.YthlkcebdfbjdoaaGreatDoor
namespace Rows

/-- THE TIED CARD OF 'laws.FnPassesTurned'. -/
def fnPassesTurnedCard : Claim7 := { stood := { row := fnPassesTurnedRow, standIns := [], harness := (true, "0029edfb7fb7f439a95d74575a81b85a86345c0244fc46fb1d33a0d64dcf592d"), looks := false }, kinds := [], alts := [], laidByText := true, laidKinds := [.data, .data, .data], laidTests := true, laidLooks := .later }
def FnPassesTurnedCardSaid : Prop := Claim7.holds Tryz.pinned (.plain (OpenSpec.ofChange fnPassesTurnedSpec)) fnPassesTurnedCard

/-- THE TIED CARD OF 'laws.FnPassesFew'. -/
def fnPassesFewCard : Claim7 := { stood := { row := fnPassesFewRow, standIns := [], harness := (true, "0029edfb7fb7f439a95d74575a81b85a86345c0244fc46fb1d33a0d64dcf592d"), looks := false }, kinds := [], alts := [], laidByText := true, laidKinds := [.data, .data, .data], laidTests := true, laidLooks := .later }
def FnPassesFewCardSaid : Prop := Claim7.holds Tryz.pinned (.plain (OpenSpec.ofChange fnPassesFewSpec)) fnPassesFewCard

/-- THE TIED CARD OF 'laws.FnPassesMinimal'. -/
def fnPassesMinimalCard : Claim7 := { stood := { row := fnPassesMinimalRow, standIns := [], harness := (true, "0029edfb7fb7f439a95d74575a81b85a86345c0244fc46fb1d33a0d64dcf592d"), looks := false }, kinds := [], alts := [], laidByText := true, laidKinds := [.data, .data, .data], laidTests := true, laidLooks := .later }
def FnPassesMinimalCardSaid : Prop := Claim7.holds Tryz.pinned (.plain (OpenSpec.ofChange fnPassesMinimalSpec)) fnPassesMinimalCard

/-- THE TIED CARD OF 'laws.FnPassesSame'. -/
def fnPassesSameCard : Claim7 := { stood := { row := fnPassesSameRow, standIns := [], harness := (true, "0029edfb7fb7f439a95d74575a81b85a86345c0244fc46fb1d33a0d64dcf592d"), looks := false }, kinds := [], alts := [], laidByText := true, laidKinds := [.data, .data, .data], laidTests := true, laidLooks := .later }
def FnPassesSameCardSaid : Prop := Claim7.holds Tryz.pinned (.plain (OpenSpec.ofChange fnPassesSameSpec)) fnPassesSameCard

/-- THE TIED CARD OF 'laws.FnPassesProposal'. -/
def fnPassesProposalCard : Claim7 := { stood := { row := fnPassesProposalRow, standIns := [], harness := (true, "0029edfb7fb7f439a95d74575a81b85a86345c0244fc46fb1d33a0d64dcf592d"), looks := false }, kinds := [], alts := [], laidByText := true, laidKinds := [.data, .data], laidTests := true, laidLooks := .later }
def FnPassesProposalCardSaid : Prop := Claim7.holds Tryz.pinned (.plain (OpenSpec.ofChange fnPassesProposalSpec)) fnPassesProposalCard

/-- THE SECOND FORM's CARD OF 'laws.FnPassesTurned'. -/
def fnPassesTurnedUptoCard : Claim7 := { stood := { row := fnPassesTurnedUptoRow, standIns := [], harness := (true, "0029edfb7fb7f439a95d74575a81b85a86345c0244fc46fb1d33a0d64dcf592d"), looks := false }, kinds := [], alts := [], laidByText := true, laidKinds := [.data, .data, .data], laidTests := true, laidLooks := .later }
def FnPassesTurnedUptoCardSaid : Prop := Claim7.holds Tryz.pinned (.plain (OpenSpec.upto fnPassesTurnedSpec)) fnPassesTurnedUptoCard

/-- THE SECOND FORM's CARD OF 'laws.FnPassesFew'. -/
def fnPassesFewUptoCard : Claim7 := { stood := { row := fnPassesFewUptoRow, standIns := [], harness := (true, "0029edfb7fb7f439a95d74575a81b85a86345c0244fc46fb1d33a0d64dcf592d"), looks := false }, kinds := [], alts := [], laidByText := true, laidKinds := [.data, .data, .data], laidTests := true, laidLooks := .later }
def FnPassesFewUptoCardSaid : Prop := Claim7.holds Tryz.pinned (.plain (OpenSpec.upto fnPassesFewSpec)) fnPassesFewUptoCard

/-- THE SECOND FORM's CARD OF 'laws.FnPassesMinimal'. -/
def fnPassesMinimalUptoCard : Claim7 := { stood := { row := fnPassesMinimalUptoRow, standIns := [], harness := (true, "0029edfb7fb7f439a95d74575a81b85a86345c0244fc46fb1d33a0d64dcf592d"), looks := false }, kinds := [], alts := [], laidByText := true, laidKinds := [.data, .data, .data], laidTests := true, laidLooks := .later }
def FnPassesMinimalUptoCardSaid : Prop := Claim7.holds Tryz.pinned (.plain (OpenSpec.upto fnPassesMinimalSpec)) fnPassesMinimalUptoCard

/-- THE SECOND FORM's CARD OF 'laws.FnPassesSame'. -/
def fnPassesSameUptoCard : Claim7 := { stood := { row := fnPassesSameUptoRow, standIns := [], harness := (true, "0029edfb7fb7f439a95d74575a81b85a86345c0244fc46fb1d33a0d64dcf592d"), looks := false }, kinds := [], alts := [], laidByText := true, laidKinds := [.data, .data, .data], laidTests := true, laidLooks := .later }
def FnPassesSameUptoCardSaid : Prop := Claim7.holds Tryz.pinned (.plain (OpenSpec.upto fnPassesSameSpec)) fnPassesSameUptoCard

/-- THE SECOND FORM's CARD OF 'laws.FnPassesProposal'. -/
def fnPassesProposalUptoCard : Claim7 := { stood := { row := fnPassesProposalUptoRow, standIns := [], harness := (true, "0029edfb7fb7f439a95d74575a81b85a86345c0244fc46fb1d33a0d64dcf592d"), looks := false }, kinds := [], alts := [], laidByText := true, laidKinds := [.data, .data], laidTests := true, laidLooks := .later }
def FnPassesProposalUptoCardSaid : Prop := Claim7.holds Tryz.pinned (.plain (OpenSpec.upto fnPassesProposalSpec)) fnPassesProposalUptoCard
end Rows
end Go.Proofs.YthlkcebdfbjdoaaGreatDoor
