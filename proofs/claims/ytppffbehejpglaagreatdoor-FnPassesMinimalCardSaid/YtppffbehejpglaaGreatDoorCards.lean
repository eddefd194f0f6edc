/-
  DERIVED. GIVEN WITH THE SEED: THE CARDS: each row of YtppffbehejpglaaGreatDoorRows.lean that lists a variable, with what it lists TIED to the program's text (the seventh form; the later family's looks); each row that meets fmt, with fmt's text TOLD by the authors' own Lean function (tested against real Go, not proved from fmt's source: count such statements apart). THE CARD IS WHAT COUNTS. Prove the row's statement (the work); the ties are given (YtppffbehejpglaaGreatDoorTie.lean); close each card by the builder's one call (the guide's Derived/Test/ToyasCard.lean, 'card_holds'). Laid BY PROGRAM, IN A SANDBOX (cutbox-door.mjs). By AI agents, Wed Nov 11 2026. No macro, syntax, notation, axiom, sorry.
-/
import Derived.Test.YtppffbehejpglaaGreatDoorRows
import GoSem.ClaimSeven
namespace Go.Proofs.YtppffbehejpglaaGreatDoor
namespace Rows

/-- THE TIED CARD OF 'laws.FnPassesTurned'. -/
def fnPassesTurnedCard : Claim7 := { stood := { row := fnPassesTurnedRow, standIns := [], harness := (true, "869408ebcab4fecbc587c3fd94cc02037e5087a9350fa45c2ee8a49b7e8f024f"), looks := false }, kinds := [], alts := [], laidByText := true, laidKinds := [.data, .data, .data], laidTests := true, laidLooks := .later }
def FnPassesTurnedCardSaid : Prop := Claim7.holds Tryz.pinned (.plain (OpenSpec.ofChange fnPassesTurnedSpec)) fnPassesTurnedCard

/-- THE TIED CARD OF 'laws.FnPassesMinimal'. -/
def fnPassesMinimalCard : Claim7 := { stood := { row := fnPassesMinimalRow, standIns := [], harness := (true, "869408ebcab4fecbc587c3fd94cc02037e5087a9350fa45c2ee8a49b7e8f024f"), looks := false }, kinds := [], alts := [], laidByText := true, laidKinds := [.data, .data, .data], laidTests := true, laidLooks := .later }
def FnPassesMinimalCardSaid : Prop := Claim7.holds Tryz.pinned (.plain (OpenSpec.ofChange fnPassesMinimalSpec)) fnPassesMinimalCard

/-- THE SECOND FORM's CARD OF 'laws.FnPassesTurned'. -/
def fnPassesTurnedUptoCard : Claim7 := { stood := { row := fnPassesTurnedUptoRow, standIns := [], harness := (true, "869408ebcab4fecbc587c3fd94cc02037e5087a9350fa45c2ee8a49b7e8f024f"), looks := false }, kinds := [], alts := [], laidByText := true, laidKinds := [.data, .data, .data], laidTests := true, laidLooks := .later }
def FnPassesTurnedUptoCardSaid : Prop := Claim7.holds Tryz.pinned (.plain (OpenSpec.upto fnPassesTurnedSpec)) fnPassesTurnedUptoCard

/-- THE SECOND FORM's CARD OF 'laws.FnPassesMinimal'. -/
def fnPassesMinimalUptoCard : Claim7 := { stood := { row := fnPassesMinimalUptoRow, standIns := [], harness := (true, "869408ebcab4fecbc587c3fd94cc02037e5087a9350fa45c2ee8a49b7e8f024f"), looks := false }, kinds := [], alts := [], laidByText := true, laidKinds := [.data, .data, .data], laidTests := true, laidLooks := .later }
def FnPassesMinimalUptoCardSaid : Prop := Claim7.holds Tryz.pinned (.plain (OpenSpec.upto fnPassesMinimalSpec)) fnPassesMinimalUptoCard
end Rows
end Go.Proofs.YtppffbehejpglaaGreatDoor
