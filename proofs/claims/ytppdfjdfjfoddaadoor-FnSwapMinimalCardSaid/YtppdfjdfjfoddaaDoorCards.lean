/-
  DERIVED. GIVEN WITH THE SEED: THE CARDS: each row of YtppdfjdfjfoddaaDoorRows.lean that lists a variable, with what it lists TIED to the program's text (the seventh form; the later family's looks); each row that meets fmt, with fmt's text TOLD by the authors' own Lean function (tested against real Go, not proved from fmt's source: count such statements apart). THE CARD IS WHAT COUNTS. Prove the row's statement (the work); the ties are given (YtppdfjdfjfoddaaDoorTie.lean); close each card by the builder's one call (the guide's Derived/Test/ToyasCard.lean, 'card_holds'). Laid BY PROGRAM, IN A SANDBOX (cutbox-door.mjs). By AI agents, Wed Nov 11 2026. No macro, syntax, notation, axiom, sorry.
-/
import Derived.Test.YtppdfjdfjfoddaaDoorRows
import GoSem.ClaimSeven
namespace Go.Proofs.YtppdfjdfjfoddaaDoor
namespace Rows

/-- THE TIED CARD OF 'laws.FnSeparatingWords'. -/
def fnSeparatingWordsCard : Claim7 := { stood := { row := fnSeparatingWordsRow, standIns := [], harness := (true, "54d81d749fb7d1e12c79cbee1cf8f3b2cd1d7b11cf6cfa188011efc58240f4d1"), looks := false }, kinds := [], alts := [], laidByText := true, laidKinds := [.data, .data, .data], laidTests := true, laidLooks := .later }
def FnSeparatingWordsCardSaid : Prop := Claim7.holds Tryd.pinned (.plain (OpenSpec.ofChange fnSeparatingWordsSpec)) fnSeparatingWordsCard

/-- THE TIED CARD OF 'laws.FnSwapMinimal'. -/
def fnSwapMinimalCard : Claim7 := { stood := { row := fnSwapMinimalRow, standIns := [], harness := (true, "54d81d749fb7d1e12c79cbee1cf8f3b2cd1d7b11cf6cfa188011efc58240f4d1"), looks := false }, kinds := [], alts := [], laidByText := true, laidKinds := [.data, .data, .data], laidTests := true, laidLooks := .later }
def FnSwapMinimalCardSaid : Prop := Claim7.holds Tryd.pinned (.plain (OpenSpec.ofChange fnSwapMinimalSpec)) fnSwapMinimalCard

/-- THE SECOND FORM's CARD OF 'laws.FnSeparatingWords'. -/
def fnSeparatingWordsUptoCard : Claim7 := { stood := { row := fnSeparatingWordsUptoRow, standIns := [], harness := (true, "54d81d749fb7d1e12c79cbee1cf8f3b2cd1d7b11cf6cfa188011efc58240f4d1"), looks := false }, kinds := [], alts := [], laidByText := true, laidKinds := [.data, .data, .data], laidTests := true, laidLooks := .later }
def FnSeparatingWordsUptoCardSaid : Prop := Claim7.holds Tryd.pinned (.plain (OpenSpec.upto fnSeparatingWordsSpec)) fnSeparatingWordsUptoCard

/-- THE SECOND FORM's CARD OF 'laws.FnSwapMinimal'. -/
def fnSwapMinimalUptoCard : Claim7 := { stood := { row := fnSwapMinimalUptoRow, standIns := [], harness := (true, "54d81d749fb7d1e12c79cbee1cf8f3b2cd1d7b11cf6cfa188011efc58240f4d1"), looks := false }, kinds := [], alts := [], laidByText := true, laidKinds := [.data, .data, .data], laidTests := true, laidLooks := .later }
def FnSwapMinimalUptoCardSaid : Prop := Claim7.holds Tryd.pinned (.plain (OpenSpec.upto fnSwapMinimalSpec)) fnSwapMinimalUptoCard
end Rows
end Go.Proofs.YtppdfjdfjfoddaaDoor
