/-
  DERIVED. GIVEN WITH THE SEED: THE CARDS: each row of YtojaohcpgelhmaaDoorRows.lean that lists a variable, with what it lists TIED to the program's text (the seventh form; the later family's looks); each row that meets fmt, with fmt's text TOLD by the authors' own Lean function (tested against real Go, not proved from fmt's source: count such statements apart). THE CARD IS WHAT COUNTS. Prove the row's statement (the work); the ties are given (YtojaohcpgelhmaaDoorTie.lean); close each card by the builder's one call (the guide's Derived/Test/ToyasCard.lean, 'card_holds'). Laid BY PROGRAM, IN A SANDBOX (cutbox-door.mjs). By AI agents, Wed Nov 11 2026. No macro, syntax, notation, axiom, sorry.
-/
import Derived.Test.YtojaohcpgelhmaaDoorRows
import GoSem.ClaimSeven
namespace Go.Proofs.YtojaohcpgelhmaaDoor
namespace Rows

/-- THE TIED CARD OF 'laws.FnSwapSystem'. -/
def fnSwapSystemCard : Claim7 := { stood := { row := fnSwapSystemRow, standIns := [], harness := (true, "28bf8df118c30dc7bed67c3ceed91359df4bb7695b80ad08809af1111116aeed"), looks := false }, kinds := [], alts := [], laidByText := true, laidKinds := [.data, .data], laidTests := true, laidLooks := .later }
def FnSwapSystemCardSaid : Prop := Claim7.holds Tryd.pinned (.plain (OpenSpec.ofChange fnSwapSystemSpec)) fnSwapSystemCard

/-- THE TIED CARD OF 'laws.FnAddEdge'. -/
def fnAddEdgeCard : Claim7 := { stood := { row := fnAddEdgeRow, standIns := [], harness := (true, "28bf8df118c30dc7bed67c3ceed91359df4bb7695b80ad08809af1111116aeed"), looks := false }, kinds := [], alts := [], laidByText := true, laidKinds := [.data, .data], laidTests := true, laidLooks := .later }
def FnAddEdgeCardSaid : Prop := Claim7.holds Tryd.pinned (.plain (OpenSpec.ofChange fnAddEdgeSpec)) fnAddEdgeCard

/-- THE TIED CARD OF 'laws.FnDropEdge'. -/
def fnDropEdgeCard : Claim7 := { stood := { row := fnDropEdgeRow, standIns := [], harness := (true, "28bf8df118c30dc7bed67c3ceed91359df4bb7695b80ad08809af1111116aeed"), looks := false }, kinds := [], alts := [], laidByText := true, laidKinds := [.data, .data], laidTests := true, laidLooks := .later }
def FnDropEdgeCardSaid : Prop := Claim7.holds Tryd.pinned (.plain (OpenSpec.ofChange fnDropEdgeSpec)) fnDropEdgeCard

/-- THE SECOND FORM's CARD OF 'laws.FnSwapSystem'. -/
def fnSwapSystemUptoCard : Claim7 := { stood := { row := fnSwapSystemUptoRow, standIns := [], harness := (true, "28bf8df118c30dc7bed67c3ceed91359df4bb7695b80ad08809af1111116aeed"), looks := false }, kinds := [], alts := [], laidByText := true, laidKinds := [.data, .data], laidTests := true, laidLooks := .later }
def FnSwapSystemUptoCardSaid : Prop := Claim7.holds Tryd.pinned (.plain (OpenSpec.upto fnSwapSystemSpec)) fnSwapSystemUptoCard

/-- THE SECOND FORM's CARD OF 'laws.FnAddEdge'. -/
def fnAddEdgeUptoCard : Claim7 := { stood := { row := fnAddEdgeUptoRow, standIns := [], harness := (true, "28bf8df118c30dc7bed67c3ceed91359df4bb7695b80ad08809af1111116aeed"), looks := false }, kinds := [], alts := [], laidByText := true, laidKinds := [.data, .data], laidTests := true, laidLooks := .later }
def FnAddEdgeUptoCardSaid : Prop := Claim7.holds Tryd.pinned (.plain (OpenSpec.upto fnAddEdgeSpec)) fnAddEdgeUptoCard

/-- THE SECOND FORM's CARD OF 'laws.FnDropEdge'. -/
def fnDropEdgeUptoCard : Claim7 := { stood := { row := fnDropEdgeUptoRow, standIns := [], harness := (true, "28bf8df118c30dc7bed67c3ceed91359df4bb7695b80ad08809af1111116aeed"), looks := false }, kinds := [], alts := [], laidByText := true, laidKinds := [.data, .data], laidTests := true, laidLooks := .later }
def FnDropEdgeUptoCardSaid : Prop := Claim7.holds Tryd.pinned (.plain (OpenSpec.upto fnDropEdgeSpec)) fnDropEdgeUptoCard
end Rows
end Go.Proofs.YtojaohcpgelhmaaDoor
