/-
  No cell of these rows narrows 'for every input' (looked for: loops, veiled, ifaces, maps, wideKeys, modest, calm, conditions, laid).
  DERIVED. THE GIVEN ROWS OF THIS SEAT. 11 by the template 'for every input the law returns true; each argument reads behind the call as it read before'; 0 by the template 'total and deterministic' (their statements: YtidobgmklcbcpaaTotals.lean).
  GIVEN WITH THE SEED: the statements are not yours to turn. If you find one false, say at which input.
  Laid BY PROGRAM, IN A SANDBOX (cutbox-rows.mjs): the forced cells as the released guide's own fill.sh prints them over the translation b0b8514afacacaa5… (all of the seat's roots in one cut). By AI agents, Wed Nov 11 2026. No macro, syntax, notation, axiom, sorry.
-/
import Derived.Test.YtidobgmklcbcpaaChecked
import GoSem.Claim
import GoSem.ClaimJoined
import GoSem.ClaimMapViews
import Derived.JoinedTies
import Derived.KernelRfl
namespace Go.Proofs.Ytidobgmklcbcpaa
/- THE CELL 'sum', in the pinned program and in every row, IS THE sha256 OF THE DUMP (.gsa) THAT YtidobgmklcbcpaaProg.lean LOADS. Nothing in Lean hashes anything: it is a label: what it is worth is what the hold of that sum in a sandbox is worth. -/
noncomputable def Try.pinned : Pinned := { name := "ytidobgmklcbcpaa", sum := "b0b8514afacacaa57c888d7226a36b229db4d6aeb6e90ad24e40c4bcc8929054", checked := Try.checked }
namespace Rows
def none {H : Type} : Left H := { results := [], args := [] }

/-- 'laws.FnExactSwapWord': WHATEVER THE INPUT: true; the input reads as it did. -/
def fnExactSwapWordSpec : ChangeSpec := { name := "fnExactSwapWord", fn := fun _ => fun
  | [d1, d2, d3] => { results := [.lit (.bool true)], args := [d1, d2, d3] }
  | _ => none }
def fnExactSwapWordRow : OpenClaim := { program := "ytidobgmklcbcpaa", sum := "b0b8514afacacaa57c888d7226a36b229db4d6aeb6e90ad24e40c4bcc8929054", func := "loop.example/assumeguarantee/laws.FnExactSwapWord", spec := "fnExactSwapWord", apart := false }
def FnExactSwapWordSaid : Prop := fnExactSwapWordRow.holds Try.pinned (OpenSpec.ofChange fnExactSwapWordSpec)

/-- ITS FALSE NEIGHBOUR: 'it returns false'. Refute it at one input. -/
def fnExactSwapWordWrong : ChangeSpec := { name := "fnExactSwapWord", fn := fun _ => fun
  | [d1, d2, d3] => { results := [.lit (.bool false)], args := [d1, d2, d3] }
  | _ => none }
def FnExactSwapWordWrongFalsely : Prop := fnExactSwapWordRow.holds Try.pinned (OpenSpec.ofChange fnExactSwapWordWrong)

/-- 'laws.FnSwapWord': WHATEVER THE INPUT: true; the input reads as it did. -/
def fnSwapWordSpec : ChangeSpec := { name := "fnSwapWord", fn := fun _ => fun
  | [d] => { results := [.lit (.bool true)], args := [d] }
  | _ => none }
def fnSwapWordRow : OpenClaim := { program := "ytidobgmklcbcpaa", sum := "b0b8514afacacaa57c888d7226a36b229db4d6aeb6e90ad24e40c4bcc8929054", func := "loop.example/assumeguarantee/laws.FnSwapWord", spec := "fnSwapWord", apart := false }
def FnSwapWordSaid : Prop := fnSwapWordRow.holds Try.pinned (OpenSpec.ofChange fnSwapWordSpec)

/-- ITS FALSE NEIGHBOUR: 'it returns false'. Refute it at one input. -/
def fnSwapWordWrong : ChangeSpec := { name := "fnSwapWord", fn := fun _ => fun
  | [d] => { results := [.lit (.bool false)], args := [d] }
  | _ => none }
def FnSwapWordWrongFalsely : Prop := fnSwapWordRow.holds Try.pinned (OpenSpec.ofChange fnSwapWordWrong)

/-- 'laws.FnSwapAlphabet': WHATEVER THE INPUT: true; the input reads as it did. -/
def fnSwapAlphabetSpec : ChangeSpec := { name := "fnSwapAlphabet", fn := fun _ => fun
  | [d] => { results := [.lit (.bool true)], args := [d] }
  | _ => none }
def fnSwapAlphabetRow : OpenClaim := { program := "ytidobgmklcbcpaa", sum := "b0b8514afacacaa57c888d7226a36b229db4d6aeb6e90ad24e40c4bcc8929054", func := "loop.example/assumeguarantee/laws.FnSwapAlphabet", spec := "fnSwapAlphabet", apart := false }
def FnSwapAlphabetSaid : Prop := fnSwapAlphabetRow.holds Try.pinned (OpenSpec.ofChange fnSwapAlphabetSpec)

/-- ITS FALSE NEIGHBOUR: 'it returns false'. Refute it at one input. -/
def fnSwapAlphabetWrong : ChangeSpec := { name := "fnSwapAlphabet", fn := fun _ => fun
  | [d] => { results := [.lit (.bool false)], args := [d] }
  | _ => none }
def FnSwapAlphabetWrongFalsely : Prop := fnSwapAlphabetRow.holds Try.pinned (OpenSpec.ofChange fnSwapAlphabetWrong)

/-- 'laws.FnSwapRestrict': WHATEVER THE INPUT: true; the input reads as it did. -/
def fnSwapRestrictSpec : ChangeSpec := { name := "fnSwapRestrict", fn := fun _ => fun
  | [d1, d2] => { results := [.lit (.bool true)], args := [d1, d2] }
  | _ => none }
def fnSwapRestrictRow : OpenClaim := { program := "ytidobgmklcbcpaa", sum := "b0b8514afacacaa57c888d7226a36b229db4d6aeb6e90ad24e40c4bcc8929054", func := "loop.example/assumeguarantee/laws.FnSwapRestrict", spec := "fnSwapRestrict", apart := false }
def FnSwapRestrictSaid : Prop := fnSwapRestrictRow.holds Try.pinned (OpenSpec.ofChange fnSwapRestrictSpec)

/-- ITS FALSE NEIGHBOUR: 'it returns false'. Refute it at one input. -/
def fnSwapRestrictWrong : ChangeSpec := { name := "fnSwapRestrict", fn := fun _ => fun
  | [d1, d2] => { results := [.lit (.bool false)], args := [d1, d2] }
  | _ => none }
def FnSwapRestrictWrongFalsely : Prop := fnSwapRestrictRow.holds Try.pinned (OpenSpec.ofChange fnSwapRestrictWrong)

/-- 'laws.FnExactDropEdge': WHATEVER THE INPUT: true; the input reads as it did. -/
def fnExactDropEdgeSpec : ChangeSpec := { name := "fnExactDropEdge", fn := fun _ => fun
  | [d1, d2] => { results := [.lit (.bool true)], args := [d1, d2] }
  | _ => none }
def fnExactDropEdgeRow : OpenClaim := { program := "ytidobgmklcbcpaa", sum := "b0b8514afacacaa57c888d7226a36b229db4d6aeb6e90ad24e40c4bcc8929054", func := "loop.example/assumeguarantee/laws.FnExactDropEdge", spec := "fnExactDropEdge", unfollowed := true, recurses := true, apart := false }
def FnExactDropEdgeSaid : Prop := fnExactDropEdgeRow.holds Try.pinned (OpenSpec.ofChange fnExactDropEdgeSpec)

/-- ITS FALSE NEIGHBOUR: 'it returns false'. Refute it at one input. -/
def fnExactDropEdgeWrong : ChangeSpec := { name := "fnExactDropEdge", fn := fun _ => fun
  | [d1, d2] => { results := [.lit (.bool false)], args := [d1, d2] }
  | _ => none }
def FnExactDropEdgeWrongFalsely : Prop := fnExactDropEdgeRow.holds Try.pinned (OpenSpec.ofChange fnExactDropEdgeWrong)

/-- 'laws.FnExactSwapAutomaton': WHATEVER THE INPUT: true; the input reads as it did. -/
def fnExactSwapAutomatonSpec : ChangeSpec := { name := "fnExactSwapAutomaton", fn := fun _ => fun
  | [d1, d2, d3] => { results := [.lit (.bool true)], args := [d1, d2, d3] }
  | _ => none }
def fnExactSwapAutomatonRow : OpenClaim := { program := "ytidobgmklcbcpaa", sum := "b0b8514afacacaa57c888d7226a36b229db4d6aeb6e90ad24e40c4bcc8929054", func := "loop.example/assumeguarantee/laws.FnExactSwapAutomaton", spec := "fnExactSwapAutomaton", apart := false }
def FnExactSwapAutomatonSaid : Prop := fnExactSwapAutomatonRow.holds Try.pinned (OpenSpec.ofChange fnExactSwapAutomatonSpec)

/-- ITS FALSE NEIGHBOUR: 'it returns false'. Refute it at one input. -/
def fnExactSwapAutomatonWrong : ChangeSpec := { name := "fnExactSwapAutomaton", fn := fun _ => fun
  | [d1, d2, d3] => { results := [.lit (.bool false)], args := [d1, d2, d3] }
  | _ => none }
def FnExactSwapAutomatonWrongFalsely : Prop := fnExactSwapAutomatonRow.holds Try.pinned (OpenSpec.ofChange fnExactSwapAutomatonWrong)

/-- 'laws.FnExactAddEdge': WHATEVER THE INPUT: true; the input reads as it did. -/
def fnExactAddEdgeSpec : ChangeSpec := { name := "fnExactAddEdge", fn := fun _ => fun
  | [d1, d2] => { results := [.lit (.bool true)], args := [d1, d2] }
  | _ => none }
def fnExactAddEdgeRow : OpenClaim := { program := "ytidobgmklcbcpaa", sum := "b0b8514afacacaa57c888d7226a36b229db4d6aeb6e90ad24e40c4bcc8929054", func := "loop.example/assumeguarantee/laws.FnExactAddEdge", spec := "fnExactAddEdge", inPlace := ["slices.overlaps[loop.example/assumeguarantee/impl.Edge]"], unfollowed := true, recurses := true, apart := false }
def FnExactAddEdgeSaid : Prop := fnExactAddEdgeRow.holds Try.pinned (OpenSpec.ofChange fnExactAddEdgeSpec)

/-- ITS FALSE NEIGHBOUR: 'it returns false'. Refute it at one input. -/
def fnExactAddEdgeWrong : ChangeSpec := { name := "fnExactAddEdge", fn := fun _ => fun
  | [d1, d2] => { results := [.lit (.bool false)], args := [d1, d2] }
  | _ => none }
def FnExactAddEdgeWrongFalsely : Prop := fnExactAddEdgeRow.holds Try.pinned (OpenSpec.ofChange fnExactAddEdgeWrong)

/-- 'laws.FnEdgeOnce': WHATEVER THE INPUT: true; the input reads as it did. -/
def fnEdgeOnceSpec : ChangeSpec := { name := "fnEdgeOnce", fn := fun _ => fun
  | [d] => { results := [.lit (.bool true)], args := [d] }
  | _ => none }
def fnEdgeOnceRow : OpenClaim := { program := "ytidobgmklcbcpaa", sum := "b0b8514afacacaa57c888d7226a36b229db4d6aeb6e90ad24e40c4bcc8929054", func := "loop.example/assumeguarantee/laws.FnEdgeOnce", spec := "fnEdgeOnce", inPlace := ["slices.overlaps[loop.example/assumeguarantee/impl.Edge]"], unfollowed := true, recurses := true, apart := false }
def FnEdgeOnceSaid : Prop := fnEdgeOnceRow.holds Try.pinned (OpenSpec.ofChange fnEdgeOnceSpec)

/-- ITS FALSE NEIGHBOUR: 'it returns false'. Refute it at one input. -/
def fnEdgeOnceWrong : ChangeSpec := { name := "fnEdgeOnce", fn := fun _ => fun
  | [d] => { results := [.lit (.bool false)], args := [d] }
  | _ => none }
def FnEdgeOnceWrongFalsely : Prop := fnEdgeOnceRow.holds Try.pinned (OpenSpec.ofChange fnEdgeOnceWrong)

/-- 'laws.FnSwapAutomaton': WHATEVER THE INPUT: true; the input reads as it did. -/
def fnSwapAutomatonSpec : ChangeSpec := { name := "fnSwapAutomaton", fn := fun _ => fun
  | [d] => { results := [.lit (.bool true)], args := [d] }
  | _ => none }
def fnSwapAutomatonRow : OpenClaim := { program := "ytidobgmklcbcpaa", sum := "b0b8514afacacaa57c888d7226a36b229db4d6aeb6e90ad24e40c4bcc8929054", func := "loop.example/assumeguarantee/laws.FnSwapAutomaton", spec := "fnSwapAutomaton", recurses := true, apart := false }
def FnSwapAutomatonSaid : Prop := fnSwapAutomatonRow.holds Try.pinned (OpenSpec.ofChange fnSwapAutomatonSpec)

/-- ITS FALSE NEIGHBOUR: 'it returns false'. Refute it at one input. -/
def fnSwapAutomatonWrong : ChangeSpec := { name := "fnSwapAutomaton", fn := fun _ => fun
  | [d] => { results := [.lit (.bool false)], args := [d] }
  | _ => none }
def FnSwapAutomatonWrongFalsely : Prop := fnSwapAutomatonRow.holds Try.pinned (OpenSpec.ofChange fnSwapAutomatonWrong)

/-- 'laws.FnExactSeparatingWords': WHATEVER THE INPUT: true; the input reads as it did. -/
def fnExactSeparatingWordsSpec : ChangeSpec := { name := "fnExactSeparatingWords", fn := fun _ => fun
  | [d] => { results := [.lit (.bool true)], args := [d] }
  | _ => none }
def fnExactSeparatingWordsRow : OpenClaim := { program := "ytidobgmklcbcpaa", sum := "b0b8514afacacaa57c888d7226a36b229db4d6aeb6e90ad24e40c4bcc8929054", func := "loop.example/assumeguarantee/laws.FnExactSeparatingWords", spec := "fnExactSeparatingWords", unfollowed := true, recurses := true, apart := false }
def FnExactSeparatingWordsSaid : Prop := fnExactSeparatingWordsRow.holds Try.pinned (OpenSpec.ofChange fnExactSeparatingWordsSpec)

/-- ITS FALSE NEIGHBOUR: 'it returns false'. Refute it at one input. -/
def fnExactSeparatingWordsWrong : ChangeSpec := { name := "fnExactSeparatingWords", fn := fun _ => fun
  | [d] => { results := [.lit (.bool false)], args := [d] }
  | _ => none }
def FnExactSeparatingWordsWrongFalsely : Prop := fnExactSeparatingWordsRow.holds Try.pinned (OpenSpec.ofChange fnExactSeparatingWordsWrong)

/-- 'laws.FnExactSwapSystem': WHATEVER THE INPUT: true; the input reads as it did. -/
def fnExactSwapSystemSpec : ChangeSpec := { name := "fnExactSwapSystem", fn := fun _ => fun
  | [d1, d2, d3] => { results := [.lit (.bool true)], args := [d1, d2, d3] }
  | _ => none }
def fnExactSwapSystemRow : OpenClaim := { program := "ytidobgmklcbcpaa", sum := "b0b8514afacacaa57c888d7226a36b229db4d6aeb6e90ad24e40c4bcc8929054", func := "loop.example/assumeguarantee/laws.FnExactSwapSystem", spec := "fnExactSwapSystem", unfollowed := true, recurses := true, apart := false }
def FnExactSwapSystemSaid : Prop := fnExactSwapSystemRow.holds Try.pinned (OpenSpec.ofChange fnExactSwapSystemSpec)

/-- ITS FALSE NEIGHBOUR: 'it returns false'. Refute it at one input. -/
def fnExactSwapSystemWrong : ChangeSpec := { name := "fnExactSwapSystem", fn := fun _ => fun
  | [d1, d2, d3] => { results := [.lit (.bool false)], args := [d1, d2, d3] }
  | _ => none }
def FnExactSwapSystemWrongFalsely : Prop := fnExactSwapSystemRow.holds Try.pinned (OpenSpec.ofChange fnExactSwapSystemWrong)

/- THE SECOND FORM. 'bulk': how many values and letters a reading holds, each counted each time it is reached (what is shared counts as often as it is met; a slice's spare places count too). A statement '..UptoSaid' is the law's where the arguments, and the package variables that the reading takes, are together of bulk at most 1048576: NARROWER than '..Said'. Prove '..Said' where nothing that the law and all that it calls make is longer than what came in: it says more and counts as full. Else prove '..UptoSaid'. A law counts once. -/
mutual
def uptoBulk {H : Type} : DataW H → Nat
  | .lit (.string bytes) => bytes.length + 1
  | .lit _ => 1
  | .nil => 1
  | .ptr d => uptoBulk d + 1
  | .slice elems spare => uptoBulkAll elems + uptoBulkAll spare + 1
  | .agg parts => uptoBulkAll parts + 1
  | .iface _ d => uptoBulk d + 1
  | .map entries => uptoBulkEntries entries + 1
  | .held _ => 1
def uptoBulkAll {H : Type} : List (DataW H) → Nat
  | [] => 0
  | d :: r => uptoBulk d + uptoBulkAll r
def uptoBulkEntries {H : Type} : List (Lit × DataW H) → Nat
  | [] => 0
  | x :: r => uptoBulkEntry x + uptoBulkEntries r
def uptoBulkEntry {H : Type} : Lit × DataW H → Nat
  | (.string bytes, d) => bytes.length + uptoBulk d + 1
  | (_, d) => uptoBulk d + 1
 end
def uptoSmall : (H : Type) → List (DataW H) → Bool := fun _ ds => decide (uptoBulkAll ds ≤ 1048576)
def OpenSpec.upto (s : _root_.Go.ChangeSpec) : _root_.Go.OpenSpec := { _root_.Go.OpenSpec.ofChange s with cond := some uptoSmall }

/-- 'laws.FnExactSwapWord', WHERE WHAT IT READS IS OF BULK AT MOST 1048576: true; the input reads as it did. -/
def fnExactSwapWordUptoRow : OpenClaim := { program := "ytidobgmklcbcpaa", sum := "b0b8514afacacaa57c888d7226a36b229db4d6aeb6e90ad24e40c4bcc8929054", func := "loop.example/assumeguarantee/laws.FnExactSwapWord", spec := "fnExactSwapWord", apart := false, narrowed := true }
def FnExactSwapWordUptoSaid : Prop := fnExactSwapWordUptoRow.holds Try.pinned (OpenSpec.upto fnExactSwapWordSpec)

/-- 'laws.FnSwapWord', WHERE WHAT IT READS IS OF BULK AT MOST 1048576: true; the input reads as it did. -/
def fnSwapWordUptoRow : OpenClaim := { program := "ytidobgmklcbcpaa", sum := "b0b8514afacacaa57c888d7226a36b229db4d6aeb6e90ad24e40c4bcc8929054", func := "loop.example/assumeguarantee/laws.FnSwapWord", spec := "fnSwapWord", apart := false, narrowed := true }
def FnSwapWordUptoSaid : Prop := fnSwapWordUptoRow.holds Try.pinned (OpenSpec.upto fnSwapWordSpec)

/-- 'laws.FnSwapAlphabet', WHERE WHAT IT READS IS OF BULK AT MOST 1048576: true; the input reads as it did. -/
def fnSwapAlphabetUptoRow : OpenClaim := { program := "ytidobgmklcbcpaa", sum := "b0b8514afacacaa57c888d7226a36b229db4d6aeb6e90ad24e40c4bcc8929054", func := "loop.example/assumeguarantee/laws.FnSwapAlphabet", spec := "fnSwapAlphabet", apart := false, narrowed := true }
def FnSwapAlphabetUptoSaid : Prop := fnSwapAlphabetUptoRow.holds Try.pinned (OpenSpec.upto fnSwapAlphabetSpec)

/-- 'laws.FnSwapRestrict', WHERE WHAT IT READS IS OF BULK AT MOST 1048576: true; the input reads as it did. -/
def fnSwapRestrictUptoRow : OpenClaim := { program := "ytidobgmklcbcpaa", sum := "b0b8514afacacaa57c888d7226a36b229db4d6aeb6e90ad24e40c4bcc8929054", func := "loop.example/assumeguarantee/laws.FnSwapRestrict", spec := "fnSwapRestrict", apart := false, narrowed := true }
def FnSwapRestrictUptoSaid : Prop := fnSwapRestrictUptoRow.holds Try.pinned (OpenSpec.upto fnSwapRestrictSpec)

/-- 'laws.FnExactDropEdge', WHERE WHAT IT READS IS OF BULK AT MOST 1048576: true; the input reads as it did. -/
def fnExactDropEdgeUptoRow : OpenClaim := { program := "ytidobgmklcbcpaa", sum := "b0b8514afacacaa57c888d7226a36b229db4d6aeb6e90ad24e40c4bcc8929054", func := "loop.example/assumeguarantee/laws.FnExactDropEdge", spec := "fnExactDropEdge", unfollowed := true, recurses := true, apart := false, narrowed := true }
def FnExactDropEdgeUptoSaid : Prop := fnExactDropEdgeUptoRow.holds Try.pinned (OpenSpec.upto fnExactDropEdgeSpec)

/-- 'laws.FnExactSwapAutomaton', WHERE WHAT IT READS IS OF BULK AT MOST 1048576: true; the input reads as it did. -/
def fnExactSwapAutomatonUptoRow : OpenClaim := { program := "ytidobgmklcbcpaa", sum := "b0b8514afacacaa57c888d7226a36b229db4d6aeb6e90ad24e40c4bcc8929054", func := "loop.example/assumeguarantee/laws.FnExactSwapAutomaton", spec := "fnExactSwapAutomaton", apart := false, narrowed := true }
def FnExactSwapAutomatonUptoSaid : Prop := fnExactSwapAutomatonUptoRow.holds Try.pinned (OpenSpec.upto fnExactSwapAutomatonSpec)

/-- 'laws.FnExactAddEdge', WHERE WHAT IT READS IS OF BULK AT MOST 1048576: true; the input reads as it did. -/
def fnExactAddEdgeUptoRow : OpenClaim := { program := "ytidobgmklcbcpaa", sum := "b0b8514afacacaa57c888d7226a36b229db4d6aeb6e90ad24e40c4bcc8929054", func := "loop.example/assumeguarantee/laws.FnExactAddEdge", spec := "fnExactAddEdge", inPlace := ["slices.overlaps[loop.example/assumeguarantee/impl.Edge]"], unfollowed := true, recurses := true, apart := false, narrowed := true }
def FnExactAddEdgeUptoSaid : Prop := fnExactAddEdgeUptoRow.holds Try.pinned (OpenSpec.upto fnExactAddEdgeSpec)

/-- 'laws.FnEdgeOnce', WHERE WHAT IT READS IS OF BULK AT MOST 1048576: true; the input reads as it did. -/
def fnEdgeOnceUptoRow : OpenClaim := { program := "ytidobgmklcbcpaa", sum := "b0b8514afacacaa57c888d7226a36b229db4d6aeb6e90ad24e40c4bcc8929054", func := "loop.example/assumeguarantee/laws.FnEdgeOnce", spec := "fnEdgeOnce", inPlace := ["slices.overlaps[loop.example/assumeguarantee/impl.Edge]"], unfollowed := true, recurses := true, apart := false, narrowed := true }
def FnEdgeOnceUptoSaid : Prop := fnEdgeOnceUptoRow.holds Try.pinned (OpenSpec.upto fnEdgeOnceSpec)

/-- 'laws.FnSwapAutomaton', WHERE WHAT IT READS IS OF BULK AT MOST 1048576: true; the input reads as it did. -/
def fnSwapAutomatonUptoRow : OpenClaim := { program := "ytidobgmklcbcpaa", sum := "b0b8514afacacaa57c888d7226a36b229db4d6aeb6e90ad24e40c4bcc8929054", func := "loop.example/assumeguarantee/laws.FnSwapAutomaton", spec := "fnSwapAutomaton", recurses := true, apart := false, narrowed := true }
def FnSwapAutomatonUptoSaid : Prop := fnSwapAutomatonUptoRow.holds Try.pinned (OpenSpec.upto fnSwapAutomatonSpec)

/-- 'laws.FnExactSeparatingWords', WHERE WHAT IT READS IS OF BULK AT MOST 1048576: true; the input reads as it did. -/
def fnExactSeparatingWordsUptoRow : OpenClaim := { program := "ytidobgmklcbcpaa", sum := "b0b8514afacacaa57c888d7226a36b229db4d6aeb6e90ad24e40c4bcc8929054", func := "loop.example/assumeguarantee/laws.FnExactSeparatingWords", spec := "fnExactSeparatingWords", unfollowed := true, recurses := true, apart := false, narrowed := true }
def FnExactSeparatingWordsUptoSaid : Prop := fnExactSeparatingWordsUptoRow.holds Try.pinned (OpenSpec.upto fnExactSeparatingWordsSpec)

/-- 'laws.FnExactSwapSystem', WHERE WHAT IT READS IS OF BULK AT MOST 1048576: true; the input reads as it did. -/
def fnExactSwapSystemUptoRow : OpenClaim := { program := "ytidobgmklcbcpaa", sum := "b0b8514afacacaa57c888d7226a36b229db4d6aeb6e90ad24e40c4bcc8929054", func := "loop.example/assumeguarantee/laws.FnExactSwapSystem", spec := "fnExactSwapSystem", unfollowed := true, recurses := true, apart := false, narrowed := true }
def FnExactSwapSystemUptoSaid : Prop := fnExactSwapSystemUptoRow.holds Try.pinned (OpenSpec.upto fnExactSwapSystemSpec)

end Rows
end Go.Proofs.Ytidobgmklcbcpaa
