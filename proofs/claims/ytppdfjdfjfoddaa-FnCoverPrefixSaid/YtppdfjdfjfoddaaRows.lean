/-
  No cell of these rows narrows 'for every input' (looked for: loops, veiled, ifaces, maps, wideKeys, modest, calm, conditions, laid).
  DERIVED. THE GIVEN ROWS OF THIS SEAT. 5 by the template 'for every input the law returns true; each argument reads behind the call as it read before'; 0 by the template 'total and deterministic' (their statements: YtppdfjdfjfoddaaTotals.lean).
  GIVEN WITH THE SEED: the statements are not yours to turn. If you find one false, say at which input.
  Laid BY PROGRAM, IN A SANDBOX (cutbox-rows.mjs): the forced cells as the released guide's own fill.sh prints them over the translation 269a0a8be47e3e82… (all of the seat's roots in one cut). By AI agents, Wed Nov 11 2026. No macro, syntax, notation, axiom, sorry.
-/
import Derived.Test.YtppdfjdfjfoddaaChecked
import GoSem.Claim
import GoSem.ClaimJoined
import GoSem.ClaimMapViews
import Derived.JoinedTies
import Derived.KernelRfl
namespace Go.Proofs.Ytppdfjdfjfoddaa
/- THE CELL 'sum', in the pinned program and in every row, IS THE sha256 OF THE DUMP (.gsa) THAT YtppdfjdfjfoddaaProg.lean LOADS. Nothing in Lean hashes anything: it is a label: what it is worth is what the hold of that sum in a sandbox is worth. -/
noncomputable def Try.pinned : Pinned := { name := "ytppdfjdfjfoddaa", sum := "269a0a8be47e3e829083c14495c93abafcbcc1a5618b9254862f153a20026607", checked := Try.checked }
namespace Rows
def none {H : Type} : Left H := { results := [], args := [] }

/-- 'laws.FnSwapAutomaton': WHATEVER THE INPUT: true; the input reads as it did. -/
def fnSwapAutomatonSpec : ChangeSpec := { name := "fnSwapAutomaton", fn := fun _ => fun
  | [d] => { results := [.lit (.bool true)], args := [d] }
  | _ => none }
def fnSwapAutomatonRow : OpenClaim := { program := "ytppdfjdfjfoddaa", sum := "269a0a8be47e3e829083c14495c93abafcbcc1a5618b9254862f153a20026607", func := "loop.example/assumeguarantee/laws.FnSwapAutomaton", spec := "fnSwapAutomaton", recurses := true, apart := false }
def FnSwapAutomatonSaid : Prop := fnSwapAutomatonRow.holds Try.pinned (OpenSpec.ofChange fnSwapAutomatonSpec)

/-- ITS FALSE NEIGHBOUR: 'it returns false'. Refute it at one input. -/
def fnSwapAutomatonWrong : ChangeSpec := { name := "fnSwapAutomaton", fn := fun _ => fun
  | [d] => { results := [.lit (.bool false)], args := [d] }
  | _ => none }
def FnSwapAutomatonWrongFalsely : Prop := fnSwapAutomatonRow.holds Try.pinned (OpenSpec.ofChange fnSwapAutomatonWrong)

/-- 'laws.FnExactSeparatingWords': WHATEVER THE INPUT: true; the input reads as it did. -/
def fnExactSeparatingWordsSpec : ChangeSpec := { name := "fnExactSeparatingWords", fn := fun _ => fun
  | [d] => { results := [.lit (.bool true)], args := [d] }
  | _ => none }
def fnExactSeparatingWordsRow : OpenClaim := { program := "ytppdfjdfjfoddaa", sum := "269a0a8be47e3e829083c14495c93abafcbcc1a5618b9254862f153a20026607", func := "loop.example/assumeguarantee/laws.FnExactSeparatingWords", spec := "fnExactSeparatingWords", unfollowed := true, recurses := true, apart := false }
def FnExactSeparatingWordsSaid : Prop := fnExactSeparatingWordsRow.holds Try.pinned (OpenSpec.ofChange fnExactSeparatingWordsSpec)

/-- ITS FALSE NEIGHBOUR: 'it returns false'. Refute it at one input. -/
def fnExactSeparatingWordsWrong : ChangeSpec := { name := "fnExactSeparatingWords", fn := fun _ => fun
  | [d] => { results := [.lit (.bool false)], args := [d] }
  | _ => none }
def FnExactSeparatingWordsWrongFalsely : Prop := fnExactSeparatingWordsRow.holds Try.pinned (OpenSpec.ofChange fnExactSeparatingWordsWrong)

/-- 'laws.FnSeparatingFew': WHATEVER THE INPUT: true; the input reads as it did. -/
def fnSeparatingFewSpec : ChangeSpec := { name := "fnSeparatingFew", fn := fun _ => fun
  | [d] => { results := [.lit (.bool true)], args := [d] }
  | _ => none }
def fnSeparatingFewRow : OpenClaim := { program := "ytppdfjdfjfoddaa", sum := "269a0a8be47e3e829083c14495c93abafcbcc1a5618b9254862f153a20026607", func := "loop.example/assumeguarantee/laws.FnSeparatingFew", spec := "fnSeparatingFew", unfollowed := true, recurses := true, apart := false }
def FnSeparatingFewSaid : Prop := fnSeparatingFewRow.holds Try.pinned (OpenSpec.ofChange fnSeparatingFewSpec)

/-- ITS FALSE NEIGHBOUR: 'it returns false'. Refute it at one input. -/
def fnSeparatingFewWrong : ChangeSpec := { name := "fnSeparatingFew", fn := fun _ => fun
  | [d] => { results := [.lit (.bool false)], args := [d] }
  | _ => none }
def FnSeparatingFewWrongFalsely : Prop := fnSeparatingFewRow.holds Try.pinned (OpenSpec.ofChange fnSeparatingFewWrong)

/-- 'laws.FnExactCoverWords': WHATEVER THE INPUT: true; the input reads as it did. -/
def fnExactCoverWordsSpec : ChangeSpec := { name := "fnExactCoverWords", fn := fun _ => fun
  | [d] => { results := [.lit (.bool true)], args := [d] }
  | _ => none }
def fnExactCoverWordsRow : OpenClaim := { program := "ytppdfjdfjfoddaa", sum := "269a0a8be47e3e829083c14495c93abafcbcc1a5618b9254862f153a20026607", func := "loop.example/assumeguarantee/laws.FnExactCoverWords", spec := "fnExactCoverWords", unfollowed := true, recurses := true, apart := false }
def FnExactCoverWordsSaid : Prop := fnExactCoverWordsRow.holds Try.pinned (OpenSpec.ofChange fnExactCoverWordsSpec)

/-- ITS FALSE NEIGHBOUR: 'it returns false'. Refute it at one input. -/
def fnExactCoverWordsWrong : ChangeSpec := { name := "fnExactCoverWords", fn := fun _ => fun
  | [d] => { results := [.lit (.bool false)], args := [d] }
  | _ => none }
def FnExactCoverWordsWrongFalsely : Prop := fnExactCoverWordsRow.holds Try.pinned (OpenSpec.ofChange fnExactCoverWordsWrong)

/-- 'laws.FnCoverPrefix': WHATEVER THE INPUT: true; the input reads as it did. -/
def fnCoverPrefixSpec : ChangeSpec := { name := "fnCoverPrefix", fn := fun _ => fun
  | [d] => { results := [.lit (.bool true)], args := [d] }
  | _ => none }
def fnCoverPrefixRow : OpenClaim := { program := "ytppdfjdfjfoddaa", sum := "269a0a8be47e3e829083c14495c93abafcbcc1a5618b9254862f153a20026607", func := "loop.example/assumeguarantee/laws.FnCoverPrefix", spec := "fnCoverPrefix", unfollowed := true, recurses := true, apart := false }
def FnCoverPrefixSaid : Prop := fnCoverPrefixRow.holds Try.pinned (OpenSpec.ofChange fnCoverPrefixSpec)

/-- ITS FALSE NEIGHBOUR: 'it returns false'. Refute it at one input. -/
def fnCoverPrefixWrong : ChangeSpec := { name := "fnCoverPrefix", fn := fun _ => fun
  | [d] => { results := [.lit (.bool false)], args := [d] }
  | _ => none }
def FnCoverPrefixWrongFalsely : Prop := fnCoverPrefixRow.holds Try.pinned (OpenSpec.ofChange fnCoverPrefixWrong)

/- THE SECOND FORM. 'bulk': how many values and letters a reading holds, each counted each time it is reached (what is shared counts as often as it is met; a slice's spare places count too). A statement '..UptoSaid' is the law's where the arguments, and the package variables that the reading takes, are together of bulk at most 1048576: NARROWER than '..Said'. Prove '..Said' where nothing that the law and all that it calls make is longer than what came in: it says more and counts as full. Else prove '..UptoSaid'. A law counts once. -/
mutual
def uptoBulk {H : Type} : DataW H → Nat
  | .lit (.string bytes) => bytes.length + 1
  | .lit _ => 1
  | .nil => 1
  | .ptr d => uptoBulk d + 1
  | .slice elems spare => uptoBulkAll elems + uptoBulkAll spare + 1
  | .agg parts => uptoBulkAll parts + 1
  | .iface _ d => uptoBulk d + 1
  | .map entries => uptoBulkEntries entries + 1
  | .held _ => 1
def uptoBulkAll {H : Type} : List (DataW H) → Nat
  | [] => 0
  | d :: r => uptoBulk d + uptoBulkAll r
def uptoBulkEntries {H : Type} : List (Lit × DataW H) → Nat
  | [] => 0
  | x :: r => uptoBulkEntry x + uptoBulkEntries r
def uptoBulkEntry {H : Type} : Lit × DataW H → Nat
  | (.string bytes, d) => bytes.length + uptoBulk d + 1
  | (_, d) => uptoBulk d + 1
 end
def uptoSmall : (H : Type) → List (DataW H) → Bool := fun _ ds => decide (uptoBulkAll ds ≤ 1048576)
def OpenSpec.upto (s : _root_.Go.ChangeSpec) : _root_.Go.OpenSpec := { _root_.Go.OpenSpec.ofChange s with cond := some uptoSmall }

/-- 'laws.FnSwapAutomaton', WHERE WHAT IT READS IS OF BULK AT MOST 1048576: true; the input reads as it did. -/
def fnSwapAutomatonUptoRow : OpenClaim := { program := "ytppdfjdfjfoddaa", sum := "269a0a8be47e3e829083c14495c93abafcbcc1a5618b9254862f153a20026607", func := "loop.example/assumeguarantee/laws.FnSwapAutomaton", spec := "fnSwapAutomaton", recurses := true, apart := false, narrowed := true }
def FnSwapAutomatonUptoSaid : Prop := fnSwapAutomatonUptoRow.holds Try.pinned (OpenSpec.upto fnSwapAutomatonSpec)

/-- 'laws.FnExactSeparatingWords', WHERE WHAT IT READS IS OF BULK AT MOST 1048576: true; the input reads as it did. -/
def fnExactSeparatingWordsUptoRow : OpenClaim := { program := "ytppdfjdfjfoddaa", sum := "269a0a8be47e3e829083c14495c93abafcbcc1a5618b9254862f153a20026607", func := "loop.example/assumeguarantee/laws.FnExactSeparatingWords", spec := "fnExactSeparatingWords", unfollowed := true, recurses := true, apart := false, narrowed := true }
def FnExactSeparatingWordsUptoSaid : Prop := fnExactSeparatingWordsUptoRow.holds Try.pinned (OpenSpec.upto fnExactSeparatingWordsSpec)

/-- 'laws.FnSeparatingFew', WHERE WHAT IT READS IS OF BULK AT MOST 1048576: true; the input reads as it did. -/
def fnSeparatingFewUptoRow : OpenClaim := { program := "ytppdfjdfjfoddaa", sum := "269a0a8be47e3e829083c14495c93abafcbcc1a5618b9254862f153a20026607", func := "loop.example/assumeguarantee/laws.FnSeparatingFew", spec := "fnSeparatingFew", unfollowed := true, recurses := true, apart := false, narrowed := true }
def FnSeparatingFewUptoSaid : Prop := fnSeparatingFewUptoRow.holds Try.pinned (OpenSpec.upto fnSeparatingFewSpec)

/-- 'laws.FnExactCoverWords', WHERE WHAT IT READS IS OF BULK AT MOST 1048576: true; the input reads as it did. -/
def fnExactCoverWordsUptoRow : OpenClaim := { program := "ytppdfjdfjfoddaa", sum := "269a0a8be47e3e829083c14495c93abafcbcc1a5618b9254862f153a20026607", func := "loop.example/assumeguarantee/laws.FnExactCoverWords", spec := "fnExactCoverWords", unfollowed := true, recurses := true, apart := false, narrowed := true }
def FnExactCoverWordsUptoSaid : Prop := fnExactCoverWordsUptoRow.holds Try.pinned (OpenSpec.upto fnExactCoverWordsSpec)

/-- 'laws.FnCoverPrefix', WHERE WHAT IT READS IS OF BULK AT MOST 1048576: true; the input reads as it did. -/
def fnCoverPrefixUptoRow : OpenClaim := { program := "ytppdfjdfjfoddaa", sum := "269a0a8be47e3e829083c14495c93abafcbcc1a5618b9254862f153a20026607", func := "loop.example/assumeguarantee/laws.FnCoverPrefix", spec := "fnCoverPrefix", unfollowed := true, recurses := true, apart := false, narrowed := true }
def FnCoverPrefixUptoSaid : Prop := fnCoverPrefixUptoRow.holds Try.pinned (OpenSpec.upto fnCoverPrefixSpec)

end Rows
end Go.Proofs.Ytppdfjdfjfoddaa
