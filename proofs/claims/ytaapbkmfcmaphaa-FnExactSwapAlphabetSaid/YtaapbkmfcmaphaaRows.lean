/-
  No cell of these rows narrows 'for every input' (looked for: loops, veiled, ifaces, maps, wideKeys, modest, calm, conditions, laid).
  DERIVED. THE GIVEN ROWS OF THIS SEAT. 3 by the template 'for every input the law returns true; each argument reads behind the call as it read before'; 0 by the template 'total and deterministic' (their statements: YtaapbkmfcmaphaaTotals.lean).
  GIVEN WITH THE SEED: the statements are not yours to turn. If you find one false, say at which input.
  Laid BY PROGRAM, IN A SANDBOX (cutbox-rows.mjs): the forced cells as the released guide's own fill.sh prints them over the translation 9e1d2cc43c8e1ccd… (all of the seat's roots in one cut). By AI agents, Wed Nov 11 2026. No macro, syntax, notation, axiom, sorry.
-/
import Derived.Test.YtaapbkmfcmaphaaChecked
import GoSem.Claim
import GoSem.ClaimJoined
import GoSem.ClaimMapViews
import Derived.JoinedTies
import Derived.KernelRfl
namespace Go.Proofs.Ytaapbkmfcmaphaa
/- THE CELL 'sum', in the pinned program and in every row, IS THE sha256 OF THE DUMP (.gsa) THAT YtaapbkmfcmaphaaProg.lean LOADS. Nothing in Lean hashes anything: it is a label: what it is worth is what the hold of that sum in a sandbox is worth. -/
noncomputable def Try.pinned : Pinned := { name := "ytaapbkmfcmaphaa", sum := "9e1d2cc43c8e1ccd829b7ca98d6bd18f966fcafa82a52e003d43c1edef993b2f", checked := Try.checked }
namespace Rows
def none {H : Type} : Left H := { results := [], args := [] }

/-- 'laws.FnExactSwapAlphabet': WHATEVER THE INPUT: true; the input reads as it did. -/
def fnExactSwapAlphabetSpec : ChangeSpec := { name := "fnExactSwapAlphabet", fn := fun _ => fun
  | [d1, d2, d3] => { results := [.lit (.bool true)], args := [d1, d2, d3] }
  | _ => none }
def fnExactSwapAlphabetRow : OpenClaim := { program := "ytaapbkmfcmaphaa", sum := "9e1d2cc43c8e1ccd829b7ca98d6bd18f966fcafa82a52e003d43c1edef993b2f", func := "loop.example/assumeguarantee/laws.FnExactSwapAlphabet", spec := "fnExactSwapAlphabet", apart := false }
def FnExactSwapAlphabetSaid : Prop := fnExactSwapAlphabetRow.holds Try.pinned (OpenSpec.ofChange fnExactSwapAlphabetSpec)

/-- ITS FALSE NEIGHBOUR: 'it returns false'. Refute it at one input. -/
def fnExactSwapAlphabetWrong : ChangeSpec := { name := "fnExactSwapAlphabet", fn := fun _ => fun
  | [d1, d2, d3] => { results := [.lit (.bool false)], args := [d1, d2, d3] }
  | _ => none }
def FnExactSwapAlphabetWrongFalsely : Prop := fnExactSwapAlphabetRow.holds Try.pinned (OpenSpec.ofChange fnExactSwapAlphabetWrong)

/-- 'laws.FnExactSwapWord': WHATEVER THE INPUT: true; the input reads as it did. -/
def fnExactSwapWordSpec : ChangeSpec := { name := "fnExactSwapWord", fn := fun _ => fun
  | [d1, d2, d3] => { results := [.lit (.bool true)], args := [d1, d2, d3] }
  | _ => none }
def fnExactSwapWordRow : OpenClaim := { program := "ytaapbkmfcmaphaa", sum := "9e1d2cc43c8e1ccd829b7ca98d6bd18f966fcafa82a52e003d43c1edef993b2f", func := "loop.example/assumeguarantee/laws.FnExactSwapWord", spec := "fnExactSwapWord", apart := false }
def FnExactSwapWordSaid : Prop := fnExactSwapWordRow.holds Try.pinned (OpenSpec.ofChange fnExactSwapWordSpec)

/-- ITS FALSE NEIGHBOUR: 'it returns false'. Refute it at one input. -/
def fnExactSwapWordWrong : ChangeSpec := { name := "fnExactSwapWord", fn := fun _ => fun
  | [d1, d2, d3] => { results := [.lit (.bool false)], args := [d1, d2, d3] }
  | _ => none }
def FnExactSwapWordWrongFalsely : Prop := fnExactSwapWordRow.holds Try.pinned (OpenSpec.ofChange fnExactSwapWordWrong)

/-- 'laws.FnSwapWord': WHATEVER THE INPUT: true; the input reads as it did. -/
def fnSwapWordSpec : ChangeSpec := { name := "fnSwapWord", fn := fun _ => fun
  | [d] => { results := [.lit (.bool true)], args := [d] }
  | _ => none }
def fnSwapWordRow : OpenClaim := { program := "ytaapbkmfcmaphaa", sum := "9e1d2cc43c8e1ccd829b7ca98d6bd18f966fcafa82a52e003d43c1edef993b2f", func := "loop.example/assumeguarantee/laws.FnSwapWord", spec := "fnSwapWord", apart := false }
def FnSwapWordSaid : Prop := fnSwapWordRow.holds Try.pinned (OpenSpec.ofChange fnSwapWordSpec)

/-- ITS FALSE NEIGHBOUR: 'it returns false'. Refute it at one input. -/
def fnSwapWordWrong : ChangeSpec := { name := "fnSwapWord", fn := fun _ => fun
  | [d] => { results := [.lit (.bool false)], args := [d] }
  | _ => none }
def FnSwapWordWrongFalsely : Prop := fnSwapWordRow.holds Try.pinned (OpenSpec.ofChange fnSwapWordWrong)

/- THE SECOND FORM. 'bulk': how many values and letters a reading holds, each counted each time it is reached (what is shared counts as often as it is met; a slice's spare places count too). A statement '..UptoSaid' is the law's where the arguments, and the package variables that the reading takes, are together of bulk at most 1048576: NARROWER than '..Said'. Prove '..Said' where nothing that the law and all that it calls make is longer than what came in: it says more and counts as full. Else prove '..UptoSaid'. A law counts once. -/
mutual
def uptoBulk {H : Type} : DataW H → Nat
  | .lit (.string bytes) => bytes.length + 1
  | .lit _ => 1
  | .nil => 1
  | .ptr d => uptoBulk d + 1
  | .slice elems spare => uptoBulkAll elems + uptoBulkAll spare + 1
  | .agg parts => uptoBulkAll parts + 1
  | .iface _ d => uptoBulk d + 1
  | .map entries => uptoBulkEntries entries + 1
  | .held _ => 1
def uptoBulkAll {H : Type} : List (DataW H) → Nat
  | [] => 0
  | d :: r => uptoBulk d + uptoBulkAll r
def uptoBulkEntries {H : Type} : List (Lit × DataW H) → Nat
  | [] => 0
  | x :: r => uptoBulkEntry x + uptoBulkEntries r
def uptoBulkEntry {H : Type} : Lit × DataW H → Nat
  | (.string bytes, d) => bytes.length + uptoBulk d + 1
  | (_, d) => uptoBulk d + 1
 end
def uptoSmall : (H : Type) → List (DataW H) → Bool := fun _ ds => decide (uptoBulkAll ds ≤ 1048576)
def OpenSpec.upto (s : _root_.Go.ChangeSpec) : _root_.Go.OpenSpec := { _root_.Go.OpenSpec.ofChange s with cond := some uptoSmall }

/-- 'laws.FnExactSwapAlphabet', WHERE WHAT IT READS IS OF BULK AT MOST 1048576: true; the input reads as it did. -/
def fnExactSwapAlphabetUptoRow : OpenClaim := { program := "ytaapbkmfcmaphaa", sum := "9e1d2cc43c8e1ccd829b7ca98d6bd18f966fcafa82a52e003d43c1edef993b2f", func := "loop.example/assumeguarantee/laws.FnExactSwapAlphabet", spec := "fnExactSwapAlphabet", apart := false, narrowed := true }
def FnExactSwapAlphabetUptoSaid : Prop := fnExactSwapAlphabetUptoRow.holds Try.pinned (OpenSpec.upto fnExactSwapAlphabetSpec)

/-- 'laws.FnExactSwapWord', WHERE WHAT IT READS IS OF BULK AT MOST 1048576: true; the input reads as it did. -/
def fnExactSwapWordUptoRow : OpenClaim := { program := "ytaapbkmfcmaphaa", sum := "9e1d2cc43c8e1ccd829b7ca98d6bd18f966fcafa82a52e003d43c1edef993b2f", func := "loop.example/assumeguarantee/laws.FnExactSwapWord", spec := "fnExactSwapWord", apart := false, narrowed := true }
def FnExactSwapWordUptoSaid : Prop := fnExactSwapWordUptoRow.holds Try.pinned (OpenSpec.upto fnExactSwapWordSpec)

/-- 'laws.FnSwapWord', WHERE WHAT IT READS IS OF BULK AT MOST 1048576: true; the input reads as it did. -/
def fnSwapWordUptoRow : OpenClaim := { program := "ytaapbkmfcmaphaa", sum := "9e1d2cc43c8e1ccd829b7ca98d6bd18f966fcafa82a52e003d43c1edef993b2f", func := "loop.example/assumeguarantee/laws.FnSwapWord", spec := "fnSwapWord", apart := false, narrowed := true }
def FnSwapWordUptoSaid : Prop := fnSwapWordUptoRow.holds Try.pinned (OpenSpec.upto fnSwapWordSpec)

end Rows
end Go.Proofs.Ytaapbkmfcmaphaa
