/-
  The run of the law FnExactSwapAutomaton, read as its row.
-/
import Derived.Test.YtidobgmklcbcpaaRows
import Derived.ProofKit
import Derived.OpenShut
import Derived.ShutString
import Derived.ChangeOld
import Derived.Below
import Derived.Test.YtidobgmklcbcpaaTop
import Derived.Test.YtidobgmklcbcpaaShp
import Derived.Test.YtidobgmklcbcpaaFnExactSwapAutomaton
import Derived.Test.YtidobgmklcbcpaaShpA
namespace Go.Proofs.Ytidobgmklcbcpaa.fnExactSwapAutomaton
open Go.ChangeShapes Go.WideShapes Go.ChangeAt Go.RowKit
open Go.ChangeMaps (open_string shut_string)
set_option linter.unusedVariables false
set_option linter.unusedSimpArgs false

theorem own : ownKnob Try.prog.godebug = none := by kernel_rfl
theorem laidOut : laidOutB Try.prog = true := by kernel_rfl
theorem under_bool : Try.prog.underlying 4 = some .bool := by kernel_rfl
theorem under_int : Try.prog.underlying 3 = some (.int .i64) := by kernel_rfl
theorem params : Try.f8.params = #[57, 3, 3] := by kernel_rfl

/-! ### the run -/
theorem hole_fnExactSwapAutomaton (w : World) (v0 : Value) (al0 : Int) (rs0 : List (List Int)) (ac0 : List Bool) (hr0 : Ev.rowsLen rs0) (ha0 : ac0.length ≤ 9223372036854775807) (w0 : Ev.IsData w v0 [.int .i64 al0, .ivs (List.length rs0) (Ev.rowsD rs0), .ivs (List.length ac0) (Ev.bools ac0)]) (a1 : Int) (w1 : (Lit.int .i64 a1).wf = true) (a2 : Int) (w2 : (Lit.int .i64 a2).wf = true) :
    Calls Try.prog 8 #[v0, .int .i64 a1, .int .i64 a2] w fun e w' => e = .returned (.bool true) ∧ Below w.heap.size w w' :=
  Ev.run_law (L := Ev.roundsMax) (n := 100) (Ev.ev_FnExactSwapAutomaton (by omega) al0 a1 a2 rs0 ac0 hr0 ha0 Ev.rounds_le) (by simp only [Ev.ARv]; exact ⟨_, _, rfl, (w0.rel _ _), ⟨_, _, rfl, Ev.ar_int, ⟨_, _, rfl, Ev.ar_int, rfl⟩⟩⟩)

/-! ### the row -/
set_option maxRecDepth 100000 in
theorem lifted (os : Os) (started : os.Started) (H : Type) (enc : TypeId × Value → H) :
    ReturnsInHanded {} Try.checked os 8 .any (Rows.fnExactSwapAutomatonSpec.pre6 enc Try.prog Try.f8 Rows.fnExactSwapAutomatonRow.domain false) (Rows.fnExactSwapAutomatonSpec.post enc Try.prog Try.f8 false true false false) := by
  refine returnsInHanded_of_change (C := Try.checked) own started (by kernel_rfl) Try.func8
    (ChangeSpec.witness6 (enc := enc) (C := Try.checked) false ⟨#[], #[.agg #[.int .i64 0, .slice none 0 0, .slice none 0 0], .int .i64 0, .int .i64 0], []⟩ 8 (by kernel_rfl) (by kernel_rfl) (by kernel_rfl) (by kernel_rfl)) ?_
  intro W base args ds gs before hval0 hW hcnd _
  have hval : ∀ (j : Nat) t v, Try.f8.params[j]? = some t → args[j]? = some v → Value.okWide Try.prog W .any base t v := hval0
  have hW' := hW
  obtain ⟨p, q, hA0, hV, rfl, hfz, hnd⟩ := hW
  have hA : DataW.TrodAll enc Try.prog W 0 (fun _ => true) true Try.f8.params.toList args.toList ds p := hA0
  rw [params] at hA hval
  obtain ⟨v0, vs0, d0, ds0, p0, q0, hargs, rfl, rfl, h0, r0⟩ := trodAll_cons hA
  obtain ⟨v1, vs1, d1, ds1, p1, q1, rfl, rfl, rfl, h1, r1⟩ := trodAll_cons r0
  obtain ⟨v2, vs2, d2, ds2, p2, q2, rfl, rfl, rfl, h2, r2⟩ := trodAll_cons r1
  obtain ⟨rfl, rfl, rfl⟩ := trodAll_nil r2
  obtain rfl : args = #[v0, v1, v2] := by cases args; simp_all
  obtain ⟨rfl, rfl⟩ := trodVars_none hV
  have k0 := h0
  have lt0 : ∀ x ∈ p0, x.block < W.heap.size := by obtain ⟨m, hm⟩ := k0; exact DataW.trod_lt m _ _ _ hm
  obtain ⟨ds0x, sh0, w0⟩ := Ev.open_struct 8 Try.underlying57 (by kernel_rfl) (hval 0 57 v0 rfl rfl) h0
  obtain ⟨al0, rs0, ac0, rfl, hr0, ha0⟩ := Ev.shp_Automaton sh0
  have k1 := h1
  have lt1 : ∀ x ∈ p1, x.block < W.heap.size := by obtain ⟨m, hm⟩ := k1; exact DataW.trod_lt m _ _ _ hm
  obtain ⟨a1, rfl, rfl, rfl, w1⟩ := open_int under_int (hval 1 3 v1 rfl rfl) h1
  have k2 := h2
  have lt2 : ∀ x ∈ p2, x.block < W.heap.size := by obtain ⟨m, hm⟩ := k2; exact DataW.trod_lt m _ _ _ hm
  obtain ⟨a2, rfl, rfl, rfl, w2⟩ := open_int under_int (hval 2 3 v2 rfl rfl) h2
  clear hA0 hval0
  refine (hole_fnExactSwapAutomaton W v0 al0 rs0 ac0 hr0 ha0 w0 a1 w1 a2 w2).mono fun e W' ⟨he, bel⟩ => ?_
  subst he
  exact ⟨_, rfl, _, _, _, [], _, [], hW', trodAll_mk1 (shut_bool under_bool _), (trodAll_cons_mk (Below.trod laidOut (by kernel_rfl) (of_decide_eq_true (by kernel_rfl)) k0 bel lt0) (trodAll_cons_mk (shut_int under_int w1) (trodAll_cons_mk (shut_int under_int w2) trodAll_mk0))), rfl, bel.frame _, fun h => by cases h⟩

end Go.Proofs.Ytidobgmklcbcpaa.fnExactSwapAutomaton
