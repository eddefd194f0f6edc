/-
  The run of the law FnExactAddEdge, read as its row.
-/
import Derived.Test.YtidobgmklcbcpaaRows
import Derived.ProofKit
import Derived.OpenShut
import Derived.ShutString
import Derived.ChangeOld
import Derived.Below
import Derived.Test.YtidobgmklcbcpaaTop
import Derived.Test.YtidobgmklcbcpaaShp
import Derived.Test.YtidobgmklcbcpaaFnExactAddEdge
namespace Go.Proofs.Ytidobgmklcbcpaa.fnExactAddEdge
open Go.ChangeShapes Go.WideShapes Go.ChangeAt Go.RowKit
open Go.ChangeMaps (open_string shut_string)
set_option linter.unusedVariables false
set_option linter.unusedSimpArgs false

theorem own : ownKnob Try.prog.godebug = none := by kernel_rfl
theorem laidOut : laidOutB Try.prog = true := by kernel_rfl
theorem under_bool : Try.prog.underlying 4 = some .bool := by kernel_rfl
theorem params : Try.f9.params = #[39, 41] := by kernel_rfl

/-! ### the run -/
theorem hole_fnExactAddEdge (w : World) (v0 : Value) (al0 st0 : Int) (l0 : List Ev.Edge) (hl0 : l0.length ≤ 9223372036854775807) (w0 : Ev.IsData w v0 [.int .i64 al0, .int .i64 st0, .ivs (List.length l0) (Ev.edgesD l0)]) (v1 : Value) (a1 b1 c1 : Int) (w1 : Ev.IsData w v1 [.int .i64 a1, .int .i64 b1, .int .i64 c1]) :
    Calls Try.prog 9 #[v0, v1] w fun e w' => e = .returned (.bool true) ∧ Below w.heap.size w w' :=
  Ev.run_law (L := Ev.roundsMax) (n := 100) (Ev.ev_FnExactAddEdge (by omega) al0 st0 a1 b1 c1 l0 hl0 Ev.rounds_le) (by simp only [Ev.ARv]; exact ⟨_, _, rfl, (w0.rel _ _), ⟨_, _, rfl, (w1.rel _ _), rfl⟩⟩)

/-! ### the row -/
set_option maxRecDepth 100000 in
theorem lifted (os : Os) (started : os.Started) (H : Type) (enc : TypeId × Value → H) :
    ReturnsInHanded {} Try.checked os 9 .any (Rows.fnExactAddEdgeSpec.pre6 enc Try.prog Try.f9 Rows.fnExactAddEdgeRow.domain false) (Rows.fnExactAddEdgeSpec.post enc Try.prog Try.f9 false true false false) := by
  refine returnsInHanded_of_change (C := Try.checked) own started (by kernel_rfl) Try.func9
    (ChangeSpec.witness6 (enc := enc) (C := Try.checked) false ⟨#[], #[.agg #[.int .i64 0, .int .i64 0, .slice none 0 0], .agg #[.int .i64 0, .int .i64 0, .int .i64 0]], []⟩ 8 (by kernel_rfl) (by kernel_rfl) (by kernel_rfl) (by kernel_rfl)) ?_
  intro W base args ds gs before hval0 hW hcnd _
  have hval : ∀ (j : Nat) t v, Try.f9.params[j]? = some t → args[j]? = some v → Value.okWide Try.prog W .any base t v := hval0
  have hW' := hW
  obtain ⟨p, q, hA0, hV, rfl, hfz, hnd⟩ := hW
  have hA : DataW.TrodAll enc Try.prog W 0 (fun _ => true) true Try.f9.params.toList args.toList ds p := hA0
  rw [params] at hA hval
  obtain ⟨v0, vs0, d0, ds0, p0, q0, hargs, rfl, rfl, h0, r0⟩ := trodAll_cons hA
  obtain ⟨v1, vs1, d1, ds1, p1, q1, rfl, rfl, rfl, h1, r1⟩ := trodAll_cons r0
  obtain ⟨rfl, rfl, rfl⟩ := trodAll_nil r1
  obtain rfl : args = #[v0, v1] := by cases args; simp_all
  obtain ⟨rfl, rfl⟩ := trodVars_none hV
  have k0 := h0
  have lt0 : ∀ x ∈ p0, x.block < W.heap.size := by obtain ⟨m, hm⟩ := k0; exact DataW.trod_lt m _ _ _ hm
  obtain ⟨ds0x, sh0, w0⟩ := Ev.open_struct 8 Try.underlying39 (by kernel_rfl) (hval 0 39 v0 rfl rfl) h0
  obtain ⟨al0, st0, l0, rfl, hl0⟩ := Ev.shp_System sh0
  have k1 := h1
  have lt1 : ∀ x ∈ p1, x.block < W.heap.size := by obtain ⟨m, hm⟩ := k1; exact DataW.trod_lt m _ _ _ hm
  obtain ⟨ds1x, sh1, w1⟩ := Ev.open_struct 8 Try.underlying41 (by kernel_rfl) (hval 1 41 v1 rfl rfl) h1
  obtain ⟨a1, b1, c1, rfl⟩ := Ev.shp_Edge sh1
  clear hA0 hval0
  refine (hole_fnExactAddEdge W v0 al0 st0 l0 hl0 w0 v1 a1 b1 c1 w1).mono fun e W' ⟨he, bel⟩ => ?_
  subst he
  exact ⟨_, rfl, _, _, _, [], _, [], hW', trodAll_mk1 (shut_bool under_bool _), (trodAll_cons_mk (Below.trod laidOut (by kernel_rfl) (of_decide_eq_true (by kernel_rfl)) k0 bel lt0) (trodAll_cons_mk (Below.trod laidOut (by kernel_rfl) (of_decide_eq_true (by kernel_rfl)) k1 bel lt1) trodAll_mk0)), rfl, bel.frame _, fun h => by cases h⟩

end Go.Proofs.Ytidobgmklcbcpaa.fnExactAddEdge
