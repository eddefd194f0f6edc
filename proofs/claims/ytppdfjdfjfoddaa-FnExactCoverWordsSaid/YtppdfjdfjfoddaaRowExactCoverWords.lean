/-
  The run of the law FnExactCoverWords, read as its row.
-/
import Derived.Test.YtppdfjdfjfoddaaRows
import Derived.ProofKit
import Derived.OpenShut
import Derived.ShutString
import Derived.ChangeOld
import Derived.Below
import Derived.Test.YtppdfjdfjfoddaaTop
import Derived.Test.YtppdfjdfjfoddaaShp
import Derived.Test.YtppdfjdfjfoddaaFnExactCoverWords
import Derived.Test.YtppdfjdfjfoddaaShpA
namespace Go.Proofs.Ytppdfjdfjfoddaa.fnExactCoverWords
open Go.ChangeShapes Go.WideShapes Go.ChangeAt Go.RowKit
open Go.ChangeMaps (open_string shut_string)
set_option linter.unusedVariables false
set_option linter.unusedSimpArgs false
theorem own : ownKnob Try.prog.godebug = none := by kernel_rfl
theorem laidOut : laidOutB Try.prog = true := by kernel_rfl
theorem under_bool : Try.prog.underlying 4 = some .bool := by kernel_rfl
theorem params : Try.f6.params = #[38] := by kernel_rfl
theorem hole_fnExactCoverWords (w : World) (v0 : Value) (al0 : Int) (rs0 : List (List Int)) (ac0 : List Bool) (hr0 : Ev.rowsLen rs0) (ha0 : ac0.length ≤ 9223372036854775807) (w0 : Ev.IsData w v0 [.int .i64 al0,.ivs (List.length rs0) (Ev.rowsD rs0),.ivs (List.length ac0) (Ev.bools ac0)]) :
  Calls Try.prog 6 #[v0] w fun e w' => e = .returned (.bool true) ∧ Below w.heap.size w w' :=
 Ev.run_law (L := Ev.roundsMax) (n := 100) (Ev.x10b (by omega) al0 rs0 ac0 hr0 ha0 Ev.rounds_le) (Ev.ground_nil _ _) (by simp only [Ev.ARv]; exact ⟨_,_,rfl,(w0.rel _ _),rfl⟩)
set_option maxRecDepth 100000 in
theorem lifted (os : Os) (started : os.Started) (H : Type) (enc : TypeId × Value → H) :
  ReturnsInHanded {} Try.checked os 6 .any (Rows.fnExactCoverWordsSpec.pre6 enc Try.prog Try.f6 Rows.fnExactCoverWordsRow.domain false) (Rows.fnExactCoverWordsSpec.post enc Try.prog Try.f6 false true false false) := by
 refine returnsInHanded_of_change (C := Try.checked) own started (by kernel_rfl) Try.func6
  (ChangeSpec.witness6 (enc := enc) (C := Try.checked) false ⟨#[],#[.agg #[.int .i64 0,.slice none 0 0,.slice none 0 0]],[]⟩ 8 (by kernel_rfl) (by kernel_rfl) (by kernel_rfl) (by kernel_rfl)) ?_
 intro W base args ds gs before hval0 hW hcnd _
 have hval : ∀ (j : Nat) t v,Try.f6.params[j]? = some t → args[j]? = some v → Value.okWide Try.prog W .any base t v := hval0
 have hW' := hW
 obtain ⟨p,q,hA0,hV,rfl,hfz,hnd⟩ := hW
 have hA : DataW.TrodAll enc Try.prog W 0 (fun _ => true) true Try.f6.params.toList args.toList ds p := hA0
 rw [params] at hA hval
 obtain ⟨v0,vs0,d0,ds0,p0,q0,hargs,rfl,rfl,h0,r0⟩ := trodAll_cons hA
 obtain ⟨rfl,rfl,rfl⟩ := trodAll_nil r0
 obtain rfl : args = #[v0] := by cases args; simp_all
 obtain ⟨rfl,rfl⟩ := trodVars_none hV
 have k0 := h0
 have lt0 : ∀ x ∈ p0,x.block < W.heap.size := by obtain ⟨m,hm⟩ := k0; exact DataW.trod_lt m _ _ _ hm
 obtain ⟨ds0x,sh0,w0⟩ := Ev.open_struct 8 Try.underlying38 (by kernel_rfl) (hval 0 38 v0 rfl rfl) h0
 obtain ⟨al0,rs0,ac0,rfl,hr0,ha0⟩ := Ev.shp_Automaton sh0
 clear hA0 hval0
 refine (hole_fnExactCoverWords W v0 al0 rs0 ac0 hr0 ha0 w0).mono fun e W' ⟨he,bel⟩ => ?_
 subst he
 exact ⟨_,rfl,_,_,_,[],_,[],hW',trodAll_mk1 (shut_bool under_bool _),(trodAll_cons_mk (Below.trod laidOut (by kernel_rfl) (of_decide_eq_true (by kernel_rfl)) k0 bel lt0) trodAll_mk0),rfl,bel.frame _,fun h => by cases h⟩
end Go.Proofs.Ytppdfjdfjfoddaa.fnExactCoverWords
