/-
  The run of the law FnExactPassesSuite, read as its row.
-/
import Derived.Test.YtejmccgfigiadaaGreatRows
import Derived.ProofKit
import Derived.OpenShut
import Derived.ShutString
import Derived.ChangeOld
import Derived.Below
import Derived.Test.YtejmccgfigiadaaGreatTop
import Derived.Test.YtejmccgfigiadaaGreatShp
import Derived.Test.YtejmccgfigiadaaGreatFnExactPassesSuite
import Derived.Test.YtejmccgfigiadaaGreatShpA
namespace Go.Proofs.YtejmccgfigiadaaGreat.fnExactPassesSuite
open Go.ChangeShapes Go.WideShapes Go.ChangeAt Go.RowKit
open Go.ChangeMaps (open_string shut_string)
set_option linter.unusedVariables false
set_option linter.unusedSimpArgs false
theorem own:ownKnob Tryz.prog.godebug = none:=by kernel_rfl
theorem laidOut:laidOutB Tryz.prog = true:=by kernel_rfl
theorem under_bool:Tryz.prog.underlying 4 = some .bool:=by kernel_rfl
theorem under_int:Tryz.prog.underlying 3 = some (.int .i64):=by kernel_rfl
theorem params:Tryz.f5.params = #[25,25,3]:=by kernel_rfl
theorem hole_fnExactPassesSuite (w:World) (v0:Value) (al0:Int) (rs0:List (List Int)) (ac0:List Bool) (hr0:Ev.rowsLen rs0) (ha0:ac0.length ≤ 9223372036854775807) (w0:Ev.IsData w v0 [.int .i64 al0,.ivs (List.length rs0) (Ev.rowsD rs0),.ivs (List.length ac0) (Ev.bools ac0)]) (v1:Value) (al1:Int) (rs1:List (List Int)) (ac1:List Bool) (hr1:Ev.rowsLen rs1) (ha1:ac1.length ≤ 9223372036854775807) (w1:Ev.IsData w v1 [.int .i64 al1,.ivs (List.length rs1) (Ev.rowsD rs1),.ivs (List.length ac1) (Ev.bools ac1)]) (a2:Int) (w2:(Lit.int .i64 a2).wf = true) :
  Calls Tryz.prog 5 #[v0,v1,.int .i64 a2] w fun e w' => e = .returned (.bool true) ∧ Below w.heap.size w w' :=
 Ev.run_law (L:=Ev.roundsMax) (n:=100) (Ev.G0 (by omega) al0 rs0 ac0 hr0 ha0 al1 rs1 ac1 hr1 ha1 a2 Ev.rounds_le) (Ev.ground_nil _ _) (by simp only [Ev.ARv]; exact ⟨_,_,rfl,(w0.rel _ _),⟨_,_,rfl,(w1.rel _ _),⟨_,_,rfl,Ev.ar_int,rfl⟩⟩⟩)
set_option maxRecDepth 100000 in
theorem lifted (os:Os) (started:os.Started) (H:Type) (enc:TypeId × Value → H) :
  ReturnsInHanded {} Tryz.checked os 5 .any (Rows.fnExactPassesSuiteSpec.pre6 enc Tryz.prog Tryz.f5 Rows.fnExactPassesSuiteRow.domain false) (Rows.fnExactPassesSuiteSpec.post enc Tryz.prog Tryz.f5 false true false false):=by
 refine returnsInHanded_of_change (C:=Tryz.checked) own started (by kernel_rfl) Tryz.func5
  (ChangeSpec.witness6 (enc:=enc) (C:=Tryz.checked) false ⟨#[],#[.agg #[.int .i64 0,.slice none 0 0,.slice none 0 0],.agg #[.int .i64 0,.slice none 0 0,.slice none 0 0],.int .i64 0],[]⟩ 8 (by kernel_rfl) (by kernel_rfl) (by kernel_rfl) (by kernel_rfl)) ?_
 intro W base args ds gs before hval0 hW hcnd _
 have hval:∀ (j:Nat) t v,Tryz.f5.params[j]? = some t → args[j]? = some v → Value.okWide Tryz.prog W .any base t v:=hval0
 have hW':=hW
 obtain ⟨p,q,hA0,hV,rfl,hfz,hnd⟩:=hW
 have hA:DataW.TrodAll enc Tryz.prog W 0 (fun _ => true) true Tryz.f5.params.toList args.toList ds p:=hA0
 rw [params] at hA hval
 obtain ⟨v0,vs0,d0,ds0,p0,q0,hargs,rfl,rfl,h0,r0⟩:=trodAll_cons hA
 obtain ⟨v1,vs1,d1,ds1,p1,q1,rfl,rfl,rfl,h1,r1⟩:=trodAll_cons r0
 obtain ⟨v2,vs2,d2,ds2,p2,q2,rfl,rfl,rfl,h2,r2⟩:=trodAll_cons r1
 obtain ⟨rfl,rfl,rfl⟩:=trodAll_nil r2
 obtain rfl:args = #[v0,v1,v2]:=by cases args; simp_all
 obtain ⟨rfl,rfl⟩:=trodVars_none hV
 have k0:=h0
 have lt0:∀ x ∈ p0,x.block < W.heap.size:=by obtain ⟨m,hm⟩:=k0; exact DataW.trod_lt m _ _ _ hm
 obtain ⟨ds0x,sh0,w0⟩:=Ev.open_struct 8 Tryz.underlying25 (by kernel_rfl) (hval 0 25 v0 rfl rfl) h0
 obtain ⟨al0,rs0,ac0,rfl,hr0,ha0⟩:=Ev.shp_Automaton sh0
 have k1:=h1
 have lt1:∀ x ∈ p1,x.block < W.heap.size:=by obtain ⟨m,hm⟩:=k1; exact DataW.trod_lt m _ _ _ hm
 obtain ⟨ds1x,sh1,w1⟩:=Ev.open_struct 8 Tryz.underlying25 (by kernel_rfl) (hval 1 25 v1 rfl rfl) h1
 obtain ⟨al1,rs1,ac1,rfl,hr1,ha1⟩:=Ev.shp_Automaton sh1
 have k2:=h2
 have lt2:∀ x ∈ p2,x.block < W.heap.size:=by obtain ⟨m,hm⟩:=k2; exact DataW.trod_lt m _ _ _ hm
 obtain ⟨a2,rfl,rfl,rfl,w2⟩:=open_int under_int (hval 2 3 v2 rfl rfl) h2
 clear hA0 hval0
 refine (hole_fnExactPassesSuite W v0 al0 rs0 ac0 hr0 ha0 w0 v1 al1 rs1 ac1 hr1 ha1 w1 a2 w2).mono fun e W' ⟨he,bel⟩ => ?_
 subst he
 exact ⟨_,rfl,_,_,_,[],_,[],hW',trodAll_mk1 (shut_bool under_bool _),(trodAll_cons_mk (Below.trod laidOut (by kernel_rfl) (of_decide_eq_true (by kernel_rfl)) k0 bel lt0) (trodAll_cons_mk (Below.trod laidOut (by kernel_rfl) (of_decide_eq_true (by kernel_rfl)) k1 bel lt1) (trodAll_cons_mk (shut_int under_int w2) trodAll_mk0))),rfl,bel.frame _,fun h => by cases h⟩
end Go.Proofs.YtejmccgfigiadaaGreat.fnExactPassesSuite
