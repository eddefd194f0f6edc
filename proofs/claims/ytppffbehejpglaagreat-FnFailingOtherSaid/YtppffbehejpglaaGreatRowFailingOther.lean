/-
  The run of the law FnFailingOther, read as its row.
-/
import Derived.Test.YtppffbehejpglaaGreatRows
import Derived.ProofKit
import Derived.OpenShut
import Derived.ShutString
import Derived.ChangeOld
import Derived.Below
import Derived.Test.YtppffbehejpglaaGreatRead
import Derived.Test.YtppffbehejpglaaGreatFnFailingOther
namespace Go.Proofs.YtppffbehejpglaaGreat.fnFailingOther
open Go.ChangeShapes Go.WideShapes Go.ChangeAt Go.RowKit
open Go.ChangeMaps (open_string shut_string)
set_option linter.unusedVariables false
set_option linter.unusedSimpArgs false
theorem own:ownKnob Tryz.prog.godebug = none:=by kernel_rfl
theorem laidOut:laidOutB Tryz.prog = true:=by kernel_rfl
theorem under_bool:Tryz.prog.underlying 4 = some .bool:=by kernel_rfl
theorem under_bytes:Tryz.prog.underlying 22 = some (.slice 5):=by kernel_rfl
theorem under_byte:Tryz.prog.underlying 5 = some (.int .u8):=by kernel_rfl
theorem cells_byte:Tryz.prog.cellsOf 5 = 1:=by kernel_rfl
theorem params:Tryz.f3.params = #[22]:=by kernel_rfl
theorem hole_fnFailingOther (w:World) (v0:Value) (z0:List UInt8) (w0:Ev.IsBytes w v0 z0) :
  Calls Tryz.prog 3 #[v0] w fun e w' => e = .returned (.bool true) ∧ Below w.heap.size w w' :=
 Ev.run_law (L:=Ev.roundsMax) (n:=100) (Ev.Y7 (by omega) z0 Ev.rounds_le) (Ev.ground_nil _ _) (by simp only [Ev.ARv,Ev.AR,Ev.DR]; exact ⟨_,_,rfl,w0.rel,rfl⟩)
set_option maxRecDepth 100000 in
theorem lifted (os:Os) (started:os.Started) (H:Type) (enc:TypeId × Value → H) :
  ReturnsInHanded {} Tryz.checked os 3 .any (Rows.fnFailingOtherSpec.pre6 enc Tryz.prog Tryz.f3 Rows.fnFailingOtherRow.domain false) (Rows.fnFailingOtherSpec.post enc Tryz.prog Tryz.f3 false true false false):=by
 refine returnsInHanded_of_change (C:=Tryz.checked) own started (by kernel_rfl) Tryz.func3
  (ChangeSpec.witness6 (enc:=enc) (C:=Tryz.checked) false ⟨#[],#[.slice none 0 0],[]⟩ 8 (by kernel_rfl) (by kernel_rfl) (by kernel_rfl) (by kernel_rfl)) ?_
 intro W base args ds gs before hval0 hW hcnd _
 have hval:∀ (j:Nat) t v,Tryz.f3.params[j]? = some t → args[j]? = some v → Value.okWide Tryz.prog W .any base t v:=hval0
 have hW':=hW
 obtain ⟨p,q,hA0,hV,rfl,hfz,hnd⟩:=hW
 have hA:DataW.TrodAll enc Tryz.prog W 0 (fun _ => true) true Tryz.f3.params.toList args.toList ds p:=hA0
 rw [params] at hA hval
 obtain ⟨v0,vs0,d0,ds0,p0,q0,hargs,rfl,rfl,h0,r0⟩:=trodAll_cons hA
 obtain ⟨rfl,rfl,rfl⟩:=trodAll_nil r0
 obtain rfl:args = #[v0]:=by cases args; simp_all
 obtain ⟨rfl,rfl⟩:=trodVars_none hV
 have k0:=h0
 have lt0:∀ x ∈ p0,x.block < W.heap.size:=by obtain ⟨m,hm⟩:=k0; exact DataW.trod_lt m _ _ _ hm
 obtain ⟨z0,w0⟩:=Ev.open_bytes under_bytes under_byte cells_byte (hval 0 22 v0 rfl rfl) h0
 clear hA0 hval0
 refine (hole_fnFailingOther W v0 z0 w0).mono fun e W' ⟨he,bel⟩ => ?_
 subst he
 exact ⟨_,rfl,_,_,_,[],_,[],hW',trodAll_mk1 (shut_bool under_bool _),(trodAll_cons_mk (Below.trod laidOut (by kernel_rfl) (of_decide_eq_true (by kernel_rfl)) k0 bel lt0) trodAll_mk0),rfl,bel.frame _,fun h => by cases h⟩
end Go.Proofs.YtppffbehejpglaaGreat.fnFailingOther
