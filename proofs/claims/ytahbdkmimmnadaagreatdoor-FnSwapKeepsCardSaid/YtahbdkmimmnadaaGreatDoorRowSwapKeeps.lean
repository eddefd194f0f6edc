/-
  The run of the law FnSwapKeeps, read as its row.
-/
import Derived.Test.YtahbdkmimmnadaaGreatDoorRows
import Derived.ProofKit
import Derived.OpenShut
import Derived.ShutString
import Derived.ChangeOld
import Derived.Below
import Derived.LaidMore
import Derived.LaidHandle
import Derived.MakeChecks
import Derived.Lib.LaidTab
import Derived.Stop.LaidErr
import Derived.Test.YtahbdkmimmnadaaGreatDoorRead
import Derived.Test.YtahbdkmimmnadaaGreatDoorFnSwapKeeps
namespace Go.Proofs.YtahbdkmimmnadaaGreatDoor.fnSwapKeeps
open Go.ChangeShapes Go.WideShapes Go.ChangeAt Go.RowKit
set_option linter.unusedVariables false
set_option linter.unusedSimpArgs false
theorem own:ownKnob Tryz.prog.godebug = none:=by kernel_rfl
theorem laidOut:laidOutB Tryz.prog = true:=by kernel_rfl
theorem under_bool:Tryz.prog.underlying 4 = some .bool:=by kernel_rfl
theorem under_bytes:Tryz.prog.underlying 42 = some (.slice 5):=by kernel_rfl
theorem under_byte:Tryz.prog.underlying 5 = some (.int .u8):=by kernel_rfl
theorem cells_byte:Tryz.prog.cellsOf 5 = 1:=by kernel_rfl
theorem params:Tryz.f6.params = #[42,42]:=by kernel_rfl
theorem glob64 : Tryz.prog.globalNamed "math/bits.deBruijn64tab" = some 1 := by kernel_rfl
theorem type64:(Tryz.prog.globals[1]?).map (·.type) = some 296:=by kernel_rfl
theorem under64:Tryz.prog.underlying 296 = some (.array 64 5):=by kernel_rfl
theorem cells64:Tryz.prog.cellsOf 296 = 64:=by kernel_rfl
theorem laid_ground {W:World} (h:laidMetH Tryz.prog Rows.fnSwapKeepsRow.laid W):Ev.Ground Ev.gnd W (Ev.there W):=by
 rw [MakeChecks.laidMetH_plain _ _ _ (by kernel_rfl)] at h
 have h2 : laidMet Tryz.prog (("math/bits.deBruijn64tab", Lib.tabData .u8 (Lib.deBruijn64tab.map fun (n : Nat) => (n : Int))) :: []) W := laidMet.tail h
 have h3:=Lib.tabIs_of_head glob64 type64 under64 under_byte cells_byte cells64 h2
 intro b C hb
 obtain ⟨rfl,rfl⟩:b = 1 ∧ C = (Lib.deBruijn64tab.map fun (n:Nat) => Value.int .u8 (n:Int)).toArray:=by
  simpa [Ev.gnd] using hb
 have key:∀ (j:Nat) (v:Value),(Lib.deBruijn64tab.map fun (n:Nat) => Value.int .u8 (n:Int)).toArray[j]? = some v → Ev.cellAt W 1 j = some v:=by
  intro j v hj
  have hc:=World.var?_cell glob64 h3 j
  have hj2:((Lib.deBruijn64tab.map fun (n:Nat) => (n:Int)).map fun z => Value.int .u8 z).toArray[j]? = some v:=by simpa using hj
  rw [hj2] at hc
  unfold Ev.cellAt
  simp only [World.cell?] at hc
  revert hc
  cases W.heap[1]? with
  | none => exact id
  | some o => cases o <;> exact id
 refine ⟨?_,key⟩
 have h0:=key 0 (.int .u8 0) rfl
 unfold Ev.cellAt at h0
 show _ < W.heap.size
 split at h0
 ·rename_i hh
  exact (Array.getElem?_eq_some_iff.1 hh).1
 ·cases h0
theorem hole_fnSwapKeeps (w:World) (hg:Ev.Ground Ev.gnd w (Ev.there w)) (v0:Value) (z0:List UInt8) (w0:Ev.IsBytes w v0 z0) (v1:Value) (z1:List UInt8) (w1:Ev.IsBytes w v1 z1) :
  Calls Tryz.prog 6 #[v0,v1] w fun e w' => e = .returned (.bool true) ∧ Below w.heap.size w w' :=
 Ev.run_law (L:=Ev.roundsMax) (n:=100) (Ev.aD7 (by omega) z0 z1 Ev.rounds_le) hg (by simp only [Ev.ARv,Ev.AR,Ev.DR]; exact ⟨_,_,rfl,w0.rel,⟨_,_,rfl,w1.rel,rfl⟩⟩)
theorem door_met (os:Os) (args:Array Value):laidMetH Tryz.prog Rows.fnSwapKeepsRow.laid ((World.doorLaid Tryz.prog 400 os).forCall (fun _ _ => 0) ⟨#[],args,[]⟩).memory :=
 laidMetH_of_parts3 (fuel:=8) (laidMet_of_run' 8 (by kernel_rfl) (by kernel_rfl)) (by kernel_rfl) (by kernel_rfl)
set_option maxRecDepth 100000 in
theorem lifted (os:Os) (started:os.Started) (H:Type) (enc:TypeId × Value → H) :
  ReturnsInHanded {} Tryz.checked os 6 .any (fun w args => (Rows.fnSwapKeepsSpec.pre enc Tryz.prog Tryz.f6 [] false w args ∧ laidMetH Tryz.prog Rows.fnSwapKeepsRow.laid w) ∧ sizedMet enc Tryz.prog Tryz.f6 (OpenSpec.ofChange Rows.fnSwapKeepsSpec) false w args)
   (Rows.fnSwapKeepsSpec.post enc Tryz.prog Tryz.f6 false true false false):=by
 refine returnsInHanded_of_change_and (C:=Tryz.checked) (X:=fun w _ => laidMetH Tryz.prog Rows.fnSwapKeepsRow.laid w) (fun _ _ _ hh h => h.of_heap hh) own started (by kernel_rfl) Tryz.func6
  (ChangeSpec.witness_shaped (enc:=enc) (C:=Tryz.checked) (os:=os) (X:=fun w _ => laidMetH Tryz.prog Rows.fnSwapKeepsRow.laid w) false (World.doorLaid Tryz.prog 400 os) #[.slice none 0 0,.slice none 0 0] 8 rfl (World.shaped_of_RefB (by kernel_rfl) (by kernel_rfl)) (by kernel_rfl) (by kernel_rfl) (by kernel_rfl) (door_met os _)) ?_
 intro W base args ds gs before hval0 hW _ _ hL _
 have hval:∀ (j:Nat) t v,Tryz.f6.params[j]? = some t → args[j]? = some v → Value.okWide Tryz.prog W .any base t v:=hval0
 have hW':=hW
 obtain ⟨p,q,hA0,hV,rfl,hfz,hnd⟩:=hW
 have hA:DataW.TrodAll enc Tryz.prog W 0 (fun _ => true) true Tryz.f6.params.toList args.toList ds p:=hA0
 rw [params] at hA hval
 obtain ⟨v0,vs0,d0,ds0,p0,q0,hargs,rfl,rfl,h0,r0⟩:=trodAll_cons hA
 obtain ⟨v1,vs1,d1,ds1,p1,q1,rfl,rfl,rfl,h1,r1⟩:=trodAll_cons r0
 obtain ⟨rfl,rfl,rfl⟩:=trodAll_nil r1
 obtain rfl:args = #[v0,v1]:=by cases args; simp_all
 obtain ⟨rfl,rfl⟩:=trodVars_none hV
 have k0:=h0
 have lt0:∀ x ∈ p0,x.block < W.heap.size:=by obtain ⟨m,hm⟩:=k0; exact DataW.trod_lt m _ _ _ hm
 obtain ⟨z0,w0⟩:=Ev.open_bytes under_bytes under_byte cells_byte (hval 0 42 v0 rfl rfl) h0
 have k1:=h1
 have lt1:∀ x ∈ p1,x.block < W.heap.size:=by obtain ⟨m,hm⟩:=k1; exact DataW.trod_lt m _ _ _ hm
 obtain ⟨z1,w1⟩:=Ev.open_bytes under_bytes under_byte cells_byte (hval 1 42 v1 rfl rfl) h1
 clear hA0 hval0
 refine (hole_fnSwapKeeps W (laid_ground hL) v0 z0 w0 v1 z1 w1).mono fun e W' ⟨he,bel⟩ => ?_
 subst he
 exact ⟨_,rfl,_,_,_,[],_,[],hW',trodAll_mk1 (shut_bool under_bool _),(trodAll_cons_mk (Below.trod laidOut (by kernel_rfl) (of_decide_eq_true (by kernel_rfl)) k0 bel lt0) (trodAll_cons_mk (Below.trod laidOut (by kernel_rfl) (of_decide_eq_true (by kernel_rfl)) k1 bel lt1) trodAll_mk0)),rfl,bel.frame _,fun h => by cases h⟩
end Go.Proofs.YtahbdkmimmnadaaGreatDoor.fnSwapKeeps
