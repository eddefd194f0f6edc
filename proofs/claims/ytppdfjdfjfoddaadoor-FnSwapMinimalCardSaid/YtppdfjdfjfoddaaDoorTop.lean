/-
  math/bits.TrailingZeros at the machine, off the table that was laid.
-/
import Derived.Test.YtppdfjdfjfoddaaDoorPrimA
import Derived.Test.YtppdfjdfjfoddaaDoorGnd
import Derived.Shelf.Spec.TrailingZeros
import Derived.Test.YtppdfjdfjfoddaaDoorLib
import Derived.Laws.StructEq
import Derived.ChangeSlices
import Derived.RowKit3
set_option linter.unusedSimpArgs false
set_option linter.unusedVariables false
set_option maxHeartbeats 1000000
namespace Go.Proofs.YtppdfjdfjfoddaaDoor
namespace Ev
section
open Go.RowKit
set_option maxHeartbeats 1000000 in
theorem aQK (x k idx:Nat) (w:World) (hx0:((x:Int) == 0) = false)
  (key:IntKind.u64.wrap (bits BinOp.and IntKind.u64 (x:Int) (IntKind.u64.wrap (-(x:Int))) * 285870213051353865) / 288230376151711744 = (idx:Int))
  (hi:idx < 64) (hk:k < 64) (hcell:w.cell? ⟨2,idx,none⟩ = some (.int .u8 k)) :
  Calls Tryd.prog 115 #[.int .u64 x] w fun e w' => e = .returned (.int .i64 k) ∧ w' = w:=by
 go_enter Tryd.func115,Tryd.ntmps115
 go_wp2_with (simp only [key])
 go_ret
 exact ⟨rfl,rfl⟩
theorem aQ0 (w:World):Calls Tryd.prog 115 #[.int .u64 0] w fun e w' => e = .returned (.int .i64 64) ∧ w' = w:=by
 go_enter Tryd.func115,Tryd.ntmps115
 go_wp2
 go_ret
 exact ⟨rfl,rfl⟩
theorem aRF (x:Nat) (hx:x < 18446744073709551616) (w:World) (hT:TabAt 2 Lib.deBruijn64tab w) :
  Calls Tryd.prog 115 #[.int .u64 x] w fun e w' => e = .returned (.int .i64 (Lib.ctz 64 x)) ∧ w' = w:=by
 by_cases hx0:x = 0
 ·subst hx0
  exact aQ0 w
 ·obtain ⟨hlow,hk⟩:=Lib.lowest_bit 64 x hx0 hx
  obtain ⟨hi,htab⟩:=Lib.deBruijn64_at _ hk
  have hcell:=hT _ hi
  rw [htab] at hcell
  exact aQK x _ _ w (by simp; omega) (tz64_key x _ hx hx0 hlow) hi hk hcell
theorem aRM (x:Nat) (hx:x < 18446744073709551616) (w:World) (hT:TabAt 2 Lib.deBruijn64tab w) :
  Calls Tryd.prog 113 #[.int .u64 x] w fun e w' => e = .returned (.int .i64 (Lib.ctz 64 x)) ∧ w' = w:=by
 have c64:=aRF x hx w hT
 have e29:∀ args w,(callFunc 115 args).run Tryd.prog w = .ok (.enter 115 args) w:=enters_of Tryd.func115 (by kernel_rfl) rfl
 have hw:IntKind.u64.wrap (x:Int) = (x:Int):=by rw [IntKind.wrap_u64]; omega
 go_enter Tryd.func113,Tryd.ntmps113
 go_wp2_with (go_at_fn 115; refine c64.mono ?_; rintro e w' ⟨rfl,hw'⟩; rw [hw'])
 go_ret
 exact ⟨rfl,rfl⟩
theorem aRC {w:World} {I:Nat → Prop} (hg:Ground gnd w I):TabAt 2 Lib.deBruijn64tab w:=by
 intro j hj
 obtain ⟨_,h2⟩:=hg 2 _ (List.mem_singleton.2 rfl)
 have h3:=h2 j (.int .u8 (Lib.deBruijn64tab.getD j 0)) (by simp [List.getD_eq_getElem?_getD,hj])
 unfold cellAt at h3
 simp only [World.cell?]
 split at h3
 ·rename_i C E fz hh
  simp [hh,h3]
 ·cases h3
theorem aRu:IX gnd Tryd.prog 113 gCtz:=by
 intro k args h x h' he
 simp only at he
 split at he
 ·rename_i hk
  subst hk
  refine ⟨⟨_,Tryd.func113,by kernel_rfl,by kernel_rfl⟩,fun ρ w I vs r ha => ?_⟩
  unfold gCtz at he
  split at he
  ·rename_i n
   split at he
   ·rename_i hn
    cases he
    obtain ⟨xv,rest,rfl,hx,hr⟩:=m7 ha
    simp only [ARv] at hr
    subst hr
    have hx:xv = .int .u64 n:=by simpa only [AR,DR] using hx
    subst hx
    have run:=aRM n.toNat (by omega) w (aRC r.ground)
    have e1:((n.toNat:Nat):Int) = n:=by omega
    rw [e1] at run
    refine run.mono fun e w' hh => ?_
    obtain ⟨rfl,rfl⟩:=hh
    exact ⟨_,ρ,I,rfl,.refl r,by simp only [AR,DR]⟩
   ·cases he
  ·cases he
 ·cases he
end
section
open Go.RowKit
theorem aRl:aJK Tryd.prog aCV:=by
 intro t n h
 unfold aCV at h
 simp at h
theorem aJS:Tryd.prog.follows .mixedOrders = true:=by kernel_rfl
theorem aRk:EnvOK env:=⟨aRl,aJS⟩
theorem aNJ:∀ f g,env.prim f = some g → IX gnd env.P f g:=by
 have key:∀ (l:List (Nat × (List A → H → Option (A × H)))),(∀ p ∈ l,IX gnd Tryd.prog p.1 p.2) → ∀ f g,l.lookup f = some g → IX gnd Tryd.prog f g:=by
  intro l
  induction l with
  | nil => intro _ f g h; simp at h
  | cons p l ih =>
   intro hp f g h
   obtain ⟨k,q⟩:=p
   rw [List.lookup_cons] at h
   split at h
   ·rename_i he
    have he':f = k:=by simpa using he
    cases h
    subst he'
    exact hp (f,g) (by simp)
   ·exact ih (fun p hm => hp p (by simp [hm])) f g h
 refine key aIR ?_
 intro p hp
 unfold aIR at hp
 simp only [List.mem_cons,List.not_mem_nil,or_false] at hp
 rcases hp with rfl | rfl
 ·exact aJF
 ·exact aRu
def there (w:World):Nat → Prop:=fun b => b < w.heap.size
theorem run_law {L n:Nat} {f:FuncId} {args:List A} {vs:List Value} {w:World} (he:aA env L n f args [] = some (.d (.bool true),[])) (hg:Ground gnd w (there w)) (ha:ARv [] (fun _ => none) w (there w) args vs) :
  Calls Tryd.prog f vs.toArray w fun e w' => e = .returned (.bool true) ∧ Below w.heap.size w w':=by
 obtain ⟨_,hc⟩:=aOZ (L:=L) aRk aNJ n f args [] _ _ he
 refine (hc (fun _ => none) w (there w) vs (DS (fun _ h => h) hg) ha).mono fun e w' hh => ?_
 obtain ⟨v,ρ',I',he',s,hv⟩:=hh
 have hv:v = .bool true:=by simpa only [AR,DR] using hv
 subst hv
 have g:=aB0 s
 exact ⟨he',g.os,g.tape,g.output,g.size,g.same⟩
def roundsMax:Nat:=2 ^ 70
theorem rounds_le:2 ^ 60 ≤ roundsMax:=by unfold roundsMax; omega
structure IsBytes (w:World) (v:Value) (z:List UInt8):Prop where
 rel:DR w (there w) (.ivs z.length (bH z)) v
open Go.ChangeShapes Go.WideShapes in
theorem open_bytes {P:Program} {H:Type} {enc:TypeId × Value → H} {W:World} {t e:TypeId} {r:Reach} {b0:Nat} {v:Value} {d:DataW H} {p:List MemPlace} (ht:P.underlying t = some (.slice e)) (he:P.underlying e = some (.int .u8)) (hc:P.cellsOf e = 1) (hval:Value.okWide P W r b0 t v) (hd:DataW.Trod enc P W 0 (fun _ => true) true t v d p):∃ z,IsBytes W v z:=by
 obtain ⟨a0,len,cap,rfl⟩:=okWide_slice ht hval
 obtain ⟨fuel,hf⟩:=hd
 rcases open_ints ht he hc hf with ⟨h,_⟩ | ⟨a,len',cap',zs,h,hb,hl,hm,hz,_,hcell,hwf⟩
 ·simp [Value.cells] at h
  obtain ⟨rfl,rfl,rfl⟩:=h
  exact ⟨[],⟨by simp only [DR]; exact ⟨none,0,rfl,Nat.le_refl _,.inl rfl⟩⟩⟩
 ·simp [Value.cells] at h
  obtain ⟨rfl,rfl,rfl⟩:=h
  simp only [if_true] at hz
  have hzl:(zs.take len).length = len:=by rw [List.length_take]; omega
  refine ⟨(zs.take len).map fun n => UInt8.ofNat n.toNat,⟨?_⟩⟩
  simp only [DR]
  refine ⟨some a,cap,by rw [List.length_map,hzl],by rw [List.length_map,hzl]; exact hl,?_⟩
  by_cases h0:len = 0
  ·left
   subst h0
   simp [bH]
  ·right
   have c0:=hcell 0 (by omega)
   have hadd:a.add 0 = a:=by simp [Addr.add]
   rw [hadd] at c0
   have hs:=World.cell?_spot c0
   obtain ⟨b,o,sp⟩:=a
   simp only at hs
   subst hs
   rw [cell?_eq] at c0
   have hlt:b < W.heap.size:=by
    unfold cellAt at c0
    cases hx:W.heap[b]? with
    | none => rw [hx] at c0; cases c0
    | some o => exact (Array.getElem?_eq_some_iff.1 hx).1
   refine ⟨b,o,rfl,hlt,?_⟩
   rw [nA]
   intro k x hk
   simp only [bH,List.map_map,List.getElem?_map] at hk
   obtain ⟨n,hn,hx⟩:=Option.map_eq_some_iff.1 hk
   obtain ⟨hkl,hkn⟩:=List.getElem?_eq_some_iff.1 hn
   rw [hzl] at hkl
   have hkz:k < zs.length:=by omega
   have hzn:zs.getD k 0 = n:=by
    rw [List.getD_eq_getElem?_getD,List.getElem?_eq_getElem hkz]
    rw [List.getElem_take] at hkn
    exact hkn
   have hc2:=hcell k hkz
   rw [hzn] at hc2
   have hw:=hwf n (by rw [← hkn,List.getElem_take]; exact List.getElem_mem hkz)
   simp only [Lit.wf,Bool.and_eq_true,decide_eq_true_eq] at hw
   have hn0:0 ≤ n:=hw.1
   have hn1:n ≤ 255:=hw.2
   have hadd2:(⟨b,o,none⟩:Addr).add k = ⟨b,o + k,none⟩:=by
    unfold Addr.add
    by_cases hk0:k = 0
    ·subst hk0; simp
    ·simp [hk0]
   rw [hadd2,cell?_eq] at hc2
   refine ⟨.int .u8 n,hc2,?_,rfl⟩
   subst hx
   simp only [Function.comp,DR]
   have:((UInt8.ofNat n.toNat).toNat:Int) = n:=by
    rw [UInt8.toNat_ofNat']
    omega
   rw [this]
end
end Ev
end Go.Proofs.YtppdfjdfjfoddaaDoor
