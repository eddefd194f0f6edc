/-
  From the evaluator to a run of the program.
-/
import Derived.Test.YthlkcebdfbjdoaaGreatLib
import Derived.Test.YthlkcebdfbjdoaaGreatGnd
import Derived.Test.YthlkcebdfbjdoaaGreatPrimA
import Derived.Test.YthlkcebdfbjdoaaGreatPrimK
import Derived.Test.YthlkcebdfbjdoaaGreatPrimX
import Derived.Laws.StructEq
import Derived.ChangeSlices
import Derived.RowKit3
namespace Go.Proofs.YthlkcebdfbjdoaaGreat
namespace Ev
open Go.RowKit
theorem aUM:aLh Tryz.prog aDM:=by
 intro t n h;unfold aDM at h;simp at h
theorem aLw:Tryz.prog.follows .mixedOrders=true:=kr
theorem aU4:EnvOK env:=⟨aUM,aLw⟩
theorem aQ4:∀f g,env.prim f=some g->xU gnd env.P f g:=by
 have key:∀(l:List (Nat×(List A->H->Option (A×H)))),(∀p∈l,xU gnd Tryz.prog p.1 p.2)->∀f g,l.lookup f=some g->xU gnd Tryz.prog f g:=by
  intro l
  induction l with
  |nil=>intro _ f g h;simp at h
  |cons p l ih=>
   intro hp f g h;obtain⟨k,q⟩:=p;rw[List.lookup_cons]at h
   split at h
   ·rename_i he
    have he':f=k:=by simpa using he
    cases h;subst he'
    exact hp (f,g) (by simp)
   ·exact ih (fun p hm=>hp p (by simp[hm])) f g h
 refine key aGK ?_;intro p hp;unfold aGK at hp;simp only[Au,Bo,or_false]at hp
 rcases hp with rfl|rfl|rfl|rfl
 ·exact(aJ0 rfl)
 ·exact aJK
 ·exact aLb
 ·exact aPk
def aBC(w:World):Nat->Prop:=fun b=>b<w.heap.size
theorem run_law{L n:Nat}{f:FuncId}{args:List A}{vs:List Value}{w:World}(he:aA env L n f args []=some (.d (.bool true),[]))(hg:BZ gnd w (aBC w))(ha:ARv [] (fun _=>none) w (aBC w) args vs):
  Calls Tryz.prog f vs.toArray w fun e w'=>e=.returned (.bool true)/\Below w.heap.size w w':=by
 obtain⟨_,hc⟩:=aLJ (L:=L) aU4 aQ4 n f args [] _ _ he;refine(hc (fun _=>none) w (aBC w) vs (wU (fun _ h=>h) hg) ha).mono fun e w' hh=> ?_;obtain⟨v,ρ',I',he',s,hv⟩:=hh;have hv:v=.bool true:=by simpa only[AR,DR]using hv
 subst hv;have g:=OV s;exact⟨he',g.os,g.tape,g.output,g.size,g.same⟩
def roundsMax:Nat:=2^70
theorem rounds_le:2^60<=roundsMax:=by unfold roundsMax;omega
structure IsBytes(w:World)(v:Value)(z:List UInt8):Prop where
 rel:DR w (aBC w) (.ivs z.length (bI z)) v
open Go.ChangeShapes Go.WideShapes in
theorem open_bytes{P:Program}{H:Type}{enc:TypeId×Value->H}{W:World}{t e:TypeId}{r:Reach}{b0:Nat}{v:Value}{d:DataW H}{p:List MemPlace}(ht:P.underlying t=some (.slice e))(he:P.underlying e=some (.int .u8))(hc:P.cellsOf e=1)(hval:Value.okWide P W r b0 t v)(hd:DataW.Trod enc P W 0 (fun _=>true) true t v d p):∃z,IsBytes W v z:=by
 obtain⟨a0,len,cap,rfl⟩:=okWide_slice ht hval;obtain⟨fuel,hf⟩:=hd
 rcases open_ints ht he hc hf with⟨h,_⟩|⟨a,len',cap',zs,h,hb,hl,hm,hz,_,hcell,hwf⟩
 ·simp[Value.cells]at h;obtain⟨rfl,rfl,rfl⟩:=h;exact⟨[],⟨by simp only[DR];exact⟨none,0,rfl,Ab _,.inl rfl⟩⟩⟩
 ·simp[Value.cells]at h;obtain⟨rfl,rfl,rfl⟩:=h;simp only[if_true]at hz;have hzl:(zs.take len).length=len:=by rw[Bt];omega
  refine⟨(zs.take len).map fun n=>UInt8.ofNat n.toNat,⟨?_⟩⟩;simp only[DR];refine⟨some a,cap,by rw[Ay,hzl],by rw[Ay,hzl];exact hl,?_⟩
  by_cases h0:len=0
  ·left;subst h0;simp[bI]
  ·right;have c0:=hcell 0 (by omega);have hadd:a.add 0=a:=by simp[Addr.add]
   rw[hadd]at c0;have hs:=World.cell?_spot c0;obtain⟨b,o,sp⟩:=a;simp only at hs;subst hs;rw[cell?_eq]at c0
   have hlt:b<W.heap.size:=by
    unfold dA at c0
    cases hx:W.heap[b]? with
    |none=>rw[hx]at c0;cases c0
    |some o=>exact(Bg.1 hx).1
   refine⟨b,o,rfl,hlt,?_⟩;rw[fL];intro k x hk;simp only[bI,List.map_map,Bd]at hk;obtain⟨n,hn,hx⟩:=Aw.1 hk;obtain⟨hkl,hkn⟩:=As.1 hn;rw[hzl]at hkl;have hkz:k<zs.length:=by omega
   have hzn:zs.getD k 0=n:=by
    rw[Aa,Ae hkz];rw[List.getElem_take]at hkn;exact hkn
   have hc2:=hcell k hkz;rw[hzn]at hc2;have hw:=hwf n (by rw[<-hkn,List.getElem_take];exact Az hkz);simp only[Lit.wf,Ar,decide_eq_true_eq]at hw;have hn0:0<=n:=hw.1;have hn1:n<=255:=hw.2
   have hadd2:(⟨b,o,none⟩:Addr).add k=⟨b,o+k,none⟩:=by
    unfold Addr.add
    by_cases hk0:k=0
    ·subst hk0;simp
    ·simp[hk0]
   rw[hadd2,cell?_eq]at hc2;refine⟨.int .u8 n,hc2,?_,rfl⟩;subst hx;simp only[Function.comp,DR]
   have:((UInt8.ofNat n.toNat).toNat:Int)=n:=by
    rw[UInt8.toNat_ofNat'];omega
   rw[this]
end Ev
end Go.Proofs.YthlkcebdfbjdoaaGreat
