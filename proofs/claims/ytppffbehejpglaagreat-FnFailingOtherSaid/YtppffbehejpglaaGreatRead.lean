/-
  Where the functions that maps.Keys and slices.Collect call lie in this program. Written by a tool of the kit's.
-/
import Derived.Test.YtppffbehejpglaaGreatChecked
import Derived.Shelf.SlIter.Collect
import Derived.Test.YtppffbehejpglaaGreatPrimX
import Derived.Sort.OwnSorted
import Derived.Test.YtppffbehejpglaaGreatShlx
import Derived.Laws.StructEq
import Derived.ChangeSlices
import Derived.RowKit3
import Derived.Test.YtppffbehejpglaaGreatEvWalk
set_option linter.unusedSimpArgs false
set_option linter.unusedVariables false
set_option linter.unusedSectionVars false
set_option maxRecDepth 1000000
set_option maxHeartbeats 4000000
namespace Go.Proofs.YtppffbehejpglaaGreat
namespace Ev
section
open Go.Shelf
def aAJ:Go.Shelf.Ren:=⟨fun|7=>26|10=>54|n=>n,fun|23=>46|26=>9|3=>4|28=>51|0=>0|27=>50|33=>74|4=>4|n=>n,fun|n=>n⟩
theorem aRQ:Go.Proofs.SlLaysZ.n7 Tryz.prog aAJ:={
 mixed:=by kernel_rfl
 f7:=⟨Tryz.f26.name,by decide,Tryz.func26.trans (congrArg some (by kernel_rfl))⟩
 f10:=⟨Tryz.f54.name,by decide,Tryz.func54.trans (congrArg some (by kernel_rfl))⟩
 t0:=Tryz.underlying0
 a0:=Tryz.isAgg0
 z0:=Tryz.sizeOf0
 v0:=Tryz.zeroValue0
 t4:=Tryz.underlying4
 a4:=Tryz.isAgg4
 z4:=Tryz.sizeOf4
 v4:=Tryz.zeroValue4
 t23:=Tryz.underlying46
 a23:=Tryz.isAgg46
 z23:=Tryz.sizeOf46
 v23:=Tryz.zeroValue46
 t26:=Tryz.underlying9
 a26:=Tryz.isAgg9
 z26:=Tryz.sizeOf9
 v26:=Tryz.zeroValue9
 t27:=Tryz.underlying50
 a27:=Tryz.isAgg50
 z27:=Tryz.sizeOf50
 v27:=Tryz.zeroValue50
 t28:=Tryz.underlying51
 a28:=Tryz.isAgg51
 z28:=Tryz.sizeOf51
 v28:=Tryz.zeroValue51
 t33:=Tryz.underlying74
 a33:=Tryz.isAgg74
 z33:=Tryz.sizeOf74
 v33:=Tryz.zeroValue74}
def aLi:Go.Shelf.Ren:=⟨fun|8=>53|11=>89|n=>n,fun|26=>9|28=>51|24=>31|0=>0|33=>74|4=>4|n=>n,fun|n=>n⟩
theorem aSV:Go.Proofs.SlLaysZ.n8 Tryz.prog aLi:={
 mixed:=by kernel_rfl
 f8:=⟨Tryz.f53.name,by decide,Tryz.func53.trans (congrArg some (by kernel_rfl))⟩
 f11:=⟨Tryz.f89.name,by decide,Tryz.func89.trans (congrArg some (by kernel_rfl))⟩
 t0:=Tryz.underlying0
 a0:=Tryz.isAgg0
 z0:=Tryz.sizeOf0
 v0:=Tryz.zeroValue0
 t24:=Tryz.underlying31
 a24:=Tryz.isAgg31
 z24:=Tryz.sizeOf31
 v24:=Tryz.zeroValue31
 t26:=Tryz.underlying9
 a26:=Tryz.isAgg9
 z26:=Tryz.sizeOf9
 v26:=Tryz.zeroValue9
 t28:=Tryz.underlying51
 a28:=Tryz.isAgg51
 z28:=Tryz.sizeOf51
 v28:=Tryz.zeroValue51
 i26:=by kernel_rfl}
end
section
variable{G:Gnd}
open Go.RowKit Go.Lib Go.Sort Go.Maps Go.Shelf
open Go.WideElems (Fit rd rg pl)
theorem aAe{T:Type}(x:Lit×DataW T):∀l:List (Lit×DataW T),(DataW.insert x l).Perm (x::l)
 | []=>by simp[DataW.insert]
 |y::l=>by
  unfold DataW.insert
  split
  ·exact .refl _
  ·exact((aAe x l).cons y).trans (.swap x y l)
theorem IK{T:Type}:∀l:List (Lit×DataW T),(l.foldr DataW.insert []).Perm l
 | []=>.refl _
 |x::l=>(aAe x _).trans ((IK l).cons x)
theorem XR{l m:List (List UInt8)}(h:l.Perm m):l.mergeSort leX=m.mergeSort leX:=
 ((List.mergeSort_perm l leX).trans (h.trans (List.mergeSort_perm m leX).symm)).eq_of_pairwise (fun x y _ _ h1 h2=>aBH h1 h2) (List.pairwise_mergeSort KQ K0 _) (List.pairwise_mergeSort KQ K0 _)
theorem aQj{Bm b:Nat}{M:Array MapEntry}{c:Nat}{l:List (List UInt8)}{w:World}(hBm:Bm<w.heap.size)(hm:w.cell? ⟨Bm,0,none⟩=some (.map (some b)))(hb:w.heap[b]? =some (.map M c))(hS:MapKept.Stamped M c)(hk:M.toList.map (fun x=>x.key)=l.map encX)(hlen:∀s∈l,s.length<=4294967296)(h0:0<l.length)(h1:l.length<=4294967296):
  Calls Tryz.prog 25 #[.func (.func 54) #[] #[.pointer (some ⟨Bm,0,none⟩)],.func (.func 27) #[] #[]] w fun e w'=>∃(gb cap:Nat) (cur:Array Value) (E:TypeId),e=.returned (.slice (some ⟨gb,0,none⟩) l.length cap)/\w.heap.size<=gb/\w'.heap[gb]? =some (.cells cur E (0,0))/\l.length<=cap/\cur.size=cap/\(∀(j:Nat) (s:List UInt8),(l.mergeSort leX)[j]? =some s->cur[j]? =some (encX s))/\Below w.heap.size w w':=by
 obtain⟨R,hR⟩:∃R:Value->Option (DataW Unit×List MemPlace),R=fun _=>some (.nil,[]):=⟨_,rfl⟩
 have hst:Tryz.prog.underlying 9=some .string:=kr
 have hkey:∀x∈M.toList,∃s∈l,x.key=encX s:=by
  intro x hx;have:x.key∈M.toList.map (fun x=>x.key):=Bf.2 ⟨x,hx,rfl⟩;rw[hk]at this;obtain⟨s,hs,e⟩:=Bf.1 this;exact⟨s,hs,e.symm⟩
 have hsz:M.size=l.length:=by
  have:=congrArg List.length hk
  simpa using this
 have hrd:∀x∈M.toList,∀s,x.key=encX s->s∈l->rd Tryz.prog 9 R x=some (.string s,.nil):=by
  intro x hx s e hs;have hl:=hlen s hs
  have hko:keyOf Tryz.prog 9 x.key=some (.string s):=by
   rw[e]
   have:=Go.WideMaps.keyOf_string_mk hst (s:=⟨s.toArray⟩) (by
    have:maxLen=9223372036854775807\/4294967296<=maxLen:=by first|exact .inr dc|exact .inl rfl
    show s.toArray.size<=maxLen;have h2:s.toArray.size=s.length:=sm;have h3:4294967296<=maxLen:=dc;omega)
   exact this
  obtain⟨key,val,born⟩:=x;exact Go.WideElems.rd_mk (R:=R) hko (yv:=(.nil,[])) (by rw[hR])
 have hFit:Fit Tryz.prog 9 R M c:=by
  refine⟨?_,hS,fun x hx=> ?_⟩
  ·have h3:4294967296<=maxLen:=dc;omega
  ·obtain⟨s,hs,e⟩:=hkey x hx;exact⟨_,hrd x hx s e hs⟩
 obtain⟨D0,hD⟩:∃D0:DataW Unit,D0=.map ((M.toList.map (rg Tryz.prog 9 R)).foldr DataW.insert []):=⟨_,rfl⟩
 have hown:w.ownsMap Tryz.prog 9 R b M.size D0:=⟨M,c,hb,hFit,Ab _,hD⟩
 have hperm:(strKeys D0).Perm l:=by
  rw[hD];show((M.toList.map (rg Tryz.prog 9 R)).foldr DataW.insert []).map (fun p=>strOf p.1)|>.Perm l;refine((IK _).map _).trans ?_
  have e:((M.toList.map (rg Tryz.prog 9 R)).map fun p=>strOf p.1).map encX=l.map encX:=by
   rw[<-hk,List.map_map,List.map_map];apply Ec;intro x hx;obtain⟨s,hs,e⟩:=hkey x hx;show encX (strOf (rg Tryz.prog 9 R x).1)=x.key;rw[Go.WideElems.rg_of (hrd x hx s e hs),e];rfl
  have inj:∀a b:List UInt8,encX a=encX b->a=b:=fun a b h=>by simpa [encX]using h
  have:=(List.map_inj_right inj).1 e;rw[this]
 have hN:Maps.size D0=l.length:=by
  rw[hD];have:=(IK (M.toList.map (rg Tryz.prog 9 R))).length_eq;rw[Ao]at this;show(List.foldr DataW.insert [] (M.toList.map (rg Tryz.prog 9 R))).length=_;rw[this]
  simpa using hsz
 have hseq:SeqGives Fence.wide 1 Tryz.prog 54 #[.pointer (some ⟨Bm,0,none⟩)] encStr (fun ss=>ss.Perm (strKeys D0)) (Maps.size D0) w:=
  AnyZ.keys_gives (ρ:=aAJ) { aRQ with} Fence.wide _ trivial rfl om Bm b M.size D0 w hBm hm hown
 have hmax:Maps.size D0<=maxLen:=by
  have h3:4294967296<=maxLen:=dc;omega
 have egk:∀args w,(callFunc 54 args).run Tryz.prog w=.ok (.enter 54 args) w:=enters_of Tryz.func54 kr rfl;have cColl:=AnyZ.collect_in aSV Fence.wide 3 trivial trivial rfl om 54 #[.pointer (some ⟨Bm,0,none⟩)] trivial egk (fun ss=>ss.Perm (strKeys D0)) (Maps.size D0) hmax om w hseq;refine(callsIn_wide (n:=4)).1 ?_;refine callsIn_of_wp Tryz.func25 rfl trivial ?_ rfl;simp only[Tryz.ntmps25,List.size_toArray,Ae,Ac,Nat.reduceAdd,Nat.reduceSub,Array.replicate_succ,Array.replicate_zero,List.push_toArray,List.append_toArray,Ap,Ax];have hfC:Fence.wide.fn 53:=trivial;have hfS:Fence.wide.fn 52:=trivial
 gi_wp2_with (gi_at_call 53;refine cColl.mono ?_;rintro e W ⟨v,ss,rfl,hSp,hrow,hnil,hbl⟩)
 have hsl:=(hSp.trans hperm).length_eq
 rcases hrow.2 with⟨rfl,hz⟩|⟨gb,cap,cur,rfl,hbase,hgb,r1,r2,r3,r4⟩
 ·omega
 ·obtain⟨E0,hg0⟩:∃E0,W.heap[gb]? =some (.cells cur E0 (0,0)):=⟨_,hgb⟩
  have hH:Holds encX W gb 0 ss.toArray:=holds_of_block hgb (by simpa using r4);have hgl:gb<W.heap.size:=(Bl.1 hgb).1;have cS:=callsIn_wide (n:=3)|>.2 (aGJ gb ss.length cap ss rfl W hH hgl om)
  gi_wp2_with (gi_at_call 52;refine cS.mono ?_;rintro e w' ⟨rfl,nn,os,rfl⟩)
  go_ret
  rw[XR (hSp.trans hperm)];refine⟨gb,cap,putCells encX 0 (l.mergeSort leX).toArray cur,E0,rfl,hbase,?_,by omega,?_,?_,?_⟩
  ·have h1:(sortWorld encX W gb 0 nn (ss.mergeSort leX).toArray os).heap=(W.heap.modify gb (onCells (putCells encX 0 (ss.mergeSort leX).toArray)))++os:=rfl;rw[<-XR (hSp.trans hperm),h1,Eo (by simpa using hgl),Ei,if_pos rfl,hg0];rfl
  ·simp only[putCells,Array.size_mapIdx];omega
  ·intro j s hj;have hjl:j<(l.mergeSort leX).length:=(Au.1 hj).1;have hjl2:j<l.length:=by rw[List.length_mergeSort]at hjl;exact hjl
   simp only[putCells,Array.getElem?_mapIdx,List.size_toArray,Co,true_and,Ag,Nat.sub_zero];rw[Array.getElem?_eq_getElem (show j<cur.size by omega)]
   simp[]
   rw[if_pos (by simpa using hjl2)];rw[hj];rfl
  ·refine hbl.trans ⟨rfl,rfl,rfl,?_,fun k hk=> ?_⟩
   ·show _<=((W.heap.modify gb _)++os).size;simp
   ·have h1:(sortWorld encX W gb 0 nn (ss.mergeSort leX).toArray os).heap=(W.heap.modify gb (onCells (putCells encX 0 (ss.mergeSort leX).toArray)))++os:=rfl;rw[<-XR (hSp.trans hperm),h1,Eo (by have:=hbl.size;simp;omega),Ei,if_neg om]
theorem W6:∀(es:List (D×D)) (l:List (List UInt8)),CT es=some l->es.map (fun e=>dF e.1)=l.map encX
 | [],l,h=>by simp only[CT,Option.some.injEq]at h;subst h;rfl
 |(d,v)::es,l,h=>by
  cases d<;>simp only[CT,reduceCtorEq]at h
  obtain⟨l',h1,rfl⟩:=Ay.1 h;have:=W6 es l' h1;simp only[Ai,this]<;>rfl
theorem aOW:∀(es:List (D×D)) (l:List (List UInt8)),CT es=some l->es.length=l.length:=fun es l h=>by
 have:=congrArg List.length (W6 es l h)
 simpa using this
theorem aLm(hG:G.keeps=false):yQ G Tryz.prog 25 (A3 54 27):=by
 intro k args h x h' he;simp only at he
 split at he
 ·rename_i hk
  subst hk;refine⟨⟨_,Tryz.func25,by kernel_rfl,by kernel_rfl⟩,fun ρ w I vs r ha=> ?_⟩;unfold A3 at he
  split at he
  ·rename_i f id gen off c
   split at he
   ·rename_i mid hid
    split at he
    ·rename_i es hmid
     split at he
     ·rename_i hc
      obtain⟨rfl,rfl,rfl,rfl,he0,hmx⟩:=hc
      split at he
      ·rename_i l hks
       split at he
       ·rename_i hall
        cases he;obtain⟨v1,rest1,rfl,hx,hr1⟩:=fI ha
        obtain⟨v2,rest2,rfl,hv2,hr2⟩:=fI hr1;simp only[ARv]at hr2;subst hr2;simp only[AR,ARv]at hv2 hx;obtain⟨caps,rfl,hcaps⟩:=hv2;obtain rfl:caps= #[]:=by simpa using hcaps
        obtain⟨cv,rfl,pv,rest,hcv,⟨Bm,rfl,hpt⟩,rfl⟩:=hx
        obtain rfl:cv= #[.pointer (some ⟨Bm,0,none⟩)]:=by
         apply Array.toList_inj.1;simpa using hcv
        simp only[ptOK,hid]at hpt;have hO:=r.obj id _ hid;simp only[OR]at hO;obtain⟨Bm',hρ,_,C,E,fz,hbk,_,hcs⟩:=hO;rw[hpt.2]at hρ;cases hρ;obtain⟨v,hv,hm,_⟩:=hcs 0 (.mp mid) rfl;simp only[AR]at hm;obtain⟨b,rfl,hmp⟩:=hm;simp only[mpOK,hmid]at hmp;have hO2:=r.obj mid _ hmid;simp only[OR]at hO2;obtain⟨b',hρ2,_,M,c,hbm,hE,hS⟩:=hO2;rw[hmp]at hρ2;cases hρ2;have hBm:Bm<w.heap.size:=(Bl.1 hbk).1;have hcell:w.cell? ⟨Bm,0,none⟩=some (.map (some b)):=by rw[cell?_eq,hv]
        have hkl:=aOW es l hks
        have hkm:M.toList.map (fun x=>x.key)=l.map encX:=by
         have h1:=congrArg (List.map Prod.fst) hE.1;rw[List.map_map,List.map_map]at h1;exact h1.trans (W6 es l hks)
        have hmx2:l.length<=4294967296:=by rw[<-hkl];exact hmx
        refine(aQj hBm hcell hbm hS hkm (fun s hs=>of_decide_eq_true (Bg.1 hall s hs)) om hmx2).mono ?_;rintro e' w' ⟨gb,cap,cur,E2,rfl,hge,hgb,hcap,hcs2,hcells,hbl⟩;have g:Grew G.keeps w w':=⟨hbl.os,hbl.tape,hbl.output,hbl.size,hbl.block,fun e=>by rw[hG]at e;cases e⟩
        have hlm:(l.mergeSort leX).length=l.length:=List.length_mergeSort _
        have s1:=d9 r g (.arr ((l.mergeSort leX).map .str) 1 0) (some gb) (fun b hb=>by cases hb;exact hge) (fun hE=>by
         simp only[OR,a7];refine⟨by omega,?_,cur,E2,(0,0),hgb,kB _ _,?_⟩
         ·intro hI;have:=r.imm gb hI;omega
         ·rw[eX];intro k d hk;rw[Bd]at hk;obtain⟨s,hs,rfl⟩:=Ay.1 hk;refine⟨encX s,?_,?_,rfl⟩
          ·rw[Ag,dJ hgb];exact hcells k s hs
          ·simp only[DR,encX])
        refine⟨_,_,I,rfl,s1,?_⟩;simp only[AR];refine⟨some ⟨gb,0,none⟩,cap,by rw[hkl],?_⟩;have e1:(h++[O.arr ((l.mergeSort leX).map D.str) 1 0])[h.length]? =some (.arr ((l.mergeSort leX).map .str) 1 0):=sm;simp only[slOK,e1,a7];refine⟨Ab _,fun _=>⟨by omega,.inr ⟨trivial,by simp[hlm];omega,cur,E2,(0,0),hgb,by omega⟩⟩⟩
       ·cases he
      ·cases he
     ·cases he
    ·cases he
   ·cases he
  ·cases he
 ·cases he
end
section
open Go.RowKit
theorem aTx:aMD Tryz.prog aFu:=by
 intro t n h;unfold aFu at h;simp at h
theorem aNJ:Tryz.prog.follows .mixedOrders=true:=kr
theorem aTf:EnvOK env:=⟨aTx,aNJ⟩
theorem aQw:∀f g,env.prim f=some g->yQ gnd env.P f g:=by
 have key:∀(l:List (Nat×(List A->H->Option (A×H)))),(∀p∈l,yQ gnd Tryz.prog p.1 p.2)->∀f g,l.lookup f=some g->yQ gnd Tryz.prog f g:=by
  intro l
  induction l with
  |nil=>intro _ f g h;simp at h
  |cons p l ih=>
   intro hp f g h;obtain⟨k,q⟩:=p;rw[List.lookup_cons]at h
   split at h
   ·rename_i he
    have he':f=k:=by simpa using he
    cases h;subst he'
    exact hp (f,g) sm
   ·exact ih (fun p hm=>hp p (by simp[hm])) f g h
 refine key aIe ?_;intro p hp;unfold aIe at hp;simp only[Av,Br,or_false]at hp
 rcases hp with rfl|rfl|rfl|rfl
 ·exact(aLm rfl)
 ·exact aLj
 ·exact aNE
 ·exact aOd
def aDg(w:World):Nat->Prop:=fun b=>b<w.heap.size
theorem run_law{L n:Nat}{f:FuncId}{args:List A}{vs:List Value}{w:World}(he:aA env L n f args []=some (.d (.bool true),[]))(hg:DX gnd w (aDg w))(ha:ARv [] (fun _=>none) w (aDg w) args vs):
  Calls Tryz.prog f vs.toArray w fun e w'=>e=.returned (.bool true)/\Below w.heap.size w w':=by
 obtain⟨_,hc⟩:=aNB (L:=L) aTf aQw n f args [] _ _ he;refine(hc (fun _=>none) w (aDg w) vs (xR (fun _ h=>h) hg) ha).mono fun e w' hh=> ?_;obtain⟨v,ρ',I',he',s,hv⟩:=hh;have hv:v=.bool true:=by simpa only[AR,DR]using hv
 subst hv;have g:=Q1 s;exact⟨he',g.os,g.tape,g.output,g.size,g.same⟩
def roundsMax:Nat:=2^70
theorem rounds_le:2^60<=roundsMax:=by unfold roundsMax;omega
structure IsBytes(w:World)(v:Value)(z:List UInt8):Prop where
 rel:DR w (aDg w) (.ivs z.length (bK z)) v
open Go.ChangeShapes Go.WideShapes in
theorem open_bytes{P:Program}{H:Type}{enc:TypeId×Value->H}{W:World}{t e:TypeId}{r:Reach}{b0:Nat}{v:Value}{d:DataW H}{p:List MemPlace}(ht:P.underlying t=some (.slice e))(he:P.underlying e=some (.int .u8))(hc:P.cellsOf e=1)(hval:Value.okWide P W r b0 t v)(hd:DataW.Trod enc P W 0 (fun _=>true) true t v d p):∃z,IsBytes W v z:=by
 obtain⟨a0,len,cap,rfl⟩:=okWide_slice ht hval;obtain⟨fuel,hf⟩:=hd
 rcases open_ints ht he hc hf with⟨h,_⟩|⟨a,len',cap',zs,h,hb,hl,hm,hz,_,hcell,hwf⟩
 ·simp[Value.cells]at h;obtain⟨rfl,rfl,rfl⟩:=h;exact⟨[],⟨by simp only[DR];exact⟨none,0,rfl,Ab _,.inl rfl⟩⟩⟩
 ·simp[Value.cells]at h;obtain⟨rfl,rfl,rfl⟩:=h;simp only[if_true]at hz;have hzl:(zs.take len).length=len:=by rw[Bk];omega
  refine⟨(zs.take len).map fun n=>UInt8.ofNat n.toNat,⟨?_⟩⟩;simp only[DR];refine⟨some a,cap,by rw[Ao,hzl],by rw[Ao,hzl];exact hl,?_⟩
  by_cases h0:len=0
  ·left;subst h0;simp[bK]
  ·right;have c0:=hcell 0 om;have hadd:a.add 0=a:=by simp[Addr.add]
   rw[hadd]at c0;have hs:=World.cell?_spot c0;obtain⟨b,o,sp⟩:=a;simp only at hs;subst hs;rw[cell?_eq]at c0
   have hlt:b<W.heap.size:=by
    unfold cT at c0
    cases hx:W.heap[b]? with
    |none=>rw[hx]at c0;cases c0
    |some o=>exact(Bl.1 hx).1
   refine⟨b,o,rfl,hlt,?_⟩;rw[eX];intro k x hk;simp only[bK,List.map_map,Bd]at hk;obtain⟨n,hn,hx⟩:=Ay.1 hk;obtain⟨hkl,hkn⟩:=Au.1 hn;rw[hzl]at hkl;have hkz:k<zs.length:=om
   have hzn:zs.getD k 0=n:=by
    rw[Aa,Ad hkz];rw[List.getElem_take]at hkn;exact hkn
   have hc2:=hcell k hkz;rw[hzn]at hc2;have hw:=hwf n (by rw[<-hkn,List.getElem_take];exact At hkz);simp only[Lit.wf,As,decide_eq_true_eq]at hw;have hn0:0<=n:=hw.1;have hn1:n<=255:=hw.2
   have hadd2:(⟨b,o,none⟩:Addr).add k=⟨b,o+k,none⟩:=by
    unfold Addr.add
    by_cases hk0:k=0
    ·subst hk0;simp
    ·simp[hk0]
   rw[hadd2,cell?_eq]at hc2;refine⟨.int .u8 n,hc2,?_,rfl⟩;subst hx;simp only[Function.comp,DR]
   have:((UInt8.ofNat n.toNat).toNat:Int)=n:=by
    rw[UInt8.toNat_ofNat'];omega
   rw[this]
end
section
def fO(f:A->Option D):List A->Option (List D)
 | []=>some []
 |a::asx=>match f a,fO f asx with
  |some x,some xs=>some (x::xs)
  |_,_=>none
def rd0(h:H):A->Option D
 |.d x=>some x
 |.sl id gen off len=>match h[id]? with
  |some (.arr cs esz g)=>if g=gen/\off+len*esz<=cs.length then some (.ivs len ((cs.drop off).take (len*esz)))else none
  |some (.ice cs esz g)=>if g=gen/\off+len*esz<=cs.length then some (.ivs len ((cs.drop off).take (len*esz)))else none
  |_=>none
 |_=>none
def rd1(h:H):A->Option D
 |.sl id gen off len=>match h[id]? with
  |some (.vec cs esz g)=>if g=gen/\off+len*esz<=cs.length then(fO (rd0 h) cs).map fun ds=>.ivs len ((ds.drop off).take (len*esz))else none
  |_=>rd0 h (.sl id gen off len)
 |.clo f caps=>(fO (rd0 h) caps).map (.fn f)
 |a=>rd0 h a
theorem QX{f:A->Option D}:∀ {asx:List A} {ds:List D},fO f asx=some ds->ds.length=asx.length
 | [],ds,h=>by simp only[fO,Option.some.injEq]at h;subst h;rfl
 |a::asx,ds,h=>by
  simp only[fO]at h
  split at h
  ·rename_i x xs h1 h2
   simp only[Option.some.injEq]at h;subst h;simp[QX h2]
  ·cases h
def Iced(h h':H):Prop:=∀i:Nat,h'[i]? =h[i]?\/(∃cs e g,h[i]? =some (.arr cs e g)/\h'[i]? =some (.ice cs e g))\/(∃cs ds e g,h[i]? =some (.vec cs e g)/\h'[i]? =some (.ice ds e g)/\fO (rd0 h) cs=some ds)
theorem aFM(h:H):Iced h h:=fun _=>.inl rfl
theorem aJs{h0 h:H}(hi:Iced h0 h){id:Nat}{cs:List D}{e g:Nat}(h1:h0[id]? =some (.arr cs e g))(hl:id<h.length):Iced h0 (h.set id (.ice cs e g)):=by
 intro i
 by_cases e1:id=i
 ·subst e1;exact .inr (.inl ⟨cs,e,g,h1,by simp[hl]⟩)
 ·rw[Dk e1];exact hi i
theorem aKv{h0 h:H}(hi:Iced h0 h){id:Nat}{cs:List A}{ds:List D}{e g:Nat}(h1:h0[id]? =some (.vec cs e g))(hd:fO (rd0 h0) cs=some ds)(hl:id<h.length):Iced h0 (h.set id (.ice ds e g)):=by
 intro i
 by_cases e1:id=i
 ·subst e1;exact .inr (.inr ⟨cs,ds,e,g,h1,by simp[hl],hd⟩)
 ·rw[Dk e1];exact hi i
theorem rU{α:Type}{l:List α}{i:Nat}{a:α}(h:l[i]? =some a):i<l.length:=(Au.1 h).1
theorem aFq{h0:H}(n:Nat){h:H}(hi:Iced h0 h){a:A}{x:D}(hx:rd0 h0 a=some x):∃h',frz n h a=some (x,h')/\Iced h0 h'/\∀(i:Nat) (cs:List A) (e g:Nat),h[i]? =some (.vec cs e g)->h'[i]? =some (.vec cs e g):=by
 cases a with
 |d y=>
  simp only[rd0,Option.some.injEq]at hx;subst hx;exact⟨h,by cases n<;>rfl,hi,fun _ _ _ _ h=>h⟩
 |sl id gen off len=>
  simp only[rd0]at hx
  have key:∀(o:O),h[id]? =some o->(∀cs e g,o≠.vec cs e g)->frz n h (.sl id gen off len)=frz0 h (.sl id gen off len):=by
   intro o ho hv
   cases n with
   |zero=>rfl
   |succ n=>
    simp only[frz,ho]
    cases o<;>first|rfl|exact absurd rfl (hv _ _ _)
  cases h1:h0[id]? with
  |none=>rw[h1]at hx;cases hx
  |some o=>
   rw[h1]at hx
   cases o with
   |arr cs e g=>
    simp only[]at hx
    split at hx
    ·rename_i hc
     simp only[Option.some.injEq]at hx;subst hx
     rcases hi id with q|⟨cs',e',g',q1,q2⟩|⟨cs',ds,e',g',q1,q2,q3⟩
     ·rw[h1]at q;refine⟨_,by rw[key _ q (by intro _ _ _ h;cases h)];simp only[frz0,q];rw[if_pos hc],aJs hi h1 (rU q),fun i cs' e' g' hv=> ?_⟩;rw[Dk (by intro e;subst e;rw[q]at hv;cases hv)];exact hv
     ·rw[h1]at q1;cases q1;exact⟨h,by rw[key _ q2 (by intro _ _ _ h;cases h)];simp only[frz0,q2];rw[if_pos hc],hi,fun _ _ _ _ h=>h⟩
     ·rw[h1]at q1;cases q1
    ·cases hx
   |ice cs e g=>
    simp only[]at hx
    split at hx
    ·rename_i hc
     simp only[Option.some.injEq]at hx;subst hx
     rcases hi id with q|⟨cs',e',g',q1,q2⟩|⟨cs',ds,e',g',q1,q2,q3⟩
     ·rw[h1]at q;exact⟨h,by rw[key _ q (by intro _ _ _ h;cases h)];simp only[frz0,q];rw[if_pos hc],hi,fun _ _ _ _ h=>h⟩
     ·rw[h1]at q1;cases q1
     ·rw[h1]at q1;cases q1
    ·cases hx
   |_=>cases hx
 |_=>simp[rd0]at hx
theorem aBm{h0:H}(n:Nat):∀ {asx:List A} {ds:List D} {h:H},Iced h0 h->fO (rd0 h0) asx=some ds->∃h',eK (frz n) h asx=some (ds,h')/\Iced h0 h'/\∀(i:Nat) (cs:List A) (e g:Nat),h[i]? =some (.vec cs e g)->h'[i]? =some (.vec cs e g)
 | [],ds,h,hi,hr=>by simp only[fO,Option.some.injEq]at hr;subst hr;exact⟨h,rfl,hi,fun _ _ _ _ h=>h⟩
 |a::asx,ds,h,hi,hr=>by
  simp only[fO]at hr
  split at hr
  ·rename_i x xs h1 h2
   simp only[Option.some.injEq]at hr;subst hr;obtain⟨k1,e1,i1,v1⟩:=aFq n hi h1;obtain⟨k2,e2,i2,v2⟩:=aBm n i1 h2;exact⟨k2,by simp only[eK,e1,e2],i2,fun i cs e g hv=>v2 i cs e g (v1 i cs e g hv)⟩
  ·cases hr
theorem YS{h0:H}(n:Nat){h:H}(hi:Iced h0 h){a:A}{x:D}(hx:rd1 h0 a=some x):∃h',frz (n+1) h a=some (x,h')/\Iced h0 h':=by
 cases a with
 |sl id gen off len=>
  have leaf:rd0 h0 (.sl id gen off len)=some x->∃h',frz (n+1) h (.sl id gen off len)=some (x,h')/\Iced h0 h':=fun h1=>by
   obtain⟨k,e,i,_⟩:=aFq (n+1) hi h1;exact⟨k,e,i⟩
  simp only[rd1]at hx
  cases h1:h0[id]? with
  |none=>rw[h1]at hx;exact leaf hx
  |some o=>
   rw[h1]at hx
   cases o with
   |vec cs e g=>
    simp only[]at hx
    split at hx
    ·rename_i hc
     cases hr:fO (rd0 h0) cs with
     |none=>rw[hr]at hx;cases hx
     |some ds=>
      rw[hr]at hx;simp only[Az,Option.some.injEq]at hx;subst hx;have hl:=QX hr
      rcases hi id with q|⟨cs',e',g',q1,q2⟩|⟨cs',ds',e',g',q1,q2,q3⟩
      ·rw[h1]at q;obtain⟨k,e1,i1,v1⟩:=aBm n hi hr;have q':=v1 _ _ _ _ q;refine⟨k.set id (.ice ds e g),?_,aKv i1 h1 hr (rU q')⟩;simp only[frz,q];rw[if_pos hc,e1];simp only[q',and_self,if_true]
      ·rw[h1]at q1;cases q1
      ·rw[h1]at q1;cases q1;rw[hr]at q3;cases q3;refine⟨h,?_,hi⟩;simp only[frz,q2,frz0];rw[if_pos om]
    ·cases hx
   |_=>exact leaf hx
 |clo f caps=>
  simp only[rd1]at hx
  cases hr:fO (rd0 h0) caps with
  |none=>rw[hr]at hx;cases hx
  |some ds=>
   rw[hr]at hx;simp only[Az,Option.some.injEq]at hx;subst hx;obtain⟨k,e1,i1,_⟩:=aBm n hi hr;exact⟨k,by simp only[frz,e1],i1⟩
 |d y=>
  obtain⟨k,e,i,_⟩:=aFq (n+1) hi (a:=.d y) hx;exact⟨k,e,i⟩
 |ptr _ _ _=>simp[rd1,rd0]at hx
 |mp _=>simp[rd1,rd0]at hx
 |agg _=>simp[rd1,rd0]at hx
 |tup _=>simp[rd1,rd0]at hx
 |junk=>simp[rd1,rd0]at hx
def kids(h:H)(i:Nat):List Nat:=match h[i]? with
 |some (.box cs)=>idsL cs
 |some (.vec cs _ _)=>idsL cs
 |_=>[]
inductive Okay(h:H):Nat->Prop where
 |mk (i:Nat) (o:O) (hi:h[i]? =some o) (hv:o≠.void) (hk:∀j∈kids h i,Okay h j):Okay h i
def wgt:H->Nat
 | []=>0
 |.box cs::h=>(idsL cs).length+wgt h
 |.vec cs _ _::h=>(idsL cs).length+wgt h
 |_::h=>wgt h
def wgtN(h:H)(acc:List Nat):Nat:=((List.range h.length).filter fun i=> !acc.contains i).foldr (fun i n=>(kids h i).length+n) 0
theorem aS1:∀(h:H),wgt h=(List.range h.length).foldr (fun i n=>(kids h i).length+n) 0:=by
 intro h
 induction h with
 |nil=>rfl
 |cons o h ih=>
  rw[Ae,List.range_succ_eq_map,List.foldr_cons,List.foldr_map];have e:∀i,kids (o::h) (i+1)=kids h i:=fun i=>by simp only[kids,Aw]
  simp only[e,<-ih]
  cases o<;>simp[wgt,kids]
theorem KZ{f:Nat->Nat}{p:Nat->Bool}:∀(l:List Nat),(l.filter p).foldr (fun i n=>f i+n) 0<=l.foldr (fun i n=>f i+n) 0
 | []=>by simp
 |a::l=>by
  have:=KZ (f:=f) (p:=p) l;simp only[List.filter_cons]
  split
  ·simp only[List.foldr_cons];omega
  ·simp only[List.foldr_cons];omega
theorem aRT(h:H)(acc:List Nat):wgtN h acc<=wgt h:=by rw[aS1];exact KZ _
theorem aAa{f:Nat->Nat}{acc:List Nat}{i:Nat}(hn:i∉acc):∀(l:List Nat),l.Nodup->i∈l->(l.filter fun k=> !(acc++[i]).contains k).foldr (fun i n=>f i+n) 0+f i=(l.filter fun k=> !acc.contains k).foldr (fun i n=>f i+n) 0
 | [],_,h=>by simp at h
 |a::l,hd,hm=>by
  obtain⟨ha,hl⟩:=Dp.1 hd
  by_cases e:a=i
  ·subst e
   have h1:(l.filter fun k=> !(acc++[a]).contains k)=l.filter fun k=> !acc.contains k:=by
    apply List.filter_congr;intro x hx;have:x≠a:=fun h=>ha (h▸hx);simp[this]
   have h2:((a::l).filter fun k=> !(acc++[a]).contains k)=(l.filter fun k=> !acc.contains k):=by
    rw[List.filter_cons_of_neg sm,h1]
   have h3:((a::l).filter fun k=> !acc.contains k)=a::(l.filter fun k=> !acc.contains k):=by
    rw[List.filter_cons_of_pos (by simp[hn])]
   rw[h2,h3,List.foldr_cons];omega
  ·have hm':i∈l:=by simpa [Ne.symm e]using hm
   have ih:=aAa (f:=f) hn l hl hm'
   by_cases hc:a∈acc
   ·rw[List.filter_cons_of_neg (by simp[hc]),List.filter_cons_of_neg (by simp[hc])];exact ih
   ·rw[List.filter_cons_of_pos (by simp[hc,e]),List.filter_cons_of_pos (by simp[hc]),List.foldr_cons,List.foldr_cons];omega
theorem aJp{h:H}:∀(n:Nat) (todo acc:List Nat),(∀i∈todo,Okay h i)->(∀i∈acc,∀j∈kids h i,j∈acc\/j∈todo)->(∀i∈acc,Okay h i)->todo.length+wgtN h acc<=n->
  (∀i∈todo,i∈aE n h todo acc)/\(∀i∈acc,i∈aE n h todo acc)/\(∀i∈aE n h todo acc,∀j∈kids h i,j∈aE n h todo acc)/\(∀i∈aE n h todo acc,Okay h i):=by
 intro n
 induction n with
 |zero=>
  intro todo acc ht ha hk hn;have:todo=[]:=by cases todo<;>simp_all
  subst this;simp only[aE];exact⟨by simp,fun i hi=>hi,fun i hi j hj=>by simpa using ha i hi j hj,hk⟩
 |succ n ih=>
  intro todo acc ht ha hk hn
  cases todo with
  |nil=>
   simp only[aE];exact⟨by simp,fun i hi=>hi,fun i hi j hj=>by simpa using ha i hi j hj,hk⟩
  |cons i todo=>
   by_cases hc:acc.contains i=true
   ·have e:aE (n+1) h (i::todo) acc=aE n h todo acc:=by simp only[aE,hc,if_true]
    rw[e];have hm:i∈acc:=by simpa using hc
    obtain⟨r1,r2,r3,r4⟩:=ih todo acc (fun j hj=>ht j (by simp[hj])) (fun j hj k hk'=>by
     rcases ha j hj k hk' with h1|h1
     ·exact .inl h1
     ·rcases Av.1 h1 with h2|h2
      ·subst h2;exact .inl hm
      ·exact .inr h2) hk (by simp only[Ae]at hn;omega)
    refine⟨fun j hj=> ?_,r2,r3,r4⟩
    rcases Av.1 hj with h1|h1
    ·subst h1;exact r2 _ hm
    ·exact r1 j h1
   ·have hm:i∉acc:=by simpa using hc
    obtain⟨_,o,ho,hv,hkd⟩:=ht i sm;have hil:i<h.length:=rU ho
    have e:aE (n+1) h (i::todo) acc=aE n h (todo++kids h i) (acc++[i]):=by
     simp only[aE,hc,if_false,ho,kids,Ak]
     cases o<;>first|rfl|(simp;done)|exact absurd rfl hv
    rw[e];have hw:wgtN h (acc++[i])+(kids h i).length=wgtN h acc:=aAa (f:=fun i=>(kids h i).length) hm (List.range h.length) List.nodup_range (by simpa using hil)
    obtain⟨r1,r2,r3,r4⟩:=ih (todo++kids h i) (acc++[i]) (fun j hj=>by
     rcases Am.1 hj with h1|h1
     ·exact ht j (by simp[h1])
     ·exact hkd j h1) (fun j hj k hk'=>by
     rcases Am.1 hj with h1|h1
     ·rcases ha j h1 k hk' with h2|h2
      ·exact .inl (by simp[h2])
      ·rcases Av.1 h2 with h3|h3
       ·subst h3;exact .inl sm
       ·exact .inr (by simp[h3])
     ·simp only[Bp]at h1;subst h1;exact .inr (by simp[hk'])) (fun j hj=>by
     rcases Am.1 hj with h1|h1
     ·exact hk j h1
     ·simp only[Bp]at h1;subst h1;exact ht _ sm) (by simp only[Af,Ae]at hn|-;omega)
    refine⟨fun j hj=> ?_,fun j hj=>r2 j (by simp[hj]),r3,r4⟩
    rcases Av.1 hj with h1|h1
    ·subst h1;exact r2 _ sm
    ·exact r1 j (by simp[h1])
theorem VP{h:H}{ids:List Nat}(hk:∀i∈ids,Okay h i)(hw:ids.length+wgt h<=1099511627776):closed h (aE aI h ids []) ids=true/\(∀i∈ids,i∈aE aI h ids [])/\∀i∈aE aI h ids [],∀j∈kids h i,j∈aE aI h ids []:=by
 have hle:=aRT h [];obtain⟨r1,_,r3,_⟩:=aJp aI ids [] hk sm sm (by unfold aI;omega);refine⟨?_,r1,r3⟩;simp only[closed,As,Bg,List.contains_eq_mem,decide_eq_true_eq];refine⟨r1,fun i hi=> ?_⟩;have:=r3 i hi;unfold kids at this
 cases ho:h[i]? with
 |none=>rfl
 |some o=>
  rw[ho]at this
  cases o<;>first|rfl|(simp only[Bg,List.contains_eq_mem,decide_eq_true_eq];exact this)
section
variable{h:H}{ord:List Nat}
end
section
variable{R:Type}{E:Env}{call:aX}{h:H}{f:FuncId}{args:List A}{k:KA R}
mutual
theorem aF3{f g q:Nat->Option Nat}(hq:∀i,(g i).bind f=q i):∀a:A,mapA f (mapA g a)=mapA q a
 |.d x=>by simp only[mapA]
 |.sl id gen off len=>by
  simp only[mapA];have:=hq id
  cases hg:g id with
  |none=>rw[hg]at this;rw[<-this];simp only[mapA,Option.bind_none]
  |some j=>rw[hg]at this;simp only[mapA,<-this,Dc]
 |.ptr id gen off=>by
  simp only[mapA];have:=hq id
  cases hg:g id with
  |none=>rw[hg]at this;rw[<-this];simp only[mapA,Option.bind_none]
  |some j=>rw[hg]at this;simp only[mapA,<-this,Dc]
 |.mp id=>by
  simp only[mapA];have:=hq id
  cases hg:g id with
  |none=>rw[hg]at this;rw[<-this];simp only[mapA,Option.bind_none]
  |some j=>rw[hg]at this;simp only[mapA,<-this,Dc]
 |.clo c caps=>by simp only[mapA,kK hq caps]
 |.agg cs=>by simp only[mapA,kK hq cs]
 |.tup cs=>by simp only[mapA,kK hq cs]
 |.junk=>by simp only[mapA]
theorem kK{f g q:Nat->Option Nat}(hq:∀i,(g i).bind f=q i):∀asx:List A,aF f (aF g asx)=aF q asx
 | []=>by simp only[aF]
 |a::asx=>by simp only[aF,aF3 hq a,kK hq asx]
end
theorem aOL{f g q:Nat->Option Nat}(hq:∀i,(g i).bind f=q i)(o:O):mapO f (mapO g o)=mapO q o:=by
 cases o<;>simp only[mapO,kK hq]
end
end
end Ev
end Go.Proofs.YtppffbehejpglaaGreat
