/-
  slices.SortedFunc of the keys of a map of strings, as the evaluator answers it.
-/
import Derived.Test.YthlkcebdfbjdoaaGreatPrimX
import Derived.Test.YthlkcebdfbjdoaaGreatIterLay
import Derived.Sort.OwnSorted
set_option linter.unusedSimpArgs false
set_option linter.unusedVariables false
set_option maxRecDepth 1000000
set_option maxHeartbeats 4000000
namespace Go.Proofs.YthlkcebdfbjdoaaGreat
namespace Ev
variable{G:Gnd}
open Go.RowKit Go.Lib Go.Sort Go.Maps Go.Shelf
open Go.WideElems (Fit rd rg pl)
theorem YQ{T:Type}(x:Lit×DataW T):∀l:List (Lit×DataW T),(DataW.insert x l).Perm (x::l)
 | []=>by simp[DataW.insert]
 |y::l=>by
  unfold DataW.insert
  split
  ·exact .refl _
  ·exact((YQ x l).cons y).trans (.swap x y l)
theorem GY{T:Type}:∀l:List (Lit×DataW T),(l.foldr DataW.insert []).Perm l
 | []=>.refl _
 |x::l=>(YQ x _).trans ((GY l).cons x)
theorem UM{l m:List (List UInt8)}(h:l.Perm m):l.mergeSort leX=m.mergeSort leX:=
 ((List.mergeSort_perm l leX).trans (h.trans (List.mergeSort_perm m leX).symm)).eq_of_pairwise (fun x y _ _ h1 h2=>ZX h1 h2) (List.pairwise_mergeSort LI LE _) (List.pairwise_mergeSort LI LE _)
theorem aRv{Bm b:Nat}{M:Array MapEntry}{c:Nat}{l:List (List UInt8)}{w:World}(hBm:Bm<w.heap.size)(hm:w.cell? ⟨Bm,0,none⟩=some (.map (some b)))(hb:w.heap[b]? =some (.map M c))(hS:MapKept.Stamped M c)(hk:M.toList.map (fun x=>x.key)=l.map encX)(hlen:∀s∈l,s.length<=4294967296)(h0:0<l.length)(h1:l.length<=4294967296):
  Calls Tryz.prog 32 #[.func (.func 66) #[] #[.pointer (some ⟨Bm,0,none⟩)],.func (.func 34) #[] #[]] w fun e w'=>∃(gb cap:Nat) (cur:Array Value) (E:TypeId),e=.returned (.slice (some ⟨gb,0,none⟩) l.length cap)/\w.heap.size<=gb/\w'.heap[gb]? =some (.cells cur E (0,0))/\l.length<=cap/\cur.size=cap/\(∀(j:Nat) (s:List UInt8),(l.mergeSort leX)[j]? =some s->cur[j]? =some (encX s))/\Below w.heap.size w w':=by
 obtain⟨R,hR⟩:∃R:Value->Option (DataW Unit×List MemPlace),R=fun _=>some (.nil,[]):=⟨_,rfl⟩
 have hst:Tryz.prog.underlying 9=some .string:=kr
 have hkey:∀x∈M.toList,∃s∈l,x.key=encX s:=by
  intro x hx;have:x.key∈M.toList.map (fun x=>x.key):=Bq.2 ⟨x,hx,rfl⟩;rw[hk]at this;obtain⟨s,hs,e⟩:=Bq.1 this;exact⟨s,hs,e.symm⟩
 have hsz:M.size=l.length:=by
  have:=congrArg List.length hk
  simpa using this
 have hrd:∀x∈M.toList,∀s,x.key=encX s->s∈l->rd Tryz.prog 9 R x=some (.string s,.nil):=by
  intro x hx s e hs;have hl:=hlen s hs
  have hko:keyOf Tryz.prog 9 x.key=some (.string s):=by
   rw[e]
   have:=Go.WideMaps.keyOf_string_mk hst (s:=⟨s.toArray⟩) (by
    have:maxLen=9223372036854775807\/4294967296<=maxLen:=by first|exact .inr (by decide)|exact .inl rfl
    show s.toArray.size<=maxLen;have h2:s.toArray.size=s.length:=by simp
    have h3:4294967296<=maxLen:=by decide
    omega)
   exact this
  obtain⟨key,val,born⟩:=x;exact Go.WideElems.rd_mk (R:=R) hko (yv:=(.nil,[])) (by rw[hR])
 have hFit:Fit Tryz.prog 9 R M c:=by
  refine⟨?_,hS,fun x hx=> ?_⟩
  ·have h3:4294967296<=maxLen:=by decide
   omega
  ·obtain⟨s,hs,e⟩:=hkey x hx;exact⟨_,hrd x hx s e hs⟩
 obtain⟨D0,hD⟩:∃D0:DataW Unit,D0=.map ((M.toList.map (rg Tryz.prog 9 R)).foldr DataW.insert []):=⟨_,rfl⟩
 have hown:w.ownsMap Tryz.prog 9 R b M.size D0:=⟨M,c,hb,hFit,Ab _,hD⟩
 have hperm:(strKeys D0).Perm l:=by
  rw[hD];show((M.toList.map (rg Tryz.prog 9 R)).foldr DataW.insert []).map (fun p=>strOf p.1)|>.Perm l;refine((GY _).map _).trans ?_
  have e:((M.toList.map (rg Tryz.prog 9 R)).map fun p=>strOf p.1).map encX=l.map encX:=by
   rw[<-hk,List.map_map,List.map_map];apply List.map_congr_left;intro x hx;obtain⟨s,hs,e⟩:=hkey x hx;show encX (strOf (rg Tryz.prog 9 R x).1)=x.key;rw[Go.WideElems.rg_of (hrd x hx s e hs),e];rfl
  have inj:∀a b:List UInt8,encX a=encX b->a=b:=fun a b h=>by simpa [encX]using h
  have:=(List.map_inj_right inj).1 e;rw[this]
 have hN:Maps.size D0=l.length:=by
  rw[hD];have:=(GY (M.toList.map (rg Tryz.prog 9 R))).length_eq;rw[Ay]at this;show(List.foldr DataW.insert [] (M.toList.map (rg Tryz.prog 9 R))).length=_;rw[this]
  simpa using hsz
 have hseq:SeqGives Fence.wide 1 Tryz.prog 66 #[.pointer (some ⟨Bm,0,none⟩)] encStr (fun ss=>ss.Perm (strKeys D0)) (Maps.size D0) w:=
  AnyZ.keys_gives (ρ:=YL) { aUo with} Fence.wide _ trivial rfl (by omega) Bm b M.size D0 w hBm hm hown
 have hmax:Maps.size D0<=maxLen:=by
  have h3:4294967296<=maxLen:=by decide
  omega
 have egk:∀args w,(callFunc 66 args).run Tryz.prog w=.ok (.enter 66 args) w:=enters_of Tryz.func66 kr rfl;have cColl:=AnyZ.collect_in aTL Fence.wide 3 trivial trivial rfl (by omega) 66 #[.pointer (some ⟨Bm,0,none⟩)] trivial egk (fun ss=>ss.Perm (strKeys D0)) (Maps.size D0) hmax (by omega) w hseq;refine(callsIn_wide (n:=4)).1 ?_;refine callsIn_of_wp Tryz.func32 rfl trivial ?_ rfl;simp only[Tryz.ntmps32,List.size_toArray,Ad,Ac,Nat.reduceAdd,Nat.reduceSub,Array.replicate_succ,Array.replicate_zero,List.push_toArray,List.append_toArray,Am,Av];have hfC:Fence.wide.fn 65:=trivial;have hfS:Fence.wide.fn 45:=trivial
 gi_wp2_with (gi_at_call 65;refine cColl.mono ?_;rintro e W ⟨v,ss,rfl,hSp,hrow,hnil,hbl⟩)
 have hsl:=(hSp.trans hperm).length_eq
 rcases hrow.2 with⟨rfl,hz⟩|⟨gb,cap,cur,rfl,hbase,hgb,r1,r2,r3,r4⟩
 ·omega
 ·obtain⟨E0,hg0⟩:∃E0,W.heap[gb]? =some (.cells cur E0 (0,0)):=⟨_,hgb⟩
  have hH:Holds encX W gb 0 ss.toArray:=holds_of_block hgb (by simpa using r4);have hgl:gb<W.heap.size:=(Bg.1 hgb).1;have cS:=callsIn_wide (n:=3)|>.2 (aE0 gb ss.length cap ss rfl W hH hgl (by omega))
  gi_wp2_with (gi_at_call 45;refine cS.mono ?_;rintro e w' ⟨rfl,nn,os,rfl⟩)
  go_ret
  rw[UM (hSp.trans hperm)];refine⟨gb,cap,putCells encX 0 (l.mergeSort leX).toArray cur,E0,rfl,hbase,?_,by omega,?_,?_,?_⟩
  ·have h1:(sortWorld encX W gb 0 nn (ss.mergeSort leX).toArray os).heap=(W.heap.modify gb (onCells (putCells encX 0 (ss.mergeSort leX).toArray)))++os:=rfl;rw[<-UM (hSp.trans hperm),h1,Eg (by simpa using hgl),Ea,if_pos rfl,hg0];rfl
  ·simp only[putCells,Array.size_mapIdx];omega
  ·intro j s hj;have hjl:j<(l.mergeSort leX).length:=(As.1 hj).1;have hjl2:j<l.length:=by rw[List.length_mergeSort]at hjl;exact hjl
   simp only[putCells,Array.getElem?_mapIdx,List.size_toArray,Nat.zero_le,true_and,Ag,Nat.sub_zero];rw[Array.getElem?_eq_getElem (show j<cur.size by omega)]
   simp[]
   rw[if_pos (by simpa using hjl2)];rw[hj];rfl
  ·refine hbl.trans ⟨rfl,rfl,rfl,?_,fun k hk=> ?_⟩
   ·show _<=((W.heap.modify gb _)++os).size;simp
   ·have h1:(sortWorld encX W gb 0 nn (ss.mergeSort leX).toArray os).heap=(W.heap.modify gb (onCells (putCells encX 0 (ss.mergeSort leX).toArray)))++os:=rfl;rw[<-UM (hSp.trans hperm),h1,Eg (by have:=hbl.size;simp;omega),Ea,if_neg (by omega)]
theorem RW:∀(es:List (D×D)) (l:List (List UInt8)),CI es=some l->es.map (fun e=>dY e.1)=l.map encX
 | [],l,h=>by simp only[CI,Option.some.injEq]at h;subst h;rfl
 |(d,v)::es,l,h=>by
  cases d<;>simp only[CI,reduceCtorEq]at h
  obtain⟨l',h1,rfl⟩:=Aw.1 h;have:=RW es l' h1;simp only[Ai,this];rfl
theorem aQ8:∀(es:List (D×D)) (l:List (List UInt8)),CI es=some l->es.length=l.length:=fun es l h=>by
 have:=congrArg List.length (RW es l h)
 simpa using this
theorem aJ0(hG:G.keeps=false):xU G Tryz.prog 32 (A3 66 34):=by
 intro k args h x h' he;simp only at he
 split at he
 ·rename_i hk
  subst hk;refine⟨⟨_,Tryz.func32,by kernel_rfl,by kernel_rfl⟩,fun ρ w I vs r ha=> ?_⟩;unfold A3 at he
  split at he
  ·rename_i f id gen off c
   split at he
   ·rename_i mid hid
    split at he
    ·rename_i es hmid
     split at he
     ·rename_i hc
      obtain⟨rfl,rfl,rfl,rfl,he0,hmx⟩:=hc
      split at he
      ·rename_i l hks
       split at he
       ·rename_i hall
        cases he;obtain⟨v1,rest1,rfl,hx,hr1⟩:=f0 ha
        obtain⟨v2,rest2,rfl,hv2,hr2⟩:=f0 hr1;simp only[ARv]at hr2;subst hr2;simp only[AR,ARv]at hv2 hx;obtain⟨caps,rfl,hcaps⟩:=hv2;obtain rfl:caps= #[]:=by simpa using hcaps
        obtain⟨cv,rfl,pv,rest,hcv,⟨Bm,rfl,hpt⟩,rfl⟩:=hx
        obtain rfl:cv= #[.pointer (some ⟨Bm,0,none⟩)]:=by
         apply Array.toList_inj.1;simpa using hcv
        simp only[ptOK,hid]at hpt;have hO:=r.obj id _ hid;simp only[OR]at hO;obtain⟨Bm',hρ,_,C,E,fz,hbk,_,hcs⟩:=hO;rw[hpt.2]at hρ;cases hρ;obtain⟨v,hv,hm,_⟩:=hcs 0 (.mp mid) rfl;simp only[AR]at hm;obtain⟨b,rfl,hmp⟩:=hm;simp only[mpOK,hmid]at hmp;have hO2:=r.obj mid _ hmid;simp only[OR]at hO2;obtain⟨b',hρ2,_,M,c,hbm,hE,hS⟩:=hO2;rw[hmp]at hρ2;cases hρ2;have hBm:Bm<w.heap.size:=(Bg.1 hbk).1;have hcell:w.cell? ⟨Bm,0,none⟩=some (.map (some b)):=by rw[cell?_eq,hv]
        have hkl:=aQ8 es l hks
        have hkm:M.toList.map (fun x=>x.key)=l.map encX:=by
         have h1:=congrArg (List.map Prod.fst) hE.1;rw[List.map_map,List.map_map]at h1;exact h1.trans (RW es l hks)
        have hmx2:l.length<=4294967296:=by rw[<-hkl];exact hmx
        refine(aRv hBm hcell hbm hS hkm (fun s hs=>of_decide_eq_true (Bf.1 hall s hs)) (by omega) hmx2).mono ?_;rintro e' w' ⟨gb,cap,cur,E2,rfl,hge,hgb,hcap,hcs2,hcells,hbl⟩;have g:Grew G.keeps w w':=⟨hbl.os,hbl.tape,hbl.output,hbl.size,hbl.block,fun e=>by rw[hG]at e;cases e⟩
        have hlm:(l.mergeSort leX).length=l.length:=List.length_mergeSort _
        have s1:=eT r g (.arr ((l.mergeSort leX).map .str) 1 0) (some gb) (fun b hb=>by cases hb;exact hge) (fun hE=>by
         simp only[OR,a7];refine⟨by omega,?_,cur,E2,(0,0),hgb,kO _ _,?_⟩
         ·intro hI;have:=r.imm gb hI;omega
         ·rw[fL];intro k d hk;rw[Bd]at hk;obtain⟨s,hs,rfl⟩:=Aw.1 hk;refine⟨encX s,?_,?_,rfl⟩
          ·rw[Ag,d7 hgb];exact hcells k s hs
          ·simp only[DR,encX])
        refine⟨_,_,I,rfl,s1,?_⟩;simp only[AR];refine⟨some ⟨gb,0,none⟩,cap,by rw[hkl],?_⟩;have e1:(h++[O.arr ((l.mergeSort leX).map D.str) 1 0])[h.length]? =some (.arr ((l.mergeSort leX).map .str) 1 0):=by simp
        simp only[slOK,e1,a7];refine⟨Ab _,fun _=>⟨by omega,.inr ⟨trivial,by simp[hlm];omega,cur,E2,(0,0),hgb,by omega⟩⟩⟩
       ·cases he
      ·cases he
     ·cases he
    ·cases he
   ·cases he
  ·cases he
 ·cases he
end Ev
end Go.Proofs.YthlkcebdfbjdoaaGreat
