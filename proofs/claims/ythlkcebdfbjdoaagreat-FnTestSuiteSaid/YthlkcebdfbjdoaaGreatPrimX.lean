/-
  slices.SortFunc of strings, as the evaluator answers it.
-/
import Derived.Test.YthlkcebdfbjdoaaGreatSortLayX
set_option linter.unusedSimpArgs false
set_option linter.unusedVariables false
set_option maxRecDepth 1000000
set_option maxHeartbeats 4000000
namespace Go.Proofs.YthlkcebdfbjdoaaGreat
namespace Ev
variable{G:Gnd}
open Go.RowKit Go.Lib Go.Sort
theorem aTt:EnvOK X1.env1:=⟨fun t n h=>by
  have:X1.env1.eqs=[]:=rfl;rw[this]at h;simp at h,by kernel_rfl⟩
theorem aUw{w w':World}(g:Grew true w w'):∃q os,w'=grow (w.drewN q) os:=by
 refine⟨w'.drawn-w.drawn,w'.heap.extract w.heap.size w'.heap.size,?_⟩
 have h1:w'.heap=w.heap++w'.heap.extract w.heap.size w'.heap.size:=by
  apply Array.ext_getElem?;intro j;rw[Array.getElem?_append]
  by_cases h:j<w.heap.size
  ·rw[if_pos h];exact g.same j h
  ·rw[if_neg h,Array.getElem?_extract];have:=g.size
   by_cases h2:j<w'.heap.size
   ·rw[if_pos (by omega)];congr 1;omega
   ·rw[if_neg (by omega),Array.getElem?_eq_none (by omega)]
 have h2:w.drawn+(w'.drawn-w.drawn)=w'.drawn:=by have:=g.drawn rfl;omega
 have h3:=g.os;have h4:=g.tape;have h5:=g.output;generalize w'.heap.extract w.heap.size w'.heap.size=os at h1|-;generalize w'.drawn-w.drawn=q at h2|-
 cases w' with
 |mk heap tape drawn os' output=>
  simp only at h1 h2 h3 h4 h5;subst h1;subst h2;subst h3;subst h4;subst h5;rfl
def encX(x:List UInt8):Value:=.string ⟨x.toArray⟩
theorem aRt(x y:List UInt8)(w:World):Calls Tryz.prog 34 #[encX x,encX y] w fun e w'=>e=.returned (.int .i64 (cmpX x y))/\∃q os,w'=grow (w.drewN q) os:=by
 have he:=X1.ev1_i_shortlex (L:=2^60) (n:=4) (Ab _) x y (Ab _);obtain⟨_,hc⟩:=aLJ (G:=⟨[],true⟩) (E:=X1.env1) (L:=2^60) aTt (fun f g h=>by cases h) 4 _ _ _ _ _ he
 have ha:ARv [] (fun _=>none) w (fun b=>b<w.heap.size) [.d (.str x),.d (.str y)] [encX x,encX y]:=by
  simp only[ARv,AR,DR,encX];exact⟨_,_,rfl,rfl,_,_,rfl,rfl,rfl⟩
 refine(hc (fun _=>none) w (fun b=>b<w.heap.size) _ (wU (fun _ h=>h) (ground_nil _ _)) ha).mono fun e w' hh=> ?_;obtain⟨v,ρ',I',rfl,s,hv⟩:=hh;have hv:v=.int .i64 (cmpX x y):=by simpa only[AR,DR]using hv
 subst hv;exact⟨rfl,aUw (OV s)⟩
theorem swoX:SWO (ltOf cmpX) where
 irrefl x:=by unfold ltOf;simpa using FY x
 trans x y z h1 h2:=by unfold ltOf at *;simp only[decide_eq_true_eq]at *;exact sJ h1 h2
 ntrans x y z h1 h2:=by
  unfold ltOf at *;simp only[decide_eq_false_iff_not]at *;intro h3
  rcases NR x y with rfl|g|g
  ·exact h2 h3
  ·exact h1 g
  ·exact h2 (sJ g h3)
theorem totX(x y:List UInt8)(h1:ltOf cmpX x y=false)(h2:ltOf cmpX y x=false):x=y:=by
 unfold ltOf at *;simp only[decide_eq_false_iff_not]at *
 rcases NR x y with h|h|h
 ·exact h
 ·exact(h1 h).elim
 ·exact(h2 h).elim
theorem aKe:∀(ds:List D) (l:List (List UInt8)),DE ds=some l->ds=l.map .str
 | [],l,h=>by simp only[DE,Option.some.injEq]at h;subst h;rfl
 |d::ds,l,h=>by
  cases d<;>simp only[DE,reduceCtorEq]at h
  obtain⟨l',h1,rfl⟩:=Aw.1 h;rw[aKe ds l' h1];rfl
theorem aIu{l:List (List UInt8)}{j:Nat}(h:j<l.length):∃s,(l.map D.str)[j]? =some (.str s)/\l.toArray[j]! =s:=by
 refine⟨l[j],?_,?_⟩
 ·rw[Bd,Ae h];rfl
 ·simp[h]
theorem aE0(b len cap:Nat)(l:List (List UInt8))(hl:l.length=len)(w:World)(hH:Holds encX w b 0 l.toArray)(hb:b<w.heap.size)(hm:len<=4294967296):
  Calls Tryz.prog 45 #[.slice (some ⟨b,0,none⟩) len cap,.func (.func 34) #[] #[]] w fun e w'=>e=.returned (.tuple #[])/\∃n os,w'=sortWorld encX w b 0 n (l.mergeSort leX).toArray os:=by
 have eg:∀args w,(callFunc 34 args).run Tryz.prog w=.ok (.enter 34 args) w:=enters_of Tryz.func34 kr rfl;have hS:=Any.slices_SortFunc_total aIr encX (fun _=>rfl) cmpX swoX 34 #[] b 0 cap l.toArray w eg (fun _ _ _ _ x y=>aRt x y _) hH hb (by simp;omega) totX;have e1:l.toArray.size=len:=by simpa using hl
 rw[e1]at hS;exact hS
theorem aLf(p:Option Addr)(cap:Nat)(fv:Value)(w:World):Calls Tryz.prog 45 #[.slice p 0 cap,fv] w fun e w'=>e=.returned (.tuple #[])/\w'=w:=
 AnyF.slices_SortFunc_none { aIr with} p cap fv w
theorem aJK:xU G Tryz.prog 45 (GM 34):=by
 intro k args h x h' he;simp only at he
 split at he
 ·rename_i hk
  subst hk;refine⟨⟨_,Tryz.func45,by kernel_rfl,by kernel_rfl⟩,fun ρ w I vs r ha=> ?_⟩;unfold GM at he
  split at he
  ·rename_i id gen off len f
   split at he
   ·rename_i cs e g hid
    split at he
    ·rename_i hc
     obtain⟨rfl,rfl,rfl,he3,hcl,hmx⟩:=hc
     split at he
     ·rename_i l htr
      cases he;obtain⟨v1,rest1,rfl,hx,hr1⟩:=f0 ha
      obtain⟨v2,rest2,rfl,hv2,hr2⟩:=f0 hr1;simp only[ARv]at hr2;subst hr2;simp only[AR,ARv]at hv2 hx;obtain⟨caps,rfl,hcaps⟩:=hv2;obtain rfl:caps= #[]:=by simpa using hcaps
      obtain⟨a,cap,rfl,hs⟩:=hx;have hcs:=aKe _ _ htr
      have hll:l.length=len:=by
       have:=congrArg List.length hcs;rw[Ay,Bt]at this;omega
      by_cases h0:len=0
      ·subst h0;have hl0:l=[]:=By.1 hll;subst hl0;refine(aLf a cap _ w).mono ?_;rintro e' w' ⟨rfl,rfl⟩
       have hsame:h.set id (.arr ((List.mergeSort [] leX).map .str++cs.drop 0) e g)=h:=by
        have:(List.mergeSort [] leX).map D.str++cs.drop 0=cs:=by simp
        rw[this];apply Cm;intro j;rw[Ch];obtain⟨hl,hee⟩:=As.1 hid
        by_cases e1:id=j
        ·subst e1;simp[hl,hee]
        ·simp[e1]
       rw[hsame];exact⟨_,ρ,I,rfl,.refl r,by simp[AR,ARv]⟩
      ·obtain rfl:e=1:=by omega
       simp only[slOK,hid]at hs;obtain⟨_,hs⟩:=hs;obtain⟨hlc,hs⟩:=hs trivial
       obtain⟨b,hρ⟩:∃b,ρ id=some b:=by
        cases hb:ρ id with
        |none=>rw[hb]at hs;simp only at hs;omega
        |some b=>exact⟨b,rfl⟩
       rw[hρ]at hs;simp only at hs;obtain⟨rfl,_,C,E,fz,hbk,hC⟩:=hs.resolve_left (by omega:¬cap=0);have hO:=r.obj id _ hid;simp only[OR,hρ]at hO;obtain⟨_,hIb,C2,E2,fz2,hbk2,hun,hdr⟩:=hO;rw[hbk]at hbk2;cases hbk2;simp only[Ag]at hC;rw[fL]at hdr;have hcell:=d7 hbk;have hlt:b<w.heap.size:=(Bg.1 hbk).1
       have hH:Holds encX w b 0 l.toArray:=by
        intro j hj;simp only[List.size_toArray]at hj;obtain⟨z,h1,h2⟩:=aIu hj
        have hk:cs[j]? =some (.str z):=by
         rw[<-hcs,Cz,if_pos (by omega)]at h1;exact h1
        obtain⟨v,hv,hd,_⟩:=hdr j _ hk;simp only[DR]at hd;subst hd;rw[Ag]at hv|-;refine⟨by rw[cell?_eq,hv,h2];rfl,?_⟩;have h3:=hun.1 j (by omega);simp only[World.frozen?,hbk]
        by_cases h4:fz.1<=j<;>by_cases h5:j<fz.2<;>simp[h4,h5]
        exact h3 ⟨h4,h5⟩
       refine(aE0 b len cap l hll w hH hlt hmx).mono ?_;rintro e' w' ⟨rfl,n,os,rfl⟩;have hsl:(l.mergeSort leX).length=len:=by rw[List.length_mergeSort];exact hll
       obtain⟨C',hC'⟩:∃C',C'=putCells encX 0 (l.mergeSort leX).toArray C:=⟨_,rfl⟩
       have hC's:C'.size=C.size:=by rw[hC'];simp[putCells]
       have hC'g:∀k,k<C.size->C'[k]? =if k<len then some (encX ((l.mergeSort leX).toArray[k]!))else C[k]?:=by
        intro k hk;rw[hC'];simp only[putCells,Array.getElem?_mapIdx,List.size_toArray,hsl,Nat.zero_le,true_and,Ag,Nat.sub_zero];rw[Array.getElem?_eq_getElem hk]
        by_cases hk2:k<len<;>simp[hk2]
       obtain⟨W,hW⟩:∃W,W=sortWorld encX w b 0 n (l.mergeSort leX).toArray os:=⟨_,rfl⟩
       rw[<-hW];have hWh:W.heap=(w.heap.modify b (onCells (putCells encX 0 (l.mergeSort leX).toArray)))++os:=by rw[hW];rfl
       have hWb:W.heap[b]? =some (.cells C' E fz):=by
        rw[hWh,Eg (by simpa using hlt),Ea,if_pos rfl,hbk,hC'];rfl
       have hWo:∀k,k<w.heap.size->k≠b->W.heap[k]? =w.heap[k]?:=by
        intro k hk hne;rw[hWh,Eg (by simpa using hk),Ea,if_neg (Ne.symm hne)]
       have hcsC:cs.length<=C.size:=by
        rcases Cq C.size cs.length with hlt|hge
        ·obtain⟨v,hv,_⟩:=hdr C.size _ (Ae hlt);rw[Ag,hcell]at hv;simp at hv
        ·exact hge
       have hml:((l.mergeSort leX).map D.str).length=len:=by rw[Ay,hsl]
       have hlen':((l.mergeSort leX).map D.str++cs.drop len).length=cs.length:=by
        rw[Af,hml,Cg];omega
       have at_id:(h.set id (.arr ((l.mergeSort leX).map .str++cs.drop len) 1 g))[id]? =some (.arr ((l.mergeSort leX).map .str++cs.drop len) 1 g):=by
        have:=(As.1 hid).1;simp[this]
       have hpk:∀(k:Nat) (d:D),((l.mergeSort leX).map D.str++cs.drop len)[k]? =some d->∃v,C'[k]? =some v/\v.oneCell'=true/\DR w I d v:=by
        intro k d hk;have hkl:=(As.1 hk).1;rw[hlen']at hkl;rw[hC'g k (by omega)]
        by_cases hk3:k<len
        ·obtain⟨z,h1,h2⟩:=aIu (l:=l.mergeSort leX) (j:=k) (by omega);rw[Ba (by omega),h1]at hk;cases hk;rw[if_pos hk3,h2];exact⟨_,rfl,rfl,by simp only[DR,encX]⟩
        ·rw[if_neg hk3];rw[Bh (by omega),hml,List.getElem?_drop]at hk;have e5:len+(k-len)=k:=by omega
         rw[e5]at hk;obtain⟨v,hv,hd,h1⟩:=hdr k d hk;rw[Ag,hcell]at hv;exact⟨v,hv,h1,hd⟩
       have st:=eM (w':=W) (I':=I) (o':=.arr ((l.mergeSort leX).map .str++cs.drop len) 1 g) r hid trivial (some b) (by rw[hW];rfl) (by rw[hW];rfl) (by rw[hW];rfl)
        (by rw[hWh];simp) (fun k hk hne=>hWo k hk fun e=>hne (by rw[hρ,e])) (fun _ hb=>hb) (fun _ hb=>.inl hb) (fun b' hb'=>.inl (by rw[hρ];exact hb')) (fun _ gen' off' len' a' cap' hs2=> ?_) (fun _ gen' b' hs2=> ?_) (fun hE=> ?_) (by rw[hW];show w.drawn<=w.drawn+n;omega)
       ·exact⟨_,_,I,rfl,st,by simp[AR,ARv]⟩
       ·simp only[slOK,hid]at hs2;simp only[slOK,at_id,a7];refine⟨hs2.1,fun hg=> ?_⟩;obtain⟨q1,q2⟩:=hs2.2 hg;rw[hρ]at q2;simp only at q2;refine⟨q1,?_⟩
        rcases q2 with q2|⟨q3,q4,C3,E3,fz3,q5,q6⟩
        ·exact .inl q2
        ·rw[hbk]at q5;cases q5;exact .inr ⟨q3,by rw[hlen'];exact q4,C',E,fz,hWb,by rw[hC's];exact q6⟩
       ·simp only[ptOK,hid]at hs2;simp only[ptOK,at_id,a7];exact⟨hs2.1,fun hg=>by rw[<-hρ];exact hs2.2 hg⟩
       ·simp only[OR,a7];refine⟨by omega,hIb,C',E,fz,hWb,hun.keep (by omega),?_⟩;rw[fL];intro k d hk;obtain⟨v,hv,h1,hd⟩:=hpk k d hk;refine⟨v,?_,nK hE.imm d v hd,h1⟩;rw[Ag,d7 hWb,hv]
     ·cases he
    ·cases he
   ·cases he
  ·cases he
 ·cases he
end Ev
end Go.Proofs.YthlkcebdfbjdoaaGreat
