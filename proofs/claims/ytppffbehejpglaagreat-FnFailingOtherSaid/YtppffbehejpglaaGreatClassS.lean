/-
  Lists numbered by first appearance: plain laws.
-/
import Derived.Tactics
import Derived.Test.YtppffbehejpglaaGreatMemS
import Derived.Test.YtppffbehejpglaaGreatTrimL
import Derived.Test.YtppffbehejpglaaGreatNetX
import Derived.Test.YtppffbehejpglaaGreatPathZ
set_option linter.unusedSimpArgs false
set_option linter.unusedVariables false
set_option linter.unusedSectionVars false
set_option maxRecDepth 8000
set_option maxHeartbeats 4000000
namespace Go.Proofs.YtppffbehejpglaaGreat
namespace Ev
section
theorem MT{α:Type}[DecidableEq α]:∀ {l m:List α},l.Nodup->(∀x∈l,x∈m)->l.length<=m.length
 | [],m,_,_=>by simp
 |a::l,m,h,hs=>by
  obtain⟨h1,h2⟩:=Dp.1 h;have ha:a∈m:=hs a Bi
  have:=MT (l:=l) (m:=m.erase a) h2 fun x hx=>by
   have hne:x≠a:=by rintro rfl;exact h1 hx
   exact(List.mem_erase_of_ne hne).2 (hs x (Be _ hx))
  rw[List.length_erase_of_mem ha]at this;have hp:0<m.length:=Em ha;simp only[Ae];omega
section
variable{α β:Type}[DecidableEq α][DecidableEq β]
abbrev idxG(o:List α)(x:α):Nat:=o.idxOf x
def addG(o:List α)(x:α):List α:=if x∈o then o else o++[x]
def aU(l:List α):List α:=l.foldl addG []
def numL(l:List α):List Int:=l.map fun x=>((aU l).idxOf x:Nat)
theorem p8(l:List α)(x:α):aU (l++[x])=addG (aU l) x:=by
 unfold aU;rw[List.foldl_append];rfl
theorem aQX{o:List α}{x y:α}:y∈addG o x↔y∈o\/y=x:=by
 unfold addG
 split
 ·constructor
  ·exact .inl
  ·rintro(h|rfl)
   ·exact h
   ·assumption
 ·simp
omit [DecidableEq α] in
theorem aIa(l:List α):l=[]\/∃u x,l=u++[x]:=by
 rcases List.eq_nil_or_concat l with h|⟨u,x,h⟩
 ·exact .inl h
 ·exact .inr ⟨u,x,by rw[h];simp⟩
theorem aNs:∀(c:Nat) (l:List α),l.length=c->∀x,x∈aU l↔x∈l:=by
 intro c
 induction c with
 |zero=>
  intro l hl x;have:l=[]:=Bs.1 hl;subst this;simp[aU]
 |succ c ih=>
  intro l hl x
  rcases aIa l with rfl|⟨u,y,rfl⟩
  ·simp at hl
  ·rw[p8,aQX,ih u (by simpa using hl) x];simp
theorem b7{l:List α}{x:α}:x∈aU l↔x∈l:=aNs _ l rfl x
theorem aHy:∀(c:Nat) (l:List α),l.length=c->(aU l).Nodup:=by
 intro c
 induction c with
 |zero=>
  intro l hl;have:l=[]:=Bs.1 hl;subst this;simp[aU]
 |succ c ih=>
  intro l hl
  rcases aIa l with rfl|⟨u,y,rfl⟩
  ·simp at hl
  ·rw[p8];have h:=ih u (by simpa using hl);unfold addG
   split
   ·exact h
   ·rename_i hin
    rw[Dt];refine⟨h,by simp,fun a ha b hb=> ?_⟩;simp only[Bp]at hb;subst hb;rintro rfl;exact hin ha
theorem zL(l:List α):(aU l).Nodup:=aHy _ l rfl
theorem oV(l:List α):(aU l).length<=l.length:=MT (zL l) fun x hx=>b7.1 hx
theorem A6(l:List α):(numL l).length=l.length:=Ao _
theorem BM{l:List α}{i:Nat}(hi:i<l.length):(numL l).getD i 0=((aU l).idxOf l[i]:Nat):=by
 unfold numL;rw[Aa,Bd,Ad hi];rfl
theorem aNr{l:List α}{x:α}(h:x∈l):(aU l).idxOf x<(aU l).length:=El (b7.2 h)
theorem aB2{l:List α}{i:Nat}(hi:i<l.length):0<=(numL l).getD i 0/\(numL l).getD i 0<(aU l).length:=by
 rw[BM hi];have:=aNr (At hi);omega
theorem aSX{l:List α}{x y:α}(hx:x∈l)(h:l.idxOf x=l.idxOf y)(hy:y∈l):x=y:=by
 have h1:=List.getElem_idxOf (El hx);have h2:=List.getElem_idxOf (El hy);rw[<-h1,<-h2];simp only[h]
theorem aMn{l:List α}{i j:Nat}(hi:i<l.length)(hj:j<l.length):(numL l).getD i 0=(numL l).getD j 0↔l[i]=l[j]:=by
 rw[BM hi,BM hj]
 constructor
 ·intro h;exact aSX (b7.2 (At hi)) om (b7.2 (At hj))
 ·intro h;rw[h]
theorem WS(l:List α)(x:α):numL (l++[x])=numL l++[((idxG (addG (aU l) x) x:Nat):Int)]:=by
 unfold numL;rw[p8,Cw]
 congr 1
 apply Ec;intro y hy;have hy2:=b7.2 hy;unfold addG
 split
 ·rfl
 ·rw[List.idxOf_append,if_pos hy2]
theorem aCr(o:List α)(x:α):(addG o x).idxOf x=if x∈o then o.idxOf x else o.length:=by
 unfold addG
 by_cases h:x∈o
 ·rw[if_pos h,if_pos h]
 ·rw[if_neg h,if_neg h,List.idxOf_append,if_neg h];simp
theorem aLD{o:List α}{x:α}(h:x∈o):addG o x=o:=if_pos h
theorem aBf{o:List α}{x:α}(h:x∉o):addG o x=o++[x]:=if_neg h
theorem aP1{o:List α}{x:α}(h:x∉o):idxG (o++[x]) x=o.length:=by
 have:=aCr o x;rw[if_neg h,aBf h]at this;exact this
theorem aJK(o:List α)(x:α):(addG o x).length=if x∈o then o.length else o.length+1:=by
 unfold addG
 split<;>simp
def aIf(l:List α)(m:List β):Prop:=l.length=m.length/\∀i j (hi:i<l.length) (hj:j<l.length) (hi':i<m.length) (hj':j<m.length),l[i]=l[j]↔m[i]=m[j]
theorem aOy:∀(c:Nat) (l:List α) (m:List β),l.length=c->aIf l m->numL l=numL m/\(aU l).length=(aU m).length:=by
 intro c
 induction c with
 |zero=>
  intro l m hl h;have h1:l=[]:=Bs.1 hl;have h2:m=[]:=Bs.1 (by rw[<-h.1,hl]);subst h1;subst h2;simp[numL,aU]
 |succ c ih=>
  intro l m hl h
  rcases aIa l with rfl|⟨u,x,rfl⟩
  ·simp at hl
  rcases aIa m with rfl|⟨v,y,rfl⟩
  ·have:=h.1;simp at this
  obtain⟨h1,h2⟩:=h;have hlen:u.length=v.length:=by simpa using h1
  have hs:aIf u v:=⟨hlen,fun i j hi hj hi' hj'=>by
   have:=h2 i j (by simp;omega) (by simp;omega) (by simp;omega) (by simp;omega);rw[En hi,En hj,En hi',En hj']at this;exact this⟩
  obtain⟨e1,e2⟩:=ih u v (by simpa using hl) hs
  have hat:∀i (hi:i<u.length) (hi':i<v.length),u[i]=x↔v[i]=y:=fun i hi hi'=>by
   have:=h2 i u.length (by simp;omega) sm (by simp;omega) (by simp;omega);rw[En hi,En hi']at this;have e1:(u++[x])[u.length]'sm=x:=sm;have e2:(v++[y])[u.length]'(by simp;omega)=y:=by simp[hlen]
   rw[e1,e2]at this;exact this
  have hmem:x∈u↔y∈v:=by
   constructor
   ·intro hx;obtain⟨i,hi,e⟩:=Cb hx;rw[<-(hat i hi om).1 e];exact At _
   ·intro hy;obtain⟨i,hi,e⟩:=Cb hy;rw[<-(hat i om hi).2 e];exact At _
  have hidx:(addG (aU u) x).idxOf x=(addG (aU v) y).idxOf y:=by
   rw[aCr,aCr]
   by_cases hx:x∈u
   ·have hy:=hmem.1 hx;rw[if_pos (b7.2 hx),if_pos (b7.2 hy)];obtain⟨i,hi,e⟩:=Cb hx;have e':=(hat i hi om).1 e;have k1:=BM hi;have k2:=BM (l:=v) (i:=i) om;rw[e]at k1;rw[e']at k2;rw[e1]at k1;omega
   ·have hy:¬y∈v:=fun hy=>hx (hmem.2 hy);rw[if_neg fun hh=>hx (b7.1 hh),if_neg fun hh=>hy (b7.1 hh),e2]
  refine⟨by rw[WS,WS,e1];show _=_++[(((addG (aU v) y).idxOf y:Nat):Int)];rw[<-hidx],?_⟩;rw[p8,p8,aJK,aJK,e2]
  by_cases hx:x∈u
  ·rw[if_pos (b7.2 hx),if_pos (b7.2 (hmem.1 hx))]
  ·rw[if_neg fun hh=>hx (b7.1 hh),if_neg fun hh=>hx (hmem.2 (b7.1 hh))]
theorem RM{l:List α}{m:List β}(h:aIf l m):numL l=numL m/\(aU l).length=(aU m).length:=aOy _ l m rfl h
theorem aNR{l:List α}{f:α->β}(h:(aU l).length<=(aU (l.map f)).length){x y:α}(hx:x∈l)(hy:y∈l)(e:f x=f y):x=y:=by
 apply Eg;intro hne;have hy2:=b7.2 hy;have hx2:=b7.2 hx
 have hs:∀z∈aU (l.map f),z∈((aU l).erase y).map f:=by
  intro z hz;obtain⟨w,hw,rfl⟩:=Bf.1 (b7.1 hz)
  by_cases hwy:w=y
  ·subst hwy;exact Bf.2 ⟨x,(List.mem_erase_of_ne hne).2 hx2,e⟩
  ·exact Bf.2 ⟨w,(List.mem_erase_of_ne hwy).2 (b7.2 hw),rfl⟩
 have h1:=MT (zL (l.map f)) hs;rw[Ao,List.length_erase_of_mem hy2]at h1;have hp:0<(aU l).length:=Em hy2;omega
theorem SM(l:List α)(f:α->β):(aU (l.map f)).length<=(aU l).length:=by
 have h1:=MT (l:=aU (l.map f)) (m:=(aU l).map f) (zL (l.map f)) fun z hz=>by
  obtain⟨w,hw,rfl⟩:=Bf.1 (b7.1 hz);exact Bf.2 ⟨w,b7.2 hw,rfl⟩
 rw[Ao]at h1;exact h1
end
end

def clA(cl:List Int)(t:Int):Int:=cl.getD t.toNat 0
def sigA(a:Aut)(cl:List Int)(q:Nat):List Int:=cl.getD q 0::(a.nx.getD q []).map (clA cl)
def sigs(a:Aut)(cl:List Int):List (List Int):=(List.range a.nx.length).map (sigA a cl)
def clsG(a:Aut):Nat->List Int->Nat->List Int
 |0,cl,_=>cl
 |j+1,cl,c=>if(aU (sigs a cl)).length=c then numL (sigs a cl)else clsG a j (numL (sigs a cl)) (aU (sigs a cl)).length
def cl0(a:Aut):List Int:=a.ac.map fun b=>if b=true then 1 else 0
def bP(a:Aut):List Int:=clsG a (a.nx.length+1) (cl0 a) 0
def acQ(a:Aut)(q:Int):Bool:=a.ac.getD q.toNat false
def Eqv(a:Aut)(i j:Int):Prop:=∀w:List Int,(∀l∈w,l∈aB a.al)->acQ a (w.foldl (goS a) i)=acQ a (w.foldl (goS a) j)
theorem aTB{a:Aut}{i j l:Int}(h:Eqv a i j)(hl:l∈aB a.al):Eqv a (goS a i l) (goS a j l):=fun w hw=>h (l::w) fun x hx=>by
 rcases Av.1 hx with rfl|hx
 ·exact hl
 ·exact hw x hx
structure Cls(a:Aut)(cl:List Int):Prop where
 len:cl.length=a.nx.length
 rng:∀q,q<a.nx.length->0<=cl.getD q 0/\cl.getD q 0<12
 coarse:∀i j:Nat,i<a.nx.length->j<a.nx.length->Eqv a i j->cl.getD i 0=cl.getD j 0
 fine:∀i j:Nat,i<a.nx.length->j<a.nx.length->cl.getD i 0=cl.getD j 0->acQ a i=acQ a j
theorem dW(a:Aut)(cl:List Int):(sigs a cl).length=a.nx.length:=by unfold sigs;rw[Ao,Dg]
theorem oL{a:Aut}{cl:List Int}{q:Nat}(hq:q<(sigs a cl).length):(sigs a cl)[q]=sigA a cl q:=by
 have h:(sigs a cl)[q]? =some (sigA a cl q):=by
  have hq2:=hq;rw[dW]at hq2;show((List.range a.nx.length).map (sigA a cl))[q]? =_;rw[Bd,List.getElem?_range hq2];rfl
 rw[Ad hq]at h;exact Option.some.inj h
theorem P3{a:Aut}(h:AOK a){cl:List Int}{q:Nat}(hq:q<a.nx.length):(a.nx.getD q []).map (clA cl)=(aB a.al).map fun l=>clA cl (goS a q l):=by
 have:=YK h (v:=(q:Int)) om om;unfold rowA at this;rw[Cn]at this;rw[<-this,List.map_map];rfl
theorem Y5{a:Aut}(h:AOK a){q:Nat}(hq:q<a.nx.length){l:Int}(hl:l∈aB a.al):∃p:Nat,goS a q l=(p:Int)/\p<a.nx.length:=by
 have:=aFC h q l om om hl;exact⟨(goS a q l).toNat,by omega,by omega⟩
theorem aBB{a:Aut}{cl:List Int}{i j:Nat}(hi:i<a.nx.length)(hj:j<a.nx.length):(numL (sigs a cl)).getD i 0=(numL (sigs a cl)).getD j 0↔sigA a cl i=sigA a cl j:=by
 have hi':i<(sigs a cl).length:=by rw[dW];exact hi
 have hj':j<(sigs a cl).length:=by rw[dW];exact hj
 rw[aMn hi' hj',oL,oL]
theorem aJL{a:Aut}(h:AOK a){cl:List Int}(hc:Cls a cl):Cls a (numL (sigs a cl)):=by
 obtain⟨_,_,a1,a2,a3⟩:=aV h;refine⟨by rw[A6,dW],?_,?_,?_⟩
 ·intro q hq;have h1:=aB2 (l:=sigs a cl) (i:=q) (by rw[dW];exact hq);have h2:=oV (sigs a cl);rw[dW]at h2;omega
 ·intro i j hi hj he;rw[aBB hi hj];unfold sigA;rw[hc.coarse i j hi hj he,P3 h hi,P3 h hj]
  congr 1
  apply Ec;intro l hl;obtain⟨p,e1,hp⟩:=Y5 h hi hl;obtain⟨q,e2,hq⟩:=Y5 h hj hl;have:=aTB he hl;rw[e1,e2]at this|-;exact hc.coarse p q hp hq this
 ·intro i j hi hj he;rw[aBB hi hj]at he;unfold sigA at he;exact hc.fine i j hi hj (List.cons.inj he).1
theorem XC{a:Aut}{cl:List Int}(hc:Cls a cl):(sigs a cl).map (fun s=>s.headD 0)=cl:=by
 apply List.ext_getElem
 ·rw[Ao,dW,hc.len]
 ·intro q h1 h2;rw[Dy,oL];show cl.getD q 0=_;rw[Aa,Ad h2];rfl
theorem aNb{a:Aut}{cl:List Int}(hc:Cls a cl)(hs:(aU (sigs a cl)).length=(aU cl).length){i j:Nat}(hi:i<a.nx.length)(hj:j<a.nx.length)(he:cl.getD i 0=cl.getD j 0):sigA a cl i=sigA a cl j:=by
 have hi':i<(sigs a cl).length:=by rw[dW];exact hi
 have hj':j<(sigs a cl).length:=by rw[dW];exact hj
 rw[<-oL hi',<-oL hj'];refine aNR (l:=sigs a cl) (f:=fun s=>s.headD 0) (by rw[XC hc];omega) (At _) (At _) ?_;rw[oL,oL];exact he
theorem aD8{a:Aut}(h:AOK a){cl:List Int}(hc:Cls a cl)(hs:∀i j:Nat,i<a.nx.length->j<a.nx.length->cl.getD i 0=cl.getD j 0->sigA a cl i=sigA a cl j):∀(w:List Int) (i j:Nat),i<a.nx.length->j<a.nx.length->cl.getD i 0=cl.getD j 0->(∀l∈w,l∈aB a.al)->acQ a (w.foldl (goS a) i)=acQ a (w.foldl (goS a) j)
 | [],i,j,hi,hj,he,_=>hc.fine i j hi hj he
 |l::w,i,j,hi,hj,he,hw=>by
  have hl:=hw l Bi;have hsg:=(List.cons.inj (hs i j hi hj he)).2;rw[P3 h hi,P3 h hj]at hsg;have:=List.map_inj_left.1 hsg l hl;obtain⟨p,e1,hp⟩:=Y5 h hi hl;obtain⟨q,e2,hq⟩:=Y5 h hj hl;simp only[Di];rw[e1,e2]at this|-;exact aD8 h hc hs w p q hp hq this fun x hx=>hw x (Be _ hx)
theorem LY{α:Type}[DecidableEq α](l:List α):aIf (numL l) l:=by
 refine⟨A6 l,fun i j hi hj hi' hj'=> ?_⟩;have:=aMn hi' hj';rw[Aa,Ad hi,Aa,Ad hj]at this;exact this
def aLN(a:Aut)(r:List Int):Prop:=∃l:List (List Int),r=numL l/\l.length=a.nx.length/\(∀i,i<a.nx.length->0<=r.getD i 0/\r.getD i 0<12)/\∀i j:Nat,i<a.nx.length->j<a.nx.length->(r.getD i 0=r.getD j 0↔Eqv a i j)
theorem aLK{a:Aut}(h:AOK a):∀(j:Nat) (cl:List Int) (c:Nat),Cls a cl->(c=0\/c=(aU cl).length)->a.nx.length<j+c->c<=a.nx.length->aLN a (clsG a j cl c)
 |0,cl,c,hc,h0,hj,hle=>by omega
 |j+1,cl,c,hc,h0,hj,hle=>by
  obtain⟨_,_,a1,a2,a3⟩:=aV h;have hn:=aJL h hc
  have hpos:0<(aU (sigs a cl)).length:=by
   have:(sigs a cl)[0]'(by rw[dW];omega)∈aU (sigs a cl):=b7.2 (At _);exact Em this
  have hle2:=oV (sigs a cl);rw[dW]at hle2;unfold clsG
  by_cases he:(aU (sigs a cl)).length=c
  ·rw[if_pos he];have hcl:(aU (sigs a cl)).length=(aU cl).length:=om;refine⟨sigs a cl,rfl,dW a cl,hn.rng,fun i k hi hk=>⟨fun e=> ?_,fun e=>hn.coarse i k hi hk e⟩⟩;have e2:=(aBB hi hk).1 e;have e3:cl.getD i 0=cl.getD k 0:=(List.cons.inj e2).1;exact fun w hw=>aD8 h hc (fun i j hi hj=>aNb hc hcl hi hj) w i k hi hk e3 hw
  ·rw[if_neg he]
   have hge:c<=(aU (sigs a cl)).length:=by
    rcases h0 with h0|h0
    ·omega
    ·have:=SM (sigs a cl) (fun s=>s.headD 0);rw[XC hc]at this;omega
   exact aLK h j _ _ hn (.inr (RM (LY (sigs a cl))).2.symm) om hle2
theorem aIK{a:Aut}(h:AOK a):Cls a (cl0 a):=by
 obtain⟨_,_,a1,a2,a3⟩:=aV h
 have hg:∀i,i<a.nx.length->(cl0 a).getD i 0=if acQ a i=true then 1 else 0:=by
  intro i hi;unfold cl0 acQ;rw[Aa,Bd,Ad om,Cn,Aa,Ad om];rfl
 refine⟨by unfold cl0;rw[Ao,a3],?_,?_,?_⟩
 ·intro q hq;rw[hg q hq]
  split<;>omega
 ·intro i j hi hj he;rw[hg i hi,hg j hj];have:acQ a i=acQ a j:=he [] sm;rw[this]
 ·intro i j hi hj he;rw[hg i hi,hg j hj]at he
  cases h1:acQ a i<;>cases h2:acQ a j<;>simp_all
theorem aCa{a:Aut}(h:AOK a):aLN a (bP a):=aLK h _ _ 0 (aIK h) (.inl rfl) om om
theorem W9{a:Aut}(h:AOK a):(bP a).length=a.nx.length:=by
 obtain⟨l,e,hl,_⟩:=aCa h;rw[e,A6,hl]
section
variable{R:Type}{L n:Nat}
theorem aE7(hn:1<=n){l:List Int}{x:Int}{q:Nat}(hql:q<l.length)(hl:l.length<=4294967290)(hx:l.getD q 0=x)(hne:∀i,i<q->¬l.getD i 0=x){k:KE R}:∀(j i m:Nat) (hi:i+j=q) (hm:j<m),
  aR env (aA env L n) L 0 [] Bz66 (HD 0) (Z2 (U2 (Z2 (U8 (U1 ([])))))) m (.d (.ivs l.length (ints l))::nI x::Y2 (nI 0::nI i::Y8 (Y1 ([])))) [] k
  =k (.exit 0) (.d (.ivs l.length (ints l))::nI x::Y2 (nI 0::nI q::Y8 (Y1 ([])))) []:=by
 intro j
 induction j with
 |zero=>
  intro i m hi hm;obtain _|m:=m;omega;obtain rfl:i=q:=om;have hc:(i:Int)<l.length:=om;have hi0:(0:Int)<=i:=om
  simp-implicitDefEqProofs (maxSteps:=9^7) (disch:=try exact Dz) only[↓DN,↓kRet,UP,simprocAttr,hc,hi0,hx,IO,EE,Tryz.f70]
 |succ j ih=>
  intro i m hi hm;obtain _|m:=m;omega;have hc:(i:Int)<l.length:=om;have hi0:(0:Int)<=i:=om;have he:=hne i om;have ih':=ih (i+1) m om om;rw[cs1 i]at ih';clear ih
  simp-implicitDefEqProofs (maxSteps:=9^7) (disch:=try exact Dz) only[↓DN,↓kRet,UP,simprocAttr,hc,hi0,he,↓ih',IO,EE,Tryz.f70]
theorem aSv{l:List Int}{x:Int}{i:Nat}(h:i<l.idxOf x)(hx:x∈l):¬l.getD i 0=x:=by
 obtain⟨_,hq⟩:=B3 hx;rw[Aa,Ad om];intro e;have e2:l[i]'om=x:=e;have:=List.not_of_lt_findIdx (p:=(·==x)) (xs:=l) (i:=i) h;rw[e2]at this;simp at this
theorem UZ(hn:2<=n)(l:List Int)(x:Int)(hx:x∈l)(hl:l.length<=4294967290)(hL:2^60<=L):aA env L n 70 [.d (.ivs l.length (ints l)),nI x] []=some (nI (idxU l x),[]):=by
 obtain⟨h1,h2⟩:=B3 hx;have loop_c:=fun {R n k} hn=> @aE7 R L n hn l x (l.idxOf x) h2 hl h1 (fun i hi=>aSv hi hx) k (l.idxOf x) 0 L om om;simp only[Aq]at loop_c;unfold idxU;generalize l.idxOf x=q at *;obtain _|n:=n;omega
 simp-implicitDefEqProofs (maxSteps:=9^7) (disch:=try exact Dz) only[↓DN,↓kAsg,UP,simprocAttr,↓loop_c,aIA,aAQ,Tryz.f70]
theorem XB:type_of% fun {L} l x hx hl hL=>ks fun hn=> @UZ L _ hn l x hx hl hL:=fun {L} l x hx hl hL=>ks fun hn=> @UZ L _ hn l x hx hl hL
theorem aB4(hn:3<=n)(hL:2^60<=L){a:Aut}{i:Nat}{r:List Int}(hr:r.length<=100){k:KE R}:∀(j q m:Nat) (o:List Int) (len:Nat) (hq:q+j=r.length) (hm:j<m) (hlen:len=o.length) (ho:o.length+j<=100000),
  aR env (aA env L n) L 0 [] Bz31 (nS 1) (U1 (Z4 (Z2 (U32 (U4 ([])))))) m (Y1 (.ptr 0 0 0::.d .nils::.sl 1 0 0 len::nI i::.d (.ivs r.length (ints r))::nI q::Y32 (Y4 ([])))) [.box [nI a.al,.d (.ivs a.nx.length (aG a.nx)),.d (.ivs a.ac.length (aD a.ac))],.arr (ints o) 1 0] k
  =k (.exit 2) (Y1 (.ptr 0 0 0::.d .nils::.sl 1 0 0 (rowU o (r.drop q)).length::nI i::.d (.ivs r.length (ints r))::nI (r.length)::Y32 (Y4 ([])))) [.box [nI a.al,.d (.ivs a.nx.length (aG a.nx)),.d (.ivs a.ac.length (aD a.ac))],.arr (ints (rowU o (r.drop q))) 1 0]:=by
 intro j
 induction j with
 |zero=>
  intro q m o len hq hm hlen ho;obtain _|m:=m;omega;obtain rfl:q=r.length:=om;subst hlen
  simp-implicitDefEqProofs (maxSteps:=9^7) (disch:=try exact Dz) only[↓DN,↓kRet,UP,simprocAttr,Ah,wI,vU,Tryz.f96];rw[Bw];rfl
 |succ j ih=>
  intro q m o len hq hm hlen ho;obtain _|m:=m;omega;subst hlen;have hk:q<r.length:=om;have hc:(q:Int)<r.length:=om;have hq0:(0:Int)<=q:=om;have kl_i:=@aHo L o (r.getD q 0) om hL;have hl4:o.length<=4294967290:=om;rw[cB hk (d:=0)]
  by_cases h:r.getD q 0∈o
  ·have e:rowU o (r.getD q 0::r.drop (q+1))=rowU o (r.drop (q+1)):=by
    unfold rowU;rw[Di,addU,if_pos h]
   have ih':=ih (q+1) m o o.length om om rfl om;rw[cs1 q]at ih';rw[e];rw[decide_eq_true h]at kl_i;clear ih;generalize rowU o (r.drop (q+1))=w at *
   simp-implicitDefEqProofs (maxSteps:=9^7) (disch:=try exact Dz) only[↓DN,↓kRet,UP,simprocAttr,↓B6,hc,hq0,↓kl_i,↓ih',wI,vU,Tryz.f96]
  ·have e:rowU o (r.getD q 0::r.drop (q+1))=rowU (o++[r.getD q 0]) (r.drop (q+1)):=by
    unfold rowU;rw[Di,addU,if_neg h]
   have ih':=ih (q+1) m (o++[r.getD q 0]) (o.length+1) om om sm (by simp;omega);rw[cs1 q]at ih';rw[e];rw[decide_eq_false h]at kl_i;clear ih;generalize rowU (o++[r.getD q 0]) (r.drop (q+1))=w at *
   simp-implicitDefEqProofs (maxSteps:=9^7) (disch:=try exact Dz) only[↓DN,↓kRet,UP,simprocAttr,↓B6,hc,hq0,↓kl_i,↓ih',wI,vU,Tryz.f96]
theorem aB6(hn:3<=n)(hL:2^60<=L){a:Aut}(ha:AOK a){k:KE R}:∀(j i m:Nat) (o:List Int) (W:Nat->List Int) (len:Nat) (hB:Bfs (goS a) (aB a.al) a.nx.length i [] o W) (hi:i<=o.length) (hj:a.nx.length<i+j) (hm:j<m) (hlen:len=o.length),
  aR env (aA env L n) L 0 [] Bz31 (nS 0) Bz65 m (Y1 (.ptr 0 0 0::.d .nils::.sl 1 0 0 len::nI i::Y32 (Y4 (Y2 ([]))))) [.box [nI a.al,.d (.ivs a.nx.length (aG a.nx)),.d (.ivs a.ac.length (aD a.ac))],.arr (ints o) 1 0] k
  =k (.exit 0) (Y1 (.ptr 0 0 0::.d .nils::.sl 1 0 0 (ordB (goS a) (aB a.al) j i o).length::nI ((ordB (goS a) (aB a.al) j i o).length:Int)::Y32 (Y4 (Y2 ([]))))) [.box [nI a.al,.d (.ivs a.nx.length (aG a.nx)),.d (.ivs a.ac.length (aD a.ac))],.arr (ints (ordB (goS a) (aB a.al) j i o)) 1 0]:=by
 obtain⟨sa,wa,a1,a2,a3⟩:=aV ha;have hal:=sa.1
 have last:∀(i m:Nat) (o:List Int) (len:Nat),i=o.length->0<m->len=o.length->aR env (aA env L n) L 0 [] Bz31 (nS 0) Bz65 m (Y1 (.ptr 0 0 0::.d .nils::.sl 1 0 0 len::nI i::Y32 (Y4 (Y2 ([]))))) [.box [nI a.al,.d (.ivs a.nx.length (aG a.nx)),.d (.ivs a.ac.length (aD a.ac))],.arr (ints o) 1 0] k
  =k (.exit 0) (Y1 (.ptr 0 0 0::.d .nils::.sl 1 0 0 o.length::nI (o.length:Int)::Y32 (Y4 (Y2 ([]))))) [.box [nI a.al,.d (.ivs a.nx.length (aG a.nx)),.d (.ivs a.ac.length (aD a.ac))],.arr (ints o) 1 0]:=by
  intro i m o len hi hm hlen;obtain _|m:=m;omega;subst hi;subst hlen
  simp-implicitDefEqProofs (maxSteps:=9^7) (disch:=try exact Dz) only[↓DN,↓kRet,UP,simprocAttr,Ah,JB,EK,Tryz.f96]
 intro j
 induction j with
 |zero=>
  intro i m o W len hB hi hj hm hlen;have:=iF hB.nod hB.rng;omega
 |succ j ih=>
  intro i m o W len hB hi hj hm hlen;unfold ordB
  by_cases hlt:i<o.length
  ·obtain _|m:=m;omega;subst hlen;rw[if_pos hlt];obtain⟨v0,v1⟩:=hB.rng _ (s7 hlt);have hrm:=YK ha v0 v1;obtain⟨W1,h1,h2⟩:=Bfs.row (mH _) (fun l hl=>aFC ha _ l v0 v1 hl) (aB a.al) [] o W hB rfl hlt rfl;rw[hrm]at h1 h2|-;have hn1:=iF hB.nod hB.rng;have hrl:=(kN ha (i:=(o.getD i 0).toNat) om).1;have hll:=bQ a.al;have loop_c:=fun {R n k} hn=> @aB4 R L n hn hL a i (rowA a (o.getD i 0)) (by unfold rowA;omega) k (rowA a (o.getD i 0)).length 0 L o o.length om (by unfold rowA;omega) rfl (by unfold rowA;omega);rw[Ba]at loop_c;have ih':=ih (i+1) m (rowU o (rowA a (o.getD i 0))) W1 _ h1.next om om om rfl;rw[cs1 i]at ih';simp only[Aq]at loop_c;have hc:(i:Int)<o.length:=om;have hi0:(0:Int)<=i:=om;clear ih h1 hB last hrm;unfold rowA at *;generalize hv:o.getD i 0=v at *;have hk:v.toNat<a.nx.length:=om;generalize rowU o (a.nx.getD v.toNat [])=w at *;generalize ordB (goS a) (aB a.al) j (i+1) w=z at *
   simp-implicitDefEqProofs (maxSteps:=9^7) (disch:=try exact Dz) only[↓DN,↓kAsg,↓kRet,UP,simprocAttr,LA,hc,hi0,hv,v0,v1,↓loop_c,↓ih',JB,EK,Tryz.f96]
  ·rw[if_neg hlt];exact last i m o len om om hlen
theorem X5(hn:4<=n)(a:Aut)(ha:AOK a)(hL:2^60<=L):aA env L n 96 [.agg [nI a.al,.d (.ivs a.nx.length (aG a.nx)),.d (.ivs a.ac.length (aD a.ac))]] []=some (.d (.ivs (ordA a).length (ints (ordA a))),[]):=by
 obtain⟨sa,wa,a1,a2,a3⟩:=aV ha;have loop_c:=fun {R n k} hn=> @aB6 R L n hn hL a ha k (a.nx.length+1) 0 L [0] (fun _=>[]) 1 (Bfs.start om) om om om rfl;have e:ints [0]=[.int .i64 0]:=rfl;have e2:ordB (goS a) (aB a.al) (a.nx.length+1) 0 [0]=ordA a:=rfl;rw[e,e2]at loop_c;simp only[Aq]at loop_c;obtain⟨W,hB⟩:=tZ ha;have hl:=iF hB.nod hB.rng;clear hB;generalize ordA a=w at *;have e4:(ints w).take w.length=ints w:=by rw[cW (Ab _)]
 obtain _|n:=n;omega
 simp-implicitDefEqProofs (maxSteps:=9^7) (disch:=try exact Dz) only[↓DN,↓kAsg,↓kRet,UP,simprocAttr,e4,↓loop_c,aIG,aAI,Tryz.f96]
theorem aJP:type_of% fun {L} a ha hL=>ks fun hn=> @X5 L _ hn a ha hL:=fun {L} a ha hL=>ks fun hn=> @X5 L _ hn a ha hL
end
section
variable{R:Type}{L n:Nat}
theorem aH8(hn:1<=n){a:Aut}{cl:List Int}{u v:Nat}(hcl:cl.length<=100)(hu:u<a.nx.length)(hv:v<a.nx.length)(ha:a.nx.length<=100)(hlen:(a.nx.getD u []).length=(a.nx.getD v []).length)(hr:(a.nx.getD u []).length<=100)(hru:∀q,q<(a.nx.getD u []).length->0<=(a.nx.getD u []).getD q 0/\(a.nx.getD u []).getD q 0<cl.length)(hrv:∀q,q<(a.nx.getD v []).length->0<=(a.nx.getD v []).getD q 0/\(a.nx.getD v []).getD q 0<cl.length){k:KE R}:∀(j i m:Nat) (hi:i+j=(a.nx.getD u []).length) (hm:j<m),
  aR env (aA env L n) L 0 [] Bz43 (M2 0) (U1 (Z4 (U2 (U1 (Z2 (U32 (U8 (U2 ([]))))))))) m (Y1 (.d (.ivs cl.length (ints cl))::nI u::nI v::.ptr 0 0 0::Y2 (Y1 (.d (.bool false)::nI i::Y32 (Y8 (Y2 ([]))))))) [.box [nI a.al,.d (.ivs a.nx.length (aG a.nx)),.d (.ivs a.ac.length (aD a.ac))]] k
  =match seek (fun i=>decide (¬clA cl ((a.nx.getD u []).getD i 0)=clA cl ((a.nx.getD v []).getD i 0))) j i with
   |none=>k (.exit 0) (Y1 (.d (.ivs cl.length (ints cl))::nI u::nI v::.ptr 0 0 0::Y2 (Y1 (.d (.bool false)::nI ((a.nx.getD u []).length)::Y32 (Y8 (Y2 ([]))))))) [.box [nI a.al,.d (.ivs a.nx.length (aG a.nx)),.d (.ivs a.ac.length (aD a.ac))]]
   |some q=>k .ret (Y1 (.d (.ivs cl.length (ints cl))::nI u::nI v::.ptr 0 0 0::Y2 (Y1 (.d (.bool false)::nI q::Y32 (Y8 (Y2 ([]))))))) [.box [nI a.al,.d (.ivs a.nx.length (aG a.nx)),.d (.ivs a.ac.length (aD a.ac))]]:=by
 intro j
 induction j with
 |zero=>
  intro i m hi hm;obtain _|m:=m;omega;have hu0:(0:Int)<=u:=om;have hu1:(u:Int)<a.nx.length:=om;obtain rfl:i=(a.nx.getD u []).length:=om
  simp-implicitDefEqProofs (maxSteps:=9^7) (disch:=try exact Dz) only[↓DN,↓kRet,UP,simprocAttr,LA,hu,hu0,hu1,Ah,zW,z6,Tryz.f119]<;>rfl
 |succ j ih=>
  intro i m hi hm;obtain _|m:=m;omega;have hu0:(0:Int)<=u:=om;have hv0:(0:Int)<=v:=om;have hu1:(u:Int)<a.nx.length:=om;have hv1:(v:Int)<a.nx.length:=om;have hk:i<(a.nx.getD u []).length:=om;have hc:(i:Int)<(a.nx.getD u []).length:=om;have hc2:(i:Int)<(a.nx.getD v []).length:=om;have hi0:(0:Int)<=i:=om;obtain⟨x0,x1⟩:=hru i hk;obtain⟨y0,y1⟩:=hrv i om;have ih':=ih (i+1) m om om;rw[cs1 i]at ih';clear ih
  by_cases he:clA cl ((a.nx.getD u []).getD i 0)=clA cl ((a.nx.getD v []).getD i 0)
  ·rw[iY (p:=(fun i=>decide (¬clA cl ((a.nx.getD u []).getD i 0)=clA cl ((a.nx.getD v []).getD i 0)))) (by simpa using he)];unfold clA at he ih'|-
   simp-implicitDefEqProofs (maxSteps:=9^7) (disch:=try exact Dz) only[↓DN,↓kRet,UP,simprocAttr,LA,hu,hv,hk,hu0,hv0,hu1,hv1,hc,hc2,hi0,x0,x1,y0,y1,he,↓ih',zW,z6,Tryz.f119]
  ·rw[fB (p:=(fun i=>decide (¬clA cl ((a.nx.getD u []).getD i 0)=clA cl ((a.nx.getD v []).getD i 0)))) (by simpa using he)];clear ih';unfold clA at he
   simp-implicitDefEqProofs (maxSteps:=9^7) (disch:=try exact Dz) only[↓DN,↓kAsg,↓kRet,UP,simprocAttr,LA,hu,hv,hk,hu0,hv0,hu1,hv1,hc,hc2,hi0,x0,x1,y0,y1,he,zW,z6,Tryz.f119]
theorem aQ3{cl r s:List Int}(h:r.length=s.length):(seek (fun i=>decide (¬clA cl (r.getD i 0)=clA cl (s.getD i 0))) r.length 0=none)↔r.map (clA cl)=s.map (clA cl):=by
 rw[lZ]
 constructor
 ·intro e;refine List.ext_getElem (by simpa using h) fun i h1 h2=> ?_;rw[Ao]at h1 h2;have:=e i om om;simp only[decide_eq_false_iff_not,Classical.not_not]at this;rw[Dy,Dy];rw[Aa,Aa,Ad h1,Ad h2]at this;exact this
 ·intro e i _ hi;have hi2:i<r.length:=om;have:(r.map (clA cl))[i]'(by simpa using hi2)=(s.map (clA cl))[i]'(by simpa using(h▸hi2)):=by simp only[e]
  rw[Dy,Dy]at this;simp only[decide_eq_false_iff_not,Classical.not_not];rw[Aa,Aa,Ad hi2,Ad (by omega:i<s.length)];exact this
theorem aAF(hn:2<=n)(a:Aut)(ha:AOK a)(cl:List Int)(hcl:cl.length=a.nx.length)(u v:Nat)(hu:u<a.nx.length)(hv:v<a.nx.length)(hL:2^60<=L):aA env L n 119 [.agg [nI a.al,.d (.ivs a.nx.length (aG a.nx)),.d (.ivs a.ac.length (aD a.ac))],.d (.ivs cl.length (ints cl)),nI u,nI v] []=some (.d (.bool (decide (sigA a cl u=sigA a cl v))),[]):=by
 obtain⟨sa,wa,a1,a2,a3⟩:=aV ha;obtain⟨u1,u2⟩:=kN ha (i:=u) om;obtain⟨v1,v2⟩:=kN ha (i:=v) om;have hll:=bQ a.al;have loop_c:=fun {R n k} hn=> @aH8 R L n hn a cl u v om hu hv om om om (fun q hq=>by rw[hcl];exact u2 q om) (fun q hq=>by rw[hcl];exact v2 q om) k (a.nx.getD u []).length 0 L om om;simp only[Aq]at loop_c;have hu0:(0:Int)<=u:=om;have hv0:(0:Int)<=v:=om;have hu1:(u:Int)<cl.length:=om;have hv1:(v:Int)<cl.length:=om;have hrow:=@aQ3 cl (a.nx.getD u []) (a.nx.getD v []) om
 by_cases hc:cl.getD u 0=cl.getD v 0
 ·cases hs:seek (fun i=>decide (¬clA cl ((a.nx.getD u []).getD i 0)=clA cl ((a.nx.getD v []).getD i 0))) (a.nx.getD u []).length 0 with
  |none=>
   have hx:sigA a cl u=sigA a cl v:=by unfold sigA;rw[hc,hrow.1 hs]
   simp only[hs]at loop_c;obtain _|n:=n;omega
   simp-implicitDefEqProofs (maxSteps:=9^7) (disch:=try exact Dz) only[↓DN,↓kAsg,↓kRet,UP,simprocAttr,↓loop_c,hx,hc,hu0,hv0,hu1,hv1,ND,GM,Tryz.f119]
  |some q=>
   have hx:¬sigA a cl u=sigA a cl v:=by
    intro e;unfold sigA at e;have:=hrow.2 (List.cons.inj e).2;rw[hs]at this;cases this
   simp only[hs]at loop_c;obtain _|n:=n;omega
   simp-implicitDefEqProofs (maxSteps:=9^7) (disch:=try exact Dz) only[↓DN,↓kAsg,↓kRet,UP,simprocAttr,↓loop_c,hx,hc,hu0,hv0,hu1,hv1,ND,GM,Tryz.f119]
 ·have hx:¬sigA a cl u=sigA a cl v:=fun e=>hc (List.cons.inj e).1;clear loop_c;obtain _|n:=n;omega
  simp-implicitDefEqProofs (maxSteps:=9^7) (disch:=try exact Dz) only[↓DN,↓kAsg,↓kRet,UP,simprocAttr,hx,hc,hu0,hv0,hu1,hv1,ND,GM,Tryz.f119]
theorem aLd:type_of% fun {L} a ha cl hcl u v hu hv hL=>ks fun hn=> @aAF L _ hn a ha cl hcl u v hu hv hL:=fun {L} a ha cl hcl u v hu hv hL=>ks fun hn=> @aAF L _ hn a ha cl hcl u v hu hv hL
theorem ZI(hn:4<=n)(hL:2^60<=L){a:Aut}(ha:AOK a){cl:List Int}(hcl:cl.length=a.nx.length){o:List Int}{p:Int}{i:Nat}(hi:i<a.nx.length)(ho:o.length=i)(hpos:∀q,q<o.length->0<=o.getD q 0){k:KE R}:∀(t j m:Nat) (hj:j+t=i) (hm:t<m),
  aR env (aA env L n) L 0 [] Bz12 (lQ 1) Bz46 m (Y1 (.d (.ivs cl.length (ints cl))::.ptr 0 0 0::Y1 (.d .nils::nI 0::.sl 1 0 0 o.length::nI p::nI i::nI (-1)::nI j::Y32 (Y4 ([]))))) [.box [nI a.al,.d (.ivs a.nx.length (aG a.nx)),.d (.ivs a.ac.length (aD a.ac))],.arr (ints (o)) 1 0] k
  =match seek (fun j=>decide (sigA a cl i=sigA a cl j)) t j with
   |none=>k (.exit 2) (Y1 (.d (.ivs cl.length (ints cl))::.ptr 0 0 0::Y1 (.d .nils::nI 0::.sl 1 0 0 o.length::nI p::nI i::nI (-1)::nI i::Y32 (Y4 ([]))))) [.box [nI a.al,.d (.ivs a.nx.length (aG a.nx)),.d (.ivs a.ac.length (aD a.ac))],.arr (ints (o)) 1 0]
   |some q=>k (.exit 2) (Y1 (.d (.ivs cl.length (ints cl))::.ptr 0 0 0::Y1 (.d .nils::nI 0::.sl 1 0 0 o.length::nI p::nI i::nI (o.getD q 0)::nI ((q:Int)+1)::Y32 (Y4 ([]))))) [.box [nI a.al,.d (.ivs a.nx.length (aG a.nx)),.d (.ivs a.ac.length (aD a.ac))],.arr (ints (o)) 1 0]:=by
 have h12:=(aV ha).2.2.2.1
 have last:∀(c:Int) (j m:Nat),(0<=c\/j=i)->0<m->j<=i->aR env (aA env L n) L 0 [] Bz12 (lQ 1) Bz46 m (Y1 (.d (.ivs cl.length (ints cl))::.ptr 0 0 0::Y1 (.d .nils::nI 0::.sl 1 0 0 o.length::nI p::nI i::nI c::nI j::Y32 (Y4 ([]))))) [.box [nI a.al,.d (.ivs a.nx.length (aG a.nx)),.d (.ivs a.ac.length (aD a.ac))],.arr (ints (o)) 1 0] k=k (.exit 2) (Y1 (.d (.ivs cl.length (ints cl))::.ptr 0 0 0::Y1 (.d .nils::nI 0::.sl 1 0 0 o.length::nI p::nI i::nI c::nI j::Y32 (Y4 ([]))))) [.box [nI a.al,.d (.ivs a.nx.length (aG a.nx)),.d (.ivs a.ac.length (aD a.ac))],.arr (ints (o)) 1 0]:=by
  intro c j m h hm hj;obtain _|m:=m;omega
  by_cases hc:(j:Int)<i
  ·have h2:¬c<0:=om
   simp-implicitDefEqProofs (maxSteps:=9^7) (disch:=try exact Dz) only[↓DN,↓kRet,UP,simprocAttr,hc,h2,m6,nR,Tryz.f97]
  ·simp-implicitDefEqProofs (maxSteps:=9^7) (disch:=try exact Dz) only[↓DN,↓kRet,UP,simprocAttr,hc,m6,nR,Tryz.f97]
 intro t
 induction t with
 |zero=>
  intro j m hj hm;obtain rfl:j=i:=om;exact last _ _ m (.inr rfl) hm (Ab _)
 |succ t ih=>
  intro j m hj hm;obtain _|m:=m;omega;have hjn:j<a.nx.length:=om;have kc_c:=@aLd L a ha cl hcl i j hi hjn hL;have hc:(j:Int)<i:=om;have hc2:(j:Int)<o.length:=om;have hc3:j<o.length:=om;have hj0:(0:Int)<=j:=om
  by_cases he:sigA a cl i=sigA a cl j
  ·rw[fB (p:=(fun j=>decide (sigA a cl i=sigA a cl j))) (by simpa using he)];rw[decide_eq_true he]at kc_c;have l':=last (o.getD j 0) (j+1) m (.inl (hpos j om)) om om;rw[cs1 j]at l';clear ih last
   simp-implicitDefEqProofs (maxSteps:=9^7) (disch:=try exact Dz) only[↓DN,↓kRet,UP,simprocAttr,hc,hc2,hj0,↓kc_c,l',m6,nR,Tryz.f97]
  ·rw[iY (p:=(fun j=>decide (sigA a cl i=sigA a cl j))) (by simpa using he)];rw[decide_eq_false he]at kc_c;have ih':=ih (j+1) m om om;rw[cs1 j]at ih';clear ih last
   simp-implicitDefEqProofs (maxSteps:=9^7) (disch:=try exact Dz) only[↓DN,↓kRet,UP,simprocAttr,hc,↓kc_c,↓ih',m6,nR,Tryz.f97]
theorem aPH{a:Aut}{cl:List Int}{i:Nat}(hi:i<a.nx.length):(sigs a cl).take (i+1)=(sigs a cl).take i++[sigA a cl i]:=by
 have h:i<(sigs a cl).length:=by rw[dW];exact hi
 rw[De,Ad h,oL h];rfl
theorem ZF(hn:4<=n)(hL:2^60<=L){a:Aut}(ha:AOK a){cl:List Int}(hcl:cl.length=a.nx.length){k:KE R}:∀(t i m:Nat) (o:List Int) (p:Nat) (len:Nat) (ho:o=numL ((sigs a cl).take i)) (hp:p=(aU ((sigs a cl).take i)).length) (hlen:len=o.length) (hi:i+t=a.nx.length) (hm:t<m),
  aR env (aA env L n) L 0 [] Bz12 (lQ 0) (U1 (Z2 (U1 (Z4 (Z1 (U32 (U4 (U2 ([]))))))))) m (Y1 (.d (.ivs cl.length (ints cl))::.ptr 0 0 0::Y1 (.d .nils::nI 0::.sl 1 0 0 len::nI p::nI i::Y32 (Y4 (Y2 ([])))))) [.box [nI a.al,.d (.ivs a.nx.length (aG a.nx)),.d (.ivs a.ac.length (aD a.ac))],.arr (ints (o)) 1 0] k
  =k (.exit 0) (Y1 (.d (.ivs cl.length (ints cl))::.ptr 0 0 0::Y1 (.d .nils::nI 0::.sl 1 0 0 (numL (sigs a cl)).length::nI ((aU (sigs a cl)).length:Int)::nI (a.nx.length:Int)::Y32 (Y4 (Y2 ([])))))) [.box [nI a.al,.d (.ivs a.nx.length (aG a.nx)),.d (.ivs a.ac.length (aD a.ac))],.arr (ints (numL (sigs a cl))) 1 0]:=by
 have h12:=(aV ha).2.2.2.1;intro t
 induction t with
 |zero=>
  intro i m o p len ho hp hlen hi hm;obtain _|m:=m;omega;obtain rfl:i=a.nx.length:=om;have e:(sigs a cl).take a.nx.length=sigs a cl:=Ce (by rw[dW];exact Ab _);rw[e]at ho hp;subst hlen;subst ho;subst hp;have hc:¬(a.nx.length:Int)<cl.length:=om;generalize numL (sigs a cl)=w;generalize(aU (sigs a cl)).length=z
  simp-implicitDefEqProofs (maxSteps:=9^7) (disch:=try exact Dz) only[↓DN,↓kRet,UP,simprocAttr,hc,uZ,s6,Tryz.f97]
 |succ t ih=>
  intro i m o p len ho hp hlen hi hm;obtain _|m:=m;omega;have hin:i<a.nx.length:=om;have hsl:((sigs a cl).take i).length=i:=by rw[Bk,dW];omega
  have hol:o.length=i:=by rw[ho,A6,hsl]
  have hpos:∀q,q<o.length->0<=o.getD q 0:=by
   intro q hq;rw[ho];exact(aB2 om).1
  have hp12:p<=12:=by have:=oV ((sigs a cl).take i);omega
  have hget:∀q,(hq:q<i)->((sigs a cl).take i)[q]'om=sigA a cl q:=by
   intro q hq;rw[List.getElem_take,oL]
  have loop_c:=fun {R n k} hn=> @ZI R L n hn hL a ha cl hcl o p i hin hol hpos k i 0 L om om;simp only[Aq]at loop_c;have e1:=WS ((sigs a cl).take i) (sigA a cl i);have e2:=p8 ((sigs a cl).take i) (sigA a cl i);rw[<-aPH hin]at e1 e2;subst hlen;have hc:(i:Int)<cl.length:=om;have hi0:(0:Int)<=i:=om;have hl4:o.length<=4294967290:=om
  cases hs:seek (fun j=>decide (sigA a cl i=sigA a cl j)) i 0 with
  |none=>
   have hx:sigA a cl i∉(sigs a cl).take i:=by
    intro hx;obtain⟨q,hq,e⟩:=Cb hx;have:=lZ.1 hs q om om;rw[hget q om]at e;simp only[decide_eq_false_iff_not]at this;exact this e.symm
   have hx':=fun h=>hx (b7.1 h);rw[aBf hx',aP1 hx',<-hp,<-ho]at e1;rw[aBf hx']at e2;have ih':=ih (i+1) m (o++[(p:Int)]) (p+1) (o.length+1) e1.symm (by rw[e2,Af,<-hp];rfl) sm om om;rw[cs1 i,cs1 p]at ih';simp only[hs]at loop_c;clear ih e1 e2 ho hp hs hx hx';generalize numL (sigs a cl)=w at *;generalize(aU (sigs a cl)).length=z at *
   simp-implicitDefEqProofs (maxSteps:=9^7) (disch:=try exact Dz) only[↓DN,↓kAsg,↓kRet,UP,simprocAttr,hc,↓loop_c,↓ih',uZ,s6,Tryz.f97]
  |some q=>
   obtain⟨_,h2,h3,_⟩:=CY hs;have hqi:q<i:=om
   have hx:sigA a cl i∈(sigs a cl).take i:=by
    simp only[decide_eq_true_eq]at h3;rw[h3,<-hget q hqi];exact At _
   have hv:o.getD q 0=((idxG (aU ((sigs a cl).take i)) (sigA a cl i):Nat):Int):=by
    simp only[decide_eq_true_eq]at h3;rw[ho,BM om,hget q hqi,h3]
   have hx':=b7.2 hx;rw[aLD hx',<-hv,<-ho]at e1;rw[aLD hx']at e2;have hv0:¬o.getD q 0<0:=by have:=hpos q om;omega
   have ih':=ih (i+1) m (o++[o.getD q 0]) p (o.length+1) e1.symm (by rw[e2,<-hp]) sm om om;rw[cs1 i]at ih';simp only[hs]at loop_c;clear ih e1 e2 ho hp hs hx hx' hpos hv;generalize numL (sigs a cl)=w at *;generalize(aU (sigs a cl)).length=z at *;generalize o.getD q 0=y at *
   simp-implicitDefEqProofs (maxSteps:=9^7) (disch:=try exact Dz) only[↓DN,↓kAsg,↓kRet,UP,simprocAttr,hc,hv0,↓loop_c,↓ih',uZ,s6,Tryz.f97]
theorem EH(hn:5<=n)(a:Aut)(ha:AOK a)(cl:List Int)(hcl:cl.length=a.nx.length)(hL:2^60<=L):aA env L n 97 [.agg [nI a.al,.d (.ivs a.nx.length (aG a.nx)),.d (.ivs a.ac.length (aD a.ac))],.d (.ivs cl.length (ints cl))] []=some (.tup [.d (.ivs (numL (sigs a cl)).length (ints (numL (sigs a cl)))),.d (.int .i64 (aU (sigs a cl)).length)],[]):=by
 have h12:=(aV ha).2.2.2.1;have loop_c:=fun {R n k} hn=> @ZF R L n hn hL a ha cl hcl k a.nx.length 0 L [] 0 0 (by rw[List.take_zero];rfl) (by rw[List.take_zero];rfl) rfl om om;have e:ints []=[]:=rfl;rw[e]at loop_c;simp only[Aq]at loop_c;have hz:(aU (sigs a cl)).length<=12:=by have:=oV (sigs a cl);rw[dW]at this;omega
 have hw:(numL (sigs a cl)).length<=12:=by rw[A6,dW];omega
 generalize numL (sigs a cl)=w at *;generalize(aU (sigs a cl)).length=z at *;have e4:(ints w).take w.length=ints w:=by rw[cW (Ab _)]
 obtain _|n:=n;omega
 simp-implicitDefEqProofs (maxSteps:=9^7) (disch:=try exact Dz) only[↓DN,↓kAsg,↓kRet,UP,simprocAttr,e4,↓loop_c,aHK,UM,Tryz.f97]
theorem aH1:type_of% fun {L} a ha cl hcl hL=>ks fun hn=> @EH L _ hn a ha cl hcl hL:=fun {L} a ha cl hcl hL=>ks fun hn=> @EH L _ hn a ha cl hcl hL
theorem UD(hn:2<=n)(hL:2^60<=L){a:Aut}(ha:AOK a){k:KE R}:∀(t i m:Nat) (o:List Int) (len:Nat) (ho:o=(cl0 a).take i) (hlen:len=o.length) (hi:i+t=a.ac.length) (hm:t<m),
  aR env (aA env L n) L 0 [] Bz25 (nT 0) (U1 (Z4 (Z1 (U32 (U4 (U2 ([]))))))) m (Y1 (.ptr 0 0 0::.d .nils::nI 0::.sl 1 0 0 len::nI i::Y32 (Y4 (Y2 ([]))))) [.box [nI a.al,.d (.ivs a.nx.length (aG a.nx)),.d (.ivs a.ac.length (aD a.ac))],.arr (ints o) 1 0] k
  =k (.exit 0) (Y1 (.ptr 0 0 0::.d .nils::nI 0::.sl 1 0 0 (cl0 a).length::nI (a.ac.length)::Y32 (Y4 (Y2 ([]))))) [.box [nI a.al,.d (.ivs a.nx.length (aG a.nx)),.d (.ivs a.ac.length (aD a.ac))],.arr (ints (cl0 a)) 1 0]:=by
 obtain⟨_,_,a1,a2,a3⟩:=aV ha;have hcl:(cl0 a).length=a.ac.length:=Ao _;intro t
 induction t with
 |zero=>
  intro i m o len ho hlen hi hm;obtain _|m:=m;omega;obtain rfl:i=a.ac.length:=om;rw[Ce om]at ho;subst hlen;subst ho;generalize(cl0 a)=w at *
  simp-implicitDefEqProofs (maxSteps:=9^7) (disch:=try exact Dz) only[↓DN,↓kRet,UP,simprocAttr,Ah,sU,qZ,Tryz.f69]
 |succ t ih=>
  intro i m o len ho hlen hi hm;obtain _|m:=m;omega;have hk:i<a.ac.length:=om;have hol:o.length=i:=by rw[ho,Bk];omega
  have hc:(i:Int)<a.ac.length:=om;have hi0:(0:Int)<=i:=om;have hl4:o.length<=4294967290:=om
  have e:(cl0 a).take (i+1)=o++[if a.ac.getD i false=true then 1 else 0]:=by
   rw[De,<-ho,Ad om];unfold cl0;rw[Dy,Aa,Ad hk];rfl
  subst hlen
  by_cases hb:a.ac.getD i false=true
  ·rw[if_pos hb]at e;have ih':=ih (i+1) m (o++[1]) (o.length+1) e.symm sm om om;rw[cs1 i]at ih';clear ih e ho;generalize(cl0 a)=w at *
   simp-implicitDefEqProofs (maxSteps:=9^7) (disch:=try exact Dz) only[↓DN,↓kAsg,↓kRet,UP,simprocAttr,LA,hc,hi0,hb,hk,↓ih',sU,qZ,Tryz.f69]
  ·rw[if_neg hb]at e;have ih':=ih (i+1) m (o++[0]) (o.length+1) e.symm sm om om;rw[cs1 i]at ih';clear ih e ho;generalize(cl0 a)=w at *
   simp-implicitDefEqProofs (maxSteps:=9^7) (disch:=try exact Dz) only[↓DN,↓kAsg,↓kRet,UP,simprocAttr,LA,hc,hi0,hb,hk,↓ih',sU,qZ,Tryz.f69]
theorem WO(hn:7<=n)(hL:2^60<=L){a:Aut}(ha:AOK a){k:KE R}:∀(t m:Nat) (cl:List Int) (c:Nat) (hc:Cls a cl) (h0:c=0\/c=(aU cl).length) (hj:a.nx.length<t+c) (hle:c<=a.nx.length) (hm:t<m),
  aR env (aA env L n) L 0 [] Bz25 (nT 1) (U1 (Z4 (Z1 (U1 (Z2 (U32 (U2 (U1 ([]))))))))) m (Y1 (.ptr 0 0 0::.d .nils::nI 0::.d (.ivs (numL (sigs a cl)).length (ints (numL (sigs a cl))))::nI (a.ac.length)::Y1 (nI c::nI ((aU (sigs a cl)).length:Int)::Y32 (Y2 (Y1 ([])))))) [.box [nI a.al,.d (.ivs a.nx.length (aG a.nx)),.d (.ivs a.ac.length (aD a.ac))]] k
  =k (.exit 2) (Y1 (.ptr 0 0 0::.d .nils::nI 0::.d (.ivs (clsG a t cl c).length (ints (clsG a t cl c)))::nI (a.ac.length)::Y1 (nI ((aU (clsG a t cl c)).length:Int)::nI ((aU (clsG a t cl c)).length:Int)::Y32 (Y2 (Y1 ([])))))) [.box [nI a.al,.d (.ivs a.nx.length (aG a.nx)),.d (.ivs a.ac.length (aD a.ac))]]:=by
 obtain⟨_,_,a1,a2,a3⟩:=aV ha;intro t
 induction t with
 |zero=>
  intro m cl c hc h0 hj hle hm;omega
 |succ t ih=>
  intro m cl c hc h0 hj hle hm;obtain _|m:=m;omega;have hn':=aJL ha hc;have hle2:=oV (sigs a cl);rw[dW]at hle2;have hnl:(numL (sigs a cl)).length=a.nx.length:=by rw[A6,dW]
  have hfn:(aU (numL (sigs a cl))).length=(aU (sigs a cl)).length:=(RM (LY (sigs a cl))).2;unfold clsG
  by_cases he:(aU (sigs a cl)).length=c
  ·rw[if_pos he,hfn,he];clear ih;generalize numL (sigs a cl)=w at *
   simp-implicitDefEqProofs (maxSteps:=9^7) (disch:=try exact Dz) only[↓DN,↓kRet,UP,simprocAttr,Ah,CM,zT,Tryz.f69]
  ·rw[if_neg he]
   have hge:c<=(aU (sigs a cl)).length:=by
    rcases h0 with h0|h0
    ·omega
    ·have:=SM (sigs a cl) (fun s=>s.headD 0);rw[XC hc]at this;omega
   have hpos:0<(aU (sigs a cl)).length:=om;have ih':=ih m (numL (sigs a cl)) (aU (sigs a cl)).length hn' (.inr hfn.symm) om hle2 om;have kc_c:=@aH1 L a ha (numL (sigs a cl)) hnl hL;have hlt:(c:Int)<(aU (sigs a cl)).length:=om;clear ih hn' hfn hle2 h0;generalize clsG a t (numL (sigs a cl)) (aU (sigs a cl)).length=z at *;generalize numL (sigs a (numL (sigs a cl)))=w2 at *;generalize(aU (sigs a (numL (sigs a cl)))).length=f2 at *;generalize numL (sigs a cl)=w at *;generalize(aU (sigs a cl)).length=f1 at *
   simp-implicitDefEqProofs (maxSteps:=9^7) (disch:=try exact Dz) only[↓DN,↓kRet,UP,simprocAttr,hlt,↓kc_c,↓ih',CM,zT,Tryz.f69]
theorem N4(hn:9<=n)(a:Aut)(ha:AOK a)(hL:2^60<=L):aA env L n 69 [.agg [nI a.al,.d (.ivs a.nx.length (aG a.nx)),.d (.ivs a.ac.length (aD a.ac))]] []=some (.tup [.d (.ivs (bP a).length (ints (bP a))),.d (.int .i64 (aU (bP a)).length)],[]):=by
 obtain⟨_,_,a1,a2,a3⟩:=aV ha;have hcl:(cl0 a).length=a.nx.length:=by unfold cl0;rw[Ao,a3]
 have loop_c:=fun {R n k} hn=> @UD R L n hn hL a ha k a.ac.length 0 L [] 0 (by rw[List.take_zero]) rfl om om;have loop_d:=fun {R n k} hn=> @WO R L n hn hL a ha k (a.nx.length+1) L (cl0 a) 0 (aIK ha) (.inl rfl) om om om;have kc_c:=fun {R:Type} {n:Nat} {k:KA R} (hn:5<=n)=> @oZ R env (aA env L n) [.box [nI a.al,.d (.ivs a.nx.length (aG a.nx)),.d (.ivs a.ac.length (aD a.ac))],.arr (ints (cl0 a)) 1 0] [.arr (ints (cl0 a)) 1 0] [.ice (ints (cl0 a)) 1 0] [.box [nI a.al,.d (.ivs a.nx.length (aG a.nx)),.d (.ivs a.ac.length (aD a.ac))],.ice (ints (cl0 a)) 1 0] 97 [.agg [nI a.al,.d (.ivs a.nx.length (aG a.nx)),.d (.ivs a.ac.length (aD a.ac))],.sl 1 0 0 (cl0 a).length] [.agg [nI a.al,.d (.ivs a.nx.length (aG a.nx)),.d (.ivs a.ac.length (aD a.ac))],.d (.ivs (cl0 a).length (ints (cl0 a)))] _ k [1] [1] yM rfl kr rfl (by simp[dX,frzA,frzL,eK,frz,frz0,aF,mapA,aJ,deep,d8,cW]) rfl (@EH L n hn a ha (cl0 a) hcl hL) rfl sm rfl;have e:ints []=[]:=rfl;have ez:clsG a (a.nx.length+1) (cl0 a) 0=bP a:=rfl;rw[e]at loop_c;rw[ez]at loop_d;simp only[Aq]at loop_c loop_d;clear ez;have hw:=W9 ha;generalize numL (sigs a (cl0 a))=w0 at *;generalize(aU (sigs a (cl0 a))).length=f0 at *;generalize(aU (bP a)).length=f at *;generalize bP a=w at *;generalize(cl0 a)=z at *;have e4:(ints z).take z.length=ints z:=by rw[cW (Ab _)]
 obtain _|n:=n;omega
 simp-implicitDefEqProofs (maxSteps:=9^7) (disch:=try exact Dz) only[↓DN,↓kAsg,↓kRet,UP,simprocAttr,↓loop_c,↓loop_d,↓kc_c,aEW,R8,Tryz.f69]
theorem aFn:type_of% fun {L} a ha hL=>ks fun hn=> @N4 L _ hn a ha hL:=fun {L} a ha hL=>ks fun hn=> @N4 L _ hn a ha hL
end
end Ev
end Go.Proofs.YtppffbehejpglaaGreat
