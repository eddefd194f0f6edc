/-
  Lists numbered by first appearance: plain laws.
-/
import Derived.Tactics
import Derived.Test.YthlkcebdfbjdoaaGreatMemS
import Derived.Test.YthlkcebdfbjdoaaGreatTrimL
import Derived.Test.YthlkcebdfbjdoaaGreatNetX
import Derived.Test.YthlkcebdfbjdoaaGreatPathZ
set_option linter.unusedSimpArgs false
set_option linter.unusedVariables false
set_option linter.unusedSectionVars false
set_option maxRecDepth 8000
set_option maxHeartbeats 4000000
namespace Go.Proofs.YthlkcebdfbjdoaaGreat
namespace Ev
section
theorem JH{α:Type}[DecidableEq α]:∀ {l m:List α},l.Nodup->(∀x∈l,x∈m)->l.length<=m.length
 | [],m,_,_=>by simp
 |a::l,m,h,hs=>by
  obtain⟨h1,h2⟩:=Dm.1 h;have ha:a∈m:=hs a Bi
  have:=JH (l:=l) (m:=m.erase a) h2 fun x hx=>by
   have hne:x≠a:=by rintro rfl;exact h1 hx
   exact(List.mem_erase_of_ne hne).2 (hs x (Bf _ hx))
  rw[List.length_erase_of_mem ha]at this;have hp:0<m.length:=El ha;simp only[Ad];omega
section
variable{α β:Type}[DecidableEq α][DecidableEq β]
abbrev idxG(o:List α)(x:α):Nat:=o.idxOf x
def addG(o:List α)(x:α):List α:=if x∈o then o else o++[x]
def aU(l:List α):List α:=l.foldl addG []
def numL(l:List α):List Int:=l.map fun x=>((aU l).idxOf x:Nat)
theorem pW(l:List α)(x:α):aU (l++[x])=addG (aU l) x:=by
 unfold aU;rw[List.foldl_append];rfl
theorem aPB{o:List α}{x y:α}:y∈addG o x↔y∈o\/y=x:=by
 unfold addG
 split
 ·constructor
  ·exact .inl
  ·rintro(h|rfl)
   ·exact h
   ·assumption
 ·simp
omit [DecidableEq α] in
theorem aHJ(l:List α):l=[]\/∃u x,l=u++[x]:=by
 rcases List.eq_nil_or_concat l with h|⟨u,x,h⟩
 ·exact .inl h
 ·exact .inr ⟨u,x,by rw[h];simp⟩
theorem aMh:∀(c:Nat) (l:List α),l.length=c->∀x,x∈aU l↔x∈l:=by
 intro c
 induction c with
 |zero=>
  intro l hl x;have:l=[]:=Br.1 hl;subst this;simp[aU]
 |succ c ih=>
  intro l hl x
  rcases aHJ l with rfl|⟨u,y,rfl⟩
  ·simp at hl
  ·rw[pW,aPB,ih u (by simpa using hl) x];simp
theorem b6{l:List α}{x:α}:x∈aU l↔x∈l:=aMh _ l rfl x
theorem aG2:∀(c:Nat) (l:List α),l.length=c->(aU l).Nodup:=by
 intro c
 induction c with
 |zero=>
  intro l hl;have:l=[]:=Br.1 hl;subst this;simp[aU]
 |succ c ih=>
  intro l hl
  rcases aHJ l with rfl|⟨u,y,rfl⟩
  ·simp at hl
  ·rw[pW];have h:=ih u (by simpa using hl);unfold addG
   split
   ·exact h
   ·rename_i hin
    rw[Dq];refine⟨h,by simp,fun a ha b hb=> ?_⟩;simp only[Bq]at hb;subst hb;rintro rfl;exact hin ha
theorem zI(l:List α):(aU l).Nodup:=aG2 _ l rfl
theorem oQ(l:List α):(aU l).length<=l.length:=JH (zI l) fun x hx=>b6.1 hx
theorem A3(l:List α):(numL l).length=l.length:=As _
theorem BC{l:List α}{i:Nat}(hi:i<l.length):(numL l).getD i 0=((aU l).idxOf l[i]:Nat):=by
 unfold numL;rw[Aa,Bd,Ae hi];rfl
theorem aM8{l:List α}{x:α}(h:x∈l):(aU l).idxOf x<(aU l).length:=Ek (b6.2 h)
theorem aBK{l:List α}{i:Nat}(hi:i<l.length):0<=(numL l).getD i 0/\(numL l).getD i 0<(aU l).length:=by
 rw[BC hi];have:=aM8 (At hi);omega
theorem aR2{l:List α}{x y:α}(hx:x∈l)(h:l.idxOf x=l.idxOf y)(hy:y∈l):x=y:=by
 have h1:=List.getElem_idxOf (Ek hx);have h2:=List.getElem_idxOf (Ek hy);rw[<-h1,<-h2];simp only[h]
theorem aK6{l:List α}{i j:Nat}(hi:i<l.length)(hj:j<l.length):(numL l).getD i 0=(numL l).getD j 0↔l[i]=l[j]:=by
 rw[BC hi,BC hj]
 constructor
 ·intro h;exact aR2 (b6.2 (At hi)) om (b6.2 (At hj))
 ·intro h;rw[h]
theorem VO(l:List α)(x:α):numL (l++[x])=numL l++[((idxG (addG (aU l) x) x:Nat):Int)]:=by
 unfold numL;rw[pW,Ct]
 congr 1
 apply Ea;intro y hy;have hy2:=b6.2 hy;unfold addG
 split
 ·rfl
 ·rw[List.idxOf_append,if_pos hy2]
theorem aBT(o:List α)(x:α):(addG o x).idxOf x=if x∈o then o.idxOf x else o.length:=by
 unfold addG
 by_cases h:x∈o
 ·rw[if_pos h,if_pos h]
 ·rw[if_neg h,if_neg h,List.idxOf_append,if_neg h];simp
theorem aLt{o:List α}{x:α}(h:x∈o):addG o x=o:=if_pos h
theorem aBV{o:List α}{x:α}(h:x∉o):addG o x=o++[x]:=if_neg h
theorem aQC{o:List α}{x:α}(h:x∉o):idxG (o++[x]) x=o.length:=by
 have:=aBT o x;rw[if_neg h,aBV h]at this;exact this
theorem aIC(o:List α)(x:α):(addG o x).length=if x∈o then o.length else o.length+1:=by
 unfold addG
 split<;>simp
def aHK(l:List α)(m:List β):Prop:=l.length=m.length/\∀i j (hi:i<l.length) (hj:j<l.length) (hi':i<m.length) (hj':j<m.length),l[i]=l[j]↔m[i]=m[j]
theorem aOS:∀(c:Nat) (l:List α) (m:List β),l.length=c->aHK l m->numL l=numL m/\(aU l).length=(aU m).length:=by
 intro c
 induction c with
 |zero=>
  intro l m hl h;have h1:l=[]:=Br.1 hl;have h2:m=[]:=Br.1 (by rw[<-h.1,hl]);subst h1;subst h2;simp[numL,aU]
 |succ c ih=>
  intro l m hl h
  rcases aHJ l with rfl|⟨u,x,rfl⟩
  ·simp at hl
  rcases aHJ m with rfl|⟨v,y,rfl⟩
  ·have:=h.1;simp at this
  obtain⟨h1,h2⟩:=h;have hlen:u.length=v.length:=by simpa using h1
  have hs:aHK u v:=⟨hlen,fun i j hi hj hi' hj'=>by
   have:=h2 i j (by simp;omega) (by simp;omega) (by simp;omega) (by simp;omega);rw[Em hi,Em hj,Em hi',Em hj']at this;exact this⟩
  obtain⟨e1,e2⟩:=ih u v (by simpa using hl) hs
  have hat:∀i (hi:i<u.length) (hi':i<v.length),u[i]=x↔v[i]=y:=fun i hi hi'=>by
   have:=h2 i u.length (by simp;omega) sm (by simp;omega) (by simp;omega);rw[Em hi,Em hi']at this;have e1:(u++[x])[u.length]'sm=x:=sm;have e2:(v++[y])[u.length]'(by simp;omega)=y:=by simp[hlen]
   rw[e1,e2]at this;exact this
  have hmem:x∈u↔y∈v:=by
   constructor
   ·intro hx;obtain⟨i,hi,e⟩:=Ca hx;rw[<-(hat i hi om).1 e];exact At _
   ·intro hy;obtain⟨i,hi,e⟩:=Ca hy;rw[<-(hat i om hi).2 e];exact At _
  have hidx:(addG (aU u) x).idxOf x=(addG (aU v) y).idxOf y:=by
   rw[aBT,aBT]
   by_cases hx:x∈u
   ·have hy:=hmem.1 hx;rw[if_pos (b6.2 hx),if_pos (b6.2 hy)];obtain⟨i,hi,e⟩:=Ca hx;have e':=(hat i hi om).1 e;have k1:=BC hi;have k2:=BC (l:=v) (i:=i) om;rw[e]at k1;rw[e']at k2;rw[e1]at k1;omega
   ·have hy:¬y∈v:=fun hy=>hx (hmem.2 hy);rw[if_neg fun hh=>hx (b6.1 hh),if_neg fun hh=>hy (b6.1 hh),e2]
  refine⟨by rw[VO,VO,e1];show _=_++[(((addG (aU v) y).idxOf y:Nat):Int)];rw[<-hidx],?_⟩;rw[pW,pW,aIC,aIC,e2]
  by_cases hx:x∈u
  ·rw[if_pos (b6.2 hx),if_pos (b6.2 (hmem.1 hx))]
  ·rw[if_neg fun hh=>hx (b6.1 hh),if_neg fun hh=>hx (hmem.2 (b6.1 hh))]
theorem PC{l:List α}{m:List β}(h:aHK l m):numL l=numL m/\(aU l).length=(aU m).length:=aOS _ l m rfl h
theorem aMz{l:List α}{f:α->β}(h:(aU l).length<=(aU (l.map f)).length){x y:α}(hx:x∈l)(hy:y∈l)(e:f x=f y):x=y:=by
 apply Ef;intro hne;have hy2:=b6.2 hy;have hx2:=b6.2 hx
 have hs:∀z∈aU (l.map f),z∈((aU l).erase y).map f:=by
  intro z hz;obtain⟨w,hw,rfl⟩:=Be.1 (b6.1 hz)
  by_cases hwy:w=y
  ·subst hwy;exact Be.2 ⟨x,(List.mem_erase_of_ne hne).2 hx2,e⟩
  ·exact Be.2 ⟨w,(List.mem_erase_of_ne hwy).2 (b6.2 hw),rfl⟩
 have h1:=JH (zI (l.map f)) hs;rw[As,List.length_erase_of_mem hy2]at h1;have hp:0<(aU l).length:=El hy2;omega
theorem Q9(l:List α)(f:α->β):(aU (l.map f)).length<=(aU l).length:=by
 have h1:=JH (l:=aU (l.map f)) (m:=(aU l).map f) (zI (l.map f)) fun z hz=>by
  obtain⟨w,hw,rfl⟩:=Be.1 (b6.1 hz);exact Be.2 ⟨w,b6.2 hw,rfl⟩
 rw[As]at h1;exact h1
end
end

def clA(cl:List Int)(t:Int):Int:=cl.getD t.toNat 0
def sigA(a:Aut)(cl:List Int)(q:Nat):List Int:=cl.getD q 0::(a.nx.getD q []).map (clA cl)
def sigs(a:Aut)(cl:List Int):List (List Int):=(List.range a.nx.length).map (sigA a cl)
def clsG(a:Aut):Nat->List Int->Nat->List Int
 |0,cl,_=>cl
 |j+1,cl,c=>if(aU (sigs a cl)).length=c then numL (sigs a cl)else clsG a j (numL (sigs a cl)) (aU (sigs a cl)).length
def cl0(a:Aut):List Int:=a.ac.map fun b=>if b=true then 1 else 0
def bX(a:Aut):List Int:=clsG a (a.nx.length+1) (cl0 a) 0
def acQ(a:Aut)(q:Int):Bool:=a.ac.getD q.toNat false
def Eqv(a:Aut)(i j:Int):Prop:=∀w:List Int,(∀l∈w,l∈aB a.al)->acQ a (w.foldl (goS a) i)=acQ a (w.foldl (goS a) j)
theorem aSw{a:Aut}{i j l:Int}(h:Eqv a i j)(hl:l∈aB a.al):Eqv a (goS a i l) (goS a j l):=fun w hw=>h (l::w) fun x hx=>by
 rcases Av.1 hx with rfl|hx
 ·exact hl
 ·exact hw x hx
structure Cls(a:Aut)(cl:List Int):Prop where
 len:cl.length=a.nx.length
 rng:∀q,q<a.nx.length->0<=cl.getD q 0/\cl.getD q 0<12
 coarse:∀i j:Nat,i<a.nx.length->j<a.nx.length->Eqv a i j->cl.getD i 0=cl.getD j 0
 fine:∀i j:Nat,i<a.nx.length->j<a.nx.length->cl.getD i 0=cl.getD j 0->acQ a i=acQ a j
theorem dW(a:Aut)(cl:List Int):(sigs a cl).length=a.nx.length:=by unfold sigs;rw[As,Dl]
theorem o6{a:Aut}{cl:List Int}{q:Nat}(hq:q<(sigs a cl).length):(sigs a cl)[q]=sigA a cl q:=by
 have h:(sigs a cl)[q]? =some (sigA a cl q):=by
  have hq2:=hq;rw[dW]at hq2;show((List.range a.nx.length).map (sigA a cl))[q]? =_;rw[Bd,List.getElem?_range hq2];rfl
 rw[Ae hq]at h;exact Option.some.inj h
theorem QI{a:Aut}(h:AOK a){cl:List Int}{q:Nat}(hq:q<a.nx.length):(a.nx.getD q []).map (clA cl)=(aB a.al).map fun l=>clA cl (goS a q l):=by
 have:=XT h (v:=(q:Int)) om om;unfold rowA at this;rw[Cn]at this;rw[<-this,List.map_map];rfl
theorem YA{a:Aut}(h:AOK a){q:Nat}(hq:q<a.nx.length){l:Int}(hl:l∈aB a.al):∃p:Nat,goS a q l=(p:Int)/\p<a.nx.length:=by
 have:=aEz h q l om om hl;exact⟨(goS a q l).toNat,by omega,by omega⟩
theorem aBA{a:Aut}{cl:List Int}{i j:Nat}(hi:i<a.nx.length)(hj:j<a.nx.length):(numL (sigs a cl)).getD i 0=(numL (sigs a cl)).getD j 0↔sigA a cl i=sigA a cl j:=by
 have hi':i<(sigs a cl).length:=by rw[dW];exact hi
 have hj':j<(sigs a cl).length:=by rw[dW];exact hj
 rw[aK6 hi' hj',o6,o6]
theorem aIg{a:Aut}(h:AOK a){cl:List Int}(hc:Cls a cl):Cls a (numL (sigs a cl)):=by
 obtain⟨_,_,a1,a2,a3⟩:=aV h;refine⟨by rw[A3,dW],?_,?_,?_⟩
 ·intro q hq;have h1:=aBK (l:=sigs a cl) (i:=q) (by rw[dW];exact hq);have h2:=oQ (sigs a cl);rw[dW]at h2;omega
 ·intro i j hi hj he;rw[aBA hi hj];unfold sigA;rw[hc.coarse i j hi hj he,QI h hi,QI h hj]
  congr 1
  apply Ea;intro l hl;obtain⟨p,e1,hp⟩:=YA h hi hl;obtain⟨q,e2,hq⟩:=YA h hj hl;have:=aSw he hl;rw[e1,e2]at this|-;exact hc.coarse p q hp hq this
 ·intro i j hi hj he;rw[aBA hi hj]at he;unfold sigA at he;exact hc.fine i j hi hj (List.cons.inj he).1
theorem TX{a:Aut}{cl:List Int}(hc:Cls a cl):(sigs a cl).map (fun s=>s.headD 0)=cl:=by
 apply List.ext_getElem
 ·rw[As,dW,hc.len]
 ·intro q h1 h2;rw[Dx,o6];show cl.getD q 0=_;rw[Aa,Ae h2];rfl
theorem aLZ{a:Aut}{cl:List Int}(hc:Cls a cl)(hs:(aU (sigs a cl)).length=(aU cl).length){i j:Nat}(hi:i<a.nx.length)(hj:j<a.nx.length)(he:cl.getD i 0=cl.getD j 0):sigA a cl i=sigA a cl j:=by
 have hi':i<(sigs a cl).length:=by rw[dW];exact hi
 have hj':j<(sigs a cl).length:=by rw[dW];exact hj
 rw[<-o6 hi',<-o6 hj'];refine aMz (l:=sigs a cl) (f:=fun s=>s.headD 0) (by rw[TX hc];omega) (At _) (At _) ?_;rw[o6,o6];exact he
theorem aDg{a:Aut}(h:AOK a){cl:List Int}(hc:Cls a cl)(hs:∀i j:Nat,i<a.nx.length->j<a.nx.length->cl.getD i 0=cl.getD j 0->sigA a cl i=sigA a cl j):∀(w:List Int) (i j:Nat),i<a.nx.length->j<a.nx.length->cl.getD i 0=cl.getD j 0->(∀l∈w,l∈aB a.al)->acQ a (w.foldl (goS a) i)=acQ a (w.foldl (goS a) j)
 | [],i,j,hi,hj,he,_=>hc.fine i j hi hj he
 |l::w,i,j,hi,hj,he,hw=>by
  have hl:=hw l Bi;have hsg:=(List.cons.inj (hs i j hi hj he)).2;rw[QI h hi,QI h hj]at hsg;have:=List.map_inj_left.1 hsg l hl;obtain⟨p,e1,hp⟩:=YA h hi hl;obtain⟨q,e2,hq⟩:=YA h hj hl;simp only[De];rw[e1,e2]at this|-;exact aDg h hc hs w p q hp hq this fun x hx=>hw x (Bf _ hx)
theorem JL{α:Type}[DecidableEq α](l:List α):aHK (numL l) l:=by
 refine⟨A3 l,fun i j hi hj hi' hj'=> ?_⟩;have:=aK6 hi' hj';rw[Aa,Ae hi,Aa,Ae hj]at this;exact this
def aLd(a:Aut)(r:List Int):Prop:=∃l:List (List Int),r=numL l/\l.length=a.nx.length/\(∀i,i<a.nx.length->0<=r.getD i 0/\r.getD i 0<12)/\∀i j:Nat,i<a.nx.length->j<a.nx.length->(r.getD i 0=r.getD j 0↔Eqv a i j)
theorem aLb{a:Aut}(h:AOK a):∀(j:Nat) (cl:List Int) (c:Nat),Cls a cl->(c=0\/c=(aU cl).length)->a.nx.length<j+c->c<=a.nx.length->aLd a (clsG a j cl c)
 |0,cl,c,hc,h0,hj,hle=>by omega
 |j+1,cl,c,hc,h0,hj,hle=>by
  obtain⟨_,_,a1,a2,a3⟩:=aV h;have hn:=aIg h hc
  have hpos:0<(aU (sigs a cl)).length:=by
   have:(sigs a cl)[0]'(by rw[dW];omega)∈aU (sigs a cl):=b6.2 (At _);exact El this
  have hle2:=oQ (sigs a cl);rw[dW]at hle2;unfold clsG
  by_cases he:(aU (sigs a cl)).length=c
  ·rw[if_pos he];have hcl:(aU (sigs a cl)).length=(aU cl).length:=om;refine⟨sigs a cl,rfl,dW a cl,hn.rng,fun i k hi hk=>⟨fun e=> ?_,fun e=>hn.coarse i k hi hk e⟩⟩;have e2:=(aBA hi hk).1 e;have e3:cl.getD i 0=cl.getD k 0:=(List.cons.inj e2).1;exact fun w hw=>aDg h hc (fun i j hi hj=>aLZ hc hcl hi hj) w i k hi hk e3 hw
  ·rw[if_neg he]
   have hge:c<=(aU (sigs a cl)).length:=by
    rcases h0 with h0|h0
    ·omega
    ·have:=Q9 (sigs a cl) (fun s=>s.headD 0);rw[TX hc]at this;omega
   exact aLb h j _ _ hn (.inr (PC (JL (sigs a cl))).2.symm) om hle2
theorem aJE{a:Aut}(h:AOK a):Cls a (cl0 a):=by
 obtain⟨_,_,a1,a2,a3⟩:=aV h
 have hg:∀i,i<a.nx.length->(cl0 a).getD i 0=if acQ a i=true then 1 else 0:=by
  intro i hi;unfold cl0 acQ;rw[Aa,Bd,Ae om,Cn,Aa,Ae om];rfl
 refine⟨by unfold cl0;rw[As,a3],?_,?_,?_⟩
 ·intro q hq;rw[hg q hq]
  split<;>omega
 ·intro i j hi hj he;rw[hg i hi,hg j hj];have:acQ a i=acQ a j:=he [] sm;rw[this]
 ·intro i j hi hj he;rw[hg i hi,hg j hj]at he
  cases h1:acQ a i<;>cases h2:acQ a j<;>simp_all
theorem aBk{a:Aut}(h:AOK a):aLd a (bX a):=aLb h _ _ 0 (aJE h) (.inl rfl) om om
theorem XD{a:Aut}(h:AOK a):(bX a).length=a.nx.length:=by
 obtain⟨l,e,hl,_⟩:=aBk h;rw[e,A3,hl]
section
variable{R:Type}{L n:Nat}
theorem aE8(hn:1<=n){l:List Int}{x:Int}{q:Nat}(hql:q<l.length)(hl:l.length<=4294967290)(hx:l.getD q 0=x)(hne:∀i,i<q->¬l.getD i 0=x){k:KE R}:∀(j i m:Nat) (hi:i+j=q) (hm:j<m),
  aS env (aA env L n) L 0 [] Bz65 (IJ 0) (Z2 (U2 (Z2 (U8 (U1 ([])))))) m (.d (.ivs l.length (ints l))::nI x::Y2 (nI 0::nI i::Y8 (Y1 ([])))) [] k
  =k (.exit 0) (.d (.ivs l.length (ints l))::nI x::Y2 (nI 0::nI q::Y8 (Y1 ([])))) []:=by
 intro j
 induction j with
 |zero=>
  intro i m hi hm;obtain _|m:=m;omega;obtain rfl:i=q:=om;have hc:(i:Int)<l.length:=om;have hi0:(0:Int)<=i:=om
  simp-implicitDefEqProofs (maxSteps:=9^7) (disch:=try exact Dz) only[↓DN,↓kRet,UP,simprocAttr,hc,hi0,hx,HY,ED,Tryz.f103]
 |succ j ih=>
  intro i m hi hm;obtain _|m:=m;omega;have hc:(i:Int)<l.length:=om;have hi0:(0:Int)<=i:=om;have he:=hne i om;have ih':=ih (i+1) m om om;rw[cs1 i]at ih';clear ih
  simp-implicitDefEqProofs (maxSteps:=9^7) (disch:=try exact Dz) only[↓DN,↓kRet,UP,simprocAttr,hc,hi0,he,↓ih',HY,ED,Tryz.f103]
theorem aRO{l:List Int}{x:Int}{i:Nat}(h:i<l.idxOf x)(hx:x∈l):¬l.getD i 0=x:=by
 obtain⟨_,hq⟩:=AX hx;rw[Aa,Ae om];intro e;have e2:l[i]'om=x:=e;have:=List.not_of_lt_findIdx (p:=(·==x)) (xs:=l) (i:=i) h;rw[e2]at this;simp at this
theorem TS(hn:2<=n)(l:List Int)(x:Int)(hx:x∈l)(hl:l.length<=4294967290)(hL:2^60<=L):aA env L n 103 [.d (.ivs l.length (ints l)),nI x] []=some (nI (idxU l x),[]):=by
 obtain⟨h1,h2⟩:=AX hx;have loop_c:=fun {R n k} hn=> @aE8 R L n hn l x (l.idxOf x) h2 hl h1 (fun i hi=>aRO hi hx) k (l.idxOf x) 0 L om om;simp only[Ap]at loop_c;unfold idxU;generalize l.idxOf x=q at *;obtain _|n:=n;omega
 simp-implicitDefEqProofs (maxSteps:=9^7) (disch:=try exact Dz) only[↓DN,↓kAsg,UP,simprocAttr,↓loop_c,aJy,aAo,Tryz.f103]
theorem V6:type_of% fun {L} l x hx hl hL=>ks fun hn=> @TS L _ hn l x hx hl hL:=fun {L} l x hx hl hL=>ks fun hn=> @TS L _ hn l x hx hl hL
theorem aBY(hn:3<=n)(hL:2^60<=L){a:Aut}{i:Nat}{r:List Int}(hr:r.length<=100){k:KE R}:∀(j q m:Nat) (o:List Int) (len:Nat) (hq:q+j=r.length) (hm:j<m) (hlen:len=o.length) (ho:o.length+j<=100000),
  aS env (aA env L n) L 0 [] Bz32 (m5 1) (U1 (Z4 (Z2 (U32 (U4 ([])))))) m (Y1 (.ptr 0 0 0::.d .nils::.sl 1 0 0 len::nI i::.d (.ivs r.length (ints r))::nI q::Y32 (Y4 ([])))) [.box [nI a.al,.d (.ivs a.nx.length (aI a.nx)),.d (.ivs a.ac.length (aD a.ac))],.arr (ints o) 1 0] k
  =k (.exit 2) (Y1 (.ptr 0 0 0::.d .nils::.sl 1 0 0 (rowU o (r.drop q)).length::nI i::.d (.ivs r.length (ints r))::nI (r.length)::Y32 (Y4 ([])))) [.box [nI a.al,.d (.ivs a.nx.length (aI a.nx)),.d (.ivs a.ac.length (aD a.ac))],.arr (ints (rowU o (r.drop q))) 1 0]:=by
 intro j
 induction j with
 |zero=>
  intro q m o len hq hm hlen ho;obtain _|m:=m;omega;obtain rfl:q=r.length:=om;subst hlen
  simp-implicitDefEqProofs (maxSteps:=9^7) (disch:=try exact Dz) only[↓DN,↓kRet,UP,simprocAttr,Ah,wB,vD,Tryz.f102];rw[Bw];rfl
 |succ j ih=>
  intro q m o len hq hm hlen ho;obtain _|m:=m;omega;subst hlen;have hk:q<r.length:=om;have hc:(q:Int)<r.length:=om;have hq0:(0:Int)<=q:=om;have kl_i:=@aGI L o (r.getD q 0) om hL;have hl4:o.length<=4294967290:=om;rw[cA hk (d:=0)]
  by_cases h:r.getD q 0∈o
  ·have e:rowU o (r.getD q 0::r.drop (q+1))=rowU o (r.drop (q+1)):=by
    unfold rowU;rw[De,addU,if_pos h]
   have ih':=ih (q+1) m o o.length om om rfl om;rw[cs1 q]at ih';rw[e];rw[decide_eq_true h]at kl_i;clear ih;generalize rowU o (r.drop (q+1))=w at *
   simp-implicitDefEqProofs (maxSteps:=9^7) (disch:=try exact Dz) only[↓DN,↓kRet,UP,simprocAttr,↓BR,hc,hq0,↓kl_i,↓ih',wB,vD,Tryz.f102]
  ·have e:rowU o (r.getD q 0::r.drop (q+1))=rowU (o++[r.getD q 0]) (r.drop (q+1)):=by
    unfold rowU;rw[De,addU,if_neg h]
   have ih':=ih (q+1) m (o++[r.getD q 0]) (o.length+1) om om sm (by simp;omega);rw[cs1 q]at ih';rw[e];rw[decide_eq_false h]at kl_i;clear ih;generalize rowU (o++[r.getD q 0]) (r.drop (q+1))=w at *
   simp-implicitDefEqProofs (maxSteps:=9^7) (disch:=try exact Dz) only[↓DN,↓kRet,UP,simprocAttr,↓BR,hc,hq0,↓kl_i,↓ih',wB,vD,Tryz.f102]
theorem aBH(hn:3<=n)(hL:2^60<=L){a:Aut}(ha:AOK a){k:KE R}:∀(j i m:Nat) (o:List Int) (W:Nat->List Int) (len:Nat) (hB:Bfs (goS a) (aB a.al) a.nx.length i [] o W) (hi:i<=o.length) (hj:a.nx.length<i+j) (hm:j<m) (hlen:len=o.length),
  aS env (aA env L n) L 0 [] Bz32 (m5 0) Bz64 m (Y1 (.ptr 0 0 0::.d .nils::.sl 1 0 0 len::nI i::Y32 (Y4 (Y2 ([]))))) [.box [nI a.al,.d (.ivs a.nx.length (aI a.nx)),.d (.ivs a.ac.length (aD a.ac))],.arr (ints o) 1 0] k
  =k (.exit 0) (Y1 (.ptr 0 0 0::.d .nils::.sl 1 0 0 (ordB (goS a) (aB a.al) j i o).length::nI ((ordB (goS a) (aB a.al) j i o).length:Int)::Y32 (Y4 (Y2 ([]))))) [.box [nI a.al,.d (.ivs a.nx.length (aI a.nx)),.d (.ivs a.ac.length (aD a.ac))],.arr (ints (ordB (goS a) (aB a.al) j i o)) 1 0]:=by
 obtain⟨sa,wa,a1,a2,a3⟩:=aV ha;have hal:=sa.1
 have last:∀(i m:Nat) (o:List Int) (len:Nat),i=o.length->0<m->len=o.length->aS env (aA env L n) L 0 [] Bz32 (m5 0) Bz64 m (Y1 (.ptr 0 0 0::.d .nils::.sl 1 0 0 len::nI i::Y32 (Y4 (Y2 ([]))))) [.box [nI a.al,.d (.ivs a.nx.length (aI a.nx)),.d (.ivs a.ac.length (aD a.ac))],.arr (ints o) 1 0] k
  =k (.exit 0) (Y1 (.ptr 0 0 0::.d .nils::.sl 1 0 0 o.length::nI (o.length:Int)::Y32 (Y4 (Y2 ([]))))) [.box [nI a.al,.d (.ivs a.nx.length (aI a.nx)),.d (.ivs a.ac.length (aD a.ac))],.arr (ints o) 1 0]:=by
  intro i m o len hi hm hlen;obtain _|m:=m;omega;subst hi;subst hlen
  simp-implicitDefEqProofs (maxSteps:=9^7) (disch:=try exact Dz) only[↓DN,↓kRet,UP,simprocAttr,Ah,HV,D4,Tryz.f102]
 intro j
 induction j with
 |zero=>
  intro i m o W len hB hi hj hm hlen;have:=jN hB.nod hB.rng;omega
 |succ j ih=>
  intro i m o W len hB hi hj hm hlen;unfold ordB
  by_cases hlt:i<o.length
  ·obtain _|m:=m;omega;subst hlen;rw[if_pos hlt];obtain⟨v0,v1⟩:=hB.rng _ (tG hlt);have hrm:=XT ha v0 v1;obtain⟨W1,h1,h2⟩:=Bfs.row (mN _) (fun l hl=>aEz ha _ l v0 v1 hl) (aB a.al) [] o W hB rfl hlt rfl;rw[hrm]at h1 h2|-;have hn1:=jN hB.nod hB.rng;have hrl:=(kF ha (i:=(o.getD i 0).toNat) om).1;have hll:=bP a.al;have loop_c:=fun {R n k} hn=> @aBY R L n hn hL a i (rowA a (o.getD i 0)) (by unfold rowA;omega) k (rowA a (o.getD i 0)).length 0 L o o.length om (by unfold rowA;omega) rfl (by unfold rowA;omega);rw[Ba]at loop_c;have ih':=ih (i+1) m (rowU o (rowA a (o.getD i 0))) W1 _ h1.next om om om rfl;rw[cs1 i]at ih';simp only[Ap]at loop_c;have hc:(i:Int)<o.length:=om;have hi0:(0:Int)<=i:=om;clear ih h1 hB last hrm;unfold rowA at *;generalize hv:o.getD i 0=v at *;have hk:v.toNat<a.nx.length:=om;generalize rowU o (a.nx.getD v.toNat [])=w at *;generalize ordB (goS a) (aB a.al) j (i+1) w=z at *
   simp-implicitDefEqProofs (maxSteps:=9^7) (disch:=try exact Dz) only[↓DN,↓kAsg,↓kRet,UP,simprocAttr,LA,hc,hi0,hv,v0,v1,↓loop_c,↓ih',HV,D4,Tryz.f102]
  ·rw[if_neg hlt];exact last i m o len om om hlen
theorem UK(hn:4<=n)(a:Aut)(ha:AOK a)(hL:2^60<=L):aA env L n 102 [.agg [nI a.al,.d (.ivs a.nx.length (aI a.nx)),.d (.ivs a.ac.length (aD a.ac))]] []=some (.d (.ivs (ordA a).length (ints (ordA a))),[]):=by
 obtain⟨sa,wa,a1,a2,a3⟩:=aV ha;have loop_c:=fun {R n k} hn=> @aBH R L n hn hL a ha k (a.nx.length+1) 0 L [0] (fun _=>[]) 1 (Bfs.start om) om om om rfl;have e:ints [0]=[.int .i64 0]:=rfl;have e2:ordB (goS a) (aB a.al) (a.nx.length+1) 0 [0]=ordA a:=rfl;rw[e,e2]at loop_c;simp only[Ap]at loop_c;obtain⟨W,hB⟩:=wY ha;have hl:=jN hB.nod hB.rng;clear hB;generalize ordA a=w at *;have e4:(ints w).take w.length=ints w:=by rw[cZ (Ab _)]
 obtain _|n:=n;omega
 simp-implicitDefEqProofs (maxSteps:=9^7) (disch:=try exact Dz) only[↓DN,↓kAsg,↓kRet,UP,simprocAttr,e4,↓loop_c,aIN,ZC,Tryz.f102]
theorem aJp:type_of% fun {L} a ha hL=>ks fun hn=> @UK L _ hn a ha hL:=fun {L} a ha hL=>ks fun hn=> @UK L _ hn a ha hL
end
section
variable{R:Type}{L n:Nat}
theorem aG4(hn:1<=n){a:Aut}{cl:List Int}{u v:Nat}(hcl:cl.length<=100)(hu:u<a.nx.length)(hv:v<a.nx.length)(ha:a.nx.length<=100)(hlen:(a.nx.getD u []).length=(a.nx.getD v []).length)(hr:(a.nx.getD u []).length<=100)(hru:∀q,q<(a.nx.getD u []).length->0<=(a.nx.getD u []).getD q 0/\(a.nx.getD u []).getD q 0<cl.length)(hrv:∀q,q<(a.nx.getD v []).length->0<=(a.nx.getD v []).getD q 0/\(a.nx.getD v []).getD q 0<cl.length){k:KE R}:∀(j i m:Nat) (hi:i+j=(a.nx.getD u []).length) (hm:j<m),
  aS env (aA env L n) L 0 [] Bz45 (ML 0) (U1 (Z4 (U2 (U1 (Z2 (U32 (U8 (U2 ([]))))))))) m (Y1 (.d (.ivs cl.length (ints cl))::nI u::nI v::.ptr 0 0 0::Y2 (Y1 (.d (.bool false)::nI i::Y32 (Y8 (Y2 ([]))))))) [.box [nI a.al,.d (.ivs a.nx.length (aI a.nx)),.d (.ivs a.ac.length (aD a.ac))]] k
  =match seek (fun i=>decide (¬clA cl ((a.nx.getD u []).getD i 0)=clA cl ((a.nx.getD v []).getD i 0))) j i with
   |none=>k (.exit 0) (Y1 (.d (.ivs cl.length (ints cl))::nI u::nI v::.ptr 0 0 0::Y2 (Y1 (.d (.bool false)::nI ((a.nx.getD u []).length)::Y32 (Y8 (Y2 ([]))))))) [.box [nI a.al,.d (.ivs a.nx.length (aI a.nx)),.d (.ivs a.ac.length (aD a.ac))]]
   |some q=>k .ret (Y1 (.d (.ivs cl.length (ints cl))::nI u::nI v::.ptr 0 0 0::Y2 (Y1 (.d (.bool false)::nI q::Y32 (Y8 (Y2 ([]))))))) [.box [nI a.al,.d (.ivs a.nx.length (aI a.nx)),.d (.ivs a.ac.length (aD a.ac))]]:=by
 intro j
 induction j with
 |zero=>
  intro i m hi hm;obtain _|m:=m;omega;have hu0:(0:Int)<=u:=om;have hu1:(u:Int)<a.nx.length:=om;obtain rfl:i=(a.nx.getD u []).length:=om
  simp-implicitDefEqProofs (maxSteps:=9^7) (disch:=try exact Dz) only[↓DN,↓kRet,UP,simprocAttr,LA,hu,hu0,hu1,Ah,yX,xV,Tryz.f154]<;>rfl
 |succ j ih=>
  intro i m hi hm;obtain _|m:=m;omega;have hu0:(0:Int)<=u:=om;have hv0:(0:Int)<=v:=om;have hu1:(u:Int)<a.nx.length:=om;have hv1:(v:Int)<a.nx.length:=om;have hk:i<(a.nx.getD u []).length:=om;have hc:(i:Int)<(a.nx.getD u []).length:=om;have hc2:(i:Int)<(a.nx.getD v []).length:=om;have hi0:(0:Int)<=i:=om;obtain⟨x0,x1⟩:=hru i hk;obtain⟨y0,y1⟩:=hrv i om;have ih':=ih (i+1) m om om;rw[cs1 i]at ih';clear ih
  by_cases he:clA cl ((a.nx.getD u []).getD i 0)=clA cl ((a.nx.getD v []).getD i 0)
  ·rw[gT (p:=(fun i=>decide (¬clA cl ((a.nx.getD u []).getD i 0)=clA cl ((a.nx.getD v []).getD i 0)))) (by simpa using he)];unfold clA at he ih'|-
   simp-implicitDefEqProofs (maxSteps:=9^7) (disch:=try exact Dz) only[↓DN,↓kRet,UP,simprocAttr,LA,hu,hv,hk,hu0,hv0,hu1,hv1,hc,hc2,hi0,x0,x1,y0,y1,he,↓ih',yX,xV,Tryz.f154]
  ·rw[eY (p:=(fun i=>decide (¬clA cl ((a.nx.getD u []).getD i 0)=clA cl ((a.nx.getD v []).getD i 0)))) (by simpa using he)];clear ih';unfold clA at he
   simp-implicitDefEqProofs (maxSteps:=9^7) (disch:=try exact Dz) only[↓DN,↓kAsg,↓kRet,UP,simprocAttr,LA,hu,hv,hk,hu0,hv0,hu1,hv1,hc,hc2,hi0,x0,x1,y0,y1,he,yX,xV,Tryz.f154]
theorem aP8{cl r s:List Int}(h:r.length=s.length):(seek (fun i=>decide (¬clA cl (r.getD i 0)=clA cl (s.getD i 0))) r.length 0=none)↔r.map (clA cl)=s.map (clA cl):=by
 rw[lN]
 constructor
 ·intro e;refine List.ext_getElem (by simpa using h) fun i h1 h2=> ?_;rw[As]at h1 h2;have:=e i om om;simp only[decide_eq_false_iff_not,Classical.not_not]at this;rw[Dx,Dx];rw[Aa,Aa,Ae h1,Ae h2]at this;exact this
 ·intro e i _ hi;have hi2:i<r.length:=om;have:(r.map (clA cl))[i]'(by simpa using hi2)=(s.map (clA cl))[i]'(by simpa using(h▸hi2)):=by simp only[e]
  rw[Dx,Dx]at this;simp only[decide_eq_false_iff_not,Classical.not_not];rw[Aa,Aa,Ae hi2,Ae (by omega:i<s.length)];exact this
theorem aAA(hn:2<=n)(a:Aut)(ha:AOK a)(cl:List Int)(hcl:cl.length=a.nx.length)(u v:Nat)(hu:u<a.nx.length)(hv:v<a.nx.length)(hL:2^60<=L):aA env L n 154 [.agg [nI a.al,.d (.ivs a.nx.length (aI a.nx)),.d (.ivs a.ac.length (aD a.ac))],.d (.ivs cl.length (ints cl)),nI u,nI v] []=some (.d (.bool (decide (sigA a cl u=sigA a cl v))),[]):=by
 obtain⟨sa,wa,a1,a2,a3⟩:=aV ha;obtain⟨u1,u2⟩:=kF ha (i:=u) om;obtain⟨v1,v2⟩:=kF ha (i:=v) om;have hll:=bP a.al;have loop_c:=fun {R n k} hn=> @aG4 R L n hn a cl u v om hu hv om om om (fun q hq=>by rw[hcl];exact u2 q om) (fun q hq=>by rw[hcl];exact v2 q om) k (a.nx.getD u []).length 0 L om om;simp only[Ap]at loop_c;have hu0:(0:Int)<=u:=om;have hv0:(0:Int)<=v:=om;have hu1:(u:Int)<cl.length:=om;have hv1:(v:Int)<cl.length:=om;have hrow:=@aP8 cl (a.nx.getD u []) (a.nx.getD v []) om
 by_cases hc:cl.getD u 0=cl.getD v 0
 ·cases hs:seek (fun i=>decide (¬clA cl ((a.nx.getD u []).getD i 0)=clA cl ((a.nx.getD v []).getD i 0))) (a.nx.getD u []).length 0 with
  |none=>
   have hx:sigA a cl u=sigA a cl v:=by unfold sigA;rw[hc,hrow.1 hs]
   simp only[hs]at loop_c;obtain _|n:=n;omega
   simp-implicitDefEqProofs (maxSteps:=9^7) (disch:=try exact Dz) only[↓DN,↓kAsg,↓kRet,UP,simprocAttr,↓loop_c,hx,hc,hu0,hv0,hu1,hv1,L7,FA,Tryz.f154]
  |some q=>
   have hx:¬sigA a cl u=sigA a cl v:=by
    intro e;unfold sigA at e;have:=hrow.2 (List.cons.inj e).2;rw[hs]at this;cases this
   simp only[hs]at loop_c;obtain _|n:=n;omega
   simp-implicitDefEqProofs (maxSteps:=9^7) (disch:=try exact Dz) only[↓DN,↓kAsg,↓kRet,UP,simprocAttr,↓loop_c,hx,hc,hu0,hv0,hu1,hv1,L7,FA,Tryz.f154]
 ·have hx:¬sigA a cl u=sigA a cl v:=fun e=>hc (List.cons.inj e).1;clear loop_c;obtain _|n:=n;omega
  simp-implicitDefEqProofs (maxSteps:=9^7) (disch:=try exact Dz) only[↓DN,↓kAsg,↓kRet,UP,simprocAttr,hx,hc,hu0,hv0,hu1,hv1,L7,FA,Tryz.f154]
theorem aKU:type_of% fun {L} a ha cl hcl u v hu hv hL=>ks fun hn=> @aAA L _ hn a ha cl hcl u v hu hv hL:=fun {L} a ha cl hcl u v hu hv hL=>ks fun hn=> @aAA L _ hn a ha cl hcl u v hu hv hL
theorem YU(hn:4<=n)(hL:2^60<=L){a:Aut}(ha:AOK a){cl:List Int}(hcl:cl.length=a.nx.length){o:List Int}{p:Int}{i:Nat}(hi:i<a.nx.length)(ho:o.length=i)(hpos:∀q,q<o.length->0<=o.getD q 0){k:KE R}:∀(t j m:Nat) (hj:j+t=i) (hm:t<m),
  aS env (aA env L n) L 0 [] Bz12 (lK 1) Bz46 m (Y1 (.d (.ivs cl.length (ints cl))::.ptr 0 0 0::Y1 (.d .nils::nI 0::.sl 1 0 0 o.length::nI p::nI i::nI (-1)::nI j::Y32 (Y4 ([]))))) [.box [nI a.al,.d (.ivs a.nx.length (aI a.nx)),.d (.ivs a.ac.length (aD a.ac))],.arr (ints (o)) 1 0] k
  =match seek (fun j=>decide (sigA a cl i=sigA a cl j)) t j with
   |none=>k (.exit 2) (Y1 (.d (.ivs cl.length (ints cl))::.ptr 0 0 0::Y1 (.d .nils::nI 0::.sl 1 0 0 o.length::nI p::nI i::nI (-1)::nI i::Y32 (Y4 ([]))))) [.box [nI a.al,.d (.ivs a.nx.length (aI a.nx)),.d (.ivs a.ac.length (aD a.ac))],.arr (ints (o)) 1 0]
   |some q=>k (.exit 2) (Y1 (.d (.ivs cl.length (ints cl))::.ptr 0 0 0::Y1 (.d .nils::nI 0::.sl 1 0 0 o.length::nI p::nI i::nI (o.getD q 0)::nI ((q:Int)+1)::Y32 (Y4 ([]))))) [.box [nI a.al,.d (.ivs a.nx.length (aI a.nx)),.d (.ivs a.ac.length (aD a.ac))],.arr (ints (o)) 1 0]:=by
 have h12:=(aV ha).2.2.2.1
 have last:∀(c:Int) (j m:Nat),(0<=c\/j=i)->0<m->j<=i->aS env (aA env L n) L 0 [] Bz12 (lK 1) Bz46 m (Y1 (.d (.ivs cl.length (ints cl))::.ptr 0 0 0::Y1 (.d .nils::nI 0::.sl 1 0 0 o.length::nI p::nI i::nI c::nI j::Y32 (Y4 ([]))))) [.box [nI a.al,.d (.ivs a.nx.length (aI a.nx)),.d (.ivs a.ac.length (aD a.ac))],.arr (ints (o)) 1 0] k=k (.exit 2) (Y1 (.d (.ivs cl.length (ints cl))::.ptr 0 0 0::Y1 (.d .nils::nI 0::.sl 1 0 0 o.length::nI p::nI i::nI c::nI j::Y32 (Y4 ([]))))) [.box [nI a.al,.d (.ivs a.nx.length (aI a.nx)),.d (.ivs a.ac.length (aD a.ac))],.arr (ints (o)) 1 0]:=by
  intro c j m h hm hj;obtain _|m:=m;omega
  by_cases hc:(j:Int)<i
  ·have h2:¬c<0:=om
   simp-implicitDefEqProofs (maxSteps:=9^7) (disch:=try exact Dz) only[↓DN,↓kRet,UP,simprocAttr,hc,h2,mV,nR,Tryz.f145]
  ·simp-implicitDefEqProofs (maxSteps:=9^7) (disch:=try exact Dz) only[↓DN,↓kRet,UP,simprocAttr,hc,mV,nR,Tryz.f145]
 intro t
 induction t with
 |zero=>
  intro j m hj hm;obtain rfl:j=i:=om;exact last _ _ m (.inr rfl) hm (Ab _)
 |succ t ih=>
  intro j m hj hm;obtain _|m:=m;omega;have hjn:j<a.nx.length:=om;have kc_c:=@aKU L a ha cl hcl i j hi hjn hL;have hc:(j:Int)<i:=om;have hc2:(j:Int)<o.length:=om;have hc3:j<o.length:=om;have hj0:(0:Int)<=j:=om
  by_cases he:sigA a cl i=sigA a cl j
  ·rw[eY (p:=(fun j=>decide (sigA a cl i=sigA a cl j))) (by simpa using he)];rw[decide_eq_true he]at kc_c;have l':=last (o.getD j 0) (j+1) m (.inl (hpos j om)) om om;rw[cs1 j]at l';clear ih last
   simp-implicitDefEqProofs (maxSteps:=9^7) (disch:=try exact Dz) only[↓DN,↓kRet,UP,simprocAttr,hc,hc2,hj0,↓kc_c,l',mV,nR,Tryz.f145]
  ·rw[gT (p:=(fun j=>decide (sigA a cl i=sigA a cl j))) (by simpa using he)];rw[decide_eq_false he]at kc_c;have ih':=ih (j+1) m om om;rw[cs1 j]at ih';clear ih last
   simp-implicitDefEqProofs (maxSteps:=9^7) (disch:=try exact Dz) only[↓DN,↓kRet,UP,simprocAttr,hc,↓kc_c,↓ih',mV,nR,Tryz.f145]
theorem aO3{a:Aut}{cl:List Int}{i:Nat}(hi:i<a.nx.length):(sigs a cl).take (i+1)=(sigs a cl).take i++[sigA a cl i]:=by
 have h:i<(sigs a cl).length:=by rw[dW];exact hi
 rw[Ds,Ae h,o6 h];rfl
theorem YY(hn:4<=n)(hL:2^60<=L){a:Aut}(ha:AOK a){cl:List Int}(hcl:cl.length=a.nx.length){k:KE R}:∀(t i m:Nat) (o:List Int) (p:Nat) (len:Nat) (ho:o=numL ((sigs a cl).take i)) (hp:p=(aU ((sigs a cl).take i)).length) (hlen:len=o.length) (hi:i+t=a.nx.length) (hm:t<m),
  aS env (aA env L n) L 0 [] Bz12 (lK 0) (U1 (Z2 (U1 (Z4 (Z1 (U32 (U4 (U2 ([]))))))))) m (Y1 (.d (.ivs cl.length (ints cl))::.ptr 0 0 0::Y1 (.d .nils::nI 0::.sl 1 0 0 len::nI p::nI i::Y32 (Y4 (Y2 ([])))))) [.box [nI a.al,.d (.ivs a.nx.length (aI a.nx)),.d (.ivs a.ac.length (aD a.ac))],.arr (ints (o)) 1 0] k
  =k (.exit 0) (Y1 (.d (.ivs cl.length (ints cl))::.ptr 0 0 0::Y1 (.d .nils::nI 0::.sl 1 0 0 (numL (sigs a cl)).length::nI ((aU (sigs a cl)).length:Int)::nI (a.nx.length:Int)::Y32 (Y4 (Y2 ([])))))) [.box [nI a.al,.d (.ivs a.nx.length (aI a.nx)),.d (.ivs a.ac.length (aD a.ac))],.arr (ints (numL (sigs a cl))) 1 0]:=by
 have h12:=(aV ha).2.2.2.1;intro t
 induction t with
 |zero=>
  intro i m o p len ho hp hlen hi hm;obtain _|m:=m;omega;obtain rfl:i=a.nx.length:=om;have e:(sigs a cl).take a.nx.length=sigs a cl:=Cd (by rw[dW];exact Ab _);rw[e]at ho hp;subst hlen;subst ho;subst hp;have hc:¬(a.nx.length:Int)<cl.length:=om;generalize numL (sigs a cl)=w;generalize(aU (sigs a cl)).length=z
  simp-implicitDefEqProofs (maxSteps:=9^7) (disch:=try exact Dz) only[↓DN,↓kRet,UP,simprocAttr,hc,uC,sN,Tryz.f145]
 |succ t ih=>
  intro i m o p len ho hp hlen hi hm;obtain _|m:=m;omega;have hin:i<a.nx.length:=om;have hsl:((sigs a cl).take i).length=i:=by rw[Bs,dW];omega
  have hol:o.length=i:=by rw[ho,A3,hsl]
  have hpos:∀q,q<o.length->0<=o.getD q 0:=by
   intro q hq;rw[ho];exact(aBK om).1
  have hp12:p<=12:=by have:=oQ ((sigs a cl).take i);omega
  have hget:∀q,(hq:q<i)->((sigs a cl).take i)[q]'om=sigA a cl q:=by
   intro q hq;rw[List.getElem_take,o6]
  have loop_c:=fun {R n k} hn=> @YU R L n hn hL a ha cl hcl o p i hin hol hpos k i 0 L om om;simp only[Ap]at loop_c;have e1:=VO ((sigs a cl).take i) (sigA a cl i);have e2:=pW ((sigs a cl).take i) (sigA a cl i);rw[<-aO3 hin]at e1 e2;subst hlen;have hc:(i:Int)<cl.length:=om;have hi0:(0:Int)<=i:=om;have hl4:o.length<=4294967290:=om
  cases hs:seek (fun j=>decide (sigA a cl i=sigA a cl j)) i 0 with
  |none=>
   have hx:sigA a cl i∉(sigs a cl).take i:=by
    intro hx;obtain⟨q,hq,e⟩:=Ca hx;have:=lN.1 hs q om om;rw[hget q om]at e;simp only[decide_eq_false_iff_not]at this;exact this e.symm
   have hx':=fun h=>hx (b6.1 h);rw[aBV hx',aQC hx',<-hp,<-ho]at e1;rw[aBV hx']at e2;have ih':=ih (i+1) m (o++[(p:Int)]) (p+1) (o.length+1) e1.symm (by rw[e2,Af,<-hp];rfl) sm om om;rw[cs1 i,cs1 p]at ih';simp only[hs]at loop_c;clear ih e1 e2 ho hp hs hx hx';generalize numL (sigs a cl)=w at *;generalize(aU (sigs a cl)).length=z at *
   simp-implicitDefEqProofs (maxSteps:=9^7) (disch:=try exact Dz) only[↓DN,↓kAsg,↓kRet,UP,simprocAttr,hc,↓loop_c,↓ih',uC,sN,Tryz.f145]
  |some q=>
   obtain⟨_,h2,h3,_⟩:=CP hs;have hqi:q<i:=om
   have hx:sigA a cl i∈(sigs a cl).take i:=by
    simp only[decide_eq_true_eq]at h3;rw[h3,<-hget q hqi];exact At _
   have hv:o.getD q 0=((idxG (aU ((sigs a cl).take i)) (sigA a cl i):Nat):Int):=by
    simp only[decide_eq_true_eq]at h3;rw[ho,BC om,hget q hqi,h3]
   have hx':=b6.2 hx;rw[aLt hx',<-hv,<-ho]at e1;rw[aLt hx']at e2;have hv0:¬o.getD q 0<0:=by have:=hpos q om;omega
   have ih':=ih (i+1) m (o++[o.getD q 0]) p (o.length+1) e1.symm (by rw[e2,<-hp]) sm om om;rw[cs1 i]at ih';simp only[hs]at loop_c;clear ih e1 e2 ho hp hs hx hx' hpos hv;generalize numL (sigs a cl)=w at *;generalize(aU (sigs a cl)).length=z at *;generalize o.getD q 0=y at *
   simp-implicitDefEqProofs (maxSteps:=9^7) (disch:=try exact Dz) only[↓DN,↓kAsg,↓kRet,UP,simprocAttr,hc,hv0,↓loop_c,↓ih',uC,sN,Tryz.f145]
theorem DP(hn:5<=n)(a:Aut)(ha:AOK a)(cl:List Int)(hcl:cl.length=a.nx.length)(hL:2^60<=L):aA env L n 145 [.agg [nI a.al,.d (.ivs a.nx.length (aI a.nx)),.d (.ivs a.ac.length (aD a.ac))],.d (.ivs cl.length (ints cl))] []=some (.tup [.d (.ivs (numL (sigs a cl)).length (ints (numL (sigs a cl)))),.d (.int .i64 (aU (sigs a cl)).length)],[]):=by
 have h12:=(aV ha).2.2.2.1;have loop_c:=fun {R n k} hn=> @YY R L n hn hL a ha cl hcl k a.nx.length 0 L [] 0 0 (by rw[List.take_zero];rfl) (by rw[List.take_zero];rfl) rfl om om;have e:ints []=[]:=rfl;rw[e]at loop_c;simp only[Ap]at loop_c;have hz:(aU (sigs a cl)).length<=12:=by have:=oQ (sigs a cl);rw[dW]at this;omega
 have hw:(numL (sigs a cl)).length<=12:=by rw[A3,dW];omega
 generalize numL (sigs a cl)=w at *;generalize(aU (sigs a cl)).length=z at *;have e4:(ints w).take w.length=ints w:=by rw[cZ (Ab _)]
 obtain _|n:=n;omega
 simp-implicitDefEqProofs (maxSteps:=9^7) (disch:=try exact Dz) only[↓DN,↓kAsg,↓kRet,UP,simprocAttr,e4,↓loop_c,aHb,W5,Tryz.f145]
theorem aHe:type_of% fun {L} a ha cl hcl hL=>ks fun hn=> @DP L _ hn a ha cl hcl hL:=fun {L} a ha cl hcl hL=>ks fun hn=> @DP L _ hn a ha cl hcl hL
theorem TB(hn:2<=n)(hL:2^60<=L){a:Aut}(ha:AOK a){k:KE R}:∀(t i m:Nat) (o:List Int) (len:Nat) (ho:o=(cl0 a).take i) (hlen:len=o.length) (hi:i+t=a.ac.length) (hm:t<m),
  aS env (aA env L n) L 0 [] Bz26 (nD 0) (U1 (Z4 (Z1 (U32 (U4 (U2 ([]))))))) m (Y1 (.ptr 0 0 0::.d .nils::nI 0::.sl 1 0 0 len::nI i::Y32 (Y4 (Y2 ([]))))) [.box [nI a.al,.d (.ivs a.nx.length (aI a.nx)),.d (.ivs a.ac.length (aD a.ac))],.arr (ints o) 1 0] k
  =k (.exit 0) (Y1 (.ptr 0 0 0::.d .nils::nI 0::.sl 1 0 0 (cl0 a).length::nI (a.ac.length)::Y32 (Y4 (Y2 ([]))))) [.box [nI a.al,.d (.ivs a.nx.length (aI a.nx)),.d (.ivs a.ac.length (aD a.ac))],.arr (ints (cl0 a)) 1 0]:=by
 obtain⟨_,_,a1,a2,a3⟩:=aV ha;have hcl:(cl0 a).length=a.ac.length:=As _;intro t
 induction t with
 |zero=>
  intro i m o len ho hlen hi hm;obtain _|m:=m;omega;obtain rfl:i=a.ac.length:=om;rw[Cd om]at ho;subst hlen;subst ho;generalize(cl0 a)=w at *
  simp-implicitDefEqProofs (maxSteps:=9^7) (disch:=try exact Dz) only[↓DN,↓kRet,UP,simprocAttr,Ah,sJ,qT,Tryz.f123]
 |succ t ih=>
  intro i m o len ho hlen hi hm;obtain _|m:=m;omega;have hk:i<a.ac.length:=om;have hol:o.length=i:=by rw[ho,Bs];omega
  have hc:(i:Int)<a.ac.length:=om;have hi0:(0:Int)<=i:=om;have hl4:o.length<=4294967290:=om
  have e:(cl0 a).take (i+1)=o++[if a.ac.getD i false=true then 1 else 0]:=by
   rw[Ds,<-ho,Ae om];unfold cl0;rw[Dx,Aa,Ae hk];rfl
  subst hlen
  by_cases hb:a.ac.getD i false=true
  ·rw[if_pos hb]at e;have ih':=ih (i+1) m (o++[1]) (o.length+1) e.symm sm om om;rw[cs1 i]at ih';clear ih e ho;generalize(cl0 a)=w at *
   simp-implicitDefEqProofs (maxSteps:=9^7) (disch:=try exact Dz) only[↓DN,↓kAsg,↓kRet,UP,simprocAttr,LA,hc,hi0,hb,hk,↓ih',sJ,qT,Tryz.f123]
  ·rw[if_neg hb]at e;have ih':=ih (i+1) m (o++[0]) (o.length+1) e.symm sm om om;rw[cs1 i]at ih';clear ih e ho;generalize(cl0 a)=w at *
   simp-implicitDefEqProofs (maxSteps:=9^7) (disch:=try exact Dz) only[↓DN,↓kAsg,↓kRet,UP,simprocAttr,LA,hc,hi0,hb,hk,↓ih',sJ,qT,Tryz.f123]
theorem VN(hn:7<=n)(hL:2^60<=L){a:Aut}(ha:AOK a){k:KE R}:∀(t m:Nat) (cl:List Int) (c:Nat) (hc:Cls a cl) (h0:c=0\/c=(aU cl).length) (hj:a.nx.length<t+c) (hle:c<=a.nx.length) (hm:t<m),
  aS env (aA env L n) L 0 [] Bz26 (nD 1) (U1 (Z4 (Z1 (U1 (Z2 (U32 (U2 (U1 ([]))))))))) m (Y1 (.ptr 0 0 0::.d .nils::nI 0::.d (.ivs (numL (sigs a cl)).length (ints (numL (sigs a cl))))::nI (a.ac.length)::Y1 (nI c::nI ((aU (sigs a cl)).length:Int)::Y32 (Y2 (Y1 ([])))))) [.box [nI a.al,.d (.ivs a.nx.length (aI a.nx)),.d (.ivs a.ac.length (aD a.ac))]] k
  =k (.exit 2) (Y1 (.ptr 0 0 0::.d .nils::nI 0::.d (.ivs (clsG a t cl c).length (ints (clsG a t cl c)))::nI (a.ac.length)::Y1 (nI ((aU (clsG a t cl c)).length:Int)::nI ((aU (clsG a t cl c)).length:Int)::Y32 (Y2 (Y1 ([])))))) [.box [nI a.al,.d (.ivs a.nx.length (aI a.nx)),.d (.ivs a.ac.length (aD a.ac))]]:=by
 obtain⟨_,_,a1,a2,a3⟩:=aV ha;intro t
 induction t with
 |zero=>
  intro m cl c hc h0 hj hle hm;omega
 |succ t ih=>
  intro m cl c hc h0 hj hle hm;obtain _|m:=m;omega;have hn':=aIg ha hc;have hle2:=oQ (sigs a cl);rw[dW]at hle2;have hnl:(numL (sigs a cl)).length=a.nx.length:=by rw[A3,dW]
  have hfn:(aU (numL (sigs a cl))).length=(aU (sigs a cl)).length:=(PC (JL (sigs a cl))).2;unfold clsG
  by_cases he:(aU (sigs a cl)).length=c
  ·rw[if_pos he,hfn,he];clear ih;generalize numL (sigs a cl)=w at *
   simp-implicitDefEqProofs (maxSteps:=9^7) (disch:=try exact Dz) only[↓DN,↓kRet,UP,simprocAttr,Ah,CI,zD,Tryz.f123]
  ·rw[if_neg he]
   have hge:c<=(aU (sigs a cl)).length:=by
    rcases h0 with h0|h0
    ·omega
    ·have:=Q9 (sigs a cl) (fun s=>s.headD 0);rw[TX hc]at this;omega
   have hpos:0<(aU (sigs a cl)).length:=om;have ih':=ih m (numL (sigs a cl)) (aU (sigs a cl)).length hn' (.inr hfn.symm) om hle2 om;have kc_c:=@aHe L a ha (numL (sigs a cl)) hnl hL;have hlt:(c:Int)<(aU (sigs a cl)).length:=om;clear ih hn' hfn hle2 h0;generalize clsG a t (numL (sigs a cl)) (aU (sigs a cl)).length=z at *;generalize numL (sigs a (numL (sigs a cl)))=w2 at *;generalize(aU (sigs a (numL (sigs a cl)))).length=f2 at *;generalize numL (sigs a cl)=w at *;generalize(aU (sigs a cl)).length=f1 at *
   simp-implicitDefEqProofs (maxSteps:=9^7) (disch:=try exact Dz) only[↓DN,↓kRet,UP,simprocAttr,hlt,↓kc_c,↓ih',CI,zD,Tryz.f123]
theorem NO(hn:9<=n)(a:Aut)(ha:AOK a)(hL:2^60<=L):aA env L n 123 [.agg [nI a.al,.d (.ivs a.nx.length (aI a.nx)),.d (.ivs a.ac.length (aD a.ac))]] []=some (.tup [.d (.ivs (bX a).length (ints (bX a))),.d (.int .i64 (aU (bX a)).length)],[]):=by
 obtain⟨_,_,a1,a2,a3⟩:=aV ha;have hcl:(cl0 a).length=a.nx.length:=by unfold cl0;rw[As,a3]
 have loop_c:=fun {R n k} hn=> @TB R L n hn hL a ha k a.ac.length 0 L [] 0 (by rw[List.take_zero]) rfl om om;have loop_d:=fun {R n k} hn=> @VN R L n hn hL a ha k (a.nx.length+1) L (cl0 a) 0 (aJE ha) (.inl rfl) om om om;have kc_c:=fun {R:Type} {n:Nat} {k:KA R} (hn:5<=n)=> @oJ R env (aA env L n) [.box [nI a.al,.d (.ivs a.nx.length (aI a.nx)),.d (.ivs a.ac.length (aD a.ac))],.arr (ints (cl0 a)) 1 0] [.arr (ints (cl0 a)) 1 0] [.ice (ints (cl0 a)) 1 0] [.box [nI a.al,.d (.ivs a.nx.length (aI a.nx)),.d (.ivs a.ac.length (aD a.ac))],.ice (ints (cl0 a)) 1 0] 145 [.agg [nI a.al,.d (.ivs a.nx.length (aI a.nx)),.d (.ivs a.ac.length (aD a.ac))],.sl 1 0 0 (cl0 a).length] [.agg [nI a.al,.d (.ivs a.nx.length (aI a.nx)),.d (.ivs a.ac.length (aD a.ac))],.d (.ivs (cl0 a).length (ints (cl0 a)))] _ k [1] [1] yV rfl kr rfl (by simp[d5,frzA,frzL,eI,frz,frz0,aF,mapA,aJ,deep,eN,cZ]) rfl (@DP L n hn a ha (cl0 a) hcl hL) rfl sm rfl;have e:ints []=[]:=rfl;have ez:clsG a (a.nx.length+1) (cl0 a) 0=bX a:=rfl;rw[e]at loop_c;rw[ez]at loop_d;simp only[Ap]at loop_c loop_d;clear ez;have hw:=XD ha;generalize numL (sigs a (cl0 a))=w0 at *;generalize(aU (sigs a (cl0 a))).length=f0 at *;generalize(aU (bX a)).length=f at *;generalize bX a=w at *;generalize(cl0 a)=z at *;have e4:(ints z).take z.length=ints z:=by rw[cZ (Ab _)]
 obtain _|n:=n;omega
 simp-implicitDefEqProofs (maxSteps:=9^7) (disch:=try exact Dz) only[↓DN,↓kAsg,↓kRet,UP,simprocAttr,↓loop_c,↓loop_d,↓kc_c,aEM,RO,Tryz.f123]
theorem aE7:type_of% fun {L} a ha hL=>ks fun hn=> @NO L _ hn a ha hL:=fun {L} a ha hL=>ks fun hn=> @NO L _ hn a ha hL
end
end Ev
end Go.Proofs.YthlkcebdfbjdoaaGreat
