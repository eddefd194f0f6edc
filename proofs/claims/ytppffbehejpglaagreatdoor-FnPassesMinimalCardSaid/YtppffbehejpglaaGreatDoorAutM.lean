/-
  Lent calls: what is handed over is read off memory.
-/
import Derived.Test.YtppffbehejpglaaGreatDoorEvWalk
import Derived.Test.YtppffbehejpglaaGreatDoorTop
set_option linter.unusedSimpArgs false
set_option linter.unusedVariables false
set_option linter.unusedSectionVars false
set_option maxRecDepth 8000
set_option maxHeartbeats 4000000
namespace Go.Proofs.YtppffbehejpglaaGreatDoor
namespace Ev
section
def fS(f:A->Option D):List A->Option (List D)
 | []=>some []
 |a::asx=>match f a,fS f asx with
  |some x,some xs=>some (x::xs)
  |_,_=>none
def rd0(h:H):A->Option D
 |.d x=>some x
 |.sl id gen off len=>match h[id]? with
  |some (.arr cs esz g)=>if g=gen/\off+len*esz<=cs.length then some (.ivs len ((cs.drop off).take (len*esz)))else none
  |some (.ice cs esz g)=>if g=gen/\off+len*esz<=cs.length then some (.ivs len ((cs.drop off).take (len*esz)))else none
  |_=>none
 |_=>none
def rd1(h:H):A->Option D
 |.sl id gen off len=>match h[id]? with
  |some (.vec cs esz g)=>if g=gen/\off+len*esz<=cs.length then(fS (rd0 h) cs).map fun ds=>.ivs len ((ds.drop off).take (len*esz))else none
  |_=>rd0 h (.sl id gen off len)
 |.clo f caps=>(fS (rd0 h) caps).map (.fn f)
 |a=>rd0 h a
theorem UB{f:A->Option D}:∀ {asx:List A} {ds:List D},fS f asx=some ds->ds.length=asx.length
 | [],ds,h=>by simp only[fS,Option.some.injEq]at h;subst h;rfl
 |a::asx,ds,h=>by
  simp only[fS]at h
  split at h
  ·rename_i x xs h1 h2
   simp only[Option.some.injEq]at h;subst h;simp[UB h2]
  ·cases h
def Iced(h h':H):Prop:=∀i:Nat,h'[i]? =h[i]?\/(∃cs e g,h[i]? =some (.arr cs e g)/\h'[i]? =some (.ice cs e g))\/(∃cs ds e g,h[i]? =some (.vec cs e g)/\h'[i]? =some (.ice ds e g)/\fS (rd0 h) cs=some ds)
theorem aJF(h:H):Iced h h:=fun _=>.inl rfl
theorem aND{h0 h:H}(hi:Iced h0 h){id:Nat}{cs:List D}{e g:Nat}(h1:h0[id]? =some (.arr cs e g))(hl:id<h.length):Iced h0 (h.set id (.ice cs e g)):=by
 intro i
 by_cases e1:id=i
 ·subst e1;exact .inr (.inl ⟨cs,e,g,h1,by simp[hl]⟩)
 ·rw[Dq e1];exact hi i
theorem aNn{h0 h:H}(hi:Iced h0 h){id:Nat}{cs:List A}{ds:List D}{e g:Nat}(h1:h0[id]? =some (.vec cs e g))(hd:fS (rd0 h0) cs=some ds)(hl:id<h.length):Iced h0 (h.set id (.ice ds e g)):=by
 intro i
 by_cases e1:id=i
 ·subst e1;exact .inr (.inr ⟨cs,ds,e,g,h1,by simp[hl],hd⟩)
 ·rw[Dq e1];exact hi i
theorem uE{α:Type}{l:List α}{i:Nat}{a:α}(h:l[i]? =some a):i<l.length:=(Aw.1 h).1
theorem aHH{h0:H}(n:Nat){h:H}(hi:Iced h0 h){a:A}{x:D}(hx:rd0 h0 a=some x):∃h',frz n h a=some (x,h')/\Iced h0 h'/\∀(i:Nat) (cs:List A) (e g:Nat),h[i]? =some (.vec cs e g)->h'[i]? =some (.vec cs e g):=by
 cases a with
 |d y=>
  simp only[rd0,Option.some.injEq]at hx;subst hx;exact⟨h,by cases n<;>rfl,hi,fun _ _ _ _ h=>h⟩
 |sl id gen off len=>
  simp only[rd0]at hx
  have key:∀(o:O),h[id]? =some o->(∀cs e g,o≠.vec cs e g)->frz n h (.sl id gen off len)=frz0 h (.sl id gen off len):=by
   intro o ho hv
   cases n with
   |zero=>rfl
   |succ n=>
    simp only[frz,ho]
    cases o<;>first|rfl|exact absurd rfl (hv _ _ _)
  cases h1:h0[id]? with
  |none=>rw[h1]at hx;cases hx
  |some o=>
   rw[h1]at hx
   cases o with
   |arr cs e g=>
    simp only[]at hx
    split at hx
    ·rename_i hc
     simp only[Option.some.injEq]at hx;subst hx
     rcases hi id with q|⟨cs',e',g',q1,q2⟩|⟨cs',ds,e',g',q1,q2,q3⟩
     ·rw[h1]at q;refine⟨_,by rw[key _ q (by intro _ _ _ h;cases h)];simp only[frz0,q];rw[if_pos hc],aND hi h1 (uE q),fun i cs' e' g' hv=> ?_⟩;rw[Dq (by intro e;subst e;rw[q]at hv;cases hv)];exact hv
     ·rw[h1]at q1;cases q1;exact⟨h,by rw[key _ q2 (by intro _ _ _ h;cases h)];simp only[frz0,q2];rw[if_pos hc],hi,fun _ _ _ _ h=>h⟩
     ·rw[h1]at q1;cases q1
    ·cases hx
   |ice cs e g=>
    simp only[]at hx
    split at hx
    ·rename_i hc
     simp only[Option.some.injEq]at hx;subst hx
     rcases hi id with q|⟨cs',e',g',q1,q2⟩|⟨cs',ds,e',g',q1,q2,q3⟩
     ·rw[h1]at q;exact⟨h,by rw[key _ q (by intro _ _ _ h;cases h)];simp only[frz0,q];rw[if_pos hc],hi,fun _ _ _ _ h=>h⟩
     ·rw[h1]at q1;cases q1
     ·rw[h1]at q1;cases q1
    ·cases hx
   |_=>cases hx
 |_=>simp[rd0]at hx
theorem aD8{h0:H}(n:Nat):∀ {asx:List A} {ds:List D} {h:H},Iced h0 h->fS (rd0 h0) asx=some ds->∃h',eD (frz n) h asx=some (ds,h')/\Iced h0 h'/\∀(i:Nat) (cs:List A) (e g:Nat),h[i]? =some (.vec cs e g)->h'[i]? =some (.vec cs e g)
 | [],ds,h,hi,hr=>by simp only[fS,Option.some.injEq]at hr;subst hr;exact⟨h,rfl,hi,fun _ _ _ _ h=>h⟩
 |a::asx,ds,h,hi,hr=>by
  simp only[fS]at hr
  split at hr
  ·rename_i x xs h1 h2
   simp only[Option.some.injEq]at hr;subst hr;obtain⟨k1,e1,i1,v1⟩:=aHH n hi h1;obtain⟨k2,e2,i2,v2⟩:=aD8 n i1 h2;exact⟨k2,by simp only[eD,e1,e2],i2,fun i cs e g hv=>v2 i cs e g (v1 i cs e g hv)⟩
  ·cases hr
theorem aBy{h0:H}(n:Nat){h:H}(hi:Iced h0 h){a:A}{x:D}(hx:rd1 h0 a=some x):∃h',frz (n+1) h a=some (x,h')/\Iced h0 h':=by
 cases a with
 |sl id gen off len=>
  have leaf:rd0 h0 (.sl id gen off len)=some x->∃h',frz (n+1) h (.sl id gen off len)=some (x,h')/\Iced h0 h':=fun h1=>by
   obtain⟨k,e,i,_⟩:=aHH (n+1) hi h1;exact⟨k,e,i⟩
  simp only[rd1]at hx
  cases h1:h0[id]? with
  |none=>rw[h1]at hx;exact leaf hx
  |some o=>
   rw[h1]at hx
   cases o with
   |vec cs e g=>
    simp only[]at hx
    split at hx
    ·rename_i hc
     cases hr:fS (rd0 h0) cs with
     |none=>rw[hr]at hx;cases hx
     |some ds=>
      rw[hr]at hx;simp only[Bb,Option.some.injEq]at hx;subst hx;have hl:=UB hr
      rcases hi id with q|⟨cs',e',g',q1,q2⟩|⟨cs',ds',e',g',q1,q2,q3⟩
      ·rw[h1]at q;obtain⟨k,e1,i1,v1⟩:=aD8 n hi hr;have q':=v1 _ _ _ _ q;refine⟨k.set id (.ice ds e g),?_,aNn i1 h1 hr (uE q')⟩;simp only[frz,q];rw[if_pos hc,e1];simp only[q',and_self,if_true]
      ·rw[h1]at q1;cases q1
      ·rw[h1]at q1;cases q1;rw[hr]at q3;cases q3;refine⟨h,?_,hi⟩;simp only[frz,q2,frz0];rw[if_pos om]
    ·cases hx
   |_=>exact leaf hx
 |clo f caps=>
  simp only[rd1]at hx
  cases hr:fS (rd0 h0) caps with
  |none=>rw[hr]at hx;cases hx
  |some ds=>
   rw[hr]at hx;simp only[Bb,Option.some.injEq]at hx;subst hx;obtain⟨k,e1,i1,_⟩:=aD8 n hi hr;exact⟨k,by simp only[frz,e1],i1⟩
 |d y=>
  obtain⟨k,e,i,_⟩:=aHH (n+1) hi (a:=.d y) hx;exact⟨k,e,i⟩
 |ptr _ _ _=>simp[rd1,rd0]at hx
 |mp _=>simp[rd1,rd0]at hx
 |agg _=>simp[rd1,rd0]at hx
 |tup _=>simp[rd1,rd0]at hx
 |junk=>simp[rd1,rd0]at hx
def kids(h:H)(i:Nat):List Nat:=match h[i]? with
 |some (.box cs)=>idsL cs
 |some (.vec cs _ _)=>idsL cs
 |_=>[]
inductive Okay(h:H):Nat->Prop where
 |mk (i:Nat) (o:O) (hi:h[i]? =some o) (hv:o≠.void) (hk:∀j∈kids h i,Okay h j):Okay h i
def wgt:H->Nat
 | []=>0
 |.box cs::h=>(idsL cs).length+wgt h
 |.vec cs _ _::h=>(idsL cs).length+wgt h
 |_::h=>wgt h
def wgtN(h:H)(acc:List Nat):Nat:=((List.range h.length).filter fun i=> !acc.contains i).foldr (fun i n=>(kids h i).length+n) 0
theorem aXr:∀(h:H),wgt h=(List.range h.length).foldr (fun i n=>(kids h i).length+n) 0:=by
 intro h
 induction h with
 |nil=>rfl
 |cons o h ih=>
  rw[Ae,List.range_succ_eq_map,List.foldr_cons,List.foldr_map];have e:∀i,kids (o::h) (i+1)=kids h i:=fun i=>by simp only[kids,Ay]
  simp only[e,<-ih]
  cases o<;>simp[wgt,kids]
theorem NB{f:Nat->Nat}{p:Nat->Bool}:∀(l:List Nat),(l.filter p).foldr (fun i n=>f i+n) 0<=l.foldr (fun i n=>f i+n) 0
 | []=>by simp
 |a::l=>by
  have:=NB (f:=f) (p:=p) l;simp only[List.filter_cons]
  split
  ·simp only[List.foldr_cons];omega
  ·simp only[List.foldr_cons];omega
theorem aVB(h:H)(acc:List Nat):wgtN h acc<=wgt h:=by rw[aXr];exact NB _
theorem aCQ{f:Nat->Nat}{acc:List Nat}{i:Nat}(hn:i∉acc):∀(l:List Nat),l.Nodup->i∈l->(l.filter fun k=> !(acc++[i]).contains k).foldr (fun i n=>f i+n) 0+f i=(l.filter fun k=> !acc.contains k).foldr (fun i n=>f i+n) 0
 | [],_,h=>by simp at h
 |a::l,hd,hm=>by
  obtain⟨ha,hl⟩:=Dx.1 hd
  by_cases e:a=i
  ·subst e
   have h1:(l.filter fun k=> !(acc++[a]).contains k)=l.filter fun k=> !acc.contains k:=by
    apply List.filter_congr;intro x hx;have:x≠a:=fun h=>ha (h▸hx);simp[this]
   have h2:((a::l).filter fun k=> !(acc++[a]).contains k)=(l.filter fun k=> !acc.contains k):=by
    rw[List.filter_cons_of_neg smp,h1]
   have h3:((a::l).filter fun k=> !acc.contains k)=a::(l.filter fun k=> !acc.contains k):=by
    rw[List.filter_cons_of_pos (by simp[hn])]
   rw[h2,h3,List.foldr_cons];omega
  ·have hm':i∈l:=by simpa [Ne.symm e]using hm
   have ih:=aCQ (f:=f) hn l hl hm'
   by_cases hc:a∈acc
   ·rw[List.filter_cons_of_neg (by simp[hc]),List.filter_cons_of_neg (by simp[hc])];exact ih
   ·rw[List.filter_cons_of_pos (by simp[hc,e]),List.filter_cons_of_pos (by simp[hc]),List.foldr_cons,List.foldr_cons];omega
theorem aMI{h:H}:∀(n:Nat) (todo acc:List Nat),(∀i∈todo,Okay h i)->(∀i∈acc,∀j∈kids h i,j∈acc\/j∈todo)->(∀i∈acc,Okay h i)->todo.length+wgtN h acc<=n->
  (∀i∈todo,i∈aF n h todo acc)/\(∀i∈acc,i∈aF n h todo acc)/\(∀i∈aF n h todo acc,∀j∈kids h i,j∈aF n h todo acc)/\(∀i∈aF n h todo acc,Okay h i):=by
 intro n
 induction n with
 |zero=>
  intro todo acc ht ha hk hn;have:todo=[]:=by cases todo<;>simp_all
  subst this;simp only[aF];exact⟨by simp,fun i hi=>hi,fun i hi j hj=>by simpa using ha i hi j hj,hk⟩
 |succ n ih=>
  intro todo acc ht ha hk hn
  cases todo with
  |nil=>
   simp only[aF];exact⟨by simp,fun i hi=>hi,fun i hi j hj=>by simpa using ha i hi j hj,hk⟩
  |cons i todo=>
   by_cases hc:acc.contains i=true
   ·have e:aF (n+1) h (i::todo) acc=aF n h todo acc:=by simp only[aF,hc,if_true]
    rw[e];have hm:i∈acc:=by simpa using hc
    obtain⟨r1,r2,r3,r4⟩:=ih todo acc (fun j hj=>ht j (by simp[hj])) (fun j hj k hk'=>by
     rcases ha j hj k hk' with h1|h1
     ·exact .inl h1
     ·rcases Au.1 h1 with h2|h2
      ·subst h2;exact .inl hm
      ·exact .inr h2) hk (by simp only[Ae]at hn;omega)
    refine⟨fun j hj=> ?_,r2,r3,r4⟩
    rcases Au.1 hj with h1|h1
    ·subst h1;exact r2 _ hm
    ·exact r1 j h1
   ·have hm:i∉acc:=by simpa using hc
    obtain⟨_,o,ho,hv,hkd⟩:=ht i smp;have hil:i<h.length:=uE ho
    have e:aF (n+1) h (i::todo) acc=aF n h (todo++kids h i) (acc++[i]):=by
     simp only[aF,hc,if_false,ho,kids,Al]
     cases o<;>first|rfl|(simp;done)|exact absurd rfl hv
    rw[e];have hw:wgtN h (acc++[i])+(kids h i).length=wgtN h acc:=aCQ (f:=fun i=>(kids h i).length) hm (List.range h.length) List.nodup_range (by simpa using hil)
    obtain⟨r1,r2,r3,r4⟩:=ih (todo++kids h i) (acc++[i]) (fun j hj=>by
     rcases Ak.1 hj with h1|h1
     ·exact ht j (by simp[h1])
     ·exact hkd j h1) (fun j hj k hk'=>by
     rcases Ak.1 hj with h1|h1
     ·rcases ha j h1 k hk' with h2|h2
      ·exact .inl (by simp[h2])
      ·rcases Au.1 h2 with h3|h3
       ·subst h3;exact .inl smp
       ·exact .inr (by simp[h3])
     ·simp only[Bf]at h1;subst h1;exact .inr (by simp[hk'])) (fun j hj=>by
     rcases Ak.1 hj with h1|h1
     ·exact hk j h1
     ·simp only[Bf]at h1;subst h1;exact ht _ smp) (by simp only[Af,Ae]at hn|-;omega)
    refine⟨fun j hj=> ?_,fun j hj=>r2 j (by simp[hj]),r3,r4⟩
    rcases Au.1 hj with h1|h1
    ·subst h1;exact r2 _ smp
    ·exact r1 j (by simp[h1])
theorem aA3{h:H}{ids:List Nat}(hk:∀i∈ids,Okay h i)(hw:ids.length+wgt h<=1099511627776):closed h (aF aI h ids []) ids=true/\(∀i∈ids,i∈aF aI h ids [])/\∀i∈aF aI h ids [],∀j∈kids h i,j∈aF aI h ids []:=by
 have hle:=aVB h [];obtain⟨r1,_,r3,_⟩:=aMI aI ids [] hk smp smp (by unfold aI;omega);refine⟨?_,r1,r3⟩;simp only[closed,Ar,Bk,List.contains_eq_mem,decide_eq_true_eq];refine⟨r1,fun i hi=> ?_⟩;have:=r3 i hi;unfold kids at this
 cases ho:h[i]? with
 |none=>rfl
 |some o=>
  rw[ho]at this
  cases o<;>first|rfl|(simp only[Bk,List.contains_eq_mem,decide_eq_true_eq];exact this)
section
variable{h:H}{ord:List Nat}
end
section
variable{R:Type}{E:Env}{call:aZ}{h:H}{f:FuncId}{args:List A}{k:KA R}
mutual
theorem aI1{f g q:Nat->Option Nat}(hq:∀i,(g i).bind f=q i):∀a:A,mapA f (mapA g a)=mapA q a
 |.d x=>by simp only[mapA]
 |.sl id gen off len=>by
  simp only[mapA];have:=hq id
  cases hg:g id with
  |none=>rw[hg]at this;rw[<-this];simp only[mapA,Option.bind_none]
  |some j=>rw[hg]at this;simp only[mapA,<-this,Dl]
 |.ptr id gen off=>by
  simp only[mapA];have:=hq id
  cases hg:g id with
  |none=>rw[hg]at this;rw[<-this];simp only[mapA,Option.bind_none]
  |some j=>rw[hg]at this;simp only[mapA,<-this,Dl]
 |.mp id=>by
  simp only[mapA];have:=hq id
  cases hg:g id with
  |none=>rw[hg]at this;rw[<-this];simp only[mapA,Option.bind_none]
  |some j=>rw[hg]at this;simp only[mapA,<-this,Dl]
 |.clo c caps=>by simp only[mapA,lG hq caps]
 |.agg cs=>by simp only[mapA,lG hq cs]
 |.tup cs=>by simp only[mapA,lG hq cs]
 |.junk=>by simp only[mapA]
theorem lG{f g q:Nat->Option Nat}(hq:∀i,(g i).bind f=q i):∀asx:List A,aG f (aG g asx)=aG q asx
 | []=>by simp only[aG]
 |a::asx=>by simp only[aG,aI1 hq a,lG hq asx]
end
theorem aSF{f g q:Nat->Option Nat}(hq:∀i,(g i).bind f=q i)(o:O):mapO f (mapO g o)=mapO q o:=by
 cases o<;>simp only[mapO,lG hq]
end
end
section
theorem aRz{h:H}{ids P T:List Nat}(hfix:P++T=ids++P.flatMap (kids h))(hT:∀i∈T,kids h i=[])(hprog:∀k,k<P.length->k<ids.length+((P.take k).flatMap (kids h)).length)(hnd:(P++T).Nodup)(hv:∀i∈P++T,∃o,h[i]? =some o/\o≠.void){n:Nat}(hf:(P++T).length<=n):aF n h ids []=P++T:=by
 generalize hL:P++T=L at *
 have hTf:T.flatMap (kids h)=[]:=by
  rw[List.flatMap_eq_nil_iff];exact hT
 have hLf:L.flatMap (kids h)=P.flatMap (kids h):=by rw[<-hL,List.flatMap_append,hTf,Ai]
 have fix:L=ids++L.flatMap (kids h):=by rw[hLf];exact hfix
 have prog:∀k,k<L.length->k<ids.length+((L.take k).flatMap (kids h)).length:=by
  intro k hk
  by_cases h1:k<P.length
  ·have:=hprog k h1;have e:L.take k=P.take k:=by rw[<-hL,List.take_append_of_le_length om]
   rw[e];exact this
  ·have e:(L.take k).flatMap (kids h)=P.flatMap (kids h):=by
    rw[<-hL,List.take_append,List.flatMap_append,Ce om]
    have:(T.take (k-P.length)).flatMap (kids h)=[]:=by
     rw[List.flatMap_eq_nil_iff];intro i hi;exact hT i (List.mem_of_mem_take hi)
    rw[this,Ai]
   rw[e];have:=congrArg List.length hfix;rw[Af]at this;omega
 have key:∀(n k:Nat),k<=L.length->L.length-k<=n->aF n h ((ids++(L.take k).flatMap (kids h)).drop k) (L.take k)=L:=by
  intro n
  induction n with
  |zero=>
   intro k hk hn;have:k=L.length:=om;subst this;simp only[aF,Cu]
  |succ n ih=>
   intro k hk hn
   by_cases hkl:k=L.length
   ·subst hkl;rw[Cu,<-fix,Bu];simp only[aF]
   ·have hk':k<L.length:=om;have hp:=prog k hk';have hX:k<(ids++(L.take k).flatMap (kids h)).length:=by rw[Af];exact hp
    have hget:(ids++(L.take k).flatMap (kids h))[k]'hX=L[k]:=by
     have e:L=(ids++(L.take k).flatMap (kids h))++(L.drop k).flatMap (kids h):=by
      rw[Ao,<-List.flatMap_append,List.take_append_drop];exact fix
     have e2:L[k]? =(ids++(L.take k).flatMap (kids h))[k]?:=by
      conv=>lhs;rw[e]
      rw[Be hX]
     rw[Ad hk',Ad hX]at e2;exact(Option.some.inj e2).symm
    rw[Dt hX,hget];obtain⟨o,ho,hov⟩:=hv L[k] (At hk')
    have hni:L[k]∉L.take k:=by
     intro hm;obtain⟨j,hj,he⟩:=Bz hm;rw[Bi]at hj;rw[List.getElem_take]at he;exact(List.pairwise_iff_getElem.1 hnd) j k om hk' om he
    have hc:(L.take k).contains L[k]=false:=by simpa using hni
    have hstep:aF (n+1) h (L[k]::(ids++(L.take k).flatMap (kids h)).drop (k+1)) (L.take k)=aF n h ((ids++(L.take k).flatMap (kids h)).drop (k+1)++kids h L[k]) (L.take k++[L[k]]):=by
     simp only[aF,hc,Al,if_false,ho,kids]
     cases o<;>first|rfl|(simp;done)|exact absurd rfl hov
    rw[hstep];have ht:L.take (k+1)=L.take k++[L[k]]:=by rw[Cz,Ad hk'];rfl
    have hd:(ids++(L.take k).flatMap (kids h)).drop (k+1)++kids h L[k]=(ids++(L.take (k+1)).flatMap (kids h)).drop (k+1):=by
     rw[ht,List.flatMap_append,List.flatMap_singleton,<-Ao];exact(List.drop_append_of_le_length hX).symm
    rw[hd,<-ht];exact ih (k+1) om om
 have:=key n 0 om om
 simpa using this
def aC(b:Nat):List (List Int)->List A
 | []=>[]
 |r::rs=>.sl b 0 0 r.length::aC (b+1) rs
def aK(rs:List (List Int)):H:=rs.map fun r=>.arr (r.map (.int .i64)) 1 0
theorem bZ:∀(rs:List (List Int)) (b:Nat),idsL (aC b rs)=List.range' b rs.length
 | [],b=>by simp[aC,idsL]
 |r::rs,b=>by simp[aC,idsL,idsA,bZ rs,Ec]
theorem gA:∀(rs:List (List Int)) (b:Nat),(aC b rs).length=rs.length
 | [],b=>rfl
 |r::rs,b=>by simp[aC,gA rs]
theorem IQ:∀(rs:List (List Int)) (b:Nat) (r:List Int),aC b (rs++[r])=aC b rs++[.sl (b+rs.length) 0 0 r.length]
 | [],b,r=>by simp[aC]
 |q::rs,b,r=>by
  simp only[Ax,aC,IQ rs,Ae];rw[show b+1+rs.length=b+(rs.length+1) by omega]
theorem aQ6(rs:List (List Int))(r:List Int):aK rs++[.arr (r.map (.int .i64)) 1 0]=aK (rs++[r]):=by simp[aK]
theorem cG(rs:List (List Int)):(aK rs).length=rs.length:=by simp[aK]
theorem YP{rs:List (List Int)}{i:Nat}{r:List Int}(h:rs[i]? =some r):(aK rs)[i]? =some (.arr (r.map (.int .i64)) 1 0):=by simp[aK,h]
theorem eL{f:Nat->Option Nat}{c:Nat}:∀ {rs:List (List Int)} {b d:Nat},(∀i,i<rs.length->f (b+i)=some (d+i))->aG f (aC b rs)=aC d rs
 | [],b,d,_=>by simp[aC,aG]
 |r::rs,b,d,h=>by
  have h0:=h 0 smp;simp only[By]at h0;simp only[aC,aG,mapA,h0]
  rw[eL (c:=c) (rs:=rs) (b:=b+1) (d:=d+1) fun i hi=>by
   have:=h (i+1) (by simp;omega);rw[show b+1+i=b+(i+1) by omega,this]
   congr 1;omega]
theorem aLG(f:Nat->Option Nat)(rs:List (List Int)):(aK rs).map (mapO f)=aK rs:=by
 simp only[aK,List.map_map]<;>rfl
theorem aKd{h:H}{f:Nat->Option Nat}:∀ {rs:List (List Int)} {b:Nat},(∀i r,rs[i]? =some r->h[b+i]? =some (.arr (r.map (.int .i64)) 1 0))->(List.range' b rs.length).map (fun i=>mapO f (h.getD i default))=aK rs
 | [],b,_=>by simp[aK]
 |r::rs,b,hh=>by
  have h0:=hh 0 r rfl;simp only[By]at h0;simp only[Ae,Ec,Aj,Aa,h0,Bg]
  have:=aKd (h:=h) (f:=f) (rs:=rs) (b:=b+1) fun i q hq=>by
   rw[show b+1+i=b+(i+1) by omega];exact hh (i+1) q (by simpa using hq)
  simp only[Aa]at this;rw[this];rfl
mutual
theorem aUO{f:Nat->Option Nat}:∀a:A,(∀i∈idsA a,f i=some i)->mapA f a=a
 |.d x,_=>by simp only[mapA]
 |.sl id gen off len,h=>by simp only[mapA,h id (by simp[idsA])]
 |.ptr id gen off,h=>by simp only[mapA,h id (by simp[idsA])]
 |.mp id,h=>by simp only[mapA,h id (by simp[idsA])]
 |.clo g caps,h=>by simp only[mapA];rw[fF caps (by simpa only[idsA]using h)]
 |.agg cs,h=>by simp only[mapA];rw[fF cs (by simpa only[idsA]using h)]
 |.tup cs,h=>by simp only[mapA];rw[fF cs (by simpa only[idsA]using h)]
 |.junk,_=>by simp only[mapA]
theorem fF{f:Nat->Option Nat}:∀asx:List A,(∀i∈idsL asx,f i=some i)->aG f asx=asx
 | [],_=>by simp only[aG]
 |a::asx,h=>by
  simp only[idsL,Ak]at h;simp only[aG];rw[aUO a fun i hi=>h i (.inl hi),fF asx fun i hi=>h i (.inr hi)]
end
mutual
def z0A:A->Bool
 |.sl _ g _ _=>g==0
 |.ptr _ g _=>g==0
 |.mp _=>true
 |.clo _ caps=>z0As caps
 |.agg cs=>z0As cs
 |.tup cs=>z0As cs
 |.d _=>true
 |.junk=>true
def z0As:List A->Bool
 | []=>true
 |a::asx=>z0A a&&z0As asx
end
mutual
theorem aSh{nf:Nat}{h:H}(hg:∀i g,bC h i=some g->g=0):∀a:A,z0A a=true->bP nf h a=a
 |.d x,_=>by simp only[bP]
 |.sl id gen off len,hz=>by
  simp only[z0A,beq_iff_eq]at hz;subst hz;simp only[bP,iG]
  split
  ·rfl
  ·cases hgo:bC h id with
   |none=>rfl
   |some g=>have:=hg id g hgo;subst this;simp
 |.ptr id gen off,hz=>by
  simp only[z0A,beq_iff_eq]at hz;subst hz;simp only[bP,MS]
  split
  ·rfl
  ·cases hgo:bC h id with
   |none=>rfl
   |some g=>have:=hg id g hgo;subst this;simp
 |.mp id,hz=>by simp only[bP]
 |.clo g caps,hz=>by simp only[bP];rw[kN hg caps (by simpa only[z0A]using hz)]
 |.agg cs,hz=>by simp only[bP];rw[kN hg cs (by simpa only[z0A]using hz)]
 |.tup cs,hz=>by simp only[bP];rw[kN hg cs (by simpa only[z0A]using hz)]
 |.junk,_=>by simp only[bP]
theorem kN{nf:Nat}{h:H}(hg:∀i g,bC h i=some g->g=0):∀asx:List A,z0As asx=true->aV nf h asx=asx
 | [],_=>by simp only[aV]
 |a::asx,hz=>by
  simp only[z0As,Ar]at hz;simp only[aV];rw[aSh hg a hz.1,kN hg asx hz.2]
end
def z0O:O->Bool
 |.arr _ _ g=>g==0
 |.box cs=>z0As cs
 |.ice _ _ g=>g==0
 |.vec cs _ g=>g==0&&z0As cs
 |.log _=>true
 |.mp _=>true
 |.void=>true
theorem LL{h:H}(hz:h.all z0O=true):∀i g,bC h i=some g->g=0:=by
 intro i g hg;unfold bC at hg
 cases ho:h[i]? with
 |none=>rw[ho]at hg;cases hg
 |some o=>
  have:=Bk.1 hz o (Br ho);rw[ho]at hg
  cases o with
  |arr cs e g'=>simp only[Option.some.injEq]at hg;subst hg;simpa [z0O]using this
  |ice cs e g'=>simp only[Option.some.injEq]at hg;subst hg;simpa [z0O]using this
  |vec cs e g'=>simp only[Option.some.injEq]at hg;subst hg;simp only[z0O,Ar,beq_iff_eq]at this;exact this.1
  |_=>cases hg
theorem DO:∀(asx bs:List A),z0As (asx++bs)=(z0As asx&&z0As bs)
 | [],bs=>by simp[z0As]
 |a::asx,bs=>by simp[z0As,DO asx bs,Bool.and_assoc]
theorem yX:∀(rs:List (List Int)) (b:Nat),z0As (aC b rs)=true
 | [],b=>by simp[aC,z0As]
 |r::rs,b=>by simp[aC,z0As,z0A,yX rs]
theorem MW(rs:List (List Int)):(aK rs).all z0O=true:=by simp[aK,z0O]
def gcO(nf:Nat)(m:List Bool)(s:List A)(h:H):List A×H:=gc nf m s h
def aVc(nf:Nat)(h:H)(ord:List Nat)(s:List A):List A×H:=trim nf h ord s
def aH(q:Nat):List A:=List.replicate q (.d .nils)
theorem aFU(q:Nat):aH (q+1)=.d .nils::aH q:=rfl
theorem aR9(q:Nat):(aH q).length=q:=by simp[aH]
theorem c8:∀q:Nat,idsL (aH q)=[]
 |0=>by simp[aH,idsL]
 |q+1=>by rw[aFU];simp[idsL,idsA,c8 q]
theorem yR:∀q:Nat,z0As (aH q)=true
 |0=>by simp[aH,z0As]
 |q+1=>by rw[aFU];simp[z0As,z0A,yR q]
section
variable{rs:List (List Int)}{q:Nat}
def aU3(nf:Nat)(h:H)(ids:List Nat):List Nat:=dD nf h ids
end
end
theorem aAh{R:Type}{E:Env}{call:aZ}{h:H}{f:FuncId}{args:List A}{r:A}{k:KA R}{id e g e2 g2:Nat}{cs cs2:List D}(hi:h[id]? =some (.arr cs e g))(hid:idsL args=[id])(hm:(E.hint f).mode=0)(hr:idsA r=[])(he:call f (aG (aJ [id]) args) [.arr cs e g]=some (r,[.arr cs2 e2 g2])):
  aX E call h f args k=k r (h.set id (.arr cs2 e2 g2)):=by
 have hre:aF aI h [id] []=[id]:=by
  have e1:aF aI h [id] []=match h[id]? with
   |some (.box cs)=>aF (aI-1) h ([]++idsL cs) ([]++[id])
   |some (.vec cs _ _)=>aF (aI-1) h ([]++idsL cs) ([]++[id])
   |some .void=>aF (aI-1) h [] []
   |some _=>aF (aI-1) h [] ([]++[id])
   |none=>aF (aI-1) h [] []:=rfl
  rw[e1,hi];rfl
 have hpk:pack h [id]=[.arr cs e g]:=by
  simp only[pack,Aj,As,Aa,hi];rfl
 unfold aX;rw[hid,hre,hpk]
 have hc:bY call E.hint [.arr cs e g] f (aG (aJ [id]) args)=some (r,[.arr cs2 e2 g2]):=by
  unfold bY;rw[hm];exact he
 rw[hc]
 have hcl:closed h [id] [id]=true:=by
  simp only[closed,Bx,Cd,hi];simp
 simp only[Ae,Ac,Ab,hcl,and_self,if_true,tA r hr];simp only[bJ,mapO,As,Ai]
structure Aut where
 al:Int
 nx:List (List Int)
 ac:List Bool
 deriving DecidableEq,Inhabited
def rowD(r:List Int):D:=.ivs r.length (ints r)
def aE(rs:List (List Int)):List D:=rs.map rowD
def aD(l:List Bool):List D:=l.map .bool
theorem jU{l:List (List Int)}:(aE l).length=l.length:=by simp[aE]
theorem cU{l:List Bool}:(aD l).length=l.length:=by simp[aD]
theorem iJ{l:List Bool}{k:Nat}(h:l.length<=k):(aD l).take k=aD l:=Ce (by rw[cU];exact h)
theorem H7{l:List Bool}{k:Nat}(h:k<l.length):(((aD l).drop k).map A.d).head? =some (.d (.bool (l.getD k false))):=by
 rw[List.head?_map,Di,aD,Bh,Aa,Ad h];rfl
theorem aJy{l:List Bool}{k:Nat}{v:Bool}(h:k<l.length):bK (aD l) k [.bool v]=aD (l.set k v):=BI _ l k v h
theorem YK{l:List (List Int)}{k:Nat}(h:k<l.length):(((aE l).drop k).map A.d).head? =some (.d (.ivs (l.getD k []).length (ints (l.getD k [])))):=by
 rw[List.head?_map,Di,aE,Bh,Aa,Ad h];rfl
theorem kX{l:List (List Int)}{k:Nat}(h:l.length<=k):(aE l).take k=aE l:=Ce (by rw[jU];exact h)
theorem LA:type_of% (AI @jU (AI @cU (AI @iJ (AI @H7 (AI @YK @kX))))):=
 ⟨@jU,@cU,@iJ,@H7,@YK,@kX⟩
theorem aO2{α:Type}{l:List α}{k:Nat}{v:α}{m:List α}(h:k<l.length):(l.set k v).take (k+1)++m=l.take k++(v::m):=by
 rw[take_set h];simp
theorem YX:env.P.cellsOf 58=1:=kr
theorem P6(rs:List (List Int))(r:List Int):aK rs++[.arr (ints r) 1 0]=aK (rs++[r]):=aQ6 rs r
def aW(rs:List (List Int)):Prop:=rs.length<=4294967296/\∀r∈rs,r.length<=4294967296
theorem pX{rs:List (List Int)}(h:aW rs){k:Nat}(hk:k<rs.length):(rs.getD k []).length<=4294967296:=by
 rw[Aa,Ad hk];exact h.2 _ (At hk)
section
def autO(b:Nat)(rs:List (List Int))(ac:List Bool):H:=.vec (aC (b+2) rs++aH 0) 1 0::.arr (aD ac) 1 0::aK rs
def autA(v:Nat)(al:Int)(n m:Nat):A:=.agg [nI al,.sl v 0 0 n,.sl (v+1) 0 0 m]
def autD(al:Int)(rs:List (List Int))(ac:List Bool):A:=.agg [nI al,.d (.ivs rs.length (aE rs)),.d (.ivs ac.length (aD ac))]
structure Has(h:H)(v:Nat)(rs:List (List Int))(ac:List Bool):Prop where
 vec:h[v]? =some (.vec (aC (v+2) rs++aH 0) 1 0)
 acc:h[v+1]? =some (.arr (aD ac) 1 0)
 row:∀(i:Nat) (r:List Int),rs[i]? =some r->h[v+2+i]? =some (.arr (ints r) 1 0)
theorem TA{b:Nat}{rs:List (List Int)}{ac:List Bool}:(autO b rs ac).length=rs.length+2:=by simp[autO,cG]
theorem aWy{h:H}{rs:List (List Int)}{ac:List Bool}:Has (h++autO h.length rs ac) h.length rs ac:=by
 refine⟨by simp[autO],by simp[autO],fun i r hr=> ?_⟩;rw[Bo om,show h.length+2+i-h.length=i+1+1 by omega];simp only[autO,Ay];exact YP hr
theorem aVU{h h2:H}{v:Nat}{rs:List (List Int)}{ac:List Bool}(k:Has h v rs ac):Has (h++h2) v rs ac:=
 ⟨by rw[Be (uE k.vec)];exact k.vec,by rw[Be (uE k.acc)];exact k.acc,
  fun i r hr=>by rw[Be (uE (k.row i r hr))];exact k.row i r hr⟩
theorem aFP{h:H}{b:Nat}{r:List Int}(hr:h[b]? =some (.arr (ints r) 1 0)):rd0 h (.sl b 0 0 r.length)=some (rowD r):=by
 simp only[rd0,hr,true_and,Ag,Ch,dG,Ab,if_true,Ba,cK,rowD]
theorem aPs{h:H}:∀ {rs:List (List Int)} {b:Nat},(∀(i:Nat) (r:List Int),rs[i]? =some r->h[b+i]? =some (.arr (ints r) 1 0))->fS (rd0 h) (aC b rs)=some (aE rs)
 | [],b,_=>rfl
 |r::rs,b,hh=>by
  have h0:=hh 0 r rfl;simp only[By]at h0
  simp only[aC,fS,aFP h0,aPs (rs:=rs) (b:=b+1) fun i q hq=>by
   rw[show b+1+i=b+(i+1) by omega];exact hh (i+1) q (by simpa using hq)]
  rfl
theorem aXa{h:H}{v:Nat}{rs:List (List Int)}{ac:List Bool}(k:Has h v rs ac):rd1 h (.sl v 0 0 rs.length)=some (.ivs rs.length (aE rs)):=by
 have hl:0+rs.length*1<=(aC (v+2) rs++aH 0).length:=by rw[Af,gA];omega
 have hn:aH 0=[]:=rfl;simp only[rd1,k.vec];rw[if_pos ⟨trivial,hl⟩];simp only[hn,Ai,aPs k.row,Bb,Ba,Ch,kX (Ab _)]
theorem aW7{h:H}{v:Nat}{rs:List (List Int)}{ac:List Bool}(k:Has h v rs ac):rd1 h (.sl (v+1) 0 0 ac.length)=some (.ivs ac.length (aD ac)):=by
 have hl:0+ac.length*1<=(aD ac).length:=by rw[cU];omega
 simp only[rd1,rd0,k.acc];rw[if_pos ⟨trivial,hl⟩];simp only[Ba,Ch,iJ (Ab _)]
theorem rN:∀(h h2:H),wgt (h++h2)=wgt h+wgt h2
 | [],h2=>by simp[wgt]
 |o::h,h2=>by cases o<;>simp[wgt,rN h h2]<;>omega
theorem J7(rs:List (List Int)):wgt (aK rs)=0:=by
 induction rs with
 |nil=>rfl
 |cons r rs ih=>simpa [aK,wgt]using ih
theorem aVY{b:Nat}{rs:List (List Int)}{ac:List Bool}:wgt (autO b rs ac)=rs.length:=by
 simp[autO,wgt,J7,bN,bZ,c8]
def dV:O->List Nat
 |.box cs=>idsL cs
 |.vec cs _ _=>idsL cs
 |_=>[]
section
variable{h:H}{v:Nat}{rs:List (List Int)}{ac:List Bool}
theorem aOL{f:Nat->Option Nat}{b d:Nat}(hf:∀i,i<rs.length->f (b+i)=some (d+i)):mapO f (.vec (aC b rs++aH 0) 1 0)=.vec (aC d rs++aH 0) 1 0:=by
 have hn:aH 0=[]:=rfl;simp only[mapO,hn,Ai,eL (c:=0) hf]
theorem aNK{f:Nat->Option Nat}{al:Int}{n m a b:Nat}(h0:f a=some b)(h1:f (a+1)=some (b+1)):mapA f (autA a al n m)=autA b al n m:=by
 simp only[autA,mapA,aG,h0,h1]
theorem aM3{b n i:Nat}(hi:i<n):back [] b n i=some (b+i):=by
 unfold back;simp[hi]
theorem aUg{b n:Nat}(hn:n=rs.length+2):(autO 0 rs ac).map (mapO (back [] b n))=autO b rs ac:=by
 subst hn;unfold autO;rw[Aj,Aj,aLG,aOL (d:=b+2) fun i hi=>by rw[aM3 om];congr 1;omega];rfl
end
section
variable{E:Env}{call:aZ}{h:H}{f:FuncId}
theorem aGB:∀ {rs rs2:List (List Int)} {b:Nat},rs2.map List.length=rs.map List.length->aC b rs2=aC b rs
 | [],[],b,_=>rfl
 | [],_::_,b,hl=>by simp at hl
 |_::_,[],b,hl=>by simp at hl
 |r::rs,q::rs2,b,hl=>by
  simp only[Aj,List.cons.injEq]at hl;simp only[aC,hl.1,aGB hl.2]
end
end
def aN:List (List Int)->Nat
 | []=>0
 |r::rs=>r.length+aN rs
section
section
variable{h h2:H}{nf:Nat}(hn:nf=h.length)(hk:∀o∈h,∀j∈dV o,j<nf)
include hn hk
end
theorem aJk{b k:Nat}:∀ {rs:List (List Int)} {b k:Nat},k<rs.length->((aC b rs++aH 0).drop k).head? =some (.sl (b+k) 0 0 (rs.getD k []).length)
 | [],b,k,h=>by simp at h
 |r::rs,b,0,h=>by simp[aC]
 |r::rs,b,k+1,h=>by
  simp only[aC,Ax,Ds];rw[aJk (b:=b) (k:=k) (by simpa using h)];simp only[Er]
  congr 2
  omega
theorem aLE{d:List (List Int)}{k:Nat}(h:k<d.length):(aK d)[k]? =some (.arr (ints (d.getD k [])) 1 0):=by
 rw[Aa,Ad h];exact YP (Ad h)
theorem aSr{d:List (List Int)}{k:Nat}{r:List Int}:(aK d).set k (.arr (ints r) 1 0)=aK (d.set k r):=by
 unfold aK;rw[List.map_set];rfl
end
end Ev
end Go.Proofs.YtppffbehejpglaaGreatDoor
