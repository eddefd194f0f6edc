/-
  Lent calls: what is handed over is read off memory.
-/
import Derived.Test.YthlkcebdfbjdoaaGreatEvWalk
set_option linter.unusedSimpArgs false
set_option linter.unusedVariables false
namespace Go.Proofs.YthlkcebdfbjdoaaGreat
namespace Ev
def gD(f:A->Option D):List A->Option (List D)
 | []=>some []
 |a::as=>match f a,gD f as with
  |some x,some xs=>some (x::xs)
  |_,_=>none
def rd0(h:H):A->Option D
 |.d x=>some x
 |.sl id gen off len=>match h[id]? with
  |some (.arr cs esz g)=>if g=gen/\off+len*esz<=cs.length then some (.ivs len ((cs.drop off).take (len*esz)))else none
  |some (.ice cs esz g)=>if g=gen/\off+len*esz<=cs.length then some (.ivs len ((cs.drop off).take (len*esz)))else none
  |_=>none
 |_=>none
def rd1(h:H):A->Option D
 |.sl id gen off len=>match h[id]? with
  |some (.vec cs esz g)=>if g=gen/\off+len*esz<=cs.length then(gD (rd0 h) cs).map fun ds=>.ivs len ((ds.drop off).take (len*esz))else none
  |_=>rd0 h (.sl id gen off len)
 |.clo f caps=>(gD (rd0 h) caps).map (.fn f)
 |a=>rd0 h a
theorem N5{f:A->Option D}:∀ {as:List A} {ds:List D},gD f as=some ds->ds.length=as.length
 | [],ds,h=>by simp only[gD,Option.some.injEq]at h;subst h;rfl
 |a::as,ds,h=>by
  simp only[gD]at h
  split at h
  ·rename_i x xs h1 h2
   simp only[Option.some.injEq]at h;subst h;simp[N5 h2]
  ·cases h
def Iced(h h':H):Prop:=∀i:Nat,h'[i]? =h[i]?\/(∃cs e g,h[i]? =some (.arr cs e g)/\h'[i]? =some (.ice cs e g))\/(∃cs ds e g,h[i]? =some (.vec cs e g)/\h'[i]? =some (.ice ds e g)/\gD (rd0 h) cs=some ds)
theorem aE4(h:H):Iced h h:=fun _=>.inl rfl
theorem aI4{h0 h:H}(hi:Iced h0 h){id:Nat}{cs:List D}{e g:Nat}(h1:h0[id]? =some (.arr cs e g))(hl:id<h.length):Iced h0 (h.set id (.ice cs e g)):=by
 intro i
 by_cases e1:id=i
 ·subst e1;exact .inr (.inl ⟨cs,e,g,h1,by simp[hl]⟩)
 ·rw[Df e1];exact hi i
theorem aIm{h0 h:H}(hi:Iced h0 h){id:Nat}{cs:List A}{ds:List D}{e g:Nat}(h1:h0[id]? =some (.vec cs e g))(hd:gD (rd0 h0) cs=some ds)(hl:id<h.length):Iced h0 (h.set id (.ice ds e g)):=by
 intro i
 by_cases e1:id=i
 ·subst e1;exact .inr (.inr ⟨cs,ds,e,g,h1,by simp[hl],hd⟩)
 ·rw[Df e1];exact hi i
theorem sB{α:Type}{l:List α}{i:Nat}{a:α}(h:l[i]? =some a):i<l.length:=(As.1 h).1
theorem aDK{h0:H}(n:Nat){h:H}(hi:Iced h0 h){a:A}{x:D}(hx:rd0 h0 a=some x):∃h',frz n h a=some (x,h')/\Iced h0 h'/\∀(i:Nat) (cs:List A) (e g:Nat),h[i]? =some (.vec cs e g)->h'[i]? =some (.vec cs e g):=by
 cases a with
 |d y=>
  simp only[rd0,Option.some.injEq]at hx;subst hx;exact⟨h,by cases n<;>rfl,hi,fun _ _ _ _ h=>h⟩
 |sl id gen off len=>
  simp only[rd0]at hx
  have key:∀(o:O),h[id]? =some o->(∀cs e g,o≠.vec cs e g)->frz n h (.sl id gen off len)=frz0 h (.sl id gen off len):=by
   intro o ho hv
   cases n with
   |zero=>rfl
   |succ n=>
    simp only[frz,ho]
    cases o<;>first|rfl|exact absurd rfl (hv _ _ _)
  cases h1:h0[id]? with
  |none=>rw[h1]at hx;cases hx
  |some o=>
   rw[h1]at hx
   cases o with
   |arr cs e g=>
    simp only[]at hx
    split at hx
    ·rename_i hc
     simp only[Option.some.injEq]at hx;subst hx
     rcases hi id with q|⟨cs',e',g',q1,q2⟩|⟨cs',ds,e',g',q1,q2,q3⟩
     ·rw[h1]at q;refine⟨_,by rw[key _ q (by intro _ _ _ h;cases h)];simp only[frz0,q];rw[if_pos hc],aI4 hi h1 (sB q),fun i cs' e' g' hv=> ?_⟩;rw[Df (by intro e;subst e;rw[q]at hv;cases hv)];exact hv
     ·rw[h1]at q1;cases q1;exact⟨h,by rw[key _ q2 (by intro _ _ _ h;cases h)];simp only[frz0,q2];rw[if_pos hc],hi,fun _ _ _ _ h=>h⟩
     ·rw[h1]at q1;cases q1
    ·cases hx
   |ice cs e g=>
    simp only[]at hx
    split at hx
    ·rename_i hc
     simp only[Option.some.injEq]at hx;subst hx
     rcases hi id with q|⟨cs',e',g',q1,q2⟩|⟨cs',ds,e',g',q1,q2,q3⟩
     ·rw[h1]at q;exact⟨h,by rw[key _ q (by intro _ _ _ h;cases h)];simp only[frz0,q];rw[if_pos hc],hi,fun _ _ _ _ h=>h⟩
     ·rw[h1]at q1;cases q1
     ·rw[h1]at q1;cases q1
    ·cases hx
   |_=>cases hx
 |_=>simp[rd0]at hx
theorem aAg{h0:H}(n:Nat):∀ {as:List A} {ds:List D} {h:H},Iced h0 h->gD (rd0 h0) as=some ds->∃h',fR (frz n) h as=some (ds,h')/\Iced h0 h'/\∀(i:Nat) (cs:List A) (e g:Nat),h[i]? =some (.vec cs e g)->h'[i]? =some (.vec cs e g)
 | [],ds,h,hi,hr=>by simp only[gD,Option.some.injEq]at hr;subst hr;exact⟨h,rfl,hi,fun _ _ _ _ h=>h⟩
 |a::as,ds,h,hi,hr=>by
  simp only[gD]at hr
  split at hr
  ·rename_i x xs h1 h2
   simp only[Option.some.injEq]at hr;subst hr;obtain⟨k1,e1,i1,v1⟩:=aDK n hi h1;obtain⟨k2,e2,i2,v2⟩:=aAg n i1 h2;exact⟨k2,by simp only[fR,e1,e2],i2,fun i cs e g hv=>v2 i cs e g (v1 i cs e g hv)⟩
  ·cases hr
theorem WU{h0:H}(n:Nat){h:H}(hi:Iced h0 h){a:A}{x:D}(hx:rd1 h0 a=some x):∃h',frz (n+1) h a=some (x,h')/\Iced h0 h':=by
 cases a with
 |sl id gen off len=>
  have leaf:rd0 h0 (.sl id gen off len)=some x->∃h',frz (n+1) h (.sl id gen off len)=some (x,h')/\Iced h0 h':=fun h1=>by
   obtain⟨k,e,i,_⟩:=aDK (n+1) hi h1;exact⟨k,e,i⟩
  simp only[rd1]at hx
  cases h1:h0[id]? with
  |none=>rw[h1]at hx;exact leaf hx
  |some o=>
   rw[h1]at hx
   cases o with
   |vec cs e g=>
    simp only[]at hx
    split at hx
    ·rename_i hc
     cases hr:gD (rd0 h0) cs with
     |none=>rw[hr]at hx;cases hx
     |some ds=>
      rw[hr]at hx;simp only[Ax,Option.some.injEq]at hx;subst hx;have hl:=N5 hr
      rcases hi id with q|⟨cs',e',g',q1,q2⟩|⟨cs',ds',e',g',q1,q2,q3⟩
      ·rw[h1]at q;obtain⟨k,e1,i1,v1⟩:=aAg n hi hr;have q':=v1 _ _ _ _ q;refine⟨k.set id (.ice ds e g),?_,aIm i1 h1 hr (sB q')⟩;simp only[frz,q];rw[if_pos hc,e1];simp only[q',and_self,if_true]
      ·rw[h1]at q1;cases q1
      ·rw[h1]at q1;cases q1;rw[hr]at q3;cases q3;refine⟨h,?_,hi⟩;simp only[frz,q2,frz0];rw[if_pos (by omega)]
    ·cases hx
   |_=>exact leaf hx
 |clo f caps=>
  simp only[rd1]at hx
  cases hr:gD (rd0 h0) caps with
  |none=>rw[hr]at hx;cases hx
  |some ds=>
   rw[hr]at hx;simp only[Ax,Option.some.injEq]at hx;subst hx;obtain⟨k,e1,i1,_⟩:=aAg n hi hr;exact⟨k,by simp only[frz,e1],i1⟩
 |d y=>
  obtain⟨k,e,i,_⟩:=aDK (n+1) hi (a:=.d y) hx;exact⟨k,e,i⟩
 |ptr _ _ _=>simp[rd1,rd0]at hx
 |mp _=>simp[rd1,rd0]at hx
 |agg _=>simp[rd1,rd0]at hx
 |tup _=>simp[rd1,rd0]at hx
 |junk=>simp[rd1,rd0]at hx
def kids(h:H)(i:Nat):List Nat:=match h[i]? with
 |some (.box cs)=>idsL cs
 |some (.vec cs _ _)=>idsL cs
 |_=>[]
inductive Okay(h:H):Nat->Prop where
 |mk (i:Nat) (o:O) (hi:h[i]? =some o) (hv:o≠.void) (hk:∀j∈kids h i,Okay h j):Okay h i
def wgt:H->Nat
 | []=>0
 |.box cs::h=>(idsL cs).length+wgt h
 |.vec cs _ _::h=>(idsL cs).length+wgt h
 |_::h=>wgt h
def wgtN(h:H)(acc:List Nat):Nat:=((List.range h.length).filter fun i=> !acc.contains i).foldr (fun i n=>(kids h i).length+n) 0
theorem aUK:∀(h:H),wgt h=(List.range h.length).foldr (fun i n=>(kids h i).length+n) 0:=by
 intro h
 induction h with
 |nil=>rfl
 |cons o h ih=>
  rw[Ad,List.range_succ_eq_map,List.foldr_cons,List.foldr_map];have e:∀i,kids (o::h) (i+1)=kids h i:=fun i=>by simp only[kids,At]
  simp only[e,<-ih]
  cases o<;>simp[wgt,kids]
theorem KD{f:Nat->Nat}{p:Nat->Bool}:∀(l:List Nat),(l.filter p).foldr (fun i n=>f i+n) 0<=l.foldr (fun i n=>f i+n) 0
 | []=>by simp
 |a::l=>by
  have:=KD (f:=f) (p:=p) l;simp only[List.filter_cons]
  split
  ·simp only[List.foldr_cons];omega
  ·simp only[List.foldr_cons];omega
theorem aUd(h:H)(acc:List Nat):wgtN h acc<=wgt h:=by rw[aUK];exact KD _
theorem YJ{f:Nat->Nat}{acc:List Nat}{i:Nat}(hn:i∉acc):∀(l:List Nat),l.Nodup->i∈l->(l.filter fun k=> !(acc++[i]).contains k).foldr (fun i n=>f i+n) 0+f i=(l.filter fun k=> !acc.contains k).foldr (fun i n=>f i+n) 0
 | [],_,h=>by simp at h
 |a::l,hd,hm=>by
  obtain⟨ha,hl⟩:=List.nodup_cons.1 hd
  by_cases e:a=i
  ·subst e
   have h1:(l.filter fun k=> !(acc++[a]).contains k)=l.filter fun k=> !acc.contains k:=by
    apply List.filter_congr;intro x hx;have:x≠a:=fun h=>ha (h▸hx);simp[this]
   have h2:((a::l).filter fun k=> !(acc++[a]).contains k)=(l.filter fun k=> !acc.contains k):=by
    rw[List.filter_cons_of_neg (by simp),h1]
   have h3:((a::l).filter fun k=> !acc.contains k)=a::(l.filter fun k=> !acc.contains k):=by
    rw[List.filter_cons_of_pos (by simp[hn])]
   rw[h2,h3,List.foldr_cons];omega
  ·have hm':i∈l:=by simpa [Ne.symm e]using hm
   have ih:=YJ (f:=f) hn l hl hm'
   by_cases hc:a∈acc
   ·rw[List.filter_cons_of_neg (by simp[hc]),List.filter_cons_of_neg (by simp[hc])];exact ih
   ·rw[List.filter_cons_of_pos (by simp[hc,e]),List.filter_cons_of_pos (by simp[hc]),List.foldr_cons,List.foldr_cons];omega
theorem aH5{h:H}:∀(n:Nat) (todo acc:List Nat),(∀i∈todo,Okay h i)->(∀i∈acc,∀j∈kids h i,j∈acc\/j∈todo)->(∀i∈acc,Okay h i)->todo.length+wgtN h acc<=n->
  (∀i∈todo,i∈aD n h todo acc)/\(∀i∈acc,i∈aD n h todo acc)/\(∀i∈aD n h todo acc,∀j∈kids h i,j∈aD n h todo acc)/\(∀i∈aD n h todo acc,Okay h i):=by
 intro n
 induction n with
 |zero=>
  intro todo acc ht ha hk hn;have:todo=[]:=by cases todo<;>simp_all
  subst this;simp only[aD];exact⟨by simp,fun i hi=>hi,fun i hi j hj=>by simpa using ha i hi j hj,hk⟩
 |succ n ih=>
  intro todo acc ht ha hk hn
  cases todo with
  |nil=>
   simp only[aD];exact⟨by simp,fun i hi=>hi,fun i hi j hj=>by simpa using ha i hi j hj,hk⟩
  |cons i todo=>
   by_cases hc:acc.contains i=true
   ·have e:aD (n+1) h (i::todo) acc=aD n h todo acc:=by simp only[aD,hc,if_true]
    rw[e];have hm:i∈acc:=by simpa using hc
    obtain⟨r1,r2,r3,r4⟩:=ih todo acc (fun j hj=>ht j (by simp[hj])) (fun j hj k hk'=>by
     rcases ha j hj k hk' with h1|h1
     ·exact .inl h1
     ·rcases Au.1 h1 with h2|h2
      ·subst h2;exact .inl hm
      ·exact .inr h2) hk (by simp only[Ad]at hn;omega)
    refine⟨fun j hj=> ?_,r2,r3,r4⟩
    rcases Au.1 hj with h1|h1
    ·subst h1;exact r2 _ hm
    ·exact r1 j h1
   ·have hm:i∉acc:=by simpa using hc
    obtain⟨_,o,ho,hv,hkd⟩:=ht i (by simp);have hil:i<h.length:=sB ho
    have e:aD (n+1) h (i::todo) acc=aD n h (todo++kids h i) (acc++[i]):=by
     simp only[aD,hc,if_false,ho,kids,Ak]
     cases o<;>first|rfl|(simp;done)|exact absurd rfl hv
    rw[e];have hw:wgtN h (acc++[i])+(kids h i).length=wgtN h acc:=YJ (f:=fun i=>(kids h i).length) hm (List.range h.length) List.nodup_range (by simpa using hil)
    obtain⟨r1,r2,r3,r4⟩:=ih (todo++kids h i) (acc++[i]) (fun j hj=>by
     rcases Al.1 hj with h1|h1
     ·exact ht j (by simp[h1])
     ·exact hkd j h1) (fun j hj k hk'=>by
     rcases Al.1 hj with h1|h1
     ·rcases ha j h1 k hk' with h2|h2
      ·exact .inl (by simp[h2])
      ·rcases Au.1 h2 with h3|h3
       ·subst h3;exact .inl (by simp)
       ·exact .inr (by simp[h3])
     ·simp only[Bk]at h1;subst h1;exact .inr (by simp[hk'])) (fun j hj=>by
     rcases Al.1 hj with h1|h1
     ·exact hk j h1
     ·simp only[Bk]at h1;subst h1;exact ht _ (by simp)) (by simp only[Af,Ad]at hn|-;omega)
    refine⟨fun j hj=> ?_,fun j hj=>r2 j (by simp[hj]),r3,r4⟩
    rcases Au.1 hj with h1|h1
    ·subst h1;exact r2 _ (by simp)
    ·exact r1 j (by simp[h1])
theorem TG{h:H}{ids:List Nat}(hk:∀i∈ids,Okay h i)(hw:ids.length+wgt h<=1099511627776):closed h (aD aG h ids []) ids=true/\(∀i∈ids,i∈aD aG h ids [])/\∀i∈aD aG h ids [],∀j∈kids h i,j∈aD aG h ids []:=by
 have hle:=aUd h [];obtain⟨r1,_,r3,_⟩:=aH5 aG ids [] hk (by simp) (by simp) (by unfold aG;omega);refine⟨?_,r1,r3⟩;simp only[closed,Ar,Bf,List.contains_eq_mem,decide_eq_true_eq];refine⟨r1,fun i hi=> ?_⟩;have:=r3 i hi;unfold kids at this
 cases ho:h[i]? with
 |none=>rfl
 |some o=>
  rw[ho]at this
  cases o<;>first|rfl|(simp only[Bf,List.contains_eq_mem,decide_eq_true_eq];exact this)
section
variable{h:H}{ord:List Nat}
end
section
variable{R:Type}{E:Env}{call:aZ}{h:H}{f:FuncId}{args:List A}{k:KA R}
mutual
theorem aFL{f g q:Nat->Option Nat}(hq:∀i,(g i).bind f=q i):∀a:A,mapA f (mapA g a)=mapA q a
 |.d x=>by simp only[mapA]
 |.sl id gen off len=>by
  simp only[mapA];have:=hq id
  cases hg:g id with
  |none=>rw[hg]at this;rw[<-this];simp only[mapA,Option.bind_none]
  |some j=>rw[hg]at this;simp only[mapA,<-this,Ct]
 |.ptr id gen off=>by
  simp only[mapA];have:=hq id
  cases hg:g id with
  |none=>rw[hg]at this;rw[<-this];simp only[mapA,Option.bind_none]
  |some j=>rw[hg]at this;simp only[mapA,<-this,Ct]
 |.mp id=>by
  simp only[mapA];have:=hq id
  cases hg:g id with
  |none=>rw[hg]at this;rw[<-this];simp only[mapA,Option.bind_none]
  |some j=>rw[hg]at this;simp only[mapA,<-this,Ct]
 |.clo c caps=>by simp only[mapA,kZ hq caps]
 |.agg cs=>by simp only[mapA,kZ hq cs]
 |.tup cs=>by simp only[mapA,kZ hq cs]
 |.junk=>by simp only[mapA]
theorem kZ{f g q:Nat->Option Nat}(hq:∀i,(g i).bind f=q i):∀as:List A,aE f (aE g as)=aE q as
 | []=>by simp only[aE]
 |a::as=>by simp only[aE,aFL hq a,kZ hq as]
end
theorem aPe{f g q:Nat->Option Nat}(hq:∀i,(g i).bind f=q i)(o:O):mapO f (mapO g o)=mapO q o:=by
 cases o<;>simp only[mapO,kZ hq]
end
end Ev
end Go.Proofs.YthlkcebdfbjdoaaGreat
