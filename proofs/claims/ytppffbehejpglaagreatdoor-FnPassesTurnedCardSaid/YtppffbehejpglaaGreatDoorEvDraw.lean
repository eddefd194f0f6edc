/-
  Regions that draw their order: the order of the text serves every order.
-/
import Derived.Test.YtppffbehejpglaaGreatDoorEvCalls
set_option linter.unusedSimpArgs false
set_option linter.unusedVariables false
set_option linter.unusedSectionVars false
namespace Go.Proofs.YtppffbehejpglaaGreatDoor
namespace Ev
variable{G:Gnd}
def i8(f:Nat->Option Nat):H->List Nat->H->H
 |h,p::ps,o::os=>i8 f (h.set p (mapO f o)) ps os
 |h,_,_=>h
theorem YZ(f:Nat->Option Nat):∀(pos:List Nat) (h os:H),(i8 f h pos os).length=h.length
 | [],h,os=>by simp[i8]
 |p::ps,h,[]=>by simp[i8]
 |p::ps,h,o::os=>by simp only[i8];rw[YZ f ps];simp
theorem ZZ(f:Nat->Option Nat):∀(pos:List Nat) (h os:H) (id:Nat),pos.Nodup->(∀p∈pos,p<h.length)->os.length=pos.length->
  (i8 f h pos os)[id]? =match aJ pos id with
   |some k=>(os[k]?).map (mapO f)
   |none=>h[id]?
 | [],h,os,id,_,_,_=>by simp[i8,aJ]
 |p::ps,h,[],id,_,_,hl=>by simp at hl
 |p::ps,h,o::os,id,hn,hr,hl=>by
  simp only[Dx]at hn;simp only[i8];rw[ZZ f ps _ os id hn.2 (fun q hq=>by simpa using hr q (by simp[hq])) (by simpa using hl)];simp only[aJ]
  by_cases e:p=id
  ·subst e;rw[zR hn.1,if_pos rfl];simp[hr p sm]
  ·grind
def sJ(pos:List Nat)(ρ ρ1:Rho):Rho:=fun id=>
 match aJ pos id with
 |some k=>ρ1 k
 |none=>ρ id
theorem aKU{xs ys:List Nat}{i k:Nat}(h:aJ xs i=some k):aJ (xs++ys) i=some k:=by
 induction xs generalizing k with
 |nil=>simp[aJ]at h
 |cons x xs ih=>
  simp only[Ax,aJ]at h|-
  split at h
  ·grind
  ·rename_i e
   rw[if_neg e]
   cases hp:aJ xs i with
   |none=>grind
   |some m=>grind
theorem aGr{h:H}{ρ:Rho}{w:World}{I:Nat->Prop}{ord fresh:List Nat}{h1:H}{ρ1:Rho}{w':World}{I':Nat->Prop}
  (r:Rel G h ρ w I) (hn:(ord++fresh).Nodup) (hr:∀i∈ord,i<h.length) (hv:∀i∈fresh,h[i]? =some .void) (hlen:h1.length=ord.length+fresh.length) (s:Step G (pack h ord) (sub ord ρ) w I h1 ρ1 w' I'):
  Step G h ρ w I (i8 (fun(k:Nat)=>(ord++fresh)[k]?) h (ord++fresh) h1) (sJ (ord++fresh) ρ ρ1) w' I'/\
  ∀(id k:Nat),(fun(k:Nat)=>(ord++fresh)[k]?) id=some k->jR h1 ρ1 w' I' id (i8 (fun(k:Nat)=>(ord++fresh)[k]?) h (ord++fresh) h1) (sJ (ord++fresh) ρ ρ1) w' I' k:=by
 have hrp:∀p∈ord++fresh,p<h.length:=by grind
 have get:=fun id=>ZZ (fun(k:Nat)=>(ord++fresh)[k]?) (ord++fresh) h h1 id hn hrp (by simpa using hlen);generalize hf:(fun(k:Nat)=>(ord++fresh)[k]?)=f at *;have hfk:∀k,f k=(ord++fresh)[k]?:=by grind
 have loc:∀k id,f k=some id->(i8 f h (ord++fresh) h1)[id]? =(h1[k]?).map (mapO f)/\sJ (ord++fresh) ρ ρ1 id=ρ1 k:=by
  intro k id hk;rw[hfk]at hk;have hp:=dI hn hk;exact⟨by rw[get,hp],by simp[sJ,hp]⟩
 have refs:∀k id,f k=some id->jR h1 ρ1 w' I' k (i8 f h (ord++fresh) h1) (sJ (ord++fresh) ρ ρ1) w' I' id:=fun k id hk=>
  m5 (fun o ho=>by rw[(loc k id hk).1,ho];rfl) (loc k id hk).2
 have orig:∀id o,(i8 f h (ord++fresh) h1)[id]? =some o->
   (∃k o',f k=some id/\h1[k]? =some o'/\o=mapO f o'/\sJ (ord++fresh) ρ ρ1 id=ρ1 k)\/
   (id∉ord/\h[id]? =some o/\sJ (ord++fresh) ρ ρ1 id=ρ id):=by
  intro id o ho;rw[get]at ho
  cases hp:aJ (ord++fresh) id with
  |some k=>
   rw[hp]at ho;simp only[Bc]at ho;obtain⟨o',ho',rfl⟩:=ho;have hb:f k=some id:=by rw[hfk];exact bH hp
   exact .inl ⟨k,o',hb,ho',rfl,(loc k id hb).2⟩
  |none=>
   rw[hp]at ho;have hni:id∉ord:=fun hm=>by obtain⟨k,hk⟩:=cA (Ea fresh hm);rw[hk]at hp;cases hp
   exact .inr ⟨hni,ho,by simp[sJ,hp]⟩
 have other:∀id o b,id∉ord->h[id]? =some o->live o->ρ id=some b->¬u6 (pack h ord) (sub ord ρ) b:=by
  intro id o b hni hid hlv hρ ho;obtain⟨j,o2,hj,hρj,hjo,hlv2⟩:=AF hr ho;have:=r.inj id j b o o2 hρ hρj hid hjo hlv hlv2;subst this;exact hni hj
 have keepOther:∀id o b,id∉ord->h[id]? =some o->live o->ρ id=some b->w'.heap[b]? =w.heap[b]?:=fun id o b hni hid hlv hρ=>
  s.keep.same b (r.own_not_imm ⟨id,o,hρ,hid,hlv⟩).2 (other id o b hni hid hlv hρ)
 have ownSub:∀b,u6 (pack h ord) (sub ord ρ) b->u6 h ρ b:=fun b ho=>by
  obtain⟨j,o2,_,hρj,hjo,hlv2⟩:=AF hr ho;exact⟨j,o2,hρj,hjo,hlv2⟩
 have packRef:∀id k,aJ ord id=some k->jR h ρ w I id (pack h ord) (sub ord ρ) w I k:=fun id k hk=>
  m5 (fun o ho=>iS (bH hk) ho) (by simp[sub,bH hk])
 have backOf:∀id k,aJ ord id=some k->f k=some id:=fun id k hp=>by
  rw[hfk];exact bH (aKU hp)
 have notFresh:∀id,id∉ord->(∃o,h[id]? =some o/\o≠.void)->aJ (ord++fresh) id=none:=fun id hni ⟨o,ho,hne⟩=>
  zR fun hm=>(Ak.1 hm).elim hni fun h2=>hne (by have:=hv id h2;rw[ho]at this;exact Option.some.inj this)
 have ext:Ext h ρ w I (i8 f h (ord++fresh) h1) (sJ (ord++fresh) ρ ρ1) w' I':=by
  refine⟨s.ext.imm,fun id gen off len a cap hs=> ?_,fun id gen b hs=> ?_,fun id b hs=> ?_⟩
  ·cases hp:aJ ord id with
   |some k=>exact(refs k id (backOf id k hp)).1 _ _ _ _ _ (s.ext.sl _ _ _ _ _ _ ((packRef id k hp).1 _ _ _ _ _ hs))
   |none=>
    have hni:id∉ord:=fun hm=>by obtain⟨k,hk⟩:=cA hm;rw[hk]at hp;cases hp
    cases hid:h[id]? with
    |none=>simp[slOK,hid]at hs
    |some o=>
     have hnv:o≠.void:=fun e=>by rw[e]at hid;simp[slOK,hid]at hs
     have hpn:=notFresh id hni ⟨o,hid,hnv⟩;have hg:(i8 f h (ord++fresh) h1)[id]? =h[id]?:=by grind
     have hm:sJ (ord++fresh) ρ ρ1 id=ρ id:=by grind
     exact PC s.ext.imm hg hm (fun b hb ⟨o2,ho2,hl2⟩=>keepOther id o2 b hni ho2 hl2 hb) hs
  ·cases hp:aJ ord id with
   |some k=>exact(refs k id (backOf id k hp)).2.1 _ _ (s.ext.pt _ _ _ ((packRef id k hp).2.1 _ _ hs))
   |none=>
    have hni:id∉ord:=fun hm=>by obtain⟨k,hk⟩:=cA hm;rw[hk]at hp;cases hp
    cases hid:h[id]? with
    |none=>simp[ptOK,hid]at hs
    |some o=>
     have hnv:o≠.void:=fun e=>by rw[e]at hid;simp[ptOK,hid]at hs
     have hpn:=notFresh id hni ⟨o,hid,hnv⟩;have hg:(i8 f h (ord++fresh) h1)[id]? =h[id]?:=by grind
     have hm:sJ (ord++fresh) ρ ρ1 id=ρ id:=by simp[sJ,hpn]
     exact NB s.ext.imm hg hm hs
  ·cases hp:aJ ord id with
   |some k=>exact(refs k id (backOf id k hp)).2.2 _ (s.ext.mp _ _ ((packRef id k hp).2.2 _ hs))
   |none=>
    have hni:id∉ord:=fun hm=>by obtain⟨k,hk⟩:=cA hm;rw[hk]at hp;cases hp
    cases hid:h[id]? with
    |none=>simp[mpOK,hid]at hs
    |some o=>
     have hnv:o≠.void:=fun e=>by rw[e]at hid;simp[mpOK,hid]at hs
     have hpn:=notFresh id hni ⟨o,hid,hnv⟩;have hg:(i8 f h (ord++fresh) h1)[id]? =h[id]?:=by grind
     have hm:sJ (ord++fresh) ρ ρ1 id=ρ id:=by simp[sJ,hpn]
     exact X2 hg hm hs
 refine⟨⟨⟨fun id o ho=> ?_,fun id id' b o o' hb hb' ho ho' hlv hlv'=> ?_,s.rel.imm,s.rel.ground⟩,ext,⟨s.keep.os,s.keep.tape,s.keep.output,s.keep.size,fun b hb hno=>s.keep.same b hb (fun h=>hno (ownSub b h)),fun b hb=> ?_,s.keep.drawn⟩,fun b hb=> ?_,by rw[YZ];exact Ab _⟩,refs⟩
 ·rcases orig id o ho with⟨k,o',hk,hk1,rfl,hm⟩|⟨hni,hid,hm⟩
  ·exact aL4 refs hm (s.rel.obj k o' hk1)
  ·refine aA6 ext hm (fun b hb hl=>⟨keepOther id o b hni hid hl hb,fun hI'=> ?_⟩) (r.obj id o hid);have hno:=r.own_not_imm ⟨id,o,hb,hid,hl⟩
   rcases s.keep.new b hI' with h|h|h
   ·exact hno.1 h
   ·omega
   ·exact other id o b hni hid hl hb h
 ·rcases orig id o ho with⟨k,o1,hk,hk1,rfl,hm⟩|⟨hni,hid,hm⟩<;>rcases orig id' o' ho' with⟨k',o1',hk',hk1',rfl,hm'⟩|⟨hni',hid',hm'⟩
  ·rw[hm]at hb;rw[hm']at hb';have:=s.rel.inj k k' b o1 o1' hb hb' hk1 hk1' ((gD _ _).1 hlv) ((gD _ _).1 hlv');subst this;rw[hk]at hk';cases hk';rfl
  ·rw[hm]at hb;rw[hm']at hb';exfalso
   rcases s.own b ⟨k,o1,hb,hk1,(gD _ _).1 hlv⟩with h|h
   ·exact other id' _ b hni' hid' hlv' hb' h
   ·have:=(r.own_not_imm ⟨id',_,hb',hid',hlv'⟩).2;omega
  ·rw[hm]at hb;rw[hm']at hb';exfalso
   rcases s.own b ⟨k',o1',hb',hk1',(gD _ _).1 hlv'⟩with h|h
   ·exact other id _ b hni hid hlv hb h
   ·have:=(r.own_not_imm ⟨id,_,hb,hid,hlv⟩).2;omega
  ·rw[hm]at hb;rw[hm']at hb';exact r.inj id id' b o o' hb hb' hid hid' hlv hlv'
 ·rcases s.keep.new b hb with h|h|h
  ·exact .inl h
  ·omega
  ·exact .inr (.inr (ownSub b h))
 ·obtain⟨id,o,hm0,ho,hlv⟩:=hb
  rcases orig id o ho with⟨k,o1,hk,hk1,rfl,hm⟩|⟨hni,hid,hm⟩
  ·rw[hm]at hm0
   rcases s.own b ⟨k,o1,hm0,hk1,(gD _ _).1 hlv⟩with h|h
   ·exact .inl (ownSub b h)
   ·exact .inr h
  ·rw[hm]at hm0;exact .inl ⟨id,o,hm0,hid,hlv⟩
def putW:List (Nat×O)->H->H
 | [],h=>h
 |(p,o)::W,h=>putW W (h.set p o)
theorem aEI(f:Nat->Option Nat):∀(pos:List Nat) (h os:H),i8 f h pos os=putW (pos.zip (os.map (mapO f))) h
 | [],h,os=>by simp[i8,putW]
 |p::ps,h,[]=>by simp[i8,putW]
 |p::ps,h,o::os=>by simp only[i8,Aj,List.zip_cons_cons,putW];exact aEI f ps _ os
theorem aCR:∀(W:List (Nat×O)) (h:H),(putW W h).length=h.length
 | [],h=>rfl
 |(p,o)::W,h=>by simp only[putW];rw[aCR W];simp
def wrW(id:Nat):List (Nat×O)->Option O->Option O
 | [],v=>v
 |(p,o)::W,v=>wrW id W (if p=id then v.map (fun _=>o)else v)
theorem aEr(id:Nat):∀(W:List (Nat×O)) (h:H),(putW W h)[id]? =wrW id W h[id]?
 | [],h=>rfl
 |(p,o)::W,h=>by
  simp only[putW,wrW];rw[aEr id W]
  by_cases e:p=id
  ·grind
  ·simp[e]
theorem aOK(id:Nat):∀(W:List (Nat×O)) (v:Option O),id∉W.map (·.1)->wrW id W v=v
 | [],v,_=>rfl
 |(p,o)::W,v,h=>by
  simp only[Aj,Au,not_or]at h;simp only[wrW];rw[if_neg (Ne.symm h.1)];exact aOK id W v h.2
mutual
theorem aPF{ord more:List Nat}:∀a:A,(∀i∈idsA a,i∈ord)->mapA (fun(k:Nat)=>(ord++more)[k]?) (mapA (aJ ord) a)=a
 |.d x,_=>by simp only[mapA]
 |.sl id gen off len,h=>by
  obtain⟨k,hk⟩:=cA (h id (by simp[idsA]));simp only[mapA,hk,Be (C1 hk),bH hk]
 |.ptr id gen off,h=>by
  obtain⟨k,hk⟩:=cA (h id (by simp[idsA]));simp only[mapA,hk,Be (C1 hk),bH hk]
 |.mp id,h=>by
  obtain⟨k,hk⟩:=cA (h id (by simp[idsA]));simp only[mapA,hk,Be (C1 hk),bH hk]
 |.clo g caps,h=>by simp only[mapA];rw[rL caps (fun i hi=>h i (by simpa only[idsA]using hi))]
 |.agg cs,h=>by simp only[mapA];rw[rL cs (fun i hi=>h i (by simpa only[idsA]using hi))]
 |.tup cs,h=>by simp only[mapA];rw[rL cs (fun i hi=>h i (by simpa only[idsA]using hi))]
 |.junk,_=>by simp only[mapA]
theorem rL{ord more:List Nat}:∀asx:List A,(∀i∈idsL asx,i∈ord)->aG (fun(k:Nat)=>(ord++more)[k]?) (aG (aJ ord) asx)=asx
 | [],_=>by simp only[aG]
 |a::asx,h=>by
  simp only[idsL,Ak]at h;simp only[aG];rw[aPF a (fun i hi=>h i (.inl hi)),rL asx (fun i hi=>h i (.inr hi))]
end
def aPJ:O->List Nat
 |.box cs=>idsL cs
 |.vec cs _ _=>idsL cs
 |_=>[]
theorem HZ{h:H}{ord ids:List Nat}(hc:closed h ord ids=true):(∀i∈ids,i∈ord)/\∀i∈ord,∀o,h[i]? =some o->∀j∈aPJ o,j∈ord:=by
 simp only[closed,Ar,Bk,Eb]at hc;refine⟨hc.1,fun i hi o ho j hj=> ?_⟩;have:=hc.2 i hi;rw[ho]at this
 cases o with
 |box cs=>
  simp only[Bk,Eb]at this;exact this j hj
 |vec cs e g=>
  simp only[Bk,Eb]at this;exact this j hj
 |_=>simp[aPJ]at hj
theorem aGs{h:H}{ord ids more:List Nat}(hc:closed h ord ids=true){i:Nat}{o:O}(hi:i∈ord)(ho:h[i]? =some o):mapO (fun(k:Nat)=>(ord++more)[k]?) (mapO (aJ ord) o)=o:=by
 cases o with
 |box cs=>simp only[mapO];rw[rL cs ((HZ hc).2 i hi _ ho)]
 |vec cs e g=>simp only[mapO];rw[rL cs ((HZ hc).2 i hi _ ho)]
 |_=>simp only[mapO]
theorem aAR{h:H}{ord ids:List Nat}(hc:closed h ord ids=true){i:Nat}{o:O}(hi:i∈ord)(ho:h[i]? =some o):mapO (fun(k:Nat)=>ord[k]?) (mapO (aJ ord) o)=o:=by
 simpa only[Ai]using aGs (more:=[]) hc hi ho
theorem aTX{h:H}{ord ids:List Nat}(hc:closed h ord ids=true)(hn:ord.Nodup)(hl:∀i∈ord,i<h.length):i8 (fun(k:Nat)=>ord[k]?) h ord (pack h ord)=h:=by
 apply Cr;intro id;rw[ZZ _ ord h _ id hn hl (by simp[pack])]
 cases hp:aJ ord id with
 |none=>rfl
 |some k=>
  simp only[];have hm:=NX hp;obtain⟨o,ho⟩:∃o,h[id]? =some o:=⟨h[id]'(hl id hm),Ad _⟩
  rw[iS (bH hp) ho,ho,Bb,aAR hc hm ho]
theorem mR{h h':H}{S:List Nat}(hs:∀i∈S,h[i]? =h'[i]?)(hc:∀i∈S,∀o,h[i]? =some o->∀j∈aPJ o,j∈S):∀(n:Nat) (todo acc:List Nat),(∀i∈todo,i∈S)->aF n h' todo acc=aF n h todo acc
 |0,_,_,_=>rfl
 |_+1,[],_,_=>rfl
 |n+1,i::todo,acc,ht=>by
  have hi:=ht i sm;have ht':∀j∈todo,j∈S:=by grind
  simp only[aF];rw[<-hs i hi]
  split
  ·exact mR hs hc n _ _ ht'
  ·split
   ·rename_i cs ho
    exact mR hs hc n _ _ fun j hj=>(Ak.1 hj).elim (ht' j) (hc i hi _ ho j)
   ·rename_i cs _ _ ho
    exact mR hs hc n _ _ fun j hj=>(Ak.1 hj).elim (ht' j) (hc i hi _ ho j)
   ·exact mR hs hc n _ _ ht'
   ·exact mR hs hc n _ _ ht'
   ·exact mR hs hc n _ _ ht'
theorem aAl{h h':H}{S:List Nat}(hs:∀i∈S,h[i]? =h'[i]?):pack h' S=pack h S:=by
 exact Cw fun i hi=>by rw[Aa,Aa,hs i hi]
theorem ZP{α:Type}{f g:α->Bool}:∀ {l:List α},(∀x∈l,f x=g x)->l.all f=l.all g
 | [],_=>rfl
 |x::l,h=>by simp only[Bx];rw[h x sm,ZP fun y hy=>h y (by simp[hy])]
theorem QD{h h':H}{S ids:List Nat}(hs:∀i∈S,h[i]? =h'[i]?):closed h' S ids=closed h S ids:=by
 unfold closed
 congr 1
 exact ZP fun i hi=>by rw[hs i hi]
def KY(h:H)(i:Nat):Bool:=
 match h[i]? with
 |some .void=>true
 |_=>false
theorem aF7{h:H}{i:Nat}:KY h i=true↔h[i]? =some .void:=by
 unfold KY;split
 ·grind
 ·grind
def zN(E:Env)(call:a6)(thaw:List Nat)(base k:Nat)(o:Oper)(vs:List A)(h:H)(ord:List Nat):Option (A×List (Nat×O)×Foot):=
 match evOp E call thaw (pack h ord) o (aG (aJ ord) vs)with
 |some (a,h1)=>
  if decide (h1.length=ord.length+k)&&closed h ord (idsL vs)&&(List.range' base k).all (KY h)then
   if jW E o.op vs&&k==0 then some (mapA (fun(j:Nat)=>ord[j]?) a,[],{ ids:=ord,ro:=true})
   else some (mapA (fun(j:Nat)=>(ord++List.range' base k)[j]?) a,((ord++List.range' base k).zip (h1.map (mapO (fun(j:Nat)=>(ord++List.range' base k)[j]?)))).filter (fun p=>(wrOf E o.op vs ord++List.range' base k).contains p.1),{ ids:=ord++List.range' base k,ro:=false,wr:=wrOf E o.op vs ord++List.range' base k})
  else none
 |none=>none
def j4(E:Env)(call:a6)(thaw:List Nat)(ops:List Oper)(base k:Nat)(o:Oper)(s:List A)(h:H):Option (A×List (Nat×O)×Foot):=
 match sD ops s o with
 |some true=>match bS s (opds o.op)with
  |some vs=>
   if qQ o.op then
    match evOp E call thaw h o vs with
    |some (a,_)=>some (a,[],{})
    |none=>none
   else if rP o.op then
    match evOp E call thaw h o vs with
    |some (a,_)=>some (a,[],{ ids:=ids0 vs,ro:=true})
    |none=>none
   else zN E call thaw base k o vs h (aF aI h (idsL vs) [])
  |none=>none
 |some false=>some (.d .undef,[],{})
 |none=>none
theorem I4{vs:List A}{k k':A->Option (A×H)}{g:A×H->A×H}(h:∀a,k' a=(k a).map g):one vs k'=(one vs k).map g:=by
 unfold one;split
 ·exact h _
 ·rfl
theorem aO9{vs:List A}{k k':A->A->Option (A×H)}{g:A×H->A×H}(h:∀a b,k' a b=(k a b).map g):two vs k'=(two vs k).map g:=by
 unfold two;split
 ·exact h _ _
 ·rfl
theorem aOm{a:A}{k k':Int->Option (A×H)}{g:A×H->A×H}(h:∀i,k' i=(k i).map g):iO a k'=(iO a k).map g:=by
 unfold iO;split
 ·exact h _
 ·rfl
theorem D4(h h2:H)(x:Option A):x.map (fun r=>(r,h2))=(x.map fun r=>(r,h)).map (fun r=>(r.1,h2)):=by cases x<;>rfl
theorem YF{E:Env}{call:a6}{thaw:List Nat}{o:Oper}{vs:List A}(hp:qQ o.op=true)(h h2:H):evOp E call thaw h2 o vs=(evOp E call thaw h o vs).map (fun r=>(r.1,h2)):=by
 obtain⟨dst,op,type,pos,after,guard⟩:=o
 cases op<;>simp only[qQ,Am]at hp<;>simp only[evOp]
 case move x=>exact I4 fun a=>rfl
 case pick a b c=>unfold QO;split<;>rfl
 case build t ps=>exact D4 h h2 _
 case nilCheck x=>exact I4 fun a=>by unfold u7;split<;>rfl
 case binOp=>
  refine aO9 fun a b=> ?_;unfold b6
  split
  ·rfl
  ·split
   ·rfl
   ·exact D4 h h2 _
 case unOp=>exact I4 fun a=>D4 h h2 _
 case makeFunc f a b=>
  unfold RJ;split
  ·grind
  ·rfl
 case fieldAddr t x f=>exact I4 fun a=>by cases cY E.P t f<;>first|rfl|exact D4 h h2 _
 case field t x f=>
  refine I4 fun a=> ?_;unfold aHO;split
  ·exact D4 h h2 _
  ·rfl
 case index t x y=>exact aO9 fun a b=>aOm fun i=>D4 h h2 _
 case extract x i=>
  refine I4 fun a=> ?_;unfold zK;split
  ·grind
  ·rfl
theorem aBl{h h1:H}{x:Option A}{a:A}(he:x.map (fun r=>(r,h))=some (a,h1)):h1=h:=by
 cases x with
 |none=>grind
 |some v=>grind
theorem aRT{E:Env}{call:a6}{thaw:List Nat}{o:Oper}{vs:List A}(hp:qQ o.op=true){h h1:H}{a:A}(he:evOp E call thaw h o vs=some (a,h1)):h1=h:=by
 have:=YF (E:=E) (call:=call) (thaw:=thaw) (vs:=vs) hp h h;rw[he]at this
 simpa using this
theorem aRY{E:Env}{call:a6}{thaw:List Nat}{o:Oper}{vs:List A}{f:Nat->Option Nat}(hp:jW E o.op vs=true){h h1:H}{a:A}(he:evOp E call thaw h o (aG f vs)=some (a,h1)):h1=h:=by
 obtain⟨dst,op,type,pos,after,guard⟩:=o
 cases op<;>simp only[jW,Am]at hp<;>simp only[evOp]at he
 case load t x=>
  obtain⟨b,_,he⟩:=gC he;exact aBl he
 case convert s d x=>
  obtain⟨b,_,he⟩:=gC he;unfold eQ at he
  split at he<;>try (cases he;rfl)
  ·rename_i hd _
   unfold c8 at hp;rw[hd]at hp;cases hp
  ·cases he
  ·repeat' split at he
   all_goals first
    |(cases he;done)
    |(simp only[Bc,Prod.mk.injEq]at he;obtain⟨_,_,_,rfl⟩:=he;rfl)
    |(rename_i hq;simp at hq;done)
  ·cases he
 case slice t x lo hi mx=>
  split at he
  ·unfold rF at he
   split at he<;>first
    |(cases he;done)
    |exact aBl he
  ·cases he
 case indexAddr t x y=>
  obtain⟨a1,b,_,he⟩:=nA he;obtain⟨_,i,_,he⟩:=jX he;exact aBl he
 case call c=>
  have mode:∀(f:FuncId) (args:List A),(E.hint f).mode=1->bY call E.hint h f args=some (a,h1)->h1=h:=by
   intro f args hm hcall;unfold bY at hcall;rw[hm]at hcall;simp only[]at hcall
   split at hcall
   ·split at hcall
    ·split at hcall
     ·cases hcall;rfl
     ·cases hcall
    ·cases hcall
   ·cases hcall
  unfold eT at he
  cases hcal:c.callee with
  |invoke r m=>rw[hcal]at he;cases he
  |builtin b=>
   rw[hcal]at he hp
   cases b<;>simp only[Am]at hp
   case len=>
    simp only[cH]at he
    split at he
    ·unfold DZ at he
     split at he
     ·cases he;rfl
     ·cases he
    ·exact aBl he
    ·rename_i hq _ _;cases hq
    ·cases he
  |value fv=>
   rw[hcal]at he hp;simp only[]at he
   cases vs with
   |nil=>simp at hp
   |cons g vs=>
    simp only[aG]at he
    cases g with
    |clo f caps=>
     simp only[beq_iff_eq]at hp;simp only[mapA,fC]at he;exact mode f _ hp he
    |d x=>
     cases x with
     |fn f caps=>
      simp only[beq_iff_eq]at hp;simp only[mapA,fC]at he;exact mode f _ hp he
     |_=>simp at hp
    |_=>simp at hp
theorem aOj{P:Program}{h h2 h1:H}{tys:List TypeId}{args:List A}{a:A}(hs:∀i∈ids0 args,∀x,h[i]? =some x->h2[i]? =some x)(he:cH P h .len tys args=some (a,h1)):h1=h/\cH P h2 .len tys args=some (a,h2):=by
 match tys,args,he with
 |t::ts,[x],he=>
  cases x with
  |mp id=>
   simp only[cH,DZ]at he|-
   split at he
   ·rename_i kt et es hu hid
    cases he;rw[hu]
    refine⟨rfl,?_⟩;simp only[hs id (by simp[ids0,idsA]) _ hid]
   ·cases he
  |_=>
   simp only[cH]at he|-
   cases hx:aLen P t _ with
   |none=>grind
   |some y=>grind
 | [],_,he=>simp[cH]at he
 |_::_,[],he=>simp[cH]at he
 |_::_,_::_::_,he=>simp[cH]at he
theorem aVH{P:Program}{h h2:H}{t:TypeId}{x:D}{l u:Option Int}:eU P h t (.d x) l u=eU P h2 t (.d x) l u:=by
 unfold eU
 cases P.underlying t with
 |none=>rfl
 |some td=>grind
theorem MF{E:Env}{call:a6}{thaw:List Nat}{o:Oper}{vs:List A}(hp:rP o.op=true){h h2 h1:H}{a:A}(hs:∀i∈ids0 vs,∀x,h[i]? =some x->h2[i]? =some x)(he:evOp E call thaw h o vs=some (a,h1)):h1=h/\evOp E call thaw h2 o vs=some (a,h2):=by
 have frame:∀ {x y:Option A},x.map (fun r=>(r,h))=some (a,h1)->(x=some a->y=some a)->h1=h/\y.map (fun r=>(r,h2))=some (a,h2):=by
  intro x y hx hy
  cases x with
  |none=>cases hx
  |some z=>cases hx;rw[hy rfl];exact⟨rfl,rfl⟩
 have look:∀ {b:A} {id:Nat} {x:O},vs.head? =some b->idsA b=[id]->h[id]? =some x->h2[id]? =some x:=by
  intro b id x hb hid hx;refine hs id ?_ x hx
  cases vs with
  |nil=>cases hb
  |cons c l=>cases hb;simp only[ids0,hid,Bf]
 obtain⟨dst,op,type,pos,after,guard⟩:=o
 cases op<;>simp only[rP,Am]at hp<;>simp only[evOp]at he|-
 case load t x=>
  obtain⟨b,rfl,he⟩:=gC he;simp only[one];refine frame he fun hx=> ?_;unfold EB at hx|-
  have hr:∀run,nR h b=some run->nR h2 b=some run:=by
   intro run hrun
   cases b with
   |ptr id gen off=>
    simp only[nR]at hrun|-
    cases hg:h[id]? with
    |none=>rw[hg]at hrun;cases hrun
    |some x=>rw[hg]at hrun;rw[look (b:=.ptr id gen off) rfl rfl hg];exact hrun
   |d x=>cases x<;>simpa only[nR]using hrun
   |_=>simp[nR]at hrun
  cases hrn:nR h b with
  |none=>rw[hrn]at hx;cases hx
  |some run=>rw[hrn]at hx;rw[hr run hrn];exact hx
 case slice t x lo hi mx=>
  split at he
  ·rename_i hmx
   rw[if_pos hmx]
   have key:∀ {b:A} {l u:Option Int},vs.head? =some b->eU E.P h t b l u=some a->eU E.P h2 t b l u=some a:=by
    intro b l u hb hx
    cases b with
    |sl id gen off len=>
     unfold eU at hx|-
     cases hu:E.P.underlying t with
     |none=>rw[hu]at hx;cases hx
     |some td=>
      rw[hu]at hx
      cases td<;>simp only[]at hx|- <;>try (cases hx;done)
      cases hg:h[id]? with
      |none=>rw[hg]at hx;cases hx
      |some x=>rw[hg]at hx;rw[look hb rfl hg];exact hx
    |d x=>
     rw[aVH (h2:=h)];exact hx
    |_=>
     unfold eU at hx
     cases hu:E.P.underlying t with
     |none=>rw[hu]at hx;cases hx
     |some td=>rw[hu]at hx;cases td<;>cases hx
   unfold rF at he|-
   split at he
   ·exact frame he (key rfl)
   ·exact frame he (key rfl)
   ·exact frame he (key rfl)
   ·exact frame he (key rfl)
   ·cases he
  ·cases he
 case indexAddr t x y=>
  obtain⟨b,c,rfl,he⟩:=nA he;obtain⟨kd,i,rfl,he⟩:=jX he;simp only[two,iO];refine frame he fun hx=> ?_;unfold pN at hx|-
  cases hu:E.P.underlying t with
  |none=>rw[hu]at hx;cases hx
  |some td=>
   rw[hu]at hx
   cases td<;>simp only[]at hx|- <;>try (first|(cases hx;done)|(exact hx;done))
   cases b with
   |sl id gen off len=>
    simp only[]at hx|-
    cases hg:h[id]? with
    |none=>rw[hg]at hx;cases hx
    |some x=>rw[hg]at hx;rw[look (b:=.sl id gen off len) rfl rfl hg];exact hx
   |d x=>cases x<;>first|exact hx|cases hx
   |_=>cases hx
 case lookup t x y ok=>
  obtain⟨b,c,rfl,he2⟩:=nA he;clear he;simp only[two];unfold n9 at he2|-;have he:=he2;clear he2
  split at he
  ·rename_i kt et id k hmt
   split at he
   ·rename_i es z hid hz
    simp only[look (b:=.mp id) rfl rfl hid,hz]
    split at he
    ·rename_i hc
     rw[if_pos hc]
     split at he
     ·rename_i r hr
      cases he;exact⟨rfl,by simp only[]⟩
     ·cases he
    ·cases he
   ·cases he
  ·cases he
 case call c=>
  obtain⟨callee,args,tys⟩:=c
  cases callee with
  |invoke r m=>simp[]at hp
  |value v=>simp[]at hp
  |builtin b=>
   cases b<;>simp only[Am]at hp
   simp only[eT]at he|-;exact aOj hs he
theorem p8:∀(n:Nat) (h:H) (todo acc:List Nat),(∀i∈acc,∃o,h[i]? =some o/\o≠.void)->∀i∈aF n h todo acc,∃o,h[i]? =some o/\o≠.void
 |0,_,_,_,hn=>by simpa only[aF]using hn
 |_+1,_,[],_,hn=>by simpa only[aF]using hn
 |n+1,h,i::todo,acc,hn=>by
  simp only[aF]
  split
  ·exact p8 n h todo acc hn
  ·have key:∀o,h[i]? =some o->o≠.void->∀j∈acc++[i],∃o,h[j]? =some o/\o≠.void:=by
    intro o ho hne j hj;simp only[Ak,Bf]at hj
    rcases hj with hj|rfl
    ·grind
    ·grind
   split
   ·rename_i cs ho;exact p8 n h _ _ (key _ ho sm)
   ·rename_i cs _ _ ho;exact p8 n h _ _ (key _ ho sm)
   ·exact p8 n h _ _ hn
   ·rename_i o _ _ hne ho;exact p8 n h _ _ (key _ ho (fun e=>hne e))
   ·exact p8 n h _ _ hn
theorem aQW{h:H}{ids:List Nat}{base k:Nat}(hv:∀i∈List.range' base k,h[i]? =some .void):(aF aI h ids []++List.range' base k).Nodup:=by
 rw[Dm];refine⟨bW _ _ _ _ sm,List.nodup_range',fun a ha b hb e=> ?_⟩;subst e;obtain⟨o,ho,hne⟩:=p8 aI h ids [] sm a ha;rw[hv a hb]at ho;cases ho;exact hne rfl
theorem OI{α:Type}{l:List α}{i j:Nat}{x:α}(h:i≠j):(l.set i x)[j]? =l[j]?:=Dq h
theorem GR{P:Program}{h h1:H}{t:TypeId}{s x a:A}(he:nD P h t s x=some (a,h1)){j:Nat}(hj:j<h.length)(hs:∀id gen off len,s=.sl id gen off len->id≠j):h1[j]? =h[j]?:=by
 unfold nD at he
 repeat' split at he
 all_goals first
  |(cases he;done)
  |(cases he;first
    |exact Be hj
    |exact OI (hs _ _ _ _ rfl))
theorem VO{P:Program}{h h1:H}{t:TypeId}{id gen off len:Nat}{x a:A}(he:pZ P h t id gen off len x=some (a,h1)){j:Nat}(hs:id≠j):h1[j]? =h[j]?:=by
 unfold pZ at he
 repeat' split at he
 all_goals first
  |(cases he;done)
  |(cases he;exact OI hs)
theorem aNi{P:Program}{h h1:H}{t:TypeId}{s x a:A}(he:rI P h t s x=some (a,h1)){j:Nat}(hj:j<h.length)(hs:∀id gen off len,s=.sl id gen off len->id≠j):h1[j]? =h[j]?:=by
 unfold rI at he
 split at he
 ·rename_i id gen off len
  have hne:=hs _ _ _ _ rfl
  split at he
  ·exact VO he hne
  ·split at he
   ·split at he
    ·rw[VO he hne,OI hne]
    ·exact GR he hj hs
   ·exact GR he hj hs
 ·exact GR he hj hs
theorem SY:∀(cs:List A) (h:H) (j:Nat),j<h.length->(bE h cs).2[j]? =h[j]?/\h.length<=(bE h cs).2.length
 | [],h,j,_=>by simp[bE]
 |c::cs,h,j,hj=>by
  by_cases hc:c=.d .nils
  ·subst hc;have:=SY cs (h++[.arr [] 0 0]) j (by simp;omega);simp only[Af,Ae,Ac]at this;simp only[bE];exact⟨this.1.trans (Be hj),by omega⟩
  ·have e1:(bE h (c::cs)).2=(bE h cs).2:=by
    rw[bE.eq_def]
    split
    ·grind
    ·grind
    ·grind
   rw[e1];exact SY cs h j hj
theorem aIQ{h h1:H}{v a:A}(he:aNew h v=some (a,h1)){j:Nat}(hj:j<h.length):h1[j]? =h[j]?:=by
 unfold aNew at he
 split at he
 ·cases he;obtain⟨h2,h3⟩:=SY (a7 v) h j hj
  rw[Be om,h2]
 ·cases he
theorem aHU{P:Program}{h:H}{tys:List TypeId}{args:List A}{r:A×H}(he:cH P h .append tys args=some r):∃t s x,args=[s,x]/\rI P h t s x=some r:=by
 match tys,args,he with
 | [t,u],[s,x],he=>
  simp only[cH]at he
  split at he
  ·cases he
  ·cases he
  ·grind
 | [],_,he=>simp[cH]at he
 | [_],_,he=>simp[cH]at he
 |_::_::_::_,_,he=>simp[cH]at he
 | [_,_],[],he=>simp[cH]at he
 | [_,_],[_],he=>simp[cH]at he
 | [_,_],_::_::_::_,he=>simp[cH]at he
theorem aTD{E:Env}{call:a6}{thaw:List Nat}{o:Oper}{vs:List A}{h h1:H}{ord:List Nat}{a:A}(he:evOp E call thaw (pack h ord) o (aG (aJ ord) vs)=some (a,h1)){j i:Nat}(hj:ord[j]? =some i)(hi:i∉wrOf E o.op vs ord):h1[j]? =(pack h ord)[j]?:=by
 have hjl:j<(pack h ord).length:=by
  simp only[pack,Al];exact(Aw.1 hj).1
 have hio:i∈ord:=Bq hj;obtain⟨dst,op,type,pos,after,guard⟩:=o
 have lent:∀(f:FuncId) (args:List A),i∉(if(E.hint f).mode==3 then []else ord)->bY call E.hint (pack h ord) f args=some (a,h1)->h1[j]? =(pack h ord)[j]?:=by
  intro f args hm hc
  split at hm
  ·rename_i hm3
   unfold bY at hc;rw[beq_iff_eq.1 hm3]at hc;simp only[]at hc
   split at hc
   ·split at hc
    ·split at hc
     ·cases hc;exact Be hjl
     ·cases hc
    ·cases hc
   ·cases hc
  ·exact absurd hio hm
 cases op<;>simp only[evOp]at he<;>first
  |exact absurd hio hi
  |skip
 case assign x=>
  obtain⟨b,_,he⟩:=gC he;unfold LX at he
  repeat' split at he
  all_goals (cases he;first|rfl|exact Be hjl)
 case alloc t=>
  cases hz:dD E.P t with
  |none=>rw[hz]at he;cases he
  |some z=>rw[hz]at he;exact aIQ he hjl
 case box t x=>
  obtain⟨b,_,he⟩:=gC he;exact aIQ he hjl
 case makeSlice t x y=>
  obtain⟨a1,b,_,he⟩:=nA he;obtain⟨_,l,_,he⟩:=jX he;obtain⟨_,c,_,he⟩:=jX he
  split at he
  ·unfold KK at he
   repeat' split at he
   all_goals first
    |(cases he;done)
    |(cases he;exact Be hjl)
  ·unfold iH at he
   repeat' split at he
   all_goals first
    |(cases he;done)
    |(cases he;exact Be hjl)
 case makeMap t y=>
  split at he
  ·cases he;exact Be hjl
  ·cases he
 case call c=>
  obtain⟨callee,args,tys⟩:=c;unfold eT at he
  cases callee with
  |invoke r m=>cases he
  |builtin b=>
   simp only[]at he
   cases b<;>first
    |(simp only[wrOf]at hi;exact absurd hio hi)
    |skip
   cases vs with
   |nil=>simp only[wrOf]at hi;exact absurd hio hi
   |cons s vs=>
    simp only[wrOf]at hi;simp only[aG]at he;obtain⟨t,s',x,hargs,he⟩:=aHU he;simp only[List.cons.injEq]at hargs;refine aNi he hjl fun id gen off len hsl=> ?_;rw[<-hargs.1]at hsl
    cases s with
    |sl id0 g0 o0 l0=>
     simp only[mapA]at hsl
     split at hsl
     ·rename_i k hk
      cases hsl;intro e
      subst e;have:=bH hk;rw[hj]at this;cases this;exact hi (by simp[idsA])
     ·cases hsl
    |ptr id0 g0 o0=>
     simp only[mapA]at hsl
     split at hsl<;>cases hsl
    |mp id0=>
     simp only[mapA]at hsl
     split at hsl<;>cases hsl
    |_=>simp only[mapA]at hsl;cases hsl
  |value fv=>
   simp only[]at he
   cases vs with
   |nil=>cases he
   |cons g vs=>
    simp only[aG]at he
    cases g with
    |clo f caps=>
     simp only[mapA,fC]at he;exact lent f _ (by simpa only[wrOf]using hi) he
    |d x=>
     cases x with
     |fn f caps=>
      simp only[mapA,fC]at he;exact lent f _ (by simpa only[wrOf]using hi) he
     |_=>simp only[wrOf]at hi;exact absurd hio hi
    |_=>simp only[wrOf]at hi;exact absurd hio hi
theorem ZM{q:Nat->Bool}:∀(W:List (Nat×O)) (h:H),(W.map (·.1)).Nodup->(∀i o,(i,o)∈W->q i=false->h[i]? =some o)->putW (W.filter fun p=>q p.1) h=putW W h
 | [],h,_,_=>rfl
 |(i,o)::W,h,hn,hs=>by
  simp only[Aj,Dx]at hn
  cases hq:q i with
  |true=>
   simp only[List.filter_cons,hq,if_true,putW];refine ZM W _ hn.2 fun i' o' hm hq'=> ?_;rw[OI (fun e=>hn.1 (Av.2 ⟨(i',o'),hm,e.symm⟩))];exact hs i' o' (Az _ hm) hq'
  |false=>
   simp only[List.filter_cons,hq,Am,if_false,putW];have h1:=hs i o sm hq
   have h2:h.set i o=h:=by
    apply Cr;intro j;obtain⟨hl,he⟩:=Aw.1 h1
    by_cases e:i=j
    ·grind
    ·simp[e]
   rw[h2];exact ZM W h hn.2 fun i' o' hm hq'=>hs i' o' (Az _ hm) hq'
theorem aOR{E:Env}{call:a6}{thaw:List Nat}{o:Oper}{vs:List A}{h h1:H}{ord:List Nat}{a:A}{base k:Nat}(he:evOp E call thaw (pack h ord) o (aG (aJ ord) vs)=some (a,h1))(hcl:closed h ord (idsL vs)=true)(hn:(ord++List.range' base k).Nodup)(hlen:h1.length=ord.length+k)(hl:∀i∈ord,i<h.length):
  putW (((ord++List.range' base k).zip (h1.map (mapO (fun(j:Nat)=>(ord++List.range' base k)[j]?)))).filter fun p=>(wrOf E o.op vs ord++List.range' base k).contains p.1) h=putW ((ord++List.range' base k).zip (h1.map (mapO (fun(j:Nat)=>(ord++List.range' base k)[j]?)))) h:=by
 refine ZM (q:=fun i=>(wrOf E o.op vs ord++List.range' base k).contains i) _ h ?_ ?_
 ·rw[List.map_fst_zip (by simp;omega)];exact hn
 ·intro i x hm hq;have hq:i∉wrOf E o.op vs ord++List.range' base k:=by grind
  simp only[Ak,not_or]at hq;obtain⟨j,hj⟩:=List.getElem?_of_mem hm;rw[List.getElem?_zip_eq_some]at hj;obtain⟨hj1,hj2⟩:=hj;have hjo:ord[j]? =some i:=by grind
  have hio:=Bq hjo;rw[Bh,aTD he hjo hq.1]at hj2;have hi:=hl i hio;have hg:h[i]? =some h[i]:=by grind
  have hp:(pack h ord)[j]? =some (mapO (aJ ord) h[i]):=by
   simp only[pack,Bh,hjo,Bb,Aa,hg,Bg]
  rw[hp]at hj2;rw[hg,<-hj2]
  congr 1
  exact(aGs hcl hio hg).symm
section
variable{E:Env}{call:a6}
theorem aSV(hE:EnvOK E)(hc:kO G E.P call){h:H}{ρ:Rho}{w:World}{I:Nat->Prop}{thaw:List Nat}{ops:List Oper}{base k:Nat}{o:Oper}{s:List A}{x:A}{W:List (Nat×O)}{fp:Foot}{act:Act}(he:j4 E call thaw ops base k o s h=some (x,W,fp))(r:Rel G h ρ w I)(hs:ARv h ρ w I s act.tmps.toList)
  (K:Act->World->Prop) (Q:Exit->Act->World->Prop) (hK:∀act' ρ' w' I',Step G h ρ w I (putW W h) ρ' w' I'->ARv (putW W h) ρ' w' I' (aPut s o.dst x) act'.tmps.toList->act'.defers=act.defers->K act' w'):
  if Region.wanted o (yielded ops.toArray act.tmps)then o.wp E.P act w K Q else K (act.put o.dst undef) w:=by
 unfold j4 at he
 split at he
 ·rename_i hw
  rw[aA9 hw hs,if_pos rfl]
  split at he
  ·rename_i vs hvs
   have ha:=aAS hs hvs
   split at he
   ·rename_i hp
    split at he
    ·rename_i x1 h1 hop
     cases he;have hh:=aRT hp hop
     subst hh;exact SH hE hc hop r ha K Q fun v ρ' w' I' s1 hx=>hK _ ρ' w' I' s1 (J8 (fR s1.ext s _ hs) hx) (p9 _ _ _)
    ·cases he
   split at he
   ·rename_i hp
    split at he
    ·rename_i x1 h1 hop
     cases he;have hh:=(MF hp (h2:=h) (fun _ _ _ hx=>hx) hop).1
     subst hh;exact SH hE hc hop r ha K Q fun v ρ' w' I' s1 hx=>hK _ ρ' w' I' s1 (J8 (fR s1.ext s _ hs) hx) (p9 _ _ _)
    ·cases he
   ·unfold zN at he
    split at he
    ·rename_i x1 h1 hop
     split at he
     ·rename_i hcond
      simp only[Ar,decide_eq_true_eq,Bk]at hcond;obtain⟨⟨hlen,hcl⟩,hv⟩:=hcond;have hv:∀i∈List.range' base k,h[i]? =some .void:=fun i hi=>aF7.1 (hv i hi);have hl:=kE aI h (idsL vs) [] sm;have hn:=aQW (ids:=idsL vs) hv;have hno:=(Dm.1 hn).1;have hr:=aDC r hno hl
      have hren:∀id k,aJ (aF aI h (idsL vs) []) id=some k->jR h ρ w I id (pack h (aF aI h (idsL vs) [])) (sub (aF aI h (idsL vs) []) ρ) w I k:=fun id k hk=>
       m5 (fun o ho=>iS (bH hk) ho) (by simp[sub,bH hk])
      have hleaf:=SH hE hc hop hr (DI (lY w I) hren vs _ ha)
      split at he
      ·rename_i hro
       cases he;simp only[Ar,beq_iff_eq]at hro
       have hh:=aRY hro.1 hop;refine hleaf K Q fun v ρ' w' I' s1 hx=> ?_;have hst:=aGr (fresh:=[]) r (by simpa using hno) hl sm (by rw[hlen,hro.2];simp) s1;rw[hh]at hst hx;simp only[Ai]at hst;rw[aTX hcl hno hl]at hst;exact hK _ _ w' I' hst.1 (J8 (fR hst.1.ext s _ hs) (EO (lY _ _) hst.2 x1 v hx)) (p9 _ _ _)
      ·cases he;refine hleaf K Q fun v ρ' w' I' s1 hx=> ?_
       obtain⟨s2,refs⟩:=aGr r hn hl hv (by simpa using hlen) s1;rw[aEI,<-aOR hop hcl hn hlen hl]at s2 refs;exact hK _ _ w' I' s2 (J8 (fR s2.ext s _ hs) (EO (lY _ _) refs x1 v hx)) (p9 _ _ _)
     ·cases he
    ·cases he
  ·cases he
 ·rename_i hw
  rw[aA9 hw hs];cases he;exact hK _ ρ w I (.refl r) (J8 hs (by simp only[AR,DR])) (p9 _ _ _)
 ·cases he
theorem aUC:∀(op:Op) (x:Operand),x∈opds op->x∈op.operands:=by
 intro op x hx
 cases op<;>simp only[opds,Op.operands]at hx|- <;>try (simp at hx;done)
 case slice t y lo hi mx=>
  simp only[Au,Ak,Option.mem_toList]at hx
  cases lo<;>cases hi<;>cases mx<;>simp only[Option.some.injEq,reduceCtorEq,or_false,false_or,Option.toArray_none,Option.toArray_some]at hx|- <;>simp<;>grind
 case call c=>
  simp only[Call.operands]
  cases hcal:c.callee<;>rw[hcal]at hx<;>simp at hx|-
  ·exact hx
  ·exact hx
 all_goals (first|(simpa using hx)|(simp at hx|-;simp_all))
theorem aCw{s s':List A}:∀(xs:List Operand),(∀t,.tmp t∈xs->s[t]? =s'[t]?)->bS s xs=bS s' xs
 | [],_=>rfl
 |x::xs,h=>by
  simp only[bS];rw[aCw xs fun t ht=>h t (by simp[ht])]
  have:cE s x=cE s' x:=by
   cases x with
   |tmp t=>
    simp only[cE];rw[Aa,Aa,h t sm]
   |_=>rfl
  rw[this]
theorem aPz{ops:List Oper}{s s':List A}{o:Oper}(h:∀t∈o.looksAt ops.toArray,s[t]? =s'[t]?):sD ops s o=sD ops s' o:=by
 unfold sD
 cases hg:o.guard with
 |none=>rfl
 |some jw=>
  obtain⟨j,want⟩:=jw;simp only[]
  cases hd:(ops[j]?).bind (·.dst)with
  |none=>rfl
  |some d=>
   simp only[];rw[h d (by simp[Oper.looksAt,hg,hd])]
theorem aCA{thaw:List Nat}{base k:Nat}{o:Oper}{vs:List A}{h:H}{ord:List Nat}{a:A}{W:List (Nat×O)}{fp:Foot}(he:zN E call thaw base k o vs h ord=some (a,W,fp)):
  (∀i∈ord,i∈fp.ids)/\closed h ord (idsL vs)=true/\(∀i∈List.range' base k,i∈fp.ids)/\(fp.ro=true->W=[])/\∀i∈W.map (·.1),i∈fp.ids/\i∈fp.wr:=by
 unfold zN at he
 split at he
 ·split at he
  ·rename_i hcond
   simp only[Ar]at hcond
   split at he
   ·grind
   ·cases he;refine⟨fun i hi=>Ea _ hi,hcond.1.2,fun i hi=>List.mem_append_right _ hi,by simp,fun i hi=> ?_⟩
    obtain⟨p,hp,rfl⟩:=Av.1 hi;obtain⟨hp,hw⟩:=List.mem_filter.1 hp;exact⟨(List.of_mem_zip hp).1,Eb.1 hw⟩
  ·cases he
 ·cases he
theorem aNo{thaw:List Nat}{base k:Nat}{o:Oper}{vs:List A}{h h':H}{ord:List Nat}(h1:∀i∈ord,h[i]? =h'[i]?)(h2:∀i∈List.range' base k,h[i]? =h'[i]?):zN E call thaw base k o vs h' ord=zN E call thaw base k o vs h ord:=by
 unfold zN;rw[aAl h1,QD h1,ZP (f:=KY h') (g:=KY h) fun i hi=>by unfold KY;rw[h2 i hi]]
theorem VM{thaw:List Nat}{ops:List Oper}{base k:Nat}{o:Oper}{s:List A}{h:H}{a:A}{W:List (Nat×O)}{fp:Foot}(he:j4 E call thaw ops base k o s h=some (a,W,fp)):
  (fp.ro=true->W=[])/\∀i∈W.map (·.1),i∈fp.ids/\i∈fp.wr:=by
 unfold j4 at he
 split at he
 ·split at he
  ·split at he
   ·grind
   ·split at he
    ·grind
    ·exact(aCA he).2.2.2
  ·cases he
 ·grind
 ·cases he
theorem aN6{thaw:List Nat}{ops:List Oper}{base k:Nat}{o:Oper}{s s':List A}{h h':H}{a:A}{W:List (Nat×O)}{fp:Foot}(he:j4 E call thaw ops base k o s h=some (a,W,fp))
  (hs:∀t∈o.looksAt ops.toArray,s[t]? =s'[t]?) (hh:∀i∈fp.ids,h[i]? =h'[i]?):j4 E call thaw ops base k o s' h'=some (a,W,fp):=by
 unfold j4 at he|-;rw[<-aPz hs]
 split at he
 ·rw[<-aCw (opds o.op) fun t ht=>hs t (Ea _ (List.mem_filterMap.2 ⟨.tmp t,by simpa using aUC _ _ ht,rfl⟩))]
  split at he
  ·split at he
   ·rename_i hp
    split at he
    ·rename_i x1 h1 hop
     cases he;rw[if_pos hp,YF hp h h',hop]
     rfl
    ·cases he
   ·rename_i hp
    rw[if_neg hp]
    split at he
    ·rename_i hp
     split at he
     ·rename_i x1 h1 hop
      cases he;rw[if_pos hp,(MF hp (fun i hi x hx=>by rw[<-hh i hi];exact hx) hop).2]
     ·cases he
    rename_i hp
    rw[if_neg hp];obtain⟨i1,i2,i3,_⟩:=aCA he;have hb:=HZ i2;rw[mR (S:=aF aI h (idsL _) []) (fun i hi=>hh i (i1 i hi)) hb.2 aI _ [] hb.1];rw[aNo (fun i hi=>hh i (i1 i hi)) (fun i hi=>hh i (i3 i hi))];exact he
  ·cases he
 ·exact he
 ·cases he
end
end Ev
end Go.Proofs.YtppffbehejpglaaGreatDoor
namespace Go.Proofs.YtppffbehejpglaaGreatDoor
namespace Ev
variable{G:Gnd}
structure Ent where
 dst:Option Tmp
 base:Nat
 k:Nat
 a:A
 wr:List (Nat×O)
 fp:Foot
def runL(L:Nat->Bool):Nat->List Ent->List A->H->List A×H
 |_,[],s,h=>(s,h)
 |k,e::es,s,h=>if L k then runL L (k+1) es (aPut s e.dst e.a) (putW e.wr h)else runL L (k+1) es s h
section loc
variable{X:Type}(u:Ent->X->X)(m:Ent->Bool)
def loc(L:Nat->Bool):Nat->List Ent->X->X
 |_,[],v=>v
 |k,e::es,v=>loc L (k+1) es (if L k then u e v else v)
variable{u m}(hu:∀e v,m e=false->u e v=v)
include hu
theorem FQ{L L':Nat->Bool}:∀(es:List Ent) (k:Nat) (v:X),(∀(j:Nat) (e:Ent),es[j]? =some e->m e=true->L (k+j)=L' (k+j))->loc u L k es v=loc u L' k es v
 | [],_,_,_=>rfl
 |e::es,k,v,h=>by
  simp only[loc]
  have h0:(if L k then u e v else v)=(if L' k then u e v else v):=by
   cases hm:m e with
   |false=>grind
   |true=>have:=h 0 e sm hm;simp only[By]at this;rw[this]
  rw[h0]
  exact FQ es (k+1) _ fun j e' hj hm=>by
   have:=h (j+1) e' (by simpa using hj) hm;rw[show k+(j+1)=k+1+j from by omega]at this;exact this
theorem TW{L:Nat->Bool}{e:Ent}:∀(es:List Ent) (k i:Nat) (v:X),es[i]? =some e->L (k+i)=false->(∀(j:Nat) (e':Ent),i<j->es[j]? =some e'->m e=true->m e'=true->L (k+j)=false)->
  loc u (fun j=>j==k+i||L j) k es v=u e (loc u L k es v)
 | [],_,_,_,h,_,_=>by simp at h
 |e0::es,k,0,v,h,hL,hlate=>by
  simp only[Cs,Option.some.injEq]at h;subst h;simp only[By]at hL;simp only[loc,By,beq_self_eq_true,Bool.true_or,if_true,hL,Am,if_false]
  have e1:loc u (fun j=>j==k||L j) (k+1) es (u e0 v)=loc u L (k+1) es (u e0 v):=by
   refine FQ (m:=fun _=>true) (fun _ _ h=>by cases h) es (k+1) _ fun j e' _ _=> ?_;have:(k+1+j==k)=false:=by grind
   simp[this]
  rw[e1]
  cases hm:m e0 with
  |false=>grind
  |true=>
   have out:∀v,loc u L (k+1) es v=loc u (fun _=>false) (k+1) es v:=fun v=>FQ hu es (k+1) v fun j e' hj hm'=>by
    have:=hlate (j+1) e' om (by simpa using hj) hm hm';rw[show k+(j+1)=k+1+j from by omega]at this;exact this
   have non:∀(es:List Ent) (k:Nat) (v:X),loc u (fun _=>false) k es v=v:=by
    intro es
    induction es with
    |nil=>intro k v;rfl
    |cons e es ih=>intro k v;simp only[loc];exact ih _ _
   rw[out,out,non,non]
 |e0::es,k,i+1,v,h,hL,hlate=>by
  simp only[loc];have hne:(k==k+(i+1))=false:=sm;simp only[hne,Bool.false_or]
  have ih:=TW (L:=L) (e:=e) es (k+1) i (if L k then u e0 v else v) (by simpa using h) (by rw[show k+1+i=k+(i+1)from by omega];exact hL) (fun j e' hj he'=>by
   have:=hlate (j+1) e' om (by simpa using he');rw[show k+(j+1)=k+1+j from by omega]at this;exact this)
  rw[show k+1+i=k+(i+1)from by omega]at ih;exact ih
end loc
def uS(t:Nat)(e:Ent)(v:Option A):Option A:=if e.dst=some t then v.map (fun _=>e.a)else v
def mS(t:Nat)(e:Ent):Bool:=decide (e.dst=some t)
def uW(id:Nat)(e:Ent)(v:Option O):Option O:=wrW id e.wr v
def mW(id:Nat)(e:Ent):Bool:=(e.wr.map (·.1)).contains id
theorem aQ0(t:Nat)(e:Ent)(v:Option A)(h:mS t e=false):uS t e v=v:=by
 simp only[mS,decide_eq_false_iff_not]at h;simp only[uS,if_neg h]
theorem aSj(id:Nat)(e:Ent)(v:Option O)(h:mW id e=false):uW id e v=v:=
 aOK id e.wr v (fun hm=>by simp only[mW]at h;rw[Eb.2 hm]at h;cases h)
theorem aMh(s:List A)(dst:Option Tmp)(a:A)(t:Nat):(aPut s dst a)[t]? =if dst=some t then s[t]?.map (fun _=>a)else s[t]?:=by
 cases dst with
 |none=>simp[aPut]
 |some d=>
  simp only[aPut,Cp,Option.some.injEq]
  by_cases e:d=t
  ·grind
  ·simp[e]
theorem yU(L:Nat->Bool)(t:Nat):∀(es:List Ent) (k:Nat) (s:List A) (h:H),(runL L k es s h).1[t]? =loc (uS t) L k es s[t]?
 | [],_,_,_=>rfl
 |e::es,k,s,h=>by
  simp only[runL,loc]
  cases hL:L k with
  |true=>simp only[if_true];rw[yU L t es,aMh];rfl
  |false=>simp only[Am,if_false];exact yU L t es _ _ _
theorem DY(L:Nat->Bool)(id:Nat):∀(es:List Ent) (k:Nat) (s:List A) (h:H),(runL L k es s h).2[id]? =loc (uW id) L k es h[id]?
 | [],_,_,_=>rfl
 |e::es,k,s,h=>by
  simp only[runL,loc]
  cases hL:L k with
  |true=>simp only[if_true];rw[DY L id es,aEr];rfl
  |false=>simp only[Am,if_false];exact DY L id es _ _ _
theorem TZ{L L':Nat->Bool}:∀(es:List Ent) (k:Nat) (s:List A) (h:H),(∀j,j<es.length->L (k+j)=L' (k+j))->runL L k es s h=runL L' k es s h
 | [],_,_,_,_=>rfl
 |e::es,k,s,h,hl=>by
  simp only[runL];have h0:=hl 0 sm;simp only[By]at h0;rw[h0]
  have ih:=fun s h=>TZ (L:=L) (L':=L') es (k+1) s h fun j hj=>by
   have:=hl (j+1) (by simpa using hj);rw[show k+(j+1)=k+1+j from by omega]at this;exact this
  rw[ih,ih]
def aPH(E:Env)(call:a6)(thaw:List Nat)(ops:List Oper):List Oper->List Ent->List A->H->Prop
 | [],[],_,_=>True
 |o::os,e::es,s,h=>e.dst=o.dst/\j4 E call thaw ops e.base e.k o s h=some (e.a,e.wr,e.fp)/\aPH E call thaw ops os es (aPut s e.dst e.a) (putW e.wr h)
 |_,_,_,_=>False
theorem aM9{E:Env}{call:a6}{thaw:List Nat}{ops:List Oper}:∀(os:List Oper) (es:List Ent) (k:Nat) (s:List A) (h:H),aPH E call thaw ops os es s h->
  os.length=es.length/\∀(i:Nat) (o:Oper),os[i]? =some o->∃e,es[i]? =some e/\e.dst=o.dst/\
   j4 E call thaw ops e.base e.k o (runL (fun j=>decide (j<k+i)) k es s h).1 (runL (fun j=>decide (j<k+i)) k es s h).2=some (e.a,e.wr,e.fp)
 | [],[],_,_,_,_=>⟨rfl,fun i o h=>by simp at h⟩
 | [],_::_,_,_,_,h=>h.elim
 |_::_,[],_,_,_,h=>h.elim
 |o::os,e::es,k,s,h,ht=>by
  obtain⟨hd,hst,ht⟩:=ht;obtain⟨hl,ih⟩:=aM9 os es (k+1) _ _ ht;refine⟨by simp[hl],fun i o' ho=> ?_⟩
  cases i with
  |zero=>
   simp only[Cs,Option.some.injEq]at ho;subst ho;refine⟨e,rfl,hd,?_⟩
   have:runL (fun j=>decide (j<k+0)) k (e::es) s h=(s,h):=by
    rw[TZ (L':=fun _=>false) _ _ _ _ fun j _=>by simp]
    have non:∀(es:List Ent) (k:Nat),runL (fun _=>false) k es s h=(s,h):=by
     intro es
     induction es with
     |nil=>intro k;rfl
     |cons e es ih=>intro k;simp only[runL];exact ih _
    exact non _ _
   rw[this];exact hst
  |succ i=>
   obtain⟨e',he',hd',hst'⟩:=ih i o' (by simpa using ho);refine⟨e',by simpa using he',hd',?_⟩;have hlt:decide (k<k+(i+1))=true:=sm;simp only[runL,hlt,if_true];rw[show k+(i+1)=k+1+i from by omega];exact hst'
theorem aIq(acc:List Nat)(j:Nat):∀(es:List Edge) (s0:Nat),(es.foldl (fun s e=>if Region.binds .any e then s|||2^e.on|||acc.getD e.on 0 else s) s0).testBit j=true->
  s0.testBit j=true\/∃e∈es,Region.binds .any e=true/\(j=e.on\/(acc.getD e.on 0).testBit j=true)
 | [],s0,h=>.inl h
 |e::es,s0,h=>by
  simp only[Dc]at h
  rcases aIq acc j es _ h with h1|⟨e',he',h2⟩
  ·grind
  ·grind
def H1(ops:List Oper)(L:Nat->Bool)(m:Nat):Prop:=∀o,ops[m]? =some o->∀e∈o.after,Region.binds .any e=true->L e.on=true
theorem aEY{ops:List Oper}{L:Nat->Bool}(hL:∀m,L m=true->H1 ops L m):∀(os:List Oper) (acc:List Nat),(∀j,os[j]? =ops[acc.length+j]?)->
  (∀m j,(acc.getD m 0).testBit j=true->H1 ops L m->L j=true)->∀m j,((NW os acc).getD m 0).testBit j=true->H1 ops L m->L j=true
 | [],acc,_,h=>by simpa only[NW]using h
 |o::os,acc,hops,h=>by
  refine aEY hL os _ (fun j=>by have:=hops (j+1);simp only[Ay]at this;rw[this];congr 1;simp;omega) fun m j hb hm=> ?_;rw[Aa]at hb
  by_cases hlt:m<acc.length
  ·grind
  ·by_cases he:m=acc.length
   ·subst he;simp only[List.getElem?_concat_length,Bg]at hb;have ho:ops[acc.length]? =some o:=by have:=hops 0;simp at this;exact this.symm
    rcases aIq acc j _ _ hb with h0|⟨e,hem,hbd,h1⟩
    ·simp at h0
    ·have hon:=hm o ho e (by simpa using hem) hbd
     rcases h1 with rfl|h1
     ·exact hon
     ·grind
   ·grind
theorem aMf{ops:Array Oper}:∀(fuel k:Nat) (listed:Array Bool),listed.size=ops.size->k+fuel=ops.size->(∀j,j<ops.size->∀d,listed.getD j d=decide (j<k))->Region.lexFrom .any ops fuel k listed=true->
  ∀m o,k<=m->ops[m]? =some o->(∀e∈o.after,Region.binds .any e=true->e.on<m)/\∀j oj,m<j->ops[j]? =some oj->(∀e∈oj.after,Region.binds .any e=true->e.on≠m)->o.apart ops oj=true
 |0,k,listed,hs,hk,_,_=>by
  intro m o hm ho;have:=(Bn.1 ho).1;omega
 |fuel+1,k,listed,hs,hk,hl,h=>by
  simp only[Region.lexFrom,Ar]at h;obtain⟨⟨h1,h2⟩,h3⟩:=h;intro m o hm ho;have hkn:k<ops.size:=om
  by_cases he:m=k
  ·subst he;have hr:m∈Region.ready .any ops listed:=by grind
   obtain⟨_,o',ho',hall⟩:=mem_ready.1 hr;rw[ho]at ho';cases ho';refine⟨fun e hem hb=> ?_,fun j oj hj hoj hno=> ?_⟩
   ·have h4:=hall e hem hb;have hlt:e.on<ops.size:=by grind
    rw[hl _ hlt]at h4
    simpa using h4
   ·refine Region.free_spec ho h2 j oj hoj om ?_ hno;rw[hl j (Bn.1 hoj).1]
    simp;omega
  ·refine aMf fuel (k+1) _ (by simpa using hs) om (fun j hj d=> ?_) h3 m o om ho
   by_cases e:k=j
   ·simp_all
   ·rw[getD_set_ne d e,hl j hj]
    by_cases hjk:j<k
    ·grind
    ·grind
end Ev
end Go.Proofs.YtppffbehejpglaaGreatDoor
namespace Go.Proofs.YtppffbehejpglaaGreatDoor
namespace Ev
variable{G:Gnd}
section
variable{E:Env}{call:a6}{thaw:List Nat}
structure Ran(E:Env)(call:a6)(thaw:List Nat)(ops:Array Oper)(es:List Ent)(s:List A)(h:H):Prop where
 len:es.length=ops.size
 at':∀(i:Nat) (o:Oper),ops[i]? =some o->∃e,es[i]? =some e/\e.dst=o.dst/\
   j4 E call thaw ops.toList e.base e.k o (runL (fun j=>decide (j<i)) 0 es s h).1 (runL (fun j=>decide (j<i)) 0 es s h).2=some (e.a,e.wr,e.fp)
 lex:∀m o,ops[m]? =some o->(∀e∈o.after,Region.binds .any e=true->e.on<m)/\∀j oj,m<j->ops[j]? =some oj->(∀e∈oj.after,Region.binds .any e=true->e.on≠m)->o.apart ops oj=true
 mem:∀i j ei ej,i<j->es[i]? =some ei->es[j]? =some ej->kR ei.fp ej.fp=true->((NW ops.toList []).getD j 0).testBit i=true
theorem aCd{ops:Array Oper}{L:Nat->Bool}(hL:∀m,L m=true->H1 ops.toList L m){m j:Nat}(hb:((NW ops.toList []).getD m 0).testBit j=true)(hm:H1 ops.toList L m):L j=true:=
 aEY hL ops.toList [] (fun j=>by simp) (fun m j h=>by simp at h) m j hb hm
theorem aDk{a b:Foot}{i:Nat}(hr:(a.ro=false/\i∈a.wr/\i∈b.ids)\/(b.ro=false/\i∈b.wr/\i∈a.ids)):kR a b=true:=by
 simp only[kR,Bool.or_eq_true,Ar,Cx,List.any_eq_true,Eb]
 rcases hr with⟨h1,h2,h3⟩|⟨h1,h2,h3⟩
 ·grind
 ·grind
theorem aR6{ops:Array Oper}{es:List Ent}{s:List A}{h:H}(R:Ran E call thaw ops es s h){L:Nat->Bool}(hL:∀m,L m=true->H1 ops.toList L m){i:Nat}{o:Oper}(ho:ops[i]? =some o)(hi:L i=false)(hh:H1 ops.toList L i):
  ∃e,es[i]? =some e/\e.dst=o.dst/\j4 E call thaw ops.toList e.base e.k o (runL L 0 es s h).1 (runL L 0 es s h).2=some (e.a,e.wr,e.fp)/\
   runL (fun j=>j==i||L j) 0 es s h=(aPut (runL L 0 es s h).1 o.dst e.a,putW e.wr (runL L 0 es s h).2):=by
 obtain⟨e,he,hd,hst⟩:=R.at' i o ho;have hw:=VM hst
 have opAt:∀(j:Nat) (e':Ent),es[j]? =some e'->∃o',ops[j]? =some o'/\e'.dst=o'.dst/\(e'.fp.ro=true->e'.wr=[])/\∀id∈e'.wr.map (·.1),id∈e'.fp.ids/\id∈e'.fp.wr:=by
  intro j e' hj;have hlt:j<ops.size:=by rw[<-R.len];exact(Aw.1 hj).1
  obtain⟨e2,he2,hd2,hst2⟩:=R.at' j ops[j] (by simp[hlt]);rw[hj]at he2;cases he2;exact⟨ops[j],by simp[hlt],hd2,VM hst2⟩
 have before:∀(j:Nat) (oj:Oper),j<i->ops[j]? =some oj->(¬(oj.apart ops o=true))->L j=true:=by
  intro j oj hj hoj hna
  by_cases hx:∀e∈o.after,Region.binds .any e=true->e.on≠j
  ·exact absurd ((R.lex j oj hoj).2 i o hj ho hx) hna
  ·obtain⟨e',hx⟩:=Classical.not_forall.1 hx;have:e'∈o.after/\Region.binds .any e'=true/\e'.on=j:=by grind
   rw[<-this.2.2];exact hh o (by simpa using ho) e' this.1 this.2.1
 have later:∀(j:Nat) (oj:Oper),i<j->ops[j]? =some oj->(¬(o.apart ops oj=true))->L j=false:=by
  intro j oj hj hoj hna
  cases hlj:L j with
  |false=>rfl
  |true=>
   exfalso
   by_cases hx:∀e∈oj.after,Region.binds .any e=true->e.on≠i
   ·exact hna ((R.lex i o ho).2 j oj hj hoj hx)
   ·obtain⟨e',hx⟩:=Classical.not_forall.1 hx;have h3:e'∈oj.after/\Region.binds .any e'=true/\e'.on=i:=by grind
    have:=hL j hlj oj (by simpa using hoj) e' h3.1 h3.2.1;rw[h3.2.2,hi]at this;cases this
 have mbefore:∀(j:Nat) (e':Ent),j<i->es[j]? =some e'->kR e'.fp e.fp=true->L j=true:=fun j e' hj he' hc=>
  aCd hL (R.mem j i e' e hj he' he hc) hh
 have mlater:∀(j:Nat) (e':Ent),i<j->es[j]? =some e'->kR e.fp e'.fp=true->L j=false:=by
  intro j e' hj he' hc
  cases hlj:L j with
  |false=>rfl
  |true=>
   have:=aCd hL (R.mem i j e e' hj he he' hc) (hL j hlj);rw[hi]at this;cases this
 have nonro:∀(e':Ent),(e'.fp.ro=true->e'.wr=[])->∀id∈e'.wr.map (·.1),e'.fp.ro=false:=by grind
 refine⟨e,he,hd,aN6 hst (fun t ht=> ?_) (fun id hid=> ?_),Prod.ext (Cr fun t=> ?_) (Cr fun id=> ?_)⟩
 ·rw[yU,yU];refine FQ (aQ0 t) es 0 _ fun j e' hj hm=> ?_;simp only[Ag];simp only[mS,decide_eq_true_eq]at hm;obtain⟨o',ho',hd',_⟩:=opAt j e' hj;rw[hd']at hm
  rcases Dd j i with h1|h1|h1
  ·rw[before j o' h1 ho' fun hap=>(Oper.apart_spec hap).1 t hm ht];simp[h1]
  ·grind
  ·rw[later j o' h1 ho' fun hap=>(Oper.apart_spec hap).2.2 t hm ht];simp;omega
 ·rw[DY,DY];refine FQ (aSj id) es 0 _ fun j e' hj hm=> ?_;simp only[Ag];simp only[mW,Eb]at hm;obtain⟨o',ho',hd',hw1,hw2⟩:=opAt j e' hj;have hro:=nonro e' hw1 id hm
  rcases Dd j i with h1|h1|h1
  ·rw[mbefore j e' h1 hj (aDk (.inl ⟨hro,(hw2 id hm).2,hid⟩))];simp[h1]
  ·grind
  ·rw[mlater j e' h1 hj (aDk (.inr ⟨hro,(hw2 id hm).2,hid⟩))];simp;omega
 ·simp only[];rw[aMh,yU,yU]
  have:=TW (aQ0 t) (L:=L) (e:=e) es 0 i s[t]? he (by simpa using hi) (fun j e' hj he' h1 h2=>by
   simp only[Ag];simp only[mS,decide_eq_true_eq]at h1 h2;obtain⟨o',ho',hd',_⟩:=opAt j e' he';exact later j o' hj ho' fun hap=>(Oper.apart_spec hap).2.1 t (by rw[<-hd];exact h1) (by rw[<-hd'];exact h2))
  simp only[Ag]at this;rw[this];simp only[uS,hd]
 ·simp only[];rw[aEr,DY,DY]
  have:=TW (aSj id) (L:=L) (e:=e) es 0 i h[id]? he (by simpa using hi) (fun j e' hj he' h1 h2=>by
   simp only[Ag];simp only[mW,Eb]at h1 h2;obtain⟨o',ho',hd',hw1,hw2⟩:=opAt j e' he';exact mlater j e' hj he' (aDk (.inr ⟨nonro e' hw1 id h2,(hw2 id h2).2,(hw.2 id h1).1⟩)))
  simp only[Ag]at this;rw[this];rfl
def open'(n:Nat)(listed:Array Bool):Nat:=(List.range n).countP fun i=> !listed.getD i false
theorem aIm{p q:Nat->Bool}:∀(l:List Nat) (i:Nat),i∈l->p i=true->q i=false->(∀j,q j=true->p j=true)->l.countP q<l.countP p
 | [],i,h,_,_,_=>by simp at h
 |x::l,i,h,hp,hq,hpq=>by
  rw[Eg,Eg];have hle:l.countP q<=l.countP p:=List.countP_mono_left fun j _ hj=>hpq j hj
  rcases Au.1 h with rfl|h
  ·grind
  ·have:=aIm l i h hp hq hpq
   cases hqx:q x with
   |false=>grind
   |true=>grind
theorem aW8(hE:EnvOK E)(hc:kO G E.P call){ops:Array Oper}{es:List Ent}{s:List A}{h:H}{ρ0:Rho}{w0:World}{I0:Nat->Prop}{act0:Act}(R:Ran E call thaw ops es s h){Q:Exit->Act->World->Prop}
  (hQ:∀act' ρ' w' I',Step G h ρ0 w0 I0 (runL (fun _=>true) 0 es s h).2 ρ' w' I'->ARv (runL (fun _=>true) 0 es s h).2 ρ' w' I' (runL (fun _=>true) 0 es s h).1 act'.tmps.toList->act'.defers=act0.defers->Q .normal act' w'):
  ∀(fuel:Nat) (listed:Array Bool) (act:Act) (ρ:Rho) (w:World) (I:Nat->Prop),listed.size=ops.size->(∀m,listed.getD m false=true->H1 ops.toList (fun j=>listed.getD j false) m)->open' ops.size listed<=fuel->
   Step G h ρ0 w0 I0 (runL (fun j=>listed.getD j false) 0 es s h).2 ρ w I->ARv (runL (fun j=>listed.getD j false) 0 es s h).2 ρ w I (runL (fun j=>listed.getD j false) 0 es s h).1 act.tmps.toList->act.defers=act0.defers->
   wpAny E.P .any ops Q fuel listed act w:=by
 have fin:∀(listed:Array Bool) (act:Act) (ρ:Rho) (w:World) (I:Nat->Prop),listed.size=ops.size->Region.ready .any ops listed=[]->
   Step G h ρ0 w0 I0 (runL (fun j=>listed.getD j false) 0 es s h).2 ρ w I->ARv (runL (fun j=>listed.getD j false) 0 es s h).2 ρ w I (runL (fun j=>listed.getD j false) 0 es s h).1 act.tmps.toList->act.defers=act0.defers->Q .normal act w:=by
  intro listed act ρ w I hs hr st hsl hd
  have all:∀n,n<=ops.size->∀j,j<n->listed.getD j false=true:=by
   intro n
   induction n with
   |zero=>grind
   |succ n ih=>
    intro hn j hj
    by_cases hjn:j<n
    ·grind
    ·have:j=n:=om;subst this
     cases hl:listed.getD j false with
     |true=>rfl
     |false=>
      have hmem:j∈Region.ready .any ops listed:=mem_ready.2 ⟨by
       have hlt:j<listed.size:=om;simp only[Array.getD_eq_getD_getElem?,Array.getElem?_eq_getElem hlt,Bg]at hl|-;exact hl,ops[j],by simp,fun e he hb=>ih om e.on ((R.lex j ops[j] sm).1 e he hb)⟩
      rw[hr]at hmem;cases hmem
  have:runL (fun j=>listed.getD j false) 0 es s h=runL (fun _=>true) 0 es s h:=TZ es 0 s h fun j hj=>by
   simp only[Ag];exact all ops.size (Ab _) j (by rw[<-R.len];exact hj)
  rw[this]at st hsl;exact hQ act ρ w I st hsl hd
 intro fuel
 induction fuel with
 |zero=>
  intro listed act ρ w I hs hdc ho st hsl hd
  have hr:Region.ready .any ops listed=[]:=by
   apply List.eq_nil_iff_forall_not_mem.2;intro j hj;obtain⟨h0,o,hoj,_⟩:=mem_ready.1 hj;have hlt:=(Bn.1 hoj).1;have hz:open' ops.size listed=0:=om;unfold open' at hz;rw[List.countP_eq_zero]at hz;have:=hz j (Ci.2 hlt);have hlt':j<listed.size:=om;simp only[Array.getD_eq_getD_getElem?,Array.getElem?_eq_getElem hlt',Bg]at this h0;rw[h0]at this;simp at this
  exact⟨hr,fin listed act ρ w I hs hr st hsl hd⟩
 |succ fuel ih=>
  intro listed act ρ w I hs hdc ho st hsl hd;refine⟨fun hr=>fin listed act ρ w I hs hr st hsl hd,fun i hi=> ?_⟩;obtain⟨h0,o,hoi,hedges⟩:=mem_ready.1 hi;have hlt:=(Bn.1 hoi).1;have hli:listed.getD i false=false:=by grind
  have hheed:H1 ops.toList (fun j=>listed.getD j false) i:=fun o' ho' e he hb=>by
   have:o'=o:=by grind
   subst this;exact hedges e he hb
  obtain⟨e,he,hde,hst,hrun⟩:=aR6 R hdc hoi hli hheed
  have newL:∀j,(listed.setIfInBounds i true).getD j false=(j==i||listed.getD j false):=by
   intro j
   by_cases hji:j=i
   ·subst hji;simp[hs,hlt]
   ·rw[getD_set_ne false (Ne.symm hji)];simp[hji]
  have hL':(fun j=>(listed.setIfInBounds i true).getD j false)=fun j=>(j==i||listed.getD j false):=by grind
  unfold wpOp;simp only[hoi]
  have key:=aSV hE hc hst st.rel hsl (wpAny E.P .any ops Q fuel (listed.setIfInBounds i true)) Q fun act' ρ' w' I' s1 hs1 hd1=>by
   refine ih _ act' ρ' w' I' (by simpa using hs) (fun m hm=> ?_) ?_ ?_ ?_ (hd1.trans hd)
   ·rw[hL'];intro o' ho' e' he' hb';rw[newL]at hm;simp only[Bool.or_eq_true,beq_iff_eq]at hm|-
    rcases hm with rfl|hm
    ·exact .inr (hheed o' ho' e' he' hb')
    ·exact .inr (hdc m hm o' ho' e' he' hb')
   ·have:open' ops.size (listed.setIfInBounds i true)<open' ops.size listed:=by
     unfold open';refine aIm _ i (Ci.2 hlt) (by simp only[hli];rfl) (by simp only[newL];simp) fun j hj=> ?_;simp only[newL]at hj;simp only[Cx,Bool.or_eq_false_iff]at hj|-;exact hj.2
    omega
   ·rw[hL',hrun];exact st.trans s1
   ·rw[hL',hrun];exact hs1
  have htl:ops.toList.toArray=ops:=sm
  split
  ·rename_i hw
   rw[if_pos hw]at key;exact .inl key
  ·rename_i hw
   rw[if_neg hw]at key;exact key
def eZ(n:Nat):H:=List.replicate n .void
theorem aHy(ord:List Nat)(base n:Nat):back ord base n=fun(j:Nat)=>(ord++List.range' base (n-ord.length))[j]?:=by
 funext j
 unfold back
 split
 ·grind
 ·grind
theorem aMp(f:Nat->Option Nat):∀(rest:H) (h:H) (y:Nat),putW ((List.range' h.length rest.length).zip (rest.map (mapO f))) (h++eZ (rest.length+y))=h++rest.map (mapO f)++eZ y
 | [],h,y=>by simp[putW]
 |o::rest,h,y=>by
  have ih:=aMp f rest (h++[mapO f o]) y;simp only[Ae,Ec,Aj,List.zip_cons_cons,putW]
  have:(h++eZ (rest.length+1+y)).set h.length (mapO f o)=(h++[mapO f o])++eZ (rest.length+y):=by
   rw[show rest.length+1+y=(rest.length+y)+1 from by omega];simp[eZ,Eh]
  rw[this];simp only[Af,Ae,Ac,Ag]at ih;rw[ih];simp
theorem YW(f:Nat->Option Nat):∀(ord:List Nat) (h h1:H) (y:Nat),(∀i∈ord,i<h.length)->ord.length<=h1.length->
  putW ((ord++List.range' h.length (h1.length-ord.length)).zip (h1.map (mapO f))) (h++eZ (h1.length-ord.length+y))=bJ f h ord h1++eZ y
 | [],h,h1,y,_,_=>by
  simp only[bJ,Aq,Ac,Nat.sub_zero];exact aMp f h1 h y
 |i::ord,h,[],y,_,hl=>by grind
 |i::ord,h,o::h1,y,hi,hl=>by
  simp only[Ae,Nat.add_sub_add_right,Ax,Aj,List.zip_cons_cons,putW,bJ];have hlt:=hi i sm;have:=YW f ord (h.set i (mapO f o)) h1 y (fun j hj=>by simpa using hi j (by simp[hj])) (by simpa using hl);rw[List.set_append_left _ _ hlt]
  simpa using this
theorem aIY{h:H}{n i:Nat}(hi:i<h.length):(h++eZ n)[i]? =h[i]?:=Be hi
theorem aPP{ops:List Oper}{o:Oper}{s s1:List A}{h h1:H}{c:Foot}(he:yY E call thaw ops o s h=some (s1,h1,c)):
  ∃k a W,h1.length=h.length+k/\s1=aPut s o.dst a/\∀y,j4 E call thaw ops h.length k o s (h++eZ (k+y))=some (a,W,c)/\putW W (h++eZ (k+y))=h1++eZ y:=by
 unfold yY at he
 split at he
 ·rename_i hw
  split at he
  ·rename_i vs hvs
   split at he
   ·rename_i hp
    split at he
    ·rename_i a h2 hop
     cases he;refine⟨0,a,[],by simp,rfl,fun y=>⟨?_,by simp[putW]⟩⟩
     unfold j4;simp only[hw,hvs,hp,if_true];rw[YF hp h,hop];rfl
    ·cases he
   split at he
   ·rename_i hp0 hp
    split at he
    ·rename_i a h2 hop
     cases he;refine⟨0,a,[],by simp,rfl,fun y=>⟨?_,by simp[putW]⟩⟩
     unfold j4;simp only[hw,hvs,hp0,hp,if_true,Am,if_false];rw[(MF hp (fun i hi x hx=>by rw[Be (Aw.1 hx).1];exact hx) hop).2]
    ·cases he
   ·rename_i hp0 hp
    split at he
    ·rename_i a h' ord k hop
     unfold jD at hop;simp only[]at hop
     split at hop
     ·rename_i a1 h2 hop1
      split at hop
      ·rename_i hcond
       obtain⟨hlen,hcl⟩:=hcond;simp only[Option.some.injEq,Prod.mk.injEq]at hop;obtain⟨rfl,rfl,rfl,rfl⟩:=hop;have hl:=kE aI h (idsL vs) [] sm;have hb:=HZ hcl
       have big:∀n,j4 E call thaw ops h.length (h2.length-(aF aI h (idsL vs) []).length) o s (h++eZ (h2.length-(aF aI h (idsL vs) []).length+n))=
         (if jW E o.op vs&&(h2.length-(aF aI h (idsL vs) []).length)==0 then some (mapA (fun(j:Nat)=>(aF aI h (idsL vs) [])[j]?) a1,[],{ ids:=aF aI h (idsL vs) [],ro:=true})
          else some (mapA (fun(j:Nat)=>(aF aI h (idsL vs) []++List.range' h.length (h2.length-(aF aI h (idsL vs) []).length))[j]?) a1,((aF aI h (idsL vs) []++List.range' h.length (h2.length-(aF aI h (idsL vs) []).length)).zip (h2.map (mapO (fun(j:Nat)=>(aF aI h (idsL vs) []++List.range' h.length (h2.length-(aF aI h (idsL vs) []).length))[j]?)))).filter (fun p=>(wrOf E o.op vs (aF aI h (idsL vs) [])++List.range' h.length (h2.length-(aF aI h (idsL vs) []).length)).contains p.1),{ ids:=aF aI h (idsL vs) []++List.range' h.length (h2.length-(aF aI h (idsL vs) []).length),ro:=false,wr:=wrOf E o.op vs (aF aI h (idsL vs) [])++List.range' h.length (h2.length-(aF aI h (idsL vs) []).length)})):=by
        intro n;have hsm:∀i∈aF aI h (idsL vs) [],h[i]? =(h++eZ (h2.length-(aF aI h (idsL vs) []).length+n))[i]?:=fun i hi=>(aIY (hl i hi)).symm;unfold j4;simp only[hw,hvs,hp0,hp,Am,if_false];rw[mR hsm hb.2 aI _ [] hb.1];unfold zN;rw[aAl hsm,QD hsm,hop1]
        have hv:(List.range' h.length (h2.length-(aF aI h (idsL vs) []).length)).all (KY (h++eZ (h2.length-(aF aI h (idsL vs) []).length+n)))=true:=by
         rw[Bk];intro i hi;rw[aF7];rw[Cy]at hi;rw[Bo hi.1];unfold eZ;rw[List.getElem?_replicate_of_lt om]
        have hd:decide (h2.length=(aF aI h (idsL vs) []).length+(h2.length-(aF aI h (idsL vs) []).length))=true:=by simp;omega
        simp only[hd,hcl,hv,Bp,if_true]
       split at he
       ·rename_i hro
        cases he
        have hk:h2.length-(aF aI h (idsL vs) []).length=0:=by
         simp only[Ar,beq_iff_eq]at hro;exact hro.2
        refine⟨0,_,[],by simp,rfl,fun y=>⟨?_,by simp[putW]⟩⟩;have:=big y;rw[if_pos hro,hk]at this;rw[this,aHy,hk];simp
       ·rename_i hro
        cases he;refine⟨h2.length-(aF aI h (idsL vs) []).length,_,_,?_,rfl,fun y=>⟨by rw[big y,if_neg hro,aHy],?_⟩⟩
        ·have h3:=YW (back (aF aI h (idsL vs) []) h.length h2.length) (aF aI h (idsL vs) []) h h2 0 hl hlen;have h4:=congrArg List.length h3;rw[aCR]at h4;simp[eZ]at h4;omega
        ·have h3:=YW (back (aF aI h (idsL vs) []) h.length h2.length) (aF aI h (idsL vs) []) h h2 y hl hlen;rw[aHy]at h3|-;rw[<-h3];have hsm:∀i∈aF aI h (idsL vs) [],h[i]? =(h++eZ (h2.length-(aF aI h (idsL vs) []).length+y))[i]?:=fun i hi=>(aIY (hl i hi)).symm;have hop2:=hop1;have hcl2:=hcl;rw[<-aAl hsm]at hop2;rw[<-QD hsm]at hcl2;refine aOR hop2 hcl2 ?_ om (fun i hi=>by simp only[Af];have:=hl i hi;omega);rw[Dm];refine⟨bW _ _ _ _ sm,List.nodup_range',fun a ha b hb e=> ?_⟩;subst e;have:=hl a ha;rw[Cy]at hb;omega
      ·cases hop
     ·cases hop
    ·cases he
  ·cases he
 ·rename_i hw
  cases he;refine⟨0,.d .undef,[],by simp,rfl,fun y=>⟨?_,by simp[putW]⟩⟩
  unfold j4;simp only[hw]
 ·cases he
theorem aLW{ops:List Oper}:∀(rest:List Oper) (s s':List A) (h h':H) (cs:List Foot),lS E call thaw ops rest s h=some (s',h',cs)->
  ∃K,∀x,∃es,aPH E call thaw ops rest es s (h++eZ (K+x))/\es.map (·.fp)=cs/\∀k,runL (fun _=>true) k es s (h++eZ (K+x))=(s',h'++eZ x)
 | [],s,s',h,h',cs,he=>by
  obtain⟨rfl,rfl,rfl⟩:=he;exact⟨0,fun x=>⟨[],trivial,rfl,fun k=>by simp[runL]⟩⟩
 |o::rest,s,s',h,h',cs,he=>by
  simp only[lS]at he
  split at he
  ·rename_i s1 h1 c hst
   split at he
   ·rename_i s2 h2 cs2 hrest
    cases he;obtain⟨k,a,W,hlen,rfl,hat⟩:=aPP hst
    obtain⟨K,hK⟩:=aLW rest _ _ _ _ _ hrest;refine⟨k+K,fun x=> ?_⟩;obtain⟨es,ht,hc,hr⟩:=hK x;obtain⟨ha1,ha2⟩:=hat (K+x);rw[show k+K+x=k+(K+x)from by omega];refine⟨⟨o.dst,h.length,k,a,W,c⟩::es,⟨rfl,ha1,by rw[ha2];exact ht⟩,by simp[hc],fun n=> ?_⟩;simp only[runL,if_true];rw[ha2];exact hr (n+1)
   ·cases he
  ·cases he
theorem aEW{h:H}{ρ:Rho}{w:World}{I:Nat->Prop}(r:Rel G h ρ w I):∀n,∃ρ',Step G h ρ w I (h++eZ n) ρ' w I
 |0=>⟨ρ,by simpa [eZ]using Step.refl r⟩
 |n+1=>by
  obtain⟨ρ',s⟩:=aEW r n;have s1:=fK s.rel (Grew.refl w) .void none sm (fun _=>by simp[OR]);have e:h++eZ (n+1)=h++eZ n++[.void]:=by simp[eZ,List.replicate_succ']
  rw[e];exact⟨_,s.trans s1⟩
theorem aVQ(hE:EnvOK E)(hc:kO G E.P call):aAQ G E call:=by
 intro id thaw ops s s' h h' he ρ w I act r hs Q hQ;simp only[m8,if_true]at he
 split at he
 ·rename_i s1 h1 cs hrun
  split at he
  ·rename_i hcond
   cases he;simp only[Ar]at hcond
   obtain⟨hlex,hclash⟩:=hcond;obtain⟨K,hK⟩:=aLW _ _ _ _ _ _ hrun;obtain⟨es,ht,hcs,hr⟩:=hK 0;simp only[By]at ht hr;obtain⟨hlen,hat⟩:=aM9 _ _ 0 _ _ ht;have hlen':es.length=ops.size:=by grind
   simp only[Region.lexB,Ar]at hlex
   have R:Ran E call thaw ops es s (h++eZ K):=by
    refine⟨hlen',fun i o ho=> ?_,fun m o ho=> ?_,fun i j ei ej hij hei hej hcl=> ?_⟩
    ·simp_all
    ·exact aMf ops.size 0 _ sm om (fun j hj d=>by simp[hj]) hlex.2 m o (Nat.zero_le _) ho
    ·unfold pJ at hclash;simp only[Bk,Ci]at hclash;have hcl':=hclash j (by rw[<-hcs];simpa using(Aw.1 hej).1) i hij;have g1:cs.getD i {}=ei.fp:=by grind
     have g2:cs.getD j {}=ej.fp:=by grind
     rw[g1,g2,hcl]at hcl'
     simpa using hcl'
   obtain⟨ρ1,st⟩:=aEW (r:=(aAy r (Grew.drew w)).rel) K;have st0:=(aAy r (Grew.drew w)).trans st;refine wp_region_any hE.mixed ?_
   have non:∀(es:List Ent) (k:Nat) (s:List A) (h:H),runL (fun _=>false) k es s h=(s,h):=by
    intro es
    induction es with
    |nil=>intro k s h;rfl
    |cons e es ih=>intro k s h;simp only[runL];exact ih _ _ _
   have hf:(fun j=>(Array.replicate ops.size false).getD j false)=fun _=>false:=by
    funext j
    simp only[Array.getD_eq_getD_getElem?,Array.getElem?_replicate]
    split<;>rfl
   refine aW8 hE hc (ρ0:=ρ1) (w0:={ w with drawn:=w.drawn+1}) (I0:=I) (act0:=act) R (fun act' ρ' w' I' st' hs' hd'=> ?_) ops.size _ act ρ1 _ I sm (fun m hm=> ?_) ?_ ?_ ?_ rfl
   ·rw[hr]at st' hs';simp only[eZ,List.replicate_zero,Ai]at st' hs';exact hQ act' ρ' w' I' (st0.trans st') hs' hd'
   ·have:=congrFun hf m;rw[this]at hm;cases hm
   ·exact Bv List.countP_le_length sm
   ·rw[hf,non];exact .refl st.rel
   ·rw[hf,non];exact fR st0.ext s _ hs
  ·cases he
 ·cases he
theorem aQP{E:Env}{L:Nat}(hE:EnvOK E)(hp:∀f g,E.prim f=some g->FV G E.P f g)(n:Nat):kO G E.P (aA E L n):=
 aOO hE hp (fun _ hc=>aVQ hE hc) n
end
end Ev
end Go.Proofs.YtppffbehejpglaaGreatDoor
