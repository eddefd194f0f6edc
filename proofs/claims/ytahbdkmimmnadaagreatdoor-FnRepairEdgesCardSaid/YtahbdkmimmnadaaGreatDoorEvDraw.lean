/-
  Regions that draw their order: the order of the text serves every order.
-/
import Derived.Test.YtahbdkmimmnadaaGreatDoorEvCalls
set_option linter.unusedSimpArgs false
set_option linter.unusedVariables false
set_option linter.unusedSectionVars false
namespace Go.Proofs.YtahbdkmimmnadaaGreatDoor
namespace Ev
variable{G:Gnd}
def iQ(f:Nat->Option Nat):H->List Nat->H->H
 |h,p::ps,o::os=>iQ f (h.set p (mapO f o)) ps os
 |h,_,_=>h
theorem R1(f:Nat->Option Nat):∀(pos:List Nat) (h os:H),(iQ f h pos os).length=h.length
 | [],h,os=>by simp[iQ]
 |p::ps,h,[]=>by simp[iQ]
 |p::ps,h,o::os=>by simp only[iQ];rw[R1 f ps];simp
theorem SE(f:Nat->Option Nat):∀(pos:List Nat) (h os:H) (id:Nat),pos.Nodup->(∀p∈pos,p<h.length)->os.length=pos.length->
  (iQ f h pos os)[id]? =match aH pos id with
   |some k=>(os[k]?).map (mapO f)
   |none=>h[id]?
 | [],h,os,id,_,_,_=>by simp[iQ,aH]
 |p::ps,h,[],id,_,_,hl=>by simp at hl
 |p::ps,h,o::os,id,hn,hr,hl=>by
  simp only[List.nodup_cons]at hn;simp only[iQ];rw[SE f ps _ os id hn.2 (fun q hq=>by simpa using hr q (by simp[hq])) (by simpa using hl)];simp only[aH]
  by_cases e:p=id
  ·subst e;rw[yH hn.1,if_pos rfl];simp[hr p sm]
  ·grind
def p8(pos:List Nat)(ρ ρ1:Rho):Rho:=fun id=>
 match aH pos id with
 |some k=>ρ1 k
 |none=>ρ id
theorem aGt{xs ys:List Nat}{i k:Nat}(h:aH xs i=some k):aH (xs++ys) i=some k:=by
 induction xs generalizing k with
 |nil=>simp[aH]at h
 |cons x xs ih=>
  simp only[At,aH]at h|-
  split at h
  ·grind
  ·rename_i e
   rw[if_neg e]
   cases hp:aH xs i with
   |none=>grind
   |some m=>grind
theorem aAo{h:H}{ρ:Rho}{w:World}{I:Nat->Prop}{ord fresh:List Nat}{h1:H}{ρ1:Rho}{w':World}{I':Nat->Prop}
  (r:Rel G h ρ w I) (hn:(ord++fresh).Nodup) (hr:∀i∈ord,i<h.length) (hv:∀i∈fresh,h[i]? =some .void) (hlen:h1.length=ord.length+fresh.length) (s:Step G (pack h ord) (sub ord ρ) w I h1 ρ1 w' I'):
  Step G h ρ w I (iQ (fun(k:Nat)=>(ord++fresh)[k]?) h (ord++fresh) h1) (p8 (ord++fresh) ρ ρ1) w' I'/\
  ∀(id k:Nat),(fun(k:Nat)=>(ord++fresh)[k]?) id=some k->jD h1 ρ1 w' I' id (iQ (fun(k:Nat)=>(ord++fresh)[k]?) h (ord++fresh) h1) (p8 (ord++fresh) ρ ρ1) w' I' k:=by
 have hrp:∀p∈ord++fresh,p<h.length:=by grind
 have get:=fun id=>SE (fun(k:Nat)=>(ord++fresh)[k]?) (ord++fresh) h h1 id hn hrp (by simpa using hlen);generalize hf:(fun(k:Nat)=>(ord++fresh)[k]?)=f at *;have hfk:∀k,f k=(ord++fresh)[k]?:=by grind
 have loc:∀k id,f k=some id->(iQ f h (ord++fresh) h1)[id]? =(h1[k]?).map (mapO f)/\p8 (ord++fresh) ρ ρ1 id=ρ1 k:=by
  intro k id hk;rw[hfk]at hk;have hp:=dR hn hk;exact⟨by rw[get,hp],by simp[p8,hp]⟩
 have refs:∀k id,f k=some id->jD h1 ρ1 w' I' k (iQ f h (ord++fresh) h1) (p8 (ord++fresh) ρ ρ1) w' I' id:=fun k id hk=>
  lU (fun o ho=>by rw[(loc k id hk).1,ho];rfl) (loc k id hk).2
 have orig:∀id o,(iQ f h (ord++fresh) h1)[id]? =some o->
   (∃k o',f k=some id/\h1[k]? =some o'/\o=mapO f o'/\p8 (ord++fresh) ρ ρ1 id=ρ1 k)\/
   (id∉ord/\h[id]? =some o/\p8 (ord++fresh) ρ ρ1 id=ρ id):=by
  intro id o ho;rw[get]at ho
  cases hp:aH (ord++fresh) id with
  |some k=>
   rw[hp]at ho;simp only[Az]at ho;obtain⟨o',ho',rfl⟩:=ho;have hb:f k=some id:=by rw[hfk];exact a9 hp
   exact .inl ⟨k,o',hb,ho',rfl,(loc k id hb).2⟩
  |none=>
   rw[hp]at ho;have hni:id∉ord:=fun hm=>by obtain⟨k,hk⟩:=bU (List.mem_append_left fresh hm);rw[hk]at hp;cases hp
   exact .inr ⟨hni,ho,by simp[p8,hp]⟩
 have other:∀id o b,id∉ord->h[id]? =some o->live o->ρ id=some b->¬sC (pack h ord) (sub ord ρ) b:=by
  intro id o b hni hid hlv hρ ho;obtain⟨j,o2,hj,hρj,hjo,hlv2⟩:=wV hr ho;have:=r.inj id j b o o2 hρ hρj hid hjo hlv hlv2;subst this;exact hni hj
 have keepOther:∀id o b,id∉ord->h[id]? =some o->live o->ρ id=some b->w'.heap[b]? =w.heap[b]?:=fun id o b hni hid hlv hρ=>
  s.keep.same b (r.own_not_imm ⟨id,o,hρ,hid,hlv⟩).2 (other id o b hni hid hlv hρ)
 have ownSub:∀b,sC (pack h ord) (sub ord ρ) b->sC h ρ b:=fun b ho=>by
  obtain⟨j,o2,_,hρj,hjo,hlv2⟩:=wV hr ho;exact⟨j,o2,hρj,hjo,hlv2⟩
 have packRef:∀id k,aH ord id=some k->jD h ρ w I id (pack h ord) (sub ord ρ) w I k:=fun id k hk=>
  lU (fun o ho=>iI (a9 hk) ho) (by simp[sub,a9 hk])
 have backOf:∀id k,aH ord id=some k->f k=some id:=fun id k hp=>by
  rw[hfk];exact a9 (aGt hp)
 have notFresh:∀id,id∉ord->(∃o,h[id]? =some o/\o≠.void)->aH (ord++fresh) id=none:=fun id hni ⟨o,ho,hne⟩=>
  yH fun hm=>(Aq.1 hm).elim hni fun h2=>hne (by have:=hv id h2;rw[ho]at this;exact Option.some.inj this)
 have ext:Ext h ρ w I (iQ f h (ord++fresh) h1) (p8 (ord++fresh) ρ ρ1) w' I':=by
  refine⟨s.ext.imm,fun id gen off len a cap hs=> ?_,fun id gen b hs=> ?_,fun id b hs=> ?_⟩
  ·cases hp:aH ord id with
   |some k=>exact(refs k id (backOf id k hp)).1 _ _ _ _ _ (s.ext.sl _ _ _ _ _ _ ((packRef id k hp).1 _ _ _ _ _ hs))
   |none=>
    have hni:id∉ord:=fun hm=>by obtain⟨k,hk⟩:=bU hm;rw[hk]at hp;cases hp
    cases hid:h[id]? with
    |none=>simp[slOK,hid]at hs
    |some o=>
     have hnv:o≠.void:=fun e=>by rw[e]at hid;simp[slOK,hid]at hs
     have hpn:=notFresh id hni ⟨o,hid,hnv⟩;have hg:(iQ f h (ord++fresh) h1)[id]? =h[id]?:=by grind
     have hm:p8 (ord++fresh) ρ ρ1 id=ρ id:=by grind
     exact IS s.ext.imm hg hm (fun b hb ⟨o2,ho2,hl2⟩=>keepOther id o2 b hni ho2 hl2 hb) hs
  ·cases hp:aH ord id with
   |some k=>exact(refs k id (backOf id k hp)).2.1 _ _ (s.ext.pt _ _ _ ((packRef id k hp).2.1 _ _ hs))
   |none=>
    have hni:id∉ord:=fun hm=>by obtain⟨k,hk⟩:=bU hm;rw[hk]at hp;cases hp
    cases hid:h[id]? with
    |none=>simp[ptOK,hid]at hs
    |some o=>
     have hnv:o≠.void:=fun e=>by rw[e]at hid;simp[ptOK,hid]at hs
     have hpn:=notFresh id hni ⟨o,hid,hnv⟩;have hg:(iQ f h (ord++fresh) h1)[id]? =h[id]?:=by grind
     have hm:p8 (ord++fresh) ρ ρ1 id=ρ id:=by simp[p8,hpn]
     exact H2 s.ext.imm hg hm hs
  ·cases hp:aH ord id with
   |some k=>exact(refs k id (backOf id k hp)).2.2 _ (s.ext.mp _ _ ((packRef id k hp).2.2 _ hs))
   |none=>
    have hni:id∉ord:=fun hm=>by obtain⟨k,hk⟩:=bU hm;rw[hk]at hp;cases hp
    cases hid:h[id]? with
    |none=>simp[mpOK,hid]at hs
    |some o=>
     have hnv:o≠.void:=fun e=>by rw[e]at hid;simp[mpOK,hid]at hs
     have hpn:=notFresh id hni ⟨o,hid,hnv⟩;have hg:(iQ f h (ord++fresh) h1)[id]? =h[id]?:=by grind
     have hm:p8 (ord++fresh) ρ ρ1 id=ρ id:=by simp[p8,hpn]
     exact RH hg hm hs
 refine⟨⟨⟨fun id o ho=> ?_,fun id id' b o o' hb hb' ho ho' hlv hlv'=> ?_,s.rel.imm,s.rel.ground⟩,ext,⟨s.keep.os,s.keep.tape,s.keep.output,s.keep.size,fun b hb hno=>s.keep.same b hb (fun h=>hno (ownSub b h)),fun b hb=> ?_,s.keep.drawn⟩,fun b hb=> ?_,by rw[R1];exact Ad _⟩,refs⟩
 ·rcases orig id o ho with⟨k,o',hk,hk1,rfl,hm⟩|⟨hni,hid,hm⟩
  ·exact aEZ refs hm (s.rel.obj k o' hk1)
  ·refine TN ext hm (fun b hb hl=>⟨keepOther id o b hni hid hl hb,fun hI'=> ?_⟩) (r.obj id o hid);have hno:=r.own_not_imm ⟨id,o,hb,hid,hl⟩
   rcases s.keep.new b hI' with h|h|h
   ·exact hno.1 h
   ·omega
   ·exact other id o b hni hid hl hb h
 ·rcases orig id o ho with⟨k,o1,hk,hk1,rfl,hm⟩|⟨hni,hid,hm⟩<;>rcases orig id' o' ho' with⟨k',o1',hk',hk1',rfl,hm'⟩|⟨hni',hid',hm'⟩
  ·rw[hm]at hb;rw[hm']at hb';have:=s.rel.inj k k' b o1 o1' hb hb' hk1 hk1' ((gP _ _).1 hlv) ((gP _ _).1 hlv');subst this;rw[hk]at hk';cases hk';rfl
  ·rw[hm]at hb;rw[hm']at hb';exfalso
   rcases s.own b ⟨k,o1,hb,hk1,(gP _ _).1 hlv⟩with h|h
   ·exact other id' _ b hni' hid' hlv' hb' h
   ·have:=(r.own_not_imm ⟨id',_,hb',hid',hlv'⟩).2;omega
  ·rw[hm]at hb;rw[hm']at hb';exfalso
   rcases s.own b ⟨k',o1',hb',hk1',(gP _ _).1 hlv'⟩with h|h
   ·exact other id _ b hni hid hlv hb h
   ·have:=(r.own_not_imm ⟨id,_,hb,hid,hlv⟩).2;omega
  ·rw[hm]at hb;rw[hm']at hb';exact r.inj id id' b o o' hb hb' hid hid' hlv hlv'
 ·rcases s.keep.new b hb with h|h|h
  ·exact .inl h
  ·omega
  ·exact .inr (.inr (ownSub b h))
 ·obtain⟨id,o,hm0,ho,hlv⟩:=hb
  rcases orig id o ho with⟨k,o1,hk,hk1,rfl,hm⟩|⟨hni,hid,hm⟩
  ·rw[hm]at hm0
   rcases s.own b ⟨k,o1,hm0,hk1,(gP _ _).1 hlv⟩with h|h
   ·exact .inl (ownSub b h)
   ·exact .inr h
  ·rw[hm]at hm0;exact .inl ⟨id,o,hm0,hid,hlv⟩
def putW:List (Nat×O)->H->H
 | [],h=>h
 |(p,o)::W,h=>putW W (h.set p o)
theorem ZH(f:Nat->Option Nat):∀(pos:List Nat) (h os:H),iQ f h pos os=putW (pos.zip (os.map (mapO f))) h
 | [],h,os=>by simp[iQ,putW]
 |p::ps,h,[]=>by simp[iQ,putW]
 |p::ps,h,o::os=>by simp only[iQ,Ag,List.zip_cons_cons,putW];exact ZH f ps _ os
theorem UT:∀(W:List (Nat×O)) (h:H),(putW W h).length=h.length
 | [],h=>rfl
 |(p,o)::W,h=>by simp only[putW];rw[UT W];simp
def wrW(id:Nat):List (Nat×O)->Option O->Option O
 | [],v=>v
 |(p,o)::W,v=>wrW id W (if p=id then v.map (fun _=>o)else v)
theorem WZ(id:Nat):∀(W:List (Nat×O)) (h:H),(putW W h)[id]? =wrW id W h[id]?
 | [],h=>rfl
 |(p,o)::W,h=>by
  simp only[putW,wrW];rw[WZ id W]
  by_cases e:p=id
  ·grind
  ·simp[e]
theorem aIF(id:Nat):∀(W:List (Nat×O)) (v:Option O),id∉W.map (·.1)->wrW id W v=v
 | [],v,_=>rfl
 |(p,o)::W,v,h=>by
  simp only[Ag,Au,not_or]at h;simp only[wrW];rw[if_neg (Ne.symm h.1)];exact aIF id W v h.2
mutual
theorem aIY{ord more:List Nat}:∀a:A,(∀i∈idsA a,i∈ord)->mapA (fun(k:Nat)=>(ord++more)[k]?) (mapA (aH ord) a)=a
 |.d x,_=>by simp only[mapA]
 |.sl id gen off len,h=>by
  obtain⟨k,hk⟩:=bU (h id (by simp[idsA]));simp only[mapA,hk,Bb (zX hk),a9 hk]
 |.ptr id gen off,h=>by
  obtain⟨k,hk⟩:=bU (h id (by simp[idsA]));simp only[mapA,hk,Bb (zX hk),a9 hk]
 |.mp id,h=>by
  obtain⟨k,hk⟩:=bU (h id (by simp[idsA]));simp only[mapA,hk,Bb (zX hk),a9 hk]
 |.clo g caps,h=>by simp only[mapA];rw[pM caps (fun i hi=>h i (by simpa only[idsA]using hi))]
 |.agg cs,h=>by simp only[mapA];rw[pM cs (fun i hi=>h i (by simpa only[idsA]using hi))]
 |.tup cs,h=>by simp only[mapA];rw[pM cs (fun i hi=>h i (by simpa only[idsA]using hi))]
 |.junk,_=>by simp only[mapA]
theorem pM{ord more:List Nat}:∀asx:List A,(∀i∈idsL asx,i∈ord)->aE (fun(k:Nat)=>(ord++more)[k]?) (aE (aH ord) asx)=asx
 | [],_=>by simp only[aE]
 |a::asx,h=>by
  simp only[idsL,Aq]at h;simp only[aE];rw[aIY a (fun i hi=>h i (.inl hi)),pM asx (fun i hi=>h i (.inr hi))]
end
def aJf:O->List Nat
 |.box cs=>idsL cs
 |.vec cs _ _=>idsL cs
 |_=>[]
theorem D7{h:H}{ord ids:List Nat}(hc:closed h ord ids=true):(∀i∈ids,i∈ord)/\∀i∈ord,∀o,h[i]? =some o->∀j∈aJf o,j∈ord:=by
 simp only[closed,Ap,Bs,Dp]at hc;refine⟨hc.1,fun i hi o ho j hj=> ?_⟩;have:=hc.2 i hi;rw[ho]at this
 cases o with
 |box cs=>
  simp only[Bs,Dp]at this;exact this j hj
 |vec cs e g=>
  simp only[Bs,Dp]at this;exact this j hj
 |_=>simp[aJf]at hj
theorem aAx{h:H}{ord ids more:List Nat}(hc:closed h ord ids=true){i:Nat}{o:O}(hi:i∈ord)(ho:h[i]? =some o):mapO (fun(k:Nat)=>(ord++more)[k]?) (mapO (aH ord) o)=o:=by
 cases o with
 |box cs=>simp only[mapO];rw[pM cs ((D7 hc).2 i hi _ ho)]
 |vec cs e g=>simp only[mapO];rw[pM cs ((D7 hc).2 i hi _ ho)]
 |_=>simp only[mapO]
theorem RA{h:H}{ord ids:List Nat}(hc:closed h ord ids=true){i:Nat}{o:O}(hi:i∈ord)(ho:h[i]? =some o):mapO (fun(k:Nat)=>ord[k]?) (mapO (aH ord) o)=o:=by
 simpa only[Ai]using aAx (more:=[]) hc hi ho
theorem aMw{h:H}{ord ids:List Nat}(hc:closed h ord ids=true)(hn:ord.Nodup)(hl:∀i∈ord,i<h.length):iQ (fun(k:Nat)=>ord[k]?) h ord (pack h ord)=h:=by
 apply Cn;intro id;rw[SE _ ord h _ id hn hl (by simp[pack])]
 cases hp:aH ord id with
 |none=>rfl
 |some k=>
  simp only[];have hm:=I7 hp;obtain⟨o,ho⟩:∃o,h[id]? =some o:=⟨h[id]'(hl id hm),Ae _⟩
  rw[iI (a9 hp) ho,ho,Ax,RA hc hm ho]
theorem lW{h h':H}{S:List Nat}(hs:∀i∈S,h[i]? =h'[i]?)(hc:∀i∈S,∀o,h[i]? =some o->∀j∈aJf o,j∈S):∀(n:Nat) (todo acc:List Nat),(∀i∈todo,i∈S)->aC n h' todo acc=aC n h todo acc
 |0,_,_,_=>rfl
 |_+1,[],_,_=>rfl
 |n+1,i::todo,acc,ht=>by
  have hi:=ht i sm;have ht':∀j∈todo,j∈S:=by grind
  simp only[aC];rw[<-hs i hi]
  split
  ·exact lW hs hc n _ _ ht'
  ·split
   ·rename_i cs ho
    exact lW hs hc n _ _ fun j hj=>(Aq.1 hj).elim (ht' j) (hc i hi _ ho j)
   ·rename_i cs _ _ ho
    exact lW hs hc n _ _ fun j hj=>(Aq.1 hj).elim (ht' j) (hc i hi _ ho j)
   ·exact lW hs hc n _ _ ht'
   ·exact lW hs hc n _ _ ht'
   ·exact lW hs hc n _ _ ht'
theorem SN{h h':H}{S:List Nat}(hs:∀i∈S,h[i]? =h'[i]?):pack h' S=pack h S:=by
 exact List.map_congr_left fun i hi=>by rw[Ab,Ab,hs i hi]
theorem Q2{α:Type}{f g:α->Bool}:∀ {l:List α},(∀x∈l,f x=g x)->l.all f=l.all g
 | [],_=>rfl
 |x::l,h=>by simp only[Bt];rw[h x sm,Q2 fun y hy=>h y (by simp[hy])]
theorem J2{h h':H}{S ids:List Nat}(hs:∀i∈S,h[i]? =h'[i]?):closed h' S ids=closed h S ids:=by
 unfold closed
 congr 1
 exact Q2 fun i hi=>by rw[hs i hi]
def GI(h:H)(i:Nat):Bool:=
 match h[i]? with
 |some .void=>true
 |_=>false
theorem aAN{h:H}{i:Nat}:GI h i=true↔h[i]? =some .void:=by
 unfold GI;split
 ·grind
 ·grind
def vP(E:Env)(call:aW)(thaw:List Nat)(base k:Nat)(o:Oper)(vs:List A)(h:H)(ord:List Nat):Option (A×List (Nat×O)×Foot):=
 match evOp E call thaw (pack h ord) o (aE (aH ord) vs)with
 |some (a,h1)=>
  if decide (h1.length=ord.length+k)&&closed h ord (idsL vs)&&(List.range' base k).all (GI h)then
   if hZ E o.op vs&&k==0 then some (mapA (fun(j:Nat)=>ord[j]?) a,[],{ ids:=ord,ro:=true})
   else some (mapA (fun(j:Nat)=>(ord++List.range' base k)[j]?) a,((ord++List.range' base k).zip (h1.map (mapO (fun(j:Nat)=>(ord++List.range' base k)[j]?)))).filter (fun p=>(wrOf E o.op vs ord++List.range' base k).contains p.1),{ ids:=ord++List.range' base k,ro:=false,wr:=wrOf E o.op vs ord++List.range' base k})
  else none
 |none=>none
def jN(E:Env)(call:aW)(thaw:List Nat)(ops:List Oper)(base k:Nat)(o:Oper)(s:List A)(h:H):Option (A×List (Nat×O)×Foot):=
 match qH ops s o with
 |some true=>match bP s (opds o.op)with
  |some vs=>
   if oU o.op then
    match evOp E call thaw h o vs with
    |some (a,_)=>some (a,[],{})
    |none=>none
   else if pK o.op then
    match evOp E call thaw h o vs with
    |some (a,_)=>some (a,[],{ ids:=ids0 vs,ro:=true})
    |none=>none
   else vP E call thaw base k o vs h (aC aD h (idsL vs) [])
  |none=>none
 |some false=>some (.d .undef,[],{})
 |none=>none
theorem EO{vs:List A}{k k':A->Option (A×H)}{g:A×H->A×H}(h:∀a,k' a=(k a).map g):one vs k'=(one vs k).map g:=by
 unfold one;split
 ·exact h _
 ·rfl
theorem aIu{vs:List A}{k k':A->A->Option (A×H)}{g:A×H->A×H}(h:∀a b,k' a b=(k a b).map g):two vs k'=(two vs k).map g:=by
 unfold two;split
 ·exact h _ _
 ·rfl
theorem aHK{a:A}{k k':Int->Option (A×H)}{g:A×H->A×H}(h:∀i,k' i=(k i).map g):iZ a k'=(iZ a k).map g:=by
 unfold iZ;split
 ·exact h _
 ·rfl
theorem zJ(h h2:H)(x:Option A):x.map (fun r=>(r,h2))=(x.map fun r=>(r,h)).map (fun r=>(r.1,h2)):=by cases x<;>rfl
theorem SZ{E:Env}{call:aW}{thaw:List Nat}{o:Oper}{vs:List A}(hp:oU o.op=true)(h h2:H):evOp E call thaw h2 o vs=(evOp E call thaw h o vs).map (fun r=>(r.1,h2)):=by
 obtain⟨dst,op,type,pos,after,guard⟩:=o
 cases op<;>simp only[oU,Aj]at hp<;>simp only[evOp]
 case move x=>exact EO fun a=>rfl
 case pick a b c=>unfold L0;split<;>rfl
 case build t ps=>exact zJ h h2 _
 case nilCheck x=>exact EO fun a=>by unfold lL;split<;>rfl
 case binOp=>
  refine aIu fun a b=> ?_;unfold cH
  split
  ·rfl
  ·split
   ·rfl
   ·exact zJ h h2 _
 case unOp=>exact EO fun a=>zJ h h2 _
 case makeFunc f a b=>
  unfold KD;split
  ·grind
  ·rfl
 case fieldAddr t x f=>exact EO fun a=>by cases cE E.P t f<;>first|rfl|exact zJ h h2 _
 case field t x f=>
  refine EO fun a=> ?_;unfold aBw;split
  ·exact zJ h h2 _
  ·rfl
 case index t x y=>exact aIu fun a b=>aHK fun i=>zJ h h2 _
 case extract x i=>
  refine EO fun a=> ?_;unfold vY;split
  ·grind
  ·rfl
theorem TC{h h1:H}{x:Option A}{a:A}(he:x.map (fun r=>(r,h))=some (a,h1)):h1=h:=by
 cases x with
 |none=>grind
 |some v=>grind
theorem aK7{E:Env}{call:aW}{thaw:List Nat}{o:Oper}{vs:List A}(hp:oU o.op=true){h h1:H}{a:A}(he:evOp E call thaw h o vs=some (a,h1)):h1=h:=by
 have:=SZ (E:=E) (call:=call) (thaw:=thaw) (vs:=vs) hp h h;rw[he]at this
 simpa using this
theorem aKH{E:Env}{call:aW}{thaw:List Nat}{o:Oper}{vs:List A}{f:Nat->Option Nat}(hp:hZ E o.op vs=true){h h1:H}{a:A}(he:evOp E call thaw h o (aE f vs)=some (a,h1)):h1=h:=by
 obtain⟨dst,op,type,pos,after,guard⟩:=o
 cases op<;>simp only[hZ,Aj]at hp<;>simp only[evOp]at he
 case load t x=>
  obtain⟨b,_,he⟩:=gL he;exact TC he
 case convert s d x=>
  obtain⟨b,_,he⟩:=gL he;unfold gM at he
  split at he<;>try (cases he;rfl)
  ·rename_i hd _
   unfold cR at hp;rw[hd]at hp;cases hp
  ·cases he
  ·repeat' split at he
   all_goals first
    |(cases he;done)
    |(simp only[Az,Prod.mk.injEq]at he;obtain⟨_,_,_,rfl⟩:=he;rfl)
    |(rename_i hq;simp at hq;done)
  ·cases he
 case slice t x lo hi mx=>
  split at he
  ·unfold pG at he
   split at he<;>first
    |(cases he;done)
    |exact TC he
  ·cases he
 case indexAddr t x y=>
  obtain⟨a1,b,_,he⟩:=mK he;obtain⟨_,i,_,he⟩:=jM he;exact TC he
 case call c=>
  have mode:∀(f:FuncId) (args:List A),(E.hint f).mode=1->bJ call E.hint h f args=some (a,h1)->h1=h:=by
   intro f args hm hcall;unfold bJ at hcall;rw[hm]at hcall;simp only[]at hcall
   split at hcall
   ·split at hcall
    ·split at hcall
     ·cases hcall;rfl
     ·cases hcall
    ·cases hcall
   ·cases hcall
  unfold fE at he
  cases hcal:c.callee with
  |invoke r m=>rw[hcal]at he;cases he
  |builtin b=>
   rw[hcal]at he hp
   cases b<;>simp only[Aj]at hp
   case len=>
    simp only[cU]at he
    split at he
    ·unfold LM at he
     split at he
     ·cases he;rfl
     ·cases he
    ·exact TC he
    ·rename_i hq _ _;cases hq
    ·cases he
  |value fv=>
   rw[hcal]at he hp;simp only[]at he
   cases vs with
   |nil=>simp at hp
   |cons g vs=>
    simp only[aE]at he
    cases g with
    |clo f caps=>
     simp only[beq_iff_eq]at hp;simp only[mapA,fS]at he;exact mode f _ hp he
    |d x=>
     cases x with
     |fn f caps=>
      simp only[beq_iff_eq]at hp;simp only[mapA,fS]at he;exact mode f _ hp he
     |_=>simp at hp
    |_=>simp at hp
theorem aHR{P:Program}{h h2 h1:H}{tys:List TypeId}{args:List A}{a:A}(hs:∀i∈ids0 args,∀x,h[i]? =some x->h2[i]? =some x)(he:cU P h .len tys args=some (a,h1)):h1=h/\cU P h2 .len tys args=some (a,h2):=by
 match tys,args,he with
 |t::ts,[x],he=>
  cases x with
  |mp id=>
   simp only[cU,LM]at he|-
   split at he
   ·rename_i kt et es hu hid
    cases he;rw[hu]
    refine⟨rfl,?_⟩;simp only[hs id (by simp[ids0,idsA]) _ hid]
   ·cases he
  |_=>
   simp only[cU]at he|-
   cases hx:aLen P t _ with
   |none=>grind
   |some y=>grind
 | [],_,he=>simp[cU]at he
 |_::_,[],he=>simp[cU]at he
 |_::_,_::_::_,he=>simp[cU]at he
theorem aOI{P:Program}{h h2:H}{t:TypeId}{x:D}{l u:Option Int}:gE P h t (.d x) l u=gE P h2 t (.d x) l u:=by
 unfold gE
 cases P.underlying t with
 |none=>rfl
 |some td=>grind
theorem GR{E:Env}{call:aW}{thaw:List Nat}{o:Oper}{vs:List A}(hp:pK o.op=true){h h2 h1:H}{a:A}(hs:∀i∈ids0 vs,∀x,h[i]? =some x->h2[i]? =some x)(he:evOp E call thaw h o vs=some (a,h1)):h1=h/\evOp E call thaw h2 o vs=some (a,h2):=by
 have frame:∀ {x y:Option A},x.map (fun r=>(r,h))=some (a,h1)->(x=some a->y=some a)->h1=h/\y.map (fun r=>(r,h2))=some (a,h2):=by
  intro x y hx hy
  cases x with
  |none=>cases hx
  |some z=>cases hx;rw[hy rfl];exact⟨rfl,rfl⟩
 have look:∀ {b:A} {id:Nat} {x:O},vs.head? =some b->idsA b=[id]->h[id]? =some x->h2[id]? =some x:=by
  intro b id x hb hid hx;refine hs id ?_ x hx
  cases vs with
  |nil=>cases hb
  |cons c l=>cases hb;simp only[ids0,hid,Cc]
 obtain⟨dst,op,type,pos,after,guard⟩:=o
 cases op<;>simp only[pK,Aj]at hp<;>simp only[evOp]at he|-
 case load t x=>
  obtain⟨b,rfl,he⟩:=gL he;simp only[one];refine frame he fun hx=> ?_;unfold AF at hx|-
  have hr:∀run,mV h b=some run->mV h2 b=some run:=by
   intro run hrun
   cases b with
   |ptr id gen off=>
    simp only[mV]at hrun|-
    cases hg:h[id]? with
    |none=>rw[hg]at hrun;cases hrun
    |some x=>rw[hg]at hrun;rw[look (b:=.ptr id gen off) rfl rfl hg];exact hrun
   |d x=>cases x<;>simpa only[mV]using hrun
   |_=>simp[mV]at hrun
  cases hrn:mV h b with
  |none=>rw[hrn]at hx;cases hx
  |some run=>rw[hrn]at hx;rw[hr run hrn];exact hx
 case slice t x lo hi mx=>
  split at he
  ·rename_i hmx
   rw[if_pos hmx]
   have key:∀ {b:A} {l u:Option Int},vs.head? =some b->gE E.P h t b l u=some a->gE E.P h2 t b l u=some a:=by
    intro b l u hb hx
    cases b with
    |sl id gen off len=>
     unfold gE at hx|-
     cases hu:E.P.underlying t with
     |none=>rw[hu]at hx;cases hx
     |some td=>
      rw[hu]at hx
      cases td<;>simp only[]at hx|- <;>try (cases hx;done)
      cases hg:h[id]? with
      |none=>rw[hg]at hx;cases hx
      |some x=>rw[hg]at hx;rw[look hb rfl hg];exact hx
    |d x=>
     rw[aOI (h2:=h)];exact hx
    |_=>
     unfold gE at hx
     cases hu:E.P.underlying t with
     |none=>rw[hu]at hx;cases hx
     |some td=>rw[hu]at hx;cases td<;>cases hx
   unfold pG at he|-
   split at he
   ·exact frame he (key rfl)
   ·exact frame he (key rfl)
   ·exact frame he (key rfl)
   ·exact frame he (key rfl)
   ·cases he
  ·cases he
 case indexAddr t x y=>
  obtain⟨b,c,rfl,he⟩:=mK he;obtain⟨kd,i,rfl,he⟩:=jM he;simp only[two,iZ];refine frame he fun hx=> ?_;unfold nW at hx|-
  cases hu:E.P.underlying t with
  |none=>rw[hu]at hx;cases hx
  |some td=>
   rw[hu]at hx
   cases td<;>simp only[]at hx|- <;>try (first|(cases hx;done)|(exact hx;done))
   cases b with
   |sl id gen off len=>
    simp only[]at hx|-
    cases hg:h[id]? with
    |none=>rw[hg]at hx;cases hx
    |some x=>rw[hg]at hx;rw[look (b:=.sl id gen off len) rfl rfl hg];exact hx
   |d x=>cases x<;>first|exact hx|cases hx
   |_=>cases hx
 case lookup t x y ok=>
  obtain⟨b,c,rfl,he2⟩:=mK he;clear he;simp only[two];unfold TH at he2|-;have he:=he2;clear he2
  split at he
  ·rename_i kt et id k hmt
   split at he
   ·rename_i es z hid hz
    simp only[look (b:=.mp id) rfl rfl hid,hz]
    split at he
    ·rename_i hc
     rw[if_pos hc]
     split at he
     ·rename_i r hr
      cases he;exact⟨rfl,by simp only[]⟩
     ·cases he
    ·cases he
   ·cases he
  ·cases he
 case call c=>
  obtain⟨callee,args,tys⟩:=c
  cases callee with
  |invoke r m=>simp[]at hp
  |value v=>simp[]at hp
  |builtin b=>
   cases b<;>simp only[Aj]at hp
   simp only[fE]at he|-;exact aHR hs he
theorem nR:∀(n:Nat) (h:H) (todo acc:List Nat),(∀i∈acc,∃o,h[i]? =some o/\o≠.void)->∀i∈aC n h todo acc,∃o,h[i]? =some o/\o≠.void
 |0,_,_,_,hn=>by simpa only[aC]using hn
 |_+1,_,[],_,hn=>by simpa only[aC]using hn
 |n+1,h,i::todo,acc,hn=>by
  simp only[aC]
  split
  ·exact nR n h todo acc hn
  ·have key:∀o,h[i]? =some o->o≠.void->∀j∈acc++[i],∃o,h[j]? =some o/\o≠.void:=by
    intro o ho hne j hj;simp only[Aq,Cc]at hj
    rcases hj with hj|rfl
    ·grind
    ·grind
   split
   ·rename_i cs ho;exact nR n h _ _ (key _ ho sm)
   ·rename_i cs _ _ ho;exact nR n h _ _ (key _ ho sm)
   ·exact nR n h _ _ hn
   ·rename_i o _ _ hne ho;exact nR n h _ _ (key _ ho (fun e=>hne e))
   ·exact nR n h _ _ hn
theorem aJY{h:H}{ids:List Nat}{base k:Nat}(hv:∀i∈List.range' base k,h[i]? =some .void):(aC aD h ids []++List.range' base k).Nodup:=by
 rw[List.nodup_append];refine⟨bO _ _ _ _ sm,List.nodup_range',fun a ha b hb e=> ?_⟩;subst e;obtain⟨o,ho,hne⟩:=nR aD h ids [] sm a ha;rw[hv a hb]at ho;cases ho;exact hne rfl
theorem IP{α:Type}{l:List α}{i j:Nat}{x:α}(h:i≠j):(l.set i x)[j]? =l[j]?:=Df h
theorem CS{P:Program}{h h1:H}{t:TypeId}{s x a:A}(he:iE P h t s x=some (a,h1)){j:Nat}(hj:j<h.length)(hs:∀id gen off len,s=.sl id gen off len->id≠j):h1[j]? =h[j]?:=by
 unfold iE at he
 repeat' split at he
 all_goals first
  |(cases he;done)
  |(cases he;first
    |exact Bb hj
    |exact IP (hs _ _ _ _ rfl))
theorem OA{P:Program}{h h1:H}{t:TypeId}{id gen off len:Nat}{x a:A}(he:oE P h t id gen off len x=some (a,h1)){j:Nat}(hs:id≠j):h1[j]? =h[j]?:=by
 unfold oE at he
 repeat' split at he
 all_goals first
  |(cases he;done)
  |(cases he;exact IP hs)
theorem aFN{P:Program}{h h1:H}{t:TypeId}{s x a:A}(he:pB P h t s x=some (a,h1)){j:Nat}(hj:j<h.length)(hs:∀id gen off len,s=.sl id gen off len->id≠j):h1[j]? =h[j]?:=by
 unfold pB at he
 split at he
 ·rename_i id gen off len
  have hne:=hs _ _ _ _ rfl
  split at he
  ·exact OA he hne
  ·split at he
   ·split at he
    ·rw[OA he hne,IP hne]
    ·exact CS he hj hs
   ·exact CS he hj hs
 ·exact CS he hj hs
theorem MS:∀(cs:List A) (h:H) (j:Nat),j<h.length->(aY h cs).2[j]? =h[j]?/\h.length<=(aY h cs).2.length
 | [],h,j,_=>by simp[aY]
 |c::cs,h,j,hj=>by
  by_cases hc:c=.d .nils
  ·subst hc;have:=MS cs (h++[.arr [] 0 0]) j (by simp;omega);simp only[Ah,Ac,Aa]at this;simp only[aY];exact⟨this.1.trans (Bb hj),by omega⟩
  ·have e1:(aY h (c::cs)).2=(aY h cs).2:=by
    rw[aY.eq_def]
    split
    ·grind
    ·grind
    ·grind
   rw[e1];exact MS cs h j hj
theorem aCZ{h h1:H}{v a:A}(he:aNew h v=some (a,h1)){j:Nat}(hj:j<h.length):h1[j]? =h[j]?:=by
 unfold aNew at he
 split at he
 ·cases he;obtain⟨h2,h3⟩:=MS (aT v) h j hj
  rw[Bb om,h2]
 ·cases he
theorem aCh{P:Program}{h:H}{tys:List TypeId}{args:List A}{r:A×H}(he:cU P h .append tys args=some r):∃t s x,args=[s,x]/\pB P h t s x=some r:=by
 match tys,args,he with
 | [t,u],[s,x],he=>
  simp only[cU]at he
  split at he
  ·cases he
  ·cases he
  ·grind
 | [],_,he=>simp[cU]at he
 | [_],_,he=>simp[cU]at he
 |_::_::_::_,_,he=>simp[cU]at he
 | [_,_],[],he=>simp[cU]at he
 | [_,_],[_],he=>simp[cU]at he
 | [_,_],_::_::_::_,he=>simp[cU]at he
theorem aMS{E:Env}{call:aW}{thaw:List Nat}{o:Oper}{vs:List A}{h h1:H}{ord:List Nat}{a:A}(he:evOp E call thaw (pack h ord) o (aE (aH ord) vs)=some (a,h1)){j i:Nat}(hj:ord[j]? =some i)(hi:i∉wrOf E o.op vs ord):h1[j]? =(pack h ord)[j]?:=by
 have hjl:j<(pack h ord).length:=by
  simp only[pack,Aw];exact(Ar.1 hj).1
 have hio:i∈ord:=Bp hj;obtain⟨dst,op,type,pos,after,guard⟩:=o
 have lent:∀(f:FuncId) (args:List A),i∉(if(E.hint f).mode==3 then []else ord)->bJ call E.hint (pack h ord) f args=some (a,h1)->h1[j]? =(pack h ord)[j]?:=by
  intro f args hm hc
  split at hm
  ·rename_i hm3
   unfold bJ at hc;rw[beq_iff_eq.1 hm3]at hc;simp only[]at hc
   split at hc
   ·split at hc
    ·split at hc
     ·cases hc;exact Bb hjl
     ·cases hc
    ·cases hc
   ·cases hc
  ·exact absurd hio hm
 cases op<;>simp only[evOp]at he<;>first
  |exact absurd hio hi
  |skip
 case assign x=>
  obtain⟨b,_,he⟩:=gL he;unfold EX at he
  repeat' split at he
  all_goals (cases he;first|rfl|exact Bb hjl)
 case alloc t=>
  cases hz:dA E.P t with
  |none=>rw[hz]at he;cases he
  |some z=>rw[hz]at he;exact aCZ he hjl
 case box t x=>
  obtain⟨b,_,he⟩:=gL he;exact aCZ he hjl
 case makeSlice t x y=>
  obtain⟨a1,b,_,he⟩:=mK he;obtain⟨_,l,_,he⟩:=jM he;obtain⟨_,c,_,he⟩:=jM he
  split at he
  ·unfold ER at he
   repeat' split at he
   all_goals first
    |(cases he;done)
    |(cases he;exact Bb hjl)
  ·unfold iD at he
   repeat' split at he
   all_goals first
    |(cases he;done)
    |(cases he;exact Bb hjl)
 case makeMap t y=>
  split at he
  ·cases he;exact Bb hjl
  ·cases he
 case call c=>
  obtain⟨callee,args,tys⟩:=c;unfold fE at he
  cases callee with
  |invoke r m=>cases he
  |builtin b=>
   simp only[]at he
   cases b<;>first
    |(simp only[wrOf]at hi;exact absurd hio hi)
    |skip
   cases vs with
   |nil=>simp only[wrOf]at hi;exact absurd hio hi
   |cons s vs=>
    simp only[wrOf]at hi;simp only[aE]at he;obtain⟨t,s',x,hargs,he⟩:=aCh he;simp only[List.cons.injEq]at hargs;refine aFN he hjl fun id gen off len hsl=> ?_;rw[<-hargs.1]at hsl
    cases s with
    |sl id0 g0 o0 l0=>
     simp only[mapA]at hsl
     split at hsl
     ·rename_i k hk
      cases hsl;intro e
      subst e;have:=a9 hk;rw[hj]at this;cases this;exact hi (by simp[idsA])
     ·cases hsl
    |ptr id0 g0 o0=>
     simp only[mapA]at hsl
     split at hsl<;>cases hsl
    |mp id0=>
     simp only[mapA]at hsl
     split at hsl<;>cases hsl
    |_=>simp only[mapA]at hsl;cases hsl
  |value fv=>
   simp only[]at he
   cases vs with
   |nil=>cases he
   |cons g vs=>
    simp only[aE]at he
    cases g with
    |clo f caps=>
     simp only[mapA,fS]at he;exact lent f _ (by simpa only[wrOf]using hi) he
    |d x=>
     cases x with
     |fn f caps=>
      simp only[mapA,fS]at he;exact lent f _ (by simpa only[wrOf]using hi) he
     |_=>simp only[wrOf]at hi;exact absurd hio hi
    |_=>simp only[wrOf]at hi;exact absurd hio hi
theorem SK{q:Nat->Bool}:∀(W:List (Nat×O)) (h:H),(W.map (·.1)).Nodup->(∀i o,(i,o)∈W->q i=false->h[i]? =some o)->putW (W.filter fun p=>q p.1) h=putW W h
 | [],h,_,_=>rfl
 |(i,o)::W,h,hn,hs=>by
  simp only[Ag,List.nodup_cons]at hn
  cases hq:q i with
  |true=>
   simp only[List.filter_cons,hq,if_true,putW];refine SK W _ hn.2 fun i' o' hm hq'=> ?_;rw[IP (fun e=>hn.1 (Bv.2 ⟨(i',o'),hm,e.symm⟩))];exact hs i' o' (Bi _ hm) hq'
  |false=>
   simp only[List.filter_cons,hq,Aj,if_false,putW];have h1:=hs i o sm hq
   have h2:h.set i o=h:=by
    apply Cn;intro j;obtain⟨hl,he⟩:=Ar.1 h1
    by_cases e:i=j
    ·grind
    ·simp[e]
   rw[h2];exact SK W h hn.2 fun i' o' hm hq'=>hs i' o' (Bi _ hm) hq'
theorem aIp{E:Env}{call:aW}{thaw:List Nat}{o:Oper}{vs:List A}{h h1:H}{ord:List Nat}{a:A}{base k:Nat}(he:evOp E call thaw (pack h ord) o (aE (aH ord) vs)=some (a,h1))(hcl:closed h ord (idsL vs)=true)(hn:(ord++List.range' base k).Nodup)(hlen:h1.length=ord.length+k)(hl:∀i∈ord,i<h.length):
  putW (((ord++List.range' base k).zip (h1.map (mapO (fun(j:Nat)=>(ord++List.range' base k)[j]?)))).filter fun p=>(wrOf E o.op vs ord++List.range' base k).contains p.1) h=putW ((ord++List.range' base k).zip (h1.map (mapO (fun(j:Nat)=>(ord++List.range' base k)[j]?)))) h:=by
 refine SK (q:=fun i=>(wrOf E o.op vs ord++List.range' base k).contains i) _ h ?_ ?_
 ·rw[List.map_fst_zip (by simp;omega)];exact hn
 ·intro i x hm hq;have hq:i∉wrOf E o.op vs ord++List.range' base k:=by grind
  simp only[Aq,not_or]at hq;obtain⟨j,hj⟩:=List.getElem?_of_mem hm;rw[List.getElem?_zip_eq_some]at hj;obtain⟨hj1,hj2⟩:=hj;have hjo:ord[j]? =some i:=by grind
  have hio:=Bp hjo;rw[Bc,aMS he hjo hq.1]at hj2;have hi:=hl i hio;have hg:h[i]? =some h[i]:=by grind
  have hp:(pack h ord)[j]? =some (mapO (aH ord) h[i]):=by
   simp only[pack,Bc,hjo,Ax,Ab,hg,Bh]
  rw[hp]at hj2;rw[hg,<-hj2]
  congr 1
  exact(aAx hcl hio hg).symm
section
variable{E:Env}{call:aW}
theorem aLl(hE:EnvOK E)(hc:j5 G E.P call){h:H}{ρ:Rho}{w:World}{I:Nat->Prop}{thaw:List Nat}{ops:List Oper}{base k:Nat}{o:Oper}{s:List A}{x:A}{W:List (Nat×O)}{fp:Foot}{act:Act}(he:jN E call thaw ops base k o s h=some (x,W,fp))(r:Rel G h ρ w I)(hs:ARv h ρ w I s act.tmps.toList)
  (K:Act->World->Prop) (Q:Exit->Act->World->Prop) (hK:∀act' ρ' w' I',Step G h ρ w I (putW W h) ρ' w' I'->ARv (putW W h) ρ' w' I' (aPut s o.dst x) act'.tmps.toList->act'.defers=act.defers->K act' w'):
  if Region.wanted o (yielded ops.toArray act.tmps)then o.wp E.P act w K Q else K (act.put o.dst undef) w:=by
 unfold jN at he
 split at he
 ·rename_i hw
  rw[TR hw hs,if_pos rfl]
  split at he
  ·rename_i vs hvs
   have ha:=RG hs hvs
   split at he
   ·rename_i hp
    split at he
    ·rename_i x1 h1 hop
     cases he;have hh:=aK7 hp hop
     subst hh;exact K6 hE hc hop r ha K Q fun v ρ' w' I' s1 hx=>hK _ ρ' w' I' s1 (FC (f0 s1.ext s _ hs) hx) (oL _ _ _)
    ·cases he
   split at he
   ·rename_i hp
    split at he
    ·rename_i x1 h1 hop
     cases he;have hh:=(GR hp (h2:=h) (fun _ _ _ hx=>hx) hop).1
     subst hh;exact K6 hE hc hop r ha K Q fun v ρ' w' I' s1 hx=>hK _ ρ' w' I' s1 (FC (f0 s1.ext s _ hs) hx) (oL _ _ _)
    ·cases he
   ·unfold vP at he
    split at he
    ·rename_i x1 h1 hop
     split at he
     ·rename_i hcond
      simp only[Ap,decide_eq_true_eq,Bs]at hcond;obtain⟨⟨hlen,hcl⟩,hv⟩:=hcond;have hv:∀i∈List.range' base k,h[i]? =some .void:=fun i hi=>aAN.1 (hv i hi);have hl:=jY aD h (idsL vs) [] sm;have hn:=aJY (ids:=idsL vs) hv;have hno:=(List.nodup_append.1 hn).1;have hr:=X5 r hno hl
      have hren:∀id k,aH (aC aD h (idsL vs) []) id=some k->jD h ρ w I id (pack h (aC aD h (idsL vs) [])) (sub (aC aD h (idsL vs) []) ρ) w I k:=fun id k hk=>
       lU (fun o ho=>iI (a9 hk) ho) (by simp[sub,a9 hk])
      have hleaf:=K6 hE hc hop hr (z6 (lA w I) hren vs _ ha)
      split at he
      ·rename_i hro
       cases he;simp only[Ap,beq_iff_eq]at hro
       have hh:=aKH hro.1 hop;refine hleaf K Q fun v ρ' w' I' s1 hx=> ?_;have hst:=aAo (fresh:=[]) r (by simpa using hno) hl sm (by rw[hlen,hro.2];simp) s1;rw[hh]at hst hx;simp only[Ai]at hst;rw[aMw hcl hno hl]at hst;exact hK _ _ w' I' hst.1 (FC (f0 hst.1.ext s _ hs) (BG (lA _ _) hst.2 x1 v hx)) (oL _ _ _)
      ·cases he;refine hleaf K Q fun v ρ' w' I' s1 hx=> ?_
       obtain⟨s2,refs⟩:=aAo r hn hl hv (by simpa using hlen) s1;rw[ZH,<-aIp hop hcl hn hlen hl]at s2 refs;exact hK _ _ w' I' s2 (FC (f0 s2.ext s _ hs) (BG (lA _ _) refs x1 v hx)) (oL _ _ _)
     ·cases he
    ·cases he
  ·cases he
 ·rename_i hw
  rw[TR hw hs];cases he;exact hK _ ρ w I (.refl r) (FC hs (by simp only[AR,DR])) (oL _ _ _)
 ·cases he
theorem aNk:∀(op:Op) (x:Operand),x∈opds op->x∈op.operands:=by
 intro op x hx
 cases op<;>simp only[opds,Op.operands]at hx|- <;>try (simp at hx;done)
 case slice t y lo hi mx=>
  simp only[Au,Aq,Option.mem_toList]at hx
  cases lo<;>cases hi<;>cases mx<;>simp only[Option.some.injEq,reduceCtorEq,or_false,false_or,Option.toArray_none,Option.toArray_some]at hx|- <;>simp<;>grind
 case call c=>
  simp only[Call.operands]
  cases hcal:c.callee<;>rw[hcal]at hx<;>simp at hx|-
  ·exact hx
  ·exact hx
 all_goals (first|(simpa using hx)|(simp at hx|-;simp_all))
theorem V6{s s':List A}:∀(xs:List Operand),(∀t,.tmp t∈xs->s[t]? =s'[t]?)->bP s xs=bP s' xs
 | [],_=>rfl
 |x::xs,h=>by
  simp only[bP];rw[V6 xs fun t ht=>h t (by simp[ht])]
  have:dB s x=dB s' x:=by
   cases x with
   |tmp t=>
    simp only[dB];rw[Ab,Ab,h t sm]
   |_=>rfl
  rw[this]
theorem aI7{ops:List Oper}{s s':List A}{o:Oper}(h:∀t∈o.looksAt ops.toArray,s[t]? =s'[t]?):qH ops s o=qH ops s' o:=by
 unfold qH
 cases hg:o.guard with
 |none=>rfl
 |some jw=>
  obtain⟨j,want⟩:=jw;simp only[]
  cases hd:(ops[j]?).bind (·.dst)with
  |none=>rfl
  |some d=>
   simp only[];rw[h d (by simp[Oper.looksAt,hg,hd])]
theorem V9{thaw:List Nat}{base k:Nat}{o:Oper}{vs:List A}{h:H}{ord:List Nat}{a:A}{W:List (Nat×O)}{fp:Foot}(he:vP E call thaw base k o vs h ord=some (a,W,fp)):
  (∀i∈ord,i∈fp.ids)/\closed h ord (idsL vs)=true/\(∀i∈List.range' base k,i∈fp.ids)/\(fp.ro=true->W=[])/\∀i∈W.map (·.1),i∈fp.ids/\i∈fp.wr:=by
 unfold vP at he
 split at he
 ·split at he
  ·rename_i hcond
   simp only[Ap]at hcond
   split at he
   ·grind
   ·cases he;refine⟨fun i hi=>List.mem_append_left _ hi,hcond.1.2,fun i hi=>List.mem_append_right _ hi,by simp,fun i hi=> ?_⟩
    obtain⟨p,hp,rfl⟩:=Bv.1 hi;obtain⟨hp,hw⟩:=Dl.1 hp;exact⟨(List.of_mem_zip hp).1,Dp.1 hw⟩
  ·cases he
 ·cases he
theorem aGi{thaw:List Nat}{base k:Nat}{o:Oper}{vs:List A}{h h':H}{ord:List Nat}(h1:∀i∈ord,h[i]? =h'[i]?)(h2:∀i∈List.range' base k,h[i]? =h'[i]?):vP E call thaw base k o vs h' ord=vP E call thaw base k o vs h ord:=by
 unfold vP;rw[SN h1,J2 h1,Q2 (f:=GI h') (g:=GI h) fun i hi=>by unfold GI;rw[h2 i hi]]
theorem OK{thaw:List Nat}{ops:List Oper}{base k:Nat}{o:Oper}{s:List A}{h:H}{a:A}{W:List (Nat×O)}{fp:Foot}(he:jN E call thaw ops base k o s h=some (a,W,fp)):
  (fp.ro=true->W=[])/\∀i∈W.map (·.1),i∈fp.ids/\i∈fp.wr:=by
 unfold jN at he
 split at he
 ·split at he
  ·split at he
   ·grind
   ·split at he
    ·grind
    ·exact(V9 he).2.2.2
  ·cases he
 ·grind
 ·cases he
theorem aHm{thaw:List Nat}{ops:List Oper}{base k:Nat}{o:Oper}{s s':List A}{h h':H}{a:A}{W:List (Nat×O)}{fp:Foot}(he:jN E call thaw ops base k o s h=some (a,W,fp))
  (hs:∀t∈o.looksAt ops.toArray,s[t]? =s'[t]?) (hh:∀i∈fp.ids,h[i]? =h'[i]?):jN E call thaw ops base k o s' h'=some (a,W,fp):=by
 unfold jN at he|-;rw[<-aI7 hs]
 split at he
 ·rw[<-V6 (opds o.op) fun t ht=>hs t (List.mem_append_left _ (List.mem_filterMap.2 ⟨.tmp t,by simpa using aNk _ _ ht,rfl⟩))]
  split at he
  ·split at he
   ·rename_i hp
    split at he
    ·rename_i x1 h1 hop
     cases he;rw[if_pos hp,SZ hp h h',hop]
     rfl
    ·cases he
   ·rename_i hp
    rw[if_neg hp]
    split at he
    ·rename_i hp
     split at he
     ·rename_i x1 h1 hop
      cases he;rw[if_pos hp,(GR hp (fun i hi x hx=>by rw[<-hh i hi];exact hx) hop).2]
     ·cases he
    rename_i hp
    rw[if_neg hp];obtain⟨i1,i2,i3,_⟩:=V9 he;have hb:=D7 i2;rw[lW (S:=aC aD h (idsL _) []) (fun i hi=>hh i (i1 i hi)) hb.2 aD _ [] hb.1];rw[aGi (fun i hi=>hh i (i1 i hi)) (fun i hi=>hh i (i3 i hi))];exact he
  ·cases he
 ·exact he
 ·cases he
end
end Ev
end Go.Proofs.YtahbdkmimmnadaaGreatDoor
namespace Go.Proofs.YtahbdkmimmnadaaGreatDoor
namespace Ev
variable{G:Gnd}
structure Ent where
 dst:Option Tmp
 base:Nat
 k:Nat
 a:A
 wr:List (Nat×O)
 fp:Foot
def runL(L:Nat->Bool):Nat->List Ent->List A->H->List A×H
 |_,[],s,h=>(s,h)
 |k,e::es,s,h=>if L k then runL L (k+1) es (aPut s e.dst e.a) (putW e.wr h)else runL L (k+1) es s h
section loc
variable{X:Type}(u:Ent->X->X)(m:Ent->Bool)
def loc(L:Nat->Bool):Nat->List Ent->X->X
 |_,[],v=>v
 |k,e::es,v=>loc L (k+1) es (if L k then u e v else v)
variable{u m}(hu:∀e v,m e=false->u e v=v)
include hu
theorem AM{L L':Nat->Bool}:∀(es:List Ent) (k:Nat) (v:X),(∀(j:Nat) (e:Ent),es[j]? =some e->m e=true->L (k+j)=L' (k+j))->loc u L k es v=loc u L' k es v
 | [],_,_,_=>rfl
 |e::es,k,v,h=>by
  simp only[loc]
  have h0:(if L k then u e v else v)=(if L' k then u e v else v):=by
   cases hm:m e with
   |false=>grind
   |true=>have:=h 0 e sm hm;simp only[Br]at this;rw[this]
  rw[h0]
  exact AM es (k+1) _ fun j e' hj hm=>by
   have:=h (j+1) e' (by simpa using hj) hm;rw[show k+(j+1)=k+1+j from by omega]at this;exact this
theorem ML{L:Nat->Bool}{e:Ent}:∀(es:List Ent) (k i:Nat) (v:X),es[i]? =some e->L (k+i)=false->(∀(j:Nat) (e':Ent),i<j->es[j]? =some e'->m e=true->m e'=true->L (k+j)=false)->
  loc u (fun j=>j==k+i||L j) k es v=u e (loc u L k es v)
 | [],_,_,_,h,_,_=>by simp at h
 |e0::es,k,0,v,h,hL,hlate=>by
  simp only[Ch,Option.some.injEq]at h;subst h;simp only[Br]at hL;simp only[loc,Br,beq_self_eq_true,Bool.true_or,if_true,hL,Aj,if_false]
  have e1:loc u (fun j=>j==k||L j) (k+1) es (u e0 v)=loc u L (k+1) es (u e0 v):=by
   refine AM (m:=fun _=>true) (fun _ _ h=>by cases h) es (k+1) _ fun j e' _ _=> ?_;have:(k+1+j==k)=false:=by grind
   simp[this]
  rw[e1]
  cases hm:m e0 with
  |false=>grind
  |true=>
   have out:∀v,loc u L (k+1) es v=loc u (fun _=>false) (k+1) es v:=fun v=>AM hu es (k+1) v fun j e' hj hm'=>by
    have:=hlate (j+1) e' om (by simpa using hj) hm hm';rw[show k+(j+1)=k+1+j from by omega]at this;exact this
   have non:∀(es:List Ent) (k:Nat) (v:X),loc u (fun _=>false) k es v=v:=by
    intro es
    induction es with
    |nil=>intro k v;rfl
    |cons e es ih=>intro k v;simp only[loc];exact ih _ _
   rw[out,out,non,non]
 |e0::es,k,i+1,v,h,hL,hlate=>by
  simp only[loc];have hne:(k==k+(i+1))=false:=sm;simp only[hne,Bool.false_or]
  have ih:=ML (L:=L) (e:=e) es (k+1) i (if L k then u e0 v else v) (by simpa using h) (by rw[show k+1+i=k+(i+1)from by omega];exact hL) (fun j e' hj he'=>by
   have:=hlate (j+1) e' om (by simpa using he');rw[show k+(j+1)=k+1+j from by omega]at this;exact this)
  rw[show k+1+i=k+(i+1)from by omega]at ih;exact ih
end loc
def uS(t:Nat)(e:Ent)(v:Option A):Option A:=if e.dst=some t then v.map (fun _=>e.a)else v
def mS(t:Nat)(e:Ent):Bool:=decide (e.dst=some t)
def uW(id:Nat)(e:Ent)(v:Option O):Option O:=wrW id e.wr v
def mW(id:Nat)(e:Ent):Bool:=(e.wr.map (·.1)).contains id
theorem aKz(t:Nat)(e:Ent)(v:Option A)(h:mS t e=false):uS t e v=v:=by
 simp only[mS,decide_eq_false_iff_not]at h;simp only[uS,if_neg h]
theorem aJ3(id:Nat)(e:Ent)(v:Option O)(h:mW id e=false):uW id e v=v:=
 aIF id e.wr v (fun hm=>by simp only[mW]at h;rw[Dp.2 hm]at h;cases h)
theorem aE0(s:List A)(dst:Option Tmp)(a:A)(t:Nat):(aPut s dst a)[t]? =if dst=some t then s[t]?.map (fun _=>a)else s[t]?:=by
 cases dst with
 |none=>simp[aPut]
 |some d=>
  simp only[aPut,Co,Option.some.injEq]
  by_cases e:d=t
  ·grind
  ·simp[e]
theorem vR(L:Nat->Bool)(t:Nat):∀(es:List Ent) (k:Nat) (s:List A) (h:H),(runL L k es s h).1[t]? =loc (uS t) L k es s[t]?
 | [],_,_,_=>rfl
 |e::es,k,s,h=>by
  simp only[runL,loc]
  cases hL:L k with
  |true=>simp only[if_true];rw[vR L t es,aE0];rfl
  |false=>simp only[Aj,if_false];exact vR L t es _ _ _
theorem zR(L:Nat->Bool)(id:Nat):∀(es:List Ent) (k:Nat) (s:List A) (h:H),(runL L k es s h).2[id]? =loc (uW id) L k es h[id]?
 | [],_,_,_=>rfl
 |e::es,k,s,h=>by
  simp only[runL,loc]
  cases hL:L k with
  |true=>simp only[if_true];rw[zR L id es,WZ];rfl
  |false=>simp only[Aj,if_false];exact zR L id es _ _ _
theorem MJ{L L':Nat->Bool}:∀(es:List Ent) (k:Nat) (s:List A) (h:H),(∀j,j<es.length->L (k+j)=L' (k+j))->runL L k es s h=runL L' k es s h
 | [],_,_,_,_=>rfl
 |e::es,k,s,h,hl=>by
  simp only[runL];have h0:=hl 0 sm;simp only[Br]at h0;rw[h0]
  have ih:=fun s h=>MJ (L:=L) (L':=L') es (k+1) s h fun j hj=>by
   have:=hl (j+1) (by simpa using hj);rw[show k+(j+1)=k+1+j from by omega]at this;exact this
  rw[ih,ih]
def aJP(E:Env)(call:aW)(thaw:List Nat)(ops:List Oper):List Oper->List Ent->List A->H->Prop
 | [],[],_,_=>True
 |o::os,e::es,s,h=>e.dst=o.dst/\jN E call thaw ops e.base e.k o s h=some (e.a,e.wr,e.fp)/\aJP E call thaw ops os es (aPut s e.dst e.a) (putW e.wr h)
 |_,_,_,_=>False
theorem aGd{E:Env}{call:aW}{thaw:List Nat}{ops:List Oper}:∀(os:List Oper) (es:List Ent) (k:Nat) (s:List A) (h:H),aJP E call thaw ops os es s h->
  os.length=es.length/\∀(i:Nat) (o:Oper),os[i]? =some o->∃e,es[i]? =some e/\e.dst=o.dst/\
   jN E call thaw ops e.base e.k o (runL (fun j=>decide (j<k+i)) k es s h).1 (runL (fun j=>decide (j<k+i)) k es s h).2=some (e.a,e.wr,e.fp)
 | [],[],_,_,_,_=>⟨rfl,fun i o h=>by simp at h⟩
 | [],_::_,_,_,_,h=>h.elim
 |_::_,[],_,_,_,h=>h.elim
 |o::os,e::es,k,s,h,ht=>by
  obtain⟨hd,hst,ht⟩:=ht;obtain⟨hl,ih⟩:=aGd os es (k+1) _ _ ht;refine⟨by simp[hl],fun i o' ho=> ?_⟩
  cases i with
  |zero=>
   simp only[Ch,Option.some.injEq]at ho;subst ho;refine⟨e,rfl,hd,?_⟩
   have:runL (fun j=>decide (j<k+0)) k (e::es) s h=(s,h):=by
    rw[MJ (L':=fun _=>false) _ _ _ _ fun j _=>by simp]
    have non:∀(es:List Ent) (k:Nat),runL (fun _=>false) k es s h=(s,h):=by
     intro es
     induction es with
     |nil=>intro k;rfl
     |cons e es ih=>intro k;simp only[runL];exact ih _
    exact non _ _
   rw[this];exact hst
  |succ i=>
   obtain⟨e',he',hd',hst'⟩:=ih i o' (by simpa using ho);refine⟨e',by simpa using he',hd',?_⟩;have hlt:decide (k<k+(i+1))=true:=sm;simp only[runL,hlt,if_true];rw[show k+(i+1)=k+1+i from by omega];exact hst'
theorem aDt(acc:List Nat)(j:Nat):∀(es:List Edge) (s0:Nat),(es.foldl (fun s e=>if Region.binds .any e then s|||2^e.on|||acc.getD e.on 0 else s) s0).testBit j=true->
  s0.testBit j=true\/∃e∈es,Region.binds .any e=true/\(j=e.on\/(acc.getD e.on 0).testBit j=true)
 | [],s0,h=>.inl h
 |e::es,s0,h=>by
  simp only[Ct]at h
  rcases aDt acc j es _ h with h1|⟨e',he',h2⟩
  ·grind
  ·grind
def DU(ops:List Oper)(L:Nat->Bool)(m:Nat):Prop:=∀o,ops[m]? =some o->∀e∈o.after,Region.binds .any e=true->L e.on=true
theorem aAg{ops:List Oper}{L:Nat->Bool}(hL:∀m,L m=true->DU ops L m):∀(os:List Oper) (acc:List Nat),(∀j,os[j]? =ops[acc.length+j]?)->
  (∀m j,(acc.getD m 0).testBit j=true->DU ops L m->L j=true)->∀m j,((HL os acc).getD m 0).testBit j=true->DU ops L m->L j=true
 | [],acc,_,h=>by simpa only[HL]using h
 |o::os,acc,hops,h=>by
  refine aAg hL os _ (fun j=>by have:=hops (j+1);simp only[As]at this;rw[this];congr 1;simp;omega) fun m j hb hm=> ?_;rw[Ab]at hb
  by_cases hlt:m<acc.length
  ·grind
  ·by_cases he:m=acc.length
   ·subst he;simp only[List.getElem?_concat_length,Bh]at hb;have ho:ops[acc.length]? =some o:=by have:=hops 0;simp at this;exact this.symm
    rcases aDt acc j _ _ hb with h0|⟨e,hem,hbd,h1⟩
    ·simp at h0
    ·have hon:=hm o ho e (by simpa using hem) hbd
     rcases h1 with rfl|h1
     ·exact hon
     ·grind
   ·grind
theorem aFQ{ops:Array Oper}:∀(fuel k:Nat) (listed:Array Bool),listed.size=ops.size->k+fuel=ops.size->(∀j,j<ops.size->∀d,listed.getD j d=decide (j<k))->Region.lexFrom .any ops fuel k listed=true->
  ∀m o,k<=m->ops[m]? =some o->(∀e∈o.after,Region.binds .any e=true->e.on<m)/\∀j oj,m<j->ops[j]? =some oj->(∀e∈oj.after,Region.binds .any e=true->e.on≠m)->o.apart ops oj=true
 |0,k,listed,hs,hk,_,_=>by
  intro m o hm ho;have:=(Bj.1 ho).1;omega
 |fuel+1,k,listed,hs,hk,hl,h=>by
  simp only[Region.lexFrom,Ap]at h;obtain⟨⟨h1,h2⟩,h3⟩:=h;intro m o hm ho;have hkn:k<ops.size:=om
  by_cases he:m=k
  ·subst he;have hr:m∈Region.ready .any ops listed:=by grind
   obtain⟨_,o',ho',hall⟩:=mem_ready.1 hr;rw[ho]at ho';cases ho';refine⟨fun e hem hb=> ?_,fun j oj hj hoj hno=> ?_⟩
   ·have h4:=hall e hem hb;have hlt:e.on<ops.size:=by grind
    rw[hl _ hlt]at h4
    simpa using h4
   ·refine Region.free_spec ho h2 j oj hoj om ?_ hno;rw[hl j (Bj.1 hoj).1]
    simp;omega
  ·refine aFQ fuel (k+1) _ (by simpa using hs) om (fun j hj d=> ?_) h3 m o om ho
   by_cases e:k=j
   ·simp_all
   ·rw[getD_set_ne d e,hl j hj]
    by_cases hjk:j<k
    ·grind
    ·grind
end Ev
end Go.Proofs.YtahbdkmimmnadaaGreatDoor
namespace Go.Proofs.YtahbdkmimmnadaaGreatDoor
namespace Ev
variable{G:Gnd}
section
variable{E:Env}{call:aW}{thaw:List Nat}
structure Ran(E:Env)(call:aW)(thaw:List Nat)(ops:Array Oper)(es:List Ent)(s:List A)(h:H):Prop where
 len:es.length=ops.size
 at':∀(i:Nat) (o:Oper),ops[i]? =some o->∃e,es[i]? =some e/\e.dst=o.dst/\
   jN E call thaw ops.toList e.base e.k o (runL (fun j=>decide (j<i)) 0 es s h).1 (runL (fun j=>decide (j<i)) 0 es s h).2=some (e.a,e.wr,e.fp)
 lex:∀m o,ops[m]? =some o->(∀e∈o.after,Region.binds .any e=true->e.on<m)/\∀j oj,m<j->ops[j]? =some oj->(∀e∈oj.after,Region.binds .any e=true->e.on≠m)->o.apart ops oj=true
 mem:∀i j ei ej,i<j->es[i]? =some ei->es[j]? =some ej->kB ei.fp ej.fp=true->((HL ops.toList []).getD j 0).testBit i=true
theorem U9{ops:Array Oper}{L:Nat->Bool}(hL:∀m,L m=true->DU ops.toList L m){m j:Nat}(hb:((HL ops.toList []).getD m 0).testBit j=true)(hm:DU ops.toList L m):L j=true:=
 aAg hL ops.toList [] (fun j=>by simp) (fun m j h=>by simp at h) m j hb hm
theorem XC{a b:Foot}{i:Nat}(hr:(a.ro=false/\i∈a.wr/\i∈b.ids)\/(b.ro=false/\i∈b.wr/\i∈a.ids)):kB a b=true:=by
 simp only[kB,Bool.or_eq_true,Ap,Bool.not_eq_true',List.any_eq_true,Dp]
 rcases hr with⟨h1,h2,h3⟩|⟨h1,h2,h3⟩
 ·grind
 ·grind
theorem aKX{ops:Array Oper}{es:List Ent}{s:List A}{h:H}(R:Ran E call thaw ops es s h){L:Nat->Bool}(hL:∀m,L m=true->DU ops.toList L m){i:Nat}{o:Oper}(ho:ops[i]? =some o)(hi:L i=false)(hh:DU ops.toList L i):
  ∃e,es[i]? =some e/\e.dst=o.dst/\jN E call thaw ops.toList e.base e.k o (runL L 0 es s h).1 (runL L 0 es s h).2=some (e.a,e.wr,e.fp)/\
   runL (fun j=>j==i||L j) 0 es s h=(aPut (runL L 0 es s h).1 o.dst e.a,putW e.wr (runL L 0 es s h).2):=by
 obtain⟨e,he,hd,hst⟩:=R.at' i o ho;have hw:=OK hst
 have opAt:∀(j:Nat) (e':Ent),es[j]? =some e'->∃o',ops[j]? =some o'/\e'.dst=o'.dst/\(e'.fp.ro=true->e'.wr=[])/\∀id∈e'.wr.map (·.1),id∈e'.fp.ids/\id∈e'.fp.wr:=by
  intro j e' hj;have hlt:j<ops.size:=by rw[<-R.len];exact(Ar.1 hj).1
  obtain⟨e2,he2,hd2,hst2⟩:=R.at' j ops[j] (by simp[hlt]);rw[hj]at he2;cases he2;exact⟨ops[j],by simp[hlt],hd2,OK hst2⟩
 have before:∀(j:Nat) (oj:Oper),j<i->ops[j]? =some oj->(¬(oj.apart ops o=true))->L j=true:=by
  intro j oj hj hoj hna
  by_cases hx:∀e∈o.after,Region.binds .any e=true->e.on≠j
  ·exact absurd ((R.lex j oj hoj).2 i o hj ho hx) hna
  ·obtain⟨e',hx⟩:=Classical.not_forall.1 hx;have:e'∈o.after/\Region.binds .any e'=true/\e'.on=j:=by grind
   rw[<-this.2.2];exact hh o (by simpa using ho) e' this.1 this.2.1
 have later:∀(j:Nat) (oj:Oper),i<j->ops[j]? =some oj->(¬(o.apart ops oj=true))->L j=false:=by
  intro j oj hj hoj hna
  cases hlj:L j with
  |false=>rfl
  |true=>
   exfalso
   by_cases hx:∀e∈oj.after,Region.binds .any e=true->e.on≠i
   ·exact hna ((R.lex i o ho).2 j oj hj hoj hx)
   ·obtain⟨e',hx⟩:=Classical.not_forall.1 hx;have h3:e'∈oj.after/\Region.binds .any e'=true/\e'.on=i:=by grind
    have:=hL j hlj oj (by simpa using hoj) e' h3.1 h3.2.1;rw[h3.2.2,hi]at this;cases this
 have mbefore:∀(j:Nat) (e':Ent),j<i->es[j]? =some e'->kB e'.fp e.fp=true->L j=true:=fun j e' hj he' hc=>
  U9 hL (R.mem j i e' e hj he' he hc) hh
 have mlater:∀(j:Nat) (e':Ent),i<j->es[j]? =some e'->kB e.fp e'.fp=true->L j=false:=by
  intro j e' hj he' hc
  cases hlj:L j with
  |false=>rfl
  |true=>
   have:=U9 hL (R.mem i j e e' hj he he' hc) (hL j hlj);rw[hi]at this;cases this
 have nonro:∀(e':Ent),(e'.fp.ro=true->e'.wr=[])->∀id∈e'.wr.map (·.1),e'.fp.ro=false:=by grind
 refine⟨e,he,hd,aHm hst (fun t ht=> ?_) (fun id hid=> ?_),Prod.ext (Cn fun t=> ?_) (Cn fun id=> ?_)⟩
 ·rw[vR,vR];refine AM (aKz t) es 0 _ fun j e' hj hm=> ?_;simp only[Af];simp only[mS,decide_eq_true_eq]at hm;obtain⟨o',ho',hd',_⟩:=opAt j e' hj;rw[hd']at hm
  rcases Dy j i with h1|h1|h1
  ·rw[before j o' h1 ho' fun hap=>(Oper.apart_spec hap).1 t hm ht];simp[h1]
  ·grind
  ·rw[later j o' h1 ho' fun hap=>(Oper.apart_spec hap).2.2 t hm ht];simp;omega
 ·rw[zR,zR];refine AM (aJ3 id) es 0 _ fun j e' hj hm=> ?_;simp only[Af];simp only[mW,Dp]at hm;obtain⟨o',ho',hd',hw1,hw2⟩:=opAt j e' hj;have hro:=nonro e' hw1 id hm
  rcases Dy j i with h1|h1|h1
  ·rw[mbefore j e' h1 hj (XC (.inl ⟨hro,(hw2 id hm).2,hid⟩))];simp[h1]
  ·grind
  ·rw[mlater j e' h1 hj (XC (.inr ⟨hro,(hw2 id hm).2,hid⟩))];simp;omega
 ·simp only[];rw[aE0,vR,vR]
  have:=ML (aKz t) (L:=L) (e:=e) es 0 i s[t]? he (by simpa using hi) (fun j e' hj he' h1 h2=>by
   simp only[Af];simp only[mS,decide_eq_true_eq]at h1 h2;obtain⟨o',ho',hd',_⟩:=opAt j e' he';exact later j o' hj ho' fun hap=>(Oper.apart_spec hap).2.1 t (by rw[<-hd];exact h1) (by rw[<-hd'];exact h2))
  simp only[Af]at this;rw[this];simp only[uS,hd]
 ·simp only[];rw[WZ,zR,zR]
  have:=ML (aJ3 id) (L:=L) (e:=e) es 0 i h[id]? he (by simpa using hi) (fun j e' hj he' h1 h2=>by
   simp only[Af];simp only[mW,Dp]at h1 h2;obtain⟨o',ho',hd',hw1,hw2⟩:=opAt j e' he';exact mlater j e' hj he' (XC (.inr ⟨nonro e' hw1 id h2,(hw2 id h2).2,(hw.2 id h1).1⟩)))
  simp only[Af]at this;rw[this];rfl
def open'(n:Nat)(listed:Array Bool):Nat:=(List.range n).countP fun i=> !listed.getD i false
theorem aCk{p q:Nat->Bool}:∀(l:List Nat) (i:Nat),i∈l->p i=true->q i=false->(∀j,q j=true->p j=true)->l.countP q<l.countP p
 | [],i,h,_,_,_=>by simp at h
 |x::l,i,h,hp,hq,hpq=>by
  rw[List.countP_cons,List.countP_cons];have hle:l.countP q<=l.countP p:=List.countP_mono_left fun j _ hj=>hpq j hj
  rcases Au.1 h with rfl|h
  ·grind
  ·have:=aCk l i h hp hq hpq
   cases hqx:q x with
   |false=>grind
   |true=>grind
theorem aPk(hE:EnvOK E)(hc:j5 G E.P call){ops:Array Oper}{es:List Ent}{s:List A}{h:H}{ρ0:Rho}{w0:World}{I0:Nat->Prop}{act0:Act}(R:Ran E call thaw ops es s h){Q:Exit->Act->World->Prop}
  (hQ:∀act' ρ' w' I',Step G h ρ0 w0 I0 (runL (fun _=>true) 0 es s h).2 ρ' w' I'->ARv (runL (fun _=>true) 0 es s h).2 ρ' w' I' (runL (fun _=>true) 0 es s h).1 act'.tmps.toList->act'.defers=act0.defers->Q .normal act' w'):
  ∀(fuel:Nat) (listed:Array Bool) (act:Act) (ρ:Rho) (w:World) (I:Nat->Prop),listed.size=ops.size->(∀m,listed.getD m false=true->DU ops.toList (fun j=>listed.getD j false) m)->open' ops.size listed<=fuel->
   Step G h ρ0 w0 I0 (runL (fun j=>listed.getD j false) 0 es s h).2 ρ w I->ARv (runL (fun j=>listed.getD j false) 0 es s h).2 ρ w I (runL (fun j=>listed.getD j false) 0 es s h).1 act.tmps.toList->act.defers=act0.defers->
   wpAny E.P .any ops Q fuel listed act w:=by
 have fin:∀(listed:Array Bool) (act:Act) (ρ:Rho) (w:World) (I:Nat->Prop),listed.size=ops.size->Region.ready .any ops listed=[]->
   Step G h ρ0 w0 I0 (runL (fun j=>listed.getD j false) 0 es s h).2 ρ w I->ARv (runL (fun j=>listed.getD j false) 0 es s h).2 ρ w I (runL (fun j=>listed.getD j false) 0 es s h).1 act.tmps.toList->act.defers=act0.defers->Q .normal act w:=by
  intro listed act ρ w I hs hr st hsl hd
  have all:∀n,n<=ops.size->∀j,j<n->listed.getD j false=true:=by
   intro n
   induction n with
   |zero=>grind
   |succ n ih=>
    intro hn j hj
    by_cases hjn:j<n
    ·grind
    ·have:j=n:=om;subst this
     cases hl:listed.getD j false with
     |true=>rfl
     |false=>
      have hmem:j∈Region.ready .any ops listed:=mem_ready.2 ⟨by
       have hlt:j<listed.size:=om;simp only[Array.getD_eq_getD_getElem?,Array.getElem?_eq_getElem hlt,Bh]at hl|-;exact hl,ops[j],by simp,fun e he hb=>ih om e.on ((R.lex j ops[j] sm).1 e he hb)⟩
      rw[hr]at hmem;cases hmem
  have:runL (fun j=>listed.getD j false) 0 es s h=runL (fun _=>true) 0 es s h:=MJ es 0 s h fun j hj=>by
   simp only[Af];exact all ops.size (Ad _) j (by rw[<-R.len];exact hj)
  rw[this]at st hsl;exact hQ act ρ w I st hsl hd
 intro fuel
 induction fuel with
 |zero=>
  intro listed act ρ w I hs hdc ho st hsl hd
  have hr:Region.ready .any ops listed=[]:=by
   apply List.eq_nil_iff_forall_not_mem.2;intro j hj;obtain⟨h0,o,hoj,_⟩:=mem_ready.1 hj;have hlt:=(Bj.1 hoj).1;have hz:open' ops.size listed=0:=om;unfold open' at hz;rw[List.countP_eq_zero]at hz;have:=hz j (List.mem_range.2 hlt);have hlt':j<listed.size:=om;simp only[Array.getD_eq_getD_getElem?,Array.getElem?_eq_getElem hlt',Bh]at this h0;rw[h0]at this;simp at this
  exact⟨hr,fin listed act ρ w I hs hr st hsl hd⟩
 |succ fuel ih=>
  intro listed act ρ w I hs hdc ho st hsl hd;refine⟨fun hr=>fin listed act ρ w I hs hr st hsl hd,fun i hi=> ?_⟩;obtain⟨h0,o,hoi,hedges⟩:=mem_ready.1 hi;have hlt:=(Bj.1 hoi).1;have hli:listed.getD i false=false:=by grind
  have hheed:DU ops.toList (fun j=>listed.getD j false) i:=fun o' ho' e he hb=>by
   have:o'=o:=by grind
   subst this;exact hedges e he hb
  obtain⟨e,he,hde,hst,hrun⟩:=aKX R hdc hoi hli hheed
  have newL:∀j,(listed.setIfInBounds i true).getD j false=(j==i||listed.getD j false):=by
   intro j
   by_cases hji:j=i
   ·subst hji;simp[hs,hlt]
   ·rw[getD_set_ne false (Ne.symm hji)];simp[hji]
  have hL':(fun j=>(listed.setIfInBounds i true).getD j false)=fun j=>(j==i||listed.getD j false):=by grind
  unfold wpOp;simp only[hoi]
  have key:=aLl hE hc hst st.rel hsl (wpAny E.P .any ops Q fuel (listed.setIfInBounds i true)) Q fun act' ρ' w' I' s1 hs1 hd1=>by
   refine ih _ act' ρ' w' I' (by simpa using hs) (fun m hm=> ?_) ?_ ?_ ?_ (hd1.trans hd)
   ·rw[hL'];intro o' ho' e' he' hb';rw[newL]at hm;simp only[Bool.or_eq_true,beq_iff_eq]at hm|-
    rcases hm with rfl|hm
    ·exact .inr (hheed o' ho' e' he' hb')
    ·exact .inr (hdc m hm o' ho' e' he' hb')
   ·have:open' ops.size (listed.setIfInBounds i true)<open' ops.size listed:=by
     unfold open';refine aCk _ i (List.mem_range.2 hlt) (by simp only[hli];rfl) (by simp only[newL];simp) fun j hj=> ?_;simp only[newL]at hj;simp only[Bool.not_eq_true',Ei]at hj|-;exact hj.2
    omega
   ·rw[hL',hrun];exact st.trans s1
   ·rw[hL',hrun];exact hs1
  have htl:ops.toList.toArray=ops:=sm
  split
  ·rename_i hw
   rw[if_pos hw]at key;exact .inl key
  ·rename_i hw
   rw[if_neg hw]at key;exact key
def fT(n:Nat):H:=List.replicate n .void
theorem aB9(ord:List Nat)(base n:Nat):back ord base n=fun(j:Nat)=>(ord++List.range' base (n-ord.length))[j]?:=by
 funext j
 unfold back
 split
 ·grind
 ·grind
theorem aEQ(f:Nat->Option Nat):∀(rest:H) (h:H) (y:Nat),putW ((List.range' h.length rest.length).zip (rest.map (mapO f))) (h++fT (rest.length+y))=h++rest.map (mapO f)++fT y
 | [],h,y=>by simp[putW]
 |o::rest,h,y=>by
  have ih:=aEQ f rest (h++[mapO f o]) y;simp only[Ac,Dq,Ag,List.zip_cons_cons,putW]
  have:(h++fT (rest.length+1+y)).set h.length (mapO f o)=(h++[mapO f o])++fT (rest.length+y):=by
   rw[show rest.length+1+y=(rest.length+y)+1 from by omega];simp[fT,Dr]
  rw[this];simp only[Ah,Ac,Aa,Af]at ih;rw[ih];simp
theorem P3(f:Nat->Option Nat):∀(ord:List Nat) (h h1:H) (y:Nat),(∀i∈ord,i<h.length)->ord.length<=h1.length->
  putW ((ord++List.range' h.length (h1.length-ord.length)).zip (h1.map (mapO f))) (h++fT (h1.length-ord.length+y))=bA f h ord h1++fT y
 | [],h,h1,y,_,_=>by
  simp only[bA,Am,Aa,Nat.sub_zero];exact aEQ f h1 h y
 |i::ord,h,[],y,_,hl=>by grind
 |i::ord,h,o::h1,y,hi,hl=>by
  simp only[Ac,Nat.add_sub_add_right,At,Ag,List.zip_cons_cons,putW,bA];have hlt:=hi i sm;have:=P3 f ord (h.set i (mapO f o)) h1 y (fun j hj=>by simpa using hi j (by simp[hj])) (by simpa using hl);rw[List.set_append_left _ _ hlt]
  simpa using this
theorem aCq{h:H}{n i:Nat}(hi:i<h.length):(h++fT n)[i]? =h[i]?:=Bb hi
theorem aJx{ops:List Oper}{o:Oper}{s s1:List A}{h h1:H}{c:Foot}(he:vT E call thaw ops o s h=some (s1,h1,c)):
  ∃k a W,h1.length=h.length+k/\s1=aPut s o.dst a/\∀y,jN E call thaw ops h.length k o s (h++fT (k+y))=some (a,W,c)/\putW W (h++fT (k+y))=h1++fT y:=by
 unfold vT at he
 split at he
 ·rename_i hw
  split at he
  ·rename_i vs hvs
   split at he
   ·rename_i hp
    split at he
    ·rename_i a h2 hop
     cases he;refine⟨0,a,[],by simp,rfl,fun y=>⟨?_,by simp[putW]⟩⟩
     unfold jN;simp only[hw,hvs,hp,if_true];rw[SZ hp h,hop];rfl
    ·cases he
   split at he
   ·rename_i hp0 hp
    split at he
    ·rename_i a h2 hop
     cases he;refine⟨0,a,[],by simp,rfl,fun y=>⟨?_,by simp[putW]⟩⟩
     unfold jN;simp only[hw,hvs,hp0,hp,if_true,Aj,if_false];rw[(GR hp (fun i hi x hx=>by rw[Bb (Ar.1 hx).1];exact hx) hop).2]
    ·cases he
   ·rename_i hp0 hp
    split at he
    ·rename_i a h' ord k hop
     unfold iP at hop;simp only[]at hop
     split at hop
     ·rename_i a1 h2 hop1
      split at hop
      ·rename_i hcond
       obtain⟨hlen,hcl⟩:=hcond;simp only[Option.some.injEq,Prod.mk.injEq]at hop;obtain⟨rfl,rfl,rfl,rfl⟩:=hop;have hl:=jY aD h (idsL vs) [] sm;have hb:=D7 hcl
       have big:∀n,jN E call thaw ops h.length (h2.length-(aC aD h (idsL vs) []).length) o s (h++fT (h2.length-(aC aD h (idsL vs) []).length+n))=
         (if hZ E o.op vs&&(h2.length-(aC aD h (idsL vs) []).length)==0 then some (mapA (fun(j:Nat)=>(aC aD h (idsL vs) [])[j]?) a1,[],{ ids:=aC aD h (idsL vs) [],ro:=true})
          else some (mapA (fun(j:Nat)=>(aC aD h (idsL vs) []++List.range' h.length (h2.length-(aC aD h (idsL vs) []).length))[j]?) a1,((aC aD h (idsL vs) []++List.range' h.length (h2.length-(aC aD h (idsL vs) []).length)).zip (h2.map (mapO (fun(j:Nat)=>(aC aD h (idsL vs) []++List.range' h.length (h2.length-(aC aD h (idsL vs) []).length))[j]?)))).filter (fun p=>(wrOf E o.op vs (aC aD h (idsL vs) [])++List.range' h.length (h2.length-(aC aD h (idsL vs) []).length)).contains p.1),{ ids:=aC aD h (idsL vs) []++List.range' h.length (h2.length-(aC aD h (idsL vs) []).length),ro:=false,wr:=wrOf E o.op vs (aC aD h (idsL vs) [])++List.range' h.length (h2.length-(aC aD h (idsL vs) []).length)})):=by
        intro n;have hsm:∀i∈aC aD h (idsL vs) [],h[i]? =(h++fT (h2.length-(aC aD h (idsL vs) []).length+n))[i]?:=fun i hi=>(aCq (hl i hi)).symm;unfold jN;simp only[hw,hvs,hp0,hp,Aj,if_false];rw[lW hsm hb.2 aD _ [] hb.1];unfold vP;rw[SN hsm,J2 hsm,hop1]
        have hv:(List.range' h.length (h2.length-(aC aD h (idsL vs) []).length)).all (GI (h++fT (h2.length-(aC aD h (idsL vs) []).length+n)))=true:=by
         rw[Bs];intro i hi;rw[aAN];rw[Cw]at hi;rw[Bq hi.1];unfold fT;rw[List.getElem?_replicate_of_lt om]
        have hd:decide (h2.length=(aC aD h (idsL vs) []).length+(h2.length-(aC aD h (idsL vs) []).length))=true:=by simp;omega
        simp only[hd,hcl,hv,Bm,if_true]
       split at he
       ·rename_i hro
        cases he
        have hk:h2.length-(aC aD h (idsL vs) []).length=0:=by
         simp only[Ap,beq_iff_eq]at hro;exact hro.2
        refine⟨0,_,[],by simp,rfl,fun y=>⟨?_,by simp[putW]⟩⟩;have:=big y;rw[if_pos hro,hk]at this;rw[this,aB9,hk];simp
       ·rename_i hro
        cases he;refine⟨h2.length-(aC aD h (idsL vs) []).length,_,_,?_,rfl,fun y=>⟨by rw[big y,if_neg hro,aB9],?_⟩⟩
        ·have h3:=P3 (back (aC aD h (idsL vs) []) h.length h2.length) (aC aD h (idsL vs) []) h h2 0 hl hlen;have h4:=congrArg List.length h3;rw[UT]at h4;simp[fT]at h4;omega
        ·have h3:=P3 (back (aC aD h (idsL vs) []) h.length h2.length) (aC aD h (idsL vs) []) h h2 y hl hlen;rw[aB9]at h3|-;rw[<-h3];have hsm:∀i∈aC aD h (idsL vs) [],h[i]? =(h++fT (h2.length-(aC aD h (idsL vs) []).length+y))[i]?:=fun i hi=>(aCq (hl i hi)).symm;have hop2:=hop1;have hcl2:=hcl;rw[<-SN hsm]at hop2;rw[<-J2 hsm]at hcl2;refine aIp hop2 hcl2 ?_ om (fun i hi=>by simp only[Ah];have:=hl i hi;omega);rw[List.nodup_append];refine⟨bO _ _ _ _ sm,List.nodup_range',fun a ha b hb e=> ?_⟩;subst e;have:=hl a ha;rw[Cw]at hb;omega
      ·cases hop
     ·cases hop
    ·cases he
  ·cases he
 ·rename_i hw
  cases he;refine⟨0,.d .undef,[],by simp,rfl,fun y=>⟨?_,by simp[putW]⟩⟩
  unfold jN;simp only[hw]
 ·cases he
theorem aGI{ops:List Oper}:∀(rest:List Oper) (s s':List A) (h h':H) (cs:List Foot),kP E call thaw ops rest s h=some (s',h',cs)->
  ∃K,∀x,∃es,aJP E call thaw ops rest es s (h++fT (K+x))/\es.map (·.fp)=cs/\∀k,runL (fun _=>true) k es s (h++fT (K+x))=(s',h'++fT x)
 | [],s,s',h,h',cs,he=>by
  obtain⟨rfl,rfl,rfl⟩:=he;exact⟨0,fun x=>⟨[],trivial,rfl,fun k=>by simp[runL]⟩⟩
 |o::rest,s,s',h,h',cs,he=>by
  simp only[kP]at he
  split at he
  ·rename_i s1 h1 c hst
   split at he
   ·rename_i s2 h2 cs2 hrest
    cases he;obtain⟨k,a,W,hlen,rfl,hat⟩:=aJx hst
    obtain⟨K,hK⟩:=aGI rest _ _ _ _ _ hrest;refine⟨k+K,fun x=> ?_⟩;obtain⟨es,ht,hc,hr⟩:=hK x;obtain⟨ha1,ha2⟩:=hat (K+x);rw[show k+K+x=k+(K+x)from by omega];refine⟨⟨o.dst,h.length,k,a,W,c⟩::es,⟨rfl,ha1,by rw[ha2];exact ht⟩,by simp[hc],fun n=> ?_⟩;simp only[runL,if_true];rw[ha2];exact hr (n+1)
   ·cases he
  ·cases he
theorem YT{h:H}{ρ:Rho}{w:World}{I:Nat->Prop}(r:Rel G h ρ w I):∀n,∃ρ',Step G h ρ w I (h++fT n) ρ' w I
 |0=>⟨ρ,by simpa [fT]using Step.refl r⟩
 |n+1=>by
  obtain⟨ρ',s⟩:=YT r n;have s1:=fH s.rel (Grew.refl w) .void none sm (fun _=>by simp[OR]);have e:h++fT (n+1)=h++fT n++[.void]:=by simp[fT,List.replicate_succ']
  rw[e];exact⟨_,s.trans s1⟩
theorem aOb(hE:EnvOK E)(hc:j5 G E.P call):P5 G E call:=by
 intro id thaw ops s s' h h' he ρ w I act r hs Q hQ;simp only[mD,if_true]at he
 split at he
 ·rename_i s1 h1 cs hrun
  split at he
  ·rename_i hcond
   cases he;simp only[Ap]at hcond
   obtain⟨hlex,hclash⟩:=hcond;obtain⟨K,hK⟩:=aGI _ _ _ _ _ _ hrun;obtain⟨es,ht,hcs,hr⟩:=hK 0;simp only[Br]at ht hr;obtain⟨hlen,hat⟩:=aGd _ _ 0 _ _ ht;have hlen':es.length=ops.size:=by grind
   simp only[Region.lexB,Ap]at hlex
   have R:Ran E call thaw ops es s (h++fT K):=by
    refine⟨hlen',fun i o ho=> ?_,fun m o ho=> ?_,fun i j ei ej hij hei hej hcl=> ?_⟩
    ·simp_all
    ·exact aFQ ops.size 0 _ sm om (fun j hj d=>by simp[hj]) hlex.2 m o (Ck _) ho
    ·unfold nK at hclash;simp only[Bs,List.mem_range]at hclash;have hcl':=hclash j (by rw[<-hcs];simpa using(Ar.1 hej).1) i hij;have g1:cs.getD i {}=ei.fp:=by grind
     have g2:cs.getD j {}=ej.fp:=by grind
     rw[g1,g2,hcl]at hcl'
     simpa using hcl'
   obtain⟨ρ1,st⟩:=YT (r:=(BU r (Grew.drew w)).rel) K;have st0:=(BU r (Grew.drew w)).trans st;refine wp_region_any hE.mixed ?_
   have non:∀(es:List Ent) (k:Nat) (s:List A) (h:H),runL (fun _=>false) k es s h=(s,h):=by
    intro es
    induction es with
    |nil=>intro k s h;rfl
    |cons e es ih=>intro k s h;simp only[runL];exact ih _ _ _
   have hf:(fun j=>(Array.replicate ops.size false).getD j false)=fun _=>false:=by
    funext j
    simp only[Array.getD_eq_getD_getElem?,Array.getElem?_replicate]
    split<;>rfl
   refine aPk hE hc (ρ0:=ρ1) (w0:={ w with drawn:=w.drawn+1}) (I0:=I) (act0:=act) R (fun act' ρ' w' I' st' hs' hd'=> ?_) ops.size _ act ρ1 _ I sm (fun m hm=> ?_) ?_ ?_ ?_ rfl
   ·rw[hr]at st' hs';simp only[fT,List.replicate_zero,Ai]at st' hs';exact hQ act' ρ' w' I' (st0.trans st') hs' hd'
   ·have:=congrFun hf m;rw[this]at hm;cases hm
   ·exact Bf List.countP_le_length sm
   ·rw[hf,non];exact .refl st.rel
   ·rw[hf,non];exact f0 st0.ext s _ hs
  ·cases he
 ·cases he
theorem aNB{E:Env}{L:Nat}(hE:EnvOK E)(hp:∀f g,E.prim f=some g->yK G E.P f g)(n:Nat):j5 G E.P (aA E L n):=
 aIt hE hp (fun _ hc=>aOb hE hc) n
end
end Ev
end Go.Proofs.YtahbdkmimmnadaaGreatDoor
