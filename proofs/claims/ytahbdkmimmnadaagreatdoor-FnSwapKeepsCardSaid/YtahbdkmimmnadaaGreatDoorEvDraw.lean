/-
  Regions that draw their order: the order of the text serves every order.
-/
import Derived.Test.YtahbdkmimmnadaaGreatDoorEvCalls
set_option linter.unusedSimpArgs false
set_option linter.unusedVariables false
set_option linter.unusedSectionVars false
namespace Go.Proofs.YtahbdkmimmnadaaGreatDoor
namespace Ev
variable{G:Gnd}
def iR(f:Nat->Option Nat):H->List Nat->H->H
 |h,p::ps,o::os=>iR f (h.set p (mapO f o)) ps os
 |h,_,_=>h
theorem V2(f:Nat->Option Nat):∀(pos:List Nat) (h os:H),(iR f h pos os).length=h.length
 | [],h,os=>by simp[iR]
 |p::ps,h,[]=>by simp[iR]
 |p::ps,h,o::os=>by simp only[iR];rw[V2 f ps];simp
theorem UZ(f:Nat->Option Nat):∀(pos:List Nat) (h os:H) (id:Nat),pos.Nodup->(∀p∈pos,p<h.length)->os.length=pos.length->
  (iR f h pos os)[id]? =match aH pos id with
   |some k=>(os[k]?).map (mapO f)
   |none=>h[id]?
 | [],h,os,id,_,_,_=>by simp[iR,aH]
 |p::ps,h,[],id,_,_,hl=>by simp at hl
 |p::ps,h,o::os,id,hn,hr,hl=>by
  simp only[Dj]at hn;simp only[iR];rw[UZ f ps _ os id hn.2 (fun q hq=>by simpa using hr q (by simp[hq])) (by simpa using hl)];simp only[aH]
  by_cases e:p=id
  ·subst e;rw[zH hn.1,if_pos rfl];simp[hr p sm]
  ·grind
def qZ(pos:List Nat)(ρ ρ1:Rho):Rho:=fun id=>
 match aH pos id with
 |some k=>ρ1 k
 |none=>ρ id
theorem aHM{xs ys:List Nat}{i k:Nat}(h:aH xs i=some k):aH (xs++ys) i=some k:=by
 induction xs generalizing k with
 |nil=>simp[aH]at h
 |cons x xs ih=>
  simp only[As,aH]at h|-
  split at h
  ·grind
  ·rename_i e
   rw[if_neg e]
   cases hp:aH xs i with
   |none=>grind
   |some m=>grind
theorem aCy{h:H}{ρ:Rho}{w:World}{I:Nat->Prop}{ord fresh:List Nat}{h1:H}{ρ1:Rho}{w':World}{I':Nat->Prop}
  (r:Rel G h ρ w I) (hn:(ord++fresh).Nodup) (hr:∀i∈ord,i<h.length) (hv:∀i∈fresh,h[i]? =some .void) (hlen:h1.length=ord.length+fresh.length) (s:Step G (pack h ord) (sub ord ρ) w I h1 ρ1 w' I'):
  Step G h ρ w I (iR (fun(k:Nat)=>(ord++fresh)[k]?) h (ord++fresh) h1) (qZ (ord++fresh) ρ ρ1) w' I'/\
  ∀(id k:Nat),(fun(k:Nat)=>(ord++fresh)[k]?) id=some k->i0 h1 ρ1 w' I' id (iR (fun(k:Nat)=>(ord++fresh)[k]?) h (ord++fresh) h1) (qZ (ord++fresh) ρ ρ1) w' I' k:=by
 have hrp:∀p∈ord++fresh,p<h.length:=by grind
 have get:=fun id=>UZ (fun(k:Nat)=>(ord++fresh)[k]?) (ord++fresh) h h1 id hn hrp (by simpa using hlen);generalize hf:(fun(k:Nat)=>(ord++fresh)[k]?)=f at *;have hfk:∀k,f k=(ord++fresh)[k]?:=by grind
 have loc:∀k id,f k=some id->(iR f h (ord++fresh) h1)[id]? =(h1[k]?).map (mapO f)/\qZ (ord++fresh) ρ ρ1 id=ρ1 k:=by
  intro k id hk;rw[hfk]at hk;have hp:=dP hn hk;exact⟨by rw[get,hp],by simp[qZ,hp]⟩
 have refs:∀k id,f k=some id->i0 h1 ρ1 w' I' k (iR f h (ord++fresh) h1) (qZ (ord++fresh) ρ ρ1) w' I' id:=fun k id hk=>
  mG (fun o ho=>by rw[(loc k id hk).1,ho];rfl) (loc k id hk).2
 have orig:∀id o,(iR f h (ord++fresh) h1)[id]? =some o->
   (∃k o',f k=some id/\h1[k]? =some o'/\o=mapO f o'/\qZ (ord++fresh) ρ ρ1 id=ρ1 k)\/
   (id∉ord/\h[id]? =some o/\qZ (ord++fresh) ρ ρ1 id=ρ id):=by
  intro id o ho;rw[get]at ho
  cases hp:aH (ord++fresh) id with
  |some k=>
   rw[hp]at ho;simp only[Az]at ho;obtain⟨o',ho',rfl⟩:=ho;have hb:f k=some id:=by rw[hfk];exact bC hp
   exact .inl ⟨k,o',hb,ho',rfl,(loc k id hb).2⟩
  |none=>
   rw[hp]at ho;have hni:id∉ord:=fun hm=>by obtain⟨k,hk⟩:=bZ (List.mem_append_left fresh hm);rw[hk]at hp;cases hp
   exact .inr ⟨hni,ho,by simp[qZ,hp]⟩
 have other:∀id o b,id∉ord->h[id]? =some o->live o->ρ id=some b->¬sW (pack h ord) (sub ord ρ) b:=by
  intro id o b hni hid hlv hρ ho;obtain⟨j,o2,hj,hρj,hjo,hlv2⟩:=y9 hr ho;have:=r.inj id j b o o2 hρ hρj hid hjo hlv hlv2;subst this;exact hni hj
 have keepOther:∀id o b,id∉ord->h[id]? =some o->live o->ρ id=some b->w'.heap[b]? =w.heap[b]?:=fun id o b hni hid hlv hρ=>
  s.keep.same b (r.own_not_imm ⟨id,o,hρ,hid,hlv⟩).2 (other id o b hni hid hlv hρ)
 have ownSub:∀b,sW (pack h ord) (sub ord ρ) b->sW h ρ b:=fun b ho=>by
  obtain⟨j,o2,_,hρj,hjo,hlv2⟩:=y9 hr ho;exact⟨j,o2,hρj,hjo,hlv2⟩
 have packRef:∀id k,aH ord id=some k->i0 h ρ w I id (pack h ord) (sub ord ρ) w I k:=fun id k hk=>
  mG (fun o ho=>iI (bC hk) ho) (by simp[sub,bC hk])
 have backOf:∀id k,aH ord id=some k->f k=some id:=fun id k hp=>by
  rw[hfk];exact bC (aHM hp)
 have notFresh:∀id,id∉ord->(∃o,h[id]? =some o/\o≠.void)->aH (ord++fresh) id=none:=fun id hni ⟨o,ho,hne⟩=>
  zH fun hm=>(Aq.1 hm).elim hni fun h2=>hne (by have:=hv id h2;rw[ho]at this;exact Option.some.inj this)
 have ext:Ext h ρ w I (iR f h (ord++fresh) h1) (qZ (ord++fresh) ρ ρ1) w' I':=by
  refine⟨s.ext.imm,fun id gen off len a cap hs=> ?_,fun id gen b hs=> ?_,fun id b hs=> ?_⟩
  ·cases hp:aH ord id with
   |some k=>exact(refs k id (backOf id k hp)).1 _ _ _ _ _ (s.ext.sl _ _ _ _ _ _ ((packRef id k hp).1 _ _ _ _ _ hs))
   |none=>
    have hni:id∉ord:=fun hm=>by obtain⟨k,hk⟩:=bZ hm;rw[hk]at hp;cases hp
    cases hid:h[id]? with
    |none=>simp[slOK,hid]at hs
    |some o=>
     have hnv:o≠.void:=fun e=>by rw[e]at hid;simp[slOK,hid]at hs
     have hpn:=notFresh id hni ⟨o,hid,hnv⟩;have hg:(iR f h (ord++fresh) h1)[id]? =h[id]?:=by grind
     have hm:qZ (ord++fresh) ρ ρ1 id=ρ id:=by grind
     exact LX s.ext.imm hg hm (fun b hb ⟨o2,ho2,hl2⟩=>keepOther id o2 b hni ho2 hl2 hb) hs
  ·cases hp:aH ord id with
   |some k=>exact(refs k id (backOf id k hp)).2.1 _ _ (s.ext.pt _ _ _ ((packRef id k hp).2.1 _ _ hs))
   |none=>
    have hni:id∉ord:=fun hm=>by obtain⟨k,hk⟩:=bZ hm;rw[hk]at hp;cases hp
    cases hid:h[id]? with
    |none=>simp[ptOK,hid]at hs
    |some o=>
     have hnv:o≠.void:=fun e=>by rw[e]at hid;simp[ptOK,hid]at hs
     have hpn:=notFresh id hni ⟨o,hid,hnv⟩;have hg:(iR f h (ord++fresh) h1)[id]? =h[id]?:=by grind
     have hm:qZ (ord++fresh) ρ ρ1 id=ρ id:=by simp[qZ,hpn]
     exact K5 s.ext.imm hg hm hs
  ·cases hp:aH ord id with
   |some k=>exact(refs k id (backOf id k hp)).2.2 _ (s.ext.mp _ _ ((packRef id k hp).2.2 _ hs))
   |none=>
    have hni:id∉ord:=fun hm=>by obtain⟨k,hk⟩:=bZ hm;rw[hk]at hp;cases hp
    cases hid:h[id]? with
    |none=>simp[mpOK,hid]at hs
    |some o=>
     have hnv:o≠.void:=fun e=>by rw[e]at hid;simp[mpOK,hid]at hs
     have hpn:=notFresh id hni ⟨o,hid,hnv⟩;have hg:(iR f h (ord++fresh) h1)[id]? =h[id]?:=by grind
     have hm:qZ (ord++fresh) ρ ρ1 id=ρ id:=by simp[qZ,hpn]
     exact TH hg hm hs
 refine⟨⟨⟨fun id o ho=> ?_,fun id id' b o o' hb hb' ho ho' hlv hlv'=> ?_,s.rel.imm,s.rel.ground⟩,ext,⟨s.keep.os,s.keep.tape,s.keep.output,s.keep.size,fun b hb hno=>s.keep.same b hb (fun h=>hno (ownSub b h)),fun b hb=> ?_,s.keep.drawn⟩,fun b hb=> ?_,by rw[V2];exact Ad _⟩,refs⟩
 ·rcases orig id o ho with⟨k,o',hk,hk1,rfl,hm⟩|⟨hni,hid,hm⟩
  ·exact aH6 refs hm (s.rel.obj k o' hk1)
  ·refine W3 ext hm (fun b hb hl=>⟨keepOther id o b hni hid hl hb,fun hI'=> ?_⟩) (r.obj id o hid);have hno:=r.own_not_imm ⟨id,o,hb,hid,hl⟩
   rcases s.keep.new b hI' with h|h|h
   ·exact hno.1 h
   ·omega
   ·exact other id o b hni hid hl hb h
 ·rcases orig id o ho with⟨k,o1,hk,hk1,rfl,hm⟩|⟨hni,hid,hm⟩<;>rcases orig id' o' ho' with⟨k',o1',hk',hk1',rfl,hm'⟩|⟨hni',hid',hm'⟩
  ·rw[hm]at hb;rw[hm']at hb';have:=s.rel.inj k k' b o1 o1' hb hb' hk1 hk1' ((gK _ _).1 hlv) ((gK _ _).1 hlv');subst this;rw[hk]at hk';cases hk';rfl
  ·rw[hm]at hb;rw[hm']at hb';exfalso
   rcases s.own b ⟨k,o1,hb,hk1,(gK _ _).1 hlv⟩with h|h
   ·exact other id' _ b hni' hid' hlv' hb' h
   ·have:=(r.own_not_imm ⟨id',_,hb',hid',hlv'⟩).2;omega
  ·rw[hm]at hb;rw[hm']at hb';exfalso
   rcases s.own b ⟨k',o1',hb',hk1',(gK _ _).1 hlv'⟩with h|h
   ·exact other id _ b hni hid hlv hb h
   ·have:=(r.own_not_imm ⟨id,_,hb,hid,hlv⟩).2;omega
  ·rw[hm]at hb;rw[hm']at hb';exact r.inj id id' b o o' hb hb' hid hid' hlv hlv'
 ·rcases s.keep.new b hb with h|h|h
  ·exact .inl h
  ·omega
  ·exact .inr (.inr (ownSub b h))
 ·obtain⟨id,o,hm0,ho,hlv⟩:=hb
  rcases orig id o ho with⟨k,o1,hk,hk1,rfl,hm⟩|⟨hni,hid,hm⟩
  ·rw[hm]at hm0
   rcases s.own b ⟨k,o1,hm0,hk1,(gK _ _).1 hlv⟩with h|h
   ·exact .inl (ownSub b h)
   ·exact .inr h
  ·rw[hm]at hm0;exact .inl ⟨id,o,hm0,hid,hlv⟩
def putW:List (Nat×O)->H->H
 | [],h=>h
 |(p,o)::W,h=>putW W (h.set p o)
theorem aBo(f:Nat->Option Nat):∀(pos:List Nat) (h os:H),iR f h pos os=putW (pos.zip (os.map (mapO f))) h
 | [],h,os=>by simp[iR,putW]
 |p::ps,h,[]=>by simp[iR,putW]
 |p::ps,h,o::os=>by simp only[iR,Af,List.zip_cons_cons,putW];exact aBo f ps _ os
theorem YU:∀(W:List (Nat×O)) (h:H),(putW W h).length=h.length
 | [],h=>rfl
 |(p,o)::W,h=>by simp only[putW];rw[YU W];simp
def wrW(id:Nat):List (Nat×O)->Option O->Option O
 | [],v=>v
 |(p,o)::W,v=>wrW id W (if p=id then v.map (fun _=>o)else v)
theorem aA9(id:Nat):∀(W:List (Nat×O)) (h:H),(putW W h)[id]? =wrW id W h[id]?
 | [],h=>rfl
 |(p,o)::W,h=>by
  simp only[putW,wrW];rw[aA9 id W]
  by_cases e:p=id
  ·grind
  ·simp[e]
theorem aKL(id:Nat):∀(W:List (Nat×O)) (v:Option O),id∉W.map (·.1)->wrW id W v=v
 | [],v,_=>rfl
 |(p,o)::W,v,h=>by
  simp only[Af,Au,not_or]at h;simp only[wrW];rw[if_neg (Ne.symm h.1)];exact aKL id W v h.2
mutual
theorem aLU{ord more:List Nat}:∀a:A,(∀i∈idsA a,i∈ord)->mapA (fun(k:Nat)=>(ord++more)[k]?) (mapA (aH ord) a)=a
 |.d x,_=>by simp only[mapA]
 |.sl id gen off len,h=>by
  obtain⟨k,hk⟩:=bZ (h id (by simp[idsA]));simp only[mapA,hk,Be (BB hk),bC hk]
 |.ptr id gen off,h=>by
  obtain⟨k,hk⟩:=bZ (h id (by simp[idsA]));simp only[mapA,hk,Be (BB hk),bC hk]
 |.mp id,h=>by
  obtain⟨k,hk⟩:=bZ (h id (by simp[idsA]));simp only[mapA,hk,Be (BB hk),bC hk]
 |.clo g caps,h=>by simp only[mapA];rw[pS caps (fun i hi=>h i (by simpa only[idsA]using hi))]
 |.agg cs,h=>by simp only[mapA];rw[pS cs (fun i hi=>h i (by simpa only[idsA]using hi))]
 |.tup cs,h=>by simp only[mapA];rw[pS cs (fun i hi=>h i (by simpa only[idsA]using hi))]
 |.junk,_=>by simp only[mapA]
theorem pS{ord more:List Nat}:∀asx:List A,(∀i∈idsL asx,i∈ord)->aE (fun(k:Nat)=>(ord++more)[k]?) (aE (aH ord) asx)=asx
 | [],_=>by simp only[aE]
 |a::asx,h=>by
  simp only[idsL,Aq]at h;simp only[aE];rw[aLU a (fun i hi=>h i (.inl hi)),pS asx (fun i hi=>h i (.inr hi))]
end
def aLu:O->List Nat
 |.box cs=>idsL cs
 |.vec cs _ _=>idsL cs
 |_=>[]
theorem F8{h:H}{ord ids:List Nat}(hc:closed h ord ids=true):(∀i∈ids,i∈ord)/\∀i∈ord,∀o,h[i]? =some o->∀j∈aLu o,j∈ord:=by
 simp only[closed,Aj,Bh,Dq]at hc;refine⟨hc.1,fun i hi o ho j hj=> ?_⟩;have:=hc.2 i hi;rw[ho]at this
 cases o with
 |box cs=>
  simp only[Bh,Dq]at this;exact this j hj
 |vec cs e g=>
  simp only[Bh,Dq]at this;exact this j hj
 |_=>simp[aLu]at hj
theorem aCz{h:H}{ord ids more:List Nat}(hc:closed h ord ids=true){i:Nat}{o:O}(hi:i∈ord)(ho:h[i]? =some o):mapO (fun(k:Nat)=>(ord++more)[k]?) (mapO (aH ord) o)=o:=by
 cases o with
 |box cs=>simp only[mapO];rw[pS cs ((F8 hc).2 i hi _ ho)]
 |vec cs e g=>simp only[mapO];rw[pS cs ((F8 hc).2 i hi _ ho)]
 |_=>simp only[mapO]
theorem WV{h:H}{ord ids:List Nat}(hc:closed h ord ids=true){i:Nat}{o:O}(hi:i∈ord)(ho:h[i]? =some o):mapO (fun(k:Nat)=>ord[k]?) (mapO (aH ord) o)=o:=by
 simpa only[Ah]using aCz (more:=[]) hc hi ho
theorem aO2{h:H}{ord ids:List Nat}(hc:closed h ord ids=true)(hn:ord.Nodup)(hl:∀i∈ord,i<h.length):iR (fun(k:Nat)=>ord[k]?) h ord (pack h ord)=h:=by
 apply Cj;intro id;rw[UZ _ ord h _ id hn hl (by simp[pack])]
 cases hp:aH ord id with
 |none=>rfl
 |some k=>
  simp only[];have hm:=LW hp;obtain⟨o,ho⟩:∃o,h[id]? =some o:=⟨h[id]'(hl id hm),Ae _⟩
  rw[iI (bC hp) ho,ho,Ay,WV hc hm ho]
theorem lP{h h':H}{S:List Nat}(hs:∀i∈S,h[i]? =h'[i]?)(hc:∀i∈S,∀o,h[i]? =some o->∀j∈aLu o,j∈S):∀(n:Nat) (todo acc:List Nat),(∀i∈todo,i∈S)->aD n h' todo acc=aD n h todo acc
 |0,_,_,_=>rfl
 |_+1,[],_,_=>rfl
 |n+1,i::todo,acc,ht=>by
  have hi:=ht i sm;have ht':∀j∈todo,j∈S:=by grind
  simp only[aD];rw[<-hs i hi]
  split
  ·exact lP hs hc n _ _ ht'
  ·split
   ·rename_i cs ho
    exact lP hs hc n _ _ fun j hj=>(Aq.1 hj).elim (ht' j) (hc i hi _ ho j)
   ·rename_i cs _ _ ho
    exact lP hs hc n _ _ fun j hj=>(Aq.1 hj).elim (ht' j) (hc i hi _ ho j)
   ·exact lP hs hc n _ _ ht'
   ·exact lP hs hc n _ _ ht'
   ·exact lP hs hc n _ _ ht'
theorem VA{h h':H}{S:List Nat}(hs:∀i∈S,h[i]? =h'[i]?):pack h' S=pack h S:=by
 exact List.map_congr_left fun i hi=>by rw[Aa,Aa,hs i hi]
theorem UM{α:Type}{f g:α->Bool}:∀ {l:List α},(∀x∈l,f x=g x)->l.all f=l.all g
 | [],_=>rfl
 |x::l,h=>by simp only[Bp];rw[h x sm,UM fun y hy=>h y (by simp[hy])]
theorem MZ{h h':H}{S ids:List Nat}(hs:∀i∈S,h[i]? =h'[i]?):closed h' S ids=closed h S ids:=by
 unfold closed
 congr 1
 exact UM fun i hi=>by rw[hs i hi]
def GW(h:H)(i:Nat):Bool:=
 match h[i]? with
 |some .void=>true
 |_=>false
theorem aDe{h:H}{i:Nat}:GW h i=true↔h[i]? =some .void:=by
 unfold GW;split
 ·grind
 ·grind
def xE(E:Env)(call:aX)(thaw:List Nat)(base k:Nat)(o:Oper)(vs:List A)(h:H)(ord:List Nat):Option (A×List (Nat×O)×Foot):=
 match evOp E call thaw (pack h ord) o (aE (aH ord) vs)with
 |some (a,h1)=>
  if decide (h1.length=ord.length+k)&&closed h ord (idsL vs)&&(List.range' base k).all (GW h)then
   if iU E o.op vs&&k==0 then some (mapA (fun(j:Nat)=>ord[j]?) a,[],{ ids:=ord,ro:=true})
   else some (mapA (fun(j:Nat)=>(ord++List.range' base k)[j]?) a,((ord++List.range' base k).zip (h1.map (mapO (fun(j:Nat)=>(ord++List.range' base k)[j]?)))).filter (fun p=>(wrOf E o.op vs ord++List.range' base k).contains p.1),{ ids:=ord++List.range' base k,ro:=false,wr:=wrOf E o.op vs ord++List.range' base k})
  else none
 |none=>none
def jO(E:Env)(call:aX)(thaw:List Nat)(ops:List Oper)(base k:Nat)(o:Oper)(s:List A)(h:H):Option (A×List (Nat×O)×Foot):=
 match qM ops s o with
 |some true=>match bX s (opds o.op)with
  |some vs=>
   if rL o.op then
    match evOp E call thaw h o vs with
    |some (a,_)=>some (a,[],{})
    |none=>none
   else if tF o.op then
    match evOp E call thaw h o vs with
    |some (a,_)=>some (a,[],{ ids:=ids0 vs,ro:=true})
    |none=>none
   else xE E call thaw base k o vs h (aD aF h (idsL vs) [])
  |none=>none
 |some false=>some (.d .undef,[],{})
 |none=>none
theorem GN{vs:List A}{k k':A->Option (A×H)}{g:A×H->A×H}(h:∀a,k' a=(k a).map g):one vs k'=(one vs k).map g:=by
 unfold one;split
 ·exact h _
 ·rfl
theorem aKY{vs:List A}{k k':A->A->Option (A×H)}{g:A×H->A×H}(h:∀a b,k' a b=(k a b).map g):two vs k'=(two vs k).map g:=by
 unfold two;split
 ·exact h _ _
 ·rfl
theorem aJT{a:A}{k k':Int->Option (A×H)}{g:A×H->A×H}(h:∀i,k' i=(k i).map g):iH a k'=(iH a k).map g:=by
 unfold iH;split
 ·exact h _
 ·rfl
theorem BK(h h2:H)(x:Option A):x.map (fun r=>(r,h2))=(x.map fun r=>(r,h)).map (fun r=>(r.1,h2)):=by cases x<;>rfl
theorem VY{E:Env}{call:aX}{thaw:List Nat}{o:Oper}{vs:List A}(hp:rL o.op=true)(h h2:H):evOp E call thaw h2 o vs=(evOp E call thaw h o vs).map (fun r=>(r.1,h2)):=by
 obtain⟨dst,op,type,pos,after,guard⟩:=o
 cases op<;>simp only[rL,Ap]at hp<;>simp only[evOp]
 case move x=>exact GN fun a=>rfl
 case pick a b c=>unfold M9;split<;>rfl
 case build t ps=>exact BK h h2 _
 case nilCheck x=>exact GN fun a=>by unfold lU;split<;>rfl
 case binOp=>
  refine aKY fun a b=> ?_;unfold cA
  split
  ·rfl
  ·split
   ·rfl
   ·exact BK h h2 _
 case unOp=>exact GN fun a=>BK h h2 _
 case makeFunc f a b=>
  unfold NK;split
  ·grind
  ·rfl
 case fieldAddr t x f=>exact GN fun a=>by cases cF E.P t f<;>first|rfl|exact BK h h2 _
 case field t x f=>
  refine GN fun a=> ?_;unfold aDC;split
  ·exact BK h h2 _
  ·rfl
 case index t x y=>exact aKY fun a b=>aJT fun i=>BK h h2 _
 case extract x i=>
  refine GN fun a=> ?_;unfold xW;split
  ·grind
  ·rfl
theorem XG{h h1:H}{x:Option A}{a:A}(he:x.map (fun r=>(r,h))=some (a,h1)):h1=h:=by
 cases x with
 |none=>grind
 |some v=>grind
theorem aNZ{E:Env}{call:aX}{thaw:List Nat}{o:Oper}{vs:List A}(hp:rL o.op=true){h h1:H}{a:A}(he:evOp E call thaw h o vs=some (a,h1)):h1=h:=by
 have:=VY (E:=E) (call:=call) (thaw:=thaw) (vs:=vs) hp h h;rw[he]at this
 simpa using this
theorem aNB{E:Env}{call:aX}{thaw:List Nat}{o:Oper}{vs:List A}{f:Nat->Option Nat}(hp:iU E o.op vs=true){h h1:H}{a:A}(he:evOp E call thaw h o (aE f vs)=some (a,h1)):h1=h:=by
 obtain⟨dst,op,type,pos,after,guard⟩:=o
 cases op<;>simp only[iU,Ap]at hp<;>simp only[evOp]at he
 case load t x=>
  obtain⟨b,_,he⟩:=gF he;exact XG he
 case convert s d x=>
  obtain⟨b,_,he⟩:=gF he;unfold gE at he
  split at he<;>try (cases he;rfl)
  ·rename_i hd _
   unfold cN at hp;rw[hd]at hp;cases hp
  ·cases he
  ·repeat' split at he
   all_goals first
    |(cases he;done)
    |(simp only[Az,Prod.mk.injEq]at he;obtain⟨_,_,_,rfl⟩:=he;rfl)
    |(rename_i hq;simp at hq;done)
  ·cases he
 case slice t x lo hi mx=>
  split at he
  ·unfold A5 at he
   split at he<;>first
    |(cases he;done)
    |exact XG he
  ·cases he
 case indexAddr t x y=>
  obtain⟨a1,b,_,he⟩:=mP he;obtain⟨_,i,_,he⟩:=jS he;exact XG he
 case call c=>
  have mode:∀(f:FuncId) (args:List A),(E.hint f).mode=1->bV call E.hint h f args=some (a,h1)->h1=h:=by
   intro f args hm hcall;unfold bV at hcall;rw[hm]at hcall;simp only[]at hcall
   split at hcall
   ·split at hcall
    ·split at hcall
     ·cases hcall;rfl
     ·cases hcall
    ·cases hcall
   ·cases hcall
  unfold fQ at he
  cases hcal:c.callee with
  |invoke r m=>rw[hcal]at he;cases he
  |builtin b=>
   rw[hcal]at he hp
   cases b<;>simp only[Ap]at hp
   case len=>
    simp only[cQ]at he
    split at he
    ·unfold M7 at he
     split at he
     ·cases he;rfl
     ·cases he
    ·exact XG he
    ·rename_i hq _ _;cases hq
    ·cases he
  |value fv=>
   rw[hcal]at he hp;simp only[]at he
   cases vs with
   |nil=>simp at hp
   |cons g vs=>
    simp only[aE]at he
    cases g with
    |clo f caps=>
     simp only[beq_iff_eq]at hp;simp only[mapA,f5]at he;exact mode f _ hp he
    |d x=>
     cases x with
     |fn f caps=>
      simp only[beq_iff_eq]at hp;simp only[mapA,f5]at he;exact mode f _ hp he
     |_=>simp at hp
    |_=>simp at hp
theorem aKk{P:Program}{h h2 h1:H}{tys:List TypeId}{args:List A}{a:A}(hs:∀i∈ids0 args,∀x,h[i]? =some x->h2[i]? =some x)(he:cQ P h .len tys args=some (a,h1)):h1=h/\cQ P h2 .len tys args=some (a,h2):=by
 match tys,args,he with
 |t::ts,[x],he=>
  cases x with
  |mp id=>
   simp only[cQ,M7]at he|-
   split at he
   ·rename_i kt et es hu hid
    cases he;rw[hu]
    refine⟨rfl,?_⟩;simp only[hs id (by simp[ids0,idsA]) _ hid]
   ·cases he
  |_=>
   simp only[cQ]at he|-
   cases hx:aLen P t _ with
   |none=>grind
   |some y=>grind
 | [],_,he=>simp[cQ]at he
 |_::_,[],he=>simp[cQ]at he
 |_::_,_::_::_,he=>simp[cQ]at he
theorem aSg{P:Program}{h h2:H}{t:TypeId}{x:D}{l u:Option Int}:jR P h t (.d x) l u=jR P h2 t (.d x) l u:=by
 unfold jR
 cases P.underlying t with
 |none=>rfl
 |some td=>grind
theorem IL{E:Env}{call:aX}{thaw:List Nat}{o:Oper}{vs:List A}(hp:tF o.op=true){h h2 h1:H}{a:A}(hs:∀i∈ids0 vs,∀x,h[i]? =some x->h2[i]? =some x)(he:evOp E call thaw h o vs=some (a,h1)):h1=h/\evOp E call thaw h2 o vs=some (a,h2):=by
 have frame:∀ {x y:Option A},x.map (fun r=>(r,h))=some (a,h1)->(x=some a->y=some a)->h1=h/\y.map (fun r=>(r,h2))=some (a,h2):=by
  intro x y hx hy
  cases x with
  |none=>cases hx
  |some z=>cases hx;rw[hy rfl];exact⟨rfl,rfl⟩
 have look:∀ {b:A} {id:Nat} {x:O},vs.head? =some b->idsA b=[id]->h[id]? =some x->h2[id]? =some x:=by
  intro b id x hb hid hx;refine hs id ?_ x hx
  cases vs with
  |nil=>cases hb
  |cons c l=>cases hb;simp only[ids0,hid,Bi]
 obtain⟨dst,op,type,pos,after,guard⟩:=o
 cases op<;>simp only[tF,Ap]at hp<;>simp only[evOp]at he|-
 case load t x=>
  obtain⟨b,rfl,he⟩:=gF he;simp only[one];refine frame he fun hx=> ?_;unfold B5 at hx|-
  have hr:∀run,m7 h b=some run->m7 h2 b=some run:=by
   intro run hrun
   cases b with
   |ptr id gen off=>
    simp only[m7]at hrun|-
    cases hg:h[id]? with
    |none=>rw[hg]at hrun;cases hrun
    |some x=>rw[hg]at hrun;rw[look (b:=.ptr id gen off) rfl rfl hg];exact hrun
   |d x=>cases x<;>simpa only[m7]using hrun
   |_=>simp[m7]at hrun
  cases hrn:m7 h b with
  |none=>rw[hrn]at hx;cases hx
  |some run=>rw[hrn]at hx;rw[hr run hrn];exact hx
 case slice t x lo hi mx=>
  split at he
  ·rename_i hmx
   rw[if_pos hmx]
   have key:∀ {b:A} {l u:Option Int},vs.head? =some b->jR E.P h t b l u=some a->jR E.P h2 t b l u=some a:=by
    intro b l u hb hx
    cases b with
    |sl id gen off len=>
     unfold jR at hx|-
     cases hu:E.P.underlying t with
     |none=>rw[hu]at hx;cases hx
     |some td=>
      rw[hu]at hx
      cases td<;>simp only[]at hx|- <;>try (cases hx;done)
      cases hg:h[id]? with
      |none=>rw[hg]at hx;cases hx
      |some x=>rw[hg]at hx;rw[look hb rfl hg];exact hx
    |d x=>
     rw[aSg (h2:=h)];exact hx
    |_=>
     unfold jR at hx
     cases hu:E.P.underlying t with
     |none=>rw[hu]at hx;cases hx
     |some td=>rw[hu]at hx;cases td<;>cases hx
   unfold A5 at he|-
   split at he
   ·exact frame he (key rfl)
   ·exact frame he (key rfl)
   ·exact frame he (key rfl)
   ·exact frame he (key rfl)
   ·cases he
  ·cases he
 case indexAddr t x y=>
  obtain⟨b,c,rfl,he⟩:=mP he;obtain⟨kd,i,rfl,he⟩:=jS he;simp only[two,iH];refine frame he fun hx=> ?_;unfold oY at hx|-
  cases hu:E.P.underlying t with
  |none=>rw[hu]at hx;cases hx
  |some td=>
   rw[hu]at hx
   cases td<;>simp only[]at hx|- <;>try (first|(cases hx;done)|(exact hx;done))
   cases b with
   |sl id gen off len=>
    simp only[]at hx|-
    cases hg:h[id]? with
    |none=>rw[hg]at hx;cases hx
    |some x=>rw[hg]at hx;rw[look (b:=.sl id gen off len) rfl rfl hg];exact hx
   |d x=>cases x<;>first|exact hx|cases hx
   |_=>cases hx
 case lookup t x y ok=>
  obtain⟨b,c,rfl,he2⟩:=mP he;clear he;simp only[two];unfold XH at he2|-;have he:=he2;clear he2
  split at he
  ·rename_i kt et id k hmt
   split at he
   ·rename_i es z hid hz
    simp only[look (b:=.mp id) rfl rfl hid,hz]
    split at he
    ·rename_i hc
     rw[if_pos hc]
     split at he
     ·rename_i r hr
      cases he;exact⟨rfl,by simp only[]⟩
     ·cases he
    ·cases he
   ·cases he
  ·cases he
 case call c=>
  obtain⟨callee,args,tys⟩:=c
  cases callee with
  |invoke r m=>simp[]at hp
  |value v=>simp[]at hp
  |builtin b=>
   cases b<;>simp only[Ap]at hp
   simp only[fQ]at he|-;exact aKk hs he
theorem oJ:∀(n:Nat) (h:H) (todo acc:List Nat),(∀i∈acc,∃o,h[i]? =some o/\o≠.void)->∀i∈aD n h todo acc,∃o,h[i]? =some o/\o≠.void
 |0,_,_,_,hn=>by simpa only[aD]using hn
 |_+1,_,[],_,hn=>by simpa only[aD]using hn
 |n+1,h,i::todo,acc,hn=>by
  simp only[aD]
  split
  ·exact oJ n h todo acc hn
  ·have key:∀o,h[i]? =some o->o≠.void->∀j∈acc++[i],∃o,h[j]? =some o/\o≠.void:=by
    intro o ho hne j hj;simp only[Aq,Bi]at hj
    rcases hj with hj|rfl
    ·grind
    ·grind
   split
   ·rename_i cs ho;exact oJ n h _ _ (key _ ho sm)
   ·rename_i cs _ _ ho;exact oJ n h _ _ (key _ ho sm)
   ·exact oJ n h _ _ hn
   ·rename_i o _ _ hne ho;exact oJ n h _ _ (key _ ho (fun e=>hne e))
   ·exact oJ n h _ _ hn
theorem aN3{h:H}{ids:List Nat}{base k:Nat}(hv:∀i∈List.range' base k,h[i]? =some .void):(aD aF h ids []++List.range' base k).Nodup:=by
 rw[List.nodup_append];refine⟨bT _ _ _ _ sm,List.nodup_range',fun a ha b hb e=> ?_⟩;subst e;obtain⟨o,ho,hne⟩:=oJ aF h ids [] sm a ha;rw[hv a hb]at ho;cases ho;exact hne rfl
theorem LS{α:Type}{l:List α}{i j:Nat}{x:α}(h:i≠j):(l.set i x)[j]? =l[j]?:=Dl h
theorem EG{P:Program}{h h1:H}{t:TypeId}{s x a:A}(he:j2 P h t s x=some (a,h1)){j:Nat}(hj:j<h.length)(hs:∀id gen off len,s=.sl id gen off len->id≠j):h1[j]? =h[j]?:=by
 unfold j2 at he
 repeat' split at he
 all_goals first
  |(cases he;done)
  |(cases he;first
    |exact Be hj
    |exact LS (hs _ _ _ _ rfl))
theorem RR{P:Program}{h h1:H}{t:TypeId}{id gen off len:Nat}{x a:A}(he:oS P h t id gen off len x=some (a,h1)){j:Nat}(hs:id≠j):h1[j]? =h[j]?:=by
 unfold oS at he
 repeat' split at he
 all_goals first
  |(cases he;done)
  |(cases he;exact LS hs)
theorem aJv{P:Program}{h h1:H}{t:TypeId}{s x a:A}(he:pV P h t s x=some (a,h1)){j:Nat}(hj:j<h.length)(hs:∀id gen off len,s=.sl id gen off len->id≠j):h1[j]? =h[j]?:=by
 unfold pV at he
 split at he
 ·rename_i id gen off len
  have hne:=hs _ _ _ _ rfl
  split at he
  ·exact RR he hne
  ·split at he
   ·split at he
    ·rw[RR he hne,LS hne]
    ·exact EG he hj hs
   ·exact EG he hj hs
 ·exact EG he hj hs
theorem O1:∀(cs:List A) (h:H) (j:Nat),j<h.length->(aY h cs).2[j]? =h[j]?/\h.length<=(aY h cs).2.length
 | [],h,j,_=>by simp[aY]
 |c::cs,h,j,hj=>by
  by_cases hc:c=.d .nils
  ·subst hc;have:=O1 cs (h++[.arr [] 0 0]) j (by simp;omega);simp only[Ai,Ac,Ab]at this;simp only[aY];exact⟨this.1.trans (Be hj),by omega⟩
  ·have e1:(aY h (c::cs)).2=(aY h cs).2:=by
    rw[aY.eq_def]
    split
    ·grind
    ·grind
    ·grind
   rw[e1];exact O1 cs h j hj
theorem aFC{h h1:H}{v a:A}(he:aNew h v=some (a,h1)){j:Nat}(hj:j<h.length):h1[j]? =h[j]?:=by
 unfold aNew at he
 split at he
 ·cases he;obtain⟨h2,h3⟩:=O1 (aU v) h j hj
  rw[Be om,h2]
 ·cases he
theorem aDV{P:Program}{h:H}{tys:List TypeId}{args:List A}{r:A×H}(he:cQ P h .append tys args=some r):∃t s x,args=[s,x]/\pV P h t s x=some r:=by
 match tys,args,he with
 | [t,u],[s,x],he=>
  simp only[cQ]at he
  split at he
  ·cases he
  ·cases he
  ·grind
 | [],_,he=>simp[cQ]at he
 | [_],_,he=>simp[cQ]at he
 |_::_::_::_,_,he=>simp[cQ]at he
 | [_,_],[],he=>simp[cQ]at he
 | [_,_],[_],he=>simp[cQ]at he
 | [_,_],_::_::_::_,he=>simp[cQ]at he
theorem aOM{E:Env}{call:aX}{thaw:List Nat}{o:Oper}{vs:List A}{h h1:H}{ord:List Nat}{a:A}(he:evOp E call thaw (pack h ord) o (aE (aH ord) vs)=some (a,h1)){j i:Nat}(hj:ord[j]? =some i)(hi:i∉wrOf E o.op vs ord):h1[j]? =(pack h ord)[j]?:=by
 have hjl:j<(pack h ord).length:=by
  simp only[pack,Ar];exact(At.1 hj).1
 have hio:i∈ord:=Bo hj;obtain⟨dst,op,type,pos,after,guard⟩:=o
 have lent:∀(f:FuncId) (args:List A),i∉(if(E.hint f).mode==3 then []else ord)->bV call E.hint (pack h ord) f args=some (a,h1)->h1[j]? =(pack h ord)[j]?:=by
  intro f args hm hc
  split at hm
  ·rename_i hm3
   unfold bV at hc;rw[beq_iff_eq.1 hm3]at hc;simp only[]at hc
   split at hc
   ·split at hc
    ·split at hc
     ·cases hc;exact Be hjl
     ·cases hc
    ·cases hc
   ·cases hc
  ·exact absurd hio hm
 cases op<;>simp only[evOp]at he<;>first
  |exact absurd hio hi
  |skip
 case assign x=>
  obtain⟨b,_,he⟩:=gF he;unfold HJ at he
  repeat' split at he
  all_goals (cases he;first|rfl|exact Be hjl)
 case alloc t=>
  cases hz:cX E.P t with
  |none=>rw[hz]at he;cases he
  |some z=>rw[hz]at he;exact aFC he hjl
 case box t x=>
  obtain⟨b,_,he⟩:=gF he;exact aFC he hjl
 case makeSlice t x y=>
  obtain⟨a1,b,_,he⟩:=mP he;obtain⟨_,l,_,he⟩:=jS he;obtain⟨_,c,_,he⟩:=jS he
  split at he
  ·unfold G7 at he
   repeat' split at he
   all_goals first
    |(cases he;done)
    |(cases he;exact Be hjl)
  ·unfold fG at he
   repeat' split at he
   all_goals first
    |(cases he;done)
    |(cases he;exact Be hjl)
 case makeMap t y=>
  split at he
  ·cases he;exact Be hjl
  ·cases he
 case call c=>
  obtain⟨callee,args,tys⟩:=c;unfold fQ at he
  cases callee with
  |invoke r m=>cases he
  |builtin b=>
   simp only[]at he
   cases b<;>first
    |(simp only[wrOf]at hi;exact absurd hio hi)
    |skip
   cases vs with
   |nil=>simp only[wrOf]at hi;exact absurd hio hi
   |cons s vs=>
    simp only[wrOf]at hi;simp only[aE]at he;obtain⟨t,s',x,hargs,he⟩:=aDV he;simp only[List.cons.injEq]at hargs;refine aJv he hjl fun id gen off len hsl=> ?_;rw[<-hargs.1]at hsl
    cases s with
    |sl id0 g0 o0 l0=>
     simp only[mapA]at hsl
     split at hsl
     ·rename_i k hk
      cases hsl;intro e
      subst e;have:=bC hk;rw[hj]at this;cases this;exact hi (by simp[idsA])
     ·cases hsl
    |ptr id0 g0 o0=>
     simp only[mapA]at hsl
     split at hsl<;>cases hsl
    |mp id0=>
     simp only[mapA]at hsl
     split at hsl<;>cases hsl
    |_=>simp only[mapA]at hsl;cases hsl
  |value fv=>
   simp only[]at he
   cases vs with
   |nil=>cases he
   |cons g vs=>
    simp only[aE]at he
    cases g with
    |clo f caps=>
     simp only[mapA,f5]at he;exact lent f _ (by simpa only[wrOf]using hi) he
    |d x=>
     cases x with
     |fn f caps=>
      simp only[mapA,f5]at he;exact lent f _ (by simpa only[wrOf]using hi) he
     |_=>simp only[wrOf]at hi;exact absurd hio hi
    |_=>simp only[wrOf]at hi;exact absurd hio hi
theorem U0{q:Nat->Bool}:∀(W:List (Nat×O)) (h:H),(W.map (·.1)).Nodup->(∀i o,(i,o)∈W->q i=false->h[i]? =some o)->putW (W.filter fun p=>q p.1) h=putW W h
 | [],h,_,_=>rfl
 |(i,o)::W,h,hn,hs=>by
  simp only[Af,Dj]at hn
  cases hq:q i with
  |true=>
   simp only[List.filter_cons,hq,if_true,putW];refine U0 W _ hn.2 fun i' o' hm hq'=> ?_;rw[LS (fun e=>hn.1 (Bf.2 ⟨(i',o'),hm,e.symm⟩))];exact hs i' o' (Bc _ hm) hq'
  |false=>
   simp only[List.filter_cons,hq,Ap,if_false,putW];have h1:=hs i o sm hq
   have h2:h.set i o=h:=by
    apply Cj;intro j;obtain⟨hl,he⟩:=At.1 h1
    by_cases e:i=j
    ·grind
    ·simp[e]
   rw[h2];exact U0 W h hn.2 fun i' o' hm hq'=>hs i' o' (Bc _ hm) hq'
theorem aKM{E:Env}{call:aX}{thaw:List Nat}{o:Oper}{vs:List A}{h h1:H}{ord:List Nat}{a:A}{base k:Nat}(he:evOp E call thaw (pack h ord) o (aE (aH ord) vs)=some (a,h1))(hcl:closed h ord (idsL vs)=true)(hn:(ord++List.range' base k).Nodup)(hlen:h1.length=ord.length+k)(hl:∀i∈ord,i<h.length):
  putW (((ord++List.range' base k).zip (h1.map (mapO (fun(j:Nat)=>(ord++List.range' base k)[j]?)))).filter fun p=>(wrOf E o.op vs ord++List.range' base k).contains p.1) h=putW ((ord++List.range' base k).zip (h1.map (mapO (fun(j:Nat)=>(ord++List.range' base k)[j]?)))) h:=by
 refine U0 (q:=fun i=>(wrOf E o.op vs ord++List.range' base k).contains i) _ h ?_ ?_
 ·rw[List.map_fst_zip (by simp;omega)];exact hn
 ·intro i x hm hq;have hq:i∉wrOf E o.op vs ord++List.range' base k:=by grind
  simp only[Aq,not_or]at hq;obtain⟨j,hj⟩:=List.getElem?_of_mem hm;rw[List.getElem?_zip_eq_some]at hj;obtain⟨hj1,hj2⟩:=hj;have hjo:ord[j]? =some i:=by grind
  have hio:=Bo hjo;rw[Bb,aOM he hjo hq.1]at hj2;have hi:=hl i hio;have hg:h[i]? =some h[i]:=by grind
  have hp:(pack h ord)[j]? =some (mapO (aH ord) h[i]):=by
   simp only[pack,Bb,hjo,Ay,Aa,hg,Bd]
  rw[hp]at hj2;rw[hg,<-hj2]
  congr 1
  exact(aCz hcl hio hg).symm
section
variable{E:Env}{call:aX}
theorem aOb(hE:EnvOK E)(hc:j8 G E.P call){h:H}{ρ:Rho}{w:World}{I:Nat->Prop}{thaw:List Nat}{ops:List Oper}{base k:Nat}{o:Oper}{s:List A}{x:A}{W:List (Nat×O)}{fp:Foot}{act:Act}(he:jO E call thaw ops base k o s h=some (x,W,fp))(r:Rel G h ρ w I)(hs:ARv h ρ w I s act.tmps.toList)
  (K:Act->World->Prop) (Q:Exit->Act->World->Prop) (hK:∀act' ρ' w' I',Step G h ρ w I (putW W h) ρ' w' I'->ARv (putW W h) ρ' w' I' (aPut s o.dst x) act'.tmps.toList->act'.defers=act.defers->K act' w'):
  if Region.wanted o (yielded ops.toArray act.tmps)then o.wp E.P act w K Q else K (act.put o.dst undef) w:=by
 unfold jO at he
 split at he
 ·rename_i hw
  rw[XL hw hs,if_pos rfl]
  split at he
  ·rename_i vs hvs
   have ha:=VG hs hvs
   split at he
   ·rename_i hp
    split at he
    ·rename_i x1 h1 hop
     cases he;have hh:=aNZ hp hop
     subst hh;exact NM hE hc hop r ha K Q fun v ρ' w' I' s1 hx=>hK _ ρ' w' I' s1 (HA (fW s1.ext s _ hs) hx) (n9 _ _ _)
    ·cases he
   split at he
   ·rename_i hp
    split at he
    ·rename_i x1 h1 hop
     cases he;have hh:=(IL hp (h2:=h) (fun _ _ _ hx=>hx) hop).1
     subst hh;exact NM hE hc hop r ha K Q fun v ρ' w' I' s1 hx=>hK _ ρ' w' I' s1 (HA (fW s1.ext s _ hs) hx) (n9 _ _ _)
    ·cases he
   ·unfold xE at he
    split at he
    ·rename_i x1 h1 hop
     split at he
     ·rename_i hcond
      simp only[Aj,decide_eq_true_eq,Bh]at hcond;obtain⟨⟨hlen,hcl⟩,hv⟩:=hcond;have hv:∀i∈List.range' base k,h[i]? =some .void:=fun i hi=>aDe.1 (hv i hi);have hl:=j5 aF h (idsL vs) [] sm;have hn:=aN3 (ids:=idsL vs) hv;have hno:=(List.nodup_append.1 hn).1;have hr:=aAz r hno hl
      have hren:∀id k,aH (aD aF h (idsL vs) []) id=some k->i0 h ρ w I id (pack h (aD aF h (idsL vs) [])) (sub (aD aF h (idsL vs) []) ρ) w I k:=fun id k hk=>
       mG (fun o ho=>iI (bC hk) ho) (by simp[sub,bC hk])
      have hleaf:=NM hE hc hop hr (A9 (kV w I) hren vs _ ha)
      split at he
      ·rename_i hro
       cases he;simp only[Aj,beq_iff_eq]at hro
       have hh:=aNB hro.1 hop;refine hleaf K Q fun v ρ' w' I' s1 hx=> ?_;have hst:=aCy (fresh:=[]) r (by simpa using hno) hl sm (by rw[hlen,hro.2];simp) s1;rw[hh]at hst hx;simp only[Ah]at hst;rw[aO2 hcl hno hl]at hst;exact hK _ _ w' I' hst.1 (HA (fW hst.1.ext s _ hs) (DL (kV _ _) hst.2 x1 v hx)) (n9 _ _ _)
      ·cases he;refine hleaf K Q fun v ρ' w' I' s1 hx=> ?_
       obtain⟨s2,refs⟩:=aCy r hn hl hv (by simpa using hlen) s1;rw[aBo,<-aKM hop hcl hn hlen hl]at s2 refs;exact hK _ _ w' I' s2 (HA (fW s2.ext s _ hs) (DL (kV _ _) refs x1 v hx)) (n9 _ _ _)
     ·cases he
    ·cases he
  ·cases he
 ·rename_i hw
  rw[XL hw hs];cases he;exact hK _ ρ w I (.refl r) (HA hs (by simp only[AR,DR])) (n9 _ _ _)
 ·cases he
theorem aPM:∀(op:Op) (x:Operand),x∈opds op->x∈op.operands:=by
 intro op x hx
 cases op<;>simp only[opds,Op.operands]at hx|- <;>try (simp at hx;done)
 case slice t y lo hi mx=>
  simp only[Au,Aq,Option.mem_toList]at hx
  cases lo<;>cases hi<;>cases mx<;>simp only[Option.some.injEq,reduceCtorEq,or_false,false_or,Option.toArray_none,Option.toArray_some]at hx|- <;>simp<;>grind
 case call c=>
  simp only[Call.operands]
  cases hcal:c.callee<;>rw[hcal]at hx<;>simp at hx|-
  ·exact hx
  ·exact hx
 all_goals (first|(simpa using hx)|(simp at hx|-;simp_all))
theorem aAd{s s':List A}:∀(xs:List Operand),(∀t,.tmp t∈xs->s[t]? =s'[t]?)->bX s xs=bX s' xs
 | [],_=>rfl
 |x::xs,h=>by
  simp only[bX];rw[aAd xs fun t ht=>h t (by simp[ht])]
  have:c8 s x=c8 s' x:=by
   cases x with
   |tmp t=>
    simp only[c8];rw[Aa,Aa,h t sm]
   |_=>rfl
  rw[this]
theorem aLI{ops:List Oper}{s s':List A}{o:Oper}(h:∀t∈o.looksAt ops.toArray,s[t]? =s'[t]?):qM ops s o=qM ops s' o:=by
 unfold qM
 cases hg:o.guard with
 |none=>rfl
 |some jw=>
  obtain⟨j,want⟩:=jw;simp only[]
  cases hd:(ops[j]?).bind (·.dst)with
  |none=>rfl
  |some d=>
   simp only[];rw[h d (by simp[Oper.looksAt,hg,hd])]
theorem YQ{thaw:List Nat}{base k:Nat}{o:Oper}{vs:List A}{h:H}{ord:List Nat}{a:A}{W:List (Nat×O)}{fp:Foot}(he:xE E call thaw base k o vs h ord=some (a,W,fp)):
  (∀i∈ord,i∈fp.ids)/\closed h ord (idsL vs)=true/\(∀i∈List.range' base k,i∈fp.ids)/\(fp.ro=true->W=[])/\∀i∈W.map (·.1),i∈fp.ids/\i∈fp.wr:=by
 unfold xE at he
 split at he
 ·split at he
  ·rename_i hcond
   simp only[Aj]at hcond
   split at he
   ·grind
   ·cases he;refine⟨fun i hi=>List.mem_append_left _ hi,hcond.1.2,fun i hi=>List.mem_append_right _ hi,by simp,fun i hi=> ?_⟩
    obtain⟨p,hp,rfl⟩:=Bf.1 hi;obtain⟨hp,hw⟩:=Cz.1 hp;exact⟨(List.of_mem_zip hp).1,Dq.1 hw⟩
  ·cases he
 ·cases he
theorem aIS{thaw:List Nat}{base k:Nat}{o:Oper}{vs:List A}{h h':H}{ord:List Nat}(h1:∀i∈ord,h[i]? =h'[i]?)(h2:∀i∈List.range' base k,h[i]? =h'[i]?):xE E call thaw base k o vs h' ord=xE E call thaw base k o vs h ord:=by
 unfold xE;rw[VA h1,MZ h1,UM (f:=GW h') (g:=GW h) fun i hi=>by unfold GW;rw[h2 i hi]]
theorem QR{thaw:List Nat}{ops:List Oper}{base k:Nat}{o:Oper}{s:List A}{h:H}{a:A}{W:List (Nat×O)}{fp:Foot}(he:jO E call thaw ops base k o s h=some (a,W,fp)):
  (fp.ro=true->W=[])/\∀i∈W.map (·.1),i∈fp.ids/\i∈fp.wr:=by
 unfold jO at he
 split at he
 ·split at he
  ·split at he
   ·grind
   ·split at he
    ·grind
    ·exact(YQ he).2.2.2
  ·cases he
 ·grind
 ·cases he
theorem aJy{thaw:List Nat}{ops:List Oper}{base k:Nat}{o:Oper}{s s':List A}{h h':H}{a:A}{W:List (Nat×O)}{fp:Foot}(he:jO E call thaw ops base k o s h=some (a,W,fp))
  (hs:∀t∈o.looksAt ops.toArray,s[t]? =s'[t]?) (hh:∀i∈fp.ids,h[i]? =h'[i]?):jO E call thaw ops base k o s' h'=some (a,W,fp):=by
 unfold jO at he|-;rw[<-aLI hs]
 split at he
 ·rw[<-aAd (opds o.op) fun t ht=>hs t (List.mem_append_left _ (List.mem_filterMap.2 ⟨.tmp t,by simpa using aPM _ _ ht,rfl⟩))]
  split at he
  ·split at he
   ·rename_i hp
    split at he
    ·rename_i x1 h1 hop
     cases he;rw[if_pos hp,VY hp h h',hop]
     rfl
    ·cases he
   ·rename_i hp
    rw[if_neg hp]
    split at he
    ·rename_i hp
     split at he
     ·rename_i x1 h1 hop
      cases he;rw[if_pos hp,(IL hp (fun i hi x hx=>by rw[<-hh i hi];exact hx) hop).2]
     ·cases he
    rename_i hp
    rw[if_neg hp];obtain⟨i1,i2,i3,_⟩:=YQ he;have hb:=F8 i2;rw[lP (S:=aD aF h (idsL _) []) (fun i hi=>hh i (i1 i hi)) hb.2 aF _ [] hb.1];rw[aIS (fun i hi=>hh i (i1 i hi)) (fun i hi=>hh i (i3 i hi))];exact he
  ·cases he
 ·exact he
 ·cases he
end
end Ev
end Go.Proofs.YtahbdkmimmnadaaGreatDoor
namespace Go.Proofs.YtahbdkmimmnadaaGreatDoor
namespace Ev
variable{G:Gnd}
structure Ent where
 dst:Option Tmp
 base:Nat
 k:Nat
 a:A
 wr:List (Nat×O)
 fp:Foot
def runL(L:Nat->Bool):Nat->List Ent->List A->H->List A×H
 |_,[],s,h=>(s,h)
 |k,e::es,s,h=>if L k then runL L (k+1) es (aPut s e.dst e.a) (putW e.wr h)else runL L (k+1) es s h
section loc
variable{X:Type}(u:Ent->X->X)(m:Ent->Bool)
def loc(L:Nat->Bool):Nat->List Ent->X->X
 |_,[],v=>v
 |k,e::es,v=>loc L (k+1) es (if L k then u e v else v)
variable{u m}(hu:∀e v,m e=false->u e v=v)
include hu
theorem D0{L L':Nat->Bool}:∀(es:List Ent) (k:Nat) (v:X),(∀(j:Nat) (e:Ent),es[j]? =some e->m e=true->L (k+j)=L' (k+j))->loc u L k es v=loc u L' k es v
 | [],_,_,_=>rfl
 |e::es,k,v,h=>by
  simp only[loc]
  have h0:(if L k then u e v else v)=(if L' k then u e v else v):=by
   cases hm:m e with
   |false=>grind
   |true=>have:=h 0 e sm hm;simp only[Bm]at this;rw[this]
  rw[h0]
  exact D0 es (k+1) _ fun j e' hj hm=>by
   have:=h (j+1) e' (by simpa using hj) hm;rw[show k+(j+1)=k+1+j from by omega]at this;exact this
theorem QC{L:Nat->Bool}{e:Ent}:∀(es:List Ent) (k i:Nat) (v:X),es[i]? =some e->L (k+i)=false->(∀(j:Nat) (e':Ent),i<j->es[j]? =some e'->m e=true->m e'=true->L (k+j)=false)->
  loc u (fun j=>j==k+i||L j) k es v=u e (loc u L k es v)
 | [],_,_,_,h,_,_=>by simp at h
 |e0::es,k,0,v,h,hL,hlate=>by
  simp only[Ch,Option.some.injEq]at h;subst h;simp only[Bm]at hL;simp only[loc,Bm,beq_self_eq_true,Bool.true_or,if_true,hL,Ap,if_false]
  have e1:loc u (fun j=>j==k||L j) (k+1) es (u e0 v)=loc u L (k+1) es (u e0 v):=by
   refine D0 (m:=fun _=>true) (fun _ _ h=>by cases h) es (k+1) _ fun j e' _ _=> ?_;have:(k+1+j==k)=false:=by grind
   simp[this]
  rw[e1]
  cases hm:m e0 with
  |false=>grind
  |true=>
   have out:∀v,loc u L (k+1) es v=loc u (fun _=>false) (k+1) es v:=fun v=>D0 hu es (k+1) v fun j e' hj hm'=>by
    have:=hlate (j+1) e' om (by simpa using hj) hm hm';rw[show k+(j+1)=k+1+j from by omega]at this;exact this
   have non:∀(es:List Ent) (k:Nat) (v:X),loc u (fun _=>false) k es v=v:=by
    intro es
    induction es with
    |nil=>intro k v;rfl
    |cons e es ih=>intro k v;simp only[loc];exact ih _ _
   rw[out,out,non,non]
 |e0::es,k,i+1,v,h,hL,hlate=>by
  simp only[loc];have hne:(k==k+(i+1))=false:=sm;simp only[hne,Bool.false_or]
  have ih:=QC (L:=L) (e:=e) es (k+1) i (if L k then u e0 v else v) (by simpa using h) (by rw[show k+1+i=k+(i+1)from by omega];exact hL) (fun j e' hj he'=>by
   have:=hlate (j+1) e' om (by simpa using he');rw[show k+(j+1)=k+1+j from by omega]at this;exact this)
  rw[show k+1+i=k+(i+1)from by omega]at ih;exact ih
end loc
def uS(t:Nat)(e:Ent)(v:Option A):Option A:=if e.dst=some t then v.map (fun _=>e.a)else v
def mS(t:Nat)(e:Ent):Bool:=decide (e.dst=some t)
def uW(id:Nat)(e:Ent)(v:Option O):Option O:=wrW id e.wr v
def mW(id:Nat)(e:Ent):Bool:=(e.wr.map (·.1)).contains id
theorem aMI(t:Nat)(e:Ent)(v:Option A)(h:mS t e=false):uS t e v=v:=by
 simp only[mS,decide_eq_false_iff_not]at h;simp only[uS,if_neg h]
theorem aOA(id:Nat)(e:Ent)(v:Option O)(h:mW id e=false):uW id e v=v:=
 aKL id e.wr v (fun hm=>by simp only[mW]at h;rw[Dq.2 hm]at h;cases h)
theorem aH5(s:List A)(dst:Option Tmp)(a:A)(t:Nat):(aPut s dst a)[t]? =if dst=some t then s[t]?.map (fun _=>a)else s[t]?:=by
 cases dst with
 |none=>simp[aPut]
 |some d=>
  simp only[aPut,Cu,Option.some.injEq]
  by_cases e:d=t
  ·grind
  ·simp[e]
theorem xH(L:Nat->Bool)(t:Nat):∀(es:List Ent) (k:Nat) (s:List A) (h:H),(runL L k es s h).1[t]? =loc (uS t) L k es s[t]?
 | [],_,_,_=>rfl
 |e::es,k,s,h=>by
  simp only[runL,loc]
  cases hL:L k with
  |true=>simp only[if_true];rw[xH L t es,aH5];rfl
  |false=>simp only[Ap,if_false];exact xH L t es _ _ _
theorem AZ(L:Nat->Bool)(id:Nat):∀(es:List Ent) (k:Nat) (s:List A) (h:H),(runL L k es s h).2[id]? =loc (uW id) L k es h[id]?
 | [],_,_,_=>rfl
 |e::es,k,s,h=>by
  simp only[runL,loc]
  cases hL:L k with
  |true=>simp only[if_true];rw[AZ L id es,aA9];rfl
  |false=>simp only[Ap,if_false];exact AZ L id es _ _ _
theorem PG{L L':Nat->Bool}:∀(es:List Ent) (k:Nat) (s:List A) (h:H),(∀j,j<es.length->L (k+j)=L' (k+j))->runL L k es s h=runL L' k es s h
 | [],_,_,_,_=>rfl
 |e::es,k,s,h,hl=>by
  simp only[runL];have h0:=hl 0 sm;simp only[Bm]at h0;rw[h0]
  have ih:=fun s h=>PG (L:=L) (L':=L') es (k+1) s h fun j hj=>by
   have:=hl (j+1) (by simpa using hj);rw[show k+(j+1)=k+1+j from by omega]at this;exact this
  rw[ih,ih]
def aL6(E:Env)(call:aX)(thaw:List Nat)(ops:List Oper):List Oper->List Ent->List A->H->Prop
 | [],[],_,_=>True
 |o::os,e::es,s,h=>e.dst=o.dst/\jO E call thaw ops e.base e.k o s h=some (e.a,e.wr,e.fp)/\aL6 E call thaw ops os es (aPut s e.dst e.a) (putW e.wr h)
 |_,_,_,_=>False
theorem aIF{E:Env}{call:aX}{thaw:List Nat}{ops:List Oper}:∀(os:List Oper) (es:List Ent) (k:Nat) (s:List A) (h:H),aL6 E call thaw ops os es s h->
  os.length=es.length/\∀(i:Nat) (o:Oper),os[i]? =some o->∃e,es[i]? =some e/\e.dst=o.dst/\
   jO E call thaw ops e.base e.k o (runL (fun j=>decide (j<k+i)) k es s h).1 (runL (fun j=>decide (j<k+i)) k es s h).2=some (e.a,e.wr,e.fp)
 | [],[],_,_,_,_=>⟨rfl,fun i o h=>by simp at h⟩
 | [],_::_,_,_,_,h=>h.elim
 |_::_,[],_,_,_,h=>h.elim
 |o::os,e::es,k,s,h,ht=>by
  obtain⟨hd,hst,ht⟩:=ht;obtain⟨hl,ih⟩:=aIF os es (k+1) _ _ ht;refine⟨by simp[hl],fun i o' ho=> ?_⟩
  cases i with
  |zero=>
   simp only[Ch,Option.some.injEq]at ho;subst ho;refine⟨e,rfl,hd,?_⟩
   have:runL (fun j=>decide (j<k+0)) k (e::es) s h=(s,h):=by
    rw[PG (L':=fun _=>false) _ _ _ _ fun j _=>by simp]
    have non:∀(es:List Ent) (k:Nat),runL (fun _=>false) k es s h=(s,h):=by
     intro es
     induction es with
     |nil=>intro k;rfl
     |cons e es ih=>intro k;simp only[runL];exact ih _
    exact non _ _
   rw[this];exact hst
  |succ i=>
   obtain⟨e',he',hd',hst'⟩:=ih i o' (by simpa using ho);refine⟨e',by simpa using he',hd',?_⟩;have hlt:decide (k<k+(i+1))=true:=sm;simp only[runL,hlt,if_true];rw[show k+(i+1)=k+1+i from by omega];exact hst'
theorem aF9(acc:List Nat)(j:Nat):∀(es:List Edge) (s0:Nat),(es.foldl (fun s e=>if Region.binds .any e then s|||2^e.on|||acc.getD e.on 0 else s) s0).testBit j=true->
  s0.testBit j=true\/∃e∈es,Region.binds .any e=true/\(j=e.on\/(acc.getD e.on 0).testBit j=true)
 | [],s0,h=>.inl h
 |e::es,s0,h=>by
  simp only[Co]at h
  rcases aF9 acc j es _ h with h1|⟨e',he',h2⟩
  ·grind
  ·grind
def F0(ops:List Oper)(L:Nat->Bool)(m:Nat):Prop:=∀o,ops[m]? =some o->∀e∈o.after,Region.binds .any e=true->L e.on=true
theorem aDb{ops:List Oper}{L:Nat->Bool}(hL:∀m,L m=true->F0 ops L m):∀(os:List Oper) (acc:List Nat),(∀j,os[j]? =ops[acc.length+j]?)->
  (∀m j,(acc.getD m 0).testBit j=true->F0 ops L m->L j=true)->∀m j,((LQ os acc).getD m 0).testBit j=true->F0 ops L m->L j=true
 | [],acc,_,h=>by simpa only[LQ]using h
 |o::os,acc,hops,h=>by
  refine aDb hL os _ (fun j=>by have:=hops (j+1);simp only[Av]at this;rw[this];congr 1;simp;omega) fun m j hb hm=> ?_;rw[Aa]at hb
  by_cases hlt:m<acc.length
  ·grind
  ·by_cases he:m=acc.length
   ·subst he;simp only[List.getElem?_concat_length,Bd]at hb;have ho:ops[acc.length]? =some o:=by have:=hops 0;simp at this;exact this.symm
    rcases aF9 acc j _ _ hb with h0|⟨e,hem,hbd,h1⟩
    ·simp at h0
    ·have hon:=hm o ho e (by simpa using hem) hbd
     rcases h1 with rfl|h1
     ·exact hon
     ·grind
   ·grind
theorem aIy{ops:Array Oper}:∀(fuel k:Nat) (listed:Array Bool),listed.size=ops.size->k+fuel=ops.size->(∀j,j<ops.size->∀d,listed.getD j d=decide (j<k))->Region.lexFrom .any ops fuel k listed=true->
  ∀m o,k<=m->ops[m]? =some o->(∀e∈o.after,Region.binds .any e=true->e.on<m)/\∀j oj,m<j->ops[j]? =some oj->(∀e∈oj.after,Region.binds .any e=true->e.on≠m)->o.apart ops oj=true
 |0,k,listed,hs,hk,_,_=>by
  intro m o hm ho;have:=(Bn.1 ho).1;omega
 |fuel+1,k,listed,hs,hk,hl,h=>by
  simp only[Region.lexFrom,Aj]at h;obtain⟨⟨h1,h2⟩,h3⟩:=h;intro m o hm ho;have hkn:k<ops.size:=om
  by_cases he:m=k
  ·subst he;have hr:m∈Region.ready .any ops listed:=by grind
   obtain⟨_,o',ho',hall⟩:=mem_ready.1 hr;rw[ho]at ho';cases ho';refine⟨fun e hem hb=> ?_,fun j oj hj hoj hno=> ?_⟩
   ·have h4:=hall e hem hb;have hlt:e.on<ops.size:=by grind
    rw[hl _ hlt]at h4
    simpa using h4
   ·refine Region.free_spec ho h2 j oj hoj om ?_ hno;rw[hl j (Bn.1 hoj).1]
    simp;omega
  ·refine aIy fuel (k+1) _ (by simpa using hs) om (fun j hj d=> ?_) h3 m o om ho
   by_cases e:k=j
   ·simp_all
   ·rw[getD_set_ne d e,hl j hj]
    by_cases hjk:j<k
    ·grind
    ·grind
end Ev
end Go.Proofs.YtahbdkmimmnadaaGreatDoor
namespace Go.Proofs.YtahbdkmimmnadaaGreatDoor
namespace Ev
variable{G:Gnd}
section
variable{E:Env}{call:aX}{thaw:List Nat}
structure Ran(E:Env)(call:aX)(thaw:List Nat)(ops:Array Oper)(es:List Ent)(s:List A)(h:H):Prop where
 len:es.length=ops.size
 at':∀(i:Nat) (o:Oper),ops[i]? =some o->∃e,es[i]? =some e/\e.dst=o.dst/\
   jO E call thaw ops.toList e.base e.k o (runL (fun j=>decide (j<i)) 0 es s h).1 (runL (fun j=>decide (j<i)) 0 es s h).2=some (e.a,e.wr,e.fp)
 lex:∀m o,ops[m]? =some o->(∀e∈o.after,Region.binds .any e=true->e.on<m)/\∀j oj,m<j->ops[j]? =some oj->(∀e∈oj.after,Region.binds .any e=true->e.on≠m)->o.apart ops oj=true
 mem:∀i j ei ej,i<j->es[i]? =some ei->es[j]? =some ej->lQ ei.fp ej.fp=true->((LQ ops.toList []).getD j 0).testBit i=true
theorem ZZ{ops:Array Oper}{L:Nat->Bool}(hL:∀m,L m=true->F0 ops.toList L m){m j:Nat}(hb:((LQ ops.toList []).getD m 0).testBit j=true)(hm:F0 ops.toList L m):L j=true:=
 aDb hL ops.toList [] (fun j=>by simp) (fun m j h=>by simp at h) m j hb hm
theorem aAt{a b:Foot}{i:Nat}(hr:(a.ro=false/\i∈a.wr/\i∈b.ids)\/(b.ro=false/\i∈b.wr/\i∈a.ids)):lQ a b=true:=by
 simp only[lQ,Bool.or_eq_true,Aj,Dy,List.any_eq_true,Dq]
 rcases hr with⟨h1,h2,h3⟩|⟨h1,h2,h3⟩
 ·grind
 ·grind
theorem aNA{ops:Array Oper}{es:List Ent}{s:List A}{h:H}(R:Ran E call thaw ops es s h){L:Nat->Bool}(hL:∀m,L m=true->F0 ops.toList L m){i:Nat}{o:Oper}(ho:ops[i]? =some o)(hi:L i=false)(hh:F0 ops.toList L i):
  ∃e,es[i]? =some e/\e.dst=o.dst/\jO E call thaw ops.toList e.base e.k o (runL L 0 es s h).1 (runL L 0 es s h).2=some (e.a,e.wr,e.fp)/\
   runL (fun j=>j==i||L j) 0 es s h=(aPut (runL L 0 es s h).1 o.dst e.a,putW e.wr (runL L 0 es s h).2):=by
 obtain⟨e,he,hd,hst⟩:=R.at' i o ho;have hw:=QR hst
 have opAt:∀(j:Nat) (e':Ent),es[j]? =some e'->∃o',ops[j]? =some o'/\e'.dst=o'.dst/\(e'.fp.ro=true->e'.wr=[])/\∀id∈e'.wr.map (·.1),id∈e'.fp.ids/\id∈e'.fp.wr:=by
  intro j e' hj;have hlt:j<ops.size:=by rw[<-R.len];exact(At.1 hj).1
  obtain⟨e2,he2,hd2,hst2⟩:=R.at' j ops[j] (by simp[hlt]);rw[hj]at he2;cases he2;exact⟨ops[j],by simp[hlt],hd2,QR hst2⟩
 have before:∀(j:Nat) (oj:Oper),j<i->ops[j]? =some oj->(¬(oj.apart ops o=true))->L j=true:=by
  intro j oj hj hoj hna
  by_cases hx:∀e∈o.after,Region.binds .any e=true->e.on≠j
  ·exact absurd ((R.lex j oj hoj).2 i o hj ho hx) hna
  ·obtain⟨e',hx⟩:=Classical.not_forall.1 hx;have:e'∈o.after/\Region.binds .any e'=true/\e'.on=j:=by grind
   rw[<-this.2.2];exact hh o (by simpa using ho) e' this.1 this.2.1
 have later:∀(j:Nat) (oj:Oper),i<j->ops[j]? =some oj->(¬(o.apart ops oj=true))->L j=false:=by
  intro j oj hj hoj hna
  cases hlj:L j with
  |false=>rfl
  |true=>
   exfalso
   by_cases hx:∀e∈oj.after,Region.binds .any e=true->e.on≠i
   ·exact hna ((R.lex i o ho).2 j oj hj hoj hx)
   ·obtain⟨e',hx⟩:=Classical.not_forall.1 hx;have h3:e'∈oj.after/\Region.binds .any e'=true/\e'.on=i:=by grind
    have:=hL j hlj oj (by simpa using hoj) e' h3.1 h3.2.1;rw[h3.2.2,hi]at this;cases this
 have mbefore:∀(j:Nat) (e':Ent),j<i->es[j]? =some e'->lQ e'.fp e.fp=true->L j=true:=fun j e' hj he' hc=>
  ZZ hL (R.mem j i e' e hj he' he hc) hh
 have mlater:∀(j:Nat) (e':Ent),i<j->es[j]? =some e'->lQ e.fp e'.fp=true->L j=false:=by
  intro j e' hj he' hc
  cases hlj:L j with
  |false=>rfl
  |true=>
   have:=ZZ hL (R.mem i j e e' hj he he' hc) (hL j hlj);rw[hi]at this;cases this
 have nonro:∀(e':Ent),(e'.fp.ro=true->e'.wr=[])->∀id∈e'.wr.map (·.1),e'.fp.ro=false:=by grind
 refine⟨e,he,hd,aJy hst (fun t ht=> ?_) (fun id hid=> ?_),Prod.ext (Cj fun t=> ?_) (Cj fun id=> ?_)⟩
 ·rw[xH,xH];refine D0 (aMI t) es 0 _ fun j e' hj hm=> ?_;simp only[Ag];simp only[mS,decide_eq_true_eq]at hm;obtain⟨o',ho',hd',_⟩:=opAt j e' hj;rw[hd']at hm
  rcases Nat.lt_trichotomy j i with h1|h1|h1
  ·rw[before j o' h1 ho' fun hap=>(Oper.apart_spec hap).1 t hm ht];simp[h1]
  ·grind
  ·rw[later j o' h1 ho' fun hap=>(Oper.apart_spec hap).2.2 t hm ht];simp;omega
 ·rw[AZ,AZ];refine D0 (aOA id) es 0 _ fun j e' hj hm=> ?_;simp only[Ag];simp only[mW,Dq]at hm;obtain⟨o',ho',hd',hw1,hw2⟩:=opAt j e' hj;have hro:=nonro e' hw1 id hm
  rcases Nat.lt_trichotomy j i with h1|h1|h1
  ·rw[mbefore j e' h1 hj (aAt (.inl ⟨hro,(hw2 id hm).2,hid⟩))];simp[h1]
  ·grind
  ·rw[mlater j e' h1 hj (aAt (.inr ⟨hro,(hw2 id hm).2,hid⟩))];simp;omega
 ·simp only[];rw[aH5,xH,xH]
  have:=QC (aMI t) (L:=L) (e:=e) es 0 i s[t]? he (by simpa using hi) (fun j e' hj he' h1 h2=>by
   simp only[Ag];simp only[mS,decide_eq_true_eq]at h1 h2;obtain⟨o',ho',hd',_⟩:=opAt j e' he';exact later j o' hj ho' fun hap=>(Oper.apart_spec hap).2.1 t (by rw[<-hd];exact h1) (by rw[<-hd'];exact h2))
  simp only[Ag]at this;rw[this];simp only[uS,hd]
 ·simp only[];rw[aA9,AZ,AZ]
  have:=QC (aOA id) (L:=L) (e:=e) es 0 i h[id]? he (by simpa using hi) (fun j e' hj he' h1 h2=>by
   simp only[Ag];simp only[mW,Dq]at h1 h2;obtain⟨o',ho',hd',hw1,hw2⟩:=opAt j e' he';exact mlater j e' hj he' (aAt (.inr ⟨nonro e' hw1 id h2,(hw2 id h2).2,(hw.2 id h1).1⟩)))
  simp only[Ag]at this;rw[this];rfl
def open'(n:Nat)(listed:Array Bool):Nat:=(List.range n).countP fun i=> !listed.getD i false
theorem aEx{p q:Nat->Bool}:∀(l:List Nat) (i:Nat),i∈l->p i=true->q i=false->(∀j,q j=true->p j=true)->l.countP q<l.countP p
 | [],i,h,_,_,_=>by simp at h
 |x::l,i,h,hp,hq,hpq=>by
  rw[List.countP_cons,List.countP_cons];have hle:l.countP q<=l.countP p:=List.countP_mono_left fun j _ hj=>hpq j hj
  rcases Au.1 h with rfl|h
  ·grind
  ·have:=aEx l i h hp hq hpq
   cases hqx:q x with
   |false=>grind
   |true=>grind
theorem aSE(hE:EnvOK E)(hc:j8 G E.P call){ops:Array Oper}{es:List Ent}{s:List A}{h:H}{ρ0:Rho}{w0:World}{I0:Nat->Prop}{act0:Act}(R:Ran E call thaw ops es s h){Q:Exit->Act->World->Prop}
  (hQ:∀act' ρ' w' I',Step G h ρ0 w0 I0 (runL (fun _=>true) 0 es s h).2 ρ' w' I'->ARv (runL (fun _=>true) 0 es s h).2 ρ' w' I' (runL (fun _=>true) 0 es s h).1 act'.tmps.toList->act'.defers=act0.defers->Q .normal act' w'):
  ∀(fuel:Nat) (listed:Array Bool) (act:Act) (ρ:Rho) (w:World) (I:Nat->Prop),listed.size=ops.size->(∀m,listed.getD m false=true->F0 ops.toList (fun j=>listed.getD j false) m)->open' ops.size listed<=fuel->
   Step G h ρ0 w0 I0 (runL (fun j=>listed.getD j false) 0 es s h).2 ρ w I->ARv (runL (fun j=>listed.getD j false) 0 es s h).2 ρ w I (runL (fun j=>listed.getD j false) 0 es s h).1 act.tmps.toList->act.defers=act0.defers->
   wpAny E.P .any ops Q fuel listed act w:=by
 have fin:∀(listed:Array Bool) (act:Act) (ρ:Rho) (w:World) (I:Nat->Prop),listed.size=ops.size->Region.ready .any ops listed=[]->
   Step G h ρ0 w0 I0 (runL (fun j=>listed.getD j false) 0 es s h).2 ρ w I->ARv (runL (fun j=>listed.getD j false) 0 es s h).2 ρ w I (runL (fun j=>listed.getD j false) 0 es s h).1 act.tmps.toList->act.defers=act0.defers->Q .normal act w:=by
  intro listed act ρ w I hs hr st hsl hd
  have all:∀n,n<=ops.size->∀j,j<n->listed.getD j false=true:=by
   intro n
   induction n with
   |zero=>grind
   |succ n ih=>
    intro hn j hj
    by_cases hjn:j<n
    ·grind
    ·have:j=n:=om;subst this
     cases hl:listed.getD j false with
     |true=>rfl
     |false=>
      have hmem:j∈Region.ready .any ops listed:=mem_ready.2 ⟨by
       have hlt:j<listed.size:=om;simp only[Array.getD_eq_getD_getElem?,Array.getElem?_eq_getElem hlt,Bd]at hl|-;exact hl,ops[j],by simp,fun e he hb=>ih om e.on ((R.lex j ops[j] sm).1 e he hb)⟩
      rw[hr]at hmem;cases hmem
  have:runL (fun j=>listed.getD j false) 0 es s h=runL (fun _=>true) 0 es s h:=PG es 0 s h fun j hj=>by
   simp only[Ag];exact all ops.size (Ad _) j (by rw[<-R.len];exact hj)
  rw[this]at st hsl;exact hQ act ρ w I st hsl hd
 intro fuel
 induction fuel with
 |zero=>
  intro listed act ρ w I hs hdc ho st hsl hd
  have hr:Region.ready .any ops listed=[]:=by
   apply List.eq_nil_iff_forall_not_mem.2;intro j hj;obtain⟨h0,o,hoj,_⟩:=mem_ready.1 hj;have hlt:=(Bn.1 hoj).1;have hz:open' ops.size listed=0:=om;unfold open' at hz;rw[List.countP_eq_zero]at hz;have:=hz j (List.mem_range.2 hlt);have hlt':j<listed.size:=om;simp only[Array.getD_eq_getD_getElem?,Array.getElem?_eq_getElem hlt',Bd]at this h0;rw[h0]at this;simp at this
  exact⟨hr,fin listed act ρ w I hs hr st hsl hd⟩
 |succ fuel ih=>
  intro listed act ρ w I hs hdc ho st hsl hd;refine⟨fun hr=>fin listed act ρ w I hs hr st hsl hd,fun i hi=> ?_⟩;obtain⟨h0,o,hoi,hedges⟩:=mem_ready.1 hi;have hlt:=(Bn.1 hoi).1;have hli:listed.getD i false=false:=by grind
  have hheed:F0 ops.toList (fun j=>listed.getD j false) i:=fun o' ho' e he hb=>by
   have:o'=o:=by grind
   subst this;exact hedges e he hb
  obtain⟨e,he,hde,hst,hrun⟩:=aNA R hdc hoi hli hheed
  have newL:∀j,(listed.setIfInBounds i true).getD j false=(j==i||listed.getD j false):=by
   intro j
   by_cases hji:j=i
   ·subst hji;simp[hs,hlt]
   ·rw[getD_set_ne false (Ne.symm hji)];simp[hji]
  have hL':(fun j=>(listed.setIfInBounds i true).getD j false)=fun j=>(j==i||listed.getD j false):=by grind
  unfold wpOp;simp only[hoi]
  have key:=aOb hE hc hst st.rel hsl (wpAny E.P .any ops Q fuel (listed.setIfInBounds i true)) Q fun act' ρ' w' I' s1 hs1 hd1=>by
   refine ih _ act' ρ' w' I' (by simpa using hs) (fun m hm=> ?_) ?_ ?_ ?_ (hd1.trans hd)
   ·rw[hL'];intro o' ho' e' he' hb';rw[newL]at hm;simp only[Bool.or_eq_true,beq_iff_eq]at hm|-
    rcases hm with rfl|hm
    ·exact .inr (hheed o' ho' e' he' hb')
    ·exact .inr (hdc m hm o' ho' e' he' hb')
   ·have:open' ops.size (listed.setIfInBounds i true)<open' ops.size listed:=by
     unfold open';refine aEx _ i (List.mem_range.2 hlt) (by simp only[hli];rfl) (by simp only[newL];simp) fun j hj=> ?_;simp only[newL]at hj;simp only[Dy,Ei]at hj|-;exact hj.2
    omega
   ·rw[hL',hrun];exact st.trans s1
   ·rw[hL',hrun];exact hs1
  have htl:ops.toList.toArray=ops:=sm
  split
  ·rename_i hw
   rw[if_pos hw]at key;exact .inl key
  ·rename_i hw
   rw[if_neg hw]at key;exact key
def fJ(n:Nat):H:=List.replicate n .void
theorem aDN(ord:List Nat)(base n:Nat):back ord base n=fun(j:Nat)=>(ord++List.range' base (n-ord.length))[j]?:=by
 funext j
 unfold back
 split
 ·grind
 ·grind
theorem aHV(f:Nat->Option Nat):∀(rest:H) (h:H) (y:Nat),putW ((List.range' h.length rest.length).zip (rest.map (mapO f))) (h++fJ (rest.length+y))=h++rest.map (mapO f)++fJ y
 | [],h,y=>by simp[putW]
 |o::rest,h,y=>by
  have ih:=aHV f rest (h++[mapO f o]) y;simp only[Ac,Ea,Af,List.zip_cons_cons,putW]
  have:(h++fJ (rest.length+1+y)).set h.length (mapO f o)=(h++[mapO f o])++fJ (rest.length+y):=by
   rw[show rest.length+1+y=(rest.length+y)+1 from by omega];simp[fJ,Dr]
  rw[this];simp only[Ai,Ac,Ab,Ag]at ih;rw[ih];simp
theorem UX(f:Nat->Option Nat):∀(ord:List Nat) (h h1:H) (y:Nat),(∀i∈ord,i<h.length)->ord.length<=h1.length->
  putW ((ord++List.range' h.length (h1.length-ord.length)).zip (h1.map (mapO f))) (h++fJ (h1.length-ord.length+y))=bE f h ord h1++fJ y
 | [],h,h1,y,_,_=>by
  simp only[bE,Am,Ab,Nat.sub_zero];exact aHV f h1 h y
 |i::ord,h,[],y,_,hl=>by grind
 |i::ord,h,o::h1,y,hi,hl=>by
  simp only[Ac,Nat.add_sub_add_right,As,Af,List.zip_cons_cons,putW,bE];have hlt:=hi i sm;have:=UX f ord (h.set i (mapO f o)) h1 y (fun j hj=>by simpa using hi j (by simp[hj])) (by simpa using hl);rw[List.set_append_left _ _ hlt]
  simpa using this
theorem aEP{h:H}{n i:Nat}(hi:i<h.length):(h++fJ n)[i]? =h[i]?:=Be hi
theorem aLp{ops:List Oper}{o:Oper}{s s1:List A}{h h1:H}{c:Foot}(he:wZ E call thaw ops o s h=some (s1,h1,c)):
  ∃k a W,h1.length=h.length+k/\s1=aPut s o.dst a/\∀y,jO E call thaw ops h.length k o s (h++fJ (k+y))=some (a,W,c)/\putW W (h++fJ (k+y))=h1++fJ y:=by
 unfold wZ at he
 split at he
 ·rename_i hw
  split at he
  ·rename_i vs hvs
   split at he
   ·rename_i hp
    split at he
    ·rename_i a h2 hop
     cases he;refine⟨0,a,[],by simp,rfl,fun y=>⟨?_,by simp[putW]⟩⟩
     unfold jO;simp only[hw,hvs,hp,if_true];rw[VY hp h,hop];rfl
    ·cases he
   split at he
   ·rename_i hp0 hp
    split at he
    ·rename_i a h2 hop
     cases he;refine⟨0,a,[],by simp,rfl,fun y=>⟨?_,by simp[putW]⟩⟩
     unfold jO;simp only[hw,hvs,hp0,hp,if_true,Ap,if_false];rw[(IL hp (fun i hi x hx=>by rw[Be (At.1 hx).1];exact hx) hop).2]
    ·cases he
   ·rename_i hp0 hp
    split at he
    ·rename_i a h' ord k hop
     unfold jK at hop;simp only[]at hop
     split at hop
     ·rename_i a1 h2 hop1
      split at hop
      ·rename_i hcond
       obtain⟨hlen,hcl⟩:=hcond;simp only[Option.some.injEq,Prod.mk.injEq]at hop;obtain⟨rfl,rfl,rfl,rfl⟩:=hop;have hl:=j5 aF h (idsL vs) [] sm;have hb:=F8 hcl
       have big:∀n,jO E call thaw ops h.length (h2.length-(aD aF h (idsL vs) []).length) o s (h++fJ (h2.length-(aD aF h (idsL vs) []).length+n))=
         (if iU E o.op vs&&(h2.length-(aD aF h (idsL vs) []).length)==0 then some (mapA (fun(j:Nat)=>(aD aF h (idsL vs) [])[j]?) a1,[],{ ids:=aD aF h (idsL vs) [],ro:=true})
          else some (mapA (fun(j:Nat)=>(aD aF h (idsL vs) []++List.range' h.length (h2.length-(aD aF h (idsL vs) []).length))[j]?) a1,((aD aF h (idsL vs) []++List.range' h.length (h2.length-(aD aF h (idsL vs) []).length)).zip (h2.map (mapO (fun(j:Nat)=>(aD aF h (idsL vs) []++List.range' h.length (h2.length-(aD aF h (idsL vs) []).length))[j]?)))).filter (fun p=>(wrOf E o.op vs (aD aF h (idsL vs) [])++List.range' h.length (h2.length-(aD aF h (idsL vs) []).length)).contains p.1),{ ids:=aD aF h (idsL vs) []++List.range' h.length (h2.length-(aD aF h (idsL vs) []).length),ro:=false,wr:=wrOf E o.op vs (aD aF h (idsL vs) [])++List.range' h.length (h2.length-(aD aF h (idsL vs) []).length)})):=by
        intro n;have hsm:∀i∈aD aF h (idsL vs) [],h[i]? =(h++fJ (h2.length-(aD aF h (idsL vs) []).length+n))[i]?:=fun i hi=>(aEP (hl i hi)).symm;unfold jO;simp only[hw,hvs,hp0,hp,Ap,if_false];rw[lP hsm hb.2 aF _ [] hb.1];unfold xE;rw[VA hsm,MZ hsm,hop1]
        have hv:(List.range' h.length (h2.length-(aD aF h (idsL vs) []).length)).all (GW (h++fJ (h2.length-(aD aF h (idsL vs) []).length+n)))=true:=by
         rw[Bh];intro i hi;rw[aDe];rw[Cx]at hi;rw[Bq hi.1];unfold fJ;rw[List.getElem?_replicate_of_lt om]
        have hd:decide (h2.length=(aD aF h (idsL vs) []).length+(h2.length-(aD aF h (idsL vs) []).length))=true:=by simp;omega
        simp only[hd,hcl,hv,Bx,if_true]
       split at he
       ·rename_i hro
        cases he
        have hk:h2.length-(aD aF h (idsL vs) []).length=0:=by
         simp only[Aj,beq_iff_eq]at hro;exact hro.2
        refine⟨0,_,[],by simp,rfl,fun y=>⟨?_,by simp[putW]⟩⟩;have:=big y;rw[if_pos hro,hk]at this;rw[this,aDN,hk];simp
       ·rename_i hro
        cases he;refine⟨h2.length-(aD aF h (idsL vs) []).length,_,_,?_,rfl,fun y=>⟨by rw[big y,if_neg hro,aDN],?_⟩⟩
        ·have h3:=UX (back (aD aF h (idsL vs) []) h.length h2.length) (aD aF h (idsL vs) []) h h2 0 hl hlen;have h4:=congrArg List.length h3;rw[YU]at h4;simp[fJ]at h4;omega
        ·have h3:=UX (back (aD aF h (idsL vs) []) h.length h2.length) (aD aF h (idsL vs) []) h h2 y hl hlen;rw[aDN]at h3|-;rw[<-h3];have hsm:∀i∈aD aF h (idsL vs) [],h[i]? =(h++fJ (h2.length-(aD aF h (idsL vs) []).length+y))[i]?:=fun i hi=>(aEP (hl i hi)).symm;have hop2:=hop1;have hcl2:=hcl;rw[<-VA hsm]at hop2;rw[<-MZ hsm]at hcl2;refine aKM hop2 hcl2 ?_ om (fun i hi=>by simp only[Ai];have:=hl i hi;omega);rw[List.nodup_append];refine⟨bT _ _ _ _ sm,List.nodup_range',fun a ha b hb e=> ?_⟩;subst e;have:=hl a ha;rw[Cx]at hb;omega
      ·cases hop
     ·cases hop
    ·cases he
  ·cases he
 ·rename_i hw
  cases he;refine⟨0,.d .undef,[],by simp,rfl,fun y=>⟨?_,by simp[putW]⟩⟩
  unfold jO;simp only[hw]
 ·cases he
theorem aIc{ops:List Oper}:∀(rest:List Oper) (s s':List A) (h h':H) (cs:List Foot),lD E call thaw ops rest s h=some (s',h',cs)->
  ∃K,∀x,∃es,aL6 E call thaw ops rest es s (h++fJ (K+x))/\es.map (·.fp)=cs/\∀k,runL (fun _=>true) k es s (h++fJ (K+x))=(s',h'++fJ x)
 | [],s,s',h,h',cs,he=>by
  obtain⟨rfl,rfl,rfl⟩:=he;exact⟨0,fun x=>⟨[],trivial,rfl,fun k=>by simp[runL]⟩⟩
 |o::rest,s,s',h,h',cs,he=>by
  simp only[lD]at he
  split at he
  ·rename_i s1 h1 c hst
   split at he
   ·rename_i s2 h2 cs2 hrest
    cases he;obtain⟨k,a,W,hlen,rfl,hat⟩:=aLp hst
    obtain⟨K,hK⟩:=aIc rest _ _ _ _ _ hrest;refine⟨k+K,fun x=> ?_⟩;obtain⟨es,ht,hc,hr⟩:=hK x;obtain⟨ha1,ha2⟩:=hat (K+x);rw[show k+K+x=k+(K+x)from by omega];refine⟨⟨o.dst,h.length,k,a,W,c⟩::es,⟨rfl,ha1,by rw[ha2];exact ht⟩,by simp[hc],fun n=> ?_⟩;simp only[runL,if_true];rw[ha2];exact hr (n+1)
   ·cases he
  ·cases he
theorem aB2{h:H}{ρ:Rho}{w:World}{I:Nat->Prop}(r:Rel G h ρ w I):∀n,∃ρ',Step G h ρ w I (h++fJ n) ρ' w I
 |0=>⟨ρ,by simpa [fJ]using Step.refl r⟩
 |n+1=>by
  obtain⟨ρ',s⟩:=aB2 r n;have s1:=fU s.rel (Grew.refl w) .void none sm (fun _=>by simp[OR]);have e:h++fJ (n+1)=h++fJ n++[.void]:=by simp[fJ,List.replicate_succ']
  rw[e];exact⟨_,s.trans s1⟩
theorem aR2(hE:EnvOK E)(hc:j8 G E.P call):WT G E call:=by
 intro id thaw ops s s' h h' he ρ w I act r hs Q hQ;simp only[mL,if_true]at he
 split at he
 ·rename_i s1 h1 cs hrun
  split at he
  ·rename_i hcond
   cases he;simp only[Aj]at hcond
   obtain⟨hlex,hclash⟩:=hcond;obtain⟨K,hK⟩:=aIc _ _ _ _ _ _ hrun;obtain⟨es,ht,hcs,hr⟩:=hK 0;simp only[Bm]at ht hr;obtain⟨hlen,hat⟩:=aIF _ _ 0 _ _ ht;have hlen':es.length=ops.size:=by grind
   simp only[Region.lexB,Aj]at hlex
   have R:Ran E call thaw ops es s (h++fJ K):=by
    refine⟨hlen',fun i o ho=> ?_,fun m o ho=> ?_,fun i j ei ej hij hei hej hcl=> ?_⟩
    ·simp_all
    ·exact aIy ops.size 0 _ sm om (fun j hj d=>by simp[hj]) hlex.2 m o (Cw _) ho
    ·unfold n4 at hclash;simp only[Bh,List.mem_range]at hclash;have hcl':=hclash j (by rw[<-hcs];simpa using(At.1 hej).1) i hij;have g1:cs.getD i {}=ei.fp:=by grind
     have g2:cs.getD j {}=ej.fp:=by grind
     rw[g1,g2,hcl]at hcl'
     simpa using hcl'
   obtain⟨ρ1,st⟩:=aB2 (r:=(K6 r (Grew.drew w)).rel) K;have st0:=(K6 r (Grew.drew w)).trans st;refine wp_region_any hE.mixed ?_
   have non:∀(es:List Ent) (k:Nat) (s:List A) (h:H),runL (fun _=>false) k es s h=(s,h):=by
    intro es
    induction es with
    |nil=>intro k s h;rfl
    |cons e es ih=>intro k s h;simp only[runL];exact ih _ _ _
   have hf:(fun j=>(Array.replicate ops.size false).getD j false)=fun _=>false:=by
    funext j
    simp only[Array.getD_eq_getD_getElem?,Array.getElem?_replicate]
    split<;>rfl
   refine aSE hE hc (ρ0:=ρ1) (w0:={ w with drawn:=w.drawn+1}) (I0:=I) (act0:=act) R (fun act' ρ' w' I' st' hs' hd'=> ?_) ops.size _ act ρ1 _ I sm (fun m hm=> ?_) ?_ ?_ ?_ rfl
   ·rw[hr]at st' hs';simp only[fJ,List.replicate_zero,Ah]at st' hs';exact hQ act' ρ' w' I' (st0.trans st') hs' hd'
   ·have:=congrFun hf m;rw[this]at hm;cases hm
   ·exact Bk List.countP_le_length sm
   ·rw[hf,non];exact .refl st.rel
   ·rw[hf,non];exact fW st0.ext s _ hs
  ·cases he
 ·cases he
theorem aLY{E:Env}{L:Nat}(hE:EnvOK E)(hp:∀f g,E.prim f=some g->C7 G E.P f g)(n:Nat):j8 G E.P (aA E L n):=
 aK2 hE hp (fun _ hc=>aR2 hE hc) n
end
end Ev
end Go.Proofs.YtahbdkmimmnadaaGreatDoor
