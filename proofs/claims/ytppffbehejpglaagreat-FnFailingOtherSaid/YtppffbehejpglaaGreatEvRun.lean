/-
  The steps that memory takes: a new object, an object turned; runs of loads and stores.
-/
import Derived.Test.YtppffbehejpglaaGreatEvRen
set_option linter.unusedSimpArgs false
set_option linter.unusedVariables false
set_option linter.unusedSectionVars false
namespace Go.Proofs.YtppffbehejpglaaGreat
namespace Ev
section
variable{G:Gnd}
def upd(ρ:Rho)(id:Nat)(rb:Option Nat):Rho:=fun k=>if k=id then rb else ρ k
theorem a7(ρ:Rho)(id:Nat)(rb:Option Nat):upd ρ id rb id=rb:=by simp[upd]
theorem dD(ρ:Rho){id k:Nat}(rb:Option Nat)(h:k≠id):upd ρ id rb k=ρ k:=by simp[upd,h]
structure Grew(m:Bool)(w w':World):Prop where
 os:w'.os=w.os
 tape:w'.tape=w.tape
 output:w'.output=w.output
 size:w.heap.size<=w'.heap.size
 same:∀b,b<w.heap.size->w'.heap[b]? =w.heap[b]?
 drawn:m=true->w.drawn<=w'.drawn
theorem Grew.refl{m:Bool}(w:World):Grew m w w:=⟨rfl,rfl,rfl,Ab _,fun _ _=>rfl,fun _=>Ab _⟩
theorem Grew.drew{m:Bool}(w:World):Grew m w { w with drawn:=w.drawn+1}:=⟨rfl,rfl,rfl,Ab _,fun _ _=>rfl,fun _=>Nat.le_succ _⟩
theorem Grew.push{m:Bool}(w:World)(o:Obj):Grew m w { w with heap:=w.heap.push o}:=
 ⟨rfl,rfl,rfl,by simp,fun b hb=>by simp only[Array.getElem?_push];rw[if_neg om],fun _=>Ab _⟩
theorem Grew.trans{m:Bool}{a b c:World}(x:Grew m a b)(y:Grew m b c):Grew m a c:=
 ⟨y.os.trans x.os,y.tape.trans x.tape,y.output.trans x.output,By x.size y.size,fun k hk=>(y.same k (Dh hk x.size)).trans (x.same k hk),fun e=>By (x.drawn e) (y.drawn e)⟩
theorem Grew.imm{h:H}{ρ:Rho}{w w':World}{I:Nat->Prop}{m:Bool}(r:Rel G h ρ w I)(g:Grew m w w'):Imm w I w' I:=fun b hb=>⟨hb,g.same b (r.imm b hb)⟩
theorem LO{h h':H}{ρ ρ':Rho}{w w':World}{I I':Nat->Prop}{id:Nat}(hi:Imm w I w' I')(ho:h'[id]? =h[id]?)(hr:ρ' id=ρ id)
  (hb:∀b,ρ id=some b->(∃o,h[id]? =some o/\live o)->w'.heap[b]? =w.heap[b]?) {gen off len:Nat} {a:Option Addr} {cap:Nat} (hs:slOK h ρ w I id gen off len a cap):slOK h' ρ' w' I' id gen off len a cap:=by
 unfold slOK at hs|-;rw[ho]
 cases hid:h[id]? with
 |none=>grind
 |some o=>
  cases o with
  |arr cs e g=>
   simp only[hid,hr]at hs|-;refine⟨hs.1,fun hg=>⟨(hs.2 hg).1,?_⟩⟩;have h2:=(hs.2 hg).2
   cases hρ:ρ id with
   |none=>grind
   |some b=>
    rw[hρ]at h2;simp only[]at h2|-;rw[hb b hρ ⟨_,hid,trivial⟩];exact h2
  |vec cs e g=>
   simp only[hid,hr]at hs|-;refine⟨hs.1,fun hg=>⟨(hs.2 hg).1,?_⟩⟩;have h2:=(hs.2 hg).2
   cases hρ:ρ id with
   |none=>grind
   |some b=>
    rw[hρ]at h2;simp only[]at h2|-;rw[hb b hρ ⟨_,hid,trivial⟩];exact h2
  |log cs=>
   simp only[hid,hr]at hs|-;refine⟨hs.1,fun hg=> ?_⟩;obtain⟨h1,h2,h3⟩:=hs.2 hg;refine⟨h1,h2.imp (fun x=>x) fun⟨h4,b,ha,h5⟩=>⟨h4,b,ha,h5.imp (fun x=>x) fun⟨h6,h7⟩=>⟨(hi b h6).1,hJ hi _ b 0 h6 h7⟩⟩,fun hl=>(h3 hl).imp (fun x=>x) fun⟨b,hρ,ha,C,E,fz,hk,hs⟩=>⟨b,hρ,ha,C,E,fz,by rw[hb b hρ ⟨_,hid,trivial⟩];exact hk,hs⟩⟩
  |box cs=>grind
  |ice cs e g=>
   simp only[hid]at hs|-;refine⟨hs.1,fun hg=>⟨(hs.2 hg).1,?_⟩⟩
   rcases(hs.2 hg).2 with h2|⟨h2,b,ha,hIb,hd⟩
   ·grind
   ·exact .inr ⟨h2,b,ha,(hi b hIb).1,hJ hi cs b 0 hIb hd⟩
  |mp es=>grind
  |void=>grind
theorem LU{h h':H}{ρ ρ':Rho}{w w':World}{I I':Nat->Prop}{id:Nat}(hi:Imm w I w' I')(ho:h'[id]? =h[id]?)(hr:ρ' id=ρ id){gen b:Nat}(hs:ptOK h ρ w I id gen b):ptOK h' ρ' w' I' id gen b:=by
 unfold ptOK at hs|-;rw[ho]
 cases hid:h[id]? with
 |none=>grind
 |some o=>
  cases o with
  |arr cs e g=>grind
  |vec cs e g=>grind
  |box cs=>grind
  |ice cs e g=>
   simp only[hid]at hs|-;exact⟨hs.1,fun hg=>⟨(hi b (hs.2 hg).1).1,hJ hi cs b 0 (hs.2 hg).1 (hs.2 hg).2⟩⟩
  |log cs=>
   simp only[hid,hr]at hs|-;exact⟨hs.1,fun hg=>(hs.2 hg).imp (fun x=>x) fun⟨h6,h7⟩=>⟨(hi b h6).1,hJ hi _ b 0 h6 h7⟩⟩
  |mp es=>grind
  |void=>grind
theorem WW{h h':H}{ρ ρ':Rho}{id:Nat}(ho:h'[id]? =h[id]?)(hr:ρ' id=ρ id){b:Nat}(hs:mpOK h ρ id b):mpOK h' ρ' id b:=by
 unfold mpOK at hs|-;rw[ho,hr];exact hs
theorem YL{h h':H}{ρ ρ':Rho}{w w':World}{I I':Nat->Prop}{id:Nat}{o:O}(hE:Ext h ρ w I h' ρ' w' I')(hr:ρ' id=ρ id)
  (hb:∀b,ρ id=some b->live o->w'.heap[b]? =w.heap[b]?/\¬I' b) (ho:OR h ρ w I id o):OR h' ρ' w' I' id o:=by
 cases o with
 |arr cs e g=>
  simp only[OR,hr]at ho|-
  cases hρ:ρ id with
  |none=>grind
  |some b=>
   rw[hρ]at ho;obtain⟨hez,hIb,C,E,fz,h2,h3,h4⟩:=ho;obtain⟨hk,hI'⟩:=hb b hρ trivial;exact⟨hez,hI',C,E,fz,by rw[hk];exact h2,h3,xA hE.imm (fun k _=>dS hk) h4⟩
 |vec cs e g=>
  simp only[OR,hr]at ho|-
  cases hρ:ρ id with
  |none=>grind
  |some b=>
   rw[hρ]at ho;obtain⟨hez,hIb,C,E,fz,h2,h3,h4⟩:=ho;obtain⟨hk,hI'⟩:=hb b hρ trivial
   exact⟨hez,hI',C,E,fz,by rw[hk];exact h2,h3,fun m c hm=>by
    obtain⟨v,hv,ha,ho⟩:=h4 m c hm;exact⟨v,by rw[dS hk];exact hv,gU hE c v ha,ho⟩⟩
 |log cs=>
  simp only[OR,hr]at ho|-
  cases hρ:ρ id with
  |none=>grind
  |some b=>
   rw[hρ]at ho;obtain⟨hIb,C,E,fz,h2,h3,h4⟩:=ho;obtain⟨hk,hI'⟩:=hb b hρ trivial;exact⟨hI',C,E,fz,by rw[hk];exact h2,h3,xA hE.imm (fun k _=>dS hk) h4⟩
 |box cs=>
  simp only[OR,hr]at ho|-;obtain⟨b,hρ,hIb,C,E,fz,h2,h3,h4⟩:=ho;obtain⟨hk,hI'⟩:=hb b hρ trivial;refine⟨b,hρ,hI',C,E,fz,by rw[hk];exact h2,h3,fun m c hm=> ?_⟩;obtain⟨v,hv,ha,ho⟩:=h4 m c hm;exact⟨v,by rw[dS hk];exact hv,gU hE c v ha,ho⟩
 |mp es=>
  simp only[OR,hr]at ho|-;obtain⟨b,hρ,hIb,M,c,h2,h3⟩:=ho;obtain⟨hk,hI'⟩:=hb b hρ trivial;exact⟨b,hρ,hI',M,c,by rw[hk];exact h2,h3⟩
 |ice cs e g=>simp only[OR]
 |void=>simp only[OR]
theorem CX{h:H}{ρ:Rho}{w w':World}{I:Nat->Prop}(r:Rel G h ρ w I)(g:Grew G.keeps w w'):Step G h ρ w I h ρ w' I:=by
 have hblk:∀id o b,h[id]? =some o->live o->ρ id=some b->w'.heap[b]? =w.heap[b]?/\¬I b:=fun id o b hid hlv hρ=>
  have h2:=r.own_not_imm ⟨id,o,hρ,hid,hlv⟩
  ⟨g.same b h2.2,h2.1⟩
 have ext:Ext h ρ w I h ρ w' I:=⟨g.imm r,fun id _ _ _ _ _ hs=>LO (g.imm r) rfl rfl (fun b hb ⟨o,ho,hl⟩=>(hblk id o b ho hl hb).1) hs,fun _ _ _ hs=>LU (g.imm r) rfl rfl hs,fun _ _ hs=>hs⟩
 exact⟨⟨fun id o hid=>YL ext rfl (fun b hb hl=>hblk id o b hid hl hb) (r.obj id o hid),r.inj,fun b hb=>Dh (r.imm b hb) g.size,r.ground.mono ext.imm⟩,ext,
  ⟨g.os,g.tape,g.output,g.size,fun b hb _=>g.same b hb,fun _ hb=>.inl hb,g.drawn⟩,fun _ hb=>.inl hb,Ab _⟩
theorem d9{h:H}{ρ:Rho}{w w':World}{I:Nat->Prop}(r:Rel G h ρ w I)(g:Grew G.keeps w w')(o:O)(rb:Option Nat)(hrb:∀b,rb=some b->w.heap.size<=b)
  (hor:Ext h ρ w I (h++[o]) (upd ρ h.length rb) w' I->OR (h++[o]) (upd ρ h.length rb) w' I h.length o):Step G h ρ w I (h++[o]) (upd ρ h.length rb) w' I:=by
 have look:∀id,id<h.length->(h++[o])[id]? =h[id]?:=by grind
 have hblk:∀id o b,h[id]? =some o->live o->ρ id=some b->w'.heap[b]? =w.heap[b]?/\¬I b:=fun id o b hid hlv hρ=>
  have h2:=r.own_not_imm ⟨id,o,hρ,hid,hlv⟩
  ⟨g.same b h2.2,h2.1⟩
 have ext:Ext h ρ w I (h++[o]) (upd ρ h.length rb) w' I:=by
  refine⟨g.imm r,fun id gen off len a cap hs=> ?_,fun id gen b hs=> ?_,fun id b hs=> ?_⟩
  ·have hlt:id<h.length:=by
    rcases Cq id h.length with h1|h1
    ·exact h1
    ·simp[slOK,Cl h1]at hs
   exact LO (g.imm r) (look id hlt) (dD ρ rb om) (fun b hb ⟨o,ho,hl⟩=>(hblk id o b ho hl hb).1) hs
  ·have hlt:id<h.length:=by
    rcases Cq id h.length with h1|h1
    ·exact h1
    ·simp[ptOK,Cl h1]at hs
   exact LU (g.imm r) (look id hlt) (dD ρ rb om) hs
  ·have hlt:id<h.length:=by
    rcases Cq id h.length with h1|h1
    ·exact h1
    ·simp[mpOK,Cl h1]at hs
   exact WW (look id hlt) (dD ρ rb om) hs
 have cases_of:∀id o',(h++[o])[id]? =some o'->(h[id]? =some o'/\id≠h.length)\/(id=h.length/\o'=o):=by grind
 refine⟨⟨fun id o' hid=> ?_,fun id id' b o1 o2 hb hb' h1 h2 l1 l2=> ?_,fun b hb=>Dh (r.imm b hb) g.size,r.ground.mono ext.imm⟩,ext,
  ⟨g.os,g.tape,g.output,g.size,fun b hb _=>g.same b hb,fun _ hb=>.inl hb,g.drawn⟩,fun b hb=> ?_,by simp⟩
 ·rcases cases_of id o' hid with⟨h1,hne⟩|⟨rfl,rfl⟩
  ·exact YL ext (dD ρ rb hne) (fun b hb hl=>hblk id o' b h1 hl hb) (r.obj id o' h1)
  ·grind
 ·rcases cases_of id o1 h1 with⟨g1,n1⟩|⟨rfl,rfl⟩<;>rcases cases_of id' o2 h2 with⟨g2,n2⟩|⟨rfl,rfl⟩
  ·rw[dD ρ rb n1]at hb;rw[dD ρ rb n2]at hb';exact r.inj id id' b o1 o2 hb hb' g1 g2 l1 l2
  ·rw[dD ρ rb n1]at hb;rw[a7]at hb';have:=(r.own_not_imm ⟨id,o1,hb,g1,l1⟩).2;have:=hrb b hb';omega
  ·rw[a7]at hb;rw[dD ρ rb n2]at hb';have:=(r.own_not_imm ⟨id',o2,hb',g2,l2⟩).2;have:=hrb b hb;omega
  ·rfl
 ·obtain⟨id,o',hb,hid,hl⟩:=hb
  rcases cases_of id o' hid with⟨g1,n1⟩|⟨rfl,rfl⟩
  ·rw[dD ρ rb n1]at hb;exact .inl ⟨id,o',hb,g1,hl⟩
  ·rw[a7]at hb;exact .inr (hrb b hb)
theorem dY{h:H}{ρ:Rho}{w w':World}{I I':Nat->Prop}{id:Nat}{o o':O}(r:Rel G h ρ w I)(hid:h[id]? =some o)(hlv:live o)(rb:Option Nat)
  (os:w'.os=w.os) (tape:w'.tape=w.tape) (output:w'.output=w.output) (size:w.heap.size<=w'.heap.size)
  (same:∀k,k<w.heap.size->ρ id≠some k->w'.heap[k]? =w.heap[k]?)
  (hI:∀b,I b->I' b) (hI':∀b,I' b->I b\/(ρ id=some b/\(¬live o'\/rb≠some b))) (hrb:∀b,rb=some b->ρ id=some b\/w.heap.size<=b)
  (hsl:Imm w I w' I'->∀gen off len a cap,slOK h ρ w I id gen off len a cap->slOK (h.set id o') (upd ρ id rb) w' I' id gen off len a cap)
  (hpt:Imm w I w' I'->∀gen b,ptOK h ρ w I id gen b->ptOK (h.set id o') (upd ρ id rb) w' I' id gen b)
  (hor:Ext h ρ w I (h.set id o') (upd ρ id rb) w' I'->OR (h.set id o') (upd ρ id rb) w' I' id o')
  (drawn:w.drawn<=w'.drawn:=by first|exact Ab _|exact Nat.le_succ _|exact Nat.le_add_right _ _)
  (hmp:∀es,o=.mp es->(∃es',o'=.mp es')/\rb=ρ id:=by intro _ h;cases h):Step G h ρ w I (h.set id o') (upd ρ id rb) w' I':=by
 have hlt:id<h.length:=by grind
 have ownNot:=fun b (ho:tW h ρ b)=>r.own_not_imm ho;have imm:Imm w I w' I':=fun b hb=>⟨hI b hb,same b (r.imm b hb) (fun e=>(ownNot b ⟨id,o,e,hid,hlv⟩).1 hb)⟩
 have hblk:∀k o2 b,k≠id->h[k]? =some o2->live o2->ρ k=some b->w'.heap[b]? =w.heap[b]?/\¬I' b:=by
  intro k o2 b hne hk hl hb;have h2:=ownNot b ⟨k,o2,hb,hk,hl⟩;have hne':ρ id≠some b:=fun e=>hne (r.inj k id b o2 o hb e hk hid hl hlv);exact⟨same b h2.2 hne',fun h3=>(hI' b h3).elim h2.1 (fun e=>hne' e.1)⟩
 have look:∀k,k≠id->(h.set id o')[k]? =h[k]?:=by grind
 have ext:Ext h ρ w I (h.set id o') (upd ρ id rb) w' I':=by
  refine⟨imm,fun k gen off len a cap hs=> ?_,fun k gen b hs=> ?_,fun k b hs=> ?_⟩
  ·by_cases e:k=id
   ·grind
   ·exact LO imm (look k e) (dD ρ rb e) (fun b hb ⟨o2,ho,hl⟩=>(hblk k o2 b e ho hl hb).1) hs
  ·by_cases e:k=id
   ·grind
   ·exact LU imm (look k e) (dD ρ rb e) hs
  ·by_cases e:k=id
   ·subst e
    cases o with
    |mp es=>
     obtain⟨⟨es',rfl⟩,hr⟩:=hmp es rfl;simp only[mpOK,hid]at hs;simp only[mpOK,Eh hlt,a7,hr];exact hs
    |_=>simp only[mpOK,hid]at hs
   ·exact WW (look k e) (dD ρ rb e) hs
 have at_id:(h.set id o')[id]? =some o':=by grind
 refine⟨⟨fun k o2 hk=> ?_,fun k k' b o1 o2 hb hb' h1 h2 l1 l2=> ?_,fun b hb=> ?_,r.ground.mono ext.imm⟩,ext,
  ⟨os,tape,output,size,fun b hb hno=>same b hb (fun e=>hno ⟨id,o,e,hid,hlv⟩),fun b hb=> ?_,fun _=>drawn⟩,fun b hb=> ?_,by simp⟩
 ·by_cases e:k=id
  ·grind
  ·rw[look k e]at hk;exact YL ext (dD ρ rb e) (fun b hb hl=>hblk k o2 b e hk hl hb) (r.obj k o2 hk)
 ·by_cases e:k=id<;>by_cases e':k'=id
  ·rw[e,e']
  ·subst e;rw[a7]at hb;rw[dD ρ rb e']at hb';rw[look k' e']at h2
   rcases hrb b hb with h3|h3
   ·exact r.inj k k' b o o2 h3 hb' hid h2 hlv l2
   ·have:=(ownNot b ⟨k',o2,hb',h2,l2⟩).2;omega
  ·subst e';rw[a7]at hb';rw[dD ρ rb e]at hb;rw[look k e]at h1
   rcases hrb b hb' with h3|h3
   ·exact r.inj k k' b o1 o hb h3 h1 hid l1 hlv
   ·have:=(ownNot b ⟨k,o1,hb,h1,l1⟩).2;omega
  ·rw[dD ρ rb e]at hb;rw[dD ρ rb e']at hb';rw[look k e]at h1;rw[look k' e']at h2;exact r.inj k k' b o1 o2 hb hb' h1 h2 l1 l2
 ·rcases hI' b hb with h1|h1
  ·exact Dh (r.imm b h1) size
  ·exact Dh (ownNot b ⟨id,o,h1.1,hid,hlv⟩).2 size
 ·rcases hI' b hb with h1|h1
  ·grind
  ·exact .inr (.inr ⟨id,o,h1.1,hid,hlv⟩)
 ·obtain⟨k,o2,hb,hk,hl⟩:=hb
  by_cases e:k=id
  ·subst e;rw[a7]at hb
   rcases hrb b hb with h3|h3
   ·exact .inl ⟨k,o,h3,hid,hlv⟩
   ·grind
  ·rw[dD ρ rb e]at hb;rw[look k e]at hk;exact .inl ⟨k,o2,hb,hk,hl⟩
theorem cI(ρ:Rho)(id:Nat):upd ρ id (ρ id)=ρ:=by
 funext k;unfold upd;split
 ·grind
 ·rfl
theorem GU{w:World}{I I':Nat->Prop}(hI:∀b,I b->I' b){ds:List D}{b:Nat}(h:DRs w I ds b 0):DRs w I' ds b 0:=
 xA (w:=w) (w':=w) (fun k hk=>⟨hI k hk,rfl⟩) (fun _ _=>rfl) h
theorem aJA{h:H}{ρ:Rho}{w:World}{I:Nat->Prop}{id:Nat}{cs:List D}{esz g:Nat}(r:Rel G h ρ w I)(hid:h[id]? =some (.arr cs esz g)):
  ∃I',Step G h ρ w I (h.set id (.ice cs esz g)) ρ w I'/\∀b,ρ id=some b->I' b/\DRs w I' cs b 0:=by
 have hlt:id<h.length:=by grind
 have at_id:(h.set id (.ice cs esz g))[id]? =some (.ice cs esz g):=by grind
 have hO:=r.obj id _ hid
 have hd:∀b,ρ id=some b->DRs w (fun k=>I k\/ρ id=some k) cs b 0:=fun b hb=>by
  simp only[OR,hb]at hO;obtain⟨_,_,C,E,fz,_,_,h4⟩:=hO;exact GU (fun k hk=>.inl hk) h4
 refine⟨fun k=>I k\/ρ id=some k,?_,fun b hb=>⟨.inr hb,hd b hb⟩⟩
 have s:=dY (o':=.ice cs esz g) (I':=fun k=>I k\/ρ id=some k) r hid trivial (ρ id) rfl rfl rfl (Ab _) (fun _ _ _=>rfl) (fun _ hb=>.inl hb)
  (fun b hb=>hb.imp (fun x=>x) fun e=>⟨e,.inl fun h=>h⟩) (fun b hb=>.inl hb) (fun _ gen off len a cap hs=> ?_) (fun _ gen b hs=> ?_) (fun _=>by simp only[OR])
 ·rw[cI]at s;exact s
 ·simp only[slOK,hid]at hs;simp only[slOK,at_id];refine⟨hs.1,fun hg=>⟨(hs.2 hg).1,?_⟩⟩;have h2:=(hs.2 hg).2
  cases hρ:ρ id with
  |none=>grind
  |some b=>
   rw[hρ]at h2
   rcases h2 with h2|h2
   ·grind
   ·simp_all
 ·simp only[ptOK,hid]at hs;simp only[ptOK,at_id];exact⟨hs.1,fun hg=>⟨.inr (hs.2 hg),hd b (hs.2 hg)⟩⟩
theorem aFs{w:World}{I:Nat->Prop}{cs:List D}{b:Nat}(n:Nat)(h:DRs w I cs b 0):DRs w I (cs.take n) b 0:=by
 rw[eX]at h|-;intro k d hk;rw[Cz]at hk
 split at hk
 ·grind
 ·cases hk
theorem aQ6{h:H}{ρ:Rho}{w:World}{I:Nat->Prop}{id:Nat}{cs:List D}(r:Rel G h ρ w I)(hid:h[id]? =some (.arr cs 1 0)):Step G h ρ w I (h.set id (.log cs)) ρ w I:=by
 have hlt:id<h.length:=by grind
 have at_id:(h.set id (.log cs))[id]? =some (.log cs):=by grind
 have hO:=r.obj id _ hid
 have s:=dY (o':=.log cs) (I':=I) r hid trivial (ρ id) rfl rfl rfl (Ab _) (fun _ _ _=>rfl) (fun _ hb=>hb)
  (fun b hb=>.inl hb) (fun b hb=>.inl hb) (fun _ gen off len a cap hs=> ?_) (fun _ gen b hs=> ?_) (fun _=> ?_)
 ·rw[cI]at s;exact s
 ·simp only[slOK,hid]at hs;simp only[slOK,at_id];exact⟨by omega,fun hg=>by omega⟩
 ·simp only[ptOK,hid]at hs;simp only[ptOK,at_id];exact⟨by omega,fun hg=>by omega⟩
 ·simp only[OR,a7]at hO|-
  cases hρ:ρ id with
  |none=>grind
  |some b=>grind
theorem aIU{h:H}{ρ:Rho}{w:World}{I:Nat->Prop}{id:Nat}{cs:List D}(r:Rel G h ρ w I)(hid:h[id]? =some (.log cs)):
  ∃I',Step G h ρ w I (h.set id (.ice cs 1 (cs.length+1))) ρ w I'/\∀b,ρ id=some b->I' b/\DRs w I' cs b 0:=by
 have hlt:id<h.length:=by grind
 have at_id:(h.set id (.ice cs 1 (cs.length+1)))[id]? =some (.ice cs 1 (cs.length+1)):=by grind
 have hO:=r.obj id _ hid
 have hd:∀b,ρ id=some b->DRs w (fun k=>I k\/ρ id=some k) cs b 0:=fun b hb=>by
  simp only[OR,hb]at hO;obtain⟨_,C,E,fz,_,_,h4⟩:=hO;exact GU (fun k hk=>.inl hk) h4
 refine⟨fun k=>I k\/ρ id=some k,?_,fun b hb=>⟨.inr hb,hd b hb⟩⟩
 have s:=dY (o':=.ice cs 1 (cs.length+1)) (I':=fun k=>I k\/ρ id=some k) r hid trivial (ρ id) rfl rfl rfl (Ab _) (fun _ _ _=>rfl) (fun _ hb=>.inl hb)
  (fun b hb=>hb.imp (fun x=>x) fun e=>⟨e,.inl fun h=>h⟩) (fun b hb=>.inl hb) (fun _ gen off len a cap hs=> ?_) (fun _ gen b hs=> ?_) (fun _=>by simp only[OR])
 ·rw[cI]at s;exact s
 ·simp only[slOK,hid]at hs;simp only[slOK,at_id];refine⟨hs.1,fun hg=> ?_⟩;subst hg;obtain⟨h1,h2,h3⟩:=hs.2 om;refine⟨h1,h2.imp (fun x=>x) ?_⟩;rintro⟨h4,b,ha,h5⟩;rw[Nat.add_sub_cancel,Cv]at h5;refine⟨by omega,b,ha,?_⟩
  rcases h5 with h5|⟨h5,h6⟩
  ·grind
  ·exact⟨.inl h5,GU (fun k hk=>.inl hk) h6⟩
 ·simp only[ptOK,hid]at hs;simp only[ptOK,at_id];refine⟨hs.1,fun hg=> ?_⟩;subst hg;have h5:=hs.2 om;rw[Nat.add_sub_cancel,Cv]at h5
  rcases h5 with h5|⟨h5,h6⟩
  ·grind
  ·exact⟨.inl h5,GU (fun k hk=>.inl hk) h6⟩
theorem XG{h:H}{ρ:Rho}{w:World}{I:Nat->Prop}{id:Nat}{cs:List A}{ds:List D}{esz g:Nat}(r:Rel G h ρ w I)(hid:h[id]? =some (.vec cs esz g))(hl:cs.length=ds.length)(hds:∀b,ρ id=some b->DRs w I ds b 0):
  ∃I',Step G h ρ w I (h.set id (.ice ds esz g)) ρ w I'/\∀b,ρ id=some b->I' b/\DRs w I' ds b 0:=by
 have hlt:id<h.length:=by grind
 have at_id:(h.set id (.ice ds esz g))[id]? =some (.ice ds esz g):=by grind
 have hd:∀b,ρ id=some b->DRs w (fun k=>I k\/ρ id=some k) ds b 0:=fun b hb=>GU (fun k hk=>.inl hk) (hds b hb);refine⟨fun k=>I k\/ρ id=some k,?_,fun b hb=>⟨.inr hb,hd b hb⟩⟩
 have s:=dY (o':=.ice ds esz g) (I':=fun k=>I k\/ρ id=some k) r hid trivial (ρ id) rfl rfl rfl (Ab _) (fun _ _ _=>rfl) (fun _ hb=>.inl hb)
  (fun b hb=>hb.imp (fun x=>x) fun e=>⟨e,.inl fun h=>h⟩) (fun b hb=>.inl hb) (fun _ gen off len a cap hs=> ?_) (fun _ gen b hs=> ?_) (fun _=>by simp only[OR])
 ·rw[cI]at s;exact s
 ·simp only[slOK,hid]at hs;simp only[slOK,at_id];refine⟨hs.1,fun hg=>⟨(hs.2 hg).1,?_⟩⟩;have h2:=(hs.2 hg).2
  cases hρ:ρ id with
  |none=>grind
  |some b=>
   rw[hρ]at h2
   rcases h2 with h2|h2
   ·grind
   ·simp_all
 ·simp only[ptOK,hid]at hs;simp only[ptOK,at_id];exact⟨hs.1,fun hg=>⟨.inr (hs.2 hg),hd b (hs.2 hg)⟩⟩
theorem aJX{h:H}{ρ:Rho}{w:World}{I:Nat->Prop}{id:Nat}{cs:List A}{ds:List D}{b:Nat}(r:Rel G h ρ w I)(hid:h[id]? =some (.box cs))(hb:ρ id=some b)(hd:DRs w I ds b 0):
  ∃I',Step G h ρ w I (h.set id (.ice ds 1 0)) ρ w I'/\I' b/\DRs w I' ds b 0:=by
 have hlt:id<h.length:=by grind
 have at_id:(h.set id (.ice ds 1 0))[id]? =some (.ice ds 1 0):=by grind
 have hd':DRs w (fun k=>I k\/ρ id=some k) ds b 0:=GU (fun k hk=>.inl hk) hd;refine⟨fun k=>I k\/ρ id=some k,?_,.inr hb,hd'⟩
 have s:=dY (o':=.ice ds 1 0) (I':=fun k=>I k\/ρ id=some k) r hid trivial (ρ id) rfl rfl rfl (Ab _) (fun _ _ _=>rfl) (fun _ hb=>.inl hb)
  (fun b hb=>hb.imp (fun x=>x) fun e=>⟨e,.inl fun h=>h⟩) (fun b hb=>.inl hb) (fun _ gen off len a cap hs=> ?_) (fun _ gen b' hs=> ?_) (fun _=>by simp only[OR])
 ·rw[cI]at s;exact s
 ·simp only[slOK,hid]at hs
 ·simp only[ptOK,hid]at hs;simp only[ptOK,at_id];refine⟨by omega,fun _=>⟨.inr hs.2,?_⟩⟩;have:=hs.2;rw[hb]at this;cases this;exact hd'
end
section
variable{G:Gnd}
theorem wY{h:H}{ρ:Rho}{w:World}{I:Nat->Prop}{b:Nat}:∀(cs:List A) (o:Nat),(∀(k:Nat) (c:A),cs[k]? =some c->∃v,cT w b (o+k)=some v/\AR h ρ w I c v/\v.oneCell'=true)->
  ∃vs,ARv h ρ w I cs vs/\∀(k:Nat) (v:Value),vs[k]? =some v->cT w b (o+k)=some v/\v.oneCell'=true
 | [],o,_=>⟨[],by simp only[ARv],fun k v hv=>by simp at hv⟩
 |c::cs,o,hc=>by
  obtain⟨v,hv,ha,ho⟩:=hc 0 c sm
  obtain⟨vs,hvs,hall⟩:=wY cs (o+1) (fun k c' hk=>by
   obtain⟨u,hu,hh⟩:=hc (k+1) c' (by simpa using hk);exact⟨u,by rw[<-hu];congr 1;omega,hh⟩)
  refine⟨v::vs,by simp only[ARv];exact⟨v,vs,rfl,ha,hvs⟩,fun k u hk=> ?_⟩
  cases k with
  |zero=>grind
  |succ k=>grind
theorem AB{w:World}{I:Nat->Prop}{ds:List D}{vs:List Value}{b:Nat}(hd:DRv w I ds vs)(hc:∀(k:Nat) (v:Value),vs[k]? =some v->cT w b (0+k)=some v/\v.oneCell'=true):DRs w I ds b 0:=by
 rw[eX];intro k d hk;obtain⟨hl,hall⟩:=(iC ds vs).1 hd;obtain⟨v,hv,hdv⟩:=hall k d hk;exact⟨v,(hc k v hv).1,hdv,(hc k v hv).2⟩
def aNT(G:Gnd)(f:H->A->Option (D×H)):Prop:=∀(h:H) (a:A) (x:D) (h1:H),f h a=some (x,h1)->∀(ρ:Rho) (w:World) (I:Nat->Prop) (v:Value),Rel G h ρ w I->AR h ρ w I a v->
 ∃I',Step G h ρ w I h1 ρ w I'/\DR w I' x v
theorem u3{f:H->A->Option (D×H)}(hf:aNT G f):∀(asx:List A) (h:H) (ds:List D) (h1:H),eK f h asx=some (ds,h1)->∀(ρ:Rho) (w:World) (I:Nat->Prop) (vs:List Value),Rel G h ρ w I->ARv h ρ w I asx vs->
  ∃I',Step G h ρ w I h1 ρ w I'/\DRv w I' ds vs
 | [],h,ds,h1,he,ρ,w,I,vs,r,ha=>by
  obtain⟨rfl,rfl⟩:=he;exact⟨I,.refl r,by simp only[DRv];exact ha⟩
 |a::asx,h,ds,h1,he,ρ,w,I,vs,r,ha=>by
  simp only[eK]at he
  split at he
  ·rename_i x h2 hx
   split at he
   ·rename_i ds' h3 hds
    simp only[Option.some.injEq,Prod.mk.injEq]at he;obtain⟨rfl,rfl⟩:=he;obtain⟨v,rest,rfl,hav,hrest⟩:=ha;obtain⟨I1,s1,d1⟩:=hf h a x h2 hx ρ w I v r hav;obtain⟨I2,s2,d2⟩:=u3 hf asx h2 ds' h3 hds ρ w I1 rest s1.rel (fL s1.ext asx rest hrest);exact⟨I2,s1.trans s2,by simp only[DRv];exact⟨v,rest,rfl,nM s2.ext.imm x v d1,d2⟩⟩
   ·cases he
  ·cases he
theorem kR:aNT G frz0:=by
 intro h a x h1 he ρ w I v r ha
 cases a with
 |d y=>
  obtain⟨rfl,rfl⟩:=he;exact⟨I,.refl r,ha⟩
 |sl id gen off len=>
  obtain⟨a,cap,rfl,hs⟩:=ha;simp only[frz0]at he
  cases hid:h[id]? with
  |none=>grind
  |some o=>
   rw[hid]at he
   cases o with
   |vec cs e g=>grind
   |box cs=>grind
   |mp es=>grind
   |void=>grind
   |log cs=>
    simp only[]at he
    split at he
    ·rename_i hc
     obtain⟨rfl,hle⟩:=hc;obtain⟨rfl,rfl⟩:=he;obtain⟨I',s,hI⟩:=aIU r hid;refine⟨I',s,?_⟩;simp only[slOK,hid]at hs;obtain⟨h1,h2,h3⟩:=hs.2 om;refine⟨a,cap,rfl,h1,?_⟩
     rcases h2 with h2|⟨h4,b,ha,h5⟩
     ·grind
     ·rw[Nat.add_sub_cancel,Cv]at h5
      have hb:I' b/\DRs w I' cs b 0:=by
       rcases h5 with h5|⟨h5,h6⟩
       ·grind
       ·exact⟨(s.ext.imm b h5).1,hJ s.ext.imm cs b 0 h5 h6⟩
      refine .inr ⟨b,off,ha,hb.1,?_⟩;have:=wP len (jX off hb.2)
      simpa using this
    ·cases he
   |arr cs esz g=>
    simp only[]at he
    split at he
    ·rename_i hc
     obtain⟨rfl,hle⟩:=hc;obtain⟨rfl,rfl⟩:=he;obtain⟨I',s,hI⟩:=aJA r hid;refine⟨I',s,?_⟩;simp only[slOK,hid]at hs;have h1:=(hs.2 trivial).1;have h2:=(hs.2 trivial).2;refine⟨a,cap,rfl,h1,?_⟩
     cases hρ:ρ id with
     |none=>simp_all
     |some b=>
      rw[hρ]at h2;obtain⟨hIb,hd⟩:=hI b hρ
      rcases h2 with h2|h2
      ·simp_all
      refine .inr ⟨b,off,h2.1,hIb,?_⟩;have:=wP (len*esz) (jX off hd)
      simpa using this
    ·cases he
   |ice cs esz g=>
    simp only[]at he
    split at he
    ·rename_i hc
     obtain⟨rfl,hle⟩:=hc;obtain⟨rfl,rfl⟩:=he;refine⟨I,.refl r,?_⟩;simp only[slOK,hid]at hs;refine⟨a,cap,rfl,(hs.2 trivial).1,?_⟩
     rcases(hs.2 trivial).2 with h2|⟨_,b,hb,hIb,hd⟩
     ·simp_all
     ·refine .inr ⟨b,off,hb,hIb,?_⟩;have:=wP (len*esz) (jX off hd)
      simpa using this
    ·cases he
 |ptr id gen off=>simp[frz0]at he
 |mp id=>simp[frz0]at he
 |clo f caps=>simp[frz0]at he
 |agg cs=>simp[frz0]at he
 |tup vs=>simp[frz0]at he
 |junk=>simp[frz0]at he
theorem OY:∀n,aNT G (frz n)
 |0=>by
  intro h a x h1 he;have:frz0 h a=some (x,h1):=by simpa only[frz]using he
  exact kR h a x h1 this
 |n+1=>by
  intro h a x h1 he ρ w I v r ha
  cases a with
  |ptr id gen off=>
   simp only[AR]at ha;obtain⟨b,rfl,hp⟩:=ha;simp only[frz]at he
   cases hid:h[id]? with
   |none=>rw[hid]at he;cases he
   |some o=>
    rw[hid]at he
    cases o with
    |arr cs esz g=>cases he
    |vec cs esz g=>cases he
    |log cs=>cases he
    |mp es=>cases he
    |void=>cases he
    |ice cs esz g=>
     simp only[]at he
     split at he
     ·rename_i hc
      obtain⟨rfl,hle⟩:=hc;simp only[Option.some.injEq,Prod.mk.injEq]at he;obtain⟨rfl,rfl⟩:=he;simp only[ptOK,hid]at hp;obtain⟨hIb,hd⟩:=hp.2 trivial;refine⟨I,.refl r,?_⟩;simp only[DR];exact⟨b,off,rfl,hIb,by have:=jX off hd;simpa using this⟩
     ·cases he
    |box cs=>
     simp only[]at he
     split at he
     ·rename_i hc
      split at he
      ·rename_i ds h2 hl
       split at he
       ·rename_i cs' hid'
        simp only[Option.some.injEq,Prod.mk.injEq]at he;obtain⟨rfl,rfl⟩:=he;simp only[ptOK,hid]at hp;have hO:=r.obj id _ hid;simp only[OR]at hO;obtain⟨b',hb',hIb,C,E,fz,hC,hfz,hcs⟩:=hO;rw[hp.2]at hb';cases hb';obtain⟨vs,hvs,hcell⟩:=wY cs 0 (fun k c hk=>by simpa using hcs k c hk);obtain⟨I1,s1,d1⟩:=u3 (OY n) cs h ds h2 hl ρ w I vs r hvs;have hd:=AB d1 hcell;obtain⟨I2,s2,hI2,hd2⟩:=aJX s1.rel hid' hp.2 hd;refine⟨I2,s1.trans s2,?_⟩;simp only[DR];exact⟨b,off,rfl,hI2,by have:=jX off hd2;simpa using this⟩
       ·cases he
      ·cases he
     ·cases he
  |clo f caps=>
   simp only[AR]at ha;obtain⟨cv,rfl,hc⟩:=ha;simp only[frz]at he
   split at he
   ·rename_i ds h2 hl
    simp only[Option.some.injEq,Prod.mk.injEq]at he;obtain⟨rfl,rfl⟩:=he;obtain⟨I1,s1,d1⟩:=u3 (OY n) caps h ds h2 hl ρ w I _ r hc;exact⟨I1,s1,by simp only[DR];exact⟨cv,rfl,d1⟩⟩
   ·cases he
  |d y=>exact kR h _ x h1 (by simpa only[frz]using he) ρ w I v r ha
  |mp id=>exact kR h _ x h1 (by simpa only[frz]using he) ρ w I v r ha
  |sl id gen off len=>
   simp only[frz]at he
   cases hid:h[id]? with
   |none=>rw[hid]at he;exact kR h _ x h1 he ρ w I v r ha
   |some o=>
    rw[hid]at he
    cases o with
    |arr cs esz g=>exact kR h _ x h1 he ρ w I v r ha
    |box cs=>exact kR h _ x h1 he ρ w I v r ha
    |ice cs esz g=>exact kR h _ x h1 he ρ w I v r ha
    |mp es=>exact kR h _ x h1 he ρ w I v r ha
    |log cs=>exact kR h _ x h1 he ρ w I v r ha
    |void=>exact kR h _ x h1 he ρ w I v r ha
    |vec cs esz g=>
     simp only[]at he
     split at he
     ·rename_i hc
      obtain⟨rfl,hle⟩:=hc
      split at he
      ·rename_i ds h2 hl
       split at he
       ·rename_i cs' e' g' hid'
        split at he
        ·rename_i hc2
         obtain⟨rfl,rfl,hlen⟩:=hc2;simp only[Option.some.injEq,Prod.mk.injEq]at he;obtain⟨rfl,rfl⟩:=he;simp only[AR]at ha;obtain⟨a,cap,rfl,hs⟩:=ha;simp only[slOK,hid]at hs;have hcap:=(hs.2 trivial).1;have h2':=(hs.2 trivial).2;have hO:=r.obj id _ hid;simp only[OR]at hO
         cases hρ:ρ id with
         |none=>
          rw[hρ]at hO h2';simp only at hO h2';subst hO;simp only[eK,Option.some.injEq,Prod.mk.injEq]at hl;obtain⟨rfl,rfl⟩:=hl;obtain⟨I2,s2,hI2⟩:=XG (ds:=[]) r hid rfl (fun b hb=>by rw[hρ]at hb;cases hb);refine⟨I2,s2,?_⟩;simp only[DR];refine⟨a,cap,rfl,hcap,.inl sm⟩
         |some b=>
          rw[hρ]at hO h2';simp only at hO h2';obtain⟨hez,hIb,C,E,fz,hC,hfz,hcs⟩:=hO;obtain⟨vs,hvs,hcell⟩:=wY cs 0 (fun k c hk=>by simpa using hcs k c hk);obtain⟨I1,s1,d1⟩:=u3 (OY n) cs h ds h2 hl ρ w I vs r hvs;have hd:=AB d1 hcell;have hdl:ds.length=cs.length:=by rw[((iC ds vs).1 d1).1,((eH cs vs).1 hvs).1]
          obtain⟨I2,s2,hI2⟩:=XG s1.rel hid' (hlen.trans hdl.symm) (fun b' hb'=>by rw[hρ]at hb';cases hb';exact hd);refine⟨I2,s1.trans s2,?_⟩;simp only[DR];refine⟨a,cap,rfl,hcap,?_⟩
          rcases h2' with h2'|h2'
          ·left;have:len=0:=om;subst this;simp
          ·right;obtain⟨hIb2,hd2⟩:=hI2 b hρ;refine⟨b,off,h2'.1,hIb2,?_⟩;have:=wP (len*e') (jX off hd2)
           simpa using this
        ·cases he
       ·cases he
      ·cases he
     ·cases he
  |agg cs=>exact kR h _ x h1 (by simpa only[frz]using he) ρ w I v r ha
  |tup vs=>exact kR h _ x h1 (by simpa only[frz]using he) ρ w I v r ha
  |junk=>exact kR h _ x h1 (by simpa only[frz]using he) ρ w I v r ha
theorem aFB{h:H}{asx:List A}{ds:List D}{h1:H}(he:frzL h asx=some (ds,h1)){ρ:Rho}{w:World}{I:Nat->Prop}{vs:List Value}(r:Rel G h ρ w I)(ha:ARv h ρ w I asx vs):
  ∃I',Step G h ρ w I h1 ρ w I'/\DRv w I' ds vs:=u3 (OY deep) asx h ds h1 he ρ w I vs r ha
def DA(w:World)(I:Nat->Prop)(x:A)(v:Value):Prop:=
 (∃y,x=.d y/\DR w I y v)\/(∃ds C,x=.agg (ds.map .d)/\v=.agg C/\DRv w I ds C.toList)
theorem DA.mono{w w':World}{I I':Nat->Prop}(hi:Imm w I w' I'){x:A}{v:Value}(h:DA w I x v):DA w' I' x v:=by
 rcases h with⟨y,rfl,hy⟩|⟨ds,C,rfl,rfl,hd⟩
 ·exact .inl ⟨y,rfl,nM hi y v hy⟩
 ·exact .inr ⟨ds,C,rfl,rfl,pG hi ds _ hd⟩
theorem DA.ar{w:World}{I:Nat->Prop}{x:A}{v:Value}(d:DA w I x v)(h:H)(ρ:Rho):AR h ρ w I x v:=by
 rcases d with⟨y,rfl,hy⟩|⟨ds,C,rfl,rfl,hd⟩
 ·simp only[AR];exact hy
 ·simp only[AR];exact⟨C,rfl,(oG ds _).2 hd⟩
def DAv(w:World)(I:Nat->Prop):List A->List Value->Prop
 | [],vs=>vs=[]
 |a::asx,vs=>∃v rest,vs=v::rest/\DA w I a v/\DAv w I asx rest
theorem DAv.mono{w w':World}{I I':Nat->Prop}(hi:Imm w I w' I'):∀ {xs:List A} {vs:List Value},DAv w I xs vs->DAv w' I' xs vs
 | [],_,h=>h
 |_::_,_,⟨v,rest,hv,ha,hr⟩=>⟨v,rest,hv,ha.mono hi,DAv.mono hi hr⟩
theorem DAv.ar{w:World}{I:Nat->Prop}(h:H)(ρ:Rho):∀ {xs:List A} {vs:List Value},DAv w I xs vs->ARv h ρ w I xs vs
 | [],_,d=>by simp only[ARv];exact d
 |_::_,_,⟨v,rest,hv,ha,hr⟩=>by simp only[ARv];exact⟨v,rest,hv,ha.ar h ρ,DAv.ar h ρ hr⟩
theorem aSK{h:H}{a x:A}{h1:H}(he:frzA h a=some (x,h1)){ρ:Rho}{w:World}{I:Nat->Prop}{v:Value}(r:Rel G h ρ w I)(ha:AR h ρ w I a v):
  ∃I',Step G h ρ w I h1 ρ w I'/\DA w I' x v:=by
 cases a with
 |agg cs=>
  simp only[frzA]at he
  split at he
  ·rename_i ds h2 hl
   obtain⟨rfl,rfl⟩:=he;obtain⟨C,rfl,hc⟩:=ha;obtain⟨I',s,d⟩:=aFB hl r hc;exact⟨I',s,.inr ⟨ds,C,rfl,rfl,d⟩⟩
  ·cases he
 |_=>
  simp only[frzA]at he
  split at he
  ·rename_i y h2 hl
   simp only[Option.some.injEq,Prod.mk.injEq]at he;obtain⟨rfl,rfl⟩:=he;obtain⟨I',s,d⟩:=OY deep h _ y h2 hl ρ w I v r ha;exact⟨I',s,.inl ⟨y,rfl,d⟩⟩
  ·cases he
theorem HY:∀(asx:List A) (h:H) (xs:List A) (h1:H),dX h asx=some (xs,h1)->∀(ρ:Rho) (w:World) (I:Nat->Prop) (vs:List Value),Rel G h ρ w I->ARv h ρ w I asx vs->
  ∃I',Step G h ρ w I h1 ρ w I'/\DAv w I' xs vs
 | [],h,ds,h1,he,ρ,w,I,vs,r,ha=>by
  obtain⟨rfl,rfl⟩:=he;exact⟨I,.refl r,ha⟩
 |a::asx,h,ds,h1,he,ρ,w,I,vs,r,ha=>by
  simp only[dX]at he
  split at he
  ·rename_i x h2 hx
   split at he
   ·rename_i ds' h3 hds
    simp only[Option.some.injEq,Prod.mk.injEq]at he;obtain⟨rfl,rfl⟩:=he;obtain⟨v,rest,rfl,hav,hrest⟩:=ha;obtain⟨I1,s1,d1⟩:=aSK hx r hav;obtain⟨I2,s2,d2⟩:=HY asx h2 ds' h3 hds ρ w I1 rest s1.rel (fL s1.ext asx rest hrest);exact⟨I2,s1.trans s2,v,rest,rfl,d1.mono s2.ext.imm,d2⟩
   ·cases he
  ·cases he
end
section
variable{G:Gnd}
theorem QU{P:Program}{t:TypeId}{d:TypeDesc}(h:P.underlying t=some d):∃i,P.info? t=some i:=by
 unfold Program.underlying at h
 split at h
 ·grind
 ·grind
 ·cases h
theorem aQ{P:Program}{t:TypeId}{d:TypeDesc}(h:P.underlying t=some d)(w:World):(underlying t).run P w=.ok d w:=by
 simp[underlying,h]
theorem wQ{P:Program}{t:TypeId}{i:TypeInfo}(h:P.info? t=some i)(w:World):(typeInfo t).run P w=.ok i w:=by
 simp[typeInfo,h]
theorem cP{P:Program}{t:TypeId}{i:TypeInfo}(h:P.info? t=some i)(w:World):(sizeOf t).run P w=.ok (P.cellsOf t) w:=by
 simp[sizeOf,wQ h,Program.cellsOf,h]
theorem MP{P:Program}{t:TypeId}{b:Bool}(h:dV P t=some b)(w:World):(isAgg t).run P w=.ok b w:=by
 unfold dV at h
 split at h
 ·rename_i hd;cases h;simp[isAgg,aQ hd]
 ·rename_i hd;cases h;simp[isAgg,aQ hd]
 ·rename_i d h1 h2 hd
  cases h
  cases d<;>first|(exact absurd rfl (h1 _))|(exact absurd rfl (h2 _ _))|simp[isAgg,aQ hd]
 ·cases h
theorem j3(b o n:Nat):Addr.add ⟨b,o,none⟩ n=⟨b,o+n,none⟩:=by
 unfold Addr.add;split
 ·grind
 ·rfl
theorem aF9{P:Program}{w:World}{b o:Nat}:∀(vs:List Value) (i:Nat) (acc:Array Value),(∀(k:Nat) (v:Value),vs[k]? =some v->cT w b (o+i+k)=some v)->
  (loadCellsFrom ⟨b,o,none⟩ i vs.length acc).run P w=.ok (acc++vs.toArray) w
 | [],i,acc,_=>by simp[loadCellsFrom]
 |v::vs,i,acc,h=>by
  have h0:w.cell? ⟨b,o+i,none⟩=some v:=by rw[cell?_eq];simpa using h 0 v sm
  have ih:=aF9 (P:=P) (w:=w) (b:=b) (o:=o) vs (i+1) (acc.push v) (fun k u hk=>by
   have:=h (k+1) u (by simpa using hk);rw[<-this];congr 1;omega)
  have e:acc.push v++vs.toArray=acc++(v::vs).toArray:=sm;rw[<-e,<-ih];simp only[loadCellsFrom,j3,Ae,Sem.run_bind,run_load];rw[h0];rfl
theorem run_loadCells'{P:Program}{w:World}{b o:Nat}(vs:List Value)(h:∀(k:Nat) (v:Value),vs[k]? =some v->cT w b (o+k)=some v):
  (loadCells ⟨b,o,none⟩ vs.length).run P w=.ok vs.toArray w:=by
 have:=aF9 (P:=P) (w:=w) (b:=b) (o:=o) vs 0 #[] (fun k v hk=>by simpa using h k v hk)
 simpa [loadCells]using this
theorem aKs{h:H}{ρ:Rho}{w:World}{I:Nat->Prop}{a:A}{v:Value}{run:List A}(he:m3 h a=some run)(r:Rel G h ρ w I)(ha:AR h ρ w I a v):
  ∃b o,v=.pointer (some ⟨b,o,none⟩)/\∀(k:Nat) (c:A),run[k]? =some c->∃u,cT w b (o+k)=some u/\AR h ρ w I c u/\u.oneCell'=true:=by
 have data:∀(cs:List D) (b o:Nat),DRs w I cs b 0->∀(k:Nat) (c:A),((cs.drop o).map A.d)[k]? =some c->∃u,cT w b (o+k)=some u/\AR h ρ w I c u/\u.oneCell'=true:=by
  intro cs b o hd k c hk;rw[Bd]at hk
  cases hk':(cs.drop o)[k]? with
  |none=>grind
  |some d=>
   rw[hk']at hk;simp at hk;subst hk;obtain⟨u,hu,hdu,ho⟩:=(eX _ _ _).1 (jX o hd) k d hk';exact⟨u,by simpa using hu,by simp only[AR];exact hdu,ho⟩
 cases a with
 |ptr id gen off=>
  obtain⟨b,rfl,hp⟩:=ha;refine⟨b,off,rfl,?_⟩;simp only[m3]at he
  cases hid:h[id]? with
  |none=>grind
  |some o=>
   rw[hid]at he;have hO:=r.obj id o hid
   cases o with
   |box cs=>
    simp only[Option.some.injEq]at he;subst he;simp only[ptOK,hid]at hp;obtain⟨b',hb',_,_,_,_,_,_,hcs⟩:=hO;rw[hp.2]at hb';cases hb';intro k c hk;exact hcs (off+k) c (by simpa using hk)
   |arr cs esz g=>
    simp only[]at he
    split at he
    ·rename_i hg
     simp only[Option.some.injEq]at he;subst he;simp only[ptOK,hid]at hp;simp only[OR,hp.2 hg.symm]at hO;obtain⟨_,_,_,_,_,_,_,hd⟩:=hO;exact data cs b off hd
    ·cases he
   |vec cs esz g=>
    simp only[]at he
    split at he
    ·rename_i hg
     simp only[Option.some.injEq]at he;subst he;simp only[ptOK,hid]at hp;simp only[OR,hp.2 hg.symm]at hO;obtain⟨_,_,_,_,_,_,_,hcs⟩:=hO;intro k c hk;exact hcs (off+k) c (by simpa using hk)
    ·cases he
   |ice cs esz g=>
    simp only[]at he
    split at he
    ·rename_i hg
     simp only[Option.some.injEq]at he;subst he;simp only[ptOK,hid]at hp;exact data cs b off (hp.2 hg.symm).2
    ·cases he
   |log cs=>
    simp only[]at he
    split at he
    ·rename_i hg
     simp only[Option.some.injEq]at he;subst he;simp only[ptOK,hid]at hp
     have hd:DRs w I (cs.take (gen-1)) b 0:=by
      rcases hp.2 om with h1|h1
      ·simp only[OR,h1]at hO;obtain⟨_,_,_,_,_,_,hd⟩:=hO;exact aFs _ hd
      ·exact h1.2
     intro k c hk;refine data _ b off hd k c ?_;rw[Bd,Cz]at hk
     split at hk
     ·grind
     ·cases hk
    ·cases he
   |mp es=>grind
   |void=>grind
 |d x=>
  cases x with
  |iptr cs=>
   obtain⟨b,o,rfl,_,hd⟩:=ha;simp only[m3,Option.some.injEq]at he;subst he;refine⟨b,o,rfl,fun k c hk=> ?_⟩;rw[Bd]at hk
   cases hk':cs[k]? with
   |none=>grind
   |some d=>
    rw[hk']at hk;simp at hk;subst hk;obtain⟨u,hu,hdu,ho⟩:=(eX _ _ _).1 hd k d hk';exact⟨u,hu,by simp only[AR];exact hdu,ho⟩
  |_=>simp[m3]at he
 |_=>simp[m3]at he
theorem aP8{h:H}{ρ:Rho}{w:World}{I:Nat->Prop}{b o:Nat}:∀(run:List A),(∀(k:Nat) (c:A),run[k]? =some c->∃u,cT w b (o+k)=some u/\AR h ρ w I c u/\u.oneCell'=true)->
  ∃vs,ARv h ρ w I run vs/\vs.length=run.length/\∀(k:Nat) (v:Value),vs[k]? =some v->cT w b (o+k)=some v:=by
 intro run hc;obtain⟨vs,h1,h2⟩:=wY run o hc;exact⟨vs,h1,((eH _ _).1 h1).1.symm,fun k v hk=>(h2 k v hk).1⟩
theorem aL0{P:Program}{h:H}{ρ:Rho}{w:World}{I:Nat->Prop}{t:TypeId}{a x:A}{v:Value}(he:B5 P h t a=some x)(r:Rel G h ρ w I)(ha:AR h ρ w I a v):
  ∃u,(Instr.loadAt t v).run P w=.ok u w/\AR h ρ w I x u:=by
 unfold B5 at he
 split at he
 ·rename_i run b hrun hagg
  obtain⟨bl,o,rfl,hc⟩:=aKs hrun r ha
  have hinfo:∃i,P.info? t=some i:=by
   unfold dV at hagg
   cases hu:P.underlying t with
   |none=>grind
   |some d=>exact QU hu
  obtain⟨i,hi⟩:=hinfo;unfold s8 at he
  cases b with
  |true=>
   rw[if_pos rfl]at he
   split at he
   ·rename_i hle
    cases he
    obtain⟨vs,h1,h2,h3⟩:=aP8 (h:=h) (ρ:=ρ) (w:=w) (I:=I) (b:=bl) (o:=o) (run.take (P.cellsOf t)) (fun k c hk=>by
     rw[Cz]at hk
     split at hk
     ·grind
     ·cases hk)
    have hl:vs.length=P.cellsOf t:=by grind
    refine⟨.agg vs.toArray,?_,by simp only[AR];exact⟨vs.toArray,rfl,by simpa using h1⟩⟩;have hload:=run_loadCells' (P:=P) vs h3;rw[hl]at hload;simp[Instr.loadAt,Instr.sureAddr,loadVar,MP hagg,cP hi,hload]
   ·cases he
  |false=>
   cases run with
   |nil=>grind
   |cons c run=>
    simp at he;subst he;obtain⟨u,hu,hau,_⟩:=hc 0 c sm;refine⟨u,?_,hau⟩;have:w.cell? ⟨bl,o,none⟩=some u:=by rw[cell?_eq];simpa using hu
    simp[Instr.loadAt,Instr.sureAddr,loadVar,MP hagg,this]
 ·cases he
def cV(w:World)(b:Nat)(o:Obj):World:={ w with heap:=w.heap.setIfInBounds b o}
theorem aLf{w:World}{b k:Nat}{C:Array Value}{E:TypeId}{fz:Nat×Nat}(hb:w.heap[b]? =some (.cells C E fz))(v:Value):
  w.setCell ⟨b,k,none⟩ v=cV w b (.cells (C.setIfInBounds k v) E fz):=by
 unfold World.setCell cV
 congr 1
 apply Array.ext_getElem?;intro j;simp only[Ei,Array.getElem?_setIfInBounds]
 by_cases e:b=j
 ·grind
 ·simp[e]
theorem aNM(w:World)(b:Nat)(o o':Obj):cV (cV w b o) b o'=cV w b o':=by
 unfold cV;simp only[World.mk.injEq,and_true];apply Array.ext_getElem?;intro j
 by_cases e:b=j<;>simp[e]
theorem eC{w:World}{b:Nat}{o:Obj}(hb:b<w.heap.size):(cV w b o).heap[b]? =some o:=by
 simp[cV,hb]
theorem nG{w:World}{b k:Nat}{o:Obj}(h:k≠b):(cV w b o).heap[k]? =w.heap[k]?:=by
 simp only[cV,Array.getElem?_setIfInBounds];rw[if_neg (Ne.symm h)]
theorem zQ{P:Program}{b o:Nat}{E:TypeId}{fz:Nat×Nat}:∀(vs:List Value) (i:Nat) (C:Array Value) (w:World),w.heap[b]? =some (.cells C E fz)->wH C fz->o+i+vs.length<=C.size->(∀v∈vs,v.oneCell'=true)->
  ∃C':Array Value,(storeCells ⟨b,o,none⟩ vs i).run P w=.ok () (cV w b (.cells C' E fz))/\C'.size=C.size/\∀k:Nat,C'[k]? =if o+i<=k/\k<o+i+vs.length then vs[k-(o+i)]? else C[k]?
 | [],i,C,w,hb,_,_,_=>by
  refine⟨C,?_,rfl,fun k=> ?_⟩
  ·have:cV w b (.cells C E fz)=w:=by
    unfold cV;obtain⟨hlt,he⟩:=Bl.1 hb;have:w.heap.setIfInBounds b (.cells C E fz)=w.heap:=by grind
    rw[this]
   rw[this];simp[storeCells]
  ·grind
 |v::vs,i,C,w,hb,hfz,hl,hone=>by
  have hlt:=(Bl.1 hb).1;simp only[Ae]at hl;have hk:o+i<C.size:=om;have hcell:w.cell? ⟨b,o+i,none⟩=some C[o+i]:=by rw[cell?_eq];simp[cT,hb,hk]
  have hfr:w.frozen? ⟨b,o+i,none⟩=false:=by
   have:=hfz (o+i) hk;unfold World.frozen?;simp only[hb]
   rcases fz with⟨lo,hi⟩
   simp only[Bool.and_eq_false_iff,decide_eq_false_iff_not];omega
  have hst:(store (Addr.add ⟨b,o,none⟩ i) v).run P w=.ok () (cV w b (.cells (C.setIfInBounds (o+i) v) E fz)):=by
   rw[j3,run_store P w _ v _ (hone v sm),hcell];simp only[hfr];rw[aLf hb];rfl
  obtain⟨C',h1,h2,h3⟩:=zQ (P:=P) (o:=o) vs (i+1) (C.setIfInBounds (o+i) v) (cV w b (.cells (C.setIfInBounds (o+i) v) E fz)) (eC hlt)
   (fun j hj=>hfz j (by simpa using hj)) (by simp;omega) (fun u hu=>hone u (by simp[hu]))
  rw[aNM]at h1;refine⟨C',by simp only[storeCells,Sem.run_bind];rw[hst];simpa using h1,by simpa using h2,fun k=> ?_⟩;rw[h3 k];simp only[Ae]
  by_cases e:k=o+i
  ·grind
  ·grind
end
end Ev
end Go.Proofs.YtppffbehejpglaaGreat
