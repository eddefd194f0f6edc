/-
  How the abstract state stands for a state of the machine, and what keeps that.
-/
import Derived.Test.YtahbdkmimmnadaaGreatDoorEvDef
import Derived.MapKept
set_option linter.unusedSimpArgs false
set_option linter.unusedVariables false
set_option linter.unusedSectionVars false
namespace Go.Proofs.YtahbdkmimmnadaaGreatDoor
namespace Ev
section
structure Gnd where
 cells:List (Nat×Array Value)
 keeps:Bool
variable{G:Gnd}
def cellAt(w:World)(b k:Nat):Option Value:=
 match w.heap[b]? with
 |some (.cells C _ _)=>C[k]?
 |_=>none
theorem cell?_eq (w:World) (b k:Nat):w.cell? ⟨b,k,none⟩=cellAt w b k:=by
 unfold World.cell? cellAt
 split<;>simp_all
theorem dX{w w':World}{b k:Nat}(h:w'.heap[b]? =w.heap[b]?):cellAt w' b k=cellAt w b k:=by
 unfold cellAt;rw[h]
mutual
def DR(w:World)(I:Nat->Prop):D->Value->Prop
 |.undef,v=>v=undef
 |.int k n,v=>v=.int k n
 |.bool b,v=>v=.bool b
 |.str s,v=>v=.string ⟨s.toArray⟩
 |.ivs n cs,v=>∃a cap,v=.slice a n cap/\n<=cap/\(cs=[]\/∃b o,a=some ⟨b,o,none⟩/\I b/\DRs w I cs b o)
 |.nils,v=>∃a,v=.slice a 0 0
 |.iptr cs,v=>∃b o,v=.pointer (some ⟨b,o,none⟩)/\I b/\DRs w I cs b o
 |.nilp,v=>v=.pointer none
 |.fn f caps,v=>∃cv,v=.func (.func f) #[] cv/\DRv w I caps cv.toList
 |.nilfn,v=>v=.nilFunc
 |.nili,v=>v=.nilIface
 |.nilm,v=>v=.map none
 |.ifc t x,v=>∃u,v=.iface t u/\DR w I x u
def DRs(w:World)(I:Nat->Prop):List D->Nat->Nat->Prop
 | [],_,_=>True
 |d::ds,b,o=>(∃v,cellAt w b o=some v/\DR w I d v/\v.oneCell'=true)/\DRs w I ds b (o+1)
def DRv(w:World)(I:Nat->Prop):List D->List Value->Prop
 | [],vs=>vs=[]
 |d::ds,vs=>∃v rest,vs=v::rest/\DR w I d v/\DRv w I ds rest
end
section mono
variable{w w':World}{I I':Nat->Prop}
mutual
theorem nR(hI:∀b,I b->I' b/\w'.heap[b]? =w.heap[b]?):∀(d:D) (v:Value),DR w I d v->DR w' I' d v
 |.undef,v,h=>by simpa only[DR]using h
 |.int k n,v,h=>by simpa only[DR]using h
 |.bool b,v,h=>by simpa only[DR]using h
 |.str s,v,h=>by simpa only[DR]using h
 |.ivs n cs,v,h=>by
  simp only[DR]at h|-;obtain⟨a,cap,hv,hcap,hc⟩:=h;refine⟨a,cap,hv,hcap,?_⟩
  rcases hc with hc|⟨b,o,ha,hb,hr⟩
  ·exact .inl hc
  ·exact .inr ⟨b,o,ha,(hI b hb).1,hU hI cs b o hb hr⟩
 |.nils,v,h=>by simpa only[DR]using h
 |.iptr cs,v,h=>by
  simp only[DR]at h|-;obtain⟨b,o,hv,hb,hr⟩:=h;exact⟨b,o,hv,(hI b hb).1,hU hI cs b o hb hr⟩
 |.nilp,v,h=>by simpa only[DR]using h
 |.fn f caps,v,h=>by
  simp only[DR]at h|-;obtain⟨cv,hv,hc⟩:=h;exact⟨cv,hv,oX hI caps _ hc⟩
 |.nilfn,v,h=>by simpa only[DR]using h
 |.nili,v,h=>by simpa only[DR]using h
 |.nilm,v,h=>by simpa only[DR]using h
 |.ifc t x,v,h=>by
  simp only[DR]at h|-;obtain⟨u,hv,hc⟩:=h;exact⟨u,hv,nR hI x u hc⟩
theorem hU(hI:∀b,I b->I' b/\w'.heap[b]? =w.heap[b]?):∀(ds:List D) (b o:Nat),I b->DRs w I ds b o->DRs w' I' ds b o
 | [],_,_,_,_=>by simp only[DRs]
 |d::ds,b,o,hb,h=>by
  simp only[DRs]at h|-;obtain⟨⟨v,hv,hd,hn⟩,hr⟩:=h;exact⟨⟨v,by rw[dX (hI b hb).2];exact hv,nR hI d v hd,hn⟩,hU hI ds b (o+1) hb hr⟩
theorem oX(hI:∀b,I b->I' b/\w'.heap[b]? =w.heap[b]?):∀(ds:List D) (vs:List Value),DRv w I ds vs->DRv w' I' ds vs
 | [],_,h=>by simpa only[DRv]using h
 |d::ds,vs,h=>by
  simp only[DRv]at h|-;obtain⟨v,rest,hv,hd,hr⟩:=h;exact⟨v,rest,hv,nR hI d v hd,oX hI ds rest hr⟩
end
end mono
theorem fX{w:World}{I:Nat->Prop}:∀(ds:List D) (b o:Nat),DRs w I ds b o↔∀(k:Nat) (d:D),ds[k]? =some d->∃v,cellAt w b (o+k)=some v/\DR w I d v/\v.oneCell'=true
 | [],b,o=>by simp[DRs]
 |d::ds,b,o=>by
  simp only[DRs];rw[fX ds b (o+1)]
  constructor
  ·grind
  ·intro h;refine⟨?_,fun k x hk=> ?_⟩
   ·obtain⟨v,hv,hd⟩:=h 0 d sm;exact⟨v,by simpa using hv,hd⟩
   ·obtain⟨v,hv,hd⟩:=h (k+1) x (by simpa using hk);exact⟨v,by rw[<-hv];congr 1;omega,hd⟩
theorem j6{w:World}{I:Nat->Prop}{ds:List D}{b o:Nat}(n:Nat)(h:DRs w I ds b o):DRs w I (ds.drop n) b (o+n):=by
 rw[fX]at h|-;intro k d hk;obtain⟨v,hv,hd⟩:=h (n+k) d (by simpa using hk);exact⟨v,by rw[<-hv];congr 1;omega,hd⟩
theorem wI{w:World}{I:Nat->Prop}{ds:List D}{b o:Nat}(n:Nat)(h:DRs w I ds b o):DRs w I (ds.take n) b o:=by
 rw[fX]at h|-;intro k d hk;rw[Dh]at hk
 split at hk
 ·grind
 ·cases hk
theorem xU{w w':World}{I I':Nat->Prop}(hI:∀b,I b->I' b/\w'.heap[b]? =w.heap[b]?){ds:List D}{b o:Nat}(hc:∀k,k<ds.length->cellAt w' b (o+k)=cellAt w b (o+k))(h:DRs w I ds b o):DRs w' I' ds b o:=by
 rw[fX]at h|-;intro k d hk;obtain⟨v,hv,hd⟩:=h k d hk;have hlt:k<ds.length:=by grind
 exact⟨v,by rw[hc k hlt];exact hv,nR hI d v hd.1,hd.2⟩
theorem iD{w:World}{I:Nat->Prop}:∀(ds:List D) (vs:List Value),DRv w I ds vs↔ds.length=vs.length/\∀(k:Nat) (d:D),ds[k]? =some d->∃v,vs[k]? =some v/\DR w I d v
 | [],vs=>by
  cases vs<;>simp[DRv]
 |d::ds,vs=>by
  constructor
  ·rintro⟨v,rest,rfl,hd,hr⟩;obtain⟨hl,hall⟩:=(iD ds rest).1 hr;refine⟨by simp[hl],fun k x hk=> ?_⟩
   cases k with
   |zero=>grind
   |succ k=>grind
  ·rintro⟨hl,hall⟩
   cases vs with
   |nil=>grind
   |cons v rest=>
    refine⟨v,rest,rfl,?_,(iD ds rest).2 ⟨by simpa using hl,fun k x hk=> ?_⟩⟩
    ·obtain⟨u,hu,hd⟩:=hall 0 d sm;simp at hu;subst hu;exact hd
    ·simpa using hall (k+1) x (by simpa using hk)
def wM(C:Array Value)(fz:Nat×Nat):Prop:=∀j,j<C.size->¬(fz.1<=j/\j<fz.2)
def KN(esz:Nat)(C:Array Value)(fz:Nat×Nat):Prop:=wM C fz/\(esz≠1->¬(fz.1<=C.size/\C.size<fz.2))
theorem KN.keep{esz:Nat}{C C':Array Value}{fz:Nat×Nat}(h:KN esz C fz)(hs:C'.size=C.size):KN esz C' fz:=by
 unfold KN wM at h|-;rw[hs];exact h
theorem l9(esz:Nat)(C:Array Value):KN esz C (0,0):=⟨fun j _ h=>by simp at h,fun _ h=>by simp at h⟩
abbrev Rho:=Nat->Option Nat
def slOK(h:H)(ρ:Rho)(w:World)(I:Nat->Prop)(id gen off len:Nat)(a:Option Addr)(cap:Nat):Prop:=
 match h[id]? with
 |some (.arr cs esz g)=>gen<=g/\(gen=g->len<=cap/\match ρ id with
   |none=>cap=0
   |some b=>cap=0\/(a=some ⟨b,off,none⟩/\off+len*esz<=cs.length/\∃C E fz,w.heap[b]? =some (.cells C E fz)/\off+cap*esz<=C.size))
 |some (.ice cs esz g)=>gen<=g/\(gen=g->len<=cap/\(len=0\/(off+len*esz<=cs.length/\∃b,a=some ⟨b,off,none⟩/\I b/\DRs w I cs b 0)))
 |some (.vec cs esz g)=>gen<=g/\(gen=g->len<=cap/\match ρ id with
   |none=>cap=0
   |some b=>cap=0\/(a=some ⟨b,off,none⟩/\off+len*esz<=cs.length/\∃C E fz,w.heap[b]? =some (.cells C E fz)/\off+cap*esz<=C.size))
 |some (.log cs)=>gen<=cs.length+1/\(0<gen->len<=cap/\(len=0\/(off+len<gen/\∃b,a=some ⟨b,off,none⟩/\(ρ id=some b\/(I b/\DRs w I (cs.take (gen-1)) b 0))))/\
   (gen=cs.length+1->cap=0\/∃b,ρ id=some b/\a=some ⟨b,off,none⟩/\∃C E fz,w.heap[b]? =some (.cells C E fz)/\off+cap<=C.size))
 |some (.box _)=>False
 |some (.mp _)=>False
 |some .void=>False
 |none=>False
def ptOK(h:H)(ρ:Rho)(w:World)(I:Nat->Prop)(id gen b:Nat):Prop:=
 match h[id]? with
 |some (.box _)=>gen=0/\ρ id=some b
 |some (.arr _ _ g)=>gen<=g/\(gen=g->ρ id=some b)
 |some (.vec _ _ g)=>gen<=g/\(gen=g->ρ id=some b)
 |some (.ice cs _ g)=>gen<=g/\(gen=g->I b/\DRs w I cs b 0)
 |some (.log cs)=>gen<=cs.length+1/\(0<gen->ρ id=some b\/(I b/\DRs w I (cs.take (gen-1)) b 0))
 |some (.mp _)=>False
 |some .void=>False
 |none=>False
def mpOK(h:H)(ρ:Rho)(id b:Nat):Prop:=
 match h[id]? with
 |some (.mp _)=>ρ id=some b
 |_=>False
def dS:D->Value
 |.int k n=>.int k n
 |.bool b=>.bool b
 |.str s=>.string ⟨s.toArray⟩
 |_=>undef
def aEp(es:List (D×D))(M:Array MapEntry):Prop:=
 M.toList.map (fun e=>(e.key,e.val))=es.map (fun e=>(dS e.1,dS e.2))/\∀e∈es,BZ e.1=true/\BZ e.2=true
mutual
def AR(h:H)(ρ:Rho)(w:World)(I:Nat->Prop):A->Value->Prop
 |.d x,v=>DR w I x v
 |.sl id gen off len,v=>∃a cap,v=.slice a len cap/\slOK h ρ w I id gen off len a cap
 |.ptr id gen off,v=>∃b,v=.pointer (some ⟨b,off,none⟩)/\ptOK h ρ w I id gen b
 |.mp id,v=>∃b,v=.map (some b)/\mpOK h ρ id b
 |.clo f caps,v=>∃cv,v=.func (.func f) #[] cv/\ARv h ρ w I caps cv.toList
 |.agg cs,v=>∃C,v=.agg C/\ARv h ρ w I cs C.toList
 |.tup cs,v=>∃C,v=.tuple C/\ARv h ρ w I cs C.toList
 |.junk,_=>True
def ARv(h:H)(ρ:Rho)(w:World)(I:Nat->Prop):List A->List Value->Prop
 | [],vs=>vs=[]
 |a::asx,vs=>∃v rest,vs=v::rest/\AR h ρ w I a v/\ARv h ρ w I asx rest
end
theorem eP{h:H}{ρ:Rho}{w:World}{I:Nat->Prop}:∀(asx:List A) (vs:List Value),ARv h ρ w I asx vs↔asx.length=vs.length/\∀(k:Nat) (a:A),asx[k]? =some a->∃v,vs[k]? =some v/\AR h ρ w I a v
 | [],vs=>by
  cases vs<;>simp[ARv]
 |d::ds,vs=>by
  constructor
  ·rintro⟨v,rest,rfl,hd,hr⟩;obtain⟨hl,hall⟩:=(eP ds rest).1 hr;refine⟨by simp[hl],fun k x hk=> ?_⟩
   cases k with
   |zero=>grind
   |succ k=>grind
  ·rintro⟨hl,hall⟩
   cases vs with
   |nil=>grind
   |cons v rest=>
    refine⟨v,rest,rfl,?_,(eP ds rest).2 ⟨by simpa using hl,fun k x hk=> ?_⟩⟩
    ·obtain⟨u,hu,hd⟩:=hall 0 d sm;simp at hu;subst hu;exact hd
    ·simpa using hall (k+1) x (by simpa using hk)
theorem nW{h:H}{ρ:Rho}{w:World}{I:Nat->Prop}:∀(ds:List D) (vs:List Value),ARv h ρ w I (ds.map .d) vs↔DRv w I ds vs
 | [],vs=>by simp[ARv,DRv]
 |d::ds,vs=>by
  constructor
  ·rintro⟨v,rest,hv,hd,hr⟩;exact⟨v,rest,hv,hd,(nW ds rest).1 hr⟩
  ·rintro⟨v,rest,hv,hd,hr⟩;exact⟨v,rest,hv,hd,(nW ds rest).2 hr⟩
def ARs(h:H)(ρ:Rho)(w:World)(I:Nat->Prop)(cs:List A)(b:Nat):Prop:=
 ∀(k:Nat) (c:A),cs[k]? =some c->∃v,cellAt w b k=some v/\AR h ρ w I c v/\v.oneCell'=true
def OR(h:H)(ρ:Rho)(w:World)(I:Nat->Prop)(id:Nat):O->Prop
 |.arr cs esz _=>match ρ id with
  |none=>cs=[]
  |some b=>0<esz/\¬I b/\∃C E fz,w.heap[b]? =some (.cells C E fz)/\KN esz C fz/\DRs w I cs b 0
 |.box cs=>∃b,ρ id=some b/\¬I b/\∃C E fz,w.heap[b]? =some (.cells C E fz)/\wM C fz/\ARs h ρ w I cs b
 |.vec cs esz _=>match ρ id with
  |none=>cs=[]
  |some b=>0<esz/\¬I b/\∃C E fz,w.heap[b]? =some (.cells C E fz)/\KN esz C fz/\ARs h ρ w I cs b
 |.log cs=>match ρ id with
  |none=>cs=[]
  |some b=>¬I b/\∃C E fz,w.heap[b]? =some (.cells C E fz)/\KN 1 C fz/\DRs w I cs b 0
 |.mp es=>∃b,ρ id=some b/\¬I b/\∃M c,w.heap[b]? =some (.map M c)/\aEp es M/\MapKept.Stamped M c
 |.ice _ _ _=>True
 |.void=>True
def live:O->Prop
 |.ice _ _ _=>False
 |.void=>False
 |_=>True
def sW(h:H)(ρ:Rho)(b:Nat):Prop:=∃id o,ρ id=some b/\h[id]? =some o/\live o
def Imm(w:World)(I:Nat->Prop)(w':World)(I':Nat->Prop):Prop:=∀b,I b->I' b/\w'.heap[b]? =w.heap[b]?
def Ground(G:Gnd)(w:World)(I:Nat->Prop):Prop:=∀b C,(b,C)∈G.cells->I b/\∀(j:Nat) (v:Value),C[j]? =some v->cellAt w b j=some v
theorem Ground.mono{w w':World}{I I':Nat->Prop}(g:Ground G w I)(hi:Imm w I w' I'):Ground G w' I':=fun b C hb=>by
 obtain⟨h1,h2⟩:=g b C hb;obtain⟨h3,h4⟩:=hi b h1;exact⟨h3,fun j v hj=>by rw[dX h4];exact h2 j v hj⟩
theorem aMp{m:Bool}(w:World)(I:Nat->Prop):Ground ⟨[],m⟩ w I:=fun b C hb=>by cases hb
structure Rel(G:Gnd)(h:H)(ρ:Rho)(w:World)(I:Nat->Prop):Prop where
 obj:∀id o,h[id]? =some o->OR h ρ w I id o
 inj:∀id id' b o o',ρ id=some b->ρ id'=some b->h[id]? =some o->h[id']? =some o'->live o->live o'->id=id'
 imm:∀b,I b->b<w.heap.size
 ground:Ground G w I
theorem Rel.own_not_imm{h:H}{ρ:Rho}{w:World}{I:Nat->Prop}(r:Rel G h ρ w I){b:Nat}(ho:sW h ρ b):¬I b/\b<w.heap.size:=by
 obtain⟨id,o,hρ,hid,hl⟩:=ho;have:=r.obj id o hid
 cases o with
 |arr cs e g=>
  simp only[OR,hρ]at this;obtain⟨_,h1,C,E,fz,h2,_⟩:=this;exact⟨h1,(Bn.1 h2).1⟩
 |box cs=>
  obtain⟨b',hb',h1,C,E,fz,h2,_⟩:=this;rw[hρ]at hb';cases hb';exact⟨h1,(Bn.1 h2).1⟩
 |vec cs e g=>
  simp only[OR,hρ]at this;obtain⟨_,h1,C,E,fz,h2,_⟩:=this;exact⟨h1,(Bn.1 h2).1⟩
 |log cs=>
  simp only[OR,hρ]at this;obtain⟨h1,C,E,fz,h2,_⟩:=this;exact⟨h1,(Bn.1 h2).1⟩
 |mp es=>
  obtain⟨b',hb',h1,M,c,h2,_⟩:=this;rw[hρ]at hb';cases hb';exact⟨h1,(Bn.1 h2).1⟩
 |ice cs e g=>exact hl.elim
 |void=>exact hl.elim
structure Ext(h:H)(ρ:Rho)(w:World)(I:Nat->Prop)(h':H)(ρ':Rho)(w':World)(I':Nat->Prop):Prop where
 imm:Imm w I w' I'
 sl:∀id gen off len a cap,slOK h ρ w I id gen off len a cap->slOK h' ρ' w' I' id gen off len a cap
 pt:∀id gen b,ptOK h ρ w I id gen b->ptOK h' ρ' w' I' id gen b
 mp:∀id b,mpOK h ρ id b->mpOK h' ρ' id b
theorem Ext.refl(h:H)(ρ:Rho)(w:World)(I:Nat->Prop):Ext h ρ w I h ρ w I:=⟨fun _ h=>⟨h,rfl⟩,fun _ _ _ _ _ _ h=>h,fun _ _ _ h=>h,fun _ _ h=>h⟩
theorem Ext.trans{h1:H}{ρ1:Rho}{w1:World}{I1:Nat->Prop}{h2:H}{ρ2:Rho}{w2:World}{I2:Nat->Prop}{h3:H}{ρ3:Rho}{w3:World}{I3:Nat->Prop}
  (a:Ext h1 ρ1 w1 I1 h2 ρ2 w2 I2) (b:Ext h2 ρ2 w2 I2 h3 ρ3 w3 I3):Ext h1 ρ1 w1 I1 h3 ρ3 w3 I3:=
 ⟨fun k hk=>⟨(b.imm k (a.imm k hk).1).1,(b.imm k (a.imm k hk).1).2.trans (a.imm k hk).2⟩,fun _ _ _ _ _ _ h=>b.sl _ _ _ _ _ _ (a.sl _ _ _ _ _ _ h),fun _ _ _ h=>b.pt _ _ _ (a.pt _ _ _ h),fun _ _ h=>b.mp _ _ (a.mp _ _ h)⟩
section ext
variable{h h':H}{ρ ρ':Rho}{w w':World}{I I':Nat->Prop}
mutual
theorem iY(hE:Ext h ρ w I h' ρ' w' I'):∀(a:A) (v:Value),AR h ρ w I a v->AR h' ρ' w' I' a v
 |.d x,v,hh=>by simp only[AR]at hh|-;exact nR hE.imm x v hh
 |.sl id gen off len,v,hh=>by
  simp only[AR]at hh|-;obtain⟨a,cap,hv,ho⟩:=hh;exact⟨a,cap,hv,hE.sl _ _ _ _ _ _ ho⟩
 |.ptr id gen off,v,hh=>by
  simp only[AR]at hh|-;obtain⟨b,hv,ho⟩:=hh;exact⟨b,hv,hE.pt _ _ _ ho⟩
 |.mp id,v,hh=>by
  simp only[AR]at hh|-;obtain⟨b,hv,ho⟩:=hh;exact⟨b,hv,hE.mp _ _ ho⟩
 |.clo f caps,v,hh=>by
  simp only[AR]at hh|-;obtain⟨cv,hv,hc⟩:=hh;exact⟨cv,hv,fW hE caps _ hc⟩
 |.agg cs,v,hh=>by
  simp only[AR]at hh|-;obtain⟨cv,hv,hc⟩:=hh;exact⟨cv,hv,fW hE cs _ hc⟩
 |.tup cs,v,hh=>by
  simp only[AR]at hh|-;obtain⟨cv,hv,hc⟩:=hh;exact⟨cv,hv,fW hE cs _ hc⟩
 |.junk,v,_=>by simp only[AR]
theorem fW(hE:Ext h ρ w I h' ρ' w' I'):∀(asx:List A) (vs:List Value),ARv h ρ w I asx vs->ARv h' ρ' w' I' asx vs
 | [],vs,hh=>by simpa only[ARv]using hh
 |a::asx,vs,hh=>by
  simp only[ARv]at hh|-;obtain⟨v,rest,hv,ha,hr⟩:=hh;exact⟨v,rest,hv,iY hE a v ha,fW hE asx rest hr⟩
end
end ext
def i0(h:H)(ρ:Rho)(w:World)(I:Nat->Prop)(id:Nat)(h':H)(ρ':Rho)(w':World)(I':Nat->Prop)(k:Nat):Prop:=
 (∀gen off len a cap,slOK h ρ w I id gen off len a cap->slOK h' ρ' w' I' k gen off len a cap)/\(∀gen b,ptOK h ρ w I id gen b->ptOK h' ρ' w' I' k gen b)/\(∀b,mpOK h ρ id b->mpOK h' ρ' k b)
section ren
variable{h h':H}{ρ ρ':Rho}{w w':World}{I I':Nat->Prop}{f:Nat->Option Nat}
mutual
theorem DL(hi:Imm w I w' I')(hf:∀id k,f id=some k->i0 h ρ w I id h' ρ' w' I' k):∀(a:A) (v:Value),AR h ρ w I a v->AR h' ρ' w' I' (mapA f a) v
 |.d x,v,hh=>by simp only[AR,mapA]at hh|-;exact nR hi x v hh
 |.sl id gen off len,v,hh=>by
  simp only[AR]at hh;obtain⟨a,cap,hv,ho⟩:=hh;simp only[mapA]
  cases hk:f id with
  |none=>simp only[AR]
  |some k=>simp only[AR];exact⟨a,cap,hv,(hf id k hk).1 _ _ _ _ _ ho⟩
 |.ptr id gen off,v,hh=>by
  simp only[AR]at hh;obtain⟨b,hv,ho⟩:=hh;simp only[mapA]
  cases hk:f id with
  |none=>simp only[AR]
  |some k=>simp only[AR];exact⟨b,hv,(hf id k hk).2.1 _ _ ho⟩
 |.mp id,v,hh=>by
  simp only[AR]at hh;obtain⟨b,hv,ho⟩:=hh;simp only[mapA]
  cases hk:f id with
  |none=>simp only[AR]
  |some k=>simp only[AR];exact⟨b,hv,(hf id k hk).2.2 _ ho⟩
 |.clo g caps,v,hh=>by
  simp only[AR,mapA]at hh|-;obtain⟨cv,hv,hc⟩:=hh;exact⟨cv,hv,A9 hi hf caps _ hc⟩
 |.agg cs,v,hh=>by
  simp only[AR,mapA]at hh|-;obtain⟨cv,hv,hc⟩:=hh;exact⟨cv,hv,A9 hi hf cs _ hc⟩
 |.tup cs,v,hh=>by
  simp only[AR,mapA]at hh|-;obtain⟨cv,hv,hc⟩:=hh;exact⟨cv,hv,A9 hi hf cs _ hc⟩
 |.junk,v,_=>by simp only[AR,mapA]
theorem A9(hi:Imm w I w' I')(hf:∀id k,f id=some k->i0 h ρ w I id h' ρ' w' I' k):∀(asx:List A) (vs:List Value),ARv h ρ w I asx vs->ARv h' ρ' w' I' (aE f asx) vs
 | [],vs,hh=>by simpa only[ARv,aE]using hh
 |a::asx,vs,hh=>by
  simp only[ARv,aE]at hh|-;obtain⟨v,rest,hv,ha,hr⟩:=hh;exact⟨v,rest,hv,DL hi hf a v ha,A9 hi hf asx rest hr⟩
end
end ren
structure Keep(m:Bool)(own:Nat->Prop)(w:World)(I:Nat->Prop)(w':World)(I':Nat->Prop):Prop where
 os:w'.os=w.os
 tape:w'.tape=w.tape
 output:w'.output=w.output
 size:w.heap.size<=w'.heap.size
 same:∀b,b<w.heap.size->¬own b->w'.heap[b]? =w.heap[b]?
 new:∀b,I' b->I b\/w.heap.size<=b\/own b
 drawn:m=true->w.drawn<=w'.drawn
structure Step(G:Gnd)(h:H)(ρ:Rho)(w:World)(I:Nat->Prop)(h':H)(ρ':Rho)(w':World)(I':Nat->Prop):Prop where
 rel:Rel G h' ρ' w' I'
 ext:Ext h ρ w I h' ρ' w' I'
 keep:Keep G.keeps (sW h ρ) w I w' I'
 own:∀b,sW h' ρ' b->sW h ρ b\/w.heap.size<=b
 len:h.length<=h'.length
theorem Step.refl{h:H}{ρ:Rho}{w:World}{I:Nat->Prop}(r:Rel G h ρ w I):Step G h ρ w I h ρ w I:=
 ⟨r,.refl _ _ _ _,⟨rfl,rfl,rfl,Ad _,fun _ _ _=>rfl,fun _ h=>.inl h,fun _=>Ad _⟩,fun _ h=>.inl h,Ad _⟩
theorem Step.trans{h1:H}{ρ1:Rho}{w1:World}{I1:Nat->Prop}{h2:H}{ρ2:Rho}{w2:World}{I2:Nat->Prop}{h3:H}{ρ3:Rho}{w3:World}{I3:Nat->Prop}
  (a:Step G h1 ρ1 w1 I1 h2 ρ2 w2 I2) (b:Step G h2 ρ2 w2 I2 h3 ρ3 w3 I3):Step G h1 ρ1 w1 I1 h3 ρ3 w3 I3 where
 rel:=b.rel
 ext:=a.ext.trans b.ext
 keep:={
  os:=b.keep.os.trans a.keep.os
  tape:=b.keep.tape.trans a.keep.tape
  output:=b.keep.output.trans a.keep.output
  size:=Bk a.keep.size b.keep.size
  same:=fun k hk ho=>by
   rw[b.keep.same k (Db hk a.keep.size) (fun h2=>(a.own k h2).elim ho (fun h=>by omega)),a.keep.same k hk ho]
  new:=fun k hk=>by
   rcases b.keep.new k hk with h|h|h
   ·exact a.keep.new k h
   ·exact .inr (.inl (Bk a.keep.size h))
   ·rcases a.own k h with h|h
    ·grind
    ·grind
  drawn:=fun e=>Bk (a.keep.drawn e) (b.keep.drawn e)}
 own:=fun k hk=>by
  rcases b.own k hk with h|h
  ·exact a.own k h
  ·exact .inr (Bk a.keep.size h)
 len:=Bk a.len b.len
end
section
variable{G:Gnd}
theorem bC:∀ {ord:List Nat} {i k:Nat},aH ord i=some k->ord[k]? =some i
 | [],_,_,h=>by simp[aH]at h
 |j::ord,i,k,h=>by
  simp only[aH]at h
  split at h
  ·grind
  ·cases hp:aH ord i with
   |none=>grind
   |some m=>rw[hp]at h;simp at h;subst h;simpa using bC hp
theorem zH:∀ {ord:List Nat} {i:Nat},i∉ord->aH ord i=none
 | [],_,_=>rfl
 |j::ord,i,h=>by
  simp only[Au,not_or]at h;simp only[aH,if_neg (Ne.symm h.1),zH h.2,Di]
theorem BB{ord:List Nat}{i k:Nat}(h:aH ord i=some k):k<ord.length:=
 (At.1 (bC h)).1
theorem LW{ord:List Nat}{i k:Nat}(h:aH ord i=some k):i∈ord:=
 Bo (bC h)
theorem dP:∀ {ord:List Nat},ord.Nodup->∀ {i k:Nat},ord[k]? =some i->aH ord i=some k
 | [],_,_,_,h=>by simp at h
 |j::ord,hn,i,k,h=>by
  simp only[Dj]at hn;simp only[aH]
  cases k with
  |zero=>grind
  |succ k=>
   have h':ord[k]? =some i:=by grind
   have hm:i∈ord:=by grind
   rw[if_neg (fun(e:j=i)=>hn.1 (e▸hm)),dP hn.2 h'];rfl
theorem bZ{ord:List Nat}{i:Nat}(h:i∈ord):∃k,aH ord i=some k:=by
 induction ord with
 |nil=>grind
 |cons j ord ih=>
  simp only[aH]
  by_cases e:j=i
  ·simp_all
  ·grind
theorem bT:∀(n:Nat) (h:H) (todo acc:List Nat),acc.Nodup->(aD n h todo acc).Nodup
 |0,_,_,_,hn=>by simpa only[aD]using hn
 |_+1,_,[],_,hn=>by simpa only[aD]using hn
 |n+1,h,i::todo,acc,hn=>by
  simp only[aD]
  split
  ·exact bT n h todo acc hn
  ·rename_i hc
   have hc':i∉acc:=by grind
   have:(acc++[i]).Nodup:=by grind
   split
   ·exact bT n h _ _ this
   ·exact bT n h _ _ this
   ·exact bT n h _ _ hn
   ·exact bT n h _ _ this
   ·exact bT n h _ _ hn
theorem j5:∀(n:Nat) (h:H) (todo acc:List Nat),(∀i∈acc,i<h.length)->∀i∈aD n h todo acc,i<h.length
 |0,_,_,_,hn=>by simpa only[aD]using hn
 |_+1,_,[],_,hn=>by simpa only[aD]using hn
 |n+1,h,i::todo,acc,hn=>by
  simp only[aD]
  split
  ·exact j5 n h todo acc hn
  ·have key:∀o,h[i]? =some o->∀j∈acc++[i],j<h.length:=by
    intro o ho j hj;simp only[Aq,Bi]at hj
    rcases hj with hj|rfl
    ·grind
    ·grind
   split
   ·rename_i cs ho;exact j5 n h _ _ (key _ ho)
   ·rename_i cs _ _ ho;exact j5 n h _ _ (key _ ho)
   ·exact j5 n h _ _ hn
   ·rename_i o _ _ _ ho;exact j5 n h _ _ (key _ ho)
   ·exact j5 n h _ _ hn
theorem mR:∀(n:Nat) (h:H) (todo acc:List Nat),∃l,aD n h todo acc=acc++l
 |0,_,_,acc=>⟨[],by simp[aD]⟩
 |_+1,_,[],acc=>⟨[],by simp[aD]⟩
 |n+1,h,i::todo,acc=>by
  simp only[aD]
  split
  ·exact mR n h todo acc
  ·split
   ·obtain⟨l,hl⟩:=mR n h (todo++idsL _) (acc++[i]);exact⟨i::l,by rw[hl];simp⟩
   ·obtain⟨l,hl⟩:=mR n h (todo++idsL _) (acc++[i]);exact⟨i::l,by rw[hl];simp⟩
   ·exact mR n h todo acc
   ·obtain⟨l,hl⟩:=mR n h todo (acc++[i]);exact⟨i::l,by rw[hl];simp⟩
   ·exact mR n h todo acc
def sub(ord:List Nat)(ρ:Rho):Rho:=fun k=>(ord[k]?).bind ρ
theorem gK(f:Nat->Option Nat)(o:O):live (mapO f o)↔live o:=by
 cases o<;>simp[live,mapO]
theorem aAX(h:H)(ord:List Nat)(k:Nat):(pack h ord)[k]? =(ord[k]?).map fun i=>mapO (aH ord) (h.getD i default):=by
 simp[pack]
theorem iI{h:H}{ord:List Nat}{k i:Nat}{o:O}(hk:ord[k]? =some i)(ho:h[i]? =some o):(pack h ord)[k]? =some (mapO (aH ord) o):=by
 rw[aAX,hk];simp[Aa,ho]
theorem aF7{f:Nat->Option Nat}:∀(cs:List A) (m:Nat),(aE f cs)[m]? =(cs[m]?).map (mapA f)
 | [],m=>by simp[aE]
 |c::cs,m=>by cases m<;>simp[aE,aF7 cs]
theorem DY{f:Nat->Option Nat}:∀(cs:List A),(aE f cs).length=cs.length
 | []=>by simp[aE]
 |c::cs=>by simp[aE,DY cs]
theorem mG{h h':H}{ρ ρ':Rho}{w:World}{I:Nat->Prop}{i k:Nat}{f:Nat->Option Nat}
  (ho:∀o,h[i]? =some o->h'[k]? =some (mapO f o)) (hr:ρ' k=ρ i):i0 h ρ w I i h' ρ' w I k:=by
 cases hi:h[i]? with
 |none=>exact⟨fun _ _ _ _ _ hs=>by simp[slOK,hi]at hs,fun _ _ hs=>by simp[ptOK,hi]at hs,fun _ hs=>by simp[mpOK,hi]at hs⟩
 |some o=>
  have hk:=ho o hi
  cases o with
  |arr cs e g=>
   exact⟨fun gen off len a cap hs=>by simp only[slOK,hi]at hs;simp only[slOK,hk,hr];exact hs,fun gen b hs=>by simp only[ptOK,hi]at hs;simp only[ptOK,hk,hr];exact hs,fun b hs=>by simp only[mpOK,hi]at hs⟩
  |box cs=>
   exact⟨fun gen off len a cap hs=>by simp only[slOK,hi]at hs,fun gen b hs=>by simp only[ptOK,hi]at hs;simp only[ptOK,hk,hr];exact hs,fun b hs=>by simp only[mpOK,hi]at hs⟩
  |vec cs e g=>
   simp only[mapO]at hk;exact⟨fun gen off len a cap hs=>by simp only[slOK,hi]at hs;simp only[slOK,hk,hr,DY];exact hs,fun gen b hs=>by simp only[ptOK,hi]at hs;simp only[ptOK,hk,hr];exact hs,fun b hs=>by simp only[mpOK,hi]at hs⟩
  |ice cs e g=>
   exact⟨fun gen off len a cap hs=>by simp only[slOK,hi]at hs;simp only[slOK,hk];exact hs,fun gen b hs=>by simp only[ptOK,hi]at hs;simp only[ptOK,hk];exact hs,fun b hs=>by simp only[mpOK,hi]at hs⟩
  |log cs=>
   exact⟨fun gen off len a cap hs=>by simp only[slOK,hi]at hs;simp only[slOK,hk,hr];exact hs,fun gen b hs=>by simp only[ptOK,hi]at hs;simp only[ptOK,hk,hr];exact hs,fun b hs=>by simp only[mpOK,hi]at hs⟩
  |mp es=>
   exact⟨fun gen off len a cap hs=>by simp only[slOK,hi]at hs,fun gen b hs=>by simp only[ptOK,hi]at hs,fun b hs=>by simp only[mpOK,hi]at hs;simp only[mpOK,hk,hr];exact hs⟩
  |void=>exact⟨fun _ _ _ _ _ hs=>by simp[slOK,hi]at hs,fun _ _ hs=>by simp[ptOK,hi]at hs,fun _ hs=>by simp[mpOK,hi]at hs⟩
theorem kV(w:World)(I:Nat->Prop):Imm w I w I:=fun _ h=>⟨h,rfl⟩
theorem aH6{h h':H}{ρ ρ':Rho}{w:World}{I:Nat->Prop}{i k:Nat}{f:Nat->Option Nat}{o:O}(hf:∀id k,f id=some k->i0 h ρ w I id h' ρ' w I k)
  (hr:ρ' k=ρ i) (ho:OR h ρ w I i o):OR h' ρ' w I k (mapO f o):=by
 cases o with
 |arr cs e g=>simp only[OR,mapO,hr]at ho|-;exact ho
 |log cs=>simp only[OR,mapO,hr]at ho|-;exact ho
 |box cs=>
  simp only[OR,mapO,hr]at ho|-;obtain⟨b,hb,hi,C,E,fz,h1,h2,h3⟩:=ho;refine⟨b,hb,hi,C,E,fz,h1,h2,?_⟩;intro m c hm
  have hlen:(aE f cs)[m]? =(cs[m]?).map (mapA f):=by
   clear h3 hm
   induction cs generalizing m with
   |nil=>simp[aE]
   |cons c cs ih=>cases m<;>simp[aE,ih]
  rw[hlen]at hm
  cases hc:cs[m]? with
  |none=>grind
  |some c0=>
   rw[hc]at hm;simp at hm;subst hm;obtain⟨v,hv,ha,hk⟩:=h3 m c0 hc;exact⟨v,hv,DL (kV w I) hf c0 v ha,hk⟩
 |vec cs e g=>
  simp only[OR,mapO,hr]at ho|-
  cases hρ:ρ i with
  |none=>rw[hρ]at ho;simp only at ho|-;subst ho;rfl
  |some b=>
   rw[hρ]at ho;obtain⟨hez,hi,C,E,fz,h1,h2,h3⟩:=ho;refine⟨hez,hi,C,E,fz,h1,h2,?_⟩;intro m c hm;rw[aF7]at hm
   cases hc:cs[m]? with
   |none=>grind
   |some c0=>
    rw[hc]at hm;simp at hm;subst hm;obtain⟨v,hv,ha,hk⟩:=h3 m c0 hc;exact⟨v,hv,DL (kV w I) hf c0 v ha,hk⟩
 |mp es=>simp only[OR,mapO,hr]at ho|-;exact ho
 |ice cs e g=>simp only[OR,mapO]
 |void=>simp only[OR,mapO]
theorem aAz{h:H}{ρ:Rho}{w:World}{I:Nat->Prop}{ord:List Nat}(r:Rel G h ρ w I)(hn:ord.Nodup)(hl:∀i∈ord,i<h.length):Rel G (pack h ord) (sub ord ρ) w I:=by
 have hf:∀id k,aH ord id=some k->i0 h ρ w I id (pack h ord) (sub ord ρ) w I k:=fun id k hk=>
  mG (fun o ho=>iI (bC hk) ho) (by simp[sub,bC hk])
 have look:∀(k:Nat) (o:O),(pack h ord)[k]? =some o->∃(i:Nat) (o':O),ord[k]? =some i/\h[i]? =some o'/\o=mapO (aH ord) o':=by
  intro k o ho;rw[aAX]at ho
  cases hk:ord[k]? with
  |none=>grind
  |some i=>grind
 refine⟨fun k o ho=> ?_,fun k k' b o o' hk hk' ho ho' hlv hlv'=> ?_,r.imm,r.ground⟩
 ·obtain⟨i,o',hk,hi,rfl⟩:=look k o ho;exact aH6 hf (by simp[sub,hk]) (r.obj i o' hi)
 ·obtain⟨i,o1,hi,h1,rfl⟩:=look k o ho;obtain⟨j,o2,hj,h2,rfl⟩:=look k' o' ho';have e:i=j:=r.inj i j b o1 o2 (by simpa [sub,hi]using hk) (by simpa [sub,hj]using hk') h1 h2 ((gK _ _).1 hlv) ((gK _ _).1 hlv');subst e;have a1:=dP hn hi;have a2:=dP hn hj;rw[a1]at a2;cases a2;rfl
theorem y9{h:H}{ρ:Rho}{ord:List Nat}(hl:∀i∈ord,i<h.length){b:Nat}(ho:sW (pack h ord) (sub ord ρ) b):∃i o,i∈ord/\ρ i=some b/\h[i]? =some o/\live o:=by
 obtain⟨k,o,hk,ho,hlv⟩:=ho;rw[aAX]at ho
 cases hi:ord[k]? with
 |none=>grind
 |some i=>
  have hm:=Bo hi;have hlt:=hl i hm;rw[hi]at ho;simp[Aa,hlt]at ho;subst ho;exact⟨i,h[i],hm,by simpa [sub,hi]using hk,by simp,(gK _ _).1 hlv⟩
theorem B4(f:Nat->Option Nat):∀(ord:List Nat) (h rest:H) (id:Nat),ord.Nodup->(∀i∈ord,i<h.length)->ord.length<=rest.length->
  (bE f h ord rest)[id]? =match aH ord id with
   |some k=>(rest[k]?).map (mapO f)
   |none=>if id<h.length then h[id]? else(rest[ord.length+(id-h.length)]?).map (mapO f)
 | [],h,rest,id,_,_,_=>by
  simp only[bE,aH,Ab,Ag]
  by_cases hlt:id<h.length
  ·grind
  ·grind
 |i::ord,h,[],id,_,_,hl=>by grind
 |i::ord,h,o::rest,id,hn,hr,hl=>by
  simp only[Dj]at hn;have hi:i<h.length:=by simp_all
  simp only[bE];rw[B4 f ord _ rest id hn.2 (fun j hj=>by simpa using hr j (by simp[hj])) (by simpa using hl)];simp only[aH,Bt,Ac]
  by_cases e:i=id
  ·subst e;rw[zH hn.1];simp[hi]
  ·grind
theorem NW(f:Nat->Option Nat):∀(ord:List Nat) (h rest:H),ord.length<=rest.length->h.length<=(bE f h ord rest).length
 | [],h,rest,_=>by simp[bE]
 |i::ord,h,[],hl=>by simp at hl
 |i::ord,h,o::rest,hl=>by
  simp only[bE];have:=NW f ord (h.set i (mapO f o)) rest (by simpa using hl)
  simpa using this
def mrg(ord:List Nat)(n:Nat)(ρ ρ1:Rho):Rho:=fun id=>
 match aH ord id with
 |some k=>ρ1 k
 |none=>if id<n then ρ id else ρ1 (ord.length+(id-n))
theorem FV{h:H}{ρ:Rho}{w:World}{I:Nat->Prop}{ord:List Nat}{h1:H}{ρ1:Rho}{w':World}{I':Nat->Prop}
  (r:Rel G h ρ w I) (hn:ord.Nodup) (hr:∀i∈ord,i<h.length) (hlen:ord.length<=h1.length) (s:Step G (pack h ord) (sub ord ρ) w I h1 ρ1 w' I'):
  Step G h ρ w I (bE (back ord h.length h1.length) h ord h1) (mrg ord h.length ρ ρ1) w' I'/\
  ∀id k,back ord h.length h1.length id=some k->i0 h1 ρ1 w' I' id (bE (back ord h.length h1.length) h ord h1) (mrg ord h.length ρ ρ1) w' I' k:=by
 have get:=fun id=>B4 (back ord h.length h1.length) ord h h1 id hn hr hlen
 have loc:∀k id,back ord h.length h1.length k=some id->(bE (back ord h.length h1.length) h ord h1)[id]? =(h1[k]?).map (mapO (back ord h.length h1.length))/\mrg ord h.length ρ ρ1 id=ρ1 k:=by
  intro k id hk;unfold back at hk
  split at hk
  ·rename_i hlt
   have hp:=dP hn hk;exact⟨by rw[get,hp],by simp[mrg,hp]⟩
  ·split at hk
   ·rename_i hge hlt
    simp only[Option.some.injEq]at hk;subst hk;have hp:aH ord (h.length+(k-ord.length))=none:=zH fun hm=>by have:=hr _ hm;omega
    have e:ord.length+(h.length+(k-ord.length)-h.length)=k:=om;exact⟨by rw[get,hp];simp only[];rw[if_neg om,e],by simp only[mrg,hp];rw[if_neg om,e]⟩
   ·cases hk
 have refs:∀k id,back ord h.length h1.length k=some id->i0 h1 ρ1 w' I' k (bE (back ord h.length h1.length) h ord h1) (mrg ord h.length ρ ρ1) w' I' id:=fun k id hk=>
  mG (fun o ho=>by rw[(loc k id hk).1,ho];rfl) (loc k id hk).2
 have orig:∀id o,(bE (back ord h.length h1.length) h ord h1)[id]? =some o->
   (∃k o',back ord h.length h1.length k=some id/\h1[k]? =some o'/\o=mapO (back ord h.length h1.length) o'/\mrg ord h.length ρ ρ1 id=ρ1 k)\/
   (id∉ord/\h[id]? =some o/\mrg ord h.length ρ ρ1 id=ρ id):=by
  intro id o ho;rw[get]at ho
  cases hp:aH ord id with
  |some k=>
   rw[hp]at ho;simp only[Az]at ho;obtain⟨o',ho',rfl⟩:=ho;have hb:back ord h.length h1.length k=some id:=by unfold back;rw[if_pos (BB hp)];exact bC hp
   exact .inl ⟨k,o',hb,ho',rfl,(loc k id hb).2⟩
  |none=>
   rw[hp]at ho;simp only[]at ho;have hni:id∉ord:=fun hm=>by obtain⟨k,hk⟩:=bZ hm;rw[hk]at hp;cases hp
   by_cases hlt:id<h.length
   ·rw[if_pos hlt]at ho;exact .inr ⟨hni,ho,by simp[mrg,hp,hlt]⟩
   ·rw[if_neg hlt]at ho;simp only[Az]at ho;obtain⟨o',ho',rfl⟩:=ho;have hk:ord.length+(id-h.length)<h1.length:=(At.1 ho').1
    have hb:back ord h.length h1.length (ord.length+(id-h.length))=some id:=by
     unfold back;rw[if_neg om,if_pos hk]
     congr 1;omega
    exact .inl ⟨_,o',hb,ho',rfl,(loc _ id hb).2⟩
 have other:∀id o b,id∉ord->h[id]? =some o->live o->ρ id=some b->¬sW (pack h ord) (sub ord ρ) b:=by
  intro id o b hni hid hlv hρ ho;obtain⟨j,o2,hj,hρj,hjo,hlv2⟩:=y9 hr ho;have:=r.inj id j b o o2 hρ hρj hid hjo hlv hlv2;subst this;exact hni hj
 have keepOther:∀id o b,id∉ord->h[id]? =some o->live o->ρ id=some b->w'.heap[b]? =w.heap[b]?:=fun id o b hni hid hlv hρ=>
  s.keep.same b (r.own_not_imm ⟨id,o,hρ,hid,hlv⟩).2 (other id o b hni hid hlv hρ)
 have ownSub:∀b,sW (pack h ord) (sub ord ρ) b->sW h ρ b:=fun b ho=>by
  obtain⟨j,o2,_,hρj,hjo,hlv2⟩:=y9 hr ho;exact⟨j,o2,hρj,hjo,hlv2⟩
 have packRef:∀id k,aH ord id=some k->i0 h ρ w I id (pack h ord) (sub ord ρ) w I k:=fun id k hk=>
  mG (fun o ho=>iI (bC hk) ho) (by simp[sub,bC hk])
 have backOf:∀id k,aH ord id=some k->back ord h.length h1.length k=some id:=fun id k hp=>by
  unfold back;rw[if_pos (BB hp)];exact bC hp
 have ext:Ext h ρ w I (bE (back ord h.length h1.length) h ord h1) (mrg ord h.length ρ ρ1) w' I':=by
  refine⟨s.ext.imm,fun id gen off len a cap hs=> ?_,fun id gen b hs=> ?_,fun id b hs=> ?_⟩
  ·cases hp:aH ord id with
   |some k=>exact(refs k id (backOf id k hp)).1 _ _ _ _ _ (s.ext.sl _ _ _ _ _ _ ((packRef id k hp).1 _ _ _ _ _ hs))
   |none=>
    have hni:id∉ord:=fun hm=>by obtain⟨k,hk⟩:=bZ hm;rw[hk]at hp;cases hp
    cases hid:h[id]? with
    |none=>simp[slOK,hid]at hs
    |some o=>
     have hlt:=(At.1 hid).1;have hg:(bE (back ord h.length h1.length) h ord h1)[id]? =some o:=by rw[get,hp];simp only[];rw[if_pos hlt,hid]
     have hm:mrg ord h.length ρ ρ1 id=ρ id:=by simp[mrg,hp,hlt]
     cases o with
     |arr cs e g=>
      simp only[slOK,hid]at hs;simp only[slOK,hg,hm];refine⟨hs.1,fun hgen=>⟨(hs.2 hgen).1,?_⟩⟩;have h2:=(hs.2 hgen).2
      cases hρ:ρ id with
      |none=>rw[hρ]at h2;exact h2
      |some b=>
       rw[hρ]at h2;simp only[]at h2|-;rw[keepOther id _ b hni hid trivial hρ];exact h2
     |vec cs e g=>
      simp only[slOK,hid]at hs;simp only[slOK,hg,hm];refine⟨hs.1,fun hgen=>⟨(hs.2 hgen).1,?_⟩⟩;have h2:=(hs.2 hgen).2
      cases hρ:ρ id with
      |none=>rw[hρ]at h2;exact h2
      |some b=>
       rw[hρ]at h2;simp only[]at h2|-;rw[keepOther id _ b hni hid trivial hρ];exact h2
     |log cs=>
      simp only[slOK,hid]at hs;simp only[slOK,hg,hm];refine⟨hs.1,fun hgen=> ?_⟩;obtain⟨h1,h2,h3⟩:=hs.2 hgen;refine⟨h1,h2.imp (fun x=>x) fun⟨h4,b,ha,h5⟩=>⟨h4,b,ha,h5.imp (fun x=>x) fun⟨h6,h7⟩=>⟨(s.ext.imm b h6).1,hU s.ext.imm _ b 0 h6 h7⟩⟩,fun hl=>(h3 hl).imp (fun x=>x) fun⟨b,hρ,ha,C,E,fz,hk,hs⟩=>⟨b,hρ,ha,C,E,fz,by rw[keepOther _ _ b hni hid trivial hρ];exact hk,hs⟩⟩
     |box cs=>simp only[slOK,hid]at hs
     |ice cs e g=>
      simp only[slOK,hid]at hs;simp only[slOK,hg];refine⟨hs.1,fun hgen=>⟨(hs.2 hgen).1,?_⟩⟩
      rcases(hs.2 hgen).2 with h2|⟨h2,b,hb,hIb,hd⟩
      ·exact .inl h2
      ·exact .inr ⟨h2,b,hb,(s.ext.imm b hIb).1,hU s.ext.imm cs b 0 hIb hd⟩
     |mp es=>simp[slOK,hid]at hs
     |void=>simp[slOK,hid]at hs
  ·cases hp:aH ord id with
   |some k=>exact(refs k id (backOf id k hp)).2.1 _ _ (s.ext.pt _ _ _ ((packRef id k hp).2.1 _ _ hs))
   |none=>
    cases hid:h[id]? with
    |none=>simp[ptOK,hid]at hs
    |some o=>
     have hlt:=(At.1 hid).1;have hg:(bE (back ord h.length h1.length) h ord h1)[id]? =some o:=by rw[get,hp];simp only[];rw[if_pos hlt,hid]
     have hm:mrg ord h.length ρ ρ1 id=ρ id:=by simp[mrg,hp,hlt]
     cases o with
     |arr cs e g=>simp only[ptOK,hid]at hs;simp only[ptOK,hg,hm];exact hs
     |vec cs e g=>simp only[ptOK,hid]at hs;simp only[ptOK,hg,hm];exact hs
     |box cs=>simp only[ptOK,hid]at hs;simp only[ptOK,hg,hm];exact hs
     |ice cs e g=>
      simp only[ptOK,hid]at hs;simp only[ptOK,hg];exact⟨hs.1,fun hgen=>⟨(s.ext.imm b (hs.2 hgen).1).1,hU s.ext.imm cs b 0 (hs.2 hgen).1 (hs.2 hgen).2⟩⟩
     |log cs=>
      simp only[ptOK,hid]at hs;simp only[ptOK,hg,hm];exact⟨hs.1,fun hgen=>(hs.2 hgen).imp (fun x=>x) fun⟨h6,h7⟩=>⟨(s.ext.imm b h6).1,hU s.ext.imm _ b 0 h6 h7⟩⟩
     |mp es=>simp[ptOK,hid]at hs
     |void=>simp[ptOK,hid]at hs
  ·cases hp:aH ord id with
   |some k=>exact(refs k id (backOf id k hp)).2.2 _ (s.ext.mp _ _ ((packRef id k hp).2.2 _ hs))
   |none=>
    cases hid:h[id]? with
    |none=>simp[mpOK,hid]at hs
    |some o=>
     have hlt:=(At.1 hid).1;have hg:(bE (back ord h.length h1.length) h ord h1)[id]? =some o:=by rw[get,hp];simp only[];rw[if_pos hlt,hid]
     have hm:mrg ord h.length ρ ρ1 id=ρ id:=by simp[mrg,hp,hlt]
     simp only[mpOK,hid]at hs;simp only[mpOK,hg,hm];exact hs
 refine⟨⟨⟨fun id o ho=> ?_,fun id id' b o o' hb hb' ho ho' hlv hlv'=> ?_,s.rel.imm,s.rel.ground⟩,ext,⟨s.keep.os,s.keep.tape,s.keep.output,s.keep.size,fun b hb hno=>s.keep.same b hb (fun h=>hno (ownSub b h)),fun b hb=> ?_,s.keep.drawn⟩,fun b hb=> ?_,NW _ _ _ _ hlen⟩,refs⟩
 ·rcases orig id o ho with⟨k,o',hk,hk1,rfl,hm⟩|⟨hni,hid,hm⟩
  ·exact aH6 refs hm (s.rel.obj k o' hk1)
  ·have hO:=r.obj id o hid
   cases o with
   |arr cs e g=>
    simp only[OR,hm]at hO|-
    cases hρ:ρ id with
    |none=>rw[hρ]at hO;exact hO
    |some b=>
     rw[hρ]at hO;obtain⟨hez,hIb,C,E,fz,h2,h3,h4⟩:=hO;have hk:=keepOther id _ b hni hid trivial hρ;refine⟨hez,fun hI'=> ?_,C,E,fz,by rw[hk];exact h2,h3,xU s.ext.imm (fun k _=>dX hk) h4⟩
     rcases s.keep.new b hI' with h|h|h
     ·exact hIb h
     ·have:=(r.own_not_imm ⟨id,_,hρ,hid,trivial⟩).2;omega
     ·exact other id _ b hni hid trivial hρ h
   |log cs=>
    simp only[OR,hm]at hO|-
    cases hρ:ρ id with
    |none=>rw[hρ]at hO;exact hO
    |some b=>
     rw[hρ]at hO;obtain⟨hIb,C,E,fz,h2,h3,h4⟩:=hO;have hk:=keepOther id _ b hni hid trivial hρ;refine⟨fun hI'=> ?_,C,E,fz,by rw[hk];exact h2,h3,xU s.ext.imm (fun k _=>dX hk) h4⟩
     rcases s.keep.new b hI' with h|h|h
     ·exact hIb h
     ·have:=(r.own_not_imm ⟨id,_,hρ,hid,trivial⟩).2;omega
     ·exact other id _ b hni hid trivial hρ h
   |vec cs e g=>
    simp only[OR,hm]at hO|-
    cases hρ:ρ id with
    |none=>rw[hρ]at hO;exact hO
    |some b=>
     rw[hρ]at hO;obtain⟨hez,hIb,C,E,fz,h2,h3,h4⟩:=hO;have hk:=keepOther id _ b hni hid trivial hρ;refine⟨hez,fun hI'=> ?_,C,E,fz,by rw[hk];exact h2,h3,fun m c hm=> ?_⟩
     rotate_left
     ·obtain⟨v,hv,ha,ho⟩:=h4 m c hm;exact⟨v,by rw[dX hk];exact hv,iY ext c v ha,ho⟩
     rcases s.keep.new b hI' with h|h|h
     ·exact hIb h
     ·have:=(r.own_not_imm ⟨id,_,hρ,hid,trivial⟩).2;omega
     ·exact other id _ b hni hid trivial hρ h
   |box cs=>
    simp only[OR,hm]at hO|-;obtain⟨b,hρ,hIb,C,E,fz,h2,h3,h4⟩:=hO;have hk:=keepOther id _ b hni hid trivial hρ;refine⟨b,hρ,fun hI'=> ?_,C,E,fz,by rw[hk];exact h2,h3,fun m c hm=> ?_⟩
    ·rcases s.keep.new b hI' with h|h|h
     ·exact hIb h
     ·have:=(r.own_not_imm ⟨id,_,hρ,hid,trivial⟩).2;omega
     ·exact other id _ b hni hid trivial hρ h
    ·obtain⟨v,hv,ha,ho⟩:=h4 m c hm;exact⟨v,by rw[dX hk];exact hv,iY ext c v ha,ho⟩
   |mp es=>
    simp only[OR,hm]at hO|-;obtain⟨b,hρ,hIb,M,c,h2,h3⟩:=hO;have hk:=keepOther id _ b hni hid trivial hρ;refine⟨b,hρ,fun hI'=> ?_,M,c,by rw[hk];exact h2,h3⟩
    rcases s.keep.new b hI' with h|h|h
    ·exact hIb h
    ·have:=(r.own_not_imm ⟨id,_,hρ,hid,trivial⟩).2;omega
    ·exact other id _ b hni hid trivial hρ h
   |ice cs e g=>simp only[OR]
   |void=>simp only[OR]
 ·rcases orig id o ho with⟨k,o1,hk,hk1,rfl,hm⟩|⟨hni,hid,hm⟩<;>rcases orig id' o' ho' with⟨k',o1',hk',hk1',rfl,hm'⟩|⟨hni',hid',hm'⟩
  ·rw[hm]at hb;rw[hm']at hb';have:=s.rel.inj k k' b o1 o1' hb hb' hk1 hk1' ((gK _ _).1 hlv) ((gK _ _).1 hlv');subst this;rw[hk]at hk';cases hk';rfl
  ·rw[hm]at hb;rw[hm']at hb';exfalso
   rcases s.own b ⟨k,o1,hb,hk1,(gK _ _).1 hlv⟩with h|h
   ·exact other id' _ b hni' hid' hlv' hb' h
   ·have:=(r.own_not_imm ⟨id',_,hb',hid',hlv'⟩).2;omega
  ·rw[hm]at hb;rw[hm']at hb';exfalso
   rcases s.own b ⟨k',o1',hb',hk1',(gK _ _).1 hlv'⟩with h|h
   ·exact other id _ b hni hid hlv hb h
   ·have:=(r.own_not_imm ⟨id,_,hb,hid,hlv⟩).2;omega
  ·rw[hm]at hb;rw[hm']at hb';exact r.inj id id' b o o' hb hb' hid hid' hlv hlv'
 ·rcases s.keep.new b hb with h|h|h
  ·exact .inl h
  ·exact .inr (.inl h)
  ·exact .inr (.inr (ownSub b h))
 ·obtain⟨id,o,hm0,ho,hlv⟩:=hb
  rcases orig id o ho with⟨k,o1,hk,hk1,rfl,hm⟩|⟨hni,hid,hm⟩
  ·rw[hm]at hm0
   rcases s.own b ⟨k,o1,hm0,hk1,(gK _ _).1 hlv⟩with h|h
   ·exact .inl (ownSub b h)
   ·exact .inr h
  ·rw[hm]at hm0;exact .inl ⟨id,o,hm0,hid,hlv⟩
theorem aNL{h0:H}{ρ0:Rho}{w0:World}{I0:Nat->Prop}{h:H}{ρ:Rho}{w:World}{I:Nat->Prop}{ord:List Nat}
  (s:Step G h0 ρ0 w0 I0 h ρ w I) (hn:ord.Nodup) (hl:∀i∈ord,i<h.length) (hf:∀i,i<h0.length->ord[i]? =some i):
  Step G h0 ρ0 w0 I0 (pack h ord) (sub ord ρ) w I/\∀id k,aH ord id=some k->i0 h ρ w I id (pack h ord) (sub ord ρ) w I k:=by
 have refs:∀id k,aH ord id=some k->i0 h ρ w I id (pack h ord) (sub ord ρ) w I k:=fun id k hk=>
  mG (fun o ho=>iI (bC hk) ho) (by simp[sub,bC hk])
 refine⟨⟨aAz s.rel hn hl,⟨s.ext.imm,fun id gen off len a cap hs=> ?_,fun id gen b hs=> ?_,fun id b hs=> ?_⟩,s.keep,fun b hb=> ?_,?_⟩,refs⟩
 ·have hlt:id<h0.length:=by
   rcases Cr id h0.length with h|h
   ·exact h
   ·simp[slOK,Cg h]at hs
  exact(refs id id (dP hn (hf id hlt))).1 _ _ _ _ _ (s.ext.sl _ _ _ _ _ _ hs)
 ·have hlt:id<h0.length:=by
   rcases Cr id h0.length with h|h
   ·exact h
   ·simp[ptOK,Cg h]at hs
  exact(refs id id (dP hn (hf id hlt))).2.1 _ _ (s.ext.pt _ _ _ hs)
 ·have hlt:id<h0.length:=by
   rcases Cr id h0.length with h|h
   ·exact h
   ·simp[mpOK,Cg h]at hs
  exact(refs id id (dP hn (hf id hlt))).2.2 _ (s.ext.mp _ _ hs)
 ·obtain⟨j,o2,_,hρj,hjo,hlv2⟩:=y9 hl hb;exact s.own b ⟨j,o2,hρj,hjo,hlv2⟩
 ·have e:(pack h ord).length=ord.length:=by simp[pack]
  rw[e]
  rcases Cr ord.length h0.length with hlt|hge
  ·grind
  ·exact hge
end
section
variable{G:Gnd}
def upd(ρ:Rho)(id:Nat)(rb:Option Nat):Rho:=fun k=>if k=id then rb else ρ k
theorem bA(ρ:Rho)(id:Nat)(rb:Option Nat):upd ρ id rb id=rb:=by simp[upd]
theorem dL(ρ:Rho){id k:Nat}(rb:Option Nat)(h:k≠id):upd ρ id rb k=ρ k:=by simp[upd,h]
structure Grew(m:Bool)(w w':World):Prop where
 os:w'.os=w.os
 tape:w'.tape=w.tape
 output:w'.output=w.output
 size:w.heap.size<=w'.heap.size
 same:∀b,b<w.heap.size->w'.heap[b]? =w.heap[b]?
 drawn:m=true->w.drawn<=w'.drawn
theorem Grew.refl{m:Bool}(w:World):Grew m w w:=⟨rfl,rfl,rfl,Ad _,fun _ _=>rfl,fun _=>Ad _⟩
theorem Grew.drew{m:Bool}(w:World):Grew m w { w with drawn:=w.drawn+1}:=⟨rfl,rfl,rfl,Ad _,fun _ _=>rfl,fun _=>Nat.le_succ _⟩
theorem Grew.push{m:Bool}(w:World)(o:Obj):Grew m w { w with heap:=w.heap.push o}:=
 ⟨rfl,rfl,rfl,by simp,fun b hb=>by simp only[Array.getElem?_push];rw[if_neg om],fun _=>Ad _⟩
theorem Grew.trans{m:Bool}{a b c:World}(x:Grew m a b)(y:Grew m b c):Grew m a c:=
 ⟨y.os.trans x.os,y.tape.trans x.tape,y.output.trans x.output,Bk x.size y.size,fun k hk=>(y.same k (Db hk x.size)).trans (x.same k hk),fun e=>Bk (x.drawn e) (y.drawn e)⟩
theorem Grew.imm{h:H}{ρ:Rho}{w w':World}{I:Nat->Prop}{m:Bool}(r:Rel G h ρ w I)(g:Grew m w w'):Imm w I w' I:=fun b hb=>⟨hb,g.same b (r.imm b hb)⟩
theorem LX{h h':H}{ρ ρ':Rho}{w w':World}{I I':Nat->Prop}{id:Nat}(hi:Imm w I w' I')(ho:h'[id]? =h[id]?)(hr:ρ' id=ρ id)
  (hb:∀b,ρ id=some b->(∃o,h[id]? =some o/\live o)->w'.heap[b]? =w.heap[b]?) {gen off len:Nat} {a:Option Addr} {cap:Nat} (hs:slOK h ρ w I id gen off len a cap):slOK h' ρ' w' I' id gen off len a cap:=by
 unfold slOK at hs|-;rw[ho]
 cases hid:h[id]? with
 |none=>grind
 |some o=>
  cases o with
  |arr cs e g=>
   simp only[hid,hr]at hs|-;refine⟨hs.1,fun hg=>⟨(hs.2 hg).1,?_⟩⟩;have h2:=(hs.2 hg).2
   cases hρ:ρ id with
   |none=>grind
   |some b=>
    rw[hρ]at h2;simp only[]at h2|-;rw[hb b hρ ⟨_,hid,trivial⟩];exact h2
  |vec cs e g=>
   simp only[hid,hr]at hs|-;refine⟨hs.1,fun hg=>⟨(hs.2 hg).1,?_⟩⟩;have h2:=(hs.2 hg).2
   cases hρ:ρ id with
   |none=>grind
   |some b=>
    rw[hρ]at h2;simp only[]at h2|-;rw[hb b hρ ⟨_,hid,trivial⟩];exact h2
  |log cs=>
   simp only[hid,hr]at hs|-;refine⟨hs.1,fun hg=> ?_⟩;obtain⟨h1,h2,h3⟩:=hs.2 hg;refine⟨h1,h2.imp (fun x=>x) fun⟨h4,b,ha,h5⟩=>⟨h4,b,ha,h5.imp (fun x=>x) fun⟨h6,h7⟩=>⟨(hi b h6).1,hU hi _ b 0 h6 h7⟩⟩,fun hl=>(h3 hl).imp (fun x=>x) fun⟨b,hρ,ha,C,E,fz,hk,hs⟩=>⟨b,hρ,ha,C,E,fz,by rw[hb b hρ ⟨_,hid,trivial⟩];exact hk,hs⟩⟩
  |box cs=>grind
  |ice cs e g=>
   simp only[hid]at hs|-;refine⟨hs.1,fun hg=>⟨(hs.2 hg).1,?_⟩⟩
   rcases(hs.2 hg).2 with h2|⟨h2,b,ha,hIb,hd⟩
   ·grind
   ·exact .inr ⟨h2,b,ha,(hi b hIb).1,hU hi cs b 0 hIb hd⟩
  |mp es=>grind
  |void=>grind
theorem K5{h h':H}{ρ ρ':Rho}{w w':World}{I I':Nat->Prop}{id:Nat}(hi:Imm w I w' I')(ho:h'[id]? =h[id]?)(hr:ρ' id=ρ id){gen b:Nat}(hs:ptOK h ρ w I id gen b):ptOK h' ρ' w' I' id gen b:=by
 unfold ptOK at hs|-;rw[ho]
 cases hid:h[id]? with
 |none=>grind
 |some o=>
  cases o with
  |arr cs e g=>grind
  |vec cs e g=>grind
  |box cs=>grind
  |ice cs e g=>
   simp only[hid]at hs|-;exact⟨hs.1,fun hg=>⟨(hi b (hs.2 hg).1).1,hU hi cs b 0 (hs.2 hg).1 (hs.2 hg).2⟩⟩
  |log cs=>
   simp only[hid,hr]at hs|-;exact⟨hs.1,fun hg=>(hs.2 hg).imp (fun x=>x) fun⟨h6,h7⟩=>⟨(hi b h6).1,hU hi _ b 0 h6 h7⟩⟩
  |mp es=>grind
  |void=>grind
theorem TH{h h':H}{ρ ρ':Rho}{id:Nat}(ho:h'[id]? =h[id]?)(hr:ρ' id=ρ id){b:Nat}(hs:mpOK h ρ id b):mpOK h' ρ' id b:=by
 unfold mpOK at hs|-;rw[ho,hr];exact hs
theorem W3{h h':H}{ρ ρ':Rho}{w w':World}{I I':Nat->Prop}{id:Nat}{o:O}(hE:Ext h ρ w I h' ρ' w' I')(hr:ρ' id=ρ id)
  (hb:∀b,ρ id=some b->live o->w'.heap[b]? =w.heap[b]?/\¬I' b) (ho:OR h ρ w I id o):OR h' ρ' w' I' id o:=by
 cases o with
 |arr cs e g=>
  simp only[OR,hr]at ho|-
  cases hρ:ρ id with
  |none=>grind
  |some b=>
   rw[hρ]at ho;obtain⟨hez,hIb,C,E,fz,h2,h3,h4⟩:=ho;obtain⟨hk,hI'⟩:=hb b hρ trivial;exact⟨hez,hI',C,E,fz,by rw[hk];exact h2,h3,xU hE.imm (fun k _=>dX hk) h4⟩
 |vec cs e g=>
  simp only[OR,hr]at ho|-
  cases hρ:ρ id with
  |none=>grind
  |some b=>
   rw[hρ]at ho;obtain⟨hez,hIb,C,E,fz,h2,h3,h4⟩:=ho;obtain⟨hk,hI'⟩:=hb b hρ trivial
   exact⟨hez,hI',C,E,fz,by rw[hk];exact h2,h3,fun m c hm=>by
    obtain⟨v,hv,ha,ho⟩:=h4 m c hm;exact⟨v,by rw[dX hk];exact hv,iY hE c v ha,ho⟩⟩
 |log cs=>
  simp only[OR,hr]at ho|-
  cases hρ:ρ id with
  |none=>grind
  |some b=>
   rw[hρ]at ho;obtain⟨hIb,C,E,fz,h2,h3,h4⟩:=ho;obtain⟨hk,hI'⟩:=hb b hρ trivial;exact⟨hI',C,E,fz,by rw[hk];exact h2,h3,xU hE.imm (fun k _=>dX hk) h4⟩
 |box cs=>
  simp only[OR,hr]at ho|-;obtain⟨b,hρ,hIb,C,E,fz,h2,h3,h4⟩:=ho;obtain⟨hk,hI'⟩:=hb b hρ trivial;refine⟨b,hρ,hI',C,E,fz,by rw[hk];exact h2,h3,fun m c hm=> ?_⟩;obtain⟨v,hv,ha,ho⟩:=h4 m c hm;exact⟨v,by rw[dX hk];exact hv,iY hE c v ha,ho⟩
 |mp es=>
  simp only[OR,hr]at ho|-;obtain⟨b,hρ,hIb,M,c,h2,h3⟩:=ho;obtain⟨hk,hI'⟩:=hb b hρ trivial;exact⟨b,hρ,hI',M,c,by rw[hk];exact h2,h3⟩
 |ice cs e g=>simp only[OR]
 |void=>simp only[OR]
theorem K6{h:H}{ρ:Rho}{w w':World}{I:Nat->Prop}(r:Rel G h ρ w I)(g:Grew G.keeps w w'):Step G h ρ w I h ρ w' I:=by
 have hblk:∀id o b,h[id]? =some o->live o->ρ id=some b->w'.heap[b]? =w.heap[b]?/\¬I b:=fun id o b hid hlv hρ=>
  have h2:=r.own_not_imm ⟨id,o,hρ,hid,hlv⟩
  ⟨g.same b h2.2,h2.1⟩
 have ext:Ext h ρ w I h ρ w' I:=⟨g.imm r,fun id _ _ _ _ _ hs=>LX (g.imm r) rfl rfl (fun b hb ⟨o,ho,hl⟩=>(hblk id o b ho hl hb).1) hs,fun _ _ _ hs=>K5 (g.imm r) rfl rfl hs,fun _ _ hs=>hs⟩
 exact⟨⟨fun id o hid=>W3 ext rfl (fun b hb hl=>hblk id o b hid hl hb) (r.obj id o hid),r.inj,fun b hb=>Db (r.imm b hb) g.size,r.ground.mono ext.imm⟩,ext,
  ⟨g.os,g.tape,g.output,g.size,fun b hb _=>g.same b hb,fun _ hb=>.inl hb,g.drawn⟩,fun _ hb=>.inl hb,Ad _⟩
theorem fU{h:H}{ρ:Rho}{w w':World}{I:Nat->Prop}(r:Rel G h ρ w I)(g:Grew G.keeps w w')(o:O)(rb:Option Nat)(hrb:∀b,rb=some b->w.heap.size<=b)
  (hor:Ext h ρ w I (h++[o]) (upd ρ h.length rb) w' I->OR (h++[o]) (upd ρ h.length rb) w' I h.length o):Step G h ρ w I (h++[o]) (upd ρ h.length rb) w' I:=by
 have look:∀id,id<h.length->(h++[o])[id]? =h[id]?:=by grind
 have hblk:∀id o b,h[id]? =some o->live o->ρ id=some b->w'.heap[b]? =w.heap[b]?/\¬I b:=fun id o b hid hlv hρ=>
  have h2:=r.own_not_imm ⟨id,o,hρ,hid,hlv⟩
  ⟨g.same b h2.2,h2.1⟩
 have ext:Ext h ρ w I (h++[o]) (upd ρ h.length rb) w' I:=by
  refine⟨g.imm r,fun id gen off len a cap hs=> ?_,fun id gen b hs=> ?_,fun id b hs=> ?_⟩
  ·have hlt:id<h.length:=by
    rcases Cr id h.length with h1|h1
    ·exact h1
    ·simp[slOK,Cg h1]at hs
   exact LX (g.imm r) (look id hlt) (dL ρ rb om) (fun b hb ⟨o,ho,hl⟩=>(hblk id o b ho hl hb).1) hs
  ·have hlt:id<h.length:=by
    rcases Cr id h.length with h1|h1
    ·exact h1
    ·simp[ptOK,Cg h1]at hs
   exact K5 (g.imm r) (look id hlt) (dL ρ rb om) hs
  ·have hlt:id<h.length:=by
    rcases Cr id h.length with h1|h1
    ·exact h1
    ·simp[mpOK,Cg h1]at hs
   exact TH (look id hlt) (dL ρ rb om) hs
 have cases_of:∀id o',(h++[o])[id]? =some o'->(h[id]? =some o'/\id≠h.length)\/(id=h.length/\o'=o):=by grind
 refine⟨⟨fun id o' hid=> ?_,fun id id' b o1 o2 hb hb' h1 h2 l1 l2=> ?_,fun b hb=>Db (r.imm b hb) g.size,r.ground.mono ext.imm⟩,ext,
  ⟨g.os,g.tape,g.output,g.size,fun b hb _=>g.same b hb,fun _ hb=>.inl hb,g.drawn⟩,fun b hb=> ?_,by simp⟩
 ·rcases cases_of id o' hid with⟨h1,hne⟩|⟨rfl,rfl⟩
  ·exact W3 ext (dL ρ rb hne) (fun b hb hl=>hblk id o' b h1 hl hb) (r.obj id o' h1)
  ·grind
 ·rcases cases_of id o1 h1 with⟨g1,n1⟩|⟨rfl,rfl⟩<;>rcases cases_of id' o2 h2 with⟨g2,n2⟩|⟨rfl,rfl⟩
  ·rw[dL ρ rb n1]at hb;rw[dL ρ rb n2]at hb';exact r.inj id id' b o1 o2 hb hb' g1 g2 l1 l2
  ·rw[dL ρ rb n1]at hb;rw[bA]at hb';have:=(r.own_not_imm ⟨id,o1,hb,g1,l1⟩).2;have:=hrb b hb';omega
  ·rw[bA]at hb;rw[dL ρ rb n2]at hb';have:=(r.own_not_imm ⟨id',o2,hb',g2,l2⟩).2;have:=hrb b hb;omega
  ·rfl
 ·obtain⟨id,o',hb,hid,hl⟩:=hb
  rcases cases_of id o' hid with⟨g1,n1⟩|⟨rfl,rfl⟩
  ·rw[dL ρ rb n1]at hb;exact .inl ⟨id,o',hb,g1,hl⟩
  ·rw[bA]at hb;exact .inr (hrb b hb)
theorem d8{h:H}{ρ:Rho}{w w':World}{I I':Nat->Prop}{id:Nat}{o o':O}(r:Rel G h ρ w I)(hid:h[id]? =some o)(hlv:live o)(rb:Option Nat)
  (os:w'.os=w.os) (tape:w'.tape=w.tape) (output:w'.output=w.output) (size:w.heap.size<=w'.heap.size)
  (same:∀k,k<w.heap.size->ρ id≠some k->w'.heap[k]? =w.heap[k]?)
  (hI:∀b,I b->I' b) (hI':∀b,I' b->I b\/(ρ id=some b/\(¬live o'\/rb≠some b))) (hrb:∀b,rb=some b->ρ id=some b\/w.heap.size<=b)
  (hsl:Imm w I w' I'->∀gen off len a cap,slOK h ρ w I id gen off len a cap->slOK (h.set id o') (upd ρ id rb) w' I' id gen off len a cap)
  (hpt:Imm w I w' I'->∀gen b,ptOK h ρ w I id gen b->ptOK (h.set id o') (upd ρ id rb) w' I' id gen b)
  (hor:Ext h ρ w I (h.set id o') (upd ρ id rb) w' I'->OR (h.set id o') (upd ρ id rb) w' I' id o')
  (drawn:w.drawn<=w'.drawn:=by first|exact Ad _|exact Nat.le_succ _|exact Nat.le_add_right _ _)
  (hmp:∀es,o=.mp es->(∃es',o'=.mp es')/\rb=ρ id:=by intro _ h;cases h):Step G h ρ w I (h.set id o') (upd ρ id rb) w' I':=by
 have hlt:id<h.length:=by grind
 have ownNot:=fun b (ho:sW h ρ b)=>r.own_not_imm ho;have imm:Imm w I w' I':=fun b hb=>⟨hI b hb,same b (r.imm b hb) (fun e=>(ownNot b ⟨id,o,e,hid,hlv⟩).1 hb)⟩
 have hblk:∀k o2 b,k≠id->h[k]? =some o2->live o2->ρ k=some b->w'.heap[b]? =w.heap[b]?/\¬I' b:=by
  intro k o2 b hne hk hl hb;have h2:=ownNot b ⟨k,o2,hb,hk,hl⟩;have hne':ρ id≠some b:=fun e=>hne (r.inj k id b o2 o hb e hk hid hl hlv);exact⟨same b h2.2 hne',fun h3=>(hI' b h3).elim h2.1 (fun e=>hne' e.1)⟩
 have look:∀k,k≠id->(h.set id o')[k]? =h[k]?:=by grind
 have ext:Ext h ρ w I (h.set id o') (upd ρ id rb) w' I':=by
  refine⟨imm,fun k gen off len a cap hs=> ?_,fun k gen b hs=> ?_,fun k b hs=> ?_⟩
  ·by_cases e:k=id
   ·grind
   ·exact LX imm (look k e) (dL ρ rb e) (fun b hb ⟨o2,ho,hl⟩=>(hblk k o2 b e ho hl hb).1) hs
  ·by_cases e:k=id
   ·grind
   ·exact K5 imm (look k e) (dL ρ rb e) hs
  ·by_cases e:k=id
   ·subst e
    cases o with
    |mp es=>
     obtain⟨⟨es',rfl⟩,hr⟩:=hmp es rfl;simp only[mpOK,hid]at hs;simp only[mpOK,Ef hlt,bA,hr];exact hs
    |_=>simp only[mpOK,hid]at hs
   ·exact TH (look k e) (dL ρ rb e) hs
 have at_id:(h.set id o')[id]? =some o':=by grind
 refine⟨⟨fun k o2 hk=> ?_,fun k k' b o1 o2 hb hb' h1 h2 l1 l2=> ?_,fun b hb=> ?_,r.ground.mono ext.imm⟩,ext,
  ⟨os,tape,output,size,fun b hb hno=>same b hb (fun e=>hno ⟨id,o,e,hid,hlv⟩),fun b hb=> ?_,fun _=>drawn⟩,fun b hb=> ?_,by simp⟩
 ·by_cases e:k=id
  ·grind
  ·rw[look k e]at hk;exact W3 ext (dL ρ rb e) (fun b hb hl=>hblk k o2 b e hk hl hb) (r.obj k o2 hk)
 ·by_cases e:k=id<;>by_cases e':k'=id
  ·rw[e,e']
  ·subst e;rw[bA]at hb;rw[dL ρ rb e']at hb';rw[look k' e']at h2
   rcases hrb b hb with h3|h3
   ·exact r.inj k k' b o o2 h3 hb' hid h2 hlv l2
   ·have:=(ownNot b ⟨k',o2,hb',h2,l2⟩).2;omega
  ·subst e';rw[bA]at hb';rw[dL ρ rb e]at hb;rw[look k e]at h1
   rcases hrb b hb' with h3|h3
   ·exact r.inj k k' b o1 o hb h3 h1 hid l1 hlv
   ·have:=(ownNot b ⟨k,o1,hb,h1,l1⟩).2;omega
  ·rw[dL ρ rb e]at hb;rw[dL ρ rb e']at hb';rw[look k e]at h1;rw[look k' e']at h2;exact r.inj k k' b o1 o2 hb hb' h1 h2 l1 l2
 ·rcases hI' b hb with h1|h1
  ·exact Db (r.imm b h1) size
  ·exact Db (ownNot b ⟨id,o,h1.1,hid,hlv⟩).2 size
 ·rcases hI' b hb with h1|h1
  ·grind
  ·exact .inr (.inr ⟨id,o,h1.1,hid,hlv⟩)
 ·obtain⟨k,o2,hb,hk,hl⟩:=hb
  by_cases e:k=id
  ·subst e;rw[bA]at hb
   rcases hrb b hb with h3|h3
   ·exact .inl ⟨k,o,h3,hid,hlv⟩
   ·grind
  ·rw[dL ρ rb e]at hb;rw[look k e]at hk;exact .inl ⟨k,o2,hb,hk,hl⟩
theorem cO(ρ:Rho)(id:Nat):upd ρ id (ρ id)=ρ:=by
 funext k;unfold upd;split
 ·grind
 ·rfl
theorem GM{w:World}{I I':Nat->Prop}(hI:∀b,I b->I' b){ds:List D}{b:Nat}(h:DRs w I ds b 0):DRs w I' ds b 0:=
 xU (w:=w) (w':=w) (fun k hk=>⟨hI k hk,rfl⟩) (fun _ _=>rfl) h
theorem aJb{h:H}{ρ:Rho}{w:World}{I:Nat->Prop}{id:Nat}{cs:List D}{esz g:Nat}(r:Rel G h ρ w I)(hid:h[id]? =some (.arr cs esz g)):
  ∃I',Step G h ρ w I (h.set id (.ice cs esz g)) ρ w I'/\∀b,ρ id=some b->I' b/\DRs w I' cs b 0:=by
 have hlt:id<h.length:=by grind
 have at_id:(h.set id (.ice cs esz g))[id]? =some (.ice cs esz g):=by grind
 have hO:=r.obj id _ hid
 have hd:∀b,ρ id=some b->DRs w (fun k=>I k\/ρ id=some k) cs b 0:=fun b hb=>by
  simp only[OR,hb]at hO;obtain⟨_,_,C,E,fz,_,_,h4⟩:=hO;exact GM (fun k hk=>.inl hk) h4
 refine⟨fun k=>I k\/ρ id=some k,?_,fun b hb=>⟨.inr hb,hd b hb⟩⟩
 have s:=d8 (o':=.ice cs esz g) (I':=fun k=>I k\/ρ id=some k) r hid trivial (ρ id) rfl rfl rfl (Ad _) (fun _ _ _=>rfl) (fun _ hb=>.inl hb)
  (fun b hb=>hb.imp (fun x=>x) fun e=>⟨e,.inl fun h=>h⟩) (fun b hb=>.inl hb) (fun _ gen off len a cap hs=> ?_) (fun _ gen b hs=> ?_) (fun _=>by simp only[OR])
 ·rw[cO]at s;exact s
 ·simp only[slOK,hid]at hs;simp only[slOK,at_id];refine⟨hs.1,fun hg=>⟨(hs.2 hg).1,?_⟩⟩;have h2:=(hs.2 hg).2
  cases hρ:ρ id with
  |none=>grind
  |some b=>
   rw[hρ]at h2
   rcases h2 with h2|h2
   ·grind
   ·simp_all
 ·simp only[ptOK,hid]at hs;simp only[ptOK,at_id];exact⟨hs.1,fun hg=>⟨.inr (hs.2 hg),hd b (hs.2 hg)⟩⟩
theorem aEs{w:World}{I:Nat->Prop}{cs:List D}{b:Nat}(n:Nat)(h:DRs w I cs b 0):DRs w I (cs.take n) b 0:=by
 rw[fX]at h|-;intro k d hk;rw[Dh]at hk
 split at hk
 ·grind
 ·cases hk
theorem aPD{h:H}{ρ:Rho}{w:World}{I:Nat->Prop}{id:Nat}{cs:List D}(r:Rel G h ρ w I)(hid:h[id]? =some (.arr cs 1 0)):Step G h ρ w I (h.set id (.log cs)) ρ w I:=by
 have hlt:id<h.length:=by grind
 have at_id:(h.set id (.log cs))[id]? =some (.log cs):=by grind
 have hO:=r.obj id _ hid
 have s:=d8 (o':=.log cs) (I':=I) r hid trivial (ρ id) rfl rfl rfl (Ad _) (fun _ _ _=>rfl) (fun _ hb=>hb)
  (fun b hb=>.inl hb) (fun b hb=>.inl hb) (fun _ gen off len a cap hs=> ?_) (fun _ gen b hs=> ?_) (fun _=> ?_)
 ·rw[cO]at s;exact s
 ·simp only[slOK,hid]at hs;simp only[slOK,at_id];exact⟨by omega,fun hg=>by omega⟩
 ·simp only[ptOK,hid]at hs;simp only[ptOK,at_id];exact⟨by omega,fun hg=>by omega⟩
 ·simp only[OR,bA]at hO|-
  cases hρ:ρ id with
  |none=>grind
  |some b=>grind
theorem aIp{h:H}{ρ:Rho}{w:World}{I:Nat->Prop}{id:Nat}{cs:List D}(r:Rel G h ρ w I)(hid:h[id]? =some (.log cs)):
  ∃I',Step G h ρ w I (h.set id (.ice cs 1 (cs.length+1))) ρ w I'/\∀b,ρ id=some b->I' b/\DRs w I' cs b 0:=by
 have hlt:id<h.length:=by grind
 have at_id:(h.set id (.ice cs 1 (cs.length+1)))[id]? =some (.ice cs 1 (cs.length+1)):=by grind
 have hO:=r.obj id _ hid
 have hd:∀b,ρ id=some b->DRs w (fun k=>I k\/ρ id=some k) cs b 0:=fun b hb=>by
  simp only[OR,hb]at hO;obtain⟨_,C,E,fz,_,_,h4⟩:=hO;exact GM (fun k hk=>.inl hk) h4
 refine⟨fun k=>I k\/ρ id=some k,?_,fun b hb=>⟨.inr hb,hd b hb⟩⟩
 have s:=d8 (o':=.ice cs 1 (cs.length+1)) (I':=fun k=>I k\/ρ id=some k) r hid trivial (ρ id) rfl rfl rfl (Ad _) (fun _ _ _=>rfl) (fun _ hb=>.inl hb)
  (fun b hb=>hb.imp (fun x=>x) fun e=>⟨e,.inl fun h=>h⟩) (fun b hb=>.inl hb) (fun _ gen off len a cap hs=> ?_) (fun _ gen b hs=> ?_) (fun _=>by simp only[OR])
 ·rw[cO]at s;exact s
 ·simp only[slOK,hid]at hs;simp only[slOK,at_id];refine⟨hs.1,fun hg=> ?_⟩;subst hg;obtain⟨h1,h2,h3⟩:=hs.2 om;refine⟨h1,h2.imp (fun x=>x) ?_⟩;rintro⟨h4,b,ha,h5⟩;rw[Nat.add_sub_cancel,Cs]at h5;refine⟨by omega,b,ha,?_⟩
  rcases h5 with h5|⟨h5,h6⟩
  ·grind
  ·exact⟨.inl h5,GM (fun k hk=>.inl hk) h6⟩
 ·simp only[ptOK,hid]at hs;simp only[ptOK,at_id];refine⟨hs.1,fun hg=> ?_⟩;subst hg;have h5:=hs.2 om;rw[Nat.add_sub_cancel,Cs]at h5
  rcases h5 with h5|⟨h5,h6⟩
  ·grind
  ·exact⟨.inl h5,GM (fun k hk=>.inl hk) h6⟩
theorem S5{h:H}{ρ:Rho}{w:World}{I:Nat->Prop}{id:Nat}{cs:List A}{ds:List D}{esz g:Nat}(r:Rel G h ρ w I)(hid:h[id]? =some (.vec cs esz g))(hl:cs.length=ds.length)(hds:∀b,ρ id=some b->DRs w I ds b 0):
  ∃I',Step G h ρ w I (h.set id (.ice ds esz g)) ρ w I'/\∀b,ρ id=some b->I' b/\DRs w I' ds b 0:=by
 have hlt:id<h.length:=by grind
 have at_id:(h.set id (.ice ds esz g))[id]? =some (.ice ds esz g):=by grind
 have hd:∀b,ρ id=some b->DRs w (fun k=>I k\/ρ id=some k) ds b 0:=fun b hb=>GM (fun k hk=>.inl hk) (hds b hb);refine⟨fun k=>I k\/ρ id=some k,?_,fun b hb=>⟨.inr hb,hd b hb⟩⟩
 have s:=d8 (o':=.ice ds esz g) (I':=fun k=>I k\/ρ id=some k) r hid trivial (ρ id) rfl rfl rfl (Ad _) (fun _ _ _=>rfl) (fun _ hb=>.inl hb)
  (fun b hb=>hb.imp (fun x=>x) fun e=>⟨e,.inl fun h=>h⟩) (fun b hb=>.inl hb) (fun _ gen off len a cap hs=> ?_) (fun _ gen b hs=> ?_) (fun _=>by simp only[OR])
 ·rw[cO]at s;exact s
 ·simp only[slOK,hid]at hs;simp only[slOK,at_id];refine⟨hs.1,fun hg=>⟨(hs.2 hg).1,?_⟩⟩;have h2:=(hs.2 hg).2
  cases hρ:ρ id with
  |none=>grind
  |some b=>
   rw[hρ]at h2
   rcases h2 with h2|h2
   ·grind
   ·simp_all
 ·simp only[ptOK,hid]at hs;simp only[ptOK,at_id];exact⟨hs.1,fun hg=>⟨.inr (hs.2 hg),hd b (hs.2 hg)⟩⟩
theorem aIG{h:H}{ρ:Rho}{w:World}{I:Nat->Prop}{id:Nat}{cs:List A}{ds:List D}{b:Nat}(r:Rel G h ρ w I)(hid:h[id]? =some (.box cs))(hb:ρ id=some b)(hd:DRs w I ds b 0):
  ∃I',Step G h ρ w I (h.set id (.ice ds 1 0)) ρ w I'/\I' b/\DRs w I' ds b 0:=by
 have hlt:id<h.length:=by grind
 have at_id:(h.set id (.ice ds 1 0))[id]? =some (.ice ds 1 0):=by grind
 have hd':DRs w (fun k=>I k\/ρ id=some k) ds b 0:=GM (fun k hk=>.inl hk) hd;refine⟨fun k=>I k\/ρ id=some k,?_,.inr hb,hd'⟩
 have s:=d8 (o':=.ice ds 1 0) (I':=fun k=>I k\/ρ id=some k) r hid trivial (ρ id) rfl rfl rfl (Ad _) (fun _ _ _=>rfl) (fun _ hb=>.inl hb)
  (fun b hb=>hb.imp (fun x=>x) fun e=>⟨e,.inl fun h=>h⟩) (fun b hb=>.inl hb) (fun _ gen off len a cap hs=> ?_) (fun _ gen b' hs=> ?_) (fun _=>by simp only[OR])
 ·rw[cO]at s;exact s
 ·simp only[slOK,hid]at hs
 ·simp only[ptOK,hid]at hs;simp only[ptOK,at_id];refine⟨by omega,fun _=>⟨.inr hs.2,?_⟩⟩;have:=hs.2;rw[hb]at this;cases this;exact hd'
end
section
variable{G:Gnd}
theorem wF{h:H}{ρ:Rho}{w:World}{I:Nat->Prop}{b:Nat}:∀(cs:List A) (o:Nat),(∀(k:Nat) (c:A),cs[k]? =some c->∃v,cellAt w b (o+k)=some v/\AR h ρ w I c v/\v.oneCell'=true)->
  ∃vs,ARv h ρ w I cs vs/\∀(k:Nat) (v:Value),vs[k]? =some v->cellAt w b (o+k)=some v/\v.oneCell'=true
 | [],o,_=>⟨[],by simp only[ARv],fun k v hv=>by simp at hv⟩
 |c::cs,o,hc=>by
  obtain⟨v,hv,ha,ho⟩:=hc 0 c sm
  obtain⟨vs,hvs,hall⟩:=wF cs (o+1) (fun k c' hk=>by
   obtain⟨u,hu,hh⟩:=hc (k+1) c' (by simpa using hk);exact⟨u,by rw[<-hu];congr 1;omega,hh⟩)
  refine⟨v::vs,by simp only[ARv];exact⟨v,vs,rfl,ha,hvs⟩,fun k u hk=> ?_⟩
  cases k with
  |zero=>grind
  |succ k=>grind
theorem zC{w:World}{I:Nat->Prop}{ds:List D}{vs:List Value}{b:Nat}(hd:DRv w I ds vs)(hc:∀(k:Nat) (v:Value),vs[k]? =some v->cellAt w b (0+k)=some v/\v.oneCell'=true):DRs w I ds b 0:=by
 rw[fX];intro k d hk;obtain⟨hl,hall⟩:=(iD ds vs).1 hd;obtain⟨v,hv,hdv⟩:=hall k d hk;exact⟨v,(hc k v hv).1,hdv,(hc k v hv).2⟩
def aMk(G:Gnd)(f:H->A->Option (D×H)):Prop:=∀(h:H) (a:A) (x:D) (h1:H),f h a=some (x,h1)->∀(ρ:Rho) (w:World) (I:Nat->Prop) (v:Value),Rel G h ρ w I->AR h ρ w I a v->
 ∃I',Step G h ρ w I h1 ρ w I'/\DR w I' x v
theorem vB{f:H->A->Option (D×H)}(hf:aMk G f):∀(asx:List A) (h:H) (ds:List D) (h1:H),eJ f h asx=some (ds,h1)->∀(ρ:Rho) (w:World) (I:Nat->Prop) (vs:List Value),Rel G h ρ w I->ARv h ρ w I asx vs->
  ∃I',Step G h ρ w I h1 ρ w I'/\DRv w I' ds vs
 | [],h,ds,h1,he,ρ,w,I,vs,r,ha=>by
  obtain⟨rfl,rfl⟩:=he;exact⟨I,.refl r,by simp only[DRv];exact ha⟩
 |a::asx,h,ds,h1,he,ρ,w,I,vs,r,ha=>by
  simp only[eJ]at he
  split at he
  ·rename_i x h2 hx
   split at he
   ·rename_i ds' h3 hds
    simp only[Option.some.injEq,Prod.mk.injEq]at he;obtain⟨rfl,rfl⟩:=he;obtain⟨v,rest,rfl,hav,hrest⟩:=ha;obtain⟨I1,s1,d1⟩:=hf h a x h2 hx ρ w I v r hav;obtain⟨I2,s2,d2⟩:=vB hf asx h2 ds' h3 hds ρ w I1 rest s1.rel (fW s1.ext asx rest hrest);exact⟨I2,s1.trans s2,by simp only[DRv];exact⟨v,rest,rfl,nR s2.ext.imm x v d1,d2⟩⟩
   ·cases he
  ·cases he
theorem kS:aMk G frz0:=by
 intro h a x h1 he ρ w I v r ha
 cases a with
 |d y=>
  obtain⟨rfl,rfl⟩:=he;exact⟨I,.refl r,ha⟩
 |sl id gen off len=>
  obtain⟨a,cap,rfl,hs⟩:=ha;simp only[frz0]at he
  cases hid:h[id]? with
  |none=>grind
  |some o=>
   rw[hid]at he
   cases o with
   |vec cs e g=>grind
   |box cs=>grind
   |mp es=>grind
   |void=>grind
   |log cs=>
    simp only[]at he
    split at he
    ·rename_i hc
     obtain⟨rfl,hle⟩:=hc;obtain⟨rfl,rfl⟩:=he;obtain⟨I',s,hI⟩:=aIp r hid;refine⟨I',s,?_⟩;simp only[slOK,hid]at hs;obtain⟨h1,h2,h3⟩:=hs.2 om;refine⟨a,cap,rfl,h1,?_⟩
     rcases h2 with h2|⟨h4,b,ha,h5⟩
     ·grind
     ·rw[Nat.add_sub_cancel,Cs]at h5
      have hb:I' b/\DRs w I' cs b 0:=by
       rcases h5 with h5|⟨h5,h6⟩
       ·grind
       ·exact⟨(s.ext.imm b h5).1,hU s.ext.imm cs b 0 h5 h6⟩
      refine .inr ⟨b,off,ha,hb.1,?_⟩;have:=wI len (j6 off hb.2)
      simpa using this
    ·cases he
   |arr cs esz g=>
    simp only[]at he
    split at he
    ·rename_i hc
     obtain⟨rfl,hle⟩:=hc;obtain⟨rfl,rfl⟩:=he;obtain⟨I',s,hI⟩:=aJb r hid;refine⟨I',s,?_⟩;simp only[slOK,hid]at hs;have h1:=(hs.2 trivial).1;have h2:=(hs.2 trivial).2;refine⟨a,cap,rfl,h1,?_⟩
     cases hρ:ρ id with
     |none=>simp_all
     |some b=>
      rw[hρ]at h2;obtain⟨hIb,hd⟩:=hI b hρ
      rcases h2 with h2|h2
      ·simp_all
      refine .inr ⟨b,off,h2.1,hIb,?_⟩;have:=wI (len*esz) (j6 off hd)
      simpa using this
    ·cases he
   |ice cs esz g=>
    simp only[]at he
    split at he
    ·rename_i hc
     obtain⟨rfl,hle⟩:=hc;obtain⟨rfl,rfl⟩:=he;refine⟨I,.refl r,?_⟩;simp only[slOK,hid]at hs;refine⟨a,cap,rfl,(hs.2 trivial).1,?_⟩
     rcases(hs.2 trivial).2 with h2|⟨_,b,hb,hIb,hd⟩
     ·simp_all
     ·refine .inr ⟨b,off,hb,hIb,?_⟩;have:=wI (len*esz) (j6 off hd)
      simpa using this
    ·cases he
 |ptr id gen off=>simp[frz0]at he
 |mp id=>simp[frz0]at he
 |clo f caps=>simp[frz0]at he
 |agg cs=>simp[frz0]at he
 |tup vs=>simp[frz0]at he
 |junk=>simp[frz0]at he
theorem M4:∀n,aMk G (frz n)
 |0=>by
  intro h a x h1 he;have:frz0 h a=some (x,h1):=by simpa only[frz]using he
  exact kS h a x h1 this
 |n+1=>by
  intro h a x h1 he ρ w I v r ha
  cases a with
  |ptr id gen off=>
   simp only[AR]at ha;obtain⟨b,rfl,hp⟩:=ha;simp only[frz]at he
   cases hid:h[id]? with
   |none=>rw[hid]at he;cases he
   |some o=>
    rw[hid]at he
    cases o with
    |arr cs esz g=>cases he
    |vec cs esz g=>cases he
    |log cs=>cases he
    |mp es=>cases he
    |void=>cases he
    |ice cs esz g=>
     simp only[]at he
     split at he
     ·rename_i hc
      obtain⟨rfl,hle⟩:=hc;simp only[Option.some.injEq,Prod.mk.injEq]at he;obtain⟨rfl,rfl⟩:=he;simp only[ptOK,hid]at hp;obtain⟨hIb,hd⟩:=hp.2 trivial;refine⟨I,.refl r,?_⟩;simp only[DR];exact⟨b,off,rfl,hIb,by have:=j6 off hd;simpa using this⟩
     ·cases he
    |box cs=>
     simp only[]at he
     split at he
     ·rename_i hc
      split at he
      ·rename_i ds h2 hl
       split at he
       ·rename_i cs' hid'
        simp only[Option.some.injEq,Prod.mk.injEq]at he;obtain⟨rfl,rfl⟩:=he;simp only[ptOK,hid]at hp;have hO:=r.obj id _ hid;simp only[OR]at hO;obtain⟨b',hb',hIb,C,E,fz,hC,hfz,hcs⟩:=hO;rw[hp.2]at hb';cases hb';obtain⟨vs,hvs,hcell⟩:=wF cs 0 (fun k c hk=>by simpa using hcs k c hk);obtain⟨I1,s1,d1⟩:=vB (M4 n) cs h ds h2 hl ρ w I vs r hvs;have hd:=zC d1 hcell;obtain⟨I2,s2,hI2,hd2⟩:=aIG s1.rel hid' hp.2 hd;refine⟨I2,s1.trans s2,?_⟩;simp only[DR];exact⟨b,off,rfl,hI2,by have:=j6 off hd2;simpa using this⟩
       ·cases he
      ·cases he
     ·cases he
  |clo f caps=>
   simp only[AR]at ha;obtain⟨cv,rfl,hc⟩:=ha;simp only[frz]at he
   split at he
   ·rename_i ds h2 hl
    simp only[Option.some.injEq,Prod.mk.injEq]at he;obtain⟨rfl,rfl⟩:=he;obtain⟨I1,s1,d1⟩:=vB (M4 n) caps h ds h2 hl ρ w I _ r hc;exact⟨I1,s1,by simp only[DR];exact⟨cv,rfl,d1⟩⟩
   ·cases he
  |d y=>exact kS h _ x h1 (by simpa only[frz]using he) ρ w I v r ha
  |mp id=>exact kS h _ x h1 (by simpa only[frz]using he) ρ w I v r ha
  |sl id gen off len=>
   simp only[frz]at he
   cases hid:h[id]? with
   |none=>rw[hid]at he;exact kS h _ x h1 he ρ w I v r ha
   |some o=>
    rw[hid]at he
    cases o with
    |arr cs esz g=>exact kS h _ x h1 he ρ w I v r ha
    |box cs=>exact kS h _ x h1 he ρ w I v r ha
    |ice cs esz g=>exact kS h _ x h1 he ρ w I v r ha
    |mp es=>exact kS h _ x h1 he ρ w I v r ha
    |log cs=>exact kS h _ x h1 he ρ w I v r ha
    |void=>exact kS h _ x h1 he ρ w I v r ha
    |vec cs esz g=>
     simp only[]at he
     split at he
     ·rename_i hc
      obtain⟨rfl,hle⟩:=hc
      split at he
      ·rename_i ds h2 hl
       split at he
       ·rename_i cs' e' g' hid'
        split at he
        ·rename_i hc2
         obtain⟨rfl,rfl,hlen⟩:=hc2;simp only[Option.some.injEq,Prod.mk.injEq]at he;obtain⟨rfl,rfl⟩:=he;simp only[AR]at ha;obtain⟨a,cap,rfl,hs⟩:=ha;simp only[slOK,hid]at hs;have hcap:=(hs.2 trivial).1;have h2':=(hs.2 trivial).2;have hO:=r.obj id _ hid;simp only[OR]at hO
         cases hρ:ρ id with
         |none=>
          rw[hρ]at hO h2';simp only at hO h2';subst hO;simp only[eJ,Option.some.injEq,Prod.mk.injEq]at hl;obtain⟨rfl,rfl⟩:=hl;obtain⟨I2,s2,hI2⟩:=S5 (ds:=[]) r hid rfl (fun b hb=>by rw[hρ]at hb;cases hb);refine⟨I2,s2,?_⟩;simp only[DR];refine⟨a,cap,rfl,hcap,.inl sm⟩
         |some b=>
          rw[hρ]at hO h2';simp only at hO h2';obtain⟨hez,hIb,C,E,fz,hC,hfz,hcs⟩:=hO;obtain⟨vs,hvs,hcell⟩:=wF cs 0 (fun k c hk=>by simpa using hcs k c hk);obtain⟨I1,s1,d1⟩:=vB (M4 n) cs h ds h2 hl ρ w I vs r hvs;have hd:=zC d1 hcell;have hdl:ds.length=cs.length:=by rw[((iD ds vs).1 d1).1,((eP cs vs).1 hvs).1]
          obtain⟨I2,s2,hI2⟩:=S5 s1.rel hid' (hlen.trans hdl.symm) (fun b' hb'=>by rw[hρ]at hb';cases hb';exact hd);refine⟨I2,s1.trans s2,?_⟩;simp only[DR];refine⟨a,cap,rfl,hcap,?_⟩
          rcases h2' with h2'|h2'
          ·left;have:len=0:=om;subst this;simp
          ·right;obtain⟨hIb2,hd2⟩:=hI2 b hρ;refine⟨b,off,h2'.1,hIb2,?_⟩;have:=wI (len*e') (j6 off hd2)
           simpa using this
        ·cases he
       ·cases he
      ·cases he
     ·cases he
  |agg cs=>exact kS h _ x h1 (by simpa only[frz]using he) ρ w I v r ha
  |tup vs=>exact kS h _ x h1 (by simpa only[frz]using he) ρ w I v r ha
  |junk=>exact kS h _ x h1 (by simpa only[frz]using he) ρ w I v r ha
theorem aDz{h:H}{asx:List A}{ds:List D}{h1:H}(he:frzL h asx=some (ds,h1)){ρ:Rho}{w:World}{I:Nat->Prop}{vs:List Value}(r:Rel G h ρ w I)(ha:ARv h ρ w I asx vs):
  ∃I',Step G h ρ w I h1 ρ w I'/\DRv w I' ds vs:=vB (M4 deep) asx h ds h1 he ρ w I vs r ha
def DA(w:World)(I:Nat->Prop)(x:A)(v:Value):Prop:=
 (∃y,x=.d y/\DR w I y v)\/(∃ds C,x=.agg (ds.map .d)/\v=.agg C/\DRv w I ds C.toList)
theorem DA.mono{w w':World}{I I':Nat->Prop}(hi:Imm w I w' I'){x:A}{v:Value}(h:DA w I x v):DA w' I' x v:=by
 rcases h with⟨y,rfl,hy⟩|⟨ds,C,rfl,rfl,hd⟩
 ·exact .inl ⟨y,rfl,nR hi y v hy⟩
 ·exact .inr ⟨ds,C,rfl,rfl,oX hi ds _ hd⟩
theorem DA.ar{w:World}{I:Nat->Prop}{x:A}{v:Value}(d:DA w I x v)(h:H)(ρ:Rho):AR h ρ w I x v:=by
 rcases d with⟨y,rfl,hy⟩|⟨ds,C,rfl,rfl,hd⟩
 ·simp only[AR];exact hy
 ·simp only[AR];exact⟨C,rfl,(nW ds _).2 hd⟩
def DAv(w:World)(I:Nat->Prop):List A->List Value->Prop
 | [],vs=>vs=[]
 |a::asx,vs=>∃v rest,vs=v::rest/\DA w I a v/\DAv w I asx rest
theorem DAv.mono{w w':World}{I I':Nat->Prop}(hi:Imm w I w' I'):∀ {xs:List A} {vs:List Value},DAv w I xs vs->DAv w' I' xs vs
 | [],_,h=>h
 |_::_,_,⟨v,rest,hv,ha,hr⟩=>⟨v,rest,hv,ha.mono hi,DAv.mono hi hr⟩
theorem DAv.ar{w:World}{I:Nat->Prop}(h:H)(ρ:Rho):∀ {xs:List A} {vs:List Value},DAv w I xs vs->ARv h ρ w I xs vs
 | [],_,d=>by simp only[ARv];exact d
 |_::_,_,⟨v,rest,hv,ha,hr⟩=>by simp only[ARv];exact⟨v,rest,hv,ha.ar h ρ,DAv.ar h ρ hr⟩
theorem aRM{h:H}{a x:A}{h1:H}(he:frzA h a=some (x,h1)){ρ:Rho}{w:World}{I:Nat->Prop}{v:Value}(r:Rel G h ρ w I)(ha:AR h ρ w I a v):
  ∃I',Step G h ρ w I h1 ρ w I'/\DA w I' x v:=by
 cases a with
 |agg cs=>
  simp only[frzA]at he
  split at he
  ·rename_i ds h2 hl
   obtain⟨rfl,rfl⟩:=he;obtain⟨C,rfl,hc⟩:=ha;obtain⟨I',s,d⟩:=aDz hl r hc;exact⟨I',s,.inr ⟨ds,C,rfl,rfl,d⟩⟩
  ·cases he
 |_=>
  simp only[frzA]at he
  split at he
  ·rename_i y h2 hl
   simp only[Option.some.injEq,Prod.mk.injEq]at he;obtain⟨rfl,rfl⟩:=he;obtain⟨I',s,d⟩:=M4 deep h _ y h2 hl ρ w I v r ha;exact⟨I',s,.inl ⟨y,rfl,d⟩⟩
  ·cases he
theorem IR:∀(asx:List A) (h:H) (xs:List A) (h1:H),eS h asx=some (xs,h1)->∀(ρ:Rho) (w:World) (I:Nat->Prop) (vs:List Value),Rel G h ρ w I->ARv h ρ w I asx vs->
  ∃I',Step G h ρ w I h1 ρ w I'/\DAv w I' xs vs
 | [],h,ds,h1,he,ρ,w,I,vs,r,ha=>by
  obtain⟨rfl,rfl⟩:=he;exact⟨I,.refl r,ha⟩
 |a::asx,h,ds,h1,he,ρ,w,I,vs,r,ha=>by
  simp only[eS]at he
  split at he
  ·rename_i x h2 hx
   split at he
   ·rename_i ds' h3 hds
    simp only[Option.some.injEq,Prod.mk.injEq]at he;obtain⟨rfl,rfl⟩:=he;obtain⟨v,rest,rfl,hav,hrest⟩:=ha;obtain⟨I1,s1,d1⟩:=aRM hx r hav;obtain⟨I2,s2,d2⟩:=IR asx h2 ds' h3 hds ρ w I1 rest s1.rel (fW s1.ext asx rest hrest);exact⟨I2,s1.trans s2,v,rest,rfl,d1.mono s2.ext.imm,d2⟩
   ·cases he
  ·cases he
end
section
variable{G:Gnd}
theorem QJ{P:Program}{t:TypeId}{d:TypeDesc}(h:P.underlying t=some d):∃i,P.info? t=some i:=by
 unfold Program.underlying at h
 split at h
 ·grind
 ·grind
 ·cases h
theorem aR{P:Program}{t:TypeId}{d:TypeDesc}(h:P.underlying t=some d)(w:World):(underlying t).run P w=.ok d w:=by
 simp[underlying,h]
theorem vZ{P:Program}{t:TypeId}{i:TypeInfo}(h:P.info? t=some i)(w:World):(typeInfo t).run P w=.ok i w:=by
 simp[typeInfo,h]
theorem cT{P:Program}{t:TypeId}{i:TypeInfo}(h:P.info? t=some i)(w:World):(sizeOf t).run P w=.ok (P.cellsOf t) w:=by
 simp[sizeOf,vZ h,Program.cellsOf,h]
theorem LH{P:Program}{t:TypeId}{b:Bool}(h:c7 P t=some b)(w:World):(isAgg t).run P w=.ok b w:=by
 unfold c7 at h
 split at h
 ·rename_i hd;cases h;simp[isAgg,aR hd]
 ·rename_i hd;cases h;simp[isAgg,aR hd]
 ·rename_i d h1 h2 hd
  cases h
  cases d<;>first|(exact absurd rfl (h1 _))|(exact absurd rfl (h2 _ _))|simp[isAgg,aR hd]
 ·cases h
theorem kA(b o n:Nat):Addr.add ⟨b,o,none⟩ n=⟨b,o+n,none⟩:=by
 unfold Addr.add;split
 ·grind
 ·rfl
theorem aFY{P:Program}{w:World}{b o:Nat}:∀(vs:List Value) (i:Nat) (acc:Array Value),(∀(k:Nat) (v:Value),vs[k]? =some v->cellAt w b (o+i+k)=some v)->
  (loadCellsFrom ⟨b,o,none⟩ i vs.length acc).run P w=.ok (acc++vs.toArray) w
 | [],i,acc,_=>by simp[loadCellsFrom]
 |v::vs,i,acc,h=>by
  have h0:w.cell? ⟨b,o+i,none⟩=some v:=by rw[cell?_eq];simpa using h 0 v sm
  have ih:=aFY (P:=P) (w:=w) (b:=b) (o:=o) vs (i+1) (acc.push v) (fun k u hk=>by
   have:=h (k+1) u (by simpa using hk);rw[<-this];congr 1;omega)
  have e:acc.push v++vs.toArray=acc++(v::vs).toArray:=sm;rw[<-e,<-ih];simp only[loadCellsFrom,kA,Ac,Sem.run_bind,run_load];rw[h0];rfl
theorem run_loadCells'{P:Program}{w:World}{b o:Nat}(vs:List Value)(h:∀(k:Nat) (v:Value),vs[k]? =some v->cellAt w b (o+k)=some v):
  (loadCells ⟨b,o,none⟩ vs.length).run P w=.ok vs.toArray w:=by
 have:=aFY (P:=P) (w:=w) (b:=b) (o:=o) vs 0 #[] (fun k v hk=>by simpa using h k v hk)
 simpa [loadCells]using this
theorem aHS{h:H}{ρ:Rho}{w:World}{I:Nat->Prop}{a:A}{v:Value}{run:List A}(he:m7 h a=some run)(r:Rel G h ρ w I)(ha:AR h ρ w I a v):
  ∃b o,v=.pointer (some ⟨b,o,none⟩)/\∀(k:Nat) (c:A),run[k]? =some c->∃u,cellAt w b (o+k)=some u/\AR h ρ w I c u/\u.oneCell'=true:=by
 have data:∀(cs:List D) (b o:Nat),DRs w I cs b 0->∀(k:Nat) (c:A),((cs.drop o).map A.d)[k]? =some c->∃u,cellAt w b (o+k)=some u/\AR h ρ w I c u/\u.oneCell'=true:=by
  intro cs b o hd k c hk;rw[Bb]at hk
  cases hk':(cs.drop o)[k]? with
  |none=>grind
  |some d=>
   rw[hk']at hk;simp at hk;subst hk;obtain⟨u,hu,hdu,ho⟩:=(fX _ _ _).1 (j6 o hd) k d hk';exact⟨u,by simpa using hu,by simp only[AR];exact hdu,ho⟩
 cases a with
 |ptr id gen off=>
  obtain⟨b,rfl,hp⟩:=ha;refine⟨b,off,rfl,?_⟩;simp only[m7]at he
  cases hid:h[id]? with
  |none=>grind
  |some o=>
   rw[hid]at he;have hO:=r.obj id o hid
   cases o with
   |box cs=>
    simp only[Option.some.injEq]at he;subst he;simp only[ptOK,hid]at hp;obtain⟨b',hb',_,_,_,_,_,_,hcs⟩:=hO;rw[hp.2]at hb';cases hb';intro k c hk;exact hcs (off+k) c (by simpa using hk)
   |arr cs esz g=>
    simp only[]at he
    split at he
    ·rename_i hg
     simp only[Option.some.injEq]at he;subst he;simp only[ptOK,hid]at hp;simp only[OR,hp.2 hg.symm]at hO;obtain⟨_,_,_,_,_,_,_,hd⟩:=hO;exact data cs b off hd
    ·cases he
   |vec cs esz g=>
    simp only[]at he
    split at he
    ·rename_i hg
     simp only[Option.some.injEq]at he;subst he;simp only[ptOK,hid]at hp;simp only[OR,hp.2 hg.symm]at hO;obtain⟨_,_,_,_,_,_,_,hcs⟩:=hO;intro k c hk;exact hcs (off+k) c (by simpa using hk)
    ·cases he
   |ice cs esz g=>
    simp only[]at he
    split at he
    ·rename_i hg
     simp only[Option.some.injEq]at he;subst he;simp only[ptOK,hid]at hp;exact data cs b off (hp.2 hg.symm).2
    ·cases he
   |log cs=>
    simp only[]at he
    split at he
    ·rename_i hg
     simp only[Option.some.injEq]at he;subst he;simp only[ptOK,hid]at hp
     have hd:DRs w I (cs.take (gen-1)) b 0:=by
      rcases hp.2 om with h1|h1
      ·simp only[OR,h1]at hO;obtain⟨_,_,_,_,_,_,hd⟩:=hO;exact aEs _ hd
      ·exact h1.2
     intro k c hk;refine data _ b off hd k c ?_;rw[Bb,Dh]at hk
     split at hk
     ·grind
     ·cases hk
    ·cases he
   |mp es=>grind
   |void=>grind
 |d x=>
  cases x with
  |iptr cs=>
   obtain⟨b,o,rfl,_,hd⟩:=ha;simp only[m7,Option.some.injEq]at he;subst he;refine⟨b,o,rfl,fun k c hk=> ?_⟩;rw[Bb]at hk
   cases hk':cs[k]? with
   |none=>grind
   |some d=>
    rw[hk']at hk;simp at hk;subst hk;obtain⟨u,hu,hdu,ho⟩:=(fX _ _ _).1 hd k d hk';exact⟨u,hu,by simp only[AR];exact hdu,ho⟩
  |_=>simp[m7]at he
 |_=>simp[m7]at he
theorem aPl{h:H}{ρ:Rho}{w:World}{I:Nat->Prop}{b o:Nat}:∀(run:List A),(∀(k:Nat) (c:A),run[k]? =some c->∃u,cellAt w b (o+k)=some u/\AR h ρ w I c u/\u.oneCell'=true)->
  ∃vs,ARv h ρ w I run vs/\vs.length=run.length/\∀(k:Nat) (v:Value),vs[k]? =some v->cellAt w b (o+k)=some v:=by
 intro run hc;obtain⟨vs,h1,h2⟩:=wF run o hc;exact⟨vs,h1,((eP _ _).1 h1).1.symm,fun k v hk=>(h2 k v hk).1⟩
theorem aKR{P:Program}{h:H}{ρ:Rho}{w:World}{I:Nat->Prop}{t:TypeId}{a x:A}{v:Value}(he:B5 P h t a=some x)(r:Rel G h ρ w I)(ha:AR h ρ w I a v):
  ∃u,(Instr.loadAt t v).run P w=.ok u w/\AR h ρ w I x u:=by
 unfold B5 at he
 split at he
 ·rename_i run b hrun hagg
  obtain⟨bl,o,rfl,hc⟩:=aHS hrun r ha
  have hinfo:∃i,P.info? t=some i:=by
   unfold c7 at hagg
   cases hu:P.underlying t with
   |none=>grind
   |some d=>exact QJ hu
  obtain⟨i,hi⟩:=hinfo;unfold tB at he
  cases b with
  |true=>
   rw[if_pos rfl]at he
   split at he
   ·rename_i hle
    cases he
    obtain⟨vs,h1,h2,h3⟩:=aPl (h:=h) (ρ:=ρ) (w:=w) (I:=I) (b:=bl) (o:=o) (run.take (P.cellsOf t)) (fun k c hk=>by
     rw[Dh]at hk
     split at hk
     ·grind
     ·cases hk)
    have hl:vs.length=P.cellsOf t:=by grind
    refine⟨.agg vs.toArray,?_,by simp only[AR];exact⟨vs.toArray,rfl,by simpa using h1⟩⟩;have hload:=run_loadCells' (P:=P) vs h3;rw[hl]at hload;simp[Instr.loadAt,Instr.sureAddr,loadVar,LH hagg,cT hi,hload]
   ·cases he
  |false=>
   cases run with
   |nil=>grind
   |cons c run=>
    simp at he;subst he;obtain⟨u,hu,hau,_⟩:=hc 0 c sm;refine⟨u,?_,hau⟩;have:w.cell? ⟨bl,o,none⟩=some u:=by rw[cell?_eq];simpa using hu
    simp[Instr.loadAt,Instr.sureAddr,loadVar,LH hagg,this]
 ·cases he
def cZ(w:World)(b:Nat)(o:Obj):World:={ w with heap:=w.heap.setIfInBounds b o}
theorem aJH{w:World}{b k:Nat}{C:Array Value}{E:TypeId}{fz:Nat×Nat}(hb:w.heap[b]? =some (.cells C E fz))(v:Value):
  w.setCell ⟨b,k,none⟩ v=cZ w b (.cells (C.setIfInBounds k v) E fz):=by
 unfold World.setCell cZ
 congr 1
 apply Array.ext_getElem?;intro j;simp only[Array.getElem?_modify,Array.getElem?_setIfInBounds]
 by_cases e:b=j
 ·grind
 ·simp[e]
theorem aL9(w:World)(b:Nat)(o o':Obj):cZ (cZ w b o) b o'=cZ w b o':=by
 unfold cZ;simp only[World.mk.injEq,and_true];apply Array.ext_getElem?;intro j
 by_cases e:b=j<;>simp[e]
theorem eN{w:World}{b:Nat}{o:Obj}(hb:b<w.heap.size):(cZ w b o).heap[b]? =some o:=by
 simp[cZ,hb]
theorem nL{w:World}{b k:Nat}{o:Obj}(h:k≠b):(cZ w b o).heap[k]? =w.heap[k]?:=by
 simp only[cZ,Array.getElem?_setIfInBounds];rw[if_neg (Ne.symm h)]
theorem yO{P:Program}{b o:Nat}{E:TypeId}{fz:Nat×Nat}:∀(vs:List Value) (i:Nat) (C:Array Value) (w:World),w.heap[b]? =some (.cells C E fz)->wM C fz->o+i+vs.length<=C.size->(∀v∈vs,v.oneCell'=true)->
  ∃C':Array Value,(storeCells ⟨b,o,none⟩ vs i).run P w=.ok () (cZ w b (.cells C' E fz))/\C'.size=C.size/\∀k:Nat,C'[k]? =if o+i<=k/\k<o+i+vs.length then vs[k-(o+i)]? else C[k]?
 | [],i,C,w,hb,_,_,_=>by
  refine⟨C,?_,rfl,fun k=> ?_⟩
  ·have:cZ w b (.cells C E fz)=w:=by
    unfold cZ;obtain⟨hlt,he⟩:=Bn.1 hb;have:w.heap.setIfInBounds b (.cells C E fz)=w.heap:=by grind
    rw[this]
   rw[this];simp[storeCells]
  ·grind
 |v::vs,i,C,w,hb,hfz,hl,hone=>by
  have hlt:=(Bn.1 hb).1;simp only[Ac]at hl;have hk:o+i<C.size:=om;have hcell:w.cell? ⟨b,o+i,none⟩=some C[o+i]:=by rw[cell?_eq];simp[cellAt,hb,hk]
  have hfr:w.frozen? ⟨b,o+i,none⟩=false:=by
   have:=hfz (o+i) hk;unfold World.frozen?;simp only[hb]
   rcases fz with⟨lo,hi⟩
   simp only[Bool.and_eq_false_iff,decide_eq_false_iff_not];omega
  have hst:(store (Addr.add ⟨b,o,none⟩ i) v).run P w=.ok () (cZ w b (.cells (C.setIfInBounds (o+i) v) E fz)):=by
   rw[kA,run_store P w _ v _ (hone v sm),hcell];simp only[hfr];rw[aJH hb];rfl
  obtain⟨C',h1,h2,h3⟩:=yO (P:=P) (o:=o) vs (i+1) (C.setIfInBounds (o+i) v) (cZ w b (.cells (C.setIfInBounds (o+i) v) E fz)) (eN hlt)
   (fun j hj=>hfz j (by simpa using hj)) (by simp;omega) (fun u hu=>hone u (by simp[hu]))
  rw[aL9]at h1;refine⟨C',by simp only[storeCells,Sem.run_bind];rw[hst];simpa using h1,by simpa using h2,fun k=> ?_⟩;rw[h3 k];simp only[Ac]
  by_cases e:k=o+i
  ·grind
  ·grind
end
end Ev
end Go.Proofs.YtahbdkmimmnadaaGreatDoor
