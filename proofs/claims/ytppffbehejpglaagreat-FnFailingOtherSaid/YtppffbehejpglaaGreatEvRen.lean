/-
  How the abstract state stands for a state of the machine, and what keeps that.
-/
import Derived.Test.YtppffbehejpglaaGreatEvDef
import Derived.MapKept
set_option linter.unusedSimpArgs false
set_option linter.unusedVariables false
set_option linter.unusedSectionVars false
namespace Go.Proofs.YtppffbehejpglaaGreat
namespace Ev
section
structure Gnd where
 cells:List (Nat×Array Value)
 keeps:Bool
variable{G:Gnd}
def cT(w:World)(b k:Nat):Option Value:=
 match w.heap[b]? with
 |some (.cells C _ _)=>C[k]?
 |_=>none
theorem cell?_eq (w:World) (b k:Nat):w.cell? ⟨b,k,none⟩=cT w b k:=by
 unfold World.cell? cT
 split<;>simp_all
theorem dS{w w':World}{b k:Nat}(h:w'.heap[b]? =w.heap[b]?):cT w' b k=cT w b k:=by
 unfold cT;rw[h]
mutual
def DR(w:World)(I:Nat->Prop):D->Value->Prop
 |.undef,v=>v=undef
 |.int k n,v=>v=.int k n
 |.bool b,v=>v=.bool b
 |.str s,v=>v=.string ⟨s.toArray⟩
 |.ivs n cs,v=>∃a cap,v=.slice a n cap/\n<=cap/\(cs=[]\/∃b o,a=some ⟨b,o,none⟩/\I b/\DRs w I cs b o)
 |.nils,v=>∃a,v=.slice a 0 0
 |.iptr cs,v=>∃b o,v=.pointer (some ⟨b,o,none⟩)/\I b/\DRs w I cs b o
 |.nilp,v=>v=.pointer none
 |.fn f caps,v=>∃cv,v=.func (.func f) #[] cv/\DRv w I caps cv.toList
 |.nilfn,v=>v=.nilFunc
 |.nili,v=>v=.nilIface
 |.nilm,v=>v=.map none
 |.ifc t x,v=>∃u,v=.iface t u/\DR w I x u
def DRs(w:World)(I:Nat->Prop):List D->Nat->Nat->Prop
 | [],_,_=>True
 |d::ds,b,o=>(∃v,cT w b o=some v/\DR w I d v/\v.oneCell'=true)/\DRs w I ds b (o+1)
def DRv(w:World)(I:Nat->Prop):List D->List Value->Prop
 | [],vs=>vs=[]
 |d::ds,vs=>∃v rest,vs=v::rest/\DR w I d v/\DRv w I ds rest
end
section mono
variable{w w':World}{I I':Nat->Prop}
mutual
theorem nM(hI:∀b,I b->I' b/\w'.heap[b]? =w.heap[b]?):∀(d:D) (v:Value),DR w I d v->DR w' I' d v
 |.undef,v,h=>by simpa only[DR]using h
 |.int k n,v,h=>by simpa only[DR]using h
 |.bool b,v,h=>by simpa only[DR]using h
 |.str s,v,h=>by simpa only[DR]using h
 |.ivs n cs,v,h=>by
  simp only[DR]at h|-;obtain⟨a,cap,hv,hcap,hc⟩:=h;refine⟨a,cap,hv,hcap,?_⟩
  rcases hc with hc|⟨b,o,ha,hb,hr⟩
  ·exact .inl hc
  ·exact .inr ⟨b,o,ha,(hI b hb).1,hJ hI cs b o hb hr⟩
 |.nils,v,h=>by simpa only[DR]using h
 |.iptr cs,v,h=>by
  simp only[DR]at h|-;obtain⟨b,o,hv,hb,hr⟩:=h;exact⟨b,o,hv,(hI b hb).1,hJ hI cs b o hb hr⟩
 |.nilp,v,h=>by simpa only[DR]using h
 |.fn f caps,v,h=>by
  simp only[DR]at h|-;obtain⟨cv,hv,hc⟩:=h;exact⟨cv,hv,pG hI caps _ hc⟩
 |.nilfn,v,h=>by simpa only[DR]using h
 |.nili,v,h=>by simpa only[DR]using h
 |.nilm,v,h=>by simpa only[DR]using h
 |.ifc t x,v,h=>by
  simp only[DR]at h|-;obtain⟨u,hv,hc⟩:=h;exact⟨u,hv,nM hI x u hc⟩
theorem hJ(hI:∀b,I b->I' b/\w'.heap[b]? =w.heap[b]?):∀(ds:List D) (b o:Nat),I b->DRs w I ds b o->DRs w' I' ds b o
 | [],_,_,_,_=>by simp only[DRs]
 |d::ds,b,o,hb,h=>by
  simp only[DRs]at h|-;obtain⟨⟨v,hv,hd,hn⟩,hr⟩:=h;exact⟨⟨v,by rw[dS (hI b hb).2];exact hv,nM hI d v hd,hn⟩,hJ hI ds b (o+1) hb hr⟩
theorem pG(hI:∀b,I b->I' b/\w'.heap[b]? =w.heap[b]?):∀(ds:List D) (vs:List Value),DRv w I ds vs->DRv w' I' ds vs
 | [],_,h=>by simpa only[DRv]using h
 |d::ds,vs,h=>by
  simp only[DRv]at h|-;obtain⟨v,rest,hv,hd,hr⟩:=h;exact⟨v,rest,hv,nM hI d v hd,pG hI ds rest hr⟩
end
end mono
theorem eX{w:World}{I:Nat->Prop}:∀(ds:List D) (b o:Nat),DRs w I ds b o↔∀(k:Nat) (d:D),ds[k]? =some d->∃v,cT w b (o+k)=some v/\DR w I d v/\v.oneCell'=true
 | [],b,o=>by simp[DRs]
 |d::ds,b,o=>by
  simp only[DRs];rw[eX ds b (o+1)]
  constructor
  ·grind
  ·intro h;refine⟨?_,fun k x hk=> ?_⟩
   ·obtain⟨v,hv,hd⟩:=h 0 d sm;exact⟨v,by simpa using hv,hd⟩
   ·obtain⟨v,hv,hd⟩:=h (k+1) x (by simpa using hk);exact⟨v,by rw[<-hv];congr 1;omega,hd⟩
theorem jX{w:World}{I:Nat->Prop}{ds:List D}{b o:Nat}(n:Nat)(h:DRs w I ds b o):DRs w I (ds.drop n) b (o+n):=by
 rw[eX]at h|-;intro k d hk;obtain⟨v,hv,hd⟩:=h (n+k) d (by simpa using hk);exact⟨v,by rw[<-hv];congr 1;omega,hd⟩
theorem wP{w:World}{I:Nat->Prop}{ds:List D}{b o:Nat}(n:Nat)(h:DRs w I ds b o):DRs w I (ds.take n) b o:=by
 rw[eX]at h|-;intro k d hk;rw[Cz]at hk
 split at hk
 ·grind
 ·cases hk
theorem xA{w w':World}{I I':Nat->Prop}(hI:∀b,I b->I' b/\w'.heap[b]? =w.heap[b]?){ds:List D}{b o:Nat}(hc:∀k,k<ds.length->cT w' b (o+k)=cT w b (o+k))(h:DRs w I ds b o):DRs w' I' ds b o:=by
 rw[eX]at h|-;intro k d hk;obtain⟨v,hv,hd⟩:=h k d hk;have hlt:k<ds.length:=by grind
 exact⟨v,by rw[hc k hlt];exact hv,nM hI d v hd.1,hd.2⟩
theorem iC{w:World}{I:Nat->Prop}:∀(ds:List D) (vs:List Value),DRv w I ds vs↔ds.length=vs.length/\∀(k:Nat) (d:D),ds[k]? =some d->∃v,vs[k]? =some v/\DR w I d v
 | [],vs=>by
  cases vs<;>simp[DRv]
 |d::ds,vs=>by
  constructor
  ·rintro⟨v,rest,rfl,hd,hr⟩;obtain⟨hl,hall⟩:=(iC ds rest).1 hr;refine⟨by simp[hl],fun k x hk=> ?_⟩
   cases k with
   |zero=>grind
   |succ k=>grind
  ·rintro⟨hl,hall⟩
   cases vs with
   |nil=>grind
   |cons v rest=>
    refine⟨v,rest,rfl,?_,(iC ds rest).2 ⟨by simpa using hl,fun k x hk=> ?_⟩⟩
    ·obtain⟨u,hu,hd⟩:=hall 0 d sm;simp at hu;subst hu;exact hd
    ·simpa using hall (k+1) x (by simpa using hk)
def wH(C:Array Value)(fz:Nat×Nat):Prop:=∀j,j<C.size->¬(fz.1<=j/\j<fz.2)
def LF(esz:Nat)(C:Array Value)(fz:Nat×Nat):Prop:=wH C fz/\(esz≠1->¬(fz.1<=C.size/\C.size<fz.2))
theorem LF.keep{esz:Nat}{C C':Array Value}{fz:Nat×Nat}(h:LF esz C fz)(hs:C'.size=C.size):LF esz C' fz:=by
 unfold LF wH at h|-;rw[hs];exact h
theorem kB(esz:Nat)(C:Array Value):LF esz C (0,0):=⟨fun j _ h=>by simp at h,fun _ h=>by simp at h⟩
abbrev Rho:=Nat->Option Nat
def slOK(h:H)(ρ:Rho)(w:World)(I:Nat->Prop)(id gen off len:Nat)(a:Option Addr)(cap:Nat):Prop:=
 match h[id]? with
 |some (.arr cs esz g)=>gen<=g/\(gen=g->len<=cap/\match ρ id with
   |none=>cap=0
   |some b=>cap=0\/(a=some ⟨b,off,none⟩/\off+len*esz<=cs.length/\∃C E fz,w.heap[b]? =some (.cells C E fz)/\off+cap*esz<=C.size))
 |some (.ice cs esz g)=>gen<=g/\(gen=g->len<=cap/\(len=0\/(off+len*esz<=cs.length/\∃b,a=some ⟨b,off,none⟩/\I b/\DRs w I cs b 0)))
 |some (.vec cs esz g)=>gen<=g/\(gen=g->len<=cap/\match ρ id with
   |none=>cap=0
   |some b=>cap=0\/(a=some ⟨b,off,none⟩/\off+len*esz<=cs.length/\∃C E fz,w.heap[b]? =some (.cells C E fz)/\off+cap*esz<=C.size))
 |some (.log cs)=>gen<=cs.length+1/\(0<gen->len<=cap/\(len=0\/(off+len<gen/\∃b,a=some ⟨b,off,none⟩/\(ρ id=some b\/(I b/\DRs w I (cs.take (gen-1)) b 0))))/\
   (gen=cs.length+1->cap=0\/∃b,ρ id=some b/\a=some ⟨b,off,none⟩/\∃C E fz,w.heap[b]? =some (.cells C E fz)/\off+cap<=C.size))
 |some (.box _)=>False
 |some (.mp _)=>False
 |some .void=>False
 |none=>False
def ptOK(h:H)(ρ:Rho)(w:World)(I:Nat->Prop)(id gen b:Nat):Prop:=
 match h[id]? with
 |some (.box _)=>gen=0/\ρ id=some b
 |some (.arr _ _ g)=>gen<=g/\(gen=g->ρ id=some b)
 |some (.vec _ _ g)=>gen<=g/\(gen=g->ρ id=some b)
 |some (.ice cs _ g)=>gen<=g/\(gen=g->I b/\DRs w I cs b 0)
 |some (.log cs)=>gen<=cs.length+1/\(0<gen->ρ id=some b\/(I b/\DRs w I (cs.take (gen-1)) b 0))
 |some (.mp _)=>False
 |some .void=>False
 |none=>False
def mpOK(h:H)(ρ:Rho)(id b:Nat):Prop:=
 match h[id]? with
 |some (.mp _)=>ρ id=some b
 |_=>False
def dF:D->Value
 |.int k n=>.int k n
 |.bool b=>.bool b
 |.str s=>.string ⟨s.toArray⟩
 |_=>undef
def aEO(es:List (D×D))(M:Array MapEntry):Prop:=
 M.toList.map (fun e=>(e.key,e.val))=es.map (fun e=>(dF e.1,dF e.2))/\∀e∈es,z8 e.1=true/\z8 e.2=true
mutual
def AR(h:H)(ρ:Rho)(w:World)(I:Nat->Prop):A->Value->Prop
 |.d x,v=>DR w I x v
 |.sl id gen off len,v=>∃a cap,v=.slice a len cap/\slOK h ρ w I id gen off len a cap
 |.ptr id gen off,v=>∃b,v=.pointer (some ⟨b,off,none⟩)/\ptOK h ρ w I id gen b
 |.mp id,v=>∃b,v=.map (some b)/\mpOK h ρ id b
 |.clo f caps,v=>∃cv,v=.func (.func f) #[] cv/\ARv h ρ w I caps cv.toList
 |.agg cs,v=>∃C,v=.agg C/\ARv h ρ w I cs C.toList
 |.tup cs,v=>∃C,v=.tuple C/\ARv h ρ w I cs C.toList
 |.junk,_=>True
def ARv(h:H)(ρ:Rho)(w:World)(I:Nat->Prop):List A->List Value->Prop
 | [],vs=>vs=[]
 |a::asx,vs=>∃v rest,vs=v::rest/\AR h ρ w I a v/\ARv h ρ w I asx rest
end
theorem eH{h:H}{ρ:Rho}{w:World}{I:Nat->Prop}:∀(asx:List A) (vs:List Value),ARv h ρ w I asx vs↔asx.length=vs.length/\∀(k:Nat) (a:A),asx[k]? =some a->∃v,vs[k]? =some v/\AR h ρ w I a v
 | [],vs=>by
  cases vs<;>simp[ARv]
 |d::ds,vs=>by
  constructor
  ·rintro⟨v,rest,rfl,hd,hr⟩;obtain⟨hl,hall⟩:=(eH ds rest).1 hr;refine⟨by simp[hl],fun k x hk=> ?_⟩
   cases k with
   |zero=>grind
   |succ k=>grind
  ·rintro⟨hl,hall⟩
   cases vs with
   |nil=>grind
   |cons v rest=>
    refine⟨v,rest,rfl,?_,(eH ds rest).2 ⟨by simpa using hl,fun k x hk=> ?_⟩⟩
    ·obtain⟨u,hu,hd⟩:=hall 0 d sm;simp at hu;subst hu;exact hd
    ·simpa using hall (k+1) x (by simpa using hk)
theorem oG{h:H}{ρ:Rho}{w:World}{I:Nat->Prop}:∀(ds:List D) (vs:List Value),ARv h ρ w I (ds.map .d) vs↔DRv w I ds vs
 | [],vs=>by simp[ARv,DRv]
 |d::ds,vs=>by
  constructor
  ·rintro⟨v,rest,hv,hd,hr⟩;exact⟨v,rest,hv,hd,(oG ds rest).1 hr⟩
  ·rintro⟨v,rest,hv,hd,hr⟩;exact⟨v,rest,hv,hd,(oG ds rest).2 hr⟩
def ARs(h:H)(ρ:Rho)(w:World)(I:Nat->Prop)(cs:List A)(b:Nat):Prop:=
 ∀(k:Nat) (c:A),cs[k]? =some c->∃v,cT w b k=some v/\AR h ρ w I c v/\v.oneCell'=true
def OR(h:H)(ρ:Rho)(w:World)(I:Nat->Prop)(id:Nat):O->Prop
 |.arr cs esz _=>match ρ id with
  |none=>cs=[]
  |some b=>0<esz/\¬I b/\∃C E fz,w.heap[b]? =some (.cells C E fz)/\LF esz C fz/\DRs w I cs b 0
 |.box cs=>∃b,ρ id=some b/\¬I b/\∃C E fz,w.heap[b]? =some (.cells C E fz)/\wH C fz/\ARs h ρ w I cs b
 |.vec cs esz _=>match ρ id with
  |none=>cs=[]
  |some b=>0<esz/\¬I b/\∃C E fz,w.heap[b]? =some (.cells C E fz)/\LF esz C fz/\ARs h ρ w I cs b
 |.log cs=>match ρ id with
  |none=>cs=[]
  |some b=>¬I b/\∃C E fz,w.heap[b]? =some (.cells C E fz)/\LF 1 C fz/\DRs w I cs b 0
 |.mp es=>∃b,ρ id=some b/\¬I b/\∃M c,w.heap[b]? =some (.map M c)/\aEO es M/\MapKept.Stamped M c
 |.ice _ _ _=>True
 |.void=>True
def live:O->Prop
 |.ice _ _ _=>False
 |.void=>False
 |_=>True
def tW(h:H)(ρ:Rho)(b:Nat):Prop:=∃id o,ρ id=some b/\h[id]? =some o/\live o
def Imm(w:World)(I:Nat->Prop)(w':World)(I':Nat->Prop):Prop:=∀b,I b->I' b/\w'.heap[b]? =w.heap[b]?
def DX(G:Gnd)(w:World)(I:Nat->Prop):Prop:=∀b C,(b,C)∈G.cells->I b/\∀(j:Nat) (v:Value),C[j]? =some v->cT w b j=some v
theorem DX.mono{w w':World}{I I':Nat->Prop}(g:DX G w I)(hi:Imm w I w' I'):DX G w' I':=fun b C hb=>by
 obtain⟨h1,h2⟩:=g b C hb;obtain⟨h3,h4⟩:=hi b h1;exact⟨h3,fun j v hj=>by rw[dS h4];exact h2 j v hj⟩
theorem ground_nil{m:Bool}(w:World)(I:Nat->Prop):DX ⟨[],m⟩ w I:=fun b C hb=>by cases hb
structure Rel(G:Gnd)(h:H)(ρ:Rho)(w:World)(I:Nat->Prop):Prop where
 obj:∀id o,h[id]? =some o->OR h ρ w I id o
 inj:∀id id' b o o',ρ id=some b->ρ id'=some b->h[id]? =some o->h[id']? =some o'->live o->live o'->id=id'
 imm:∀b,I b->b<w.heap.size
 ground:DX G w I
theorem Rel.own_not_imm{h:H}{ρ:Rho}{w:World}{I:Nat->Prop}(r:Rel G h ρ w I){b:Nat}(ho:tW h ρ b):¬I b/\b<w.heap.size:=by
 obtain⟨id,o,hρ,hid,hl⟩:=ho;have:=r.obj id o hid
 cases o with
 |arr cs e g=>
  simp only[OR,hρ]at this;obtain⟨_,h1,C,E,fz,h2,_⟩:=this;exact⟨h1,(Bl.1 h2).1⟩
 |box cs=>
  obtain⟨b',hb',h1,C,E,fz,h2,_⟩:=this;rw[hρ]at hb';cases hb';exact⟨h1,(Bl.1 h2).1⟩
 |vec cs e g=>
  simp only[OR,hρ]at this;obtain⟨_,h1,C,E,fz,h2,_⟩:=this;exact⟨h1,(Bl.1 h2).1⟩
 |log cs=>
  simp only[OR,hρ]at this;obtain⟨h1,C,E,fz,h2,_⟩:=this;exact⟨h1,(Bl.1 h2).1⟩
 |mp es=>
  obtain⟨b',hb',h1,M,c,h2,_⟩:=this;rw[hρ]at hb';cases hb';exact⟨h1,(Bl.1 h2).1⟩
 |ice cs e g=>exact hl.elim
 |void=>exact hl.elim
structure Ext(h:H)(ρ:Rho)(w:World)(I:Nat->Prop)(h':H)(ρ':Rho)(w':World)(I':Nat->Prop):Prop where
 imm:Imm w I w' I'
 sl:∀id gen off len a cap,slOK h ρ w I id gen off len a cap->slOK h' ρ' w' I' id gen off len a cap
 pt:∀id gen b,ptOK h ρ w I id gen b->ptOK h' ρ' w' I' id gen b
 mp:∀id b,mpOK h ρ id b->mpOK h' ρ' id b
theorem Ext.refl(h:H)(ρ:Rho)(w:World)(I:Nat->Prop):Ext h ρ w I h ρ w I:=⟨fun _ h=>⟨h,rfl⟩,fun _ _ _ _ _ _ h=>h,fun _ _ _ h=>h,fun _ _ h=>h⟩
theorem Ext.trans{h1:H}{ρ1:Rho}{w1:World}{I1:Nat->Prop}{h2:H}{ρ2:Rho}{w2:World}{I2:Nat->Prop}{h3:H}{ρ3:Rho}{w3:World}{I3:Nat->Prop}
  (a:Ext h1 ρ1 w1 I1 h2 ρ2 w2 I2) (b:Ext h2 ρ2 w2 I2 h3 ρ3 w3 I3):Ext h1 ρ1 w1 I1 h3 ρ3 w3 I3:=
 ⟨fun k hk=>⟨(b.imm k (a.imm k hk).1).1,(b.imm k (a.imm k hk).1).2.trans (a.imm k hk).2⟩,fun _ _ _ _ _ _ h=>b.sl _ _ _ _ _ _ (a.sl _ _ _ _ _ _ h),fun _ _ _ h=>b.pt _ _ _ (a.pt _ _ _ h),fun _ _ h=>b.mp _ _ (a.mp _ _ h)⟩
section ext
variable{h h':H}{ρ ρ':Rho}{w w':World}{I I':Nat->Prop}
mutual
theorem gU(hE:Ext h ρ w I h' ρ' w' I'):∀(a:A) (v:Value),AR h ρ w I a v->AR h' ρ' w' I' a v
 |.d x,v,hh=>by simp only[AR]at hh|-;exact nM hE.imm x v hh
 |.sl id gen off len,v,hh=>by
  simp only[AR]at hh|-;obtain⟨a,cap,hv,ho⟩:=hh;exact⟨a,cap,hv,hE.sl _ _ _ _ _ _ ho⟩
 |.ptr id gen off,v,hh=>by
  simp only[AR]at hh|-;obtain⟨b,hv,ho⟩:=hh;exact⟨b,hv,hE.pt _ _ _ ho⟩
 |.mp id,v,hh=>by
  simp only[AR]at hh|-;obtain⟨b,hv,ho⟩:=hh;exact⟨b,hv,hE.mp _ _ ho⟩
 |.clo f caps,v,hh=>by
  simp only[AR]at hh|-;obtain⟨cv,hv,hc⟩:=hh;exact⟨cv,hv,fL hE caps _ hc⟩
 |.agg cs,v,hh=>by
  simp only[AR]at hh|-;obtain⟨cv,hv,hc⟩:=hh;exact⟨cv,hv,fL hE cs _ hc⟩
 |.tup cs,v,hh=>by
  simp only[AR]at hh|-;obtain⟨cv,hv,hc⟩:=hh;exact⟨cv,hv,fL hE cs _ hc⟩
 |.junk,v,_=>by simp only[AR]
theorem fL(hE:Ext h ρ w I h' ρ' w' I'):∀(asx:List A) (vs:List Value),ARv h ρ w I asx vs->ARv h' ρ' w' I' asx vs
 | [],vs,hh=>by simpa only[ARv]using hh
 |a::asx,vs,hh=>by
  simp only[ARv]at hh|-;obtain⟨v,rest,hv,ha,hr⟩:=hh;exact⟨v,rest,hv,gU hE a v ha,fL hE asx rest hr⟩
end
end ext
def iV(h:H)(ρ:Rho)(w:World)(I:Nat->Prop)(id:Nat)(h':H)(ρ':Rho)(w':World)(I':Nat->Prop)(k:Nat):Prop:=
 (∀gen off len a cap,slOK h ρ w I id gen off len a cap->slOK h' ρ' w' I' k gen off len a cap)/\(∀gen b,ptOK h ρ w I id gen b->ptOK h' ρ' w' I' k gen b)/\(∀b,mpOK h ρ id b->mpOK h' ρ' k b)
section ren
variable{h h':H}{ρ ρ':Rho}{w w':World}{I I':Nat->Prop}{f:Nat->Option Nat}
mutual
theorem DC(hi:Imm w I w' I')(hf:∀id k,f id=some k->iV h ρ w I id h' ρ' w' I' k):∀(a:A) (v:Value),AR h ρ w I a v->AR h' ρ' w' I' (mapA f a) v
 |.d x,v,hh=>by simp only[AR,mapA]at hh|-;exact nM hi x v hh
 |.sl id gen off len,v,hh=>by
  simp only[AR]at hh;obtain⟨a,cap,hv,ho⟩:=hh;simp only[mapA]
  cases hk:f id with
  |none=>simp only[AR]
  |some k=>simp only[AR];exact⟨a,cap,hv,(hf id k hk).1 _ _ _ _ _ ho⟩
 |.ptr id gen off,v,hh=>by
  simp only[AR]at hh;obtain⟨b,hv,ho⟩:=hh;simp only[mapA]
  cases hk:f id with
  |none=>simp only[AR]
  |some k=>simp only[AR];exact⟨b,hv,(hf id k hk).2.1 _ _ ho⟩
 |.mp id,v,hh=>by
  simp only[AR]at hh;obtain⟨b,hv,ho⟩:=hh;simp only[mapA]
  cases hk:f id with
  |none=>simp only[AR]
  |some k=>simp only[AR];exact⟨b,hv,(hf id k hk).2.2 _ ho⟩
 |.clo g caps,v,hh=>by
  simp only[AR,mapA]at hh|-;obtain⟨cv,hv,hc⟩:=hh;exact⟨cv,hv,BY hi hf caps _ hc⟩
 |.agg cs,v,hh=>by
  simp only[AR,mapA]at hh|-;obtain⟨cv,hv,hc⟩:=hh;exact⟨cv,hv,BY hi hf cs _ hc⟩
 |.tup cs,v,hh=>by
  simp only[AR,mapA]at hh|-;obtain⟨cv,hv,hc⟩:=hh;exact⟨cv,hv,BY hi hf cs _ hc⟩
 |.junk,v,_=>by simp only[AR,mapA]
theorem BY(hi:Imm w I w' I')(hf:∀id k,f id=some k->iV h ρ w I id h' ρ' w' I' k):∀(asx:List A) (vs:List Value),ARv h ρ w I asx vs->ARv h' ρ' w' I' (aF f asx) vs
 | [],vs,hh=>by simpa only[ARv,aF]using hh
 |a::asx,vs,hh=>by
  simp only[ARv,aF]at hh|-;obtain⟨v,rest,hv,ha,hr⟩:=hh;exact⟨v,rest,hv,DC hi hf a v ha,BY hi hf asx rest hr⟩
end
end ren
structure Keep(m:Bool)(own:Nat->Prop)(w:World)(I:Nat->Prop)(w':World)(I':Nat->Prop):Prop where
 os:w'.os=w.os
 tape:w'.tape=w.tape
 output:w'.output=w.output
 size:w.heap.size<=w'.heap.size
 same:∀b,b<w.heap.size->¬own b->w'.heap[b]? =w.heap[b]?
 new:∀b,I' b->I b\/w.heap.size<=b\/own b
 drawn:m=true->w.drawn<=w'.drawn
structure Step(G:Gnd)(h:H)(ρ:Rho)(w:World)(I:Nat->Prop)(h':H)(ρ':Rho)(w':World)(I':Nat->Prop):Prop where
 rel:Rel G h' ρ' w' I'
 ext:Ext h ρ w I h' ρ' w' I'
 keep:Keep G.keeps (tW h ρ) w I w' I'
 own:∀b,tW h' ρ' b->tW h ρ b\/w.heap.size<=b
 len:h.length<=h'.length
theorem Step.refl{h:H}{ρ:Rho}{w:World}{I:Nat->Prop}(r:Rel G h ρ w I):Step G h ρ w I h ρ w I:=
 ⟨r,.refl _ _ _ _,⟨rfl,rfl,rfl,Ab _,fun _ _ _=>rfl,fun _ h=>.inl h,fun _=>Ab _⟩,fun _ h=>.inl h,Ab _⟩
theorem Step.trans{h1:H}{ρ1:Rho}{w1:World}{I1:Nat->Prop}{h2:H}{ρ2:Rho}{w2:World}{I2:Nat->Prop}{h3:H}{ρ3:Rho}{w3:World}{I3:Nat->Prop}
  (a:Step G h1 ρ1 w1 I1 h2 ρ2 w2 I2) (b:Step G h2 ρ2 w2 I2 h3 ρ3 w3 I3):Step G h1 ρ1 w1 I1 h3 ρ3 w3 I3 where
 rel:=b.rel
 ext:=a.ext.trans b.ext
 keep:={
  os:=b.keep.os.trans a.keep.os
  tape:=b.keep.tape.trans a.keep.tape
  output:=b.keep.output.trans a.keep.output
  size:=By a.keep.size b.keep.size
  same:=fun k hk ho=>by
   rw[b.keep.same k (Dh hk a.keep.size) (fun h2=>(a.own k h2).elim ho (fun h=>by omega)),a.keep.same k hk ho]
  new:=fun k hk=>by
   rcases b.keep.new k hk with h|h|h
   ·exact a.keep.new k h
   ·exact .inr (.inl (By a.keep.size h))
   ·rcases a.own k h with h|h
    ·grind
    ·grind
  drawn:=fun e=>By (a.keep.drawn e) (b.keep.drawn e)}
 own:=fun k hk=>by
  rcases b.own k hk with h|h
  ·exact a.own k h
  ·exact .inr (By a.keep.size h)
 len:=By a.len b.len
end
section
variable{G:Gnd}
theorem bF:∀ {ord:List Nat} {i k:Nat},aJ ord i=some k->ord[k]? =some i
 | [],_,_,h=>by simp[aJ]at h
 |j::ord,i,k,h=>by
  simp only[aJ]at h
  split at h
  ·grind
  ·cases hp:aJ ord i with
   |none=>grind
   |some m=>rw[hp]at h;simp at h;subst h;simpa using bF hp
theorem zG:∀ {ord:List Nat} {i:Nat},i∉ord->aJ ord i=none
 | [],_,_=>rfl
 |j::ord,i,h=>by
  simp only[Av,not_or]at h;simp only[aJ,if_neg (Ne.symm h.1),zG h.2,Da]
theorem BW{ord:List Nat}{i k:Nat}(h:aJ ord i=some k):k<ord.length:=
 (Au.1 (bF h)).1
theorem KI{ord:List Nat}{i k:Nat}(h:aJ ord i=some k):i∈ord:=
 Bo (bF h)
theorem dE:∀ {ord:List Nat},ord.Nodup->∀ {i k:Nat},ord[k]? =some i->aJ ord i=some k
 | [],_,_,_,h=>by simp at h
 |j::ord,hn,i,k,h=>by
  simp only[Dp]at hn;simp only[aJ]
  cases k with
  |zero=>grind
  |succ k=>
   have h':ord[k]? =some i:=by grind
   have hm:i∈ord:=by grind
   rw[if_neg (fun(e:j=i)=>hn.1 (e▸hm)),dE hn.2 h'];rfl
theorem b9{ord:List Nat}{i:Nat}(h:i∈ord):∃k,aJ ord i=some k:=by
 induction ord with
 |nil=>grind
 |cons j ord ih=>
  simp only[aJ]
  by_cases e:j=i
  ·simp_all
  ·grind
theorem bU:∀(n:Nat) (h:H) (todo acc:List Nat),acc.Nodup->(aE n h todo acc).Nodup
 |0,_,_,_,hn=>by simpa only[aE]using hn
 |_+1,_,[],_,hn=>by simpa only[aE]using hn
 |n+1,h,i::todo,acc,hn=>by
  simp only[aE]
  split
  ·exact bU n h todo acc hn
  ·rename_i hc
   have hc':i∉acc:=by grind
   have:(acc++[i]).Nodup:=by grind
   split
   ·exact bU n h _ _ this
   ·exact bU n h _ _ this
   ·exact bU n h _ _ hn
   ·exact bU n h _ _ this
   ·exact bU n h _ _ hn
theorem jY:∀(n:Nat) (h:H) (todo acc:List Nat),(∀i∈acc,i<h.length)->∀i∈aE n h todo acc,i<h.length
 |0,_,_,_,hn=>by simpa only[aE]using hn
 |_+1,_,[],_,hn=>by simpa only[aE]using hn
 |n+1,h,i::todo,acc,hn=>by
  simp only[aE]
  split
  ·exact jY n h todo acc hn
  ·have key:∀o,h[i]? =some o->∀j∈acc++[i],j<h.length:=by
    intro o ho j hj;simp only[Am,Bp]at hj
    rcases hj with hj|rfl
    ·grind
    ·grind
   split
   ·rename_i cs ho;exact jY n h _ _ (key _ ho)
   ·rename_i cs _ _ ho;exact jY n h _ _ (key _ ho)
   ·exact jY n h _ _ hn
   ·rename_i o _ _ _ ho;exact jY n h _ _ (key _ ho)
   ·exact jY n h _ _ hn
theorem mN:∀(n:Nat) (h:H) (todo acc:List Nat),∃l,aE n h todo acc=acc++l
 |0,_,_,acc=>⟨[],by simp[aE]⟩
 |_+1,_,[],acc=>⟨[],by simp[aE]⟩
 |n+1,h,i::todo,acc=>by
  simp only[aE]
  split
  ·exact mN n h todo acc
  ·split
   ·obtain⟨l,hl⟩:=mN n h (todo++idsL _) (acc++[i]);exact⟨i::l,by rw[hl];simp⟩
   ·obtain⟨l,hl⟩:=mN n h (todo++idsL _) (acc++[i]);exact⟨i::l,by rw[hl];simp⟩
   ·exact mN n h todo acc
   ·obtain⟨l,hl⟩:=mN n h todo (acc++[i]);exact⟨i::l,by rw[hl];simp⟩
   ·exact mN n h todo acc
def sub(ord:List Nat)(ρ:Rho):Rho:=fun k=>(ord[k]?).bind ρ
theorem fZ(f:Nat->Option Nat)(o:O):live (mapO f o)↔live o:=by
 cases o<;>simp[live,mapO]
theorem aBG(h:H)(ord:List Nat)(k:Nat):(pack h ord)[k]? =(ord[k]?).map fun i=>mapO (aJ ord) (h.getD i default):=by
 simp[pack]
theorem iB{h:H}{ord:List Nat}{k i:Nat}{o:O}(hk:ord[k]? =some i)(ho:h[i]? =some o):(pack h ord)[k]? =some (mapO (aJ ord) o):=by
 rw[aBG,hk];simp[Aa,ho]
theorem aGV{f:Nat->Option Nat}:∀(cs:List A) (m:Nat),(aF f cs)[m]? =(cs[m]?).map (mapA f)
 | [],m=>by simp[aF]
 |c::cs,m=>by cases m<;>simp[aF,aGV cs]
theorem DF{f:Nat->Option Nat}:∀(cs:List A),(aF f cs).length=cs.length
 | []=>by simp[aF]
 |c::cs=>by simp[aF,DF cs]
theorem mE{h h':H}{ρ ρ':Rho}{w:World}{I:Nat->Prop}{i k:Nat}{f:Nat->Option Nat}
  (ho:∀o,h[i]? =some o->h'[k]? =some (mapO f o)) (hr:ρ' k=ρ i):iV h ρ w I i h' ρ' w I k:=by
 cases hi:h[i]? with
 |none=>exact⟨fun _ _ _ _ _ hs=>by simp[slOK,hi]at hs,fun _ _ hs=>by simp[ptOK,hi]at hs,fun _ hs=>by simp[mpOK,hi]at hs⟩
 |some o=>
  have hk:=ho o hi
  cases o with
  |arr cs e g=>
   exact⟨fun gen off len a cap hs=>by simp only[slOK,hi]at hs;simp only[slOK,hk,hr];exact hs,fun gen b hs=>by simp only[ptOK,hi]at hs;simp only[ptOK,hk,hr];exact hs,fun b hs=>by simp only[mpOK,hi]at hs⟩
  |box cs=>
   exact⟨fun gen off len a cap hs=>by simp only[slOK,hi]at hs,fun gen b hs=>by simp only[ptOK,hi]at hs;simp only[ptOK,hk,hr];exact hs,fun b hs=>by simp only[mpOK,hi]at hs⟩
  |vec cs e g=>
   simp only[mapO]at hk;exact⟨fun gen off len a cap hs=>by simp only[slOK,hi]at hs;simp only[slOK,hk,hr,DF];exact hs,fun gen b hs=>by simp only[ptOK,hi]at hs;simp only[ptOK,hk,hr];exact hs,fun b hs=>by simp only[mpOK,hi]at hs⟩
  |ice cs e g=>
   exact⟨fun gen off len a cap hs=>by simp only[slOK,hi]at hs;simp only[slOK,hk];exact hs,fun gen b hs=>by simp only[ptOK,hi]at hs;simp only[ptOK,hk];exact hs,fun b hs=>by simp only[mpOK,hi]at hs⟩
  |log cs=>
   exact⟨fun gen off len a cap hs=>by simp only[slOK,hi]at hs;simp only[slOK,hk,hr];exact hs,fun gen b hs=>by simp only[ptOK,hi]at hs;simp only[ptOK,hk,hr];exact hs,fun b hs=>by simp only[mpOK,hi]at hs⟩
  |mp es=>
   exact⟨fun gen off len a cap hs=>by simp only[slOK,hi]at hs,fun gen b hs=>by simp only[ptOK,hi]at hs,fun b hs=>by simp only[mpOK,hi]at hs;simp only[mpOK,hk,hr];exact hs⟩
  |void=>exact⟨fun _ _ _ _ _ hs=>by simp[slOK,hi]at hs,fun _ _ hs=>by simp[ptOK,hi]at hs,fun _ hs=>by simp[mpOK,hi]at hs⟩
theorem lE(w:World)(I:Nat->Prop):Imm w I w I:=fun _ h=>⟨h,rfl⟩
theorem aKr{h h':H}{ρ ρ':Rho}{w:World}{I:Nat->Prop}{i k:Nat}{f:Nat->Option Nat}{o:O}(hf:∀id k,f id=some k->iV h ρ w I id h' ρ' w I k)
  (hr:ρ' k=ρ i) (ho:OR h ρ w I i o):OR h' ρ' w I k (mapO f o):=by
 cases o with
 |arr cs e g=>simp only[OR,mapO,hr]at ho|-;exact ho
 |log cs=>simp only[OR,mapO,hr]at ho|-;exact ho
 |box cs=>
  simp only[OR,mapO,hr]at ho|-;obtain⟨b,hb,hi,C,E,fz,h1,h2,h3⟩:=ho;refine⟨b,hb,hi,C,E,fz,h1,h2,?_⟩;intro m c hm
  have hlen:(aF f cs)[m]? =(cs[m]?).map (mapA f):=by
   clear h3 hm
   induction cs generalizing m with
   |nil=>simp[aF]
   |cons c cs ih=>cases m<;>simp[aF,ih]
  rw[hlen]at hm
  cases hc:cs[m]? with
  |none=>grind
  |some c0=>
   rw[hc]at hm;simp at hm;subst hm;obtain⟨v,hv,ha,hk⟩:=h3 m c0 hc;exact⟨v,hv,DC (lE w I) hf c0 v ha,hk⟩
 |vec cs e g=>
  simp only[OR,mapO,hr]at ho|-
  cases hρ:ρ i with
  |none=>rw[hρ]at ho;simp only at ho|-;subst ho;rfl
  |some b=>
   rw[hρ]at ho;obtain⟨hez,hi,C,E,fz,h1,h2,h3⟩:=ho;refine⟨hez,hi,C,E,fz,h1,h2,?_⟩;intro m c hm;rw[aGV]at hm
   cases hc:cs[m]? with
   |none=>grind
   |some c0=>
    rw[hc]at hm;simp at hm;subst hm;obtain⟨v,hv,ha,hk⟩:=h3 m c0 hc;exact⟨v,hv,DC (lE w I) hf c0 v ha,hk⟩
 |mp es=>simp only[OR,mapO,hr]at ho|-;exact ho
 |ice cs e g=>simp only[OR,mapO]
 |void=>simp only[OR,mapO]
theorem aBP{h:H}{ρ:Rho}{w:World}{I:Nat->Prop}{ord:List Nat}(r:Rel G h ρ w I)(hn:ord.Nodup)(hl:∀i∈ord,i<h.length):Rel G (pack h ord) (sub ord ρ) w I:=by
 have hf:∀id k,aJ ord id=some k->iV h ρ w I id (pack h ord) (sub ord ρ) w I k:=fun id k hk=>
  mE (fun o ho=>iB (bF hk) ho) (by simp[sub,bF hk])
 have look:∀(k:Nat) (o:O),(pack h ord)[k]? =some o->∃(i:Nat) (o':O),ord[k]? =some i/\h[i]? =some o'/\o=mapO (aJ ord) o':=by
  intro k o ho;rw[aBG]at ho
  cases hk:ord[k]? with
  |none=>grind
  |some i=>grind
 refine⟨fun k o ho=> ?_,fun k k' b o o' hk hk' ho ho' hlv hlv'=> ?_,r.imm,r.ground⟩
 ·obtain⟨i,o',hk,hi,rfl⟩:=look k o ho;exact aKr hf (by simp[sub,hk]) (r.obj i o' hi)
 ·obtain⟨i,o1,hi,h1,rfl⟩:=look k o ho;obtain⟨j,o2,hj,h2,rfl⟩:=look k' o' ho';have e:i=j:=r.inj i j b o1 o2 (by simpa [sub,hi]using hk) (by simpa [sub,hj]using hk') h1 h2 ((fZ _ _).1 hlv) ((fZ _ _).1 hlv');subst e;have a1:=dE hn hi;have a2:=dE hn hj;rw[a1]at a2;cases a2;rfl
theorem zK{h:H}{ρ:Rho}{ord:List Nat}(hl:∀i∈ord,i<h.length){b:Nat}(ho:tW (pack h ord) (sub ord ρ) b):∃i o,i∈ord/\ρ i=some b/\h[i]? =some o/\live o:=by
 obtain⟨k,o,hk,ho,hlv⟩:=ho;rw[aBG]at ho
 cases hi:ord[k]? with
 |none=>grind
 |some i=>
  have hm:=Bo hi;have hlt:=hl i hm;rw[hi]at ho;simp[Aa,hlt]at ho;subst ho;exact⟨i,h[i],hm,by simpa [sub,hi]using hk,by simp,(fZ _ _).1 hlv⟩
theorem B9(f:Nat->Option Nat):∀(ord:List Nat) (h rest:H) (id:Nat),ord.Nodup->(∀i∈ord,i<h.length)->ord.length<=rest.length->
  (bG f h ord rest)[id]? =match aJ ord id with
   |some k=>(rest[k]?).map (mapO f)
   |none=>if id<h.length then h[id]? else(rest[ord.length+(id-h.length)]?).map (mapO f)
 | [],h,rest,id,_,_,_=>by
  simp only[bG,aJ,Ac,Ag]
  by_cases hlt:id<h.length
  ·grind
  ·grind
 |i::ord,h,[],id,_,_,hl=>by grind
 |i::ord,h,o::rest,id,hn,hr,hl=>by
  simp only[Dp]at hn;have hi:i<h.length:=by simp_all
  simp only[bG];rw[B9 f ord _ rest id hn.2 (fun j hj=>by simpa using hr j (by simp[hj])) (by simpa using hl)];simp only[aJ,Bj,Ae]
  by_cases e:i=id
  ·subst e;rw[zG hn.1];simp[hi]
  ·grind
theorem OI(f:Nat->Option Nat):∀(ord:List Nat) (h rest:H),ord.length<=rest.length->h.length<=(bG f h ord rest).length
 | [],h,rest,_=>by simp[bG]
 |i::ord,h,[],hl=>by simp at hl
 |i::ord,h,o::rest,hl=>by
  simp only[bG];have:=OI f ord (h.set i (mapO f o)) rest (by simpa using hl)
  simpa using this
def mrg(ord:List Nat)(n:Nat)(ρ ρ1:Rho):Rho:=fun id=>
 match aJ ord id with
 |some k=>ρ1 k
 |none=>if id<n then ρ id else ρ1 (ord.length+(id-n))
theorem GF{h:H}{ρ:Rho}{w:World}{I:Nat->Prop}{ord:List Nat}{h1:H}{ρ1:Rho}{w':World}{I':Nat->Prop}
  (r:Rel G h ρ w I) (hn:ord.Nodup) (hr:∀i∈ord,i<h.length) (hlen:ord.length<=h1.length) (s:Step G (pack h ord) (sub ord ρ) w I h1 ρ1 w' I'):
  Step G h ρ w I (bG (back ord h.length h1.length) h ord h1) (mrg ord h.length ρ ρ1) w' I'/\
  ∀id k,back ord h.length h1.length id=some k->iV h1 ρ1 w' I' id (bG (back ord h.length h1.length) h ord h1) (mrg ord h.length ρ ρ1) w' I' k:=by
 have get:=fun id=>B9 (back ord h.length h1.length) ord h h1 id hn hr hlen
 have loc:∀k id,back ord h.length h1.length k=some id->(bG (back ord h.length h1.length) h ord h1)[id]? =(h1[k]?).map (mapO (back ord h.length h1.length))/\mrg ord h.length ρ ρ1 id=ρ1 k:=by
  intro k id hk;unfold back at hk
  split at hk
  ·rename_i hlt
   have hp:=dE hn hk;exact⟨by rw[get,hp],by simp[mrg,hp]⟩
  ·split at hk
   ·rename_i hge hlt
    simp only[Option.some.injEq]at hk;subst hk;have hp:aJ ord (h.length+(k-ord.length))=none:=zG fun hm=>by have:=hr _ hm;omega
    have e:ord.length+(h.length+(k-ord.length)-h.length)=k:=om;exact⟨by rw[get,hp];simp only[];rw[if_neg om,e],by simp only[mrg,hp];rw[if_neg om,e]⟩
   ·cases hk
 have refs:∀k id,back ord h.length h1.length k=some id->iV h1 ρ1 w' I' k (bG (back ord h.length h1.length) h ord h1) (mrg ord h.length ρ ρ1) w' I' id:=fun k id hk=>
  mE (fun o ho=>by rw[(loc k id hk).1,ho];rfl) (loc k id hk).2
 have orig:∀id o,(bG (back ord h.length h1.length) h ord h1)[id]? =some o->
   (∃k o',back ord h.length h1.length k=some id/\h1[k]? =some o'/\o=mapO (back ord h.length h1.length) o'/\mrg ord h.length ρ ρ1 id=ρ1 k)\/
   (id∉ord/\h[id]? =some o/\mrg ord h.length ρ ρ1 id=ρ id):=by
  intro id o ho;rw[get]at ho
  cases hp:aJ ord id with
  |some k=>
   rw[hp]at ho;simp only[Ay]at ho;obtain⟨o',ho',rfl⟩:=ho;have hb:back ord h.length h1.length k=some id:=by unfold back;rw[if_pos (BW hp)];exact bF hp
   exact .inl ⟨k,o',hb,ho',rfl,(loc k id hb).2⟩
  |none=>
   rw[hp]at ho;simp only[]at ho;have hni:id∉ord:=fun hm=>by obtain⟨k,hk⟩:=b9 hm;rw[hk]at hp;cases hp
   by_cases hlt:id<h.length
   ·rw[if_pos hlt]at ho;exact .inr ⟨hni,ho,by simp[mrg,hp,hlt]⟩
   ·rw[if_neg hlt]at ho;simp only[Ay]at ho;obtain⟨o',ho',rfl⟩:=ho;have hk:ord.length+(id-h.length)<h1.length:=(Au.1 ho').1
    have hb:back ord h.length h1.length (ord.length+(id-h.length))=some id:=by
     unfold back;rw[if_neg om,if_pos hk]
     congr 1;omega
    exact .inl ⟨_,o',hb,ho',rfl,(loc _ id hb).2⟩
 have other:∀id o b,id∉ord->h[id]? =some o->live o->ρ id=some b->¬tW (pack h ord) (sub ord ρ) b:=by
  intro id o b hni hid hlv hρ ho;obtain⟨j,o2,hj,hρj,hjo,hlv2⟩:=zK hr ho;have:=r.inj id j b o o2 hρ hρj hid hjo hlv hlv2;subst this;exact hni hj
 have keepOther:∀id o b,id∉ord->h[id]? =some o->live o->ρ id=some b->w'.heap[b]? =w.heap[b]?:=fun id o b hni hid hlv hρ=>
  s.keep.same b (r.own_not_imm ⟨id,o,hρ,hid,hlv⟩).2 (other id o b hni hid hlv hρ)
 have ownSub:∀b,tW (pack h ord) (sub ord ρ) b->tW h ρ b:=fun b ho=>by
  obtain⟨j,o2,_,hρj,hjo,hlv2⟩:=zK hr ho;exact⟨j,o2,hρj,hjo,hlv2⟩
 have packRef:∀id k,aJ ord id=some k->iV h ρ w I id (pack h ord) (sub ord ρ) w I k:=fun id k hk=>
  mE (fun o ho=>iB (bF hk) ho) (by simp[sub,bF hk])
 have backOf:∀id k,aJ ord id=some k->back ord h.length h1.length k=some id:=fun id k hp=>by
  unfold back;rw[if_pos (BW hp)];exact bF hp
 have ext:Ext h ρ w I (bG (back ord h.length h1.length) h ord h1) (mrg ord h.length ρ ρ1) w' I':=by
  refine⟨s.ext.imm,fun id gen off len a cap hs=> ?_,fun id gen b hs=> ?_,fun id b hs=> ?_⟩
  ·cases hp:aJ ord id with
   |some k=>exact(refs k id (backOf id k hp)).1 _ _ _ _ _ (s.ext.sl _ _ _ _ _ _ ((packRef id k hp).1 _ _ _ _ _ hs))
   |none=>
    have hni:id∉ord:=fun hm=>by obtain⟨k,hk⟩:=b9 hm;rw[hk]at hp;cases hp
    cases hid:h[id]? with
    |none=>simp[slOK,hid]at hs
    |some o=>
     have hlt:=(Au.1 hid).1;have hg:(bG (back ord h.length h1.length) h ord h1)[id]? =some o:=by rw[get,hp];simp only[];rw[if_pos hlt,hid]
     have hm:mrg ord h.length ρ ρ1 id=ρ id:=by simp[mrg,hp,hlt]
     cases o with
     |arr cs e g=>
      simp only[slOK,hid]at hs;simp only[slOK,hg,hm];refine⟨hs.1,fun hgen=>⟨(hs.2 hgen).1,?_⟩⟩;have h2:=(hs.2 hgen).2
      cases hρ:ρ id with
      |none=>rw[hρ]at h2;exact h2
      |some b=>
       rw[hρ]at h2;simp only[]at h2|-;rw[keepOther id _ b hni hid trivial hρ];exact h2
     |vec cs e g=>
      simp only[slOK,hid]at hs;simp only[slOK,hg,hm];refine⟨hs.1,fun hgen=>⟨(hs.2 hgen).1,?_⟩⟩;have h2:=(hs.2 hgen).2
      cases hρ:ρ id with
      |none=>rw[hρ]at h2;exact h2
      |some b=>
       rw[hρ]at h2;simp only[]at h2|-;rw[keepOther id _ b hni hid trivial hρ];exact h2
     |log cs=>
      simp only[slOK,hid]at hs;simp only[slOK,hg,hm];refine⟨hs.1,fun hgen=> ?_⟩;obtain⟨h1,h2,h3⟩:=hs.2 hgen;refine⟨h1,h2.imp (fun x=>x) fun⟨h4,b,ha,h5⟩=>⟨h4,b,ha,h5.imp (fun x=>x) fun⟨h6,h7⟩=>⟨(s.ext.imm b h6).1,hJ s.ext.imm _ b 0 h6 h7⟩⟩,fun hl=>(h3 hl).imp (fun x=>x) fun⟨b,hρ,ha,C,E,fz,hk,hs⟩=>⟨b,hρ,ha,C,E,fz,by rw[keepOther _ _ b hni hid trivial hρ];exact hk,hs⟩⟩
     |box cs=>simp only[slOK,hid]at hs
     |ice cs e g=>
      simp only[slOK,hid]at hs;simp only[slOK,hg];refine⟨hs.1,fun hgen=>⟨(hs.2 hgen).1,?_⟩⟩
      rcases(hs.2 hgen).2 with h2|⟨h2,b,hb,hIb,hd⟩
      ·exact .inl h2
      ·exact .inr ⟨h2,b,hb,(s.ext.imm b hIb).1,hJ s.ext.imm cs b 0 hIb hd⟩
     |mp es=>simp[slOK,hid]at hs
     |void=>simp[slOK,hid]at hs
  ·cases hp:aJ ord id with
   |some k=>exact(refs k id (backOf id k hp)).2.1 _ _ (s.ext.pt _ _ _ ((packRef id k hp).2.1 _ _ hs))
   |none=>
    cases hid:h[id]? with
    |none=>simp[ptOK,hid]at hs
    |some o=>
     have hlt:=(Au.1 hid).1;have hg:(bG (back ord h.length h1.length) h ord h1)[id]? =some o:=by rw[get,hp];simp only[];rw[if_pos hlt,hid]
     have hm:mrg ord h.length ρ ρ1 id=ρ id:=by simp[mrg,hp,hlt]
     cases o with
     |arr cs e g=>simp only[ptOK,hid]at hs;simp only[ptOK,hg,hm];exact hs
     |vec cs e g=>simp only[ptOK,hid]at hs;simp only[ptOK,hg,hm];exact hs
     |box cs=>simp only[ptOK,hid]at hs;simp only[ptOK,hg,hm];exact hs
     |ice cs e g=>
      simp only[ptOK,hid]at hs;simp only[ptOK,hg];exact⟨hs.1,fun hgen=>⟨(s.ext.imm b (hs.2 hgen).1).1,hJ s.ext.imm cs b 0 (hs.2 hgen).1 (hs.2 hgen).2⟩⟩
     |log cs=>
      simp only[ptOK,hid]at hs;simp only[ptOK,hg,hm];exact⟨hs.1,fun hgen=>(hs.2 hgen).imp (fun x=>x) fun⟨h6,h7⟩=>⟨(s.ext.imm b h6).1,hJ s.ext.imm _ b 0 h6 h7⟩⟩
     |mp es=>simp[ptOK,hid]at hs
     |void=>simp[ptOK,hid]at hs
  ·cases hp:aJ ord id with
   |some k=>exact(refs k id (backOf id k hp)).2.2 _ (s.ext.mp _ _ ((packRef id k hp).2.2 _ hs))
   |none=>
    cases hid:h[id]? with
    |none=>simp[mpOK,hid]at hs
    |some o=>
     have hlt:=(Au.1 hid).1;have hg:(bG (back ord h.length h1.length) h ord h1)[id]? =some o:=by rw[get,hp];simp only[];rw[if_pos hlt,hid]
     have hm:mrg ord h.length ρ ρ1 id=ρ id:=by simp[mrg,hp,hlt]
     simp only[mpOK,hid]at hs;simp only[mpOK,hg,hm];exact hs
 refine⟨⟨⟨fun id o ho=> ?_,fun id id' b o o' hb hb' ho ho' hlv hlv'=> ?_,s.rel.imm,s.rel.ground⟩,ext,⟨s.keep.os,s.keep.tape,s.keep.output,s.keep.size,fun b hb hno=>s.keep.same b hb (fun h=>hno (ownSub b h)),fun b hb=> ?_,s.keep.drawn⟩,fun b hb=> ?_,OI _ _ _ _ hlen⟩,refs⟩
 ·rcases orig id o ho with⟨k,o',hk,hk1,rfl,hm⟩|⟨hni,hid,hm⟩
  ·exact aKr refs hm (s.rel.obj k o' hk1)
  ·have hO:=r.obj id o hid
   cases o with
   |arr cs e g=>
    simp only[OR,hm]at hO|-
    cases hρ:ρ id with
    |none=>rw[hρ]at hO;exact hO
    |some b=>
     rw[hρ]at hO;obtain⟨hez,hIb,C,E,fz,h2,h3,h4⟩:=hO;have hk:=keepOther id _ b hni hid trivial hρ;refine⟨hez,fun hI'=> ?_,C,E,fz,by rw[hk];exact h2,h3,xA s.ext.imm (fun k _=>dS hk) h4⟩
     rcases s.keep.new b hI' with h|h|h
     ·exact hIb h
     ·have:=(r.own_not_imm ⟨id,_,hρ,hid,trivial⟩).2;omega
     ·exact other id _ b hni hid trivial hρ h
   |log cs=>
    simp only[OR,hm]at hO|-
    cases hρ:ρ id with
    |none=>rw[hρ]at hO;exact hO
    |some b=>
     rw[hρ]at hO;obtain⟨hIb,C,E,fz,h2,h3,h4⟩:=hO;have hk:=keepOther id _ b hni hid trivial hρ;refine⟨fun hI'=> ?_,C,E,fz,by rw[hk];exact h2,h3,xA s.ext.imm (fun k _=>dS hk) h4⟩
     rcases s.keep.new b hI' with h|h|h
     ·exact hIb h
     ·have:=(r.own_not_imm ⟨id,_,hρ,hid,trivial⟩).2;omega
     ·exact other id _ b hni hid trivial hρ h
   |vec cs e g=>
    simp only[OR,hm]at hO|-
    cases hρ:ρ id with
    |none=>rw[hρ]at hO;exact hO
    |some b=>
     rw[hρ]at hO;obtain⟨hez,hIb,C,E,fz,h2,h3,h4⟩:=hO;have hk:=keepOther id _ b hni hid trivial hρ;refine⟨hez,fun hI'=> ?_,C,E,fz,by rw[hk];exact h2,h3,fun m c hm=> ?_⟩
     rotate_left
     ·obtain⟨v,hv,ha,ho⟩:=h4 m c hm;exact⟨v,by rw[dS hk];exact hv,gU ext c v ha,ho⟩
     rcases s.keep.new b hI' with h|h|h
     ·exact hIb h
     ·have:=(r.own_not_imm ⟨id,_,hρ,hid,trivial⟩).2;omega
     ·exact other id _ b hni hid trivial hρ h
   |box cs=>
    simp only[OR,hm]at hO|-;obtain⟨b,hρ,hIb,C,E,fz,h2,h3,h4⟩:=hO;have hk:=keepOther id _ b hni hid trivial hρ;refine⟨b,hρ,fun hI'=> ?_,C,E,fz,by rw[hk];exact h2,h3,fun m c hm=> ?_⟩
    ·rcases s.keep.new b hI' with h|h|h
     ·exact hIb h
     ·have:=(r.own_not_imm ⟨id,_,hρ,hid,trivial⟩).2;omega
     ·exact other id _ b hni hid trivial hρ h
    ·obtain⟨v,hv,ha,ho⟩:=h4 m c hm;exact⟨v,by rw[dS hk];exact hv,gU ext c v ha,ho⟩
   |mp es=>
    simp only[OR,hm]at hO|-;obtain⟨b,hρ,hIb,M,c,h2,h3⟩:=hO;have hk:=keepOther id _ b hni hid trivial hρ;refine⟨b,hρ,fun hI'=> ?_,M,c,by rw[hk];exact h2,h3⟩
    rcases s.keep.new b hI' with h|h|h
    ·exact hIb h
    ·have:=(r.own_not_imm ⟨id,_,hρ,hid,trivial⟩).2;omega
    ·exact other id _ b hni hid trivial hρ h
   |ice cs e g=>simp only[OR]
   |void=>simp only[OR]
 ·rcases orig id o ho with⟨k,o1,hk,hk1,rfl,hm⟩|⟨hni,hid,hm⟩<;>rcases orig id' o' ho' with⟨k',o1',hk',hk1',rfl,hm'⟩|⟨hni',hid',hm'⟩
  ·rw[hm]at hb;rw[hm']at hb';have:=s.rel.inj k k' b o1 o1' hb hb' hk1 hk1' ((fZ _ _).1 hlv) ((fZ _ _).1 hlv');subst this;rw[hk]at hk';cases hk';rfl
  ·rw[hm]at hb;rw[hm']at hb';exfalso
   rcases s.own b ⟨k,o1,hb,hk1,(fZ _ _).1 hlv⟩with h|h
   ·exact other id' _ b hni' hid' hlv' hb' h
   ·have:=(r.own_not_imm ⟨id',_,hb',hid',hlv'⟩).2;omega
  ·rw[hm]at hb;rw[hm']at hb';exfalso
   rcases s.own b ⟨k',o1',hb',hk1',(fZ _ _).1 hlv'⟩with h|h
   ·exact other id _ b hni hid hlv hb h
   ·have:=(r.own_not_imm ⟨id,_,hb,hid,hlv⟩).2;omega
  ·rw[hm]at hb;rw[hm']at hb';exact r.inj id id' b o o' hb hb' hid hid' hlv hlv'
 ·rcases s.keep.new b hb with h|h|h
  ·exact .inl h
  ·exact .inr (.inl h)
  ·exact .inr (.inr (ownSub b h))
 ·obtain⟨id,o,hm0,ho,hlv⟩:=hb
  rcases orig id o ho with⟨k,o1,hk,hk1,rfl,hm⟩|⟨hni,hid,hm⟩
  ·rw[hm]at hm0
   rcases s.own b ⟨k,o1,hm0,hk1,(fZ _ _).1 hlv⟩with h|h
   ·exact .inl (ownSub b h)
   ·exact .inr h
  ·rw[hm]at hm0;exact .inl ⟨id,o,hm0,hid,hlv⟩
theorem aOY{h0:H}{ρ0:Rho}{w0:World}{I0:Nat->Prop}{h:H}{ρ:Rho}{w:World}{I:Nat->Prop}{ord:List Nat}
  (s:Step G h0 ρ0 w0 I0 h ρ w I) (hn:ord.Nodup) (hl:∀i∈ord,i<h.length) (hf:∀i,i<h0.length->ord[i]? =some i):
  Step G h0 ρ0 w0 I0 (pack h ord) (sub ord ρ) w I/\∀id k,aJ ord id=some k->iV h ρ w I id (pack h ord) (sub ord ρ) w I k:=by
 have refs:∀id k,aJ ord id=some k->iV h ρ w I id (pack h ord) (sub ord ρ) w I k:=fun id k hk=>
  mE (fun o ho=>iB (bF hk) ho) (by simp[sub,bF hk])
 refine⟨⟨aBP s.rel hn hl,⟨s.ext.imm,fun id gen off len a cap hs=> ?_,fun id gen b hs=> ?_,fun id b hs=> ?_⟩,s.keep,fun b hb=> ?_,?_⟩,refs⟩
 ·have hlt:id<h0.length:=by
   rcases Cq id h0.length with h|h
   ·exact h
   ·simp[slOK,Cl h]at hs
  exact(refs id id (dE hn (hf id hlt))).1 _ _ _ _ _ (s.ext.sl _ _ _ _ _ _ hs)
 ·have hlt:id<h0.length:=by
   rcases Cq id h0.length with h|h
   ·exact h
   ·simp[ptOK,Cl h]at hs
  exact(refs id id (dE hn (hf id hlt))).2.1 _ _ (s.ext.pt _ _ _ hs)
 ·have hlt:id<h0.length:=by
   rcases Cq id h0.length with h|h
   ·exact h
   ·simp[mpOK,Cl h]at hs
  exact(refs id id (dE hn (hf id hlt))).2.2 _ (s.ext.mp _ _ hs)
 ·obtain⟨j,o2,_,hρj,hjo,hlv2⟩:=zK hl hb;exact s.own b ⟨j,o2,hρj,hjo,hlv2⟩
 ·have e:(pack h ord).length=ord.length:=by simp[pack]
  rw[e]
  rcases Cq ord.length h0.length with hlt|hge
  ·grind
  ·exact hge
end
end Ev
end Go.Proofs.YtppffbehejpglaaGreat
