/-
  How the abstract state stands for a state of the machine, and what keeps that.
-/
import Derived.Test.YthlkcebdfbjdoaaGreatEvDef
import Derived.MapKept
namespace Go.Proofs.YthlkcebdfbjdoaaGreat
namespace Ev
structure Gnd where
 cells:List (Nat×Array Value)
 keeps:Bool
variable{G:Gnd}
def dA(w:World)(b k:Nat):Option Value:=
 match w.heap[b]? with
 |some (.cells C _ _)=>C[k]?
 |_=>none
theorem cell?_eq (w:World) (b k:Nat):w.cell? ⟨b,k,none⟩=dA w b k:=by
 unfold World.cell? dA
 split<;>simp_all
theorem eK{w w':World}{b k:Nat}(h:w'.heap[b]? =w.heap[b]?):dA w' b k=dA w b k:=by
 unfold dA;rw[h]
mutual
def DR(w:World)(I:Nat->Prop):D->Value->Prop
 |.undef,v=>v=undef
 |.int k n,v=>v=.int k n
 |.bool b,v=>v=.bool b
 |.str s,v=>v=.string ⟨s.toArray⟩
 |.ivs n cs,v=>∃a cap,v=.slice a n cap/\n<=cap/\(cs=[]\/∃b o,a=some ⟨b,o,none⟩/\I b/\DRs w I cs b o)
 |.nils,v=>∃a,v=.slice a 0 0
 |.iptr cs,v=>∃b o,v=.pointer (some ⟨b,o,none⟩)/\I b/\DRs w I cs b o
 |.nilp,v=>v=.pointer none
 |.fn f caps,v=>∃cv,v=.func (.func f) #[] cv/\DRv w I caps cv.toList
 |.nilfn,v=>v=.nilFunc
 |.nili,v=>v=.nilIface
 |.nilm,v=>v=.map none
 |.ifc t x,v=>∃u,v=.iface t u/\DR w I x u
def DRs(w:World)(I:Nat->Prop):List D->Nat->Nat->Prop
 | [],_,_=>True
 |d::ds,b,o=>(∃v,dA w b o=some v/\DR w I d v/\v.oneCell'=true)/\DRs w I ds b (o+1)
def DRv(w:World)(I:Nat->Prop):List D->List Value->Prop
 | [],vs=>vs=[]
 |d::ds,vs=>∃v rest,vs=v::rest/\DR w I d v/\DRv w I ds rest
end
section mono
variable{w w':World}{I I':Nat->Prop}
mutual
theorem nK(hI:∀b,I b->I' b/\w'.heap[b]? =w.heap[b]?):∀(d:D) (v:Value),DR w I d v->DR w' I' d v
 |.undef,v,h=>by simpa only[DR]using h
 |.int k n,v,h=>by simpa only[DR]using h
 |.bool b,v,h=>by simpa only[DR]using h
 |.str s,v,h=>by simpa only[DR]using h
 |.ivs n cs,v,h=>by
  simp only[DR]at h|-;obtain⟨a,cap,hv,hcap,hc⟩:=h;refine⟨a,cap,hv,hcap,?_⟩
  rcases hc with hc|⟨b,o,ha,hb,hr⟩
  ·exact .inl hc
  ·exact .inr ⟨b,o,ha,(hI b hb).1,iR hI cs b o hb hr⟩
 |.nils,v,h=>by simpa only[DR]using h
 |.iptr cs,v,h=>by
  simp only[DR]at h|-;obtain⟨b,o,hv,hb,hr⟩:=h;exact⟨b,o,hv,(hI b hb).1,iR hI cs b o hb hr⟩
 |.nilp,v,h=>by simpa only[DR]using h
 |.fn f caps,v,h=>by
  simp only[DR]at h|-;obtain⟨cv,hv,hc⟩:=h;exact⟨cv,hv,oI hI caps _ hc⟩
 |.nilfn,v,h=>by simpa only[DR]using h
 |.nili,v,h=>by simpa only[DR]using h
 |.nilm,v,h=>by simpa only[DR]using h
 |.ifc t x,v,h=>by
  simp only[DR]at h|-;obtain⟨u,hv,hc⟩:=h;exact⟨u,hv,nK hI x u hc⟩
theorem iR(hI:∀b,I b->I' b/\w'.heap[b]? =w.heap[b]?):∀(ds:List D) (b o:Nat),I b->DRs w I ds b o->DRs w' I' ds b o
 | [],_,_,_,_=>by simp only[DRs]
 |d::ds,b,o,hb,h=>by
  simp only[DRs]at h|-;obtain⟨⟨v,hv,hd,hn⟩,hr⟩:=h;exact⟨⟨v,by rw[eK (hI b hb).2];exact hv,nK hI d v hd,hn⟩,iR hI ds b (o+1) hb hr⟩
theorem oI(hI:∀b,I b->I' b/\w'.heap[b]? =w.heap[b]?):∀(ds:List D) (vs:List Value),DRv w I ds vs->DRv w' I' ds vs
 | [],_,h=>by simpa only[DRv]using h
 |d::ds,vs,h=>by
  simp only[DRv]at h|-;obtain⟨v,rest,hv,hd,hr⟩:=h;exact⟨v,rest,hv,nK hI d v hd,oI hI ds rest hr⟩
end
end mono
theorem fL{w:World}{I:Nat->Prop}:∀(ds:List D) (b o:Nat),DRs w I ds b o↔∀(k:Nat) (d:D),ds[k]? =some d->∃v,dA w b (o+k)=some v/\DR w I d v/\v.oneCell'=true
 | [],b,o=>by simp[DRs]
 |d::ds,b,o=>by
  simp only[DRs];rw[fL ds b (o+1)]
  constructor
  ·grind
  ·intro h;refine⟨?_,fun k x hk=> ?_⟩
   ·obtain⟨v,hv,hd⟩:=h 0 d (by simp);exact⟨v,by simpa using hv,hd⟩
   ·obtain⟨v,hv,hd⟩:=h (k+1) x (by simpa using hk);exact⟨v,by rw[<-hv];congr 1;omega,hd⟩
theorem kF{w:World}{I:Nat->Prop}{ds:List D}{b o:Nat}(n:Nat)(h:DRs w I ds b o):DRs w I (ds.drop n) b (o+n):=by
 rw[fL]at h|-;intro k d hk;obtain⟨v,hv,hd⟩:=h (n+k) d (by simpa using hk);exact⟨v,by rw[<-hv];congr 1;omega,hd⟩
theorem wA{w:World}{I:Nat->Prop}{ds:List D}{b o:Nat}(n:Nat)(h:DRs w I ds b o):DRs w I (ds.take n) b o:=by
 rw[fL]at h|-;intro k d hk;rw[Cz]at hk
 split at hk
 ·grind
 ·cases hk
theorem wH{w w':World}{I I':Nat->Prop}(hI:∀b,I b->I' b/\w'.heap[b]? =w.heap[b]?){ds:List D}{b o:Nat}(hc:∀k,k<ds.length->dA w' b (o+k)=dA w b (o+k))(h:DRs w I ds b o):DRs w' I' ds b o:=by
 rw[fL]at h|-;intro k d hk;obtain⟨v,hv,hd⟩:=h k d hk;have hlt:k<ds.length:=by grind
 exact⟨v,by rw[hc k hlt];exact hv,nK hI d v hd.1,hd.2⟩
theorem iW{w:World}{I:Nat->Prop}:∀(ds:List D) (vs:List Value),DRv w I ds vs↔ds.length=vs.length/\∀(k:Nat) (d:D),ds[k]? =some d->∃v,vs[k]? =some v/\DR w I d v
 | [],vs=>by
  cases vs<;>simp[DRv]
 |d::ds,vs=>by
  constructor
  ·rintro⟨v,rest,rfl,hd,hr⟩;obtain⟨hl,hall⟩:=(iW ds rest).1 hr;refine⟨by simp[hl],fun k x hk=> ?_⟩
   cases k with
   |zero=>grind
   |succ k=>grind
  ·rintro⟨hl,hall⟩
   cases vs with
   |nil=>grind
   |cons v rest=>
    refine⟨v,rest,rfl,?_,(iW ds rest).2 ⟨by simpa using hl,fun k x hk=> ?_⟩⟩
    ·obtain⟨u,hu,hd⟩:=hall 0 d (by simp);simp at hu;subst hu;exact hd
    ·simpa using hall (k+1) x (by simpa using hk)
def vR(C:Array Value)(fz:Nat×Nat):Prop:=∀j,j<C.size->¬(fz.1<=j/\j<fz.2)
def KI(esz:Nat)(C:Array Value)(fz:Nat×Nat):Prop:=vR C fz/\(esz≠1->¬(fz.1<=C.size/\C.size<fz.2))
theorem KI.keep{esz:Nat}{C C':Array Value}{fz:Nat×Nat}(h:KI esz C fz)(hs:C'.size=C.size):KI esz C' fz:=by
 unfold KI vR at h|-;rw[hs];exact h
theorem kO(esz:Nat)(C:Array Value):KI esz C (0,0):=⟨fun j _ h=>by simp at h,fun _ h=>by simp at h⟩
abbrev Rho:=Nat->Option Nat
def slOK(h:H)(ρ:Rho)(w:World)(I:Nat->Prop)(id gen off len:Nat)(a:Option Addr)(cap:Nat):Prop:=
 match h[id]? with
 |some (.arr cs esz g)=>gen<=g/\(gen=g->len<=cap/\match ρ id with
   |none=>cap=0
   |some b=>cap=0\/(a=some ⟨b,off,none⟩/\off+len*esz<=cs.length/\∃C E fz,w.heap[b]? =some (.cells C E fz)/\off+cap*esz<=C.size))
 |some (.ice cs esz g)=>gen<=g/\(gen=g->len<=cap/\(len=0\/(off+len*esz<=cs.length/\∃b,a=some ⟨b,off,none⟩/\I b/\DRs w I cs b 0)))
 |some (.vec cs esz g)=>gen<=g/\(gen=g->len<=cap/\match ρ id with
   |none=>cap=0
   |some b=>cap=0\/(a=some ⟨b,off,none⟩/\off+len*esz<=cs.length/\∃C E fz,w.heap[b]? =some (.cells C E fz)/\off+cap*esz<=C.size))
 |some (.log cs)=>gen<=cs.length+1/\(0<gen->len<=cap/\(len=0\/(off+len<gen/\∃b,a=some ⟨b,off,none⟩/\(ρ id=some b\/(I b/\DRs w I (cs.take (gen-1)) b 0))))/\
   (gen=cs.length+1->cap=0\/∃b,ρ id=some b/\a=some ⟨b,off,none⟩/\∃C E fz,w.heap[b]? =some (.cells C E fz)/\off+cap<=C.size))
 |some (.box _)=>False
 |some (.mp _)=>False
 |some .void=>False
 |none=>False
def ptOK(h:H)(ρ:Rho)(w:World)(I:Nat->Prop)(id gen b:Nat):Prop:=
 match h[id]? with
 |some (.box _)=>gen=0/\ρ id=some b
 |some (.arr _ _ g)=>gen<=g/\(gen=g->ρ id=some b)
 |some (.vec _ _ g)=>gen<=g/\(gen=g->ρ id=some b)
 |some (.ice cs _ g)=>gen<=g/\(gen=g->I b/\DRs w I cs b 0)
 |some (.log cs)=>gen<=cs.length+1/\(0<gen->ρ id=some b\/(I b/\DRs w I (cs.take (gen-1)) b 0))
 |some (.mp _)=>False
 |some .void=>False
 |none=>False
def mpOK(h:H)(ρ:Rho)(id b:Nat):Prop:=
 match h[id]? with
 |some (.mp _)=>ρ id=some b
 |_=>False
def dY:D->Value
 |.int k n=>.int k n
 |.bool b=>.bool b
 |.str s=>.string ⟨s.toArray⟩
 |_=>undef
def aEg(es:List (D×D))(M:Array MapEntry):Prop:=
 M.toList.map (fun e=>(e.key,e.val))=es.map (fun e=>(dY e.1,dY e.2))/\∀e∈es,yZ e.1=true/\yZ e.2=true
mutual
def AR(h:H)(ρ:Rho)(w:World)(I:Nat->Prop):A->Value->Prop
 |.d x,v=>DR w I x v
 |.sl id gen off len,v=>∃a cap,v=.slice a len cap/\slOK h ρ w I id gen off len a cap
 |.ptr id gen off,v=>∃b,v=.pointer (some ⟨b,off,none⟩)/\ptOK h ρ w I id gen b
 |.mp id,v=>∃b,v=.map (some b)/\mpOK h ρ id b
 |.clo f caps,v=>∃cv,v=.func (.func f) #[] cv/\ARv h ρ w I caps cv.toList
 |.agg cs,v=>∃C,v=.agg C/\ARv h ρ w I cs C.toList
 |.tup cs,v=>∃C,v=.tuple C/\ARv h ρ w I cs C.toList
 |.junk,_=>True
def ARv(h:H)(ρ:Rho)(w:World)(I:Nat->Prop):List A->List Value->Prop
 | [],vs=>vs=[]
 |a::as,vs=>∃v rest,vs=v::rest/\AR h ρ w I a v/\ARv h ρ w I as rest
end
theorem eZ{h:H}{ρ:Rho}{w:World}{I:Nat->Prop}:∀(as:List A) (vs:List Value),ARv h ρ w I as vs↔as.length=vs.length/\∀(k:Nat) (a:A),as[k]? =some a->∃v,vs[k]? =some v/\AR h ρ w I a v
 | [],vs=>by
  cases vs<;>simp[ARv]
 |d::ds,vs=>by
  constructor
  ·rintro⟨v,rest,rfl,hd,hr⟩;obtain⟨hl,hall⟩:=(eZ ds rest).1 hr;refine⟨by simp[hl],fun k x hk=> ?_⟩
   cases k with
   |zero=>grind
   |succ k=>grind
  ·rintro⟨hl,hall⟩
   cases vs with
   |nil=>grind
   |cons v rest=>
    refine⟨v,rest,rfl,?_,(eZ ds rest).2 ⟨by simpa using hl,fun k x hk=> ?_⟩⟩
    ·obtain⟨u,hu,hd⟩:=hall 0 d (by simp);simp at hu;subst hu;exact hd
    ·simpa using hall (k+1) x (by simpa using hk)
theorem oD{h:H}{ρ:Rho}{w:World}{I:Nat->Prop}:∀(ds:List D) (vs:List Value),ARv h ρ w I (ds.map .d) vs↔DRv w I ds vs
 | [],vs=>by simp[ARv,DRv]
 |d::ds,vs=>by
  constructor
  ·rintro⟨v,rest,hv,hd,hr⟩;exact⟨v,rest,hv,hd,(oD ds rest).1 hr⟩
  ·rintro⟨v,rest,hv,hd,hr⟩;exact⟨v,rest,hv,hd,(oD ds rest).2 hr⟩
def ARs(h:H)(ρ:Rho)(w:World)(I:Nat->Prop)(cs:List A)(b:Nat):Prop:=
 ∀(k:Nat) (c:A),cs[k]? =some c->∃v,dA w b k=some v/\AR h ρ w I c v/\v.oneCell'=true
def OR(h:H)(ρ:Rho)(w:World)(I:Nat->Prop)(id:Nat):O->Prop
 |.arr cs esz _=>match ρ id with
  |none=>cs=[]
  |some b=>0<esz/\¬I b/\∃C E fz,w.heap[b]? =some (.cells C E fz)/\KI esz C fz/\DRs w I cs b 0
 |.box cs=>∃b,ρ id=some b/\¬I b/\∃C E fz,w.heap[b]? =some (.cells C E fz)/\vR C fz/\ARs h ρ w I cs b
 |.vec cs esz _=>match ρ id with
  |none=>cs=[]
  |some b=>0<esz/\¬I b/\∃C E fz,w.heap[b]? =some (.cells C E fz)/\KI esz C fz/\ARs h ρ w I cs b
 |.log cs=>match ρ id with
  |none=>cs=[]
  |some b=>¬I b/\∃C E fz,w.heap[b]? =some (.cells C E fz)/\KI 1 C fz/\DRs w I cs b 0
 |.mp es=>∃b,ρ id=some b/\¬I b/\∃M c,w.heap[b]? =some (.map M c)/\aEg es M/\MapKept.Stamped M c
 |.ice _ _ _=>True
 |.void=>True
def live:O->Prop
 |.ice _ _ _=>False
 |.void=>False
 |_=>True
def tA(h:H)(ρ:Rho)(b:Nat):Prop:=∃id o,ρ id=some b/\h[id]? =some o/\live o
def Imm(w:World)(I:Nat->Prop)(w':World)(I':Nat->Prop):Prop:=∀b,I b->I' b/\w'.heap[b]? =w.heap[b]?
def BZ(G:Gnd)(w:World)(I:Nat->Prop):Prop:=∀b C,(b,C)∈G.cells->I b/\∀(j:Nat) (v:Value),C[j]? =some v->dA w b j=some v
theorem BZ.mono{w w':World}{I I':Nat->Prop}(g:BZ G w I)(hi:Imm w I w' I'):BZ G w' I':=fun b C hb=>by
 obtain⟨h1,h2⟩:=g b C hb;obtain⟨h3,h4⟩:=hi b h1;exact⟨h3,fun j v hj=>by rw[eK h4];exact h2 j v hj⟩
theorem ground_nil{m:Bool}(w:World)(I:Nat->Prop):BZ ⟨[],m⟩ w I:=fun b C hb=>by cases hb
structure Rel(G:Gnd)(h:H)(ρ:Rho)(w:World)(I:Nat->Prop):Prop where
 obj:∀id o,h[id]? =some o->OR h ρ w I id o
 inj:∀id id' b o o',ρ id=some b->ρ id'=some b->h[id]? =some o->h[id']? =some o'->live o->live o'->id=id'
 imm:∀b,I b->b<w.heap.size
 ground:BZ G w I
theorem Rel.own_not_imm{h:H}{ρ:Rho}{w:World}{I:Nat->Prop}(r:Rel G h ρ w I){b:Nat}(ho:tA h ρ b):¬I b/\b<w.heap.size:=by
 obtain⟨id,o,hρ,hid,hl⟩:=ho;have:=r.obj id o hid
 cases o with
 |arr cs e g=>
  simp only[OR,hρ]at this;obtain⟨_,h1,C,E,fz,h2,_⟩:=this;exact⟨h1,(Bg.1 h2).1⟩
 |box cs=>
  obtain⟨b',hb',h1,C,E,fz,h2,_⟩:=this;rw[hρ]at hb';cases hb';exact⟨h1,(Bg.1 h2).1⟩
 |vec cs e g=>
  simp only[OR,hρ]at this;obtain⟨_,h1,C,E,fz,h2,_⟩:=this;exact⟨h1,(Bg.1 h2).1⟩
 |log cs=>
  simp only[OR,hρ]at this;obtain⟨h1,C,E,fz,h2,_⟩:=this;exact⟨h1,(Bg.1 h2).1⟩
 |mp es=>
  obtain⟨b',hb',h1,M,c,h2,_⟩:=this;rw[hρ]at hb';cases hb';exact⟨h1,(Bg.1 h2).1⟩
 |ice cs e g=>exact hl.elim
 |void=>exact hl.elim
structure Ext(h:H)(ρ:Rho)(w:World)(I:Nat->Prop)(h':H)(ρ':Rho)(w':World)(I':Nat->Prop):Prop where
 imm:Imm w I w' I'
 sl:∀id gen off len a cap,slOK h ρ w I id gen off len a cap->slOK h' ρ' w' I' id gen off len a cap
 pt:∀id gen b,ptOK h ρ w I id gen b->ptOK h' ρ' w' I' id gen b
 mp:∀id b,mpOK h ρ id b->mpOK h' ρ' id b
theorem Ext.refl(h:H)(ρ:Rho)(w:World)(I:Nat->Prop):Ext h ρ w I h ρ w I:=⟨fun _ h=>⟨h,rfl⟩,fun _ _ _ _ _ _ h=>h,fun _ _ _ h=>h,fun _ _ h=>h⟩
theorem Ext.trans{h1:H}{ρ1:Rho}{w1:World}{I1:Nat->Prop}{h2:H}{ρ2:Rho}{w2:World}{I2:Nat->Prop}{h3:H}{ρ3:Rho}{w3:World}{I3:Nat->Prop}
  (a:Ext h1 ρ1 w1 I1 h2 ρ2 w2 I2) (b:Ext h2 ρ2 w2 I2 h3 ρ3 w3 I3):Ext h1 ρ1 w1 I1 h3 ρ3 w3 I3:=
 ⟨fun k hk=>⟨(b.imm k (a.imm k hk).1).1,(b.imm k (a.imm k hk).1).2.trans (a.imm k hk).2⟩,fun _ _ _ _ _ _ h=>b.sl _ _ _ _ _ _ (a.sl _ _ _ _ _ _ h),fun _ _ _ h=>b.pt _ _ _ (a.pt _ _ _ h),fun _ _ h=>b.mp _ _ (a.mp _ _ h)⟩
section ext
variable{h h':H}{ρ ρ':Rho}{w w':World}{I I':Nat->Prop}
mutual
theorem iS(hE:Ext h ρ w I h' ρ' w' I'):∀(a:A) (v:Value),AR h ρ w I a v->AR h' ρ' w' I' a v
 |.d x,v,hh=>by simp only[AR]at hh|-;exact nK hE.imm x v hh
 |.sl id gen off len,v,hh=>by
  simp only[AR]at hh|-;obtain⟨a,cap,hv,ho⟩:=hh;exact⟨a,cap,hv,hE.sl _ _ _ _ _ _ ho⟩
 |.ptr id gen off,v,hh=>by
  simp only[AR]at hh|-;obtain⟨b,hv,ho⟩:=hh;exact⟨b,hv,hE.pt _ _ _ ho⟩
 |.mp id,v,hh=>by
  simp only[AR]at hh|-;obtain⟨b,hv,ho⟩:=hh;exact⟨b,hv,hE.mp _ _ ho⟩
 |.clo f caps,v,hh=>by
  simp only[AR]at hh|-;obtain⟨cv,hv,hc⟩:=hh;exact⟨cv,hv,fY hE caps _ hc⟩
 |.agg cs,v,hh=>by
  simp only[AR]at hh|-;obtain⟨cv,hv,hc⟩:=hh;exact⟨cv,hv,fY hE cs _ hc⟩
 |.tup cs,v,hh=>by
  simp only[AR]at hh|-;obtain⟨cv,hv,hc⟩:=hh;exact⟨cv,hv,fY hE cs _ hc⟩
 |.junk,v,_=>by simp only[AR]
theorem fY(hE:Ext h ρ w I h' ρ' w' I'):∀(as:List A) (vs:List Value),ARv h ρ w I as vs->ARv h' ρ' w' I' as vs
 | [],vs,hh=>by simpa only[ARv]using hh
 |a::as,vs,hh=>by
  simp only[ARv]at hh|-;obtain⟨v,rest,hv,ha,hr⟩:=hh;exact⟨v,rest,hv,iS hE a v ha,fY hE as rest hr⟩
end
end ext
def jO(h:H)(ρ:Rho)(w:World)(I:Nat->Prop)(id:Nat)(h':H)(ρ':Rho)(w':World)(I':Nat->Prop)(k:Nat):Prop:=
 (∀gen off len a cap,slOK h ρ w I id gen off len a cap->slOK h' ρ' w' I' k gen off len a cap)/\(∀gen b,ptOK h ρ w I id gen b->ptOK h' ρ' w' I' k gen b)/\(∀b,mpOK h ρ id b->mpOK h' ρ' k b)
section ren
variable{h h':H}{ρ ρ':Rho}{w w':World}{I I':Nat->Prop}{f:Nat->Option Nat}
mutual
theorem CK(hi:Imm w I w' I')(hf:∀id k,f id=some k->jO h ρ w I id h' ρ' w' I' k):∀(a:A) (v:Value),AR h ρ w I a v->AR h' ρ' w' I' (mapA f a) v
 |.d x,v,hh=>by simp only[AR,mapA]at hh|-;exact nK hi x v hh
 |.sl id gen off len,v,hh=>by
  simp only[AR]at hh;obtain⟨a,cap,hv,ho⟩:=hh;simp only[mapA]
  cases hk:f id with
  |none=>simp only[AR]
  |some k=>simp only[AR];exact⟨a,cap,hv,(hf id k hk).1 _ _ _ _ _ ho⟩
 |.ptr id gen off,v,hh=>by
  simp only[AR]at hh;obtain⟨b,hv,ho⟩:=hh;simp only[mapA]
  cases hk:f id with
  |none=>simp only[AR]
  |some k=>simp only[AR];exact⟨b,hv,(hf id k hk).2.1 _ _ ho⟩
 |.mp id,v,hh=>by
  simp only[AR]at hh;obtain⟨b,hv,ho⟩:=hh;simp only[mapA]
  cases hk:f id with
  |none=>simp only[AR]
  |some k=>simp only[AR];exact⟨b,hv,(hf id k hk).2.2 _ ho⟩
 |.clo g caps,v,hh=>by
  simp only[AR,mapA]at hh|-;obtain⟨cv,hv,hc⟩:=hh;exact⟨cv,hv,BC hi hf caps _ hc⟩
 |.agg cs,v,hh=>by
  simp only[AR,mapA]at hh|-;obtain⟨cv,hv,hc⟩:=hh;exact⟨cv,hv,BC hi hf cs _ hc⟩
 |.tup cs,v,hh=>by
  simp only[AR,mapA]at hh|-;obtain⟨cv,hv,hc⟩:=hh;exact⟨cv,hv,BC hi hf cs _ hc⟩
 |.junk,v,_=>by simp only[AR,mapA]
theorem BC(hi:Imm w I w' I')(hf:∀id k,f id=some k->jO h ρ w I id h' ρ' w' I' k):∀(as:List A) (vs:List Value),ARv h ρ w I as vs->ARv h' ρ' w' I' (aE f as) vs
 | [],vs,hh=>by simpa only[ARv,aE]using hh
 |a::as,vs,hh=>by
  simp only[ARv,aE]at hh|-;obtain⟨v,rest,hv,ha,hr⟩:=hh;exact⟨v,rest,hv,CK hi hf a v ha,BC hi hf as rest hr⟩
end
end ren
structure Keep(m:Bool)(own:Nat->Prop)(w:World)(I:Nat->Prop)(w':World)(I':Nat->Prop):Prop where
 os:w'.os=w.os
 tape:w'.tape=w.tape
 output:w'.output=w.output
 size:w.heap.size<=w'.heap.size
 same:∀b,b<w.heap.size->¬own b->w'.heap[b]? =w.heap[b]?
 new:∀b,I' b->I b\/w.heap.size<=b\/own b
 drawn:m=true->w.drawn<=w'.drawn
structure Step(G:Gnd)(h:H)(ρ:Rho)(w:World)(I:Nat->Prop)(h':H)(ρ':Rho)(w':World)(I':Nat->Prop):Prop where
 rel:Rel G h' ρ' w' I'
 ext:Ext h ρ w I h' ρ' w' I'
 keep:Keep G.keeps (tA h ρ) w I w' I'
 own:∀b,tA h' ρ' b->tA h ρ b\/w.heap.size<=b
 len:h.length<=h'.length
theorem Step.refl{h:H}{ρ:Rho}{w:World}{I:Nat->Prop}(r:Rel G h ρ w I):Step G h ρ w I h ρ w I:=
 ⟨r,.refl _ _ _ _,⟨rfl,rfl,rfl,Ab _,fun _ _ _=>rfl,fun _ h=>.inl h,fun _=>Ab _⟩,fun _ h=>.inl h,Ab _⟩
theorem Step.trans{h1:H}{ρ1:Rho}{w1:World}{I1:Nat->Prop}{h2:H}{ρ2:Rho}{w2:World}{I2:Nat->Prop}{h3:H}{ρ3:Rho}{w3:World}{I3:Nat->Prop}
  (a:Step G h1 ρ1 w1 I1 h2 ρ2 w2 I2) (b:Step G h2 ρ2 w2 I2 h3 ρ3 w3 I3):Step G h1 ρ1 w1 I1 h3 ρ3 w3 I3 where
 rel:=b.rel
 ext:=a.ext.trans b.ext
 keep:={
  os:=b.keep.os.trans a.keep.os
  tape:=b.keep.tape.trans a.keep.tape
  output:=b.keep.output.trans a.keep.output
  size:=Bv a.keep.size b.keep.size
  same:=fun k hk ho=>by
   rw[b.keep.same k (De hk a.keep.size) (fun h2=>(a.own k h2).elim ho (fun h=>by omega)),a.keep.same k hk ho]
  new:=fun k hk=>by
   rcases b.keep.new k hk with h|h|h
   ·exact a.keep.new k h
   ·exact .inr (.inl (Bv a.keep.size h))
   ·rcases a.own k h with h|h
    ·grind
    ·grind
  drawn:=fun e=>Bv (a.keep.drawn e) (b.keep.drawn e)}
 own:=fun k hk=>by
  rcases b.own k hk with h|h
  ·exact a.own k h
  ·exact .inr (Bv a.keep.size h)
 len:=Bv a.len b.len
end Ev
end Go.Proofs.YthlkcebdfbjdoaaGreat
