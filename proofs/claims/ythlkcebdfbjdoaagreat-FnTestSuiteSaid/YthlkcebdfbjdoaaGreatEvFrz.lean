/-
  Freezing is aLJ.
-/
import Derived.Test.YthlkcebdfbjdoaaGreatEvMem
namespace Go.Proofs.YthlkcebdfbjdoaaGreat
namespace Ev
variable{G:Gnd}
theorem vL{h:H}{ρ:Rho}{w:World}{I:Nat->Prop}{b:Nat}:∀(cs:List A) (o:Nat),(∀(k:Nat) (c:A),cs[k]? =some c->∃v,dA w b (o+k)=some v/\AR h ρ w I c v/\v.oneCell'=true)->
  ∃vs,ARv h ρ w I cs vs/\∀(k:Nat) (v:Value),vs[k]? =some v->dA w b (o+k)=some v/\v.oneCell'=true
 | [],o,_=>⟨[],by simp only[ARv],fun k v hv=>by simp at hv⟩
 |c::cs,o,hc=>by
  obtain⟨v,hv,ha,ho⟩:=hc 0 c (by simp)
  obtain⟨vs,hvs,hall⟩:=vL cs (o+1) (fun k c' hk=>by
   obtain⟨u,hu,hh⟩:=hc (k+1) c' (by simpa using hk);exact⟨u,by rw[<-hu];congr 1;omega,hh⟩)
  refine⟨v::vs,by simp only[ARv];exact⟨v,vs,rfl,ha,hvs⟩,fun k u hk=> ?_⟩
  cases k with
  |zero=>grind
  |succ k=>grind
theorem yL{w:World}{I:Nat->Prop}{ds:List D}{vs:List Value}{b:Nat}(hd:DRv w I ds vs)(hc:∀(k:Nat) (v:Value),vs[k]? =some v->dA w b (0+k)=some v/\v.oneCell'=true):DRs w I ds b 0:=by
 rw[fL];intro k d hk;obtain⟨hl,hall⟩:=(iW ds vs).1 hd;obtain⟨v,hv,hdv⟩:=hall k d hk;exact⟨v,(hc k v hv).1,hdv,(hc k v hv).2⟩
def aLG(G:Gnd)(f:H->A->Option (D×H)):Prop:=∀(h:H) (a:A) (x:D) (h1:H),f h a=some (x,h1)->∀(ρ:Rho) (w:World) (I:Nat->Prop) (v:Value),Rel G h ρ w I->AR h ρ w I a v->
 ∃I',Step G h ρ w I h1 ρ w I'/\DR w I' x v
theorem uT{f:H->A->Option (D×H)}(hf:aLG G f):∀(as:List A) (h:H) (ds:List D) (h1:H),fR f h as=some (ds,h1)->∀(ρ:Rho) (w:World) (I:Nat->Prop) (vs:List Value),Rel G h ρ w I->ARv h ρ w I as vs->
  ∃I',Step G h ρ w I h1 ρ w I'/\DRv w I' ds vs
 | [],h,ds,h1,he,ρ,w,I,vs,r,ha=>by
  obtain⟨rfl,rfl⟩:=he;exact⟨I,.refl r,by simp only[DRv];exact ha⟩
 |a::as,h,ds,h1,he,ρ,w,I,vs,r,ha=>by
  simp only[fR]at he
  split at he
  ·rename_i x h2 hx
   split at he
   ·rename_i ds' h3 hds
    simp only[Option.some.injEq,Prod.mk.injEq]at he;obtain⟨rfl,rfl⟩:=he;obtain⟨v,rest,rfl,hav,hrest⟩:=ha;obtain⟨I1,s1,d1⟩:=hf h a x h2 hx ρ w I v r hav;obtain⟨I2,s2,d2⟩:=uT hf as h2 ds' h3 hds ρ w I1 rest s1.rel (fY s1.ext as rest hrest);exact⟨I2,s1.trans s2,by simp only[DRv];exact⟨v,rest,rfl,nK s2.ext.imm x v d1,d2⟩⟩
   ·cases he
  ·cases he
theorem lD:aLG G frz0:=by
 intro h a x h1 he ρ w I v r ha
 cases a with
 |d y=>
  obtain⟨rfl,rfl⟩:=he;exact⟨I,.refl r,ha⟩
 |sl id gen off len=>
  obtain⟨a,cap,rfl,hs⟩:=ha;simp only[frz0]at he
  cases hid:h[id]? with
  |none=>grind
  |some o=>
   rw[hid]at he
   cases o with
   |vec cs e g=>grind
   |box cs=>grind
   |mp es=>grind
   |void=>grind
   |log cs=>
    simp only[]at he
    split at he
    ·rename_i hc
     obtain⟨rfl,hle⟩:=hc;obtain⟨rfl,rfl⟩:=he;obtain⟨I',s,hI⟩:=aG2 r hid;refine⟨I',s,?_⟩;simp only[slOK,hid]at hs;obtain⟨h1,h2,h3⟩:=hs.2 (by omega);refine⟨a,cap,rfl,h1,?_⟩
     rcases h2 with h2|⟨h4,b,ha,h5⟩
     ·grind
     ·rw[Nat.add_sub_cancel,Cr]at h5
      have hb:I' b/\DRs w I' cs b 0:=by
       rcases h5 with h5|⟨h5,h6⟩
       ·grind
       ·exact⟨(s.ext.imm b h5).1,iR s.ext.imm cs b 0 h5 h6⟩
      refine .inr ⟨b,off,ha,hb.1,?_⟩;have:=wA len (kF off hb.2)
      simpa using this
    ·cases he
   |arr cs esz g=>
    simp only[]at he
    split at he
    ·rename_i hc
     obtain⟨rfl,hle⟩:=hc;obtain⟨rfl,rfl⟩:=he;obtain⟨I',s,hI⟩:=aIA r hid;refine⟨I',s,?_⟩;simp only[slOK,hid]at hs;have h1:=(hs.2 trivial).1;have h2:=(hs.2 trivial).2;refine⟨a,cap,rfl,h1,?_⟩
     cases hρ:ρ id with
     |none=>simp_all
     |some b=>
      rw[hρ]at h2;obtain⟨hIb,hd⟩:=hI b hρ
      rcases h2 with h2|h2
      ·simp_all
      refine .inr ⟨b,off,h2.1,hIb,?_⟩;have:=wA (len*esz) (kF off hd)
      simpa using this
    ·cases he
   |ice cs esz g=>
    simp only[]at he
    split at he
    ·rename_i hc
     obtain⟨rfl,hle⟩:=hc;obtain⟨rfl,rfl⟩:=he;refine⟨I,.refl r,?_⟩;simp only[slOK,hid]at hs;refine⟨a,cap,rfl,(hs.2 trivial).1,?_⟩
     rcases(hs.2 trivial).2 with h2|⟨_,b,hb,hIb,hd⟩
     ·simp_all
     ·refine .inr ⟨b,off,hb,hIb,?_⟩;have:=wA (len*esz) (kF off hd)
      simpa using this
    ·cases he
 |ptr id gen off=>simp[frz0]at he
 |mp id=>simp[frz0]at he
 |clo f caps=>simp[frz0]at he
 |agg cs=>simp[frz0]at he
 |tup vs=>simp[frz0]at he
 |junk=>simp[frz0]at he
theorem NS:∀n,aLG G (frz n)
 |0=>by
  intro h a x h1 he;have:frz0 h a=some (x,h1):=by simpa only[frz]using he
  exact lD h a x h1 this
 |n+1=>by
  intro h a x h1 he ρ w I v r ha
  cases a with
  |ptr id gen off=>
   simp only[AR]at ha;obtain⟨b,rfl,hp⟩:=ha;simp only[frz]at he
   cases hid:h[id]? with
   |none=>rw[hid]at he;cases he
   |some o=>
    rw[hid]at he
    cases o with
    |arr cs esz g=>cases he
    |vec cs esz g=>cases he
    |log cs=>cases he
    |mp es=>cases he
    |void=>cases he
    |ice cs esz g=>
     simp only[]at he
     split at he
     ·rename_i hc
      obtain⟨rfl,hle⟩:=hc;simp only[Option.some.injEq,Prod.mk.injEq]at he;obtain⟨rfl,rfl⟩:=he;simp only[ptOK,hid]at hp;obtain⟨hIb,hd⟩:=hp.2 trivial;refine⟨I,.refl r,?_⟩;simp only[DR];exact⟨b,off,rfl,hIb,by have:=kF off hd;simpa using this⟩
     ·cases he
    |box cs=>
     simp only[]at he
     split at he
     ·rename_i hc
      split at he
      ·rename_i ds h2 hl
       split at he
       ·rename_i cs' hid'
        simp only[Option.some.injEq,Prod.mk.injEq]at he;obtain⟨rfl,rfl⟩:=he;simp only[ptOK,hid]at hp;have hO:=r.obj id _ hid;simp only[OR]at hO;obtain⟨b',hb',hIb,C,E,fz,hC,hfz,hcs⟩:=hO;rw[hp.2]at hb';cases hb';obtain⟨vs,hvs,hcell⟩:=vL cs 0 (fun k c hk=>by simpa using hcs k c hk);obtain⟨I1,s1,d1⟩:=uT (NS n) cs h ds h2 hl ρ w I vs r hvs;have hd:=yL d1 hcell;obtain⟨I2,s2,hI2,hd2⟩:=aIk s1.rel hid' hp.2 hd;refine⟨I2,s1.trans s2,?_⟩;simp only[DR];exact⟨b,off,rfl,hI2,by have:=kF off hd2;simpa using this⟩
       ·cases he
      ·cases he
     ·cases he
  |clo f caps=>
   simp only[AR]at ha;obtain⟨cv,rfl,hc⟩:=ha;simp only[frz]at he
   split at he
   ·rename_i ds h2 hl
    simp only[Option.some.injEq,Prod.mk.injEq]at he;obtain⟨rfl,rfl⟩:=he;obtain⟨I1,s1,d1⟩:=uT (NS n) caps h ds h2 hl ρ w I _ r hc;exact⟨I1,s1,by simp only[DR];exact⟨cv,rfl,d1⟩⟩
   ·cases he
  |d y=>exact lD h _ x h1 (by simpa only[frz]using he) ρ w I v r ha
  |mp id=>exact lD h _ x h1 (by simpa only[frz]using he) ρ w I v r ha
  |sl id gen off len=>
   simp only[frz]at he
   cases hid:h[id]? with
   |none=>rw[hid]at he;exact lD h _ x h1 he ρ w I v r ha
   |some o=>
    rw[hid]at he
    cases o with
    |arr cs esz g=>exact lD h _ x h1 he ρ w I v r ha
    |box cs=>exact lD h _ x h1 he ρ w I v r ha
    |ice cs esz g=>exact lD h _ x h1 he ρ w I v r ha
    |mp es=>exact lD h _ x h1 he ρ w I v r ha
    |log cs=>exact lD h _ x h1 he ρ w I v r ha
    |void=>exact lD h _ x h1 he ρ w I v r ha
    |vec cs esz g=>
     simp only[]at he
     split at he
     ·rename_i hc
      obtain⟨rfl,hle⟩:=hc
      split at he
      ·rename_i ds h2 hl
       split at he
       ·rename_i cs' e' g' hid'
        split at he
        ·rename_i hc2
         obtain⟨rfl,rfl,hlen⟩:=hc2;simp only[Option.some.injEq,Prod.mk.injEq]at he;obtain⟨rfl,rfl⟩:=he;simp only[AR]at ha;obtain⟨a,cap,rfl,hs⟩:=ha;simp only[slOK,hid]at hs;have hcap:=(hs.2 trivial).1;have h2':=(hs.2 trivial).2;have hO:=r.obj id _ hid;simp only[OR]at hO
         cases hρ:ρ id with
         |none=>
          rw[hρ]at hO h2';simp only at hO h2';subst hO;simp only[fR,Option.some.injEq,Prod.mk.injEq]at hl;obtain⟨rfl,rfl⟩:=hl;obtain⟨I2,s2,hI2⟩:=VW (ds:=[]) r hid rfl (fun b hb=>by rw[hρ]at hb;cases hb);refine⟨I2,s2,?_⟩;simp only[DR];refine⟨a,cap,rfl,hcap,.inl (by simp)⟩
         |some b=>
          rw[hρ]at hO h2';simp only at hO h2';obtain⟨hez,hIb,C,E,fz,hC,hfz,hcs⟩:=hO;obtain⟨vs,hvs,hcell⟩:=vL cs 0 (fun k c hk=>by simpa using hcs k c hk);obtain⟨I1,s1,d1⟩:=uT (NS n) cs h ds h2 hl ρ w I vs r hvs;have hd:=yL d1 hcell;have hdl:ds.length=cs.length:=by rw[((iW ds vs).1 d1).1,((eZ cs vs).1 hvs).1]
          obtain⟨I2,s2,hI2⟩:=VW s1.rel hid' (hlen.trans hdl.symm) (fun b' hb'=>by rw[hρ]at hb';cases hb';exact hd);refine⟨I2,s1.trans s2,?_⟩;simp only[DR];refine⟨a,cap,rfl,hcap,?_⟩
          rcases h2' with h2'|h2'
          ·left;have:len=0:=by omega
           subst this;simp
          ·right;obtain⟨hIb2,hd2⟩:=hI2 b hρ;refine⟨b,off,h2'.1,hIb2,?_⟩;have:=wA (len*e') (kF off hd2)
           simpa using this
        ·cases he
       ·cases he
      ·cases he
     ·cases he
  |agg cs=>exact lD h _ x h1 (by simpa only[frz]using he) ρ w I v r ha
  |tup vs=>exact lD h _ x h1 (by simpa only[frz]using he) ρ w I v r ha
  |junk=>exact lD h _ x h1 (by simpa only[frz]using he) ρ w I v r ha
theorem aD3{h:H}{as:List A}{ds:List D}{h1:H}(he:frzL h as=some (ds,h1)){ρ:Rho}{w:World}{I:Nat->Prop}{vs:List Value}(r:Rel G h ρ w I)(ha:ARv h ρ w I as vs):
  ∃I',Step G h ρ w I h1 ρ w I'/\DRv w I' ds vs:=uT (NS deep) as h ds h1 he ρ w I vs r ha
def DA(w:World)(I:Nat->Prop)(x:A)(v:Value):Prop:=
 (∃y,x=.d y/\DR w I y v)\/(∃ds C,x=.agg (ds.map .d)/\v=.agg C/\DRv w I ds C.toList)
theorem DA.mono{w w':World}{I I':Nat->Prop}(hi:Imm w I w' I'){x:A}{v:Value}(h:DA w I x v):DA w' I' x v:=by
 rcases h with⟨y,rfl,hy⟩|⟨ds,C,rfl,rfl,hd⟩
 ·exact .inl ⟨y,rfl,nK hi y v hy⟩
 ·exact .inr ⟨ds,C,rfl,rfl,oI hi ds _ hd⟩
theorem DA.ar{w:World}{I:Nat->Prop}{x:A}{v:Value}(d:DA w I x v)(h:H)(ρ:Rho):AR h ρ w I x v:=by
 rcases d with⟨y,rfl,hy⟩|⟨ds,C,rfl,rfl,hd⟩
 ·simp only[AR];exact hy
 ·simp only[AR];exact⟨C,rfl,(oD ds _).2 hd⟩
def DAv(w:World)(I:Nat->Prop):List A->List Value->Prop
 | [],vs=>vs=[]
 |a::as,vs=>∃v rest,vs=v::rest/\DA w I a v/\DAv w I as rest
theorem DAv.mono{w w':World}{I I':Nat->Prop}(hi:Imm w I w' I'):∀ {xs:List A} {vs:List Value},DAv w I xs vs->DAv w' I' xs vs
 | [],_,h=>h
 |_::_,_,⟨v,rest,hv,ha,hr⟩=>⟨v,rest,hv,ha.mono hi,DAv.mono hi hr⟩
theorem DAv.ar{w:World}{I:Nat->Prop}(h:H)(ρ:Rho):∀ {xs:List A} {vs:List Value},DAv w I xs vs->ARv h ρ w I xs vs
 | [],_,d=>by simp only[ARv];exact d
 |_::_,_,⟨v,rest,hv,ha,hr⟩=>by simp only[ARv];exact⟨v,rest,hv,ha.ar h ρ,DAv.ar h ρ hr⟩
theorem aUu{h:H}{a x:A}{h1:H}(he:frzA h a=some (x,h1)){ρ:Rho}{w:World}{I:Nat->Prop}{v:Value}(r:Rel G h ρ w I)(ha:AR h ρ w I a v):
  ∃I',Step G h ρ w I h1 ρ w I'/\DA w I' x v:=by
 cases a with
 |agg cs=>
  simp only[frzA]at he
  split at he
  ·rename_i ds h2 hl
   obtain⟨rfl,rfl⟩:=he;obtain⟨C,rfl,hc⟩:=ha;obtain⟨I',s,d⟩:=aD3 hl r hc;exact⟨I',s,.inr ⟨ds,C,rfl,rfl,d⟩⟩
  ·cases he
 |_=>
  simp only[frzA]at he
  split at he
  ·rename_i y h2 hl
   simp only[Option.some.injEq,Prod.mk.injEq]at he;obtain⟨rfl,rfl⟩:=he;obtain⟨I',s,d⟩:=NS deep h _ y h2 hl ρ w I v r ha;exact⟨I',s,.inl ⟨y,rfl,d⟩⟩
  ·cases he
theorem IR:∀(as:List A) (h:H) (xs:List A) (h1:H),fB h as=some (xs,h1)->∀(ρ:Rho) (w:World) (I:Nat->Prop) (vs:List Value),Rel G h ρ w I->ARv h ρ w I as vs->
  ∃I',Step G h ρ w I h1 ρ w I'/\DAv w I' xs vs
 | [],h,ds,h1,he,ρ,w,I,vs,r,ha=>by
  obtain⟨rfl,rfl⟩:=he;exact⟨I,.refl r,ha⟩
 |a::as,h,ds,h1,he,ρ,w,I,vs,r,ha=>by
  simp only[fB]at he
  split at he
  ·rename_i x h2 hx
   split at he
   ·rename_i ds' h3 hds
    simp only[Option.some.injEq,Prod.mk.injEq]at he;obtain⟨rfl,rfl⟩:=he;obtain⟨v,rest,rfl,hav,hrest⟩:=ha;obtain⟨I1,s1,d1⟩:=aUu hx r hav;obtain⟨I2,s2,d2⟩:=IR as h2 ds' h3 hds ρ w I1 rest s1.rel (fY s1.ext as rest hrest);exact⟨I2,s1.trans s2,v,rest,rfl,d1.mono s2.ext.imm,d2⟩
   ·cases he
  ·cases he
end Ev
end Go.Proofs.YthlkcebdfbjdoaaGreat
