/-
  Regions in the order of the text, code, bS, calls.
-/
import Derived.Test.YtahbdkmimmnadaaGreatDoorEvOps
set_option linter.unusedSimpArgs false
set_option linter.unusedVariables false
set_option linter.unusedSectionVars false
namespace Go.Proofs.YtahbdkmimmnadaaGreatDoor
namespace Ev
section
variable{G:Gnd}
section
variable{E:Env}{call:aX}
theorem aO7(hE:EnvOK E)(hc:j8 G E.P call){h:H}{ρ:Rho}{w:World}{I:Nat->Prop}{thaw:List Nat}{o:Oper}{act:Act}{vs:List A}{x:A}{h':H}{ord:List Nat}{k:Nat}(he:jK E call thaw h o vs=some (x,h',ord,k))(r:Rel G h ρ w I)(ha:ARv h ρ w I vs ((opds o.op).map act.eval)):
  H5 G E h ρ w I o act x h':=by
 unfold jK at he;simp only[]at he
 split at he
 ·rename_i a h1 hop
  split at he
  ·rename_i hlen
   have hlen:=hlen.1;cases he;have hn:=bT aF h (idsL vs) [] sm;have hl:=j5 aF h (idsL vs) [] sm;have hr:=aAz r hn hl
   have hren:∀id k,aH (aD aF h (idsL vs) []) id=some k->i0 h ρ w I id (pack h (aD aF h (idsL vs) [])) (sub (aD aF h (idsL vs) []) ρ) w I k:=fun id k hk=>
    mG (fun o ho=>iI (bC hk) ho) (by simp[sub,bC hk])
   have hl2:=NM hE hc hop hr (A9 (kV w I) hren vs _ ha);intro K Q hK;refine hl2 K Q fun v ρ' w' I' s hx=> ?_;obtain⟨s2,refs⟩:=FV r hn hl hlen s;exact hK v _ w' I' s2 (DL (kV _ _) refs a v hx)
  ·cases he
 ·cases he
theorem XL{h:H}{ρ:Rho}{w:World}{I:Nat->Prop}{ops:List Oper}{s:List A}{o:Oper}{b:Bool}{act:Act}(he:qM ops s o=some b)(hs:ARv h ρ w I s act.tmps.toList):Region.wanted o (yielded ops.toArray act.tmps)=b:=by
 unfold qM at he;unfold Region.wanted
 split at he
 ·grind
 ·rename_i j want hg
  rw[hg];simp only[]
  split at he
  ·cases he
  ·rename_i d hd
   have hd':(ops.toArray[j]?).bind (·.dst)=some d:=by grind
   have hy:∀a,s[d]? =some a->∃v,act.tmps[d]? =some v/\AR h ρ w I a v:=fun a ha=>by
    obtain⟨v,hv,hh⟩:=((eP _ _).1 hs).2 d a ha;exact⟨v,by simpa using hv,hh⟩
   split at he
   ·rename_i c hc
    cases he;obtain⟨v,hv,hh⟩:=hy _ hc
    subst hh;unfold yielded;rw[hd'];simp only[Df,hv]
    cases c<;>cases want<;>rfl
   ·rename_i hc
    cases he;obtain⟨v,hv,hh⟩:=hy _ hc
    subst hh;unfold yielded;rw[hd'];simp only[Df,hv]<;>rfl
   ·cases he
theorem HA{h:H}{ρ:Rho}{w:World}{I:Nat->Prop}{s:List A}{act:Act}{dst:Option Tmp}{a:A}{v:Value}(hs:ARv h ρ w I s act.tmps.toList)(ha:AR h ρ w I a v):ARv h ρ w I (aPut s dst a) (act.put dst v).tmps.toList:=by
 cases dst with
 |none=>exact hs
 |some d=>
  simp only[aPut,Act.put,Array.toList_setIfInBounds];rw[eP]at hs|-;refine⟨by simp[hs.1],fun k x hk=> ?_⟩;rw[Cu]at hk|-
  split at hk
  ·grind
  ·grind
theorem n9(act:Act)(dst:Option Tmp)(v:Value):(act.put dst v).defers=act.defers:=by
 cases dst<;>rfl
theorem aRs(hE:EnvOK E)(hc:j8 G E.P call){h:H}{ρ:Rho}{w:World}{I:Nat->Prop}{thaw:List Nat}{ops:List Oper}{o:Oper}{s s':List A}{h':H}{act:Act}(he:DG E call thaw ops o s h=some (s',h'))(r:Rel G h ρ w I)(hs:ARv h ρ w I s act.tmps.toList)
  (K:Act->World->Prop) (Q:Exit->Act->World->Prop) (hK:∀act' ρ' w' I',Step G h ρ w I h' ρ' w' I'->ARv h' ρ' w' I' s' act'.tmps.toList->act'.defers=act.defers->K act' w'):
  if Region.wanted o (yielded ops.toArray act.tmps)then o.wp E.P act w K Q else K (act.put o.dst undef) w:=by
 unfold DG at he
 split at he
 ·rename_i hw
  rw[XL hw hs,if_pos rfl]
  split at he
  ·rename_i vs hvs
   have ha:=VG hs hvs
   have fin:∀x,H5 G E h ρ w I o act x h'->s'=aPut s o.dst x->o.wp E.P act w K Q:=fun x hl hs'=>
    hl K Q fun v ρ' w' I' s1 hx=>hK _ ρ' w' I' s1 (by rw[hs'];exact HA (fW s1.ext s _ hs) hx) (n9 _ _ _)
   split at he
   ·split at he
    ·rename_i x h1 p hop
     cases he;exact fin x (aO7 hE hc hop r ha) rfl
    ·cases he
   ·split at he
    ·rename_i x h1 hop
     cases he;exact fin x (NM hE hc hop r ha) rfl
    ·cases he
  ·cases he
 ·rename_i hw
  rw[XL hw hs];cases he;exact hK _ ρ w I (.refl r) (HA hs (by simp only[AR,DR])) (n9 _ _ _)
 ·cases he
theorem aOl(hE:EnvOK E)(hc:j8 G E.P call){thaw:List Nat}{ops:List Oper}{Q:Exit->Act->World->Prop}:∀(rest:List Oper) {h:H} {ρ:Rho} {w:World} {I:Nat->Prop} {s s':List A} {h':H} {act:Act},xY E call thaw ops rest s h=some (s',h')->Rel G h ρ w I->ARv h ρ w I s act.tmps.toList->
  (∀act' ρ' w' I',Step G h ρ w I h' ρ' w' I'->ARv h' ρ' w' I' s' act'.tmps.toList->act'.defers=act.defers->Q .normal act' w')->wpList E.P ops.toArray Q rest act w
 | [],h,ρ,w,I,s,s',h',act,he,r,hs,hQ=>by
  obtain⟨rfl,rfl⟩:=he;exact wpList_nil (hQ act ρ w I (.refl r) hs rfl)
 |o::rest,h,ρ,w,I,s,s',h',act,he,r,hs,hQ=>by
  simp only[xY]at he
  split at he
  ·rename_i s1 h1 hst
   refine wpList_step fun K hK=> ?_;refine aRs hE hc hst r hs K Q fun act' ρ' w' I' s2 hs2 hd=>hK _ _ ?_;exact aOl hE hc rest he s2.rel hs2 fun act2 ρ2 w2 I2 s3 hs3 hd3=>hQ act2 ρ2 w2 I2 (s2.trans s3) hs3 (hd3.trans hd)
  ·cases he
def WT(G:Gnd)(E:Env)(call:aX):Prop:=∀(id:Nat) (thaw:List Nat) (ops:Array Oper) (s s':List A) (h h':H),mL E call thaw ops true s h=some (s',h')->∀(ρ:Rho) (w:World) (I:Nat->Prop) (act:Act),Rel G h ρ w I->ARv h ρ w I s act.tmps.toList->∀(Q:Exit->Act->World->Prop),
 (∀act' ρ' w' I',Step G h ρ w I h' ρ' w' I'->ARv h' ρ' w' I' s' act'.tmps.toList->act'.defers=act.defers->Q .normal act' w')->(Code.region id ops true).wp E.P Q act w
theorem aOa(hE:EnvOK E)(hc:j8 G E.P call)(hd:WT G E call){id:Nat}{thaw:List Nat}{ops:Array Oper}{draw:Bool}{s s':List A}{h h':H}(he:mL E call thaw ops draw s h=some (s',h')){ρ:Rho}{w:World}{I:Nat->Prop}{act:Act}(r:Rel G h ρ w I)(hs:ARv h ρ w I s act.tmps.toList){Q:Exit->Act->World->Prop}
  (hQ:∀act' ρ' w' I',Step G h ρ w I h' ρ' w' I'->ARv h' ρ' w' I' s' act'.tmps.toList->act'.defers=act.defers->Q .normal act' w'):(Code.region id ops draw).wp E.P Q act w:=by
 cases draw with
 |true=>exact hd id thaw ops s s' h h' he ρ w I act r hs Q hQ
 |false=>
  refine wp_region_list ?_;have:=aOl hE hc (Q:=Q) ops.toList he r hs hQ
  simpa using this
theorem aEi{h:H}{ρ:Rho}{w:World}{I:Nat->Prop}:∀ {m:List Bool} {s:List A} {vs:List Value},ARv h ρ w I s vs->ARv h ρ w I (tidy m s) vs
 | [],s,vs,hs=>by simpa only[tidy]using hs
 |b::m,[],vs,hs=>by cases b<;>simpa only[tidy]using hs
 |b::m,a::s,vs,hs=>by
  obtain⟨v,rest,rfl,h1,h2⟩:=hs;cases b
  ·simp only[tidy,ARv];exact⟨v,rest,rfl,h1,aEi h2⟩
  ·simp only[tidy,ARv];exact⟨v,rest,rfl,by simp only[AR],aEi h2⟩
theorem aN4(n i:Nat)(l:List Nat)(h:i<n):(List.range n++l)[i]? =some i:=by grind
theorem aGg{nf:Nat}{h:H}{ids:List Nat}(hl:nf<=h.length):(dI nf h ids).Nodup/\(∀i∈dI nf h ids,i<h.length)/\∀i,i<nf->(dI nf h ids)[i]? =some i:=by
 unfold dI;refine⟨bT _ _ _ _ List.nodup_range,j5 _ _ _ _ (fun i hi=>by have:=List.mem_range.1 hi;omega),fun i hi=> ?_⟩;obtain⟨l,hl2⟩:=mR aF h (f9 (h.take nf)++ids) (List.range nf);rw[hl2];exact aN4 nf i l hi
theorem WG(nf:Nat)(h:H):∀(l:H) (i k:Nat),(dV nf h i l)[k]? =(l[k]?).map (cB nf h (i+k))
 | [],i,k=>by simp[dV]
 |o::os,i,k=>by
  cases k with
  |zero=>simp[dV]
  |succ k=>
   simp only[dV,Av];rw[WG nf h os (i+1) k,show i+1+k=i+(k+1)from by omega]
theorem KD(nf:Nat)(h:H)(k:Nat):(cM nf h)[k]? =(h[k]?).map (cB nf h k):=by
 unfold cM;rw[WG,Ag]
theorem aM3(nf:Nat)(h:H):(cM nf h).length=h.length:=by
 have:∀(l:H) (i:Nat),(dV nf h i l).length=l.length:=by
  intro l;induction l with
  |nil=>intro i;rfl
  |cons o os ih=>intro i;simp[dV,ih]
 exact this h 0
theorem aCC{nf:Nat}{h:H}:∀(cs:List A) (m:Nat),(aQ nf h cs)[m]? =(cs[m]?).map (bJ nf h)
 | [],m=>by simp[aQ]
 |c::cs,m=>by cases m<;>simp[aQ,aCC cs]
theorem aCY{nf:Nat}{h:H}:∀(cs:List A),(aQ nf h cs).length=cs.length
 | []=>by simp[aQ]
 |c::cs=>by simp[aQ,aCY cs]
theorem O4(nf:Nat)(h:H)(i:Nat)(o:O):live (cB nf h i o)↔live o:=by
 cases o<;>simp[live,cB]
section calm
variable{h:H}{ρ:Rho}{w:World}{I:Nat->Prop}{nf:Nat}
theorem XX{id gen off len:Nat}{a:Option Addr}{cap:Nat}(hs:slOK h ρ w I id gen off len a cap)(g2:Nat)(hg:∀g,a6 h id=some g->(id<nf/\g2=gen)\/(¬id<nf/\gen=g/\g2=0))(hn:a6 h id=none->g2=gen):slOK (cM nf h) ρ w I id g2 off len a cap:=by
 unfold slOK at hs|-;rw[KD];unfold a6 at hg hn
 cases hid:h[id]? with
 |none=>grind
 |some o=>
  rw[hid]at hs hg hn
  cases o with
  |arr cs e g=>
   simp only[Ay,cB]at hs|-
   rcases hg g rfl with⟨h1,h2⟩|⟨h1,h2,h3⟩
   ·grind
   ·grind
  |vec cs e g=>
   simp only[Ay,cB,aCY]at hs|-
   rcases hg g rfl with⟨h1,h2⟩|⟨h1,h2,h3⟩
   ·grind
   ·grind
  |ice cs e g=>
   simp only[Ay,cB]at hs|-
   rcases hg g rfl with⟨h1,h2⟩|⟨h1,h2,h3⟩
   ·grind
   ·grind
  |log cs=>
   rw[hn rfl];exact hs
  |box cs=>grind
  |mp es=>grind
  |void=>grind
theorem aK6{id b:Nat}(hs:mpOK h ρ id b):mpOK (cM nf h) ρ id b:=by
 unfold mpOK at hs|-;rw[KD]
 cases hid:h[id]? with
 |none=>grind
 |some o=>
  rw[hid]at hs
  cases o<;>first|exact hs.elim|exact hs
theorem XW{id gen b:Nat}(hs:ptOK h ρ w I id gen b)(g2:Nat)(hg:∀g,a6 h id=some g->(id<nf/\g2=gen)\/(¬id<nf/\gen=g/\g2=0))(hn:a6 h id=none->g2=gen):ptOK (cM nf h) ρ w I id g2 b:=by
 unfold ptOK at hs|-;rw[KD];unfold a6 at hg hn
 cases hid:h[id]? with
 |none=>grind
 |some o=>
  rw[hid]at hs hg hn
  cases o with
  |arr cs e g=>
   simp only[Ay,cB]at hs|-
   rcases hg g rfl with⟨h1,h2⟩|⟨h1,h2,h3⟩
   ·grind
   ·grind
  |vec cs e g=>
   simp only[Ay,cB]at hs|-
   rcases hg g rfl with⟨h1,h2⟩|⟨h1,h2,h3⟩
   ·grind
   ·grind
  |ice cs e g=>
   simp only[Ay,cB]at hs|-
   rcases hg g rfl with⟨h1,h2⟩|⟨h1,h2,h3⟩
   ·grind
   ·grind
  |log cs=>
   rw[hn rfl];exact hs
  |box cs=>
   rw[hn rfl];exact hs
  |mp es=>grind
  |void=>grind
mutual
theorem aKS:∀(a:A) (v:Value),AR h ρ w I a v->AR (cM nf h) ρ w I (bJ nf h a) v
 |.d x,v,hh=>by simp only[AR,bJ]at hh|-;exact hh
 |.sl id gen off len,v,hh=>by
  simp only[AR]at hh;obtain⟨a,cap,hv,ho⟩:=hh;simp only[bJ,gS]
  by_cases hlt:id<nf
  ·rw[if_pos hlt];simp only[AR];exact⟨a,cap,hv,XX ho gen (fun g hg=>.inl ⟨hlt,rfl⟩) fun _=>rfl⟩
  ·rw[if_neg hlt]
   cases hgo:a6 h id with
   |none=>simp only[AR];exact⟨a,cap,hv,XX ho gen (fun g hg=>by rw[hgo]at hg;cases hg) fun _=>rfl⟩
   |some g=>
    by_cases he:gen=g
    ·simp only[if_pos he,AR];exact⟨a,cap,hv,XX ho 0 (fun g' hg=>.inr ⟨hlt,by rw[hgo]at hg;cases hg;exact he,rfl⟩) fun hn=>by rw[hgo]at hn;cases hn⟩
    ·simp only[if_neg he,AR]
 |.ptr id gen off,v,hh=>by
  simp only[AR]at hh;obtain⟨b,hv,ho⟩:=hh;simp only[bJ,IE]
  by_cases hlt:id<nf
  ·rw[if_pos hlt];simp only[AR];exact⟨b,hv,XW ho gen (fun g hg=>.inl ⟨hlt,rfl⟩) fun _=>rfl⟩
  ·rw[if_neg hlt]
   cases hgo:a6 h id with
   |none=>simp only[AR];exact⟨b,hv,XW ho gen (fun g hg=>by rw[hgo]at hg;cases hg) fun _=>rfl⟩
   |some g=>
    by_cases he:gen=g
    ·simp only[if_pos he,AR];exact⟨b,hv,XW ho 0 (fun g' hg=>.inr ⟨hlt,by rw[hgo]at hg;cases hg;exact he,rfl⟩) fun hn=>by rw[hgo]at hn;cases hn⟩
    ·simp only[if_neg he,AR]
 |.mp id,v,hh=>by
  simp only[AR,bJ]at hh|-;obtain⟨b,hv,ho⟩:=hh;exact⟨b,hv,aK6 ho⟩
 |.clo g caps,v,hh=>by
  simp only[AR,bJ]at hh|-;obtain⟨cv,hv,hc⟩:=hh;exact⟨cv,hv,G0 caps _ hc⟩
 |.agg cs,v,hh=>by
  simp only[AR,bJ]at hh|-;obtain⟨cv,hv,hc⟩:=hh;exact⟨cv,hv,G0 cs _ hc⟩
 |.tup cs,v,hh=>by
  simp only[AR,bJ]at hh|-;obtain⟨cv,hv,hc⟩:=hh;exact⟨cv,hv,G0 cs _ hc⟩
 |.junk,v,_=>by simp only[AR,bJ]
theorem G0:∀(asx:List A) (vs:List Value),ARv h ρ w I asx vs->ARv (cM nf h) ρ w I (aQ nf h asx) vs
 | [],vs,hh=>by simpa only[ARv,aQ]using hh
 |a::asx,vs,hh=>by
  simp only[ARv,aQ]at hh|-;obtain⟨v,rest,hv,ha,hr⟩:=hh;exact⟨v,rest,hv,aKS a v ha,G0 asx rest hr⟩
end
theorem aHG{cs:List A}{b:Nat}(hh:ARs h ρ w I cs b):ARs (cM nf h) ρ w I (aQ nf h cs) b:=by
 intro m c hm;rw[aCC]at hm
 cases hc:cs[m]? with
 |none=>grind
 |some c0=>
  rw[hc]at hm;simp at hm;subst hm;obtain⟨v,hv,ha,hk⟩:=hh m c0 hc;exact⟨v,hv,aKS c0 v ha,hk⟩
theorem aRA{i:Nat}{o:O}(ho:OR h ρ w I i o):OR (cM nf h) ρ w I i (cB nf h i o):=by
 cases o with
 |arr cs e g=>simp only[OR,cB]at ho|-;exact ho
 |box cs=>
  obtain⟨b,hb,hi,C,E,fz,h1,h2,h3⟩:=ho;exact⟨b,hb,hi,C,E,fz,h1,h2,aHG h3⟩
 |vec cs e g=>
  simp only[OR,cB]at ho|-
  cases hρ:ρ i with
  |none=>rw[hρ]at ho;simp only at ho|-;subst ho;rfl
  |some b=>
   rw[hρ]at ho;obtain⟨hez,hi,C,E,fz,h1,h2,h3⟩:=ho;exact⟨hez,hi,C,E,fz,h1,h2,aHG h3⟩
 |log cs=>simp only[OR,cB]at ho|-;exact ho
 |mp es=>simp only[OR,cB]at ho|-;exact ho
 |ice cs e g=>simp only[OR,cB]
 |void=>simp only[OR,cB]
theorem LG{k:Nat}{o:O}(ho:(cM nf h)[k]? =some o):∃o',h[k]? =some o'/\o=cB nf h k o':=by
 rw[KD]at ho;obtain⟨o',h1,h2⟩:=Az.1 ho;exact⟨o',h1,h2.symm⟩
end calm
theorem aNv{h0:H}{ρ0:Rho}{w0:World}{I0:Nat->Prop}{h:H}{ρ:Rho}{w:World}{I:Nat->Prop}(s:Step G h0 ρ0 w0 I0 h ρ w I):Step G h0 ρ0 w0 I0 (cM h0.length h) ρ w I:=by
 have lt_sl:∀ {id gen off len a cap},slOK h0 ρ0 w0 I0 id gen off len a cap->id<h0.length:=fun {id gen off len a cap} hs=>by
  rcases Cr id h0.length with h|h
  ·exact h
  ·simp[slOK,Cg h]at hs
 have lt_pt:∀ {id gen b},ptOK h0 ρ0 w0 I0 id gen b->id<h0.length:=fun {id gen b} hs=>by
  rcases Cr id h0.length with h|h
  ·exact h
  ·simp[ptOK,Cg h]at hs
 refine⟨⟨fun k o ho=> ?_,fun k k' b o o' hb hb' ho ho' l1 l2=> ?_,s.rel.imm,s.rel.ground⟩,⟨s.ext.imm,fun id gen off len a cap hs=> ?_,fun id gen b hs=> ?_,fun id b hs=>aK6 (s.ext.mp _ _ hs)⟩,s.keep,fun b hb=> ?_,by rw[aM3];exact s.len⟩
 ·obtain⟨o',h1,rfl⟩:=LG ho;exact aRA (s.rel.obj k o' h1)
 ·obtain⟨o1,h1,rfl⟩:=LG ho;obtain⟨o2,h2,rfl⟩:=LG ho';exact s.rel.inj k k' b o1 o2 hb hb' h1 h2 ((O4 _ _ _ _).1 l1) ((O4 _ _ _ _).1 l2)
 ·exact XX (s.ext.sl _ _ _ _ _ _ hs) gen (fun g _=>.inl ⟨lt_sl hs,rfl⟩) fun _=>rfl
 ·exact XW (s.ext.pt _ _ _ hs) gen (fun g _=>.inl ⟨lt_pt hs,rfl⟩) fun _=>rfl
 ·obtain⟨k,o,hk,ho,hl⟩:=hb;obtain⟨o',h1,rfl⟩:=LG ho;exact s.own b ⟨k,o',hk,h1,(O4 _ _ _ _).1 hl⟩
theorem aLc{h0:H}{ρ0:Rho}{w0:World}{I0:Nat->Prop}{h:H}{ρ:Rho}{w:World}{I:Nat->Prop}(s:Step G h0 ρ0 w0 I0 h ρ w I){ids:List Nat}{sl:List A}{vs:List Value}(hs:ARv h ρ w I sl vs):
  ∃ρ',Step G h0 ρ0 w0 I0 (trim h0.length h (dI h0.length h ids) sl).2 ρ' w I/\ARv (trim h0.length h (dI h0.length h ids) sl).2 ρ' w I (trim h0.length h (dI h0.length h ids) sl).1 vs:=by
 obtain⟨h1,h2,h3⟩:=aGg (nf:=h0.length) (h:=h) (ids:=ids) s.len;obtain⟨s2,refs⟩:=aNL s h1 h2 h3;exact⟨_,aNv s2,G0 _ _ (A9 (kV w I) refs _ _ hs)⟩
theorem aLP{h0:H}{ρ0:Rho}{w0:World}{I0:Nat->Prop}{h:H}{ρ:Rho}{w:World}{I:Nat->Prop}(s:Step G h0 ρ0 w0 I0 h ρ w I){m:List Bool}{sl:List A}{vs:List Value}(hs:ARv h ρ w I sl vs):
  ∃ρ',Step G h0 ρ0 w0 I0 (gc h0.length m sl h).2 ρ' w I/\ARv (gc h0.length m sl h).2 ρ' w I (gc h0.length m sl h).1 vs:=by
 exact aLc s (aEi hs)
def aM6(G:Gnd)(E:Env)(c:Code)(body:List A->H->Option (Exit×List A×H))(nf:Nat):Prop:=
 ∀(s:List A) (h:H) (e:Exit) (s':List A) (h':H),body s h=some (e,s',h')->∀(h0:H) (ρ0:Rho) (w0:World) (I0:Nat->Prop),h0.length=nf->∀(ρ:Rho) (w:World) (I:Nat->Prop) (act:Act),Step G h0 ρ0 w0 I0 h ρ w I->ARv h ρ w I s act.tmps.toList->act.defers=[]->
  ∀(Q:Exit->Act->World->Prop),(∀ρ' w' I' act',Step G h0 ρ0 w0 I0 h' ρ' w' I'->ARv h' ρ' w' I' s' act'.tmps.toList->act'.defers=[]->Q e act' w')->c.wp E.P Q act w
theorem aLa{c:Code}{body:List A->H->Option (Exit×List A×H)}{nf:Nat}(hb:aM6 G E c body nf){m:List Bool}:∀(n:Nat) (s:List A) (h:H) (e:Exit) (s':List A) (h':H),r9 body nf m n s h=some (e,s',h')->e≠.normal/\
  ∀(h0:H) (ρ0:Rho) (w0:World) (I0:Nat->Prop),h0.length=nf->∀(ρ:Rho) (w:World) (I:Nat->Prop) (act:Act),Step G h0 ρ0 w0 I0 h ρ w I->ARv h ρ w I s act.tmps.toList->act.defers=[]->
  ∀(Q:Exit->Act->World->Prop),(∀ρ' w' I' act',Step G h0 ρ0 w0 I0 h' ρ' w' I'->ARv h' ρ' w' I' s' act'.tmps.toList->act'.defers=[]->Q e act' w')->Code.rounds E.P c Q n act w
 |0,_,_,_,_,_,he=>by simp[r9]at he
 |n+1,s,h,e,s',h',he=>by
  simp only[r9]at he
  split at he
  ·rename_i s1 h1 hbody
   obtain⟨hne,ih⟩:=aLa hb n _ _ _ _ _ he;refine⟨hne,fun h0 ρ0 w0 I0 hnf ρ w I act st hs hd Q hQ=> ?_⟩;refine hb s h .normal s1 h1 hbody h0 ρ0 w0 I0 hnf ρ w I act st hs hd _ fun ρ' w' I' act' st' hs' hd'=> ?_;subst hnf;obtain⟨ρ2,st2,hs2⟩:=aLP st' (m:=m) hs';exact ih h0 ρ0 w0 I0 rfl ρ2 w' I' act' st2 hs2 hd' Q hQ
  ·rename_i e1 s1 h1 hne hbody
   cases he;refine⟨hne,fun h0 ρ0 w0 I0 hnf ρ w I act st hs hd Q hQ=> ?_⟩
   refine hb s h e s1 h1 hbody h0 ρ0 w0 I0 hnf ρ w I act st hs hd _ fun ρ' w' I' act' st' hs' hd'=> ?_;subst hnf;obtain⟨ρ2,st2,hs2⟩:=aLP st' (m:=m) hs';have:=hQ ρ2 w' I' act' st2 hs2 hd'
   cases e<;>first|exact this|(exact absurd rfl hne)
  ·cases he
theorem sS(hE:EnvOK E)(hc:j8 G E.P call)(hd:WT G E call){L nf:Nat}{thaw:List Nat}{live:List Bool}:∀c:Code,aM6 G E c (bW E call L nf thaw live c) nf
 |.skip=>by
  intro s h e s' h' he h0 ρ0 w0 I0 hnf ρ w I act st hs hdf Q hQ;simp only[bW,Option.some.injEq,Prod.mk.injEq]at he;obtain⟨rfl,rfl,rfl⟩:=he;exact wp_skip (hQ ρ w I act st hs hdf)
 |.region id ops draw=>by
  intro s h e s' h' he h0 ρ0 w0 I0 hnf ρ w I act st hs hdf Q hQ;simp only[bW]at he
  split at he
  ·rename_i s1 h1 hr
   cases he;exact aOa hE hc hd hr st.rel hs fun act' ρ' w' I' st' hs' hd'=>hQ ρ' w' I' act' (st.trans st') hs' (hd'.trans hdf)
  ·cases he
 |.seq a b=>by
  intro s h e s' h' he h0 ρ0 w0 I0 hnf ρ w I act st hs hdf Q hQ;simp only[bW]at he;refine wp_seq ?_
  split at he
  ·rename_i s1 h1 ha
   refine sS hE hc hd a s h .normal s1 h1 ha h0 ρ0 w0 I0 hnf ρ w I act st hs hdf _ fun ρ' w' I' act' st' hs' hd'=> ?_;exact sS hE hc hd b s1 h1 e s' h' he h0 ρ0 w0 I0 hnf ρ' w' I' act' st' hs' hd' Q hQ
  ·rename_i hne
   refine sS hE hc hd a s h e s' h' he h0 ρ0 w0 I0 hnf ρ w I act st hs hdf _ fun ρ' w' I' act' st' hs' hd'=> ?_;have:=hQ ρ' w' I' act' st' hs' hd'
   cases e<;>first|exact this|exact absurd he (hne s' h')
 |.cond c x y=>by
  intro s h e s' h' he h0 ρ0 w0 I0 hnf ρ w I act st hs hdf Q hQ;simp only[bW]at he
  split at he
  ·rename_i b hb
   have hv:act.eval c=.bool b:=by
    have:=aA5 hb hs
    simpa only[AR,DR]using this
   refine wp_cond hv ?_
   cases b with
   |true=>
    simp only[if_true]at he|-;exact sS hE hc hd x s h e s' h' he h0 ρ0 w0 I0 hnf ρ w I act st hs hdf Q hQ
   |false=>
    simp only[Ap,if_false]at he|-;exact sS hE hc hd y s h e s' h' he h0 ρ0 w0 I0 hnf ρ w I act st hs hdf Q hQ
  ·cases he
 |.block id c=>by
  intro s h e s' h' he h0 ρ0 w0 I0 hnf ρ w I act st hs hdf Q hQ;simp only[bW]at he;refine wp_block ?_
  split at he
  ·rename_i k s1 h1 hb
   refine sS hE hc hd c s h _ s1 h1 hb h0 ρ0 w0 I0 hnf ρ w I act st hs hdf _ fun ρ' w' I' act' st' hs' hd'=> ?_;simp only[Exit.inBlock]
   split at he
   ·rename_i hk
    cases he;rw[if_pos hk]
    exact hQ ρ' w' I' act' st' hs' hd'
   ·rename_i hk
    cases he;rw[if_neg hk]
    exact hQ ρ' w' I' act' st' hs' hd'
  ·rename_i hne
   refine sS hE hc hd c s h e s' h' he h0 ρ0 w0 I0 hnf ρ w I act st hs hdf _ fun ρ' w' I' act' st' hs' hd'=> ?_;have:=hQ ρ' w' I' act' st' hs' hd'
   cases e<;>first|exact this|exact absurd he (hne _ s' h')
 |.loop c=>by
  intro s h e s' h' he h0 ρ0 w0 I0 hnf ρ w I act st hs hdf Q hQ;simp only[bW]at he;obtain⟨_,hl⟩:=aLa (sS hE hc hd c) L _ _ _ _ _ he;refine wp_loop_rounds L ?_;subst hnf;obtain⟨ρ2,st2,hs2⟩:=aLP st (m:=qQ live s) hs;exact hl h0 ρ0 w0 I0 rfl ρ2 w I act st2 hs2 hdf Q hQ
 |.exit id=>by
  intro s h e s' h' he h0 ρ0 w0 I0 hnf ρ w I act st hs hdf Q hQ;simp only[bW,Option.some.injEq,Prod.mk.injEq]at he;obtain⟨rfl,rfl,rfl⟩:=he;exact wp_exit (hQ ρ w I act st hs hdf)
 |.ret=>by
  intro s h e s' h' he h0 ρ0 w0 I0 hnf ρ w I act st hs hdf Q hQ;simp only[bW,Option.some.injEq,Prod.mk.injEq]at he;obtain⟨rfl,rfl,rfl⟩:=he;exact wp_ret (hQ ρ w I act st hs hdf)
 |.rangeFunc _ _ _ _=>by intro s h e s' h' he;simp[bW]at he
 |.scope _=>by intro s h e s' h' he;simp[bW]at he
 |.label _=>by intro s h e s' h' he;simp[bW]at he
 |.goto _=>by intro s h e s' h' he;simp[bW]at he
 |.refuse _=>by intro s h e s' h' he;simp[bW]at he
end
end
section
variable{G:Gnd}
section
variable{E:Env}{call:aX}
theorem aKJ{h:H}{ρ:Rho}{w:World}{I:Nat->Prop}{nf:Nat}{ex:Bool}{a x:A}{h1:H}{v:Value}(he:outS nf ex h a=some (x,h1))(r:Rel G h ρ w I)(ha:AR h ρ w I a v):
  ∃I',Step G h ρ w I h1 ρ w I'/\AR h1 ρ w I' x v:=by
 have frozen:∀(a:A),(frz deep h a).map (fun r=>(A.d r.1,r.2))=some (x,h1)->AR h ρ w I a v->∃I',Step G h ρ w I h1 ρ w I'/\AR h1 ρ w I' x v:=by
  intro a he ha;simp only[Az]at he;obtain⟨⟨y,h2⟩,hf,hh⟩:=he;cases hh;obtain⟨I',s,d⟩:=M4 deep h a y h2 hf ρ w I v r ha;exact⟨I',s,by simp only[AR];exact d⟩
 unfold outS at he
 split at he
 ·cases he;obtain⟨a,rfl⟩:=ha
  exact⟨I,.refl r,by simp only[AR,DR];exact⟨a,0,rfl,Ad _,.inl trivial⟩⟩
 ·cases he;exact⟨I,.refl r,ha⟩
 ·split at he
  ·cases he;exact⟨I,.refl r,ha⟩
  ·grind
 ·split at he
  ·cases he;exact⟨I,.refl r,ha⟩
  ·grind
 ·split at he
  ·cases he;exact⟨I,.refl r,ha⟩
  ·cases he
 ·split at he
  ·cases he;exact⟨I,.refl r,ha⟩
  ·grind
 ·grind
theorem aIR{nf:Nat}{ex:Bool}{ρ:Rho}{w:World}:∀(asx:List A) {h:H} {I:Nat->Prop} {xs:List A} {h1:H} {vs:List Value},B8 nf ex h asx=some (xs,h1)->Rel G h ρ w I->ARv h ρ w I asx vs->
  ∃I',Step G h ρ w I h1 ρ w I'/\ARv h1 ρ w I' xs vs
 | [],h,I,xs,h1,vs,he,r,ha=>by
  obtain⟨rfl,rfl⟩:=he;exact⟨I,.refl r,ha⟩
 |a::asx,h,I,xs,h1,vs,he,r,ha=>by
  simp only[B8]at he
  split at he
  ·rename_i x h2 hx
   split at he
   ·rename_i xs' h3 hxs
    cases he;obtain⟨v,rest,rfl,hav,hrest⟩:=iG ha
    obtain⟨I1,s1,d1⟩:=aKJ hx r hav;obtain⟨I2,s2,d2⟩:=aIR asx hxs s1.rel (fW s1.ext asx rest hrest);exact⟨I2,s1.trans s2,by simp only[ARv];exact⟨v,rest,rfl,iY s2.ext x v d1,d2⟩⟩
   ·cases he
  ·cases he
theorem aRR{h:H}{ρ:Rho}{w:World}{I:Nat->Prop}{nf:Nat}{ex:Bool}{a x:A}{h1:H}{v:Value}(he:outA nf ex h a=some (x,h1))(r:Rel G h ρ w I)(ha:AR h ρ w I a v):
  ∃I',Step G h ρ w I h1 ρ w I'/\AR h1 ρ w I' x v:=by
 unfold outA at he
 split at he
 ·simp only[Az]at he;obtain⟨⟨xs,h2⟩,hf,hh⟩:=he;cases hh;obtain⟨C,rfl,hc⟩:=ha;obtain⟨I',s,d⟩:=aIR _ hf r hc;exact⟨I',s,by simp only[AR];exact⟨C,rfl,d⟩⟩
 ·exact aKJ he r ha
theorem aHj{nf:Nat}{ex:Bool}{ρ:Rho}{w:World}:∀(asx:List A) {h:H} {I:Nat->Prop} {xs:List A} {h1:H} {vs:List Value},qN nf ex h asx=some (xs,h1)->Rel G h ρ w I->ARv h ρ w I asx vs->
  ∃I',Step G h ρ w I h1 ρ w I'/\ARv h1 ρ w I' xs vs
 | [],h,I,xs,h1,vs,he,r,ha=>by
  obtain⟨rfl,rfl⟩:=he;exact⟨I,.refl r,ha⟩
 |a::asx,h,I,xs,h1,vs,he,r,ha=>by
  simp only[qN]at he
  split at he
  ·rename_i x h2 hx
   split at he
   ·rename_i xs' h3 hxs
    cases he;obtain⟨v,rest,rfl,hav,hrest⟩:=iG ha
    obtain⟨I1,s1,d1⟩:=aRR hx r hav;obtain⟨I2,s2,d2⟩:=aHj asx hxs s1.rel (fW s1.ext asx rest hrest);exact⟨I2,s1.trans s2,by simp only[ARv];exact⟨v,rest,rfl,iY s2.ext x v d1,d2⟩⟩
   ·cases he
  ·cases he
theorem aO9{P:Program}{h:H}{ρ:Rho}{w:World}{I:Nat->Prop}{t:TypeId}{a x:A}{v:Value}(he:B5 P h t a=some x)(r:Rel G h ρ w I)(ha:AR h ρ w I a v):∃p,v=.pointer (some p):=by
 unfold B5 at he
 split at he
 ·rename_i run b hrun _
  obtain⟨bl,o,hv,_⟩:=aHS hrun r ha;exact⟨_,hv⟩
 ·cases he
theorem aKO{h:H}{ρ:Rho}{w:World}{I:Nat->Prop}{s:List A}{act:Act}(hs:ARv h ρ w I s act.tmps.toList)(t:Nat):AR h ρ w I (s.getD t (.d .undef)) (act.tmps.getD t undef):=
 aA5 (x:=.tmp t) rfl hs
def tupV:List Value->Value
 | [v]=>v
 |vs=>.tuple vs.toArray
theorem aSm{h:H}{ρ:Rho}{w:World}{I:Nat->Prop}{xs:List A}{vs:List Value}(ha:ARv h ρ w I xs vs):AR h ρ w I (tupA xs) (tupV vs):=by
 cases xs with
 |nil=>
  simp only[ARv]at ha;subst ha;exact⟨#[],rfl,by simp[ARv]⟩
 |cons a asx=>
  obtain⟨v,rest,rfl,h1,h2⟩:=iG ha
  cases asx with
  |nil=>simp only[ARv]at h2;subst h2;exact h1
  |cons b bs=>
   obtain⟨u,rest2,rfl,h3,h4⟩:=iG h2;exact⟨_,rfl,by simpa using ha⟩
def aDp(tmps:Array Value):ResultVar->Sem Value
 |.tmp t=>pure (tmps.getD t undef)
 |.cell a t=>do loadVar t (<-asAddr (tmps.getD a undef))
theorem aCu{h:H}{ρ:Rho}{w:World}{I:Nat->Prop}{s:List A}{act:Act}(r:Rel G h ρ w I)(hs:ARv h ρ w I s act.tmps.toList):∀(rs:List ResultVar) (xs:List A),kU E.P s h rs=some xs->
  ∃vs,(rs.mapM (aDp act.tmps)).run E.P w=.ok vs w/\ARv h ρ w I xs vs
 | [],xs,he=>by
  simp only[kU,Option.some.injEq]at he;subst he;exact⟨[],by simp,by simp only[ARv]⟩
 |rv::rs,xs,he=>by
  simp only[kU]at he
  split at he
  ·rename_i a asx ha has
   cases he;obtain⟨vs,h1,h2⟩:=aCu r hs rs asx has
   cases rv with
   |tmp t=>
    simp only[GJ,Option.some.injEq]at ha;subst ha;refine⟨act.tmps.getD t undef::vs,?_,by simp only[ARv];exact⟨_,_,rfl,aKO hs t,h2⟩⟩;simp only[List.mapM_cons,Sem.run_bind,aDp,Sem.run_pure,Result.andThen_ok,h1]
   |cell b t=>
    have hb:=aKO hs b;obtain⟨p,hp⟩:=aO9 ha r hb;obtain⟨u,hu,hx⟩:=aKR ha r hb;rw[hp]at hu;simp only[Instr.loadAt,Instr.sureAddr,Sem.run_bind,Sem.run_pure,Result.andThen_ok]at hu;refine⟨u::vs,?_,by simp only[ARv];exact⟨_,_,rfl,hx,h2⟩⟩;simp only[List.mapM_cons,Sem.run_bind,aDp,hp,asAddr,Sem.run_pure,Result.andThen_ok,hu,h1]
  ·cases he
theorem aKg{fn:Func}{tmps:Array Value}{P:Program}{w:World}{vs:List Value}(h:(fn.results.toList.mapM (aDp tmps)).run P w=.ok vs w):(results fn tmps).run P w=.ok (tupV vs) w:=by
 have e:results fn tmps=(do
  let vs<-fn.results.mapM (aDp tmps)
  pure (if h:vs.size=1 then vs[0]else .tuple vs)):=rfl
 rw[e,Array.mapM_eq_mapM_toList];simp only[Sem.run_bind,Sem.run_map,h]
 cases vs with
 |nil=>rfl
 |cons a asx=>cases asx<;>rfl
theorem aFZ{h:H}{ρ:Rho}{w:World}{I:Nat->Prop}:∀n,ARv h ρ w I (List.replicate n (.d .undef)) (List.replicate n undef)
 |0=>by simp[ARv]
 |n+1=>by
  exact⟨undef,_,rfl,by simp only[AR,DR],aFZ n⟩
theorem aSd(hE:EnvOK E)(hc:j8 G E.P call)(hd:WT G E call){L:Nat}{f:FuncId}{fn:Func}{c:Code}(hf:E.P.funcs[f]? =some fn)(hb:fn.body=some c){args:List A}{h:H}{x:A}{h':H}(he:HU E call L f fn c args h=some (x,h'))
  {ρ:Rho} {w:World} {I:Nat->Prop} {vs:List Value} (r:Rel G h ρ w I) (ha:ARv h ρ w I args vs):
  Calls E.P f vs.toArray w fun e w'=>∃v ρ' I',e=.returned v/\Step G h ρ w I h' ρ' w' I'/\AR h' ρ' w' I' x v:=by
 unfold HU at he
 split at he
 ·rename_i e s h1 hcode
  split at he
  ·rename_i hleave
   split at he
   ·rename_i rs hres
    split at he
    ·rename_i xs h2 hout
     cases he;refine calls_of_wp hf hb ?_
     have hlen:=gL ha
     have hs:ARv h ρ w I (args++List.replicate (fn.ntmps-args.length) (.d .undef)) (vs.toArray++Array.replicate (fn.ntmps-vs.toArray.size) undef).toList:=by
      have:=sU ha (aFZ (h:=h) (ρ:=ρ) (w:=w) (I:=I) (fn.ntmps-args.length))
      simpa [hlen]using this
     refine sS hE hc hd c _ h e s h1 hcode h ρ w I rfl ρ w I _ (.refl r) hs rfl _ fun ρ' w' I' act' st hs' hdf=> ?_;obtain⟨us,hus,hrs⟩:=aCu (E:=E) st.rel hs' fn.results.toList rs hres;obtain⟨I2,st2,hxs⟩:=aHj rs hout st.rel hrs;have st3:=st.trans st2;obtain⟨ρ2,st4,hxs2⟩:=aLc st3 (ids:=idsL xs) hxs
     have hfin:act'.defers=[]/\∃v,(results fn act'.tmps).run E.P w'=.ok v w'/\∃v' ρ'' I'',Ending.returned v=.returned v'/\Step G h ρ w I (trim h.length h2 (dI h.length h2 (idsL xs)) xs).2 ρ'' w' I''/\AR (trim h.length h2 (dI h.length h2 (idsL xs)) xs).2 ρ'' w' I'' (tupA (trim h.length h2 (dI h.length h2 (idsL xs)) xs).1) v':=
      ⟨hdf,tupV us,aKg hus,tupV us,_,I2,rfl,st4,aSm hxs2⟩
     cases e<;>first|exact hfin|(simp[lV]at hleave)
    ·cases he
   ·cases he
  ·cases he
 ·cases he
def C7(G:Gnd)(P:Program)(f:FuncId)(g:List A->H->Option (A×H)):Prop:=j8 G P fun k args h=>if k=f then g args h else none
theorem aK2(hE:EnvOK E)(hp:∀f g,E.prim f=some g->C7 G E.P f g)(hd:∀call,j8 G E.P call->WT G E call){L:Nat}:∀n,j8 G E.P (aA E L n)
 |0=>by intro f args h x h' he;simp[aA]at he
 |n+1=>by
  intro f args h x h' he;simp only[aA]at he
  split at he
  ·rename_i g hg
   exact hp f g hg f args h x h' (by simpa using he)
  ·split at he
   ·rename_i fn hf
    split at he
    ·rename_i c hb
     split at he
     ·cases he
     ·rename_i hname
      have ih:=aK2 hE hp hd (L:=L) n;refine⟨⟨fn,hf,by rw[hb];rfl,by simpa using hname⟩,fun ρ w I vs r ha=> ?_⟩;exact aSd hE ih (hd _ ih) hf hb he r ha
    ·cases he
   ·cases he
end
end
end Ev
end Go.Proofs.YtahbdkmimmnadaaGreatDoor
