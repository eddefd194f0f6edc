/-
  Regions in the order of the text, code, bN, calls.
-/
import Derived.Test.YthlkcebdfbjdoaaGreatEvOps
namespace Go.Proofs.YthlkcebdfbjdoaaGreat
namespace Ev
variable{G:Gnd}
section
variable{E:Env}{call:aZ}
theorem aQs(hE:EnvOK E)(hc:kM G E.P call){h:H}{ρ:Rho}{w:World}{I:Nat->Prop}{thaw:List Nat}{o:Oper}{act:Act}{vs:List A}{x:A}{h':H}{ord:List Nat}{k:Nat}(he:jG E call thaw h o vs=some (x,h',ord,k))(r:Rel G h ρ w I)(ha:ARv h ρ w I vs ((opds o.op).map act.eval)):
  HH G E h ρ w I o act x h':=by
 unfold jG at he;simp only[]at he
 split at he
 ·rename_i a h1 hop
  split at he
  ·rename_i hlen
   have hlen:=hlen.1;cases he;have hn:=bW aG h (idsL vs) [] (by simp);have hl:=kG aG h (idsL vs) [] (by simp);have hr:=aAC r hn hl
   have hren:∀id k,aH (aD aG h (idsL vs) []) id=some k->jO h ρ w I id (pack h (aD aG h (idsL vs) [])) (sub (aD aG h (idsL vs) []) ρ) w I k:=fun id k hk=>
    mJ (fun o ho=>iZ (bE hk) ho) (by simp[sub,bE hk])
   have hl2:=MG hE hc hop hr (BC (lK w I) hren vs _ ha);intro K Q hK;refine hl2 K Q fun v ρ' w' I' s hx=> ?_;obtain⟨s2,refs⟩:=FG r hn hl hlen s;exact hK v _ w' I' s2 (CK (lK _ _) refs a v hx)
  ·cases he
 ·cases he
theorem WJ{h:H}{ρ:Rho}{w:World}{I:Nat->Prop}{ops:List Oper}{s:List A}{o:Oper}{b:Bool}{act:Act}(he:qO ops s o=some b)(hs:ARv h ρ w I s act.tmps.toList):Region.wanted o (yielded ops.toArray act.tmps)=b:=by
 unfold qO at he;unfold Region.wanted
 split at he
 ·grind
 ·rename_i j want hg
  rw[hg];simp only[]
  split at he
  ·cases he
  ·rename_i d hd
   have hd':(ops.toArray[j]?).bind (·.dst)=some d:=by grind
   have hy:∀a,s[d]? =some a->∃v,act.tmps[d]? =some v/\AR h ρ w I a v:=fun a ha=>by
    obtain⟨v,hv,hh⟩:=((eZ _ _).1 hs).2 d a ha;exact⟨v,by simpa using hv,hh⟩
   split at he
   ·rename_i c hc
    cases he;obtain⟨v,hv,hh⟩:=hy _ hc
    subst hh;unfold yielded;rw[hd'];simp only[Ct,hv]
    cases c<;>cases want<;>rfl
   ·rename_i hc
    cases he;obtain⟨v,hv,hh⟩:=hy _ hc
    subst hh;unfold yielded;rw[hd'];simp only[Ct,hv];rfl
   ·cases he
theorem II{h:H}{ρ:Rho}{w:World}{I:Nat->Prop}{s:List A}{act:Act}{dst:Option Tmp}{a:A}{v:Value}(hs:ARv h ρ w I s act.tmps.toList)(ha:AR h ρ w I a v):ARv h ρ w I (aPut s dst a) (act.put dst v).tmps.toList:=by
 cases dst with
 |none=>exact hs
 |some d=>
  simp only[aPut,Act.put,Array.toList_setIfInBounds];rw[eZ]at hs|-;refine⟨by simp[hs.1],fun k x hk=> ?_⟩;rw[Ch]at hk|-
  split at hk
  ·grind
  ·grind
theorem o8(act:Act)(dst:Option Tmp)(v:Value):(act.put dst v).defers=act.defers:=by
 cases dst<;>rfl
theorem aTO(hE:EnvOK E)(hc:kM G E.P call){h:H}{ρ:Rho}{w:World}{I:Nat->Prop}{thaw:List Nat}{ops:List Oper}{o:Oper}{s s':List A}{h':H}{act:Act}(he:C6 E call thaw ops o s h=some (s',h'))(r:Rel G h ρ w I)(hs:ARv h ρ w I s act.tmps.toList)
  (K:Act->World->Prop) (Q:Exit->Act->World->Prop) (hK:∀act' ρ' w' I',Step G h ρ w I h' ρ' w' I'->ARv h' ρ' w' I' s' act'.tmps.toList->act'.defers=act.defers->K act' w'):
  if Region.wanted o (yielded ops.toArray act.tmps)then o.wp E.P act w K Q else K (act.put o.dst undef) w:=by
 unfold C6 at he
 split at he
 ·rename_i hw
  rw[WJ hw hs,if_pos rfl]
  split at he
  ·rename_i vs hvs
   have ha:=SK hs hvs
   have fin:∀x,HH G E h ρ w I o act x h'->s'=aPut s o.dst x->o.wp E.P act w K Q:=fun x hl hs'=>
    hl K Q fun v ρ' w' I' s1 hx=>hK _ ρ' w' I' s1 (by rw[hs'];exact II (fY s1.ext s _ hs) hx) (o8 _ _ _)
   split at he
   ·split at he
    ·rename_i x h1 p hop
     cases he;exact fin x (aQs hE hc hop r ha) rfl
    ·cases he
   ·split at he
    ·rename_i x h1 hop
     cases he;exact fin x (MG hE hc hop r ha) rfl
    ·cases he
  ·cases he
 ·rename_i hw
  rw[WJ hw hs];cases he;exact hK _ ρ w I (.refl r) (II hs (by simp only[AR,DR])) (o8 _ _ _)
 ·cases he
theorem aNV(hE:EnvOK E)(hc:kM G E.P call){thaw:List Nat}{ops:List Oper}{Q:Exit->Act->World->Prop}:∀(rest:List Oper) {h:H} {ρ:Rho} {w:World} {I:Nat->Prop} {s s':List A} {h':H} {act:Act},y3 E call thaw ops rest s h=some (s',h')->Rel G h ρ w I->ARv h ρ w I s act.tmps.toList->
  (∀act' ρ' w' I',Step G h ρ w I h' ρ' w' I'->ARv h' ρ' w' I' s' act'.tmps.toList->act'.defers=act.defers->Q .normal act' w')->wpList E.P ops.toArray Q rest act w
 | [],h,ρ,w,I,s,s',h',act,he,r,hs,hQ=>by
  obtain⟨rfl,rfl⟩:=he;exact wpList_nil (hQ act ρ w I (.refl r) hs rfl)
 |o::rest,h,ρ,w,I,s,s',h',act,he,r,hs,hQ=>by
  simp only[y3]at he
  split at he
  ·rename_i s1 h1 hst
   refine wpList_step fun K hK=> ?_;refine aTO hE hc hst r hs K Q fun act' ρ' w' I' s2 hs2 hd=>hK _ _ ?_;exact aNV hE hc rest he s2.rel hs2 fun act2 ρ2 w2 I2 s3 hs3 hd3=>hQ act2 ρ2 w2 I2 (s2.trans s3) hs3 (hd3.trans hd)
  ·cases he
def RV(G:Gnd)(E:Env)(call:aZ):Prop:=∀(id:Nat) (thaw:List Nat) (ops:Array Oper) (s s':List A) (h h':H),mU E call thaw ops true s h=some (s',h')->∀(ρ:Rho) (w:World) (I:Nat->Prop) (act:Act),Rel G h ρ w I->ARv h ρ w I s act.tmps.toList->∀(Q:Exit->Act->World->Prop),
 (∀act' ρ' w' I',Step G h ρ w I h' ρ' w' I'->ARv h' ρ' w' I' s' act'.tmps.toList->act'.defers=act.defers->Q .normal act' w')->(Code.region id ops true).wp E.P Q act w
theorem aQc(hE:EnvOK E)(hc:kM G E.P call)(hd:RV G E call){id:Nat}{thaw:List Nat}{ops:Array Oper}{draw:Bool}{s s':List A}{h h':H}(he:mU E call thaw ops draw s h=some (s',h')){ρ:Rho}{w:World}{I:Nat->Prop}{act:Act}(r:Rel G h ρ w I)(hs:ARv h ρ w I s act.tmps.toList){Q:Exit->Act->World->Prop}
  (hQ:∀act' ρ' w' I',Step G h ρ w I h' ρ' w' I'->ARv h' ρ' w' I' s' act'.tmps.toList->act'.defers=act.defers->Q .normal act' w'):(Code.region id ops draw).wp E.P Q act w:=by
 cases draw with
 |true=>exact hd id thaw ops s s' h h' he ρ w I act r hs Q hQ
 |false=>
  refine wp_region_list ?_;have:=aNV hE hc (Q:=Q) ops.toList he r hs hQ
  simpa using this
theorem aD7{h:H}{ρ:Rho}{w:World}{I:Nat->Prop}:∀ {m:List Bool} {s:List A} {vs:List Value},ARv h ρ w I s vs->ARv h ρ w I (tidy m s) vs
 | [],s,vs,hs=>by simpa only[tidy]using hs
 |b::m,[],vs,hs=>by cases b<;>simpa only[tidy]using hs
 |b::m,a::s,vs,hs=>by
  obtain⟨v,rest,rfl,h1,h2⟩:=hs;cases b
  ·simp only[tidy,ARv];exact⟨v,rest,rfl,h1,aD7 h2⟩
  ·simp only[tidy,ARv];exact⟨v,rest,rfl,by simp only[AR],aD7 h2⟩
theorem aNs(n i:Nat)(l:List Nat)(h:i<n):(List.range n++l)[i]? =some i:=by grind
theorem aGI{nf:Nat}{h:H}{ids:List Nat}(hl:nf<=h.length):(dR nf h ids).Nodup/\(∀i∈dR nf h ids,i<h.length)/\∀i,i<nf->(dR nf h ids)[i]? =some i:=by
 unfold dR;refine⟨bW _ _ _ _ List.nodup_range,kG _ _ _ _ (fun i hi=>by have:=Ci.1 hi;omega),fun i hi=> ?_⟩;obtain⟨l,hl2⟩:=mO aG h (d6 (h.take nf)++ids) (List.range nf);rw[hl2];exact aNs nf i l hi
theorem TT(nf:Nat)(h:H):∀(l:H) (i k:Nat),(eG nf h i l)[k]? =(l[k]?).map (bZ nf h (i+k))
 | [],i,k=>by simp[eG]
 |o::os,i,k=>by
  cases k with
  |zero=>simp[eG]
  |succ k=>
   simp only[eG,At];rw[TT nf h os (i+1) k,show i+1+k=i+(k+1)from by omega]
theorem JM(nf:Nat)(h:H)(k:Nat):(cO nf h)[k]? =(h[k]?).map (bZ nf h k):=by
 unfold cO;rw[TT,Ag]
theorem aP5(nf:Nat)(h:H):(cO nf h).length=h.length:=by
 have:∀(l:H) (i:Nat),(eG nf h i l).length=l.length:=by
  intro l;induction l with
  |nil=>intro i;rfl
  |cons o os ih=>intro i;simp[eG,ih]
 exact this h 0
theorem aCV{nf:Nat}{h:H}:∀(cs:List A) (m:Nat),(aV nf h cs)[m]? =(cs[m]?).map (bL nf h)
 | [],m=>by simp[aV]
 |c::cs,m=>by cases m<;>simp[aV,aCV cs]
theorem aBR{nf:Nat}{h:H}:∀(cs:List A),(aV nf h cs).length=cs.length
 | []=>by simp[aV]
 |c::cs=>by simp[aV,aBR cs]
theorem PC(nf:Nat)(h:H)(i:Nat)(o:O):live (bZ nf h i o)↔live o:=by
 cases o<;>simp[live,bZ]
section calm
variable{h:H}{ρ:Rho}{w:World}{I:Nat->Prop}{nf:Nat}
theorem WH{id gen off len:Nat}{a:Option Addr}{cap:Nat}(hs:slOK h ρ w I id gen off len a cap)(g2:Nat)(hg:∀g,a8 h id=some g->(id<nf/\g2=gen)\/(¬id<nf/\gen=g/\g2=0))(hn:a8 h id=none->g2=gen):slOK (cO nf h) ρ w I id g2 off len a cap:=by
 unfold slOK at hs|-;rw[JM];unfold a8 at hg hn
 cases hid:h[id]? with
 |none=>grind
 |some o=>
  rw[hid]at hs hg hn
  cases o with
  |arr cs e g=>
   simp only[Ax,bZ]at hs|-
   rcases hg g rfl with⟨h1,h2⟩|⟨h1,h2,h3⟩
   ·grind
   ·grind
  |vec cs e g=>
   simp only[Ax,bZ,aBR]at hs|-
   rcases hg g rfl with⟨h1,h2⟩|⟨h1,h2,h3⟩
   ·grind
   ·grind
  |ice cs e g=>
   simp only[Ax,bZ]at hs|-
   rcases hg g rfl with⟨h1,h2⟩|⟨h1,h2,h3⟩
   ·grind
   ·grind
  |log cs=>
   rw[hn rfl];exact hs
  |box cs=>grind
  |mp es=>grind
  |void=>grind
theorem aKT{id b:Nat}(hs:mpOK h ρ id b):mpOK (cO nf h) ρ id b:=by
 unfold mpOK at hs|-;rw[JM]
 cases hid:h[id]? with
 |none=>grind
 |some o=>
  rw[hid]at hs
  cases o<;>first|exact hs.elim|exact hs
theorem WI{id gen b:Nat}(hs:ptOK h ρ w I id gen b)(g2:Nat)(hg:∀g,a8 h id=some g->(id<nf/\g2=gen)\/(¬id<nf/\gen=g/\g2=0))(hn:a8 h id=none->g2=gen):ptOK (cO nf h) ρ w I id g2 b:=by
 unfold ptOK at hs|-;rw[JM];unfold a8 at hg hn
 cases hid:h[id]? with
 |none=>grind
 |some o=>
  rw[hid]at hs hg hn
  cases o with
  |arr cs e g=>
   simp only[Ax,bZ]at hs|-
   rcases hg g rfl with⟨h1,h2⟩|⟨h1,h2,h3⟩
   ·grind
   ·grind
  |vec cs e g=>
   simp only[Ax,bZ]at hs|-
   rcases hg g rfl with⟨h1,h2⟩|⟨h1,h2,h3⟩
   ·grind
   ·grind
  |ice cs e g=>
   simp only[Ax,bZ]at hs|-
   rcases hg g rfl with⟨h1,h2⟩|⟨h1,h2,h3⟩
   ·grind
   ·grind
  |log cs=>
   rw[hn rfl];exact hs
  |box cs=>
   rw[hn rfl];exact hs
  |mp es=>grind
  |void=>grind
mutual
theorem aKQ:∀(a:A) (v:Value),AR h ρ w I a v->AR (cO nf h) ρ w I (bL nf h a) v
 |.d x,v,hh=>by simp only[AR,bL]at hh|-;exact hh
 |.sl id gen off len,v,hh=>by
  simp only[AR]at hh;obtain⟨a,cap,hv,ho⟩:=hh;simp only[bL,hY]
  by_cases hlt:id<nf
  ·rw[if_pos hlt];simp only[AR];exact⟨a,cap,hv,WH ho gen (fun g hg=>.inl ⟨hlt,rfl⟩) fun _=>rfl⟩
  ·rw[if_neg hlt]
   cases hgo:a8 h id with
   |none=>simp only[AR];exact⟨a,cap,hv,WH ho gen (fun g hg=>by rw[hgo]at hg;cases hg) fun _=>rfl⟩
   |some g=>
    by_cases he:gen=g
    ·simp only[if_pos he,AR];exact⟨a,cap,hv,WH ho 0 (fun g' hg=>.inr ⟨hlt,by rw[hgo]at hg;cases hg;exact he,rfl⟩) fun hn=>by rw[hgo]at hn;cases hn⟩
    ·simp only[if_neg he,AR]
 |.ptr id gen off,v,hh=>by
  simp only[AR]at hh;obtain⟨b,hv,ho⟩:=hh;simp only[bL,H9]
  by_cases hlt:id<nf
  ·rw[if_pos hlt];simp only[AR];exact⟨b,hv,WI ho gen (fun g hg=>.inl ⟨hlt,rfl⟩) fun _=>rfl⟩
  ·rw[if_neg hlt]
   cases hgo:a8 h id with
   |none=>simp only[AR];exact⟨b,hv,WI ho gen (fun g hg=>by rw[hgo]at hg;cases hg) fun _=>rfl⟩
   |some g=>
    by_cases he:gen=g
    ·simp only[if_pos he,AR];exact⟨b,hv,WI ho 0 (fun g' hg=>.inr ⟨hlt,by rw[hgo]at hg;cases hg;exact he,rfl⟩) fun hn=>by rw[hgo]at hn;cases hn⟩
    ·simp only[if_neg he,AR]
 |.mp id,v,hh=>by
  simp only[AR,bL]at hh|-;obtain⟨b,hv,ho⟩:=hh;exact⟨b,hv,aKT ho⟩
 |.clo g caps,v,hh=>by
  simp only[AR,bL]at hh|-;obtain⟨cv,hv,hc⟩:=hh;exact⟨cv,hv,IA caps _ hc⟩
 |.agg cs,v,hh=>by
  simp only[AR,bL]at hh|-;obtain⟨cv,hv,hc⟩:=hh;exact⟨cv,hv,IA cs _ hc⟩
 |.tup cs,v,hh=>by
  simp only[AR,bL]at hh|-;obtain⟨cv,hv,hc⟩:=hh;exact⟨cv,hv,IA cs _ hc⟩
 |.junk,v,_=>by simp only[AR,bL]
theorem IA:∀(as:List A) (vs:List Value),ARv h ρ w I as vs->ARv (cO nf h) ρ w I (aV nf h as) vs
 | [],vs,hh=>by simpa only[ARv,aV]using hh
 |a::as,vs,hh=>by
  simp only[ARv,aV]at hh|-;obtain⟨v,rest,hv,ha,hr⟩:=hh;exact⟨v,rest,hv,aKQ a v ha,IA as rest hr⟩
end
theorem aIo{cs:List A}{b:Nat}(hh:ARs h ρ w I cs b):ARs (cO nf h) ρ w I (aV nf h cs) b:=by
 intro m c hm;rw[aCV]at hm
 cases hc:cs[m]? with
 |none=>grind
 |some c0=>
  rw[hc]at hm;simp at hm;subst hm;obtain⟨v,hv,ha,hk⟩:=hh m c0 hc;exact⟨v,hv,aKQ c0 v ha,hk⟩
theorem aTI{i:Nat}{o:O}(ho:OR h ρ w I i o):OR (cO nf h) ρ w I i (bZ nf h i o):=by
 cases o with
 |arr cs e g=>simp only[OR,bZ]at ho|-;exact ho
 |box cs=>
  obtain⟨b,hb,hi,C,E,fz,h1,h2,h3⟩:=ho;exact⟨b,hb,hi,C,E,fz,h1,h2,aIo h3⟩
 |vec cs e g=>
  simp only[OR,bZ]at ho|-
  cases hρ:ρ i with
  |none=>rw[hρ]at ho;simp only at ho|-;subst ho;rfl
  |some b=>
   rw[hρ]at ho;obtain⟨hez,hi,C,E,fz,h1,h2,h3⟩:=ho;exact⟨hez,hi,C,E,fz,h1,h2,aIo h3⟩
 |log cs=>simp only[OR,bZ]at ho|-;exact ho
 |mp es=>simp only[OR,bZ]at ho|-;exact ho
 |ice cs e g=>simp only[OR,bZ]
 |void=>simp only[OR,bZ]
theorem J9{k:Nat}{o:O}(ho:(cO nf h)[k]? =some o):∃o',h[k]? =some o'/\o=bZ nf h k o':=by
 rw[JM]at ho;obtain⟨o',h1,h2⟩:=Aw.1 ho;exact⟨o',h1,h2.symm⟩
end calm
theorem aMT{h0:H}{ρ0:Rho}{w0:World}{I0:Nat->Prop}{h:H}{ρ:Rho}{w:World}{I:Nat->Prop}(s:Step G h0 ρ0 w0 I0 h ρ w I):Step G h0 ρ0 w0 I0 (cO h0.length h) ρ w I:=by
 have lt_sl:∀ {id gen off len a cap},slOK h0 ρ0 w0 I0 id gen off len a cap->id<h0.length:=fun {id gen off len a cap} hs=>by
  rcases Cq id h0.length with h|h
  ·exact h
  ·simp[slOK,Ck h]at hs
 have lt_pt:∀ {id gen b},ptOK h0 ρ0 w0 I0 id gen b->id<h0.length:=fun {id gen b} hs=>by
  rcases Cq id h0.length with h|h
  ·exact h
  ·simp[ptOK,Ck h]at hs
 refine⟨⟨fun k o ho=> ?_,fun k k' b o o' hb hb' ho ho' l1 l2=> ?_,s.rel.imm,s.rel.ground⟩,⟨s.ext.imm,fun id gen off len a cap hs=> ?_,fun id gen b hs=> ?_,fun id b hs=>aKT (s.ext.mp _ _ hs)⟩,s.keep,fun b hb=> ?_,by rw[aP5];exact s.len⟩
 ·obtain⟨o',h1,rfl⟩:=J9 ho;exact aTI (s.rel.obj k o' h1)
 ·obtain⟨o1,h1,rfl⟩:=J9 ho;obtain⟨o2,h2,rfl⟩:=J9 ho';exact s.rel.inj k k' b o1 o2 hb hb' h1 h2 ((PC _ _ _ _).1 l1) ((PC _ _ _ _).1 l2)
 ·exact WH (s.ext.sl _ _ _ _ _ _ hs) gen (fun g _=>.inl ⟨lt_sl hs,rfl⟩) fun _=>rfl
 ·exact WI (s.ext.pt _ _ _ hs) gen (fun g _=>.inl ⟨lt_pt hs,rfl⟩) fun _=>rfl
 ·obtain⟨k,o,hk,ho,hl⟩:=hb;obtain⟨o',h1,rfl⟩:=J9 ho;exact s.own b ⟨k,o',hk,h1,(PC _ _ _ _).1 hl⟩
theorem aKE{h0:H}{ρ0:Rho}{w0:World}{I0:Nat->Prop}{h:H}{ρ:Rho}{w:World}{I:Nat->Prop}(s:Step G h0 ρ0 w0 I0 h ρ w I){ids:List Nat}{sl:List A}{vs:List Value}(hs:ARv h ρ w I sl vs):
  ∃ρ',Step G h0 ρ0 w0 I0 (trim h0.length h (dR h0.length h ids) sl).2 ρ' w I/\ARv (trim h0.length h (dR h0.length h ids) sl).2 ρ' w I (trim h0.length h (dR h0.length h ids) sl).1 vs:=by
 obtain⟨h1,h2,h3⟩:=aGI (nf:=h0.length) (h:=h) (ids:=ids) s.len;obtain⟨s2,refs⟩:=aNY s h1 h2 h3;exact⟨_,aMT s2,IA _ _ (BC (lK w I) refs _ _ hs)⟩
theorem aLa{h0:H}{ρ0:Rho}{w0:World}{I0:Nat->Prop}{h:H}{ρ:Rho}{w:World}{I:Nat->Prop}(s:Step G h0 ρ0 w0 I0 h ρ w I){m:List Bool}{sl:List A}{vs:List Value}(hs:ARv h ρ w I sl vs):
  ∃ρ',Step G h0 ρ0 w0 I0 (gc h0.length m sl h).2 ρ' w I/\ARv (gc h0.length m sl h).2 ρ' w I (gc h0.length m sl h).1 vs:=by
 exact aKE s (aD7 hs)
def aPa(G:Gnd)(E:Env)(c:Code)(body:List A->H->Option (Exit×List A×H))(nf:Nat):Prop:=
 ∀(s:List A) (h:H) (e:Exit) (s':List A) (h':H),body s h=some (e,s',h')->∀(h0:H) (ρ0:Rho) (w0:World) (I0:Nat->Prop),h0.length=nf->∀(ρ:Rho) (w:World) (I:Nat->Prop) (act:Act),Step G h0 ρ0 w0 I0 h ρ w I->ARv h ρ w I s act.tmps.toList->act.defers=[]->
  ∀(Q:Exit->Act->World->Prop),(∀ρ' w' I' act',Step G h0 ρ0 w0 I0 h' ρ' w' I'->ARv h' ρ' w' I' s' act'.tmps.toList->act'.defers=[]->Q e act' w')->c.wp E.P Q act w
theorem aKO{c:Code}{body:List A->H->Option (Exit×List A×H)}{nf:Nat}(hb:aPa G E c body nf){m:List Bool}:∀(n:Nat) (s:List A) (h:H) (e:Exit) (s':List A) (h':H),rQ body nf m n s h=some (e,s',h')->e≠.normal/\
  ∀(h0:H) (ρ0:Rho) (w0:World) (I0:Nat->Prop),h0.length=nf->∀(ρ:Rho) (w:World) (I:Nat->Prop) (act:Act),Step G h0 ρ0 w0 I0 h ρ w I->ARv h ρ w I s act.tmps.toList->act.defers=[]->
  ∀(Q:Exit->Act->World->Prop),(∀ρ' w' I' act',Step G h0 ρ0 w0 I0 h' ρ' w' I'->ARv h' ρ' w' I' s' act'.tmps.toList->act'.defers=[]->Q e act' w')->Code.rounds E.P c Q n act w
 |0,_,_,_,_,_,he=>by simp[rQ]at he
 |n+1,s,h,e,s',h',he=>by
  simp only[rQ]at he
  split at he
  ·rename_i s1 h1 hbody
   obtain⟨hne,ih⟩:=aKO hb n _ _ _ _ _ he;refine⟨hne,fun h0 ρ0 w0 I0 hnf ρ w I act st hs hd Q hQ=> ?_⟩;refine hb s h .normal s1 h1 hbody h0 ρ0 w0 I0 hnf ρ w I act st hs hd _ fun ρ' w' I' act' st' hs' hd'=> ?_;subst hnf;obtain⟨ρ2,st2,hs2⟩:=aLa st' (m:=m) hs';exact ih h0 ρ0 w0 I0 rfl ρ2 w' I' act' st2 hs2 hd' Q hQ
  ·rename_i e1 s1 h1 hne hbody
   cases he;refine⟨hne,fun h0 ρ0 w0 I0 hnf ρ w I act st hs hd Q hQ=> ?_⟩
   refine hb s h e s1 h1 hbody h0 ρ0 w0 I0 hnf ρ w I act st hs hd _ fun ρ' w' I' act' st' hs' hd'=> ?_;subst hnf;obtain⟨ρ2,st2,hs2⟩:=aLa st' (m:=m) hs';have:=hQ ρ2 w' I' act' st2 hs2 hd'
   cases e<;>first|exact this|(exact absurd rfl hne)
  ·cases he
theorem s7(hE:EnvOK E)(hc:kM G E.P call)(hd:RV G E call){L nf:Nat}{thaw:List Nat}{live:List Bool}:∀c:Code,aPa G E c (cA E call L nf thaw live c) nf
 |.skip=>by
  intro s h e s' h' he h0 ρ0 w0 I0 hnf ρ w I act st hs hdf Q hQ;simp only[cA,Option.some.injEq,Prod.mk.injEq]at he;obtain⟨rfl,rfl,rfl⟩:=he;exact wp_skip (hQ ρ w I act st hs hdf)
 |.region id ops draw=>by
  intro s h e s' h' he h0 ρ0 w0 I0 hnf ρ w I act st hs hdf Q hQ;simp only[cA]at he
  split at he
  ·rename_i s1 h1 hr
   cases he;exact aQc hE hc hd hr st.rel hs fun act' ρ' w' I' st' hs' hd'=>hQ ρ' w' I' act' (st.trans st') hs' (hd'.trans hdf)
  ·cases he
 |.seq a b=>by
  intro s h e s' h' he h0 ρ0 w0 I0 hnf ρ w I act st hs hdf Q hQ;simp only[cA]at he;refine wp_seq ?_
  split at he
  ·rename_i s1 h1 ha
   refine s7 hE hc hd a s h .normal s1 h1 ha h0 ρ0 w0 I0 hnf ρ w I act st hs hdf _ fun ρ' w' I' act' st' hs' hd'=> ?_;exact s7 hE hc hd b s1 h1 e s' h' he h0 ρ0 w0 I0 hnf ρ' w' I' act' st' hs' hd' Q hQ
  ·rename_i hne
   refine s7 hE hc hd a s h e s' h' he h0 ρ0 w0 I0 hnf ρ w I act st hs hdf _ fun ρ' w' I' act' st' hs' hd'=> ?_;have:=hQ ρ' w' I' act' st' hs' hd'
   cases e<;>first|exact this|exact absurd he (hne s' h')
 |.cond c x y=>by
  intro s h e s' h' he h0 ρ0 w0 I0 hnf ρ w I act st hs hdf Q hQ;simp only[cA]at he
  split at he
  ·rename_i b hb
   have hv:act.eval c=.bool b:=by
    have:=aAS hb hs
    simpa only[AR,DR]using this
   refine wp_cond hv ?_
   cases b with
   |true=>
    simp only[if_true]at he|-;exact s7 hE hc hd x s h e s' h' he h0 ρ0 w0 I0 hnf ρ w I act st hs hdf Q hQ
   |false=>
    simp only[Ak,if_false]at he|-;exact s7 hE hc hd y s h e s' h' he h0 ρ0 w0 I0 hnf ρ w I act st hs hdf Q hQ
  ·cases he
 |.block id c=>by
  intro s h e s' h' he h0 ρ0 w0 I0 hnf ρ w I act st hs hdf Q hQ;simp only[cA]at he;refine wp_block ?_
  split at he
  ·rename_i k s1 h1 hb
   refine s7 hE hc hd c s h _ s1 h1 hb h0 ρ0 w0 I0 hnf ρ w I act st hs hdf _ fun ρ' w' I' act' st' hs' hd'=> ?_;simp only[Exit.inBlock]
   split at he
   ·rename_i hk
    cases he;rw[if_pos hk]
    exact hQ ρ' w' I' act' st' hs' hd'
   ·rename_i hk
    cases he;rw[if_neg hk]
    exact hQ ρ' w' I' act' st' hs' hd'
  ·rename_i hne
   refine s7 hE hc hd c s h e s' h' he h0 ρ0 w0 I0 hnf ρ w I act st hs hdf _ fun ρ' w' I' act' st' hs' hd'=> ?_;have:=hQ ρ' w' I' act' st' hs' hd'
   cases e<;>first|exact this|exact absurd he (hne _ s' h')
 |.loop c=>by
  intro s h e s' h' he h0 ρ0 w0 I0 hnf ρ w I act st hs hdf Q hQ;simp only[cA]at he;obtain⟨_,hl⟩:=aKO (s7 hE hc hd c) L _ _ _ _ _ he;refine wp_loop_rounds L ?_;subst hnf;obtain⟨ρ2,st2,hs2⟩:=aLa st (m:=m8 live s) hs;exact hl h0 ρ0 w0 I0 rfl ρ2 w I act st2 hs2 hdf Q hQ
 |.exit id=>by
  intro s h e s' h' he h0 ρ0 w0 I0 hnf ρ w I act st hs hdf Q hQ;simp only[cA,Option.some.injEq,Prod.mk.injEq]at he;obtain⟨rfl,rfl,rfl⟩:=he;exact wp_exit (hQ ρ w I act st hs hdf)
 |.ret=>by
  intro s h e s' h' he h0 ρ0 w0 I0 hnf ρ w I act st hs hdf Q hQ;simp only[cA,Option.some.injEq,Prod.mk.injEq]at he;obtain⟨rfl,rfl,rfl⟩:=he;exact wp_ret (hQ ρ w I act st hs hdf)
 |.rangeFunc _ _ _ _=>by intro s h e s' h' he;simp[cA]at he
 |.scope _=>by intro s h e s' h' he;simp[cA]at he
 |.label _=>by intro s h e s' h' he;simp[cA]at he
 |.goto _=>by intro s h e s' h' he;simp[cA]at he
 |.refuse _=>by intro s h e s' h' he;simp[cA]at he
end
end Ev
end Go.Proofs.YthlkcebdfbjdoaaGreat
