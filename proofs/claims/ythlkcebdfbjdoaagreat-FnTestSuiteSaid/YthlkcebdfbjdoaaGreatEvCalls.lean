/-
  Calls of functions with bodies.
-/
import Derived.Test.YthlkcebdfbjdoaaGreatEvCode
namespace Go.Proofs.YthlkcebdfbjdoaaGreat
namespace Ev
variable{G:Gnd}
section
variable{E:Env}{call:aZ}
theorem aK3{h:H}{ρ:Rho}{w:World}{I:Nat->Prop}{nf:Nat}{ex:Bool}{a x:A}{h1:H}{v:Value}(he:outS nf ex h a=some (x,h1))(r:Rel G h ρ w I)(ha:AR h ρ w I a v):
  ∃I',Step G h ρ w I h1 ρ w I'/\AR h1 ρ w I' x v:=by
 have frozen:∀(a:A),(frz deep h a).map (fun r=>(A.d r.1,r.2))=some (x,h1)->AR h ρ w I a v->∃I',Step G h ρ w I h1 ρ w I'/\AR h1 ρ w I' x v:=by
  intro a he ha;simp only[Aw]at he;obtain⟨⟨y,h2⟩,hf,hh⟩:=he;cases hh;obtain⟨I',s,d⟩:=NS deep h a y h2 hf ρ w I v r ha;exact⟨I',s,by simp only[AR];exact d⟩
 unfold outS at he
 split at he
 ·cases he;obtain⟨a,rfl⟩:=ha
  exact⟨I,.refl r,by simp only[AR,DR];exact⟨a,0,rfl,Ab _,.inl trivial⟩⟩
 ·cases he;exact⟨I,.refl r,ha⟩
 ·split at he
  ·cases he;exact⟨I,.refl r,ha⟩
  ·grind
 ·split at he
  ·cases he;exact⟨I,.refl r,ha⟩
  ·grind
 ·split at he
  ·cases he;exact⟨I,.refl r,ha⟩
  ·cases he
 ·split at he
  ·cases he;exact⟨I,.refl r,ha⟩
  ·grind
 ·grind
theorem aHW{nf:Nat}{ex:Bool}{ρ:Rho}{w:World}:∀(as:List A) {h:H} {I:Nat->Prop} {xs:List A} {h1:H} {vs:List Value},BJ nf ex h as=some (xs,h1)->Rel G h ρ w I->ARv h ρ w I as vs->
  ∃I',Step G h ρ w I h1 ρ w I'/\ARv h1 ρ w I' xs vs
 | [],h,I,xs,h1,vs,he,r,ha=>by
  obtain⟨rfl,rfl⟩:=he;exact⟨I,.refl r,ha⟩
 |a::as,h,I,xs,h1,vs,he,r,ha=>by
  simp only[BJ]at he
  split at he
  ·rename_i x h2 hx
   split at he
   ·rename_i xs' h3 hxs
    cases he;obtain⟨v,rest,rfl,hav,hrest⟩:=f0 ha
    obtain⟨I1,s1,d1⟩:=aK3 hx r hav;obtain⟨I2,s2,d2⟩:=aHW as hxs s1.rel (fY s1.ext as rest hrest);exact⟨I2,s1.trans s2,by simp only[ARv];exact⟨v,rest,rfl,iS s2.ext x v d1,d2⟩⟩
   ·cases he
  ·cases he
theorem aT3{h:H}{ρ:Rho}{w:World}{I:Nat->Prop}{nf:Nat}{ex:Bool}{a x:A}{h1:H}{v:Value}(he:outA nf ex h a=some (x,h1))(r:Rel G h ρ w I)(ha:AR h ρ w I a v):
  ∃I',Step G h ρ w I h1 ρ w I'/\AR h1 ρ w I' x v:=by
 unfold outA at he
 split at he
 ·simp only[Aw]at he;obtain⟨⟨xs,h2⟩,hf,hh⟩:=he;cases hh;obtain⟨C,rfl,hc⟩:=ha;obtain⟨I',s,d⟩:=aHW _ hf r hc;exact⟨I',s,by simp only[AR];exact⟨C,rfl,d⟩⟩
 ·exact aK3 he r ha
theorem aIO{nf:Nat}{ex:Bool}{ρ:Rho}{w:World}:∀(as:List A) {h:H} {I:Nat->Prop} {xs:List A} {h1:H} {vs:List Value},oT nf ex h as=some (xs,h1)->Rel G h ρ w I->ARv h ρ w I as vs->
  ∃I',Step G h ρ w I h1 ρ w I'/\ARv h1 ρ w I' xs vs
 | [],h,I,xs,h1,vs,he,r,ha=>by
  obtain⟨rfl,rfl⟩:=he;exact⟨I,.refl r,ha⟩
 |a::as,h,I,xs,h1,vs,he,r,ha=>by
  simp only[oT]at he
  split at he
  ·rename_i x h2 hx
   split at he
   ·rename_i xs' h3 hxs
    cases he;obtain⟨v,rest,rfl,hav,hrest⟩:=f0 ha
    obtain⟨I1,s1,d1⟩:=aT3 hx r hav;obtain⟨I2,s2,d2⟩:=aIO as hxs s1.rel (fY s1.ext as rest hrest);exact⟨I2,s1.trans s2,by simp only[ARv];exact⟨v,rest,rfl,iS s2.ext x v d1,d2⟩⟩
   ·cases he
  ·cases he
theorem aQB{P:Program}{h:H}{ρ:Rho}{w:World}{I:Nat->Prop}{t:TypeId}{a x:A}{v:Value}(he:BX P h t a=some x)(r:Rel G h ρ w I)(ha:AR h ρ w I a v):∃p,v=.pointer (some p):=by
 unfold BX at he
 split at he
 ·rename_i run b hrun _
  obtain⟨bl,o,hv,_⟩:=aIZ hrun r ha;exact⟨_,hv⟩
 ·cases he
theorem aKn{h:H}{ρ:Rho}{w:World}{I:Nat->Prop}{s:List A}{act:Act}(hs:ARv h ρ w I s act.tmps.toList)(t:Nat):AR h ρ w I (s.getD t (.d .undef)) (act.tmps.getD t undef):=
 aAS (x:=.tmp t) rfl hs
def tupV:List Value->Value
 | [v]=>v
 |vs=>.tuple vs.toArray
theorem aUO{h:H}{ρ:Rho}{w:World}{I:Nat->Prop}{xs:List A}{vs:List Value}(ha:ARv h ρ w I xs vs):AR h ρ w I (tupA xs) (tupV vs):=by
 cases xs with
 |nil=>
  simp only[ARv]at ha;subst ha;exact⟨#[],rfl,by simp[ARv]⟩
 |cons a as=>
  obtain⟨v,rest,rfl,h1,h2⟩:=f0 ha
  cases as with
  |nil=>simp only[ARv]at h2;subst h2;exact h1
  |cons b bs=>
   obtain⟨u,rest2,rfl,h3,h4⟩:=f0 h2;exact⟨_,rfl,by simpa using ha⟩
def aDe(tmps:Array Value):ResultVar->Sem Value
 |.tmp t=>pure (tmps.getD t undef)
 |.cell a t=>do loadVar t (<-asAddr (tmps.getD a undef))
theorem aCw{h:H}{ρ:Rho}{w:World}{I:Nat->Prop}{s:List A}{act:Act}(r:Rel G h ρ w I)(hs:ARv h ρ w I s act.tmps.toList):∀(rs:List ResultVar) (xs:List A),lL E.P s h rs=some xs->
  ∃vs,(rs.mapM (aDe act.tmps)).run E.P w=.ok vs w/\ARv h ρ w I xs vs
 | [],xs,he=>by
  simp only[lL,Option.some.injEq]at he;subst he;exact⟨[],by simp,by simp only[ARv]⟩
 |rv::rs,xs,he=>by
  simp only[lL]at he
  split at he
  ·rename_i a as ha has
   cases he;obtain⟨vs,h1,h2⟩:=aCw r hs rs as has
   cases rv with
   |tmp t=>
    simp only[F4,Option.some.injEq]at ha;subst ha;refine⟨act.tmps.getD t undef::vs,?_,by simp only[ARv];exact⟨_,_,rfl,aKn hs t,h2⟩⟩;simp only[List.mapM_cons,Sem.run_bind,aDe,Sem.run_pure,Result.andThen_ok,h1]
   |cell b t=>
    have hb:=aKn hs b;obtain⟨p,hp⟩:=aQB ha r hb;obtain⟨u,hu,hx⟩:=aKd ha r hb;rw[hp]at hu;simp only[Instr.loadAt,Instr.sureAddr,Sem.run_bind,Sem.run_pure,Result.andThen_ok]at hu;refine⟨u::vs,?_,by simp only[ARv];exact⟨_,_,rfl,hx,h2⟩⟩;simp only[List.mapM_cons,Sem.run_bind,aDe,hp,asAddr,Sem.run_pure,Result.andThen_ok,hu,h1]
  ·cases he
theorem aJN{fn:Func}{tmps:Array Value}{P:Program}{w:World}{vs:List Value}(h:(fn.results.toList.mapM (aDe tmps)).run P w=.ok vs w):(results fn tmps).run P w=.ok (tupV vs) w:=by
 have e:results fn tmps=(do
  let vs<-fn.results.mapM (aDe tmps)
  pure (if h:vs.size=1 then vs[0]else .tuple vs)):=rfl
 rw[e,Array.mapM_eq_mapM_toList];simp only[Sem.run_bind,Sem.run_map,h]
 cases vs with
 |nil=>rfl
 |cons a as=>cases as<;>rfl
theorem aFj{h:H}{ρ:Rho}{w:World}{I:Nat->Prop}:∀n,ARv h ρ w I (List.replicate n (.d .undef)) (List.replicate n undef)
 |0=>by simp[ARv]
 |n+1=>by
  exact⟨undef,_,rfl,by simp only[AR,DR],aFj n⟩
theorem aTy(hE:EnvOK E)(hc:kM G E.P call)(hd:RV G E call){L:Nat}{f:FuncId}{fn:Func}{c:Code}(hf:E.P.funcs[f]? =some fn)(hb:fn.body=some c){args:List A}{h:H}{x:A}{h':H}(he:GN E call L f fn c args h=some (x,h'))
  {ρ:Rho} {w:World} {I:Nat->Prop} {vs:List Value} (r:Rel G h ρ w I) (ha:ARv h ρ w I args vs):
  Calls E.P f vs.toArray w fun e w'=>∃v ρ' I',e=.returned v/\Step G h ρ w I h' ρ' w' I'/\AR h' ρ' w' I' x v:=by
 unfold GN at he
 split at he
 ·rename_i e s h1 hcode
  split at he
  ·rename_i hleave
   split at he
   ·rename_i rs hres
    split at he
    ·rename_i xs h2 hout
     cases he;refine calls_of_wp hf hb ?_
     have hlen:=gM ha
     have hs:ARv h ρ w I (args++List.replicate (fn.ntmps-args.length) (.d .undef)) (vs.toArray++Array.replicate (fn.ntmps-vs.toArray.size) undef).toList:=by
      have:=sM ha (aFj (h:=h) (ρ:=ρ) (w:=w) (I:=I) (fn.ntmps-args.length))
      simpa [hlen]using this
     refine s7 hE hc hd c _ h e s h1 hcode h ρ w I rfl ρ w I _ (.refl r) hs rfl _ fun ρ' w' I' act' st hs' hdf=> ?_;obtain⟨us,hus,hrs⟩:=aCw (E:=E) st.rel hs' fn.results.toList rs hres;obtain⟨I2,st2,hxs⟩:=aIO rs hout st.rel hrs;have st3:=st.trans st2;obtain⟨ρ2,st4,hxs2⟩:=aKE st3 (ids:=idsL xs) hxs
     have hfin:act'.defers=[]/\∃v,(results fn act'.tmps).run E.P w'=.ok v w'/\∃v' ρ'' I'',Ending.returned v=.returned v'/\Step G h ρ w I (trim h.length h2 (dR h.length h2 (idsL xs)) xs).2 ρ'' w' I''/\AR (trim h.length h2 (dR h.length h2 (idsL xs)) xs).2 ρ'' w' I'' (tupA (trim h.length h2 (dR h.length h2 (idsL xs)) xs).1) v':=
      ⟨hdf,tupV us,aJN hus,tupV us,_,I2,rfl,st4,aUO hxs2⟩
     cases e<;>first|exact hfin|(simp[fI]at hleave)
    ·cases he
   ·cases he
  ·cases he
 ·cases he
def xU(G:Gnd)(P:Program)(f:FuncId)(g:List A->H->Option (A×H)):Prop:=kM G P fun k args h=>if k=f then g args h else none
theorem aKk(hE:EnvOK E)(hp:∀f g,E.prim f=some g->xU G E.P f g)(hd:∀call,kM G E.P call->RV G E call){L:Nat}:∀n,kM G E.P (aA E L n)
 |0=>by intro f args h x h' he;simp[aA]at he
 |n+1=>by
  intro f args h x h' he;simp only[aA]at he
  split at he
  ·rename_i g hg
   exact hp f g hg f args h x h' (by simpa using he)
  ·split at he
   ·rename_i fn hf
    split at he
    ·rename_i c hb
     split at he
     ·cases he
     ·rename_i hname
      have ih:=aKk hE hp hd (L:=L) n;refine⟨⟨fn,hf,by rw[hb];rfl,by simpa using hname⟩,fun ρ w I vs r ha=> ?_⟩;exact aTy hE ih (hd _ ih) hf hb he r ha
    ·cases he
   ·cases he
end
end Ev
end Go.Proofs.YthlkcebdfbjdoaaGreat
