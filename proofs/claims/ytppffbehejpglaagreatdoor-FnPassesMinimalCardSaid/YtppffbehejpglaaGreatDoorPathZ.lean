/-
  Products as the reference searches them, walked: the search of a product of automata.
-/
import Derived.Test.YtppffbehejpglaaGreatDoorNetV
import Derived.Test.YtppffbehejpglaaGreatDoorAutG
set_option linter.unusedSimpArgs false
set_option linter.unusedVariables false
set_option linter.unusedSectionVars false
set_option maxRecDepth 8000
set_option maxHeartbeats 4000000
namespace Go.Proofs.YtppffbehejpglaaGreatDoor
namespace Ev
def gEnd(tab:List (List (List Int)))(dist ls:List Int):Nat->List Int->List Int
 |0,at_=>at_
 |d+1,at_=>gEnd tab dist ls d (S6 tab dist at_ d (ls.length+1) 0).2
theorem aGp{tab:List (List (List Int))}{dist ls at_:List Int}{d:Int}(h:∃e,e<ls.length/\bL tab dist e d at_ []≠[]):∃e,e<ls.length/\S6 tab dist at_ d (ls.length+1) 0=(e,bL tab dist e d at_ [])/\bL tab dist e d at_ []≠[]/\∀f,f<e->bL tab dist f d at_ []=[]:=by
 obtain⟨e0,h1,h2⟩:=h;obtain⟨e,_,_,g1,g2,g3⟩:=aHo (tab:=tab) (dist:=dist) (at_:=at_) (d:=d) (ls.length+1) 0 ⟨e0,by omega,by omega,h2⟩;refine⟨e,?_,g1,g2,fun f hf=>g3 f om hf⟩
 by_cases hlt:e0<e
 ·exact(h2 (g3 e0 om hlt)).elim
 ·omega
theorem aBG{R:Type}{L n:Nat}(hn:6<=n)(hL:2^60<=L){c2 c3 c5 c6:D}{al:Int}{zs ls dist:List Int}{tab:List (List (List Int))}{aN i6:Nat}{i9:Int}(ht:D7 tab aN)(hd:dist.length=aN)(htt:aN<=65536)(hkk:∀kk,kk<ls.length->∀i,i<aN->kk<(tab.getD i []).length/\((tab.getD i []).getD kk []).length<=4096)(hls:ls.length<=6)(hlr:∀c∈ls,0<=c/\c<=5){Q:Nat->List Int->Prop}
  (hQ:∀d at_,Q (d+1) at_->at_.length<=65536/\(∀x∈at_,0<=x/\x<aN)/\(∃e,e<ls.length/\bL tab dist e d at_ []≠[])/\∀e,e<ls.length->bL tab dist e d at_ []≠[]->Q d (bL tab dist e d at_ [])) {k:KE R}:∀(j:Nat) (d:Int) (m:Nat) (at_:List Int) (o:List UInt8) (hj:(j:Int)=d) (hm:j<m) (hd1:d<=16777300) (hat:Q j at_) (ho:o.length+j<=100000000),
  aT env (aA env L n) L 0 [] Bz1 (eB 2) Bz17 m (Y1 (.ptr 0 0 0::.d (.str [])::.d (.bool false)::.d (.ivs zs.length (ints zs))::nI aN::nI i6::.d (.ivs tab.length (tabD tab))::.sl 1 0 0 dist.length::nI i9::.d (.ivs at_.length (ints at_))::.d (.ivs ls.length (ints ls))::.d (.str o)::nI d::Y32 (Y32 (Y16 (Y8 (Y4 (Y1 ([])))))))) [.box [.sl 2 0 0 0,.d c2,.d c3,nI al,.d c5,.d c6],.ice (ints dist) 1 0,.ice [] 0 0] k
  =k (.exit 4) (Y1 (.ptr 0 0 0::.d (.str [])::.d (.bool false)::.d (.ivs zs.length (ints zs))::nI aN::nI i6::.d (.ivs tab.length (tabD tab))::.sl 1 0 0 dist.length::nI i9::.d (.ivs (gEnd tab dist ls j at_).length (ints (gEnd tab dist ls j at_)))::.d (.ivs ls.length (ints ls))::.d (.str ((o++txt (oM tab dist ls j at_))))::nI 0::Y32 (Y32 (Y16 (Y8 (Y4 (Y1 ([])))))))) [.box [.sl 2 0 0 0,.d c2,.d c3,nI al,.d c5,.d c6],.ice (ints dist) 1 0,.ice [] 0 0]:=by
 intro j
 induction j with
 |zero=>
  intro d m at_ o hj hm hd1 hat ho;obtain _|m:=m;omega;obtain rfl:d=0:=om;simp only[gEnd,oM,txt,As,Ai]
  simp-implicitDefEqProofs (maxSteps:=9^7) (disch:=try exact Dz) only[↓DN,↓kRet,UP,simprocAttr,Ah,qO,qX,Tryz.f118]
 |succ j ih=>
  intro d m at_ o hj hm hd1 hat ho;obtain _|m:=m;omega;obtain⟨q1,q2,q3,q4⟩:=hQ j at_ hat;obtain⟨e,e1,e2,e3,e4⟩:=aGp q3;have hd0:0<d:=om;have hat2:=q4 e e1 e3;have hj:(j:Int)=d-1:=om;simp only[gEnd,oM,e2];rw[hj]at hat2|-;have kc_c:=fun {R:Type} {n:Nat} {k:KA R} (hn:4<=n)=> @kP R env (aA env L n) [.box [.sl 2 0 0 0,.d c2,.d c3,nI al,.d c5,.d c6],.ice (ints dist) 1 0,.ice [] 0 0] [.ice (ints dist) 1 0] [.ice (ints dist) 1 0] [.box [.sl 2 0 0 0,.d c2,.d c3,nI al,.d c5,.d c6],.ice (ints dist) 1 0,.ice [] 0 0] 141 [.d (.ivs tab.length (tabD tab)),.sl 1 0 0 dist.length,.d (.ivs at_.length (ints at_)),nI ((0:Nat):Int),nI (d-1)] [.d (.ivs tab.length (tabD tab)),.d (.ivs dist.length (ints dist)),.d (.ivs at_.length (ints at_)),nI ((0:Nat):Int),nI (d-1)] _ k [1] [1] j9 rfl kr rfl (by simp[d8,frzA,frz,frz0,aG,mapA,aJ,deep,dG,cK]) rfl (@xR L n hn hL tab dist at_ (d-1) 0 aN ht hd htt q1 q2 (hkk 0 om)) rfl smp rfl;have loop_c:=fun {R:Type} {n:Nat} (hn:5<=n) {k:KE R}=> @aBL R L n hn hL c2 c3 c5 c6 al d zs ls dist at_ o tab aN i6 e i9 ht hd htt q1 q2 hkk om om hls e1 (by rw[<-hj];exact e3) k e 0 L om om (fun f _ h=>by rw[<-hj];exact e4 f h);simp only[Ap]at kc_c loop_c;obtain⟨l0,l5⟩:=hlr _ (lR e1);have hc:(e:Int)<ls.length:=om;have he0:(0:Int)<=e:=om;have ih':=ih (d-1) m (bL tab dist e (d-1) at_ []) (o++[bU (ls.getD e 0)]) hj om om hat2 (by simp;omega);simp only[txt,Aj,Ao,Ax,Aq]at ih'|-;clear ih hkk ht hQ hat hat2 q2 q3 q4 e2 e3 e4 hlr;generalize bL tab dist e (d-1) at_ []=w at *
  generalize bL tab dist 0 (d-1) at_ []=w0 at *
  simp-implicitDefEqProofs (maxSteps:=9^7) (disch:=try exact Dz) only[↓DN,↓kAsg,↓kRet,UP,simprocAttr,↓QG,hc,he0,hd0,↓kc_c,↓loop_c,↓ih',qO,qX,Tryz.f118]
theorem aBY{R:Type}{L n m:Nat}{c2 c3 c5 c6:D}{al:Int}{zs ls dist:List Int}{tab:List (List (List Int))}{aN i6:Nat}{i9:Int}{d:Int}{o:List UInt8}{at_:List Int}(hd:¬0<d){k:KE R}:
  aT env (aA env L n) L 0 [] Bz1 (eB 2) Bz17 (m+1) (Y1 (.ptr 0 0 0::.d (.str [])::.d (.bool false)::.d (.ivs zs.length (ints zs))::nI aN::nI i6::.d (.ivs tab.length (tabD tab))::.sl 1 0 0 dist.length::nI i9::.sl 2 0 0 at_.length::.d (.ivs ls.length (ints ls))::.d (.str o)::nI d::Y32 (Y32 (Y16 (Y8 (Y4 (Y1 ([])))))))) [.box [.sl 3 0 0 0,.d c2,.d c3,nI al,.d c5,.d c6],.arr (ints dist) 1 0,.arr (ints at_) 1 0,.ice [] 0 0] k
  =k (.exit 4) (Y1 (.ptr 0 0 0::.d (.str [])::.d (.bool false)::.d (.ivs zs.length (ints zs))::nI aN::nI i6::.d (.ivs tab.length (tabD tab))::.sl 1 0 0 dist.length::nI i9::.sl 2 0 0 at_.length::.d (.ivs ls.length (ints ls))::.d (.str o)::nI d::Y32 (Y32 (Y16 (Y8 (Y4 (Y1 ([])))))))) [.box [.sl 3 0 0 0,.d c2,.d c3,nI al,.d c5,.d c6],.arr (ints dist) 1 0,.arr (ints at_) 1 0,.ice [] 0 0]:=by
 simp-implicitDefEqProofs (maxSteps:=9^7) (disch:=try exact Dz) only[↓DN,↓kRet,UP,simprocAttr,hd,qO,qX,Tryz.f118]
theorem aBD{R:Type}{L n:Nat}(hn:6<=n)(hL:2^60<=L){c2 c3 c5 c6:D}{al:Int}{zs ls dist:List Int}{tab:List (List (List Int))}{aN i6:Nat}{i9:Int}(ht:D7 tab aN)(hd:dist.length=aN)(htt:aN<=65536)(hkk:∀kk,kk<ls.length->∀i,i<aN->kk<(tab.getD i []).length/\((tab.getD i []).getD kk []).length<=4096)(hls:ls.length<=6)(hlr:∀c∈ls,0<=c/\c<=5){Q:Nat->List Int->Prop}
  (hQ:∀d at_,Q (d+1) at_->at_.length<=65536/\(∀x∈at_,0<=x/\x<aN)/\(∃e,e<ls.length/\bL tab dist e d at_ []≠[])/\∀e,e<ls.length->bL tab dist e d at_ []≠[]->Q d (bL tab dist e d at_ [])) {k:KE R} (j:Nat) (d:Int) (m:Nat) (at_:List Int) (o:List UInt8) (hj:((j+1:Nat):Int)=d) (hm:j+1<m) (hd1:d<=16777300) (hat:Q (j+1) at_) (ho:o.length+(j+1)<=100000000):
  aT env (aA env L n) L 0 [] Bz1 (eB 2) Bz17 m (Y1 (.ptr 0 0 0::.d (.str [])::.d (.bool false)::.d (.ivs zs.length (ints zs))::nI aN::nI i6::.d (.ivs tab.length (tabD tab))::.sl 1 0 0 dist.length::nI i9::.sl 2 0 0 at_.length::.d (.ivs ls.length (ints ls))::.d (.str o)::nI d::Y32 (Y32 (Y16 (Y8 (Y4 (Y1 ([])))))))) [.box [.sl 3 0 0 0,.d c2,.d c3,nI al,.d c5,.d c6],.arr (ints dist) 1 0,.arr (ints at_) 1 0,.ice [] 0 0] k
  =k (.exit 4) (Y1 (.ptr 0 0 0::.d (.str [])::.d (.bool false)::.d (.ivs zs.length (ints zs))::nI aN::nI i6::.d (.ivs tab.length (tabD tab))::.sl 1 0 0 dist.length::nI i9::.d (.ivs (gEnd tab dist ls (j+1) at_).length (ints (gEnd tab dist ls (j+1) at_)))::.d (.ivs ls.length (ints ls))::.d (.str ((o++txt (oM tab dist ls (j+1) at_))))::nI 0::Y32 (Y32 (Y16 (Y8 (Y4 (Y1 ([])))))))) [.box [.sl 2 0 0 0,.d c2,.d c3,nI al,.d c5,.d c6],.ice (ints dist) 1 0,.ice [] 0 0]:=by
  obtain _|m:=m;omega;obtain⟨q1,q2,q3,q4⟩:=hQ j at_ hat;obtain⟨e,e1,e2,e3,e4⟩:=aGp q3;have hd0:0<d:=om;have hat2:=q4 e e1 e3;have hj:(j:Int)=d-1:=om;simp only[gEnd,oM,e2];rw[hj]at hat2|-;have kc_c:=fun {R:Type} {n:Nat} {k:KA R} (hn:4<=n)=> @kP R env (aA env L n) [.box [.sl 3 0 0 0,.d c2,.d c3,nI al,.d c5,.d c6],.arr (ints dist) 1 0,.arr (ints at_) 1 0,.ice [] 0 0] [.arr (ints dist) 1 0,.arr (ints at_) 1 0] [.ice (ints dist) 1 0,.ice (ints at_) 1 0] [.box [.sl 3 0 0 0,.d c2,.d c3,nI al,.d c5,.d c6],.ice (ints dist) 1 0,.ice (ints at_) 1 0,.ice [] 0 0] 141 [.d (.ivs tab.length (tabD tab)),.sl 1 0 0 dist.length,(.sl 2 0 0 at_.length),nI ((0:Nat):Int),nI (d-1)] [.d (.ivs tab.length (tabD tab)),.d (.ivs dist.length (ints dist)),.d (.ivs at_.length (ints at_)),nI ((0:Nat):Int),nI (d-1)] _ k [1,2] [1,2] j9 rfl kr rfl (by simp[d8,frzA,frz,frz0,aG,mapA,aJ,deep,dG,cK]) rfl (@xR L n hn hL tab dist at_ (d-1) 0 aN ht hd htt q1 q2 (hkk 0 om)) rfl smp rfl;have loop_c:=fun {R:Type} {n:Nat} (hn:5<=n) {k:KE R}=> @aBF R L n hn hL c2 c3 c5 c6 al d zs ls dist at_ o tab aN i6 e i9 ht hd htt q1 q2 hkk om om hls e1 (by rw[<-hj];exact e3) k e 0 L om om (fun f _ h=>by rw[<-hj];exact e4 f h);simp only[Ap]at kc_c loop_c;obtain⟨l0,l5⟩:=hlr _ (lR e1);have hc:(e:Int)<ls.length:=om;have he0:(0:Int)<=e:=om
  have ih':=fun {R:Type} {n:Nat} (hn:6<=n) {k:KE R}=> @aBG R L n hn hL c2 c3 c5 c6 al zs ls dist tab aN i6 i9 ht hd htt hkk hls hlr Q hQ k j (d-1) m (bL tab dist e (d-1) at_ []) (o++[bU (ls.getD e 0)]) hj om om hat2 (by simp;omega);simp only[txt,Aj,Ao,Ax,Aq]at ih'|-;clear hkk ht hQ hat hat2 q2 q3 q4 e2 e3 e4 hlr;generalize bL tab dist e (d-1) at_ []=w at *;generalize bL tab dist 0 (d-1) at_ []=w0 at *
  simp-implicitDefEqProofs (maxSteps:=9^7) (disch:=try exact Dz) only[↓DN,↓kAsg,↓kRet,UP,simprocAttr,↓QG,hc,he0,hd0,↓kc_c,↓loop_c,↓ih',qO,qX,Tryz.f118]
section
theorem dX:∀ {N:Nat} {l:List Int},l.Nodup->(∀x∈l,0<=x/\x<N)->l.length<=N
 |0,l,_,hr=>by
  cases l with
  |nil=>exact Ab _
  |cons x l=>have:=hr x Bd;omega
 |N+1,l,hn,hr=>by
  by_cases h:(N:Int)∈l
  ·have h1:=dX (N:=N) (l:=l.erase (N:Int)) (hn.erase (N:Int)) (fun x hx=>by
    rw[hn.mem_erase_iff]at hx;have:=hr x hx.2;omega)
   rw[List.length_erase_of_mem h]at h1;omega
  ·have h1:=dX (N:=N) hn (fun x hx=>by
    have:=hr x hx;have:x≠N:=fun e=>h (e▸hx);omega)
   omega
theorem TL{dist:List Int}{d:Int}:∀(ms out:List Int),out.Nodup->(addC dist d ms out).Nodup
 | [],out,h=>h
 |m::ms,out,h=>by
  unfold addC
  split
  ·rename_i hc
   refine TL ms _ ?_;rw[Dm];exact⟨h,by simp,fun a ha b hb=>by simp at hb;subst hb;exact fun e=>hc.2 (e▸ha)⟩
  ·exact TL ms out h
theorem YE{tab:List (List (List Int))}{dist:List Int}{k:Nat}{d:Int}:∀(vs out:List Int),out.Nodup->(bL tab dist k d vs out).Nodup
 | [],out,h=>h
 |v::vs,out,h=>YE vs _ (TL _ _ h)
section
variable{nx:Int->Int->List Int}{gl:Int->Bool}{ls:List Int}{aN:Nat}{tab:List (List (List Int))}
theorem aWS:aFk nx ls gl aN ((List.range aN).map (dM gl)) 0:=by
 refine⟨by simp,fun i hi=> ?_⟩
 have e:((List.range aN).map (dM gl)).getD i 0=dM gl i:=by
  rw[Aa,Bh,List.getElem?_range hi];rfl
 rw[e]
 by_cases hg:gl i=true
 ·refine .inl ⟨0,Ab _,by unfold dM;rw[if_pos hg];rfl,aAU.2 hg,fun e he=>by omega⟩
 ·refine .inr ⟨by unfold dM;rw[if_neg hg],fun e he ha=> ?_⟩;obtain rfl:e=0:=om;exact hg (aAU.1 ha)
theorem aU1(ht:Tab nx ls aN tab):Full nx ls gl aN (dC tab (aN+1) 1 ((List.range aN).map (dM gl))):=by
 have:=aSf ht (aN+1) 0 ((List.range aN).map (dM gl)) aWS (by
  have:=List.countP_le_length (p:=fun(x:Int)=>decide (x<0)) (l:=(List.range aN).map (dM gl));simp at this|-;omega)
 simpa using this
theorem TS{d B:Int}(hd:d<=B):∀(j i:Nat) (q:List Int×Bool),(∀x∈q.1,x<=B)->∀x∈(dH tab d j i q).1,x<=B
 |0,_,q,h=>h
 |j+1,i,q,h=>by
  simp only[dH]
  split
  ·refine TS hd j _ _ fun x hx=> ?_
   rcases Dy hx with hx|rfl
   ·exact h x hx
   ·exact hd
  ·exact TS hd j _ q h
theorem aGQ{B:Int}:∀(j:Nat) (d:Int) (dist:List Int),d+j<=B+1->(∀x∈dist,x<=B)->∀x∈dC tab j d dist,x<=B
 |0,d,dist,_,h=>h
 |j+1,d,dist,hd,h=>by
  have hr:=TS (tab:=tab) (d:=d) (B:=B) om dist.length 0 (dist,false) h;simp only[dC]
  split
  ·exact aGQ j (d+1) _ om hr
  ·exact hr
def Qs(nx:Int->Int->List Int)(ls:List Int)(gl:Int->Bool)(aN d:Nat)(at_:List Int):Prop:=(∀v∈at_,(0<=v/\v<aN)/\Far nx ls gl v d)/\at_≠[]/\at_.length<=aN
theorem aV8(ht:Tab nx ls aN tab){dist:List Int}(hf:Full nx ls gl aN dist)(htt:aN<=65536):∀d at_,Qs nx ls gl aN (d+1) at_->at_.length<=65536/\(∀x∈at_,0<=x/\x<aN)/\(∃e,e<ls.length/\bL tab dist e d at_ []≠[])/\∀e,e<ls.length->bL tab dist e d at_ []≠[]->Qs nx ls gl aN d (bL tab dist e d at_ []):=by
 intro d at_ ⟨h1,h2,h3⟩
 have hmem:∀k x,k<ls.length->(x∈bL tab dist k d at_ []↔∃v∈at_,x∈nx v (ls.getD k 0)/\(0<=x/\x<aN)/\Far nx ls gl x d):=by
  intro k x hk;rw[S7];simp only[Bv,false_or];have hl:ls.getD k 0∈ls:=by rw[Aa,Ad hk];exact At hk
  constructor
  ·rintro⟨v,hv,g1,g2⟩;have hr:=(h1 v hv).1;rw[aBn ht hr.1 hr.2 hk]at g1;have hx:=ht.rng v _ hr.1 hr.2 hl x g1;exact⟨v,hv,g1,hx,(LF hf hx.1 hx.2).1 g2⟩
  ·rintro⟨v,hv,g1,g2,g3⟩;have hr:=(h1 v hv).1;refine⟨v,hv,?_,(LF hf g2.1 g2.2).2 g3⟩;rw[aBn ht hr.1 hr.2 hk];exact g1
 refine⟨by omega,fun x hx=>(h1 x hx).1,?_,?_⟩
 ·obtain⟨v,hv⟩:=List.exists_mem_of_ne_nil _ h2;obtain⟨hr,hfar⟩:=h1 v hv;obtain⟨l,hl,m,hm,hfm⟩:=TF hfar;obtain⟨e,he,rfl⟩:=Bz hl;refine⟨e,he,fun hc=> ?_⟩;have hl2:ls.getD e 0=ls[e]:=by rw[Aa,Ad he];rfl
  have:m∈bL tab dist e d at_ []:=(hmem e m he).2 ⟨v,hv,by rw[hl2];exact hm,ht.rng v _ hr.1 hr.2 hl m hm,hfm⟩;rw[hc]at this;cases this
 ·intro e he hne;refine⟨fun x hx=> ?_,hne,?_⟩
  ·obtain⟨v,hv,g1,g2,g3⟩:=(hmem e x he).1 hx;exact⟨g2,g3⟩
  ·refine dX (YE _ _ smp) fun x hx=> ?_;obtain⟨v,hv,g1,g2,g3⟩:=(hmem e x he).1 hx;exact g2
end
def movT(nx:Int->Int->List Int)(ls:List Int)(aN:Nat):List (List (List Int)):=(List.range aN).map fun(v:Nat)=>ls.map (nx v)
def aBs(nx:Int->Int->List Int)(gl:Int->Bool)(ls:List Int)(aN:Nat)(s:Int):List Int×Bool:=
 aGI (movT nx ls aN) ls (dC (movT nx ls aN) (aN+1) 1 ((List.range aN).map (dM gl))) s
theorem aDo{nx:Int->Int->List Int}{ls:List Int}{aN:Nat}(hr:∀v c:Int,0<=v->v<aN->c∈ls->∀m∈nx v c,0<=m/\m<aN):Tab nx ls aN (movT nx ls aN):=by
 refine⟨by simp[movT],fun v hv=> ?_,hr⟩;rw[movT,Aa,Bh,List.getElem?_range hv];rfl
theorem aNk{nx:Int->Int->List Int}{gl:Int->Bool}{ls:List Int}{aN:Nat}{s:Int}(hr:∀v c:Int,0<=v->v<aN->c∈ls->∀m∈nx v c,0<=m/\m<aN)(ha:ls.Pairwise (·<·))(h0:0<=s)(h1:s<aN):ED (Hits nx ls [s] gl) (aBs nx gl ls aN s):=
 aUF (aDo hr) (aU1 (aDo hr)) ha h0 h1
theorem YC{L n:Nat}(hn:11<=n)(hL:2^60<=L){n2:Nat}{d2:List D}{kd go:Int}{al s:Int}{start zs:List Int}{nx:Int->Int->List Int}{gl:Int->Bool}{tt:Nat}(hzl:zs.length<=1000)(hsl:start.length=zs.length)(hpr:∀i,i<=zs.length->0<=(zs.take i).foldl (·*·) 1/\(zs.take i).foldl (·*·) 1<=65536)(hzt:zs.foldl (·*·) (1:Int)=(tt:Int))(hzp:∀z∈zs,0<z/\z<=65536)(hen:S0 zs start 0)(hes:encN zs start 0=s)(hs0:0<=s)(hs1:s<tt)
  (he_z:∀ {n:Nat},2<=n->aA env L n 135 [.agg [.d (.ivs 0 []),.d (.ivs n2 d2),.d (.ivs start.length (ints start)),nI al,nI kd,nI go]] []=some (.d (.ivs zs.length (ints zs)),[]))
  (kc_x:∀(v:Nat) (l:Int),v<tt->l∈aB al->∀ {R:Type} {n:Nat} {hq:H} {k:KA R},7<=n->aX env (aA env L n) hq 150 [.agg [.d (.ivs 0 []),.d (.ivs n2 d2),.d (.ivs start.length (ints start)),nI al,nI kd,nI go],.d (.ivs zs.length (ints zs)),.d (.ivs zs.length (ints (decN zs v))),nI l] k=k (.d (.ivs (nx v l).length (ints (nx v l)))) hq)
  (kl_x:∀(v:Nat),v<tt->∀ {R:Type} {n:Nat} {k:A->Option R},2<=n->xW (aA env L n) 137 [.agg [.d (.ivs 0 []),.d (.ivs n2 d2),.d (.ivs start.length (ints start)),nI al,nI kd,nI go],.d (.ivs zs.length (ints (decN zs v))),.d (.ivs ((movT nx (aB al) tt).getD v []).length (aE ((movT nx (aB al) tt).getD v [])))] k=k (.d (.bool (gl v))))
  (hw:∀v c:Int,0<=v->v<tt->c∈aB al->(nx v c).length<=4096/\∀m∈nx v c,0<=m/\m<tt):
  aA env L n 118 [.agg [.d .nils,.d (.ivs n2 d2),.d (.ivs start.length (ints start)),nI al,nI kd,nI go]] []=some (.tup [.d (.str (txt (aBs nx gl (aB al) tt s).1)),.d (.bool (aBs nx gl (aB al) tt s).2)],[]):=by
 have htt:tt<=65536:=by have:=(hpr zs.length (Ab _)).2;rw[Cu,hzt]at this;omega
 have hrng:∀v c:Int,0<=v->v<tt->c∈aB al->∀m∈nx v c,0<=m/\m<tt:=fun v c h1 h2 h3=>(hw v c h1 h2 h3).2;have hT:=aDo hrng;have hF:=aU1 (gl:=gl) hT;have hq:=aV8 hT hF htt;have hls:=bO al;have hTl:(movT nx (aB al) tt).length=tt:=by simp[movT]
 have hTin:D7 (movT nx (aB al) tt) tt:=by
  refine⟨hTl,fun i hi=> ?_⟩;rw[hT.row i hi];refine⟨by simp;omega,fun r hr=> ?_⟩;obtain⟨c,hc,rfl⟩:=Av.1 hr;have:=hw i c om om hc;exact⟨by omega,this.2⟩
 have hkk:∀kk,kk<(aB al).length->∀i,i<tt->kk<((movT nx (aB al) tt).getD i []).length/\(((movT nx (aB al) tt).getD i []).getD kk []).length<=4096:=by
  intro kk hk i hi;rw[hT.row i hi];refine⟨by simpa using hk,?_⟩;rw[Aa,Bh,Ad hk];exact(hw i _ om om (At hk)).1
 have kc_z:=fun {R:Type} {n:Nat} (hn:2<=n) {k:KA R}=> @kP R env (aA env L n) [.arr [] 0 0,.box [.sl 0 0 0 0,.d (.ivs n2 d2),.d (.ivs start.length (ints start)),nI al,nI kd,nI go]] [.arr [] 0 0] [.ice [] 0 0] [.ice [] 0 0,.box [.sl 0 0 0 0,.d (.ivs n2 d2),.d (.ivs start.length (ints start)),nI al,nI kd,nI go]] 135 [.agg [.sl 0 0 0 0,.d (.ivs n2 d2),.d (.ivs start.length (ints start)),nI al,nI kd,nI go]] [.agg [.d (.ivs 0 []),.d (.ivs n2 d2),.d (.ivs start.length (ints start)),nI al,nI kd,nI go]] _ k [0] [0] DP rfl kr rfl rfl rfl (he_z hn) rfl smp rfl;have loop_a:=fun {R:Type} {n:Nat} (hn:1<=n) {k:KE R}=> @aDt R L n hn (.ivs n2 d2) (.ivs start.length (ints start)) (.int .i64 kd) (.int .i64 go) al zs hzl hpr k zs.length 0 L om om;have kc_m:=fun {R:Type} {n:Nat} (hn:9<=n) {k:KA R}=> @kP R env (aA env L n) [.box [.sl 1 0 0 0,.d (.ivs n2 d2),.d (.ivs start.length (ints start)),nI al,nI kd,nI go],.ice [] 0 0] [.ice [] 0 0] [.ice [] 0 0] [.box [.sl 1 0 0 0,.d (.ivs n2 d2),.d (.ivs start.length (ints start)),nI al,nI kd,nI go],.ice [] 0 0] 136 [.agg [.sl 1 0 0 0,.d (.ivs n2 d2),.d (.ivs start.length (ints start)),nI al,nI kd,nI go],.d (.ivs zs.length (ints zs)),nI tt] [.agg [.d (.ivs 0 []),.d (.ivs n2 d2),.d (.ivs start.length (ints start)),nI al,nI kd,nI go],.d (.ivs zs.length (ints zs)),nI tt] _ k [1] [1] C7 rfl kr rfl rfl rfl (aLY hn hL hzl htt hzp kc_x) rfl smp rfl
 have loop_b:=fun {R:Type} {n:Nat} (hn:4<=n) {k:KE R}=> @aEA R L n hn hL (.ivs n2 d2) (.ivs start.length (ints start)) (.int .i64 kd) (.int .i64 go) al zs (movT nx (aB al) tt) tt zs.length gl hzl htt hzp hTl kl_x k tt 0 L (List.replicate tt 0) tt om om rfl smp;have hd0:((List.range tt).map (dM gl)).length=tt:=smp;have hd1:(dC (movT nx (aB al) tt) (tt+1) 1 ((List.range tt).map (dM gl))).length=tt:=hF.1;have kc_d:∀ {R:Type} {n:Nat} (hn:4<=n) {k:KA R},aX env (aA env L n) [.box [.sl 2 0 0 0,.d (.ivs n2 d2),.d (.ivs start.length (ints start)),nI al,nI kd,nI go],.arr (ints ((List.range tt).map (dM gl))) 1 0,.ice [] 0 0] 139 [.d (.ivs (movT nx (aB al) tt).length (tabD (movT nx (aB al) tt))),.sl 1 0 0 ((List.range tt).map (dM gl)).length] k=k (.tup []) [.box [.sl 2 0 0 0,.d (.ivs n2 d2),.d (.ivs start.length (ints start)),nI al,nI kd,nI go],.arr (ints (dC (movT nx (aB al) tt) (tt+1) 1 ((List.range tt).map (dM gl)))) 1 0,.ice [] 0 0]:=fun {R n} hn {k}=>aAh (id:=1) rfl rfl GJ rfl (aNZ hn hL hTin htt _ hd0);have kc_e:=fun {R:Type} {n:Nat} (hn:2<=n) {hq:H} {k:KA R}=> @aKp R L n hq k hn zs start hzl hsl hen hL
 have hQ0:0<=(dC (movT nx (aB al) tt) (tt+1) 1 ((List.range tt).map (dM gl))).getD s.toNat 0->Qs nx (aB al) gl tt ((dC (movT nx (aB al) tt) (tt+1) 1 ((List.range tt).map (dM gl))).getD s.toNat 0).toNat [s]:=by
  intro h;refine⟨fun v hv=> ?_,by simp,by simp;omega⟩;simp at hv;subst hv;exact⟨⟨hs0,hs1⟩,(LF hF hs0 hs1).1 om⟩
 have hdb:(dC (movT nx (aB al) tt) (tt+1) 1 ((List.range tt).map (dM gl))).getD s.toNat 0<=16777300:=by
  have hk:s.toNat<(dC (movT nx (aB al) tt) (tt+1) 1 ((List.range tt).map (dM gl))).length:=om;refine aGQ (B:=16777300) _ _ _ om (fun x hx=> ?_) _ (lR hk);obtain⟨v,_,rfl⟩:=Av.1 hx;unfold dM
  split<;>omega
 simp only[Ap,List.take_zero,List.foldl_nil,Aq,hzt,<-List.range_eq_range']at loop_a loop_b;rw[hes]at kc_e;have em:(List.range tt).map (fun(x:Nat)=>(aB al).map (nx x))=movT nx (aB al) tt:=rfl;rw[em]at kc_m;rw[hTl]at kc_d loop_b;rw[hd0]at kc_d;unfold aBs aGI;have loop_2:=fun {R:Type} {n:Nat} (hn:6<=n) {k:KE R} (j:Nat) (hj) (hm) (h1) (h2) (h3)=> @aBD R L n hn hL (.ivs n2 d2) (.ivs start.length (ints start)) (.int .i64 kd) (.int .i64 go) al zs (aB al) _ _ tt zs.length tt hTin hd1 htt hkk hls (fun c hc=>b9 c hc) _ hq k j ((dC (movT nx (aB al) tt) (tt+1) 1 ((List.range tt).map (dM gl))).getD s.toNat 0) L [s] [] hj hm h1 h2 h3;rw[hTl,hd1]at loop_2;clear hkk hTin kl_x kc_x he_z hw hrng
 have hgt0:0<(dC (movT nx (aB al) tt) (tt+1) 1 ((List.range tt).map (dM gl))).getD s.toNat 0->Qs nx (aB al) gl tt (((dC (movT nx (aB al) tt) (tt+1) 1 ((List.range tt).map (dM gl))).getD s.toNat 0).toNat-1+1) [s]:=by
  intro h;have h2:=hQ0 om;rw[show((dC (movT nx (aB al) tt) (tt+1) 1 ((List.range tt).map (dM gl))).getD s.toNat 0).toNat-1+1=((dC (movT nx (aB al) tt) (tt+1) 1 ((List.range tt).map (dM gl))).getD s.toNat 0).toNat by omega];exact h2
 have loop_2:=fun {R:Type} {n:Nat} (hn:6<=n) {k:KE R} (h:0<(dC (movT nx (aB al) tt) (tt+1) 1 ((List.range tt).map (dM gl))).getD s.toNat 0)=>loop_2 (R:=R) (n:=n) hn (k:=k) (((dC (movT nx (aB al) tt) (tt+1) 1 ((List.range tt).map (dM gl))).getD s.toNat 0).toNat-1) om om hdb (hgt0 h) (by simp only[Ac];omega);clear hT hF hq hQ0 hgt0;generalize dC (movT nx (aB al) tt) (tt+1) 1 ((List.range tt).map (dM gl))=dist at *;generalize movT nx (aB al) tt=tab at *;generalize(List.range tt).map (dM gl)=dz at *;have hrep:(List.replicate tt (0:Int)).length=tt:=smp;have hsn:s.toNat<dist.length:=om;have hs2:s<(dist.length:Int):=om;have hs3:s<(tt:Int):=om;have htt0:(0:Int)<=tt:=om;have esn:ints [s]=[.int .i64 s]:=rfl;have e1:[s].length=1:=rfl;rw[esn,e1]at loop_2;have loop_z:=fun {R:Type} {n m:Nat} {k:KE R} (h:¬0<dist.getD s.toNat 0)=> @aBY R L n m (.ivs n2 d2) (.ivs start.length (ints start)) (.int .i64 kd) (.int .i64 go) al zs (aB al) dist tab tt zs.length tt (dist.getD s.toNat 0) [] [s] h k;rw[hTl,hd1,esn,e1]at loop_z;generalize hdd:dist.getD s.toNat 0=d at *;obtain _|L:=L;omega
 rcases Int.lt_trichotomy d 0 with hlt|heq|hgt
 ·have loop_z:=fun {R:Type} {n m:Nat} {k:KE R}=>loop_z (R:=R) (n:=n) (m:=m) (k:=k) om;have hne:¬d=0:=om;rw[if_pos hlt];clear loop_2;obtain _|n:=n;omega
  simp-implicitDefEqProofs (maxSteps:=9^7) (disch:=try exact Dz) only[↓DN,↓kAsg,↓kRet,UP,simprocAttr,↓gJ,↓kc_z,↓loop_a,↓kc_m,↓tL,↓loop_b,↓kc_d,↓kc_e,↓loop_z,hdd,hne,hs0,hs3,LS,EE,Tryz.f118]<;>rfl
 ·subst heq;have loop_z:=fun {R:Type} {n m:Nat} {k:KE R}=>loop_z (R:=R) (n:=n) (m:=m) (k:=k) om;rw[if_neg om];clear loop_2;obtain _|n:=n;omega
  simp-implicitDefEqProofs (maxSteps:=9^7) (disch:=try exact Dz) only[↓DN,↓kAsg,↓kRet,UP,simprocAttr,↓gJ,↓kc_z,↓loop_a,↓kc_m,↓tL,↓loop_b,↓kc_d,↓kc_e,↓loop_z,hdd,hs0,hs3,LS,EE,Tryz.f118]<;>rfl
 ·have loop_y:=fun {R:Type} {n:Nat} (hn:6<=n) {k:KE R}=>loop_2 (R:=R) (n:=n) hn (k:=k) hgt;rw[if_neg om];simp only[Aq]at loop_y;have ed:d.toNat-1+1=d.toNat:=om;rw[ed]at loop_y;clear loop_2 loop_z;generalize gEnd tab dist (aB al) d.toNat [s]=ge at *;generalize oM tab dist (aB al) d.toNat [s]=gr at *;obtain _|n:=n;omega
  simp-implicitDefEqProofs (maxSteps:=9^7) (disch:=try exact Dz) only[↓DN,↓kAsg,↓kRet,UP,simprocAttr,↓gJ,↓kc_z,↓loop_a,↓kc_m,↓tL,↓loop_b,↓kc_d,↓kc_e,↓loop_y,hdd,hs0,hs3,LS,EE,Tryz.f118]
end
section
def addU(out:List Int)(x:Int):List Int:=if x∈out then out else out++[x]
def rowU(out r:List Int):List Int:=r.foldl addU out
section
variable(go:Int->Int->Int)(ls:List Int)
def ordB:Nat->Nat->List Int->List Int
 |0,_,out=>out
 |j+1,i,out=>if i<out.length then ordB j (i+1) (rowU out (ls.map (go (out.getD i 0))))else out
structure Bfs(n i:Nat)(done out:List Int)(W:Nat->List Int):Prop where
 pos:0<out.length
 w0:W 0=[]
 o0:out.getD 0 0=0
 nod:out.Nodup
 rng:∀x∈out,0<=x/\x<n
 run:∀k,k<out.length->(W k).foldl go 0=out.getD k 0
 lts:∀k,k<out.length->∀l∈W k,l∈ls
 asc:∀j k,j<k->k<out.length->slt (W j) (W k)
 pre:∀k,0<k->k<out.length->∃p l,p<k/\l∈ls/\W k=W p++[l]/\(p<i\/p=i/\l∈done)
 clo:∀p l,p<out.length->l∈ls->(p<i\/p=i/\l∈done)->∃q,q<out.length/\out.getD q 0=go (out.getD p 0) l/\¬slt (W p++[l]) (W q)
variable{go ls}{n:Nat}
theorem aSB{x y:List Int}(h:slt x y):¬slt y x:=fun k=>aHT x (N5 h k)
theorem Bfs.front{i:Nat}{done out rest:List Int}{W:Nat->List Int}{l:Int}(h:Bfs go ls n i done out W)(ha:Asc ls)(hd:ls=done++l::rest)(hi:i<out.length):∀k,k<out.length->slt (W k) (W i++[l]):=by
 intro k hk
 rcases Dk k with rfl|hk0
 ·rw[h.w0];exact .inl smp
 ·obtain⟨p,m,hp,hm,e,hpi⟩:=h.pre k hk0 hk;rw[e,TJ]
  rcases hpi with hpi|⟨rfl,hmd⟩
  ·exact .inl (h.asc p i hpi hi)
  ·refine .inr ⟨rfl,?_⟩;rw[hd]at ha;exact(List.pairwise_append.1 ha).2.2 m hmd l Bd
theorem aT1(out:List Int)(x:Int):out.length<=(addU out x).length:=by
 unfold addU;split<;>simp
theorem aTy{out:List Int}{x:Int}{i:Nat}(hi:i<out.length):(addU out x).getD i 0=out.getD i 0:=by
 unfold addU
 split
 ·rfl
 ·exact kC hi
theorem Bfs.step{i:Nat}{done out rest:List Int}{W:Nat->List Int}{l v:Int}(h:Bfs go ls n i done out W)(ha:Asc ls)(hd:ls=done++l::rest)(hi:i<out.length)(hv:out.getD i 0=v)(hx:0<=go v l/\go v l<n):
  ∃W',Bfs go ls n i (done++[l]) (addU out (go v l)) W':=by
 have hf:=h.front ha hd hi;have hl:l∈ls:=by rw[hd];simp
 have hmem:∀ {m:Int},m∈done++[l]↔m∈done\/m=l:=by intro m;simp
 unfold addU
 by_cases hin:go v l∈out
 ·rw[if_pos hin];refine⟨W,h.pos,h.w0,h.o0,h.nod,h.rng,h.run,h.lts,h.asc,?_,?_⟩
  ·intro k h0 hk;obtain⟨p,m,a,b,c,d⟩:=h.pre k h0 hk;refine⟨p,m,a,b,c,?_⟩
   rcases d with d|⟨d,e⟩
   ·exact .inl d
   ·exact .inr ⟨d,hmem.2 (.inl e)⟩
  ·intro p m hp hm hpi
   rcases hpi with hpi|⟨rfl,hpi⟩
   ·exact h.clo p m hp hm (.inl hpi)
   ·rcases hmem.1 hpi with hpi|rfl
    ·exact h.clo p m hp hm (.inr ⟨rfl,hpi⟩)
    ·obtain⟨q,hq,e⟩:=Bz hin;refine⟨q,hq,?_,aSB (hf q hq)⟩;rw[hv,Aa,Ad hq,e];rfl
 ·rw[if_neg hin];have hlen:(out++[go v l]).length=out.length+1:=smp;have hnew:(out++[go v l]).getD out.length 0=go v l:=by rw[Aa];simp
  have hne:∀ {k},k<out.length->¬k=out.length:=om;refine⟨fun k=>if k=out.length then W i++[l]else W k,by simp,?_,?_,?_,?_,?_,?_,?_,?_,?_⟩
  ·have:=h.pos;rw[if_neg om];exact h.w0
  ·rw[kC h.pos];exact h.o0
  ·rw[Dm];refine⟨h.nod,by simp,?_⟩;intro a ha' b hb e;simp at hb;subst hb;subst e;exact hin ha'
  ·intro x hx'
   rcases Ak.1 hx' with hx'|hx'
   ·exact h.rng x hx'
   ·simp at hx';subst hx';exact hx
  ·intro k hk;rw[hlen]at hk
   by_cases hk2:k=out.length
   ·subst hk2;rw[if_pos rfl,hnew,Ek,h.run i hi,hv];rfl
   ·rw[if_neg hk2,kC om];exact h.run k om
  ·intro k hk m hm;rw[hlen]at hk
   by_cases hk2:k=out.length
   ·rw[if_pos hk2]at hm
    rcases Ak.1 hm with hm|hm
    ·exact h.lts i hi m hm
    ·simp at hm;subst hm;exact hl
   ·rw[if_neg hk2]at hm;exact h.lts k om m hm
  ·intro j k hjk hk;rw[hlen]at hk;rw[if_neg (by omega:¬j=out.length)]
   by_cases hk2:k=out.length
   ·rw[if_pos hk2];exact hf j om
   ·rw[if_neg hk2];exact h.asc j k hjk om
  ·intro k h0 hk;rw[hlen]at hk
   by_cases hk2:k=out.length
   ·refine⟨i,l,by omega,hl,?_,.inr ⟨rfl,hmem.2 (.inr rfl)⟩⟩;rw[if_pos hk2,if_neg (hne hi)]
   ·obtain⟨p,m,a,b,c,d⟩:=h.pre k h0 om;refine⟨p,m,a,b,?_,?_⟩
    ·rw[if_neg hk2,if_neg (by omega:¬p=out.length)];exact c
    ·rcases d with d|⟨d,e⟩
     ·exact .inl d
     ·exact .inr ⟨d,hmem.2 (.inl e)⟩
  ·intro p m hp hm hpi;rw[hlen]at hp
   have old:∀p m,p<out.length->m∈ls->(p<i\/p=i/\m∈done)->∃q,q<(out++[go v l]).length/\(out++[go v l]).getD q 0=go ((out++[go v l]).getD p 0) m/\¬slt ((if p=out.length then W i++[l]else W p)++[m]) (if q=out.length then W i++[l]else W q):=by
    intro p m hp hm hpi;obtain⟨q,hq,e,hs⟩:=h.clo p m hp hm hpi;refine⟨q,by omega,?_,?_⟩
    ·rw[kC hq,kC hp];exact e
    ·rw[if_neg (hne hp),if_neg (hne hq)];exact hs
   rcases hpi with hpi|⟨rfl,hpi⟩
   ·exact old p m om hm (.inl hpi)
   ·rcases hmem.1 hpi with hpi|rfl
    ·exact old p m hi hm (.inr ⟨rfl,hpi⟩)
    ·refine⟨out.length,by omega,?_,?_⟩
     ·rw[hnew,kC hi,hv]
     ·rw[if_neg (hne hi),if_pos rfl];exact aHT _
theorem Bfs.row{i:Nat}{v:Int}(ha:Asc ls)(hv:∀l∈ls,0<=go v l/\go v l<n):∀(rest done out:List Int) (W:Nat->List Int),Bfs go ls n i done out W->ls=done++rest->i<out.length->out.getD i 0=v->∃W',Bfs go ls n i ls (rowU out (rest.map (go v))) W'/\out.length<=(rowU out (rest.map (go v))).length
 | [],done,out,W,h,hd,hi,ho=>by
  rw[Ai]at hd;subst hd;exact⟨W,h,Ab _⟩
 |l::rest,done,out,W,h,hd,hi,ho=>by
  obtain⟨W1,h1⟩:=h.step ha hd hi ho (hv l (by rw[hd];simp));have hl:=aT1 out (go v l);obtain⟨W2,h2,h3⟩:=Bfs.row ha hv rest (done++[l]) _ W1 h1 (by rw[hd];simp) (Dp hi hl) (by rw[aTy hi];exact ho);exact⟨W2,h2,Bp hl h3⟩
theorem Bfs.next{i:Nat}{out:List Int}{W:Nat->List Int}(h:Bfs go ls n i ls out W):Bfs go ls n (i+1) [] out W:=by
 refine⟨h.pos,h.w0,h.o0,h.nod,h.rng,h.run,h.lts,h.asc,?_,?_⟩
 ·intro k h0 hk;obtain⟨p,m,a,b,c,d⟩:=h.pre k h0 hk;exact⟨p,m,a,b,c,.inl om⟩
 ·intro p l hp hl hpi;refine h.clo p l hp hl ?_
  rcases hpi with hpi|⟨_,hpi⟩
  ·by_cases e:p=i
   ·exact .inr ⟨e,hl⟩
   ·exact .inl om
  ·simp at hpi
theorem aPl(ha:Asc ls)(hgo:∀v l:Int,0<=v->v<n->l∈ls->0<=go v l/\go v l<n):∀(j i:Nat) (out:List Int) (W:Nat->List Int),Bfs go ls n i [] out W->i<=out.length->n<i+j->∃W',Bfs go ls n (ordB go ls j i out).length [] (ordB go ls j i out) W'
 |0,i,out,W,h,hi,hj=>by
  have:=dX h.nod h.rng;omega
 |j+1,i,out,W,h,hi,hj=>by
  unfold ordB
  by_cases hlt:i<out.length
  ·rw[if_pos hlt]
   have hm:out.getD i 0∈out:=by
    rw[Aa,Ad hlt];exact At hlt
   obtain⟨r0,r1⟩:=h.rng _ hm;obtain⟨W1,h1,h2⟩:=Bfs.row ha (fun l hl=>hgo _ l r0 r1 hl) ls [] out W h rfl hlt rfl;exact aPl ha hgo j (i+1) _ W1 h1.next om om
  ·rw[if_neg hlt];obtain rfl:i=out.length:=om;exact⟨W,h⟩
theorem Bfs.start(hn:0<n):Bfs go ls n 0 [] [0] (fun _=>[]):=by
 refine⟨by simp,rfl,rfl,by simp,?_,?_,?_,?_,?_,?_⟩
 ·intro x hx;simp at hx;subst hx;omega
 ·intro k hk;simp at hk;subst hk;rfl
 ·intro k hk l hl;cases hl
 ·intro j k h1 h2;simp at h2;omega
 ·intro k h1 h2;simp at h2;omega
 ·intro p l hp hl h
  rcases h with h|⟨_,h⟩
  ·omega
  ·simp at h
theorem Bfs.least{out:List Int}{W:Nat->List Int}(h:Bfs go ls n out.length [] out W):∀(c:Nat) (w:List Int),w.length=c->(∀l∈w,l∈ls)->∃q,q<out.length/\out.getD q 0=w.foldl go 0/\¬slt w (W q):=by
 intro c
 induction c with
 |zero=>
  intro w hw _;have:w=[]:=Bw.1 hw;subst this;exact⟨0,h.pos,h.o0,by rw[h.w0];exact aHT _⟩
 |succ c ih=>
  intro w hw hl
  rcases TR w with rfl|⟨u,l,rfl⟩
  ·simp at hw
  ·obtain⟨p,hp,e,hs⟩:=ih u (by simpa using hw) fun m hm=>hl m (by simp[hm]);obtain⟨q,hq,e2,hs2⟩:=h.clo p l hp (hl l smp) (.inl hp);refine⟨q,hq,by rw[e2,e,Ek];rfl,fun k=> ?_⟩
   rcases aOY u (W p)with g|g|g
   ·rw[g]at k;exact hs2 k
   ·exact hs g
   ·exact hs2 (N5 (TJ.2 (.inl g)) k)
theorem Bfs.idx{i:Nat}{done out:List Int}{W:Nat->List Int}(h:Bfs go ls n i done out W){p q:Nat}(hp:p<out.length)(hq:q<out.length)(e:out.getD p 0=out.getD q 0):p=q:=by
 rw[Aa,Ad hp,Aa,Ad hq]at e;exact(List.getElem_inj h.nod).1 e
end
end
theorem KP{p:Nat->Bool}{n:Nat}(h:(seek p n 0).isNone=true){i:Nat}(hi:i<n):p i=false:=
 kY.1 (by simpa using h) i om om
theorem qE{al:Int}{rs:List (List Int)}{ac:List Bool}(h:cA al rs ac=true):yJ (aB al).length rs:=by
 unfold cA at h;simp only[Ar]at h;intro r hr;obtain⟨i,hi,rfl⟩:=Bz hr;have hb:=KP h.2 hi;unfold fV at hb;rw[Aa,Ad hi]at hb;apply Dv;intro hc;rw[aMA (by simp only[Bg];omega)]at hb;cases hb
theorem fK{al:Int}{rs:List (List Int)}{ac:List Bool}(h:cA al rs ac=true):1<=rs.length/\rs.length<=12/\ac.length=rs.length/\cP al=true:=by
 unfold cA at h;simp only[Ar,decide_eq_true_eq]at h;obtain⟨⟨⟨⟨h1,h2⟩,h3⟩,h4⟩,_⟩:=h;exact⟨by omega,by omega,by omega,h1⟩
def AOK(a:Aut):Prop:=cA a.al a.nx a.ac=true
theorem aVT{al:Int}{rs:List (List Int)}{ac:List Bool}(h:cA al rs ac=true){q i:Nat}(hq:q<rs.length)(hi:i<(aB al).length):0<=(rs.getD q []).getD i 0/\(rs.getD q []).getD i 0<rs.length:=by
 have hw:=qE h;unfold cA at h;simp only[Ar]at h;have hb:=KP h.2 hq;unfold fV EN at hb;simp only[Bool.or_eq_false_iff,Bool.not_eq_false',decide_eq_true_eq]at hb
 have hn:(seek (badQ rs.length (rs.getD q [])) (rs.getD q []).length 0).isNone=true:=by
  cases hs:seek (badQ rs.length (rs.getD q [])) (rs.getD q []).length 0 with
  |none=>rfl
  |some r=>rw[hs]at hb;cases hb.2
 exact BW.1 (KP hn om)
theorem pA{a:Aut}(h:AOK a){q l:Int}(h0:0<=q)(h1:q<a.nx.length)(h2:0<=l)(h3:l<6):0<=goI a.al a.nx q l/\goI a.al a.nx q l<a.nx.length:=by
 unfold goI
 split
 ·rename_i hb
  exact aVT h om (tJ h2 h3 hb).1
 ·exact⟨h0,h1⟩
theorem lE(al:Int):(aB al).Pairwise (·<·):=by
 unfold aB;exact List.Pairwise.filter _ dc
def nxT(a b:Aut)(v l:Int):List Int:=[goI a.al a.nx (v.tdiv b.nx.length) l*b.nx.length+goI b.al b.nx (v.tmod b.nx.length) l]
def glT(f:Bool->Bool->Bool)(a b:Aut)(v:Int):Bool:=f (a.ac.getD (v.tdiv b.nx.length).toNat false) (b.ac.getD (v.tmod b.nx.length).toNat false)
theorem DC{na nb v:Int}(hb:0<nb)(h0:0<=v)(h1:v<na*nb):(0<=v.tdiv nb/\v.tdiv nb<na)/\(0<=v.tmod nb/\v.tmod nb<nb):=by
 rw[Eu h0,Ew h0];exact⟨⟨Int.ediv_nonneg h0 om,Int.ediv_lt_of_lt_mul hb h1⟩,Int.emod_nonneg _ om,Int.emod_lt_of_pos _ hb⟩
theorem DZ{x y na nb:Int}(hx:0<=x/\x<na)(hy:0<=y/\y<nb):0<=x*nb+y/\x*nb+y<na*nb:=by
 have h1:0<=x*nb:=Int.mul_nonneg hx.1 om;have h2:(x+1)*nb<=na*nb:=Ej om om;rw[Int.add_mul,Int.one_mul]at h2;omega
theorem Q7{a b:Aut}(ha:AOK a)(hb:AOK b){v c:Int}(h0:0<=v)(h1:v<(a.nx.length:Int)*b.nx.length)(hc:0<=c/\c<6):∀m∈nxT a b v c,0<=m/\m<(a.nx.length:Int)*b.nx.length:=by
 intro m hm;obtain⟨b1,b2,b3,b4⟩:=fK hb;obtain⟨p,q⟩:=DC (na:=a.nx.length) (nb:=b.nx.length) om h0 h1;simp only[nxT,Bf]at hm;subst hm;exact DZ (pA ha p.1 p.2 hc.1 hc.2) (pA hb q.1 q.2 hc.1 hc.2)
def twoG(f:Bool->Bool->Bool)(a b:Aut)(i j:Int):List Int×Bool:=H9 (nxT a b) (glT f a b) (aB a.al) [i*b.nx.length+j] (a.nx.length*b.nx.length)
theorem aTd{f:Bool->Bool->Bool}{a b:Aut}{i j:Int}(ha:AOK a)(hb:AOK b)(hi:0<=i/\i<a.nx.length)(hj:0<=j/\j<b.nx.length):aBs (nxT a b) (glT f a b) (aB a.al) (a.nx.length*b.nx.length) (i*b.nx.length+j)=twoG f a b i j:=by
 have hs:=DZ hi hj
 have hr:∀v c:Int,0<=v->v<((a.nx.length*b.nx.length:Nat):Int)->c∈aB a.al->∀m∈nxT a b v c,0<=m/\m<((a.nx.length*b.nx.length:Nat):Int):=by
  intro v c h0 h1 hc;have:=b9 c hc;rw[Cf]at h1|-;exact Q7 ha hb h0 h1 om
 refine tO (aNk hr (lE _) hs.1 (by rw[Cf];exact hs.2)) (aBi (lE _) hr (fun n hn=> ?_) smp);simp only[Bf]at hn;subst hn;rw[Cf];exact hs
def netT(a b:Aut)(i j kd:Int):Net:=⟨[],[a,b],[i,j],a.al,kd,0⟩
theorem aPn{na nb v:Int}(hb:0<nb)(h0:0<=v)(h1:v<na*nb):decN [na,nb] v=[v.tdiv nb,v.tmod nb]:=by
 obtain⟨p,q⟩:=DC hb h0 h1
 have e:(v.tdiv nb).tmod na=v.tdiv nb:=by
  rw[Ew p.1];exact Int.emod_eq_of_lt p.1 p.2
 show [((v.tdiv nb).tmod na),v.tmod nb]=_;rw[e]
theorem aKy{L n:Nat}(hn:11<=n)(hL:2^60<=L){a b:Aut}{i j kd:Int}(ha:AOK a)(hb:AOK b)(hal:a.al=b.al)(hi:0<=i/\i<a.nx.length)(hj:0<=j/\j<b.nx.length)(hk:kd=1\/kd=2):
  aA env L n 118 [.agg [.d .nils,.d (.ivs 2 (gN [a,b])),.d (.ivs 2 (ints [i,j])),nI a.al,nI kd,nI 0]] []=some (.tup [.d (.str (txt (twoG (if kd=1 then fun x y=>x !=y else fun x y=>x&& !y) a b i j).1)),.d (.bool (twoG (if kd=1 then fun x y=>x !=y else fun x y=>x&& !y) a b i j).2)],[]):=by
 obtain⟨a1,a2,a3,a4⟩:=fK ha;obtain⟨b1,b2,b3,b4⟩:=fK hb;have aw:=qE ha;have bw:=qE hb;have sa:aW a.nx:=⟨by omega,fun r hr=>by have:=aw r hr;have:=bO a.al;omega⟩
 have sb:aW b.nx:=⟨by omega,fun r hr=>by have:=bw r hr;have:=bO b.al;omega⟩
 have hprod:(a.nx.length:Int)*b.nx.length<=144:=by
  have h1:(a.nx.length:Int)*b.nx.length<=12*b.nx.length:=Ej om om;omega
 have hz:QP (netT a b i j kd)=[(a.nx.length:Int),(b.nx.length:Int)]:=rfl;have hin:=DZ hi hj;rw[<-aTd (f:=if kd=1 then fun x y=>x !=y else fun x y=>x&& !y) ha hb hi hj]
 have key:=@YC L n hn hL 2 (gN [a,b]) kd 0 a.al (i*b.nx.length+j) [i,j] [(a.nx.length:Int),(b.nx.length:Int)] (nxT a b) (glT (if kd=1 then fun x y=>x !=y else fun x y=>x&& !y) a b) (a.nx.length*b.nx.length) smp rfl (by
   intro q hq
   match q,hq with
   |0,_=>exact⟨by simp,by simp⟩
   |1,_=>simp;omega
   |2,_=>simp;exact⟨Int.mul_nonneg om om,by omega⟩
   |q+3,hq=>simp at hq) smp (by intro z hz;simp at hz;rcases hz with rfl|rfl<;>omega) (by
   simp only[S0,and_true];refine⟨by omega,by omega,⟨by simp;exact Int.mul_nonneg hi.1 om,?_⟩,?_⟩
   ·simp
    have:i*(b.nx.length:Int)<=i*12:=Int.mul_le_mul_of_nonneg_left om hi.1;omega
   ·simp;omega) (by simp[encN]) hin.1 (by rw[Cf];exact hin.2)
   (fun {n} hn=>by
    have:=@ZN L n hn (netT a b i j kd) (by simp[netT]) (by simp[netT]) (fun x hx=>by simp[netT]at hx;rcases hx with rfl|rfl<;>omega) hL;exact this)
   (fun v l hv hl {R n hq k} hn=>by
    have hl2:=b9 l hl;have hv2:(v:Int)<(a.nx.length:Int)*b.nx.length:=by rw[<-Cf];omega
    obtain⟨p,q⟩:=DC (na:=a.nx.length) (nb:=b.nx.length) om om hv2;rw[aPn om om hv2];have ga:=pA ha p.1 p.2 hl2.1 om;have gb:=pA hb q.1 q.2 hl2.1 om
    have hnx:nexG (fun i=>if i=0 then [goI a.al a.nx ((v:Int).tdiv b.nx.length) l]else [goI b.al b.nx ((v:Int).tmod b.nx.length) l]) [(a.nx.length:Int),(b.nx.length:Int)] 2 0 [0]=nxT a b v l:=by
     simp[nexG,mulN,nxT]
    rw[<-hnx];refine bS rfl (@aA7 L n hn hL 0 2 2 [] (gN [a,b]) (ints [i,j]) a.al kd 0 [(a.nx.length:Int),(b.nx.length:Int)] [(v:Int).tdiv b.nx.length,(v:Int).tmod b.nx.length] l (fun i=>if i=0 then [goI a.al a.nx ((v:Int).tdiv b.nx.length) l]else [goI b.al b.nx ((v:Int).tmod b.nx.length) l]) (fun i=>if i=0 then 0 else if i=1 then 11 else 143) rfl smp (fun t ht {R n hq k} hn=> ?_) (fun t ht=> ?_) (fun t ht=> ?_) (fun t ht c hc=> ?_) smp (fun t ht=> ?_)) rfl (.inr rfl)
    ·match t,ht with
     |0,_=>exact bS rfl (CP hn (netT a b i j kd) 0 _ l (Ab _) (by simp[netT]) (by simp[netT]) (by simp[netT]) a rfl sa aw p.1 p.2 hl2.1 om hL) rfl (.inr rfl)
     |1,_=>exact bS rfl (CP hn (netT a b i j kd) 1 _ l (by simp[netT]) (by simp[netT]) (by simp[netT]) (by simp[netT]) b rfl sb bw q.1 q.2 hl2.1 om hL) rfl (.inr rfl)
     |t+2,ht=>exact absurd ht (by show ¬(t+2<2);omega)
    ·match t,ht with
     |0,_=>simp;omega
     |1,_=>simp;omega
     |t+2,ht=>exact absurd ht (by show ¬(t+2<2);omega)
    ·show(if t=0 then _ else _:List Int).length<=16
     split<;>simp
    ·match t,ht with
     |0,_=>simp at hc;subst hc;simpa using ga
     |1,_=>simp at hc;subst hc;simpa using gb
     |t+2,ht=>exact absurd ht (by show ¬(t+2<2);omega)
    ·match t,ht with
     |0,_=>simp;omega
     |1,_=>simp;omega
     |t+2,ht=>exact absurd ht (by show ¬(t+2<2);omega))
   (fun v hv {R n k} hn=>by
    have hv2:(v:Int)<(a.nx.length:Int)*b.nx.length:=by rw[<-Cf];omega
    obtain⟨p,q⟩:=DC (na:=a.nx.length) (nb:=b.nx.length) om om hv2;rw[aPn om om hv2]
    have hg:QO (netT a b i j kd) [(v:Int).tdiv b.nx.length,(v:Int).tmod b.nx.length] ((movT (nxT a b) (aB a.al) (a.nx.length*b.nx.length)).getD v [])=glT (if kd=1 then fun x y=>x !=y else fun x y=>x&& !y) a b v:=by
     rcases hk with rfl|rfl
     ·rfl
     ·rfl
    rw[<-hg];exact lT (aNt hn (netT a b i j kd) [(v:Int).tdiv b.nx.length,(v:Int).tmod b.nx.length] ((movT (nxT a b) (aB a.al) (a.nx.length*b.nx.length)).getD v []) (by rcases hk with rfl|rfl<;>simp[netT]) (by simp[netT]) (by simp[netT]) smp ⟨by simp[netT],by simp[netT],by simp[netT];omega,p.1,by show(v:Int).tdiv b.nx.length<(a.ac.length:Int);omega⟩ (fun _=>⟨by simp[netT],by simp[netT],by simp[netT];omega,q.1,by show(v:Int).tmod b.nx.length<(b.ac.length:Int);omega⟩) hL) rfl)
   (fun v c h0 h1 hc=>by
    have:=b9 c hc;rw[Cf]at h1|-;exact⟨by simp[nxT],Q7 ha hb h0 h1 om⟩)
 exact key
theorem aVK{l:List UInt8}{i j p:Nat}(hi:i<l.length)(hj:j<l.length):(swp l i j).getD p 0=if p=j then l.getD i 0 else if p=i then l.getD j 0 else l.getD p 0:=by
 unfold swp;simp only[Aa,Cp,Bs]
 by_cases h1:p=j
 ·subst h1;simp[hj]
 ·have h1':¬j=p:=fun h=>h1 h.symm
  by_cases h2:p=i
  ·subst h2;simp[hi,h1,h1']
  ·have h2':¬i=p:=fun h=>h2 h.symm;simp only[h1,h1',h2,h2',if_false]
theorem aMh:∀(q:Nat) (i j:Int) (l:List UInt8),0<=i->j<l.length->j-i<=q->∀p:Nat,p<l.length->(revG q i j l).2.2.getD p 0=if i<=p/\(p:Int)<=j then l.getD (i+j-p).toNat 0 else l.getD p 0
 |0,i,j,l,h0,h1,h2,p,hp=>by
  unfold revG
  split
  ·rename_i h
   rw[show(i+j-p).toNat=p by omega]
  ·rfl
 |q+1,i,j,l,h0,h1,h2,p,hp=>by
  unfold revG
  split
  ·rename_i hlt
   have hg:=fun(x:Nat)=>aVK (l:=l) (i:=i.toNat) (j:=j.toNat) (p:=x) om om;rw[aMh q (i+1) (j-1) _ om (by rw[C4];omega) om p (by rw[C4];exact hp)]
   by_cases c1:i+1<=(p:Int)/\(p:Int)<=j-1
   ·rw[if_pos c1,hg,if_neg (by omega:¬(i+1+(j-1)-(p:Int)).toNat=j.toNat),if_neg (by omega:¬(i+1+(j-1)-(p:Int)).toNat=i.toNat),if_pos (by omega:i<=(p:Int)/\(p:Int)<=j)]
    congr 1
    omega
   ·rw[if_neg c1,hg]
    by_cases c2:p=j.toNat
    ·rw[if_pos c2,if_pos (by omega:i<=(p:Int)/\(p:Int)<=j)]
     congr 1
     omega
    ·rw[if_neg c2]
     by_cases c3:p=i.toNat
     ·rw[if_pos c3,if_pos (by omega:i<=(p:Int)/\(p:Int)<=j)]
      congr 1
      omega
     ·rw[if_neg c3,if_neg (by omega:¬(i<=(p:Int)/\(p:Int)<=j))]
  ·rename_i hlt
   split
   ·rename_i h
    rw[show(i+j-p).toNat=p by omega]
   ·rfl
theorem aTx(l:List UInt8):(revG (l.length+1) 0 ((l.length:Int)-1) l).2.2=l.reverse:=by
 have hl:=(aFp (l.length+1) 0 ((l.length:Int)-1) l (Int.le_refl _) om).1;apply List.ext_getElem
 ·rw[hl,List.length_reverse]
 ·intro p h1 h2;rw[hl]at h1;have:=aMh (l.length+1) 0 ((l.length:Int)-1) l (Int.le_refl _) om om p h1;rw[if_pos om,Aa,Ad (by rw[hl];exact h1),Aa,Ad om]at this;simp only[Bg]at this;rw[this,List.getElem_reverse]
  congr 1
  omega
theorem aJh{l:List PStep}{k:Nat}(h:k<l.length):(((cD l).drop (k*3)).map A.d).head? =some (.d (.int .i64 (l.getD k default).par)):=by
 rw[D5,cC h (d:=default)];rfl
theorem aSb{l:List PStep}{k:Nat}(h:k<l.length):(((cD l).drop (k*3+1)).map A.d).head? =some (.d (.int .i64 (l.getD k default).lt)):=by
 rw[<-Cl,D5,cC h (d:=default)];rfl
def aK4(st:List PStep):Nat->Nat->Nat
 |0,i=>i
 |j+1,i=>if 0<=(st.getD i default).par then aK4 st j (st.getD i default).par.toNat else i
def Tree(st:List PStep):Prop:=∀k,k<st.length->((st.getD k default).par<(k:Int))/\(0<=(st.getD k default).lt/\(st.getD k default).lt<=5)
theorem aJs(st:List PStep):∀(j i:Nat),(gM st j i).length<=j
 |0,i=>Ab _
 |j+1,i=>by
  unfold gM
  split
  ·have:=aJs st j (st.getD i default).par.toNat;simp only[Af,Ae,Ac];omega
  ·simp
theorem aGS{R:Type}{L n:Nat}(hn:2<=n){st:List PStep}(ht:Tree st)(hs:st.length<=16777216){k:KE R}:∀(j i m:Nat) (o:List UInt8) (len:Nat) (hi:i<st.length) (hj:i<j) (hm:j<=m) (hlen:len=o.length) (ho:o.length+i<=20000000),
  aT env (aA env L n) L 0 [0,0,0,2] Bz47 (GL 0) (Z1 (U1 (Z2 (Z1 (U16 (U8 (U2 (U1 ([]))))))))) m (.d (.ivs st.length (cD st))::Y1 (.d (.str [])::.sl 0 0 0 len::nI i::Y16 (Y8 (Y2 (Y1 ([])))))) [.arr (bM o) 1 0] k
  =k (.exit 0) (.d (.ivs st.length (cD st))::Y1 (.d (.str [])::.sl 0 0 0 (o++(txt (gM st j i)).reverse).length::nI ((aK4 st j i:Nat):Int)::Y16 (Y8 (Y2 (Y1 ([])))))) [.arr (bM (o++(txt (gM st j i)).reverse)) 1 0]:=by
 intro j
 induction j with
 |zero=>intro i m o len hi hj;omega
 |succ j ih=>
  intro i m o len hi hj hm hlen ho;obtain _|m:=m;omega;subst hlen;obtain⟨t1,t2,t3⟩:=ht i hi;have hc:(i:Int)<st.length:=om
  by_cases hp:0<=(st.getD i default).par
  ·have ih':=ih (st.getD i default).par.toNat m (o++[bU (st.getD i default).lt]) (o.length+1) om om om smp (by rw[Af,Da];omega);rw[show(((st.getD i default).par.toNat:Nat):Int)=(st.getD i default).par by omega]at ih';have h5:(((st.getD i default).par.toNat:Nat):Int)=(st.getD i default).par:=om;unfold gM aK4;rw[if_pos hp,if_pos hp];clear ih;have e:(txt (gM st j (st.getD i default).par.toNat++[(st.getD i default).lt])).reverse=[bU (st.getD i default).lt]++(txt (gM st j (st.getD i default).par.toNat)).reverse:=by simp[txt]
   rw[e,<-Ao];have g1:=aJh hi;have g2:=aSb hi;generalize st.getD i default=s at *
   simp-implicitDefEqProofs (maxSteps:=9^7) (disch:=try exact Dz) only[↓DN,↓kRet,UP,simprocAttr,PE,Cg,Cl,hc,hp,g1,g2,↓N4,↓ih',HV,CS,Tryz.f124]
  ·unfold gM aK4;rw[if_neg hp,if_neg hp];have g1:=aJh hi;simp only[txt,As,List.reverse_nil,Ai]
   simp-implicitDefEqProofs (maxSteps:=9^7) (disch:=try exact Dz) only[↓DN,↓kRet,UP,simprocAttr,PE,hc,hp,g1,HV,CS,Tryz.f124]
theorem WQ{L n:Nat}(hn:3<=n)(st:List PStep)(ht:Tree st)(hs:st.length<=16777216)(h0:0<st.length)(hL:2^60<=L):aA env L n 124 [.d (.ivs st.length (cD st))] []=some (.d (.str (aBl st)),[]):=by
 have loop_w:=fun {R n k} hn=> @aGS R L n hn st ht hs k st.length (st.length-1) L [] 0 om om om rfl (by simp;omega);simp only[Aq,aQL]at loop_w;have hwl:=aJs st st.length (st.length-1);have hb:(txt (gM st st.length (st.length-1))).reverse.length<=2147483648:=by simp[txt];omega
 have hrr:(txt (gM st st.length (st.length-1))).reverse.reverse=aBl st:=by rw[List.reverse_reverse];rfl
 have hwlen:(txt (gM st st.length (st.length-1))).reverse.length=(aBl st).length:=by simp[aBl]
 generalize(txt (gM st st.length (st.length-1))).reverse=w at *
 have e1:IntKind.i64.wrap ((st.length:Int)-1)=((st.length-1:Nat):Int):=by
  rw[show(st.length:Int)-1=((st.length-1:Nat):Int) by omega];exact BL om om
 have kc_r:=fun {R:Type} {n id g:Nat} {hq:H} {k:KA R} (hn:1<=n) (hi:hq[id]? =some (.arr (bM w) 1 g))=> @aXi R L n id g hq k hn w hi hb hL;have er:=aTx w;rw[hrr]at er;simp only[er]at kc_r;simp only[hwlen]at kc_r;simp only[hwlen]at loop_w;have h1:(1:Int)<=st.length:=om;obtain _|n:=n;omega
 simp-implicitDefEqProofs (maxSteps:=9^7) (disch:=try exact Dz) only[↓DN,↓kAsg,↓kRet,UP,simprocAttr,↓loop_w,e1,↓kc_r,↓QQ,aKL,aAR,Tryz.f124]
theorem aKG:type_of% fun {L} st ht hs h0 hL=>kt fun hn=> @WQ L _ hn st ht hs h0 hL:=fun {L} st ht hs h0 hL=>kt fun hn=> @WQ L _ hn st ht hs h0 hL
theorem aGx{L:Nat}{id0 g0 o0 len0:Nat}:KV L 124 [.sl id0 g0 o0 len0]:=fun _ _ _ _=>d7 A1
theorem aMr{st:List PStep}{p l:Int}{f:List Int}:st.length<=(addP st p l f).length:=by unfold addP;split<;>simp
theorem aLw{st:List PStep}{i:Nat}{l:Int}{f:List Int}(ht:Tree st)(hi:i<st.length)(hl:0<=l/\l<=5):Tree (addP st i l f):=by
 unfold addP
 split
 ·exact ht
 ·intro k hk;simp only[Af,Ae,Ac]at hk
  by_cases h:k<st.length
  ·rw[kC h];exact ht k h
  ·obtain rfl:k=st.length:=om;rw[ZU];exact⟨by show(i:Int)<_;omega,hl⟩
theorem aQu{R:Type}{L n dn:Nat}(hn:dn+5<=n)(hL:2^60<=L){I:Int->Prop}{gl:Int->Bool}{nf gf:FuncId}{caps gcaps:List D}{size:Nat}{nx:Int->Int->List Int}{gn:Int->Int->Nat}{ls ns:List Int}{ii:Nat}
  (kc_n:∀ {R:Type} {n id:Nat} {hq:H} {k:KA R} (x c:Int) (o:List Int),dn+4<=n->I x->0<=c->c<6->o.length<=4200000000->hq[id]? =some (.arr (ints o) 1 0)->aX env (aA env L n) hq nf (nI x::nI c::.sl id 0 0 o.length::caps.map A.d) k=k (.sl id (gn x c) 0 (o++nx x c).length) (hq.set id (.arr (ints (o++nx x c)) 1 (gn x c))))
  (kc_g:∀ {R:Type} {n:Nat} {hq:H} {k:KA R} (x:Int),2<=n->I x->aX env (aA env L n) hq gf (nI x::gcaps.map A.d) k=k (.d (.bool (gl x))) hq)
  (hr:∀x,I x->0<=x/\x<size) (hsz:size<=1000000) (hI:∀x∈ns,I x) (hx:∀x c,I x->0<=c->c<6->∀y∈nx x c,I y) (hw:∀x c,(nx x c).length<=4096) (hls:∀c∈ls,0<=c/\c<=5) (hll:ls.length<=6) (hnl:ns.length<=size) {k:KE R}:∀(j q m:Nat) (seen:List Bool) (st:List PStep) (sn:Nat) (hi:q+j=ls.length) (hm:j<m) (hg:PGood I size seen st) (htr:Tree st) (hii:ii<st.length) (hns:(st.getD ii default).ns=ns) (hsn:sn=st.length),
  aT env (aA env L n) L 0 (W16 (W2 [2])) Bz3 (jE 1) (U2 (Z2 (U4 (U2 (Z2 (U1 (Z2 (Z1 (U16 (U1 (Z2 (Z1 (U16 (U8 (U2 (U1 ([]))))))))))))))))) m (Y2 (.d (.ivs ls.length (ints ls))::.d (.fn nf caps)::Y4 (Y2 (.d (.str [])::.d (.bool false)::Y1 (.ptr 0 0 0::.clo 123 [.ptr 1 0 0,.ptr 2 0 0,.ptr 0 0 0]::nI ii::Y16 (Y1 (.d (.ivs ls.length (ints ls))::nI (ls.length)::nI q::Y16 (Y8 (Y2 (Y1 ([]))))))))))) [.box [.sl 3 0 0 sn],.box [.sl 4 0 0 size],.box [.d (.fn gf gcaps)],.arr (cD st) 3 0,.arr (dB seen) 1 0] k
  =if(ltG nx gl ns ii (ls.drop q) (seen,st)).1=true then
    k .ret (Y2 (.d (.ivs ls.length (ints ls))::.d (.fn nf caps)::Y4 (Y2 (.d (.str ((aBl (ltG nx gl ns ii (ls.drop q) (seen,st)).2.2)))::.d (.bool true)::Y1 (.ptr 0 0 0::.clo 123 [.ptr 1 0 0,.ptr 2 0 0,.ptr 0 0 0]::nI ii::Y16 (Y1 (.d (.ivs ls.length (ints ls))::nI (ls.length)::nI ((q+ltI nx gl ns ii (ls.drop q) (seen,st):Nat):Int)::Y16 (Y8 (Y2 (Y1 ([]))))))))))) [.box [.sl 3 0 0 (ltG nx gl ns ii (ls.drop q) (seen,st)).2.2.length],.box [.sl 4 0 0 size],.box [.d (.fn gf gcaps)],.arr (cD (ltG nx gl ns ii (ls.drop q) (seen,st)).2.2) 3 0,.arr (dB (ltG nx gl ns ii (ls.drop q) (seen,st)).2.1) 1 0]
   else k (.exit 2) (Y2 (.d (.ivs ls.length (ints ls))::.d (.fn nf caps)::Y4 (Y2 (.d (.str [])::.d (.bool false)::Y1 (.ptr 0 0 0::.clo 123 [.ptr 1 0 0,.ptr 2 0 0,.ptr 0 0 0]::nI ii::Y16 (Y1 (.d (.ivs ls.length (ints ls))::nI (ls.length)::nI (ls.length)::Y16 (Y8 (Y2 (Y1 ([]))))))))))) [.box [.sl 3 0 0 (ltG nx gl ns ii (ls.drop q) (seen,st)).2.2.length],.box [.sl 4 0 0 size],.box [.d (.fn gf gcaps)],.arr (cD (ltG nx gl ns ii (ls.drop q) (seen,st)).2.2) 3 0,.arr (dB (ltG nx gl ns ii (ls.drop q) (seen,st)).2.1) 1 0]:=by
 intro j
 induction j with
 |zero=>
  intro q m seen st sn hi hm hg htr hii hns hsn;obtain _|m:=m;omega;obtain rfl:q=ls.length:=om;subst hsn
  simp-implicitDefEqProofs (maxSteps:=9^7) (disch:=try exact Dz) only[↓DN,↓kRet,UP,simprocAttr,Ah,tU,sZ,Tryz.f93];simp only[Bu,ltG,Al,if_false]
 |succ j ih=>
  intro q m seen st sn hi hm hg htr hii hns hsn;obtain _|m:=m;omega;subst hsn;have hc:(q:Int)<ls.length:=om;have hk:q<ls.length:=om;have hmem:ls.getD q 0∈ls:=by rw[Aa,Ad hk];exact At hk
  obtain⟨c0,c5⟩:=hls _ hmem;have c6:ls.getD q 0<6:=om;have hiI:(ii:Int)<st.length:=om;have hroom:=hg.room;have hstl:st.length<=4294967290:=om;rw[cC hk (d:=0)]
  have hI2:∀y∈flat nx ns (ls.getD q 0),I y:=by
   intro y hy;obtain⟨x,h1,h2⟩:=Ck.1 hy;exact hx x (ls.getD q 0) (hI x h1) c0 c6 y h2
  have hfl:=aM0 (c:=ls.getD q 0) hw ns;have hfl2:(flat nx ns (ls.getD q 0)).length<=4294967290:=om;obtain⟨g1,g2,g3⟩:=PR (gl:=gl) hg hI2 hr (ii:Int) (ls.getD q 0);have htr2:Tree (addP st ii (ls.getD q 0) (visG gl (flat nx ns (ls.getD q 0)) seen [] false).2.1):=aLw htr hii ⟨c0,c5⟩;have hlen2:=aMr (st:=st) (p:=(ii:Int)) (l:=ls.getD q 0) (f:=(visG gl (flat nx ns (ls.getD q 0)) seen [] false).2.1);have ih':=ih (q+1) m (visG gl (flat nx ns (ls.getD q 0)) seen [] false).1 (addP st ii (ls.getD q 0) (visG gl (flat nx ns (ls.getD q 0)) seen [] false).2.1) _ om om g1 htr2 om (by rw[aTF hii];exact hns) rfl;have e4:((q+1:Nat):Int)=(q:Int)+1:=om;rw[e4]at ih';have loop_c:=fun {R:Type} {n:Nat} (hn:dn+4<=n) {k:KE R}=> @aQv R L n dn hn hL I nf caps (.fn gf gcaps) size nx gn ls ns (cD st) seen st.length ii q (ls.getD q 0) (fun {R n id hq k}=>kc_n) hI hw c0 c6 om k ns.length 0 L [] 0 om om smp rfl;simp only[Ba,Aq,kG,Ap]at loop_c;have kc_v:=fun {R n k} hn=> @aV9 R L n k hn hL I gl gf gcaps size (ii:Int) (ls.getD q 0) (flat nx ns (ls.getD q 0)) (fun {R n hq k}=>kc_g) hI2 hr om hfl2 seen hg.len st hstl;have hroom2:=g1.room;have kl_w:=@aKG L _ htr2 om om hL;simp only[ltG,ltI];clear ih hmem g1 g2 g3 hg hI hI2 hx hw hls hr kc_n kc_g hroom2;generalize flat nx ns (ls.getD q 0)=fm at *;generalize visG gl fm seen [] false=v at *;obtain⟨v1,v2,v3⟩:=v;simp only at ih' kc_v kl_w|-
  cases v3 with
  |true=>
   simp-implicitDefEqProofs (maxSteps:=9^7) (disch:=try exact Dz) only[↓DN,↓kAsg,↓kRet,UP,simprocAttr,↓aGx,PE,hc,hiI,hns,↓loop_c,↓kc_v,↓kl_w,tU,sZ,Tryz.f93]
  |false=>
   simp only[Al,if_false];generalize ltI nx gl ns (ii:Int) (ls.drop (q+1)) (v1,addP st ii (ls.getD q 0) v2)=T at *;rw[show q+(T+1)=q+1+T by omega]
   simp-implicitDefEqProofs (maxSteps:=9^7) (disch:=try exact Dz) only[↓DN,↓kAsg,↓kRet,UP,simprocAttr,PE,hc,hiI,hns,↓loop_c,↓kc_v,↓ih',tU,sZ,Tryz.f93]
theorem aAr{nx:Int->Int->List Int}{gl:Int->Bool}{ns:List Int}{i:Nat}:∀(ls:List Int) (hls:∀c∈ls,0<=c/\c<=5) (seen:List Bool) (st:List PStep),Tree st->i<st.length->Tree (ltG nx gl ns i ls (seen,st)).2.2
 | [],_,_,_,h,_=>h
 |l::ls,hls,seen,st,h,hi=>by
  have h2:Tree (addP st i l (visG gl (flat nx ns l) seen [] false).2.1):=aLw h hi (hls l Bd);unfold ltG
  split
  ·exact h2
  ·exact aAr ls (fun c hc=>hls c (Az _ hc)) _ _ h2 (Dp hi aMr)
theorem aQZ{R:Type}{L n dn:Nat}(hn:dn+6<=n)(hL:2^60<=L){I:Int->Prop}{gl:Int->Bool}{nf gf:FuncId}{caps gcaps:List D}{size:Nat}{nx:Int->Int->List Int}{gn:Int->Int->Nat}{ls:List Int}
  (kc_n:∀ {R:Type} {n id:Nat} {hq:H} {k:KA R} (x c:Int) (o:List Int),dn+4<=n->I x->0<=c->c<6->o.length<=4200000000->hq[id]? =some (.arr (ints o) 1 0)->aX env (aA env L n) hq nf (nI x::nI c::.sl id 0 0 o.length::caps.map A.d) k=k (.sl id (gn x c) 0 (o++nx x c).length) (hq.set id (.arr (ints (o++nx x c)) 1 (gn x c))))
  (kc_g:∀ {R:Type} {n:Nat} {hq:H} {k:KA R} (x:Int),2<=n->I x->aX env (aA env L n) hq gf (nI x::gcaps.map A.d) k=k (.d (.bool (gl x))) hq)
  (hr:∀x,I x->0<=x/\x<size) (hsz:size<=1000000) (hx:∀x c,I x->0<=c->c<6->∀y∈nx x c,I y) (hw:∀x c,(nx x c).length<=4096) (hls:∀c∈ls,0<=c/\c<=5) (hll:ls.length<=6) {k:KE R}:∀(j i m:Nat) (seen:List Bool) (st:List PStep) (sn:Nat) (hi:st.length+iH seen<=i+j) (hi2:i<=st.length) (hm:j<m) (hg:PGood I size seen st) (htr:Tree st) (hsn:sn=st.length),
  aT env (aA env L n) L 0 (W16 (W2 [2])) Bz3 (jE 0) (U2 (Z2 (U4 (U2 (Z2 (U1 (Z2 (Z1 (U32 (U8 (U4 (U2 (U1 ([])))))))))))))) m (Y2 (.d (.ivs ls.length (ints ls))::.d (.fn nf caps)::Y4 (Y2 (.d (.str [])::.d (.bool false)::Y1 (.ptr 0 0 0::.clo 123 [.ptr 1 0 0,.ptr 2 0 0,.ptr 0 0 0]::nI i::Y32 (Y8 (Y4 (Y2 (Y1 ([])))))))))) [.box [.sl 3 0 0 sn],.box [.sl 4 0 0 size],.box [.d (.fn gf gcaps)],.arr (cD st) 3 0,.arr (dB seen) 1 0] k
  =if(outG nx gl ls j i (seen,st)).1=true then
    k .ret (Y2 (.d (.ivs ls.length (ints ls))::.d (.fn nf caps)::Y4 (Y2 (.d (.str ((aBl (outG nx gl ls j i (seen,st)).2.2)))::.d (.bool true)::Y1 (.ptr 0 0 0::.clo 123 [.ptr 1 0 0,.ptr 2 0 0,.ptr 0 0 0]::nI ((outI nx gl ls j i (seen,st):Nat):Int)::Y32 (Y8 (Y4 (Y2 (Y1 ([])))))))))) [.box [.sl 3 0 0 (outG nx gl ls j i (seen,st)).2.2.length],.box [.sl 4 0 0 size],.box [.d (.fn gf gcaps)],.arr (cD (outG nx gl ls j i (seen,st)).2.2) 3 0,.arr (dB (outG nx gl ls j i (seen,st)).2.1) 1 0]
   else k (.exit 0) (Y2 (.d (.ivs ls.length (ints ls))::.d (.fn nf caps)::Y4 (Y2 (.d (.str [])::.d (.bool false)::Y1 (.ptr 0 0 0::.clo 123 [.ptr 1 0 0,.ptr 2 0 0,.ptr 0 0 0]::nI ((outI nx gl ls j i (seen,st):Nat):Int)::Y32 (Y8 (Y4 (Y2 (Y1 ([])))))))))) [.box [.sl 3 0 0 (outG nx gl ls j i (seen,st)).2.2.length],.box [.sl 4 0 0 size],.box [.d (.fn gf gcaps)],.arr (cD (outG nx gl ls j i (seen,st)).2.2) 3 0,.arr (dB (outG nx gl ls j i (seen,st)).2.1) 1 0]:=by
 intro j
 induction j with
 |zero=>
  intro i m seen st sn hi hi2 hm hg htr hsn;obtain _|m:=m;omega;obtain rfl:i=st.length:=om;subst hsn;simp only[outG,outI,Al,if_false]
  simp-implicitDefEqProofs (maxSteps:=9^7) (disch:=try exact Dz) only[↓DN,↓kRet,UP,simprocAttr,Ah,mZ,mK,Tryz.f93]
 |succ j ih=>
  intro i m seen st sn hi hi2 hm hg htr hsn;obtain _|m:=m;omega;subst hsn
  by_cases hc:i<st.length
  ·have hci:(i:Int)<st.length:=om;have hroom:=hg.room;have hmem:st.getD i default∈st:=by rw[Aa,Ad hc];exact At hc
   have hI:=hg.node _ hmem;have hnl:=hg.wide _ hmem;obtain⟨k1,k2,k3⟩:=VL (gl:=gl) (nx:=nx) (p:=(i:Int)) hr hI ls (seen,st) (fun x c h1 h2=>hx x c h1 (hls c h2).1 (by have:=(hls c h2).2;omega)) hg;have ktr:=aAr (gl:=gl) (nx:=nx) (ns:=(st.getD i default).ns) ls hls seen st htr hc;have loop_b:=fun {R:Type} {n:Nat} (hn:dn+5<=n) {k:KE R}=> @aQu R L n dn hn hL I gl nf gf caps gcaps size nx gn ls (st.getD i default).ns i (fun {R n id hq k}=>kc_n) (fun {R n hq k}=>kc_g) hr hsz hI hx hw hls hll hnl k ls.length 0 L seen st st.length om om hg htr hc rfl rfl;simp only[Ba,Ap,Ag]at loop_b;have ih':=ih (i+1) m (ltG nx gl (st.getD i default).ns i ls (seen,st)).2.1 (ltG nx gl (st.getD i default).ns i ls (seen,st)).2.2 _ (by have:(ltG nx gl (st.getD i default).ns i ls (seen,st)).2.2.length+iH (ltG nx gl (st.getD i default).ns i ls (seen,st)).2.1<=st.length+iH seen:=k2;omega) (by have:st.length<=(ltG nx gl (st.getD i default).ns i ls (seen,st)).2.2.length:=k3;omega) om k1 ktr rfl;have e4:((i+1:Nat):Int)=(i:Int)+1:=om;rw[e4]at ih';simp only[outG,outI,hc,if_true];clear ih hmem k1 k2 k3 ktr hg hI hx hw hls hr kc_n kc_g hnl;generalize ltI nx gl (st.getD i default).ns (i:Int) ls (seen,st)=T at *;generalize ltG nx gl (st.getD i default).ns (i:Int) ls (seen,st)=w at *;obtain⟨w0,w1,w2⟩:=w;simp only at ih' loop_b|-;have hll3:ls.length<=4294967290:=om
   cases w0 with
   |true=>
    simp only[if_true]at loop_b
    simp-implicitDefEqProofs (maxSteps:=9^7) (disch:=try exact Dz) only[↓DN,↓kRet,UP,simprocAttr,hci,↓loop_b,mZ,mK,Tryz.f93]
   |false=>
    simp only[Al,if_false]at loop_b|-
    simp-implicitDefEqProofs (maxSteps:=9^7) (disch:=try exact Dz) only[↓DN,↓kRet,UP,simprocAttr,hci,↓loop_b,↓ih',mZ,mK,Tryz.f93]
  ·obtain rfl:i=st.length:=om;simp only[outG,outI,hc,Al,if_false]
   simp-implicitDefEqProofs (maxSteps:=9^7) (disch:=try exact Dz) only[↓DN,↓kRet,UP,simprocAttr,Ah,mZ,mK,Tryz.f93]
theorem UF{n:Int}{h:H}(h0:0<=n)(h1:n<=4294967296):iA env.P h 24 n n=some (.sl h.length 0 0 n.toNat,h++[.arr (dB (List.replicate n.toNat false)) 1 0]):=by
 have hm:n<=(bI:Nat):=by unfold bI;omega
 have he:cY env.P 24=some 4:=kr;have hz:dA env.P 4=some (.d (.bool false)):=kr;have hok:fC env.P 4=true:=kr;have hc:env.P.cellsOf 4=1:=kr;simp only[iA,he,hz,a6,zT,Bb,hok,h0,hm,hc,Int.le_refl,and_self,if_true,dB,List.map_replicate,List.flatten_replicate_singleton]
theorem R2{L n dn:Nat}(hn:dn+7<=n)(hL:2^60<=L){I:Int->Prop}{gl:Int->Bool}{nf gf:FuncId}{caps gcaps:List D}{size:Nat}{nx:Int->Int->List Int}{gn:Int->Int->Nat}{ls ns:List Int}
  (kc_n:∀ {R:Type} {n id:Nat} {hq:H} {k:KA R} (x c:Int) (o:List Int),dn+4<=n->I x->0<=c->c<6->o.length<=4200000000->hq[id]? =some (.arr (ints o) 1 0)->aX env (aA env L n) hq nf (nI x::nI c::.sl id 0 0 o.length::caps.map A.d) k=k (.sl id (gn x c) 0 (o++nx x c).length) (hq.set id (.arr (ints (o++nx x c)) 1 (gn x c))))
  (kc_g:∀ {R:Type} {n:Nat} {hq:H} {k:KA R} (x:Int),2<=n->I x->aX env (aA env L n) hq gf (nI x::gcaps.map A.d) k=k (.d (.bool (gl x))) hq)
  (hr:∀x,I x->0<=x/\x<size) (hsz:size<=1000000) (hI:∀x∈ns,I x) (hx:∀x c,I x->0<=c->c<6->∀y∈nx x c,I y) (hw:∀x c,(nx x c).length<=4096) (hls:∀c∈ls,0<=c/\c<=5) (hll:ls.length<=6) (hne:ns≠[]) (hnl:ns.length<=size):
  aA env L n 93 [nI size,.d (.ivs ns.length (ints ns)),.d (.ivs ls.length (ints ls)),.d (.fn nf caps),.d (.fn gf gcaps)] []=some (.tup [.d (.str (txt (H9 nx gl ls ns size).1)),.d (.bool (H9 nx gl ls ns size).2)],[]):=by
 have hs0:(0:Int)<=size:=om;have hs1:(size:Int)<=4294967296:=om;have kc_v:=fun {R:Type} {n:Nat} {k:KA R} {p l:Int} (hn:4<=n)=> @aWA R L n k hn hL I gl gf gcaps size p l ns (fun {R n hq k}=>kc_g) hI hr om om hne;have hu:iH (List.replicate size false)=size:=by simp[iH]
 have hg0:PGood I size (List.replicate size false) []:=⟨by simp,by simp,by rw[hu];simp,by simp⟩
 obtain⟨g1,g2,g3⟩:=PR (gl:=gl) hg0 hI hr (-1) 0;have hpos:=aLB (size:=size) hne;rw[<-(A8 gl ns (List.replicate size false) [] false).2]at hpos;unfold H9;generalize visG gl ns (List.replicate size false) [] false=r at *;obtain⟨r0,r1,r2⟩:=r;simp only at g1 g2 g3 hpos kc_v|-
 have ha:addP [] (-1) 0 r1=[⟨-1,0,r1⟩]:=by
  unfold addP;rw[if_neg (Ei.1 hpos)];rfl
 rw[ha]at g1 g2
 have htr:Tree [⟨-1,0,r1⟩]:=by
  intro k hk;obtain rfl:k=0:=by simpa using hk
  exact⟨by show(-1:Int)<_;omega,by show(0:Int)<=0/\(0:Int)<=5;decide⟩
 have loop_a:=fun {R:Type} {n:Nat} (hn:dn+6<=n) {k:KE R}=> @aQZ R L n dn hn hL I gl nf gf caps gcaps size nx gn ls (fun {R n id hq k}=>kc_n) (fun {R n hq k}=>kc_g) hr hsz hx hw hls hll k (size+1) 0 L r0 [⟨-1,0,r1⟩] 1 (by rw[hu]at g2;simp only[Ac,Ag]at g2;omega) smp om g1 htr rfl;simp only[Ap]at loop_a;have ee:(cD [⟨-1,0,r1⟩])=[.int .i64 (-1),.int .i64 0,.ivs r1.length (ints r1)]:=rfl;rw[ha];clear g1 g2 g3 hg0 hI hx hw hls hr kc_n kc_g htr
 cases r2 with
 |true=>
  obtain _|n:=n;omega
  simp-implicitDefEqProofs (maxSteps:=9^7) (disch:=try exact Dz) only[↓DN,↓kAsg,↓kRet,UP,simprocAttr,↓UF,↓kc_v,CT,xQ,Tryz.f93]<;>rfl
 |false=>
  simp only[Al,if_false];generalize outI nx gl ls (size+1) 0 (r0,[⟨-1,0,r1⟩])=T at *;generalize outG nx gl ls (size+1) 0 (r0,[⟨-1,0,r1⟩])=w at *;obtain⟨w0,w1,w2⟩:=w;simp only at loop_a|-
  cases w0 with
  |true=>
   simp only[if_true]at loop_a|-;obtain _|n:=n;omega
   simp-implicitDefEqProofs (maxSteps:=9^7) (disch:=try exact Dz) only[↓DN,↓kAsg,↓kRet,UP,simprocAttr,↓UF,↓kc_v,↓loop_a,CT,xQ,Tryz.f93]<;>rfl
  |false=>
   simp only[Al,if_false]at loop_a|-;obtain _|n:=n;omega
   simp-implicitDefEqProofs (maxSteps:=9^7) (disch:=try exact Dz) only[↓DN,↓kAsg,↓kRet,UP,simprocAttr,↓UF,↓kc_v,↓loop_a,CT,xQ,Tryz.f93]<;>rfl
end Ev
end Go.Proofs.YtppffbehejpglaaGreatDoor
