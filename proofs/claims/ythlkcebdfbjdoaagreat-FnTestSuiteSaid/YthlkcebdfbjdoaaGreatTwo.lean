/-
  Products as the reference searches them, walked: the search of a product of automata.
-/
import Derived.Test.YthlkcebdfbjdoaaGreatNetV
import Derived.Test.YthlkcebdfbjdoaaGreatPathV
import Derived.Test.YthlkcebdfbjdoaaGreatAutG
set_option linter.unusedSimpArgs false
set_option linter.unusedVariables false
set_option maxRecDepth 8000
set_option maxHeartbeats 4000000
namespace Go.Proofs.YthlkcebdfbjdoaaGreat
namespace Ev
def gEnd(tab:List (List (List Int)))(dist ls:List Int):Nat->List Int->List Int
 |0,at_=>at_
 |d+1,at_=>gEnd tab dist ls d (OK tab dist at_ d (ls.length+1) 0).2
theorem aBx{tab:List (List (List Int))}{dist ls at_:List Int}{d:Int}(h:∃e,e<ls.length/\bE tab dist e d at_ []≠[]):∃e,e<ls.length/\OK tab dist at_ d (ls.length+1) 0=(e,bE tab dist e d at_ [])/\bE tab dist e d at_ []≠[]/\∀f,f<e->bE tab dist f d at_ []=[]:=by
 obtain⟨e0,h1,h2⟩:=h;obtain⟨e,_,_,g1,g2,g3⟩:=aCC (tab:=tab) (dist:=dist) (at_:=at_) (d:=d) (ls.length+1) 0 ⟨e0,by omega,by omega,h2⟩;refine⟨e,?_,g1,g2,fun f hf=>g3 f om hf⟩
 by_cases hlt:e0<e
 ·exact(h2 (g3 e0 om hlt)).elim
 ·omega
theorem WA{R:Type}{L n:Nat}(hn:6<=n)(hL:2^60<=L){c2 c3 c5 c6:D}{al:Int}{zs ls dist:List Int}{tab:List (List (List Int))}{aM i6:Nat}{i9:Int}(ht:AL tab aM)(hd:dist.length=aM)(htt:aM<=16777216)(hkk:∀kk,kk<ls.length->∀i,i<aM->kk<(tab.getD i []).length/\((tab.getD i []).getD kk []).length<=64)(hls:ls.length<=6)(hlr:∀c∈ls,0<=c/\c<=5){Q:Nat->List Int->Prop}
  (hQ:∀d at_,Q (d+1) at_->at_.length<=16777216/\(∀x∈at_,0<=x/\x<aM)/\(∃e,e<ls.length/\bE tab dist e d at_ []≠[])/\∀e,e<ls.length->bE tab dist e d at_ []≠[]->Q d (bE tab dist e d at_ [])) {k:KE R}:∀(j:Nat) (d:Int) (m:Nat) (at_:List Int) (o:List UInt8) (hj:(j:Int)=d) (hm:j<m) (hd1:d<=16777300) (hat:Q j at_) (ho:o.length+j<=100000000),
  aS env (aA env L n) L 0 [] Bz0 (dU 2) Bz15 m (Y1 (.ptr 0 0 0::.d (.str [])::.d (.bool false)::.d (.ivs zs.length (ints zs))::nI aM::nI i6::.d (.ivs tab.length (tabD tab))::.sl 1 0 0 dist.length::nI i9::.d (.ivs at_.length (ints at_))::.d (.ivs ls.length (ints ls))::.d (.str o)::nI d::Y32 (Y32 (Y16 (Y8 (Y4 (Y1 ([])))))))) [.box [.sl 2 0 0 0,.d c2,.d c3,nI al,.d c5,.d c6],.ice (ints dist) 1 0,.ice [] 0 0] k
  =k (.exit 4) (Y1 (.ptr 0 0 0::.d (.str [])::.d (.bool false)::.d (.ivs zs.length (ints zs))::nI aM::nI i6::.d (.ivs tab.length (tabD tab))::.sl 1 0 0 dist.length::nI i9::.d (.ivs (gEnd tab dist ls j at_).length (ints (gEnd tab dist ls j at_)))::.d (.ivs ls.length (ints ls))::.d (.str ((o++txt (mM tab dist ls j at_))))::nI 0::Y32 (Y32 (Y16 (Y8 (Y4 (Y1 ([])))))))) [.box [.sl 2 0 0 0,.d c2,.d c3,nI al,.d c5,.d c6],.ice (ints dist) 1 0,.ice [] 0 0]:=by
 intro j
 induction j with
 |zero=>
  intro d m at_ o hj hm hd1 hat ho;obtain _|m:=m;omega;obtain rfl:d=0:=om;simp only[gEnd,mM,txt,Ap,Ai]
  simp-implicitDefEqProofs (maxSteps:=9^7) (disch:=try exact Dz) only[↓DN,↓kRet,UP,simprocAttr,Aj,nK,oI,Tryz.f105]
 |succ j ih=>
  intro d m at_ o hj hm hd1 hat ho;obtain _|m:=m;omega;obtain⟨q1,q2,q3,q4⟩:=hQ j at_ hat;obtain⟨e,e1,e2,e3,e4⟩:=aBx q3;have hd0:0<d:=om;have hat2:=q4 e e1 e3;have hj:(j:Int)=d-1:=om;simp only[gEnd,mM,e2];rw[hj]at hat2|-;have kc_c:=fun {R:Type} {n:Nat} {k:KA R} (hn:4<=n)=> @rN R env (aA env L n) [.box [.sl 2 0 0 0,.d c2,.d c3,nI al,.d c5,.d c6],.ice (ints dist) 1 0,.ice [] 0 0] [.ice (ints dist) 1 0] [.ice (ints dist) 1 0] [.box [.sl 2 0 0 0,.d c2,.d c3,nI al,.d c5,.d c6],.ice (ints dist) 1 0,.ice [] 0 0] 135 [.d (.ivs tab.length (tabD tab)),.sl 1 0 0 dist.length,.d (.ivs at_.length (ints at_)),nI ((0:Nat):Int),nI (d-1)] [.d (.ivs tab.length (tabD tab)),.d (.ivs dist.length (ints dist)),.d (.ivs at_.length (ints at_)),nI ((0:Nat):Int),nI (d-1)] _ k [1] [1] jH rfl kr rfl (by simp[eA,frzA,frz,frz0,aE,mapA,aI,deep,fY,dX]) rfl (@uJ L n hn hL tab dist at_ (d-1) 0 aM ht hd htt q1 q2 (hkk 0 om)) rfl sm rfl;have loop_c:=fun {R:Type} {n:Nat} (hn:5<=n) {k:KE R}=> @V0 R L n hn hL c2 c3 c5 c6 al d zs ls dist at_ o tab aM i6 e i9 ht hd htt q1 q2 hkk om om hls e1 (by rw[<-hj];exact e3) k e 0 L om om (fun f _ h=>by rw[<-hj];exact e4 f h);simp only[Aq]at kc_c loop_c;obtain⟨l0,l5⟩:=hlr _ (kK e1);have hc:(e:Int)<ls.length:=om;have he0:(0:Int)<=e:=om;have ih':=ih (d-1) m (bE tab dist e (d-1) at_ []) (o++[bR (ls.getD e 0)]) hj om om hat2 (by simp;omega);simp only[txt,Ah,Am,Av,Ao]at ih'|-;clear ih hkk ht hQ hat hat2 q2 q3 q4 e2 e3 e4 hlr;generalize bE tab dist e (d-1) at_ []=w at *
  generalize bE tab dist 0 (d-1) at_ []=w0 at *
  simp-implicitDefEqProofs (maxSteps:=9^7) (disch:=try exact Dz) only[↓DN,↓kAsg,↓kRet,UP,simprocAttr,↓KN,hc,he0,hd0,↓kc_c,↓loop_c,↓ih',nK,oI,Tryz.f105]
theorem VX{R:Type}{L n m:Nat}{c2 c3 c5 c6:D}{al:Int}{zs ls dist:List Int}{tab:List (List (List Int))}{aM i6:Nat}{i9:Int}{d:Int}{o:List UInt8}{at_:List Int}(hd:¬0<d){k:KE R}:
  aS env (aA env L n) L 0 [] Bz0 (dU 2) Bz15 (m+1) (Y1 (.ptr 0 0 0::.d (.str [])::.d (.bool false)::.d (.ivs zs.length (ints zs))::nI aM::nI i6::.d (.ivs tab.length (tabD tab))::.sl 1 0 0 dist.length::nI i9::.sl 2 0 0 at_.length::.d (.ivs ls.length (ints ls))::.d (.str o)::nI d::Y32 (Y32 (Y16 (Y8 (Y4 (Y1 ([])))))))) [.box [.sl 3 0 0 0,.d c2,.d c3,nI al,.d c5,.d c6],.arr (ints dist) 1 0,.arr (ints at_) 1 0,.ice [] 0 0] k
  =k (.exit 4) (Y1 (.ptr 0 0 0::.d (.str [])::.d (.bool false)::.d (.ivs zs.length (ints zs))::nI aM::nI i6::.d (.ivs tab.length (tabD tab))::.sl 1 0 0 dist.length::nI i9::.sl 2 0 0 at_.length::.d (.ivs ls.length (ints ls))::.d (.str o)::nI d::Y32 (Y32 (Y16 (Y8 (Y4 (Y1 ([])))))))) [.box [.sl 3 0 0 0,.d c2,.d c3,nI al,.d c5,.d c6],.arr (ints dist) 1 0,.arr (ints at_) 1 0,.ice [] 0 0]:=by
 simp-implicitDefEqProofs (maxSteps:=9^7) (disch:=try exact Dz) only[↓DN,↓kRet,UP,simprocAttr,hd,nK,oI,Tryz.f105]
theorem V4{R:Type}{L n:Nat}(hn:6<=n)(hL:2^60<=L){c2 c3 c5 c6:D}{al:Int}{zs ls dist:List Int}{tab:List (List (List Int))}{aM i6:Nat}{i9:Int}(ht:AL tab aM)(hd:dist.length=aM)(htt:aM<=16777216)(hkk:∀kk,kk<ls.length->∀i,i<aM->kk<(tab.getD i []).length/\((tab.getD i []).getD kk []).length<=64)(hls:ls.length<=6)(hlr:∀c∈ls,0<=c/\c<=5){Q:Nat->List Int->Prop}
  (hQ:∀d at_,Q (d+1) at_->at_.length<=16777216/\(∀x∈at_,0<=x/\x<aM)/\(∃e,e<ls.length/\bE tab dist e d at_ []≠[])/\∀e,e<ls.length->bE tab dist e d at_ []≠[]->Q d (bE tab dist e d at_ [])) {k:KE R} (j:Nat) (d:Int) (m:Nat) (at_:List Int) (o:List UInt8) (hj:((j+1:Nat):Int)=d) (hm:j+1<m) (hd1:d<=16777300) (hat:Q (j+1) at_) (ho:o.length+(j+1)<=100000000):
  aS env (aA env L n) L 0 [] Bz0 (dU 2) Bz15 m (Y1 (.ptr 0 0 0::.d (.str [])::.d (.bool false)::.d (.ivs zs.length (ints zs))::nI aM::nI i6::.d (.ivs tab.length (tabD tab))::.sl 1 0 0 dist.length::nI i9::.sl 2 0 0 at_.length::.d (.ivs ls.length (ints ls))::.d (.str o)::nI d::Y32 (Y32 (Y16 (Y8 (Y4 (Y1 ([])))))))) [.box [.sl 3 0 0 0,.d c2,.d c3,nI al,.d c5,.d c6],.arr (ints dist) 1 0,.arr (ints at_) 1 0,.ice [] 0 0] k
  =k (.exit 4) (Y1 (.ptr 0 0 0::.d (.str [])::.d (.bool false)::.d (.ivs zs.length (ints zs))::nI aM::nI i6::.d (.ivs tab.length (tabD tab))::.sl 1 0 0 dist.length::nI i9::.d (.ivs (gEnd tab dist ls (j+1) at_).length (ints (gEnd tab dist ls (j+1) at_)))::.d (.ivs ls.length (ints ls))::.d (.str ((o++txt (mM tab dist ls (j+1) at_))))::nI 0::Y32 (Y32 (Y16 (Y8 (Y4 (Y1 ([])))))))) [.box [.sl 2 0 0 0,.d c2,.d c3,nI al,.d c5,.d c6],.ice (ints dist) 1 0,.ice [] 0 0]:=by
  obtain _|m:=m;omega;obtain⟨q1,q2,q3,q4⟩:=hQ j at_ hat;obtain⟨e,e1,e2,e3,e4⟩:=aBx q3;have hd0:0<d:=om;have hat2:=q4 e e1 e3;have hj:(j:Int)=d-1:=om;simp only[gEnd,mM,e2];rw[hj]at hat2|-;have kc_c:=fun {R:Type} {n:Nat} {k:KA R} (hn:4<=n)=> @rN R env (aA env L n) [.box [.sl 3 0 0 0,.d c2,.d c3,nI al,.d c5,.d c6],.arr (ints dist) 1 0,.arr (ints at_) 1 0,.ice [] 0 0] [.arr (ints dist) 1 0,.arr (ints at_) 1 0] [.ice (ints dist) 1 0,.ice (ints at_) 1 0] [.box [.sl 3 0 0 0,.d c2,.d c3,nI al,.d c5,.d c6],.ice (ints dist) 1 0,.ice (ints at_) 1 0,.ice [] 0 0] 135 [.d (.ivs tab.length (tabD tab)),.sl 1 0 0 dist.length,(.sl 2 0 0 at_.length),nI ((0:Nat):Int),nI (d-1)] [.d (.ivs tab.length (tabD tab)),.d (.ivs dist.length (ints dist)),.d (.ivs at_.length (ints at_)),nI ((0:Nat):Int),nI (d-1)] _ k [1,2] [1,2] jH rfl kr rfl (by simp[eA,frzA,frz,frz0,aE,mapA,aI,deep,fY,dX]) rfl (@uJ L n hn hL tab dist at_ (d-1) 0 aM ht hd htt q1 q2 (hkk 0 om)) rfl sm rfl;have loop_c:=fun {R:Type} {n:Nat} (hn:5<=n) {k:KE R}=> @V5 R L n hn hL c2 c3 c5 c6 al d zs ls dist at_ o tab aM i6 e i9 ht hd htt q1 q2 hkk om om hls e1 (by rw[<-hj];exact e3) k e 0 L om om (fun f _ h=>by rw[<-hj];exact e4 f h);simp only[Aq]at kc_c loop_c;obtain⟨l0,l5⟩:=hlr _ (kK e1);have hc:(e:Int)<ls.length:=om;have he0:(0:Int)<=e:=om
  have ih':=fun {R:Type} {n:Nat} (hn:6<=n) {k:KE R}=> @WA R L n hn hL c2 c3 c5 c6 al zs ls dist tab aM i6 i9 ht hd htt hkk hls hlr Q hQ k j (d-1) m (bE tab dist e (d-1) at_ []) (o++[bR (ls.getD e 0)]) hj om om hat2 (by simp;omega);simp only[txt,Ah,Am,Av,Ao]at ih'|-;clear hkk ht hQ hat hat2 q2 q3 q4 e2 e3 e4 hlr;generalize bE tab dist e (d-1) at_ []=w at *;generalize bE tab dist 0 (d-1) at_ []=w0 at *
  simp-implicitDefEqProofs (maxSteps:=9^7) (disch:=try exact Dz) only[↓DN,↓kAsg,↓kRet,UP,simprocAttr,↓KN,hc,he0,hd0,↓kc_c,↓loop_c,↓ih',nK,oI,Tryz.f105]
section
theorem hY:∀ {N:Nat} {l:List Int},l.Nodup->(∀x∈l,0<=x/\x<N)->l.length<=N
 |0,l,_,hr=>by
  cases l with
  |nil=>exact Ab _
  |cons x l=>have:=hr x Bi;omega
 |N+1,l,hn,hr=>by
  by_cases h:(N:Int)∈l
  ·have h1:=hY (N:=N) (l:=l.erase (N:Int)) (hn.erase (N:Int)) (fun x hx=>by
    rw[hn.mem_erase_iff]at hx;have:=hr x hx.2;omega)
   rw[List.length_erase_of_mem h]at h1;omega
  ·have h1:=hY (N:=N) hn (fun x hx=>by
    have:=hr x hx;have:x≠N:=fun e=>h (e▸hx);omega)
   omega
theorem OH{dist:List Int}{d:Int}:∀(ms out:List Int),out.Nodup->(addC dist d ms out).Nodup
 | [],out,h=>h
 |m::ms,out,h=>by
  unfold addC
  split
  ·rename_i hc
   refine OH ms _ ?_;rw[Ds];exact⟨h,by simp,fun a ha b hb=>by simp at hb;subst hb;exact fun e=>hc.2 (e▸ha)⟩
  ·exact OH ms out h
theorem TF{tab:List (List (List Int))}{dist:List Int}{k:Nat}{d:Int}:∀(vs out:List Int),out.Nodup->(bE tab dist k d vs out).Nodup
 | [],out,h=>h
 |v::vs,out,h=>TF vs _ (OH _ _ h)
section
variable{nx:Int->Int->List Int}{gl:Int->Bool}{ls:List Int}{aM:Nat}{tab:List (List (List Int))}
theorem aP1:aAE nx ls gl aM ((List.range aM).map (dI gl)) 0:=by
 refine⟨by simp,fun i hi=> ?_⟩
 have e:((List.range aM).map (dI gl)).getD i 0=dI gl i:=by
  rw[Aa,Bd,List.getElem?_range hi];rfl
 rw[e]
 by_cases hg:gl i=true
 ·refine .inl ⟨0,Ab _,by unfold dI;rw[if_pos hg];rfl,SS.2 hg,fun e he=>by omega⟩
 ·refine .inr ⟨by unfold dI;rw[if_neg hg],fun e he ha=> ?_⟩;obtain rfl:e=0:=om;exact hg (SS.1 ha)
theorem aOJ(ht:Tab nx ls aM tab):Full nx ls gl aM (c8 tab (aM+1) 1 ((List.range aM).map (dI gl))):=by
 have:=aLg ht (aM+1) 0 ((List.range aM).map (dI gl)) aP1 (by
  have:=List.countP_le_length (p:=fun(x:Int)=>decide (x<0)) (l:=(List.range aM).map (dI gl));simp at this|-;omega)
 simpa using this
theorem OF{d B:Int}(hd:d<=B):∀(j i:Nat) (q:List Int×Bool),(∀x∈q.1,x<=B)->∀x∈(dD tab d j i q).1,x<=B
 |0,_,q,h=>h
 |j+1,i,q,h=>by
  simp only[dD]
  split
  ·refine OF hd j _ _ fun x hx=> ?_
   rcases Dl hx with hx|rfl
   ·exact h x hx
   ·exact hd
  ·exact OF hd j _ q h
theorem aA3{B:Int}:∀(j:Nat) (d:Int) (dist:List Int),d+j<=B+1->(∀x∈dist,x<=B)->∀x∈c8 tab j d dist,x<=B
 |0,d,dist,_,h=>h
 |j+1,d,dist,hd,h=>by
  have hr:=OF (tab:=tab) (d:=d) (B:=B) om dist.length 0 (dist,false) h;simp only[c8]
  split
  ·exact aA3 j (d+1) _ om hr
  ·exact hr
def Qs(nx:Int->Int->List Int)(ls:List Int)(gl:Int->Bool)(aM d:Nat)(at_:List Int):Prop:=(∀v∈at_,(0<=v/\v<aM)/\Far nx ls gl v d)/\at_≠[]/\at_.length<=aM
theorem aO2(ht:Tab nx ls aM tab){dist:List Int}(hf:Full nx ls gl aM dist)(htt:aM<=16777216):∀d at_,Qs nx ls gl aM (d+1) at_->at_.length<=16777216/\(∀x∈at_,0<=x/\x<aM)/\(∃e,e<ls.length/\bE tab dist e d at_ []≠[])/\∀e,e<ls.length->bE tab dist e d at_ []≠[]->Qs nx ls gl aM d (bE tab dist e d at_ []):=by
 intro d at_ ⟨h1,h2,h3⟩
 have hmem:∀k x,k<ls.length->(x∈bE tab dist k d at_ []↔∃v∈at_,x∈nx v (ls.getD k 0)/\(0<=x/\x<aM)/\Far nx ls gl x d):=by
  intro k x hk;rw[OA];simp only[Bo,false_or];have hl:ls.getD k 0∈ls:=by rw[Aa,Ae hk];exact Az hk
  constructor
  ·rintro⟨v,hv,g1,g2⟩;have hr:=(h1 v hv).1;rw[UY ht hr.1 hr.2 hk]at g1;have hx:=ht.rng v _ hr.1 hr.2 hl x g1;exact⟨v,hv,g1,hx,(FM hf hx.1 hx.2).1 g2⟩
  ·rintro⟨v,hv,g1,g2,g3⟩;have hr:=(h1 v hv).1;refine⟨v,hv,?_,(FM hf g2.1 g2.2).2 g3⟩;rw[UY ht hr.1 hr.2 hk];exact g1
 refine⟨by omega,fun x hx=>(h1 x hx).1,?_,?_⟩
 ·obtain⟨v,hv⟩:=List.exists_mem_of_ne_nil _ h2;obtain⟨hr,hfar⟩:=h1 v hv;obtain⟨l,hl,m,hm,hfm⟩:=MY hfar;obtain⟨e,he,rfl⟩:=Ck hl;refine⟨e,he,fun hc=> ?_⟩;have hl2:ls.getD e 0=ls[e]:=by rw[Aa,Ae he];rfl
  have:m∈bE tab dist e d at_ []:=(hmem e m he).2 ⟨v,hv,by rw[hl2];exact hm,ht.rng v _ hr.1 hr.2 hl m hm,hfm⟩;rw[hc]at this;cases this
 ·intro e he hne;refine⟨fun x hx=> ?_,hne,?_⟩
  ·obtain⟨v,hv,g1,g2,g3⟩:=(hmem e x he).1 hx;exact⟨g2,g3⟩
  ·refine hY (TF _ _ sm) fun x hx=> ?_;obtain⟨v,hv,g1,g2,g3⟩:=(hmem e x he).1 hx;exact g2
end
def movT(nx:Int->Int->List Int)(ls:List Int)(aM:Nat):List (List (List Int)):=(List.range aM).map fun(v:Nat)=>ls.map (nx v)
def U0(nx:Int->Int->List Int)(gl:Int->Bool)(ls:List Int)(aM:Nat)(s:Int):List Int×Bool:=
 aB9 (movT nx ls aM) ls (c8 (movT nx ls aM) (aM+1) 1 ((List.range aM).map (dI gl))) s
theorem YO{nx:Int->Int->List Int}{ls:List Int}{aM:Nat}(hr:∀v c:Int,0<=v->v<aM->c∈ls->∀m∈nx v c,0<=m/\m<aM):Tab nx ls aM (movT nx ls aM):=by
 refine⟨by simp[movT],fun v hv=> ?_,hr⟩;rw[movT,Aa,Bd,List.getElem?_range hv];rfl
theorem aHF{nx:Int->Int->List Int}{gl:Int->Bool}{ls:List Int}{aM:Nat}{s:Int}(hr:∀v c:Int,0<=v->v<aM->c∈ls->∀m∈nx v c,0<=m/\m<aM)(ha:ls.Pairwise (·<·))(h0:0<=s)(h1:s<aM):EG (Hits nx ls [s] gl) (U0 nx gl ls aM s):=
 aNw (YO hr) (aOJ (YO hr)) ha h0 h1
theorem SI{L n:Nat}(hn:11<=n)(hL:2^60<=L){n2:Nat}{d2:List D}{kd go:Int}{al s:Int}{start zs:List Int}{nx:Int->Int->List Int}{gl:Int->Bool}{tt:Nat}(hzl:zs.length<=1000)(hsl:start.length=zs.length)(hpr:∀i,i<=zs.length->0<=(zs.take i).foldl (·*·) 1/\(zs.take i).foldl (·*·) 1<=16777216)(hzt:zs.foldl (·*·) (1:Int)=(tt:Int))(hzp:∀z∈zs,0<z/\z<=65536)(hen:NQ zs start 0)(hes:encN zs start 0=s)(hs0:0<=s)(hs1:s<tt)
  (he_z:∀ {n:Nat},2<=n->aA env L n 129 [.agg [.d (.ivs 0 []),.d (.ivs n2 d2),.d (.ivs start.length (ints start)),nI al,nI kd,nI go]] []=some (.d (.ivs zs.length (ints zs)),[]))
  (kc_x:∀(v:Nat) (l:Int),v<tt->l∈aB al->∀ {R:Type} {n:Nat} {hq:H} {k:KA R},7<=n->aW env (aA env L n) hq 150 [.agg [.d (.ivs 0 []),.d (.ivs n2 d2),.d (.ivs start.length (ints start)),nI al,nI kd,nI go],.d (.ivs zs.length (ints zs)),.d (.ivs zs.length (ints (decN zs v))),nI l] k=k (.d (.ivs (nx v l).length (ints (nx v l)))) hq)
  (kl_x:∀(v:Nat),v<tt->∀ {R:Type} {n:Nat} {k:A->Option R},2<=n->pJ (aA env L n) 131 [.agg [.d (.ivs 0 []),.d (.ivs n2 d2),.d (.ivs start.length (ints start)),nI al,nI kd,nI go],.d (.ivs zs.length (ints (decN zs v))),.d (.ivs ((movT nx (aB al) tt).getD v []).length (aL ((movT nx (aB al) tt).getD v [])))] k=k (.d (.bool (gl v))))
  (hw:∀v c:Int,0<=v->v<tt->c∈aB al->(nx v c).length<=64/\∀m∈nx v c,0<=m/\m<tt):
  aA env L n 105 [.agg [.d .nils,.d (.ivs n2 d2),.d (.ivs start.length (ints start)),nI al,nI kd,nI go]] []=some (.tup [.d (.str (txt (U0 nx gl (aB al) tt s).1)),.d (.bool (U0 nx gl (aB al) tt s).2)],[]):=by
 have htt:tt<=16777216:=by have:=(hpr zs.length (Ab _)).2;rw[Cx,hzt]at this;omega
 have hrng:∀v c:Int,0<=v->v<tt->c∈aB al->∀m∈nx v c,0<=m/\m<tt:=fun v c h1 h2 h3=>(hw v c h1 h2 h3).2;have hT:=YO hrng;have hF:=aOJ (gl:=gl) hT;have hq:=aO2 hT hF htt;have hls:=bV al;have hTl:(movT nx (aB al) tt).length=tt:=by simp[movT]
 have hTin:AL (movT nx (aB al) tt) tt:=by
  refine⟨hTl,fun i hi=> ?_⟩;rw[hT.row i hi];refine⟨by simp;omega,fun r hr=> ?_⟩;obtain⟨c,hc,rfl⟩:=Bp.1 hr;have:=hw i c om om hc;exact⟨by omega,this.2⟩
 have hkk:∀kk,kk<(aB al).length->∀i,i<tt->kk<((movT nx (aB al) tt).getD i []).length/\(((movT nx (aB al) tt).getD i []).getD kk []).length<=64:=by
  intro kk hk i hi;rw[hT.row i hi];refine⟨by simpa using hk,?_⟩;rw[Aa,Bd,Ae hk];exact(hw i _ om om (Az hk)).1
 have kc_z:=fun {R:Type} {n:Nat} (hn:2<=n) {k:KA R}=> @rN R env (aA env L n) [.arr [] 0 0,.box [.sl 0 0 0 0,.d (.ivs n2 d2),.d (.ivs start.length (ints start)),nI al,nI kd,nI go]] [.arr [] 0 0] [.ice [] 0 0] [.ice [] 0 0,.box [.sl 0 0 0 0,.d (.ivs n2 d2),.d (.ivs start.length (ints start)),nI al,nI kd,nI go]] 129 [.agg [.sl 0 0 0 0,.d (.ivs n2 d2),.d (.ivs start.length (ints start)),nI al,nI kd,nI go]] [.agg [.d (.ivs 0 []),.d (.ivs n2 d2),.d (.ivs start.length (ints start)),nI al,nI kd,nI go]] _ k [0] [0] zE rfl kr rfl rfl rfl (he_z hn) rfl sm rfl;have loop_a:=fun {R:Type} {n:Nat} (hn:1<=n) {k:KE R}=> @Y0 R L n hn (.ivs n2 d2) (.ivs start.length (ints start)) (.int .i64 kd) (.int .i64 go) al zs hzl hpr k zs.length 0 L om om;have kc_m:=fun {R:Type} {n:Nat} (hn:9<=n) {k:KA R}=> @rN R env (aA env L n) [.box [.sl 1 0 0 0,.d (.ivs n2 d2),.d (.ivs start.length (ints start)),nI al,nI kd,nI go],.ice [] 0 0] [.ice [] 0 0] [.ice [] 0 0] [.box [.sl 1 0 0 0,.d (.ivs n2 d2),.d (.ivs start.length (ints start)),nI al,nI kd,nI go],.ice [] 0 0] 130 [.agg [.sl 1 0 0 0,.d (.ivs n2 d2),.d (.ivs start.length (ints start)),nI al,nI kd,nI go],.d (.ivs zs.length (ints zs)),nI tt] [.agg [.d (.ivs 0 []),.d (.ivs n2 d2),.d (.ivs start.length (ints start)),nI al,nI kd,nI go],.d (.ivs zs.length (ints zs)),nI tt] _ k [1] [1] zC rfl kr rfl rfl rfl (aFV hn hL hzl htt hzp kc_x) rfl sm rfl
 have loop_b:=fun {R:Type} {n:Nat} (hn:4<=n) {k:KE R}=> @ZI R L n hn hL (.ivs n2 d2) (.ivs start.length (ints start)) (.int .i64 kd) (.int .i64 go) al zs (movT nx (aB al) tt) tt zs.length gl hzl htt hzp hTl kl_x k tt 0 L (List.replicate tt 0) tt om om rfl sm;have hd0:((List.range tt).map (dI gl)).length=tt:=sm;have hd1:(c8 (movT nx (aB al) tt) (tt+1) 1 ((List.range tt).map (dI gl))).length=tt:=hF.1;have kc_d:∀ {R:Type} {n:Nat} (hn:4<=n) {k:KA R},aW env (aA env L n) [.box [.sl 2 0 0 0,.d (.ivs n2 d2),.d (.ivs start.length (ints start)),nI al,nI kd,nI go],.arr (ints ((List.range tt).map (dI gl))) 1 0,.ice [] 0 0] 133 [.d (.ivs (movT nx (aB al) tt).length (tabD (movT nx (aB al) tt))),.sl 1 0 0 ((List.range tt).map (dI gl)).length] k=k (.tup []) [.box [.sl 2 0 0 0,.d (.ivs n2 d2),.d (.ivs start.length (ints start)),nI al,nI kd,nI go],.arr (ints (c8 (movT nx (aB al) tt) (tt+1) 1 ((List.range tt).map (dI gl)))) 1 0,.ice [] 0 0]:=fun {R n} hn {k}=>RL (id:=1) rfl rfl CO rfl (aIG hn hL hTin htt _ hd0);have kc_e:=fun {R:Type} {n:Nat} (hn:2<=n) {hq:H} {k:KA R}=> @aFc R L n hq k hn zs start hzl hsl hen hL
 have hQ0:0<=(c8 (movT nx (aB al) tt) (tt+1) 1 ((List.range tt).map (dI gl))).getD s.toNat 0->Qs nx (aB al) gl tt ((c8 (movT nx (aB al) tt) (tt+1) 1 ((List.range tt).map (dI gl))).getD s.toNat 0).toNat [s]:=by
  intro h;refine⟨fun v hv=> ?_,by simp,by simp;omega⟩;simp at hv;subst hv;exact⟨⟨hs0,hs1⟩,(FM hF hs0 hs1).1 om⟩
 have hdb:(c8 (movT nx (aB al) tt) (tt+1) 1 ((List.range tt).map (dI gl))).getD s.toNat 0<=16777300:=by
  have hk:s.toNat<(c8 (movT nx (aB al) tt) (tt+1) 1 ((List.range tt).map (dI gl))).length:=om;refine aA3 (B:=16777300) _ _ _ om (fun x hx=> ?_) _ (kK hk);obtain⟨v,_,rfl⟩:=Bp.1 hx;unfold dI
  split<;>omega
 simp only[Aq,List.take_zero,List.foldl_nil,Ao,hzt,<-List.range_eq_range']at loop_a loop_b;rw[hes]at kc_e;have em:(List.range tt).map (fun(x:Nat)=>(aB al).map (nx x))=movT nx (aB al) tt:=rfl;rw[em]at kc_m;rw[hTl]at kc_d loop_b;rw[hd0]at kc_d;unfold U0 aB9;have loop_2:=fun {R:Type} {n:Nat} (hn:6<=n) {k:KE R} (j:Nat) (hj) (hm) (h1) (h2) (h3)=> @V4 R L n hn hL (.ivs n2 d2) (.ivs start.length (ints start)) (.int .i64 kd) (.int .i64 go) al zs (aB al) _ _ tt zs.length tt hTin hd1 htt hkk hls (fun c hc=>cF c hc) _ hq k j ((c8 (movT nx (aB al) tt) (tt+1) 1 ((List.range tt).map (dI gl))).getD s.toNat 0) L [s] [] hj hm h1 h2 h3;rw[hTl,hd1]at loop_2;clear hkk hTin kl_x kc_x he_z hw hrng
 have hgt0:0<(c8 (movT nx (aB al) tt) (tt+1) 1 ((List.range tt).map (dI gl))).getD s.toNat 0->Qs nx (aB al) gl tt (((c8 (movT nx (aB al) tt) (tt+1) 1 ((List.range tt).map (dI gl))).getD s.toNat 0).toNat-1+1) [s]:=by
  intro h;have h2:=hQ0 om;rw[show((c8 (movT nx (aB al) tt) (tt+1) 1 ((List.range tt).map (dI gl))).getD s.toNat 0).toNat-1+1=((c8 (movT nx (aB al) tt) (tt+1) 1 ((List.range tt).map (dI gl))).getD s.toNat 0).toNat by omega];exact h2
 have loop_2:=fun {R:Type} {n:Nat} (hn:6<=n) {k:KE R} (h:0<(c8 (movT nx (aB al) tt) (tt+1) 1 ((List.range tt).map (dI gl))).getD s.toNat 0)=>loop_2 (R:=R) (n:=n) hn (k:=k) (((c8 (movT nx (aB al) tt) (tt+1) 1 ((List.range tt).map (dI gl))).getD s.toNat 0).toNat-1) om om hdb (hgt0 h) (by simp only[Ac];omega);clear hT hF hq hQ0 hgt0;generalize c8 (movT nx (aB al) tt) (tt+1) 1 ((List.range tt).map (dI gl))=dist at *;generalize movT nx (aB al) tt=tab at *;generalize(List.range tt).map (dI gl)=dz at *;have hrep:(List.replicate tt (0:Int)).length=tt:=sm;have hsn:s.toNat<dist.length:=om;have hs2:s<(dist.length:Int):=om;have hs3:s<(tt:Int):=om;have htt0:(0:Int)<=tt:=om;have esn:ints [s]=[.int .i64 s]:=rfl;have e1:[s].length=1:=rfl;rw[esn,e1]at loop_2;have loop_z:=fun {R:Type} {n m:Nat} {k:KE R} (h:¬0<dist.getD s.toNat 0)=> @VX R L n m (.ivs n2 d2) (.ivs start.length (ints start)) (.int .i64 kd) (.int .i64 go) al zs (aB al) dist tab tt zs.length tt (dist.getD s.toNat 0) [] [s] h k;rw[hTl,hd1,esn,e1]at loop_z;generalize hdd:dist.getD s.toNat 0=d at *;obtain _|L:=L;omega
 rcases Int.lt_trichotomy d 0 with hlt|heq|hgt
 ·have loop_z:=fun {R:Type} {n m:Nat} {k:KE R}=>loop_z (R:=R) (n:=n) (m:=m) (k:=k) om;have hne:¬d=0:=om;rw[if_pos hlt];clear loop_2;obtain _|n:=n;omega
  simp-implicitDefEqProofs (maxSteps:=9^7) (disch:=try exact Dz) only[↓DN,↓kAsg,↓kRet,UP,simprocAttr,↓fQ,↓kc_z,↓loop_a,↓kc_m,↓I5,↓loop_b,↓kc_d,↓kc_e,↓loop_z,hdd,hne,hs0,hs3,FR,AV,Tryz.f105]<;>rfl
 ·subst heq;have loop_z:=fun {R:Type} {n m:Nat} {k:KE R}=>loop_z (R:=R) (n:=n) (m:=m) (k:=k) om;rw[if_neg om];clear loop_2;obtain _|n:=n;omega
  simp-implicitDefEqProofs (maxSteps:=9^7) (disch:=try exact Dz) only[↓DN,↓kAsg,↓kRet,UP,simprocAttr,↓fQ,↓kc_z,↓loop_a,↓kc_m,↓I5,↓loop_b,↓kc_d,↓kc_e,↓loop_z,hdd,hs0,hs3,FR,AV,Tryz.f105]<;>rfl
 ·have loop_y:=fun {R:Type} {n:Nat} (hn:6<=n) {k:KE R}=>loop_2 (R:=R) (n:=n) hn (k:=k) hgt;rw[if_neg om];simp only[Ao]at loop_y;have ed:d.toNat-1+1=d.toNat:=om;rw[ed]at loop_y;clear loop_2 loop_z;generalize gEnd tab dist (aB al) d.toNat [s]=ge at *;generalize mM tab dist (aB al) d.toNat [s]=gr at *;obtain _|n:=n;omega
  simp-implicitDefEqProofs (maxSteps:=9^7) (disch:=try exact Dz) only[↓DN,↓kAsg,↓kRet,UP,simprocAttr,↓fQ,↓kc_z,↓loop_a,↓kc_m,↓I5,↓loop_b,↓kc_d,↓kc_e,↓loop_y,hdd,hs0,hs3,FR,AV,Tryz.f105]
end
section
def addU(out:List Int)(x:Int):List Int:=if x∈out then out else out++[x]
def rowU(out r:List Int):List Int:=r.foldl addU out
section
variable(go:Int->Int->Int)(ls:List Int)
def ordB:Nat->Nat->List Int->List Int
 |0,_,out=>out
 |j+1,i,out=>if i<out.length then ordB j (i+1) (rowU out (ls.map (go (out.getD i 0))))else out
structure Bfs(n i:Nat)(done out:List Int)(W:Nat->List Int):Prop where
 pos:0<out.length
 w0:W 0=[]
 o0:out.getD 0 0=0
 nod:out.Nodup
 rng:∀x∈out,0<=x/\x<n
 run:∀k,k<out.length->(W k).foldl go 0=out.getD k 0
 lts:∀k,k<out.length->∀l∈W k,l∈ls
 asc:∀j k,j<k->k<out.length->slt (W j) (W k)
 pre:∀k,0<k->k<out.length->∃p l,p<k/\l∈ls/\W k=W p++[l]/\(p<i\/p=i/\l∈done)
 clo:∀p l,p<out.length->l∈ls->(p<i\/p=i/\l∈done)->∃q,q<out.length/\out.getD q 0=go (out.getD p 0) l/\¬slt (W p++[l]) (W q)
variable{go ls}{n:Nat}
theorem aLw{x y:List Int}(h:slt x y):¬slt y x:=fun k=>aDp x (JU h k)
theorem Bfs.front{i:Nat}{done out rest:List Int}{W:Nat->List Int}{l:Int}(h:Bfs go ls n i done out W)(ha:Asc ls)(hd:ls=done++l::rest)(hi:i<out.length):∀k,k<out.length->slt (W k) (W i++[l]):=by
 intro k hk
 rcases Cs k with rfl|hk0
 ·rw[h.w0];exact .inl sm
 ·obtain⟨p,m,hp,hm,e,hpi⟩:=h.pre k hk0 hk;rw[e,OB]
  rcases hpi with hpi|⟨rfl,hmd⟩
  ·exact .inl (h.asc p i hpi hi)
  ·refine .inr ⟨rfl,?_⟩;rw[hd]at ha;exact(List.pairwise_append.1 ha).2.2 m hmd l Bi
theorem aNa(out:List Int)(x:Int):out.length<=(addU out x).length:=by
 unfold addU;split<;>simp
theorem aOk{out:List Int}{x:Int}{i:Nat}(hi:i<out.length):(addU out x).getD i 0=out.getD i 0:=by
 unfold addU
 split
 ·rfl
 ·exact kO hi
theorem Bfs.step{i:Nat}{done out rest:List Int}{W:Nat->List Int}{l v:Int}(h:Bfs go ls n i done out W)(ha:Asc ls)(hd:ls=done++l::rest)(hi:i<out.length)(hv:out.getD i 0=v)(hx:0<=go v l/\go v l<n):
  ∃W',Bfs go ls n i (done++[l]) (addU out (go v l)) W':=by
 have hf:=h.front ha hd hi;have hl:l∈ls:=by rw[hd];simp
 have hmem:∀ {m:Int},m∈done++[l]↔m∈done\/m=l:=by intro m;simp
 unfold addU
 by_cases hin:go v l∈out
 ·rw[if_pos hin];refine⟨W,h.pos,h.w0,h.o0,h.nod,h.rng,h.run,h.lts,h.asc,?_,?_⟩
  ·intro k h0 hk;obtain⟨p,m,a,b,c,d⟩:=h.pre k h0 hk;refine⟨p,m,a,b,c,?_⟩
   rcases d with d|⟨d,e⟩
   ·exact .inl d
   ·exact .inr ⟨d,hmem.2 (.inl e)⟩
  ·intro p m hp hm hpi
   rcases hpi with hpi|⟨rfl,hpi⟩
   ·exact h.clo p m hp hm (.inl hpi)
   ·rcases hmem.1 hpi with hpi|rfl
    ·exact h.clo p m hp hm (.inr ⟨rfl,hpi⟩)
    ·obtain⟨q,hq,e⟩:=Ck hin;refine⟨q,hq,?_,aLw (hf q hq)⟩;rw[hv,Aa,Ae hq,e];rfl
 ·rw[if_neg hin];have hlen:(out++[go v l]).length=out.length+1:=sm;have hnew:(out++[go v l]).getD out.length 0=go v l:=by rw[Aa];simp
  have hne:∀ {k},k<out.length->¬k=out.length:=om;refine⟨fun k=>if k=out.length then W i++[l]else W k,by simp,?_,?_,?_,?_,?_,?_,?_,?_,?_⟩
  ·have:=h.pos;rw[if_neg om];exact h.w0
  ·rw[kO h.pos];exact h.o0
  ·rw[Ds];refine⟨h.nod,by simp,?_⟩;intro a ha' b hb e;simp at hb;subst hb;subst e;exact hin ha'
  ·intro x hx'
   rcases Al.1 hx' with hx'|hx'
   ·exact h.rng x hx'
   ·simp at hx';subst hx';exact hx
  ·intro k hk;rw[hlen]at hk
   by_cases hk2:k=out.length
   ·subst hk2;rw[if_pos rfl,hnew,List.foldl_append,h.run i hi,hv];rfl
   ·rw[if_neg hk2,kO om];exact h.run k om
  ·intro k hk m hm;rw[hlen]at hk
   by_cases hk2:k=out.length
   ·rw[if_pos hk2]at hm
    rcases Al.1 hm with hm|hm
    ·exact h.lts i hi m hm
    ·simp at hm;subst hm;exact hl
   ·rw[if_neg hk2]at hm;exact h.lts k om m hm
  ·intro j k hjk hk;rw[hlen]at hk;rw[if_neg (by omega:¬j=out.length)]
   by_cases hk2:k=out.length
   ·rw[if_pos hk2];exact hf j om
   ·rw[if_neg hk2];exact h.asc j k hjk om
  ·intro k h0 hk;rw[hlen]at hk
   by_cases hk2:k=out.length
   ·refine⟨i,l,by omega,hl,?_,.inr ⟨rfl,hmem.2 (.inr rfl)⟩⟩;rw[if_pos hk2,if_neg (hne hi)]
   ·obtain⟨p,m,a,b,c,d⟩:=h.pre k h0 om;refine⟨p,m,a,b,?_,?_⟩
    ·rw[if_neg hk2,if_neg (by omega:¬p=out.length)];exact c
    ·rcases d with d|⟨d,e⟩
     ·exact .inl d
     ·exact .inr ⟨d,hmem.2 (.inl e)⟩
  ·intro p m hp hm hpi;rw[hlen]at hp
   have old:∀p m,p<out.length->m∈ls->(p<i\/p=i/\m∈done)->∃q,q<(out++[go v l]).length/\(out++[go v l]).getD q 0=go ((out++[go v l]).getD p 0) m/\¬slt ((if p=out.length then W i++[l]else W p)++[m]) (if q=out.length then W i++[l]else W q):=by
    intro p m hp hm hpi;obtain⟨q,hq,e,hs⟩:=h.clo p m hp hm hpi;refine⟨q,by omega,?_,?_⟩
    ·rw[kO hq,kO hp];exact e
    ·rw[if_neg (hne hp),if_neg (hne hq)];exact hs
   rcases hpi with hpi|⟨rfl,hpi⟩
   ·exact old p m om hm (.inl hpi)
   ·rcases hmem.1 hpi with hpi|rfl
    ·exact old p m hi hm (.inr ⟨rfl,hpi⟩)
    ·refine⟨out.length,by omega,?_,?_⟩
     ·rw[hnew,kO hi,hv]
     ·rw[if_neg (hne hi),if_pos rfl];exact aDp _
theorem Bfs.row{i:Nat}{v:Int}(ha:Asc ls)(hv:∀l∈ls,0<=go v l/\go v l<n):∀(rest done out:List Int) (W:Nat->List Int),Bfs go ls n i done out W->ls=done++rest->i<out.length->out.getD i 0=v->∃W',Bfs go ls n i ls (rowU out (rest.map (go v))) W'/\out.length<=(rowU out (rest.map (go v))).length
 | [],done,out,W,h,hd,hi,ho=>by
  rw[Ai]at hd;subst hd;exact⟨W,h,Ab _⟩
 |l::rest,done,out,W,h,hd,hi,ho=>by
  obtain⟨W1,h1⟩:=h.step ha hd hi ho (hv l (by rw[hd];simp));have hl:=aNa out (go v l);obtain⟨W2,h2,h3⟩:=Bfs.row ha hv rest (done++[l]) _ W1 h1 (by rw[hd];simp) (Dd hi hl) (by rw[aOk hi];exact ho);exact⟨W2,h2,Bv hl h3⟩
theorem Bfs.next{i:Nat}{out:List Int}{W:Nat->List Int}(h:Bfs go ls n i ls out W):Bfs go ls n (i+1) [] out W:=by
 refine⟨h.pos,h.w0,h.o0,h.nod,h.rng,h.run,h.lts,h.asc,?_,?_⟩
 ·intro k h0 hk;obtain⟨p,m,a,b,c,d⟩:=h.pre k h0 hk;exact⟨p,m,a,b,c,.inl om⟩
 ·intro p l hp hl hpi;refine h.clo p l hp hl ?_
  rcases hpi with hpi|⟨_,hpi⟩
  ·by_cases e:p=i
   ·exact .inr ⟨e,hl⟩
   ·exact .inl om
  ·simp at hpi
theorem aJh(ha:Asc ls)(hgo:∀v l:Int,0<=v->v<n->l∈ls->0<=go v l/\go v l<n):∀(j i:Nat) (out:List Int) (W:Nat->List Int),Bfs go ls n i [] out W->i<=out.length->n<i+j->∃W',Bfs go ls n (ordB go ls j i out).length [] (ordB go ls j i out) W'
 |0,i,out,W,h,hi,hj=>by
  have:=hY h.nod h.rng;omega
 |j+1,i,out,W,h,hi,hj=>by
  unfold ordB
  by_cases hlt:i<out.length
  ·rw[if_pos hlt]
   have hm:out.getD i 0∈out:=by
    rw[Aa,Ae hlt];exact Az hlt
   obtain⟨r0,r1⟩:=h.rng _ hm;obtain⟨W1,h1,h2⟩:=Bfs.row ha (fun l hl=>hgo _ l r0 r1 hl) ls [] out W h rfl hlt rfl;exact aJh ha hgo j (i+1) _ W1 h1.next om om
  ·rw[if_neg hlt];obtain rfl:i=out.length:=om;exact⟨W,h⟩
theorem Bfs.start(hn:0<n):Bfs go ls n 0 [] [0] (fun _=>[]):=by
 refine⟨by simp,rfl,rfl,by simp,?_,?_,?_,?_,?_,?_⟩
 ·intro x hx;simp at hx;subst hx;omega
 ·intro k hk;simp at hk;subst hk;rfl
 ·intro k hk l hl;cases hl
 ·intro j k h1 h2;simp at h2;omega
 ·intro k h1 h2;simp at h2;omega
 ·intro p l hp hl h
  rcases h with h|⟨_,h⟩
  ·omega
  ·simp at h
theorem Bfs.least{out:List Int}{W:Nat->List Int}(h:Bfs go ls n out.length [] out W):∀(c:Nat) (w:List Int),w.length=c->(∀l∈w,l∈ls)->∃q,q<out.length/\out.getD q 0=w.foldl go 0/\¬slt w (W q):=by
 intro c
 induction c with
 |zero=>
  intro w hw _;have:w=[]:=By.1 hw;subst this;exact⟨0,h.pos,h.o0,by rw[h.w0];exact aDp _⟩
 |succ c ih=>
  intro w hw hl
  rcases M7 w with rfl|⟨u,l,rfl⟩
  ·simp at hw
  ·obtain⟨p,hp,e,hs⟩:=ih u (by simpa using hw) fun m hm=>hl m (by simp[hm]);obtain⟨q,hq,e2,hs2⟩:=h.clo p l hp (hl l sm) (.inl hp);refine⟨q,hq,by rw[e2,e,List.foldl_append];rfl,fun k=> ?_⟩
   rcases aJs u (W p)with g|g|g
   ·rw[g]at k;exact hs2 k
   ·exact hs g
   ·exact hs2 (JU (OB.2 (.inl g)) k)
theorem Bfs.idx{i:Nat}{done out:List Int}{W:Nat->List Int}(h:Bfs go ls n i done out W){p q:Nat}(hp:p<out.length)(hq:q<out.length)(e:out.getD p 0=out.getD q 0):p=q:=by
 rw[Aa,Ae hp,Aa,Ae hq]at e;exact(List.getElem_inj h.nod).1 e
end
end
theorem GR{p:Nat->Bool}{n:Nat}(h:(seek p n 0).isNone=true){i:Nat}(hi:i<n):p i=false:=
 qF.1 (by simpa using h) i om om
theorem xH{al:Int}{rs:List (List Int)}{ac:List Bool}(h:cY al rs ac=true):uR (aB al).length rs:=by
 unfold cY at h;simp only[Ar]at h;intro r hr;obtain⟨i,hi,rfl⟩:=Ck hr;have hb:=GR h.2 hi;unfold fK at hb;rw[Aa,Ae hi]at hb;apply Ed;intro hc;rw[aGj (by simp only[Bb];omega)]at hb;cases hb
theorem j8{al:Int}{rs:List (List Int)}{ac:List Bool}(h:cY al rs ac=true):1<=rs.length/\rs.length<=12/\ac.length=rs.length/\jF al=true:=by
 unfold cY at h;simp only[Ar,decide_eq_true_eq]at h;obtain⟨⟨⟨⟨h1,h2⟩,h3⟩,h4⟩,_⟩:=h;exact⟨by omega,by omega,by omega,h1⟩
def AOK(a:Aut):Prop:=cY a.al a.nx a.ac=true
theorem aO7{al:Int}{rs:List (List Int)}{ac:List Bool}(h:cY al rs ac=true){q i:Nat}(hq:q<rs.length)(hi:i<(aB al).length):0<=(rs.getD q []).getD i 0/\(rs.getD q []).getD i 0<rs.length:=by
 have hw:=xH h;unfold cY at h;simp only[Ar]at h;have hb:=GR h.2 hq;unfold fK BX at hb;simp only[Bool.or_eq_false_iff,Bool.not_eq_false',decide_eq_true_eq]at hb
 have hn:(seek (badQ rs.length (rs.getD q [])) (rs.getD q []).length 0).isNone=true:=by
  cases hs:seek (badQ rs.length (rs.getD q [])) (rs.getD q []).length 0 with
  |none=>rfl
  |some r=>rw[hs]at hb;cases hb.2
 exact wK.1 (GR hn om)
theorem mI{a:Aut}(h:AOK a){q l:Int}(h0:0<=q)(h1:q<a.nx.length)(h2:0<=l)(h3:l<6):0<=goI a.al a.nx q l/\goI a.al a.nx q l<a.nx.length:=by
 unfold goI
 split
 ·rename_i hb
  exact aO7 h om (BN h2 h3 hb).1
 ·exact⟨h0,h1⟩
theorem lU(al:Int):(aB al).Pairwise (·<·):=by
 unfold aB;exact List.Pairwise.filter _ dc
def nxT(a b:Aut)(v l:Int):List Int:=[goI a.al a.nx (v.tdiv b.nx.length) l*b.nx.length+goI b.al b.nx (v.tmod b.nx.length) l]
def glT(f:Bool->Bool->Bool)(a b:Aut)(v:Int):Bool:=f (a.ac.getD (v.tdiv b.nx.length).toNat false) (b.ac.getD (v.tmod b.nx.length).toNat false)
theorem zT{na nb v:Int}(hb:0<nb)(h0:0<=v)(h1:v<na*nb):(0<=v.tdiv nb/\v.tdiv nb<na)/\(0<=v.tmod nb/\v.tmod nb<nb):=by
 rw[Ef h0,Eg h0];exact⟨⟨Int.ediv_nonneg h0 om,Int.ediv_lt_of_lt_mul hb h1⟩,Int.emod_nonneg _ om,Int.emod_lt_of_pos _ hb⟩
theorem EM{x y na nb:Int}(hx:0<=x/\x<na)(hy:0<=y/\y<nb):0<=x*nb+y/\x*nb+y<na*nb:=by
 have h1:0<=x*nb:=Int.mul_nonneg hx.1 om;have h2:(x+1)*nb<=na*nb:=Dv om om;rw[Int.add_mul,Int.one_mul]at h2;omega
theorem VJ{a b:Aut}(ha:AOK a)(hb:AOK b){v c:Int}(h0:0<=v)(h1:v<(a.nx.length:Int)*b.nx.length)(hc:0<=c/\c<6):∀m∈nxT a b v c,0<=m/\m<(a.nx.length:Int)*b.nx.length:=by
 intro m hm;obtain⟨b1,b2,b3,b4⟩:=j8 hb;obtain⟨p,q⟩:=zT (na:=a.nx.length) (nb:=b.nx.length) om h0 h1;simp only[nxT,Bk]at hm;subst hm;exact EM (mI ha p.1 p.2 hc.1 hc.2) (mI hb q.1 q.2 hc.1 hc.2)
def twoG(f:Bool->Bool->Bool)(a b:Aut)(i j:Int):List Int×Bool:=DX (nxT a b) (glT f a b) (aB a.al) [i*b.nx.length+j] (a.nx.length*b.nx.length)
theorem aM3{f:Bool->Bool->Bool}{a b:Aut}{i j:Int}(ha:AOK a)(hb:AOK b)(hi:0<=i/\i<a.nx.length)(hj:0<=j/\j<b.nx.length):U0 (nxT a b) (glT f a b) (aB a.al) (a.nx.length*b.nx.length) (i*b.nx.length+j)=twoG f a b i j:=by
 have hs:=EM hi hj
 have hr:∀v c:Int,0<=v->v<((a.nx.length*b.nx.length:Nat):Int)->c∈aB a.al->∀m∈nxT a b v c,0<=m/\m<((a.nx.length*b.nx.length:Nat):Int):=by
  intro v c h0 h1 hc;have:=cF c hc;rw[Cc]at h1|-;exact VJ ha hb h0 h1 om
 refine rH (aHF hr (lU _) hs.1 (by rw[Cc];exact hs.2)) (aDb (lU _) hr (fun n hn=> ?_) sm);simp only[Bk]at hn;subst hn;rw[Cc];exact hs
def netT(a b:Aut)(i j kd:Int):Net:=⟨[],[a,b],[i,j],a.al,kd,0⟩
theorem aJu{na nb v:Int}(hb:0<nb)(h0:0<=v)(h1:v<na*nb):decN [na,nb] v=[v.tdiv nb,v.tmod nb]:=by
 obtain⟨p,q⟩:=zT hb h0 h1
 have e:(v.tdiv nb).tmod na=v.tdiv nb:=by
  rw[Eg p.1];exact Int.emod_eq_of_lt p.1 p.2
 show [((v.tdiv nb).tmod na),v.tmod nb]=_;rw[e]
theorem aFn{L n:Nat}(hn:11<=n)(hL:2^60<=L){a b:Aut}{i j kd:Int}(ha:AOK a)(hb:AOK b)(hal:a.al=b.al)(hi:0<=i/\i<a.nx.length)(hj:0<=j/\j<b.nx.length)(hk:kd=1\/kd=2):
  aA env L n 105 [.agg [.d .nils,.d (.ivs 2 (fV [a,b])),.d (.ivs 2 (ints [i,j])),nI a.al,nI kd,nI 0]] []=some (.tup [.d (.str (txt (twoG (if kd=1 then fun x y=>x !=y else fun x y=>x&& !y) a b i j).1)),.d (.bool (twoG (if kd=1 then fun x y=>x !=y else fun x y=>x&& !y) a b i j).2)],[]):=by
 obtain⟨a1,a2,a3,a4⟩:=j8 ha;obtain⟨b1,b2,b3,b4⟩:=j8 hb;have aw:=xH ha;have bw:=xH hb;have sa:bB a.nx:=⟨by omega,fun r hr=>by have:=aw r hr;have:=bV a.al;omega⟩
 have sb:bB b.nx:=⟨by omega,fun r hr=>by have:=bw r hr;have:=bV b.al;omega⟩
 have hprod:(a.nx.length:Int)*b.nx.length<=144:=by
  have h1:(a.nx.length:Int)*b.nx.length<=12*b.nx.length:=Dv om om;omega
 have hz:LG (netT a b i j kd)=[(a.nx.length:Int),(b.nx.length:Int)]:=rfl;have hin:=EM hi hj;rw[<-aM3 (f:=if kd=1 then fun x y=>x !=y else fun x y=>x&& !y) ha hb hi hj]
 have key:=@SI L n hn hL 2 (fV [a,b]) kd 0 a.al (i*b.nx.length+j) [i,j] [(a.nx.length:Int),(b.nx.length:Int)] (nxT a b) (glT (if kd=1 then fun x y=>x !=y else fun x y=>x&& !y) a b) (a.nx.length*b.nx.length) sm rfl (by
   intro q hq
   match q,hq with
   |0,_=>exact⟨by simp,by simp⟩
   |1,_=>simp;omega
   |2,_=>simp;exact⟨Int.mul_nonneg om om,by omega⟩
   |q+3,hq=>simp at hq) sm (by intro z hz;simp at hz;rcases hz with rfl|rfl<;>omega) (by
   simp only[NQ,and_true];refine⟨by omega,by omega,⟨by simp;exact Int.mul_nonneg hi.1 om,?_⟩,?_⟩
   ·simp
    have:i*(b.nx.length:Int)<=i*12:=Int.mul_le_mul_of_nonneg_left om hi.1;omega
   ·simp;omega) (by simp[encN]) hin.1 (by rw[Cc];exact hin.2)
   (fun {n} hn=>by
    have:=@RC L n hn (netT a b i j kd) (by simp[netT]) (by simp[netT]) (fun x hx=>by simp[netT]at hx;rcases hx with rfl|rfl<;>omega) hL;exact this)
   (fun v l hv hl {R n hq k} hn=>by
    have hl2:=cF l hl;have hv2:(v:Int)<(a.nx.length:Int)*b.nx.length:=by rw[<-Cc];omega
    obtain⟨p,q⟩:=zT (na:=a.nx.length) (nb:=b.nx.length) om om hv2;rw[aJu om om hv2];have ga:=mI ha p.1 p.2 hl2.1 om;have gb:=mI hb q.1 q.2 hl2.1 om
    have hnx:nexG (fun i=>if i=0 then [goI a.al a.nx ((v:Int).tdiv b.nx.length) l]else [goI b.al b.nx ((v:Int).tmod b.nx.length) l]) [(a.nx.length:Int),(b.nx.length:Int)] 2 0 [0]=nxT a b v l:=by
     simp[nexG,mulN,nxT]
    rw[<-hnx];refine cK rfl (@R0 L n hn hL 0 2 2 [] (fV [a,b]) (ints [i,j]) a.al kd 0 [(a.nx.length:Int),(b.nx.length:Int)] [(v:Int).tdiv b.nx.length,(v:Int).tmod b.nx.length] l (fun i=>if i=0 then [goI a.al a.nx ((v:Int).tdiv b.nx.length) l]else [goI b.al b.nx ((v:Int).tmod b.nx.length) l]) (fun i=>if i=0 then 0 else if i=1 then 11 else 143) rfl sm (fun t ht {R n hq k} hn=> ?_) (fun t ht=> ?_) (fun t ht=> ?_) (fun t ht c hc=> ?_) sm (fun t ht=> ?_)) rfl (.inr rfl)
    ·match t,ht with
     |0,_=>exact cK rfl (y7 hn (netT a b i j kd) 0 _ l (Ab _) (by simp[netT]) (by simp[netT]) (by simp[netT]) a rfl sa aw p.1 p.2 hl2.1 om hL) rfl (.inr rfl)
     |1,_=>exact cK rfl (y7 hn (netT a b i j kd) 1 _ l (by simp[netT]) (by simp[netT]) (by simp[netT]) (by simp[netT]) b rfl sb bw q.1 q.2 hl2.1 om hL) rfl (.inr rfl)
     |t+2,ht=>exact absurd ht (by show ¬(t+2<2);omega)
    ·match t,ht with
     |0,_=>simp;omega
     |1,_=>simp;omega
     |t+2,ht=>exact absurd ht (by show ¬(t+2<2);omega)
    ·show(if t=0 then _ else _:List Int).length<=16
     split<;>simp
    ·match t,ht with
     |0,_=>simp at hc;subst hc;simpa using ga
     |1,_=>simp at hc;subst hc;simpa using gb
     |t+2,ht=>exact absurd ht (by show ¬(t+2<2);omega)
    ·match t,ht with
     |0,_=>simp;omega
     |1,_=>simp;omega
     |t+2,ht=>exact absurd ht (by show ¬(t+2<2);omega))
   (fun v hv {R n k} hn=>by
    have hv2:(v:Int)<(a.nx.length:Int)*b.nx.length:=by rw[<-Cc];omega
    obtain⟨p,q⟩:=zT (na:=a.nx.length) (nb:=b.nx.length) om om hv2;rw[aJu om om hv2]
    have hg:LF (netT a b i j kd) [(v:Int).tdiv b.nx.length,(v:Int).tmod b.nx.length] ((movT (nxT a b) (aB a.al) (a.nx.length*b.nx.length)).getD v [])=glT (if kd=1 then fun x y=>x !=y else fun x y=>x&& !y) a b v:=by
     rcases hk with rfl|rfl
     ·rfl
     ·rfl
    rw[<-hg];exact kQ (aGb hn (netT a b i j kd) [(v:Int).tdiv b.nx.length,(v:Int).tmod b.nx.length] ((movT (nxT a b) (aB a.al) (a.nx.length*b.nx.length)).getD v []) (by rcases hk with rfl|rfl<;>simp[netT]) (by simp[netT]) (by simp[netT]) sm ⟨by simp[netT],by simp[netT],by simp[netT];omega,p.1,by show(v:Int).tdiv b.nx.length<(a.ac.length:Int);omega⟩ (fun _=>⟨by simp[netT],by simp[netT],by simp[netT];omega,q.1,by show(v:Int).tmod b.nx.length<(b.ac.length:Int);omega⟩) hL) rfl)
   (fun v c h0 h1 hc=>by
    have:=cF c hc;rw[Cc]at h1|-;exact⟨by simp[nxT],VJ ha hb h0 h1 om⟩)
 exact key
end Ev
end Go.Proofs.YthlkcebdfbjdoaaGreat
