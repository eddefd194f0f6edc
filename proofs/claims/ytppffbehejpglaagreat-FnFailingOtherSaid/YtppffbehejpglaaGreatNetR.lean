/-
  Products as the reference searches them, walked: the search of a product of automata.
-/
import Derived.Test.YtppffbehejpglaaGreatNetV
set_option linter.unusedSimpArgs false
set_option linter.unusedVariables false
set_option linter.unusedSectionVars false
set_option maxRecDepth 8000
set_option maxHeartbeats 4000000
namespace Go.Proofs.YtppffbehejpglaaGreat
namespace Ev
def gEnd(tab:List (List (List Int)))(dist ls:List Int):Nat->List Int->List Int
 |0,at_=>at_
 |d+1,at_=>gEnd tab dist ls d (P5 tab dist at_ d (ls.length+1) 0).2
theorem aCK{tab:List (List (List Int))}{dist ls at_:List Int}{d:Int}(h:∃e,e<ls.length/\bJ tab dist e d at_ []≠[]):∃e,e<ls.length/\P5 tab dist at_ d (ls.length+1) 0=(e,bJ tab dist e d at_ [])/\bJ tab dist e d at_ []≠[]/\∀f,f<e->bJ tab dist f d at_ []=[]:=by
 obtain⟨e0,h1,h2⟩:=h;obtain⟨e,_,_,g1,g2,g3⟩:=aES (tab:=tab) (dist:=dist) (at_:=at_) (d:=d) (ls.length+1) 0 ⟨e0,by omega,by omega,h2⟩;refine⟨e,?_,g1,g2,fun f hf=>g3 f om hf⟩
 by_cases hlt:e0<e
 ·exact(h2 (g3 e0 om hlt)).elim
 ·omega
theorem ZN{R:Type}{L n:Nat}(hn:6<=n)(hL:2^60<=L){c2 c3 c5 c6:D}{al:Int}{zs ls dist:List Int}{tab:List (List (List Int))}{aN i6:Nat}{i9:Int}(ht:CG tab aN)(hd:dist.length=aN)(htt:aN<=65536)(hkk:∀kk,kk<ls.length->∀i,i<aN->kk<(tab.getD i []).length/\((tab.getD i []).getD kk []).length<=4096)(hls:ls.length<=6)(hlr:∀c∈ls,0<=c/\c<=5){Q:Nat->List Int->Prop}
  (hQ:∀d at_,Q (d+1) at_->at_.length<=65536/\(∀x∈at_,0<=x/\x<aN)/\(∃e,e<ls.length/\bJ tab dist e d at_ []≠[])/\∀e,e<ls.length->bJ tab dist e d at_ []≠[]->Q d (bJ tab dist e d at_ [])) {k:KE R}:∀(j:Nat) (d:Int) (m:Nat) (at_:List Int) (o:List UInt8) (hj:(j:Int)=d) (hm:j<m) (hd1:d<=16777300) (hat:Q j at_) (ho:o.length+j<=100000000),
  aR env (aA env L n) L 0 [] Bz0 (d5 2) Bz14 m (Y1 (.ptr 0 0 0::.d (.str [])::.d (.bool false)::.d (.ivs zs.length (ints zs))::nI aN::nI i6::.d (.ivs tab.length (tabD tab))::.sl 1 0 0 dist.length::nI i9::.d (.ivs at_.length (ints at_))::.d (.ivs ls.length (ints ls))::.d (.str o)::nI d::Y32 (Y32 (Y16 (Y8 (Y4 (Y1 ([])))))))) [.box [.sl 2 0 0 0,.d c2,.d c3,nI al,.d c5,.d c6],.ice (ints dist) 1 0,.ice [] 0 0] k
  =k (.exit 4) (Y1 (.ptr 0 0 0::.d (.str [])::.d (.bool false)::.d (.ivs zs.length (ints zs))::nI aN::nI i6::.d (.ivs tab.length (tabD tab))::.sl 1 0 0 dist.length::nI i9::.d (.ivs (gEnd tab dist ls j at_).length (ints (gEnd tab dist ls j at_)))::.d (.ivs ls.length (ints ls))::.d (.str ((o++txt (nK tab dist ls j at_))))::nI 0::Y32 (Y32 (Y16 (Y8 (Y4 (Y1 ([])))))))) [.box [.sl 2 0 0 0,.d c2,.d c3,nI al,.d c5,.d c6],.ice (ints dist) 1 0,.ice [] 0 0]:=by
 intro j
 induction j with
 |zero=>
  intro d m at_ o hj hm hd1 hat ho;obtain _|m:=m;omega;obtain rfl:d=0:=om;simp only[gEnd,nK,txt,Ar,Aj]
  simp-implicitDefEqProofs (maxSteps:=9^7) (disch:=try exact Dz) only[↓DN,↓kRet,UP,simprocAttr,Ah,oK,pZ,Tryz.f99]
 |succ j ih=>
  intro d m at_ o hj hm hd1 hat ho;obtain _|m:=m;omega;obtain⟨q1,q2,q3,q4⟩:=hQ j at_ hat;obtain⟨e,e1,e2,e3,e4⟩:=aCK q3;have hd0:0<d:=om;have hat2:=q4 e e1 e3;have hj:(j:Int)=d-1:=om;simp only[gEnd,nK,e2];rw[hj]at hat2|-;have kc_c:=fun {R:Type} {n:Nat} {k:KA R} (hn:4<=n)=> @oZ R env (aA env L n) [.box [.sl 2 0 0 0,.d c2,.d c3,nI al,.d c5,.d c6],.ice (ints dist) 1 0,.ice [] 0 0] [.ice (ints dist) 1 0] [.ice (ints dist) 1 0] [.box [.sl 2 0 0 0,.d c2,.d c3,nI al,.d c5,.d c6],.ice (ints dist) 1 0,.ice [] 0 0] 126 [.d (.ivs tab.length (tabD tab)),.sl 1 0 0 dist.length,.d (.ivs at_.length (ints at_)),nI ((0:Nat):Int),nI (d-1)] [.d (.ivs tab.length (tabD tab)),.d (.ivs dist.length (ints dist)),.d (.ivs at_.length (ints at_)),nI ((0:Nat):Int),nI (d-1)] _ k [1] [1] jS rfl kr rfl (by simp[dX,frzA,frz,frz0,aF,mapA,aJ,deep,d8,cW]) rfl (@vW L n hn hL tab dist at_ (d-1) 0 aN ht hd htt q1 q2 (hkk 0 om)) rfl sm rfl;have loop_c:=fun {R:Type} {n:Nat} (hn:5<=n) {k:KE R}=> @ZU R L n hn hL c2 c3 c5 c6 al d zs ls dist at_ o tab aN i6 e i9 ht hd htt q1 q2 hkk om om hls e1 (by rw[<-hj];exact e3) k e 0 L om om (fun f _ h=>by rw[<-hj];exact e4 f h);simp only[Aq]at kc_c loop_c;obtain⟨l0,l5⟩:=hlr _ (lG e1);have hc:(e:Int)<ls.length:=om;have he0:(0:Int)<=e:=om;have ih':=ih (d-1) m (bJ tab dist e (d-1) at_ []) (o++[cN (ls.getD e 0)]) hj om om hat2 (by simp;omega);simp only[txt,Ai,Al,Ax,Ap]at ih'|-;clear ih hkk ht hQ hat hat2 q2 q3 q4 e2 e3 e4 hlr;generalize bJ tab dist e (d-1) at_ []=w at *
  generalize bJ tab dist 0 (d-1) at_ []=w0 at *
  simp-implicitDefEqProofs (maxSteps:=9^7) (disch:=try exact Dz) only[↓DN,↓kAsg,↓kRet,UP,simprocAttr,↓NC,hc,he0,hd0,↓kc_c,↓loop_c,↓ih',oK,pZ,Tryz.f99]
theorem ZW{R:Type}{L n m:Nat}{c2 c3 c5 c6:D}{al:Int}{zs ls dist:List Int}{tab:List (List (List Int))}{aN i6:Nat}{i9:Int}{d:Int}{o:List UInt8}{at_:List Int}(hd:¬0<d){k:KE R}:
  aR env (aA env L n) L 0 [] Bz0 (d5 2) Bz14 (m+1) (Y1 (.ptr 0 0 0::.d (.str [])::.d (.bool false)::.d (.ivs zs.length (ints zs))::nI aN::nI i6::.d (.ivs tab.length (tabD tab))::.sl 1 0 0 dist.length::nI i9::.sl 2 0 0 at_.length::.d (.ivs ls.length (ints ls))::.d (.str o)::nI d::Y32 (Y32 (Y16 (Y8 (Y4 (Y1 ([])))))))) [.box [.sl 3 0 0 0,.d c2,.d c3,nI al,.d c5,.d c6],.arr (ints dist) 1 0,.arr (ints at_) 1 0,.ice [] 0 0] k
  =k (.exit 4) (Y1 (.ptr 0 0 0::.d (.str [])::.d (.bool false)::.d (.ivs zs.length (ints zs))::nI aN::nI i6::.d (.ivs tab.length (tabD tab))::.sl 1 0 0 dist.length::nI i9::.sl 2 0 0 at_.length::.d (.ivs ls.length (ints ls))::.d (.str o)::nI d::Y32 (Y32 (Y16 (Y8 (Y4 (Y1 ([])))))))) [.box [.sl 3 0 0 0,.d c2,.d c3,nI al,.d c5,.d c6],.arr (ints dist) 1 0,.arr (ints at_) 1 0,.ice [] 0 0]:=by
 simp-implicitDefEqProofs (maxSteps:=9^7) (disch:=try exact Dz) only[↓DN,↓kRet,UP,simprocAttr,hd,oK,pZ,Tryz.f99]
theorem ZP{R:Type}{L n:Nat}(hn:6<=n)(hL:2^60<=L){c2 c3 c5 c6:D}{al:Int}{zs ls dist:List Int}{tab:List (List (List Int))}{aN i6:Nat}{i9:Int}(ht:CG tab aN)(hd:dist.length=aN)(htt:aN<=65536)(hkk:∀kk,kk<ls.length->∀i,i<aN->kk<(tab.getD i []).length/\((tab.getD i []).getD kk []).length<=4096)(hls:ls.length<=6)(hlr:∀c∈ls,0<=c/\c<=5){Q:Nat->List Int->Prop}
  (hQ:∀d at_,Q (d+1) at_->at_.length<=65536/\(∀x∈at_,0<=x/\x<aN)/\(∃e,e<ls.length/\bJ tab dist e d at_ []≠[])/\∀e,e<ls.length->bJ tab dist e d at_ []≠[]->Q d (bJ tab dist e d at_ [])) {k:KE R} (j:Nat) (d:Int) (m:Nat) (at_:List Int) (o:List UInt8) (hj:((j+1:Nat):Int)=d) (hm:j+1<m) (hd1:d<=16777300) (hat:Q (j+1) at_) (ho:o.length+(j+1)<=100000000):
  aR env (aA env L n) L 0 [] Bz0 (d5 2) Bz14 m (Y1 (.ptr 0 0 0::.d (.str [])::.d (.bool false)::.d (.ivs zs.length (ints zs))::nI aN::nI i6::.d (.ivs tab.length (tabD tab))::.sl 1 0 0 dist.length::nI i9::.sl 2 0 0 at_.length::.d (.ivs ls.length (ints ls))::.d (.str o)::nI d::Y32 (Y32 (Y16 (Y8 (Y4 (Y1 ([])))))))) [.box [.sl 3 0 0 0,.d c2,.d c3,nI al,.d c5,.d c6],.arr (ints dist) 1 0,.arr (ints at_) 1 0,.ice [] 0 0] k
  =k (.exit 4) (Y1 (.ptr 0 0 0::.d (.str [])::.d (.bool false)::.d (.ivs zs.length (ints zs))::nI aN::nI i6::.d (.ivs tab.length (tabD tab))::.sl 1 0 0 dist.length::nI i9::.d (.ivs (gEnd tab dist ls (j+1) at_).length (ints (gEnd tab dist ls (j+1) at_)))::.d (.ivs ls.length (ints ls))::.d (.str ((o++txt (nK tab dist ls (j+1) at_))))::nI 0::Y32 (Y32 (Y16 (Y8 (Y4 (Y1 ([])))))))) [.box [.sl 2 0 0 0,.d c2,.d c3,nI al,.d c5,.d c6],.ice (ints dist) 1 0,.ice [] 0 0]:=by
  obtain _|m:=m;omega;obtain⟨q1,q2,q3,q4⟩:=hQ j at_ hat;obtain⟨e,e1,e2,e3,e4⟩:=aCK q3;have hd0:0<d:=om;have hat2:=q4 e e1 e3;have hj:(j:Int)=d-1:=om;simp only[gEnd,nK,e2];rw[hj]at hat2|-;have kc_c:=fun {R:Type} {n:Nat} {k:KA R} (hn:4<=n)=> @oZ R env (aA env L n) [.box [.sl 3 0 0 0,.d c2,.d c3,nI al,.d c5,.d c6],.arr (ints dist) 1 0,.arr (ints at_) 1 0,.ice [] 0 0] [.arr (ints dist) 1 0,.arr (ints at_) 1 0] [.ice (ints dist) 1 0,.ice (ints at_) 1 0] [.box [.sl 3 0 0 0,.d c2,.d c3,nI al,.d c5,.d c6],.ice (ints dist) 1 0,.ice (ints at_) 1 0,.ice [] 0 0] 126 [.d (.ivs tab.length (tabD tab)),.sl 1 0 0 dist.length,(.sl 2 0 0 at_.length),nI ((0:Nat):Int),nI (d-1)] [.d (.ivs tab.length (tabD tab)),.d (.ivs dist.length (ints dist)),.d (.ivs at_.length (ints at_)),nI ((0:Nat):Int),nI (d-1)] _ k [1,2] [1,2] jS rfl kr rfl (by simp[dX,frzA,frz,frz0,aF,mapA,aJ,deep,d8,cW]) rfl (@vW L n hn hL tab dist at_ (d-1) 0 aN ht hd htt q1 q2 (hkk 0 om)) rfl sm rfl;have loop_c:=fun {R:Type} {n:Nat} (hn:5<=n) {k:KE R}=> @ZD R L n hn hL c2 c3 c5 c6 al d zs ls dist at_ o tab aN i6 e i9 ht hd htt q1 q2 hkk om om hls e1 (by rw[<-hj];exact e3) k e 0 L om om (fun f _ h=>by rw[<-hj];exact e4 f h);simp only[Aq]at kc_c loop_c;obtain⟨l0,l5⟩:=hlr _ (lG e1);have hc:(e:Int)<ls.length:=om;have he0:(0:Int)<=e:=om
  have ih':=fun {R:Type} {n:Nat} (hn:6<=n) {k:KE R}=> @ZN R L n hn hL c2 c3 c5 c6 al zs ls dist tab aN i6 i9 ht hd htt hkk hls hlr Q hQ k j (d-1) m (bJ tab dist e (d-1) at_ []) (o++[cN (ls.getD e 0)]) hj om om hat2 (by simp;omega);simp only[txt,Ai,Al,Ax,Ap]at ih'|-;clear hkk ht hQ hat hat2 q2 q3 q4 e2 e3 e4 hlr;generalize bJ tab dist e (d-1) at_ []=w at *;generalize bJ tab dist 0 (d-1) at_ []=w0 at *
  simp-implicitDefEqProofs (maxSteps:=9^7) (disch:=try exact Dz) only[↓DN,↓kAsg,↓kRet,UP,simprocAttr,↓NC,hc,he0,hd0,↓kc_c,↓loop_c,↓ih',oK,pZ,Tryz.f99]
section
theorem iF:∀ {N:Nat} {l:List Int},l.Nodup->(∀x∈l,0<=x/\x<N)->l.length<=N
 |0,l,_,hr=>by
  cases l with
  |nil=>exact Ab _
  |cons x l=>have:=hr x Bi;omega
 |N+1,l,hn,hr=>by
  by_cases h:(N:Int)∈l
  ·have h1:=iF (N:=N) (l:=l.erase (N:Int)) (hn.erase (N:Int)) (fun x hx=>by
    rw[hn.mem_erase_iff]at hx;have:=hr x hx.2;omega)
   rw[List.length_erase_of_mem h]at h1;omega
  ·have h1:=iF (N:=N) hn (fun x hx=>by
    have:=hr x hx;have:x≠N:=fun e=>h (e▸hx);omega)
   omega
theorem RD{dist:List Int}{d:Int}:∀(ms out:List Int),out.Nodup->(addC dist d ms out).Nodup
 | [],out,h=>h
 |m::ms,out,h=>by
  unfold addC
  split
  ·rename_i hc
   refine RD ms _ ?_;rw[Dt];exact⟨h,by simp,fun a ha b hb=>by simp at hb;subst hb;exact fun e=>hc.2 (e▸ha)⟩
  ·exact RD ms out h
theorem UL{tab:List (List (List Int))}{dist:List Int}{k:Nat}{d:Int}:∀(vs out:List Int),out.Nodup->(bJ tab dist k d vs out).Nodup
 | [],out,h=>h
 |v::vs,out,h=>UL vs _ (RD _ _ h)
section
variable{nx:Int->Int->List Int}{gl:Int->Bool}{ls:List Int}{aN:Nat}{tab:List (List (List Int))}
theorem aTz:aDr nx ls gl aN ((List.range aN).map (dK gl)) 0:=by
 refine⟨by simp,fun i hi=> ?_⟩
 have e:((List.range aN).map (dK gl)).getD i 0=dK gl i:=by
  rw[Aa,Bd,List.getElem?_range hi];rfl
 rw[e]
 by_cases hg:gl i=true
 ·refine .inl ⟨0,Ab _,by unfold dK;rw[if_pos hg];rfl,X7.2 hg,fun e he=>by omega⟩
 ·refine .inr ⟨by unfold dK;rw[if_neg hg],fun e he ha=> ?_⟩;obtain rfl:e=0:=om;exact hg (X7.1 ha)
theorem aRE(ht:Tab nx ls aN tab):Full nx ls gl aN (dB tab (aN+1) 1 ((List.range aN).map (dK gl))):=by
 have:=aNY ht (aN+1) 0 ((List.range aN).map (dK gl)) aTz (by
  have:=List.countP_le_length (p:=fun(x:Int)=>decide (x<0)) (l:=(List.range aN).map (dK gl));simp at this|-;omega)
 simpa using this
theorem QG{d B:Int}(hd:d<=B):∀(j i:Nat) (q:List Int×Bool),(∀x∈q.1,x<=B)->∀x∈(dH tab d j i q).1,x<=B
 |0,_,q,h=>h
 |j+1,i,q,h=>by
  simp only[dH]
  split
  ·refine QG hd j _ _ fun x hx=> ?_
   rcases Dr hx with hx|rfl
   ·exact h x hx
   ·exact hd
  ·exact QG hd j _ q h
theorem aCI{B:Int}:∀(j:Nat) (d:Int) (dist:List Int),d+j<=B+1->(∀x∈dist,x<=B)->∀x∈dB tab j d dist,x<=B
 |0,d,dist,_,h=>h
 |j+1,d,dist,hd,h=>by
  have hr:=QG (tab:=tab) (d:=d) (B:=B) om dist.length 0 (dist,false) h;simp only[dB]
  split
  ·exact aCI j (d+1) _ om hr
  ·exact hr
def Qs(nx:Int->Int->List Int)(ls:List Int)(gl:Int->Bool)(aN d:Nat)(at_:List Int):Prop:=(∀v∈at_,(0<=v/\v<aN)/\Far nx ls gl v d)/\at_≠[]/\at_.length<=aN
theorem aR4(ht:Tab nx ls aN tab){dist:List Int}(hf:Full nx ls gl aN dist)(htt:aN<=65536):∀d at_,Qs nx ls gl aN (d+1) at_->at_.length<=65536/\(∀x∈at_,0<=x/\x<aN)/\(∃e,e<ls.length/\bJ tab dist e d at_ []≠[])/\∀e,e<ls.length->bJ tab dist e d at_ []≠[]->Qs nx ls gl aN d (bJ tab dist e d at_ []):=by
 intro d at_ ⟨h1,h2,h3⟩
 have hmem:∀k x,k<ls.length->(x∈bJ tab dist k d at_ []↔∃v∈at_,x∈nx v (ls.getD k 0)/\(0<=x/\x<aN)/\Far nx ls gl x d):=by
  intro k x hk;rw[QE];simp only[Br,false_or];have hl:ls.getD k 0∈ls:=by rw[Aa,Ad hk];exact At hk
  constructor
  ·rintro⟨v,hv,g1,g2⟩;have hr:=(h1 v hv).1;rw[YA ht hr.1 hr.2 hk]at g1;have hx:=ht.rng v _ hr.1 hr.2 hl x g1;exact⟨v,hv,g1,hx,(IZ hf hx.1 hx.2).1 g2⟩
  ·rintro⟨v,hv,g1,g2,g3⟩;have hr:=(h1 v hv).1;refine⟨v,hv,?_,(IZ hf g2.1 g2.2).2 g3⟩;rw[YA ht hr.1 hr.2 hk];exact g1
 refine⟨by omega,fun x hx=>(h1 x hx).1,?_,?_⟩
 ·obtain⟨v,hv⟩:=List.exists_mem_of_ne_nil _ h2;obtain⟨hr,hfar⟩:=h1 v hv;obtain⟨l,hl,m,hm,hfm⟩:=PW hfar;obtain⟨e,he,rfl⟩:=Cb hl;refine⟨e,he,fun hc=> ?_⟩;have hl2:ls.getD e 0=ls[e]:=by rw[Aa,Ad he];rfl
  have:m∈bJ tab dist e d at_ []:=(hmem e m he).2 ⟨v,hv,by rw[hl2];exact hm,ht.rng v _ hr.1 hr.2 hl m hm,hfm⟩;rw[hc]at this;cases this
 ·intro e he hne;refine⟨fun x hx=> ?_,hne,?_⟩
  ·obtain⟨v,hv,g1,g2,g3⟩:=(hmem e x he).1 hx;exact⟨g2,g3⟩
  ·refine iF (UL _ _ sm) fun x hx=> ?_;obtain⟨v,hv,g1,g2,g3⟩:=(hmem e x he).1 hx;exact g2
end
def movT(nx:Int->Int->List Int)(ls:List Int)(aN:Nat):List (List (List Int)):=(List.range aN).map fun(v:Nat)=>ls.map (nx v)
def YW(nx:Int->Int->List Int)(gl:Int->Bool)(ls:List Int)(aN:Nat)(s:Int):List Int×Bool:=
 aEv (movT nx ls aN) ls (dB (movT nx ls aN) (aN+1) 1 ((List.range aN).map (dK gl))) s
theorem aCq{nx:Int->Int->List Int}{ls:List Int}{aN:Nat}(hr:∀v c:Int,0<=v->v<aN->c∈ls->∀m∈nx v c,0<=m/\m<aN):Tab nx ls aN (movT nx ls aN):=by
 refine⟨by simp[movT],fun v hv=> ?_,hr⟩;rw[movT,Aa,Bd,List.getElem?_range hv];rfl
theorem aIQ{nx:Int->Int->List Int}{gl:Int->Bool}{ls:List Int}{aN:Nat}{s:Int}(hr:∀v c:Int,0<=v->v<aN->c∈ls->∀m∈nx v c,0<=m/\m<aN)(ha:ls.Pairwise (·<·))(h0:0<=s)(h1:s<aN):GG (Hits nx ls [s] gl) (YW nx gl ls aN s):=
 aQ2 (aCq hr) (aRE (aCq hr)) ha h0 h1
theorem VX{L n:Nat}(hn:11<=n)(hL:2^60<=L){n2:Nat}{d2:List D}{kd go:Int}{al s:Int}{start zs:List Int}{nx:Int->Int->List Int}{gl:Int->Bool}{tt:Nat}(hzl:zs.length<=1000)(hsl:start.length=zs.length)(hpr:∀i,i<=zs.length->0<=(zs.take i).foldl (·*·) 1/\(zs.take i).foldl (·*·) 1<=65536)(hzt:zs.foldl (·*·) (1:Int)=(tt:Int))(hzp:∀z∈zs,0<z/\z<=65536)(hen:RC zs start 0)(hes:encN zs start 0=s)(hs0:0<=s)(hs1:s<tt)
  (he_z:∀ {n:Nat},2<=n->aA env L n 120 [.agg [.d (.ivs 0 []),.d (.ivs n2 d2),.d (.ivs start.length (ints start)),nI al,nI kd,nI go]] []=some (.d (.ivs zs.length (ints zs)),[]))
  (kc_x:∀(v:Nat) (l:Int),v<tt->l∈aB al->∀ {R:Type} {n:Nat} {hq:H} {k:KA R},7<=n->aW env (aA env L n) hq 137 [.agg [.d (.ivs 0 []),.d (.ivs n2 d2),.d (.ivs start.length (ints start)),nI al,nI kd,nI go],.d (.ivs zs.length (ints zs)),.d (.ivs zs.length (ints (decN zs v))),nI l] k=k (.d (.ivs (nx v l).length (ints (nx v l)))) hq)
  (kl_x:∀(v:Nat),v<tt->∀ {R:Type} {n:Nat} {k:A->Option R},2<=n->vX (aA env L n) 122 [.agg [.d (.ivs 0 []),.d (.ivs n2 d2),.d (.ivs start.length (ints start)),nI al,nI kd,nI go],.d (.ivs zs.length (ints (decN zs v))),.d (.ivs ((movT nx (aB al) tt).getD v []).length (aG ((movT nx (aB al) tt).getD v [])))] k=k (.d (.bool (gl v))))
  (hw:∀v c:Int,0<=v->v<tt->c∈aB al->(nx v c).length<=4096/\∀m∈nx v c,0<=m/\m<tt):
  aA env L n 99 [.agg [.d .nils,.d (.ivs n2 d2),.d (.ivs start.length (ints start)),nI al,nI kd,nI go]] []=some (.tup [.d (.str (txt (YW nx gl (aB al) tt s).1)),.d (.bool (YW nx gl (aB al) tt s).2)],[]):=by
 have htt:tt<=65536:=by have:=(hpr zs.length (Ab _)).2;rw[Cv,hzt]at this;omega
 have hrng:∀v c:Int,0<=v->v<tt->c∈aB al->∀m∈nx v c,0<=m/\m<tt:=fun v c h1 h2 h3=>(hw v c h1 h2 h3).2;have hT:=aCq hrng;have hF:=aRE (gl:=gl) hT;have hq:=aR4 hT hF htt;have hls:=bQ al;have hTl:(movT nx (aB al) tt).length=tt:=by simp[movT]
 have hTin:CG (movT nx (aB al) tt) tt:=by
  refine⟨hTl,fun i hi=> ?_⟩;rw[hT.row i hi];refine⟨by simp;omega,fun r hr=> ?_⟩;obtain⟨c,hc,rfl⟩:=Bf.1 hr;have:=hw i c om om hc;exact⟨by omega,this.2⟩
 have hkk:∀kk,kk<(aB al).length->∀i,i<tt->kk<((movT nx (aB al) tt).getD i []).length/\(((movT nx (aB al) tt).getD i []).getD kk []).length<=4096:=by
  intro kk hk i hi;rw[hT.row i hi];refine⟨by simpa using hk,?_⟩;rw[Aa,Bd,Ad hk];exact(hw i _ om om (At hk)).1
 have kc_z:=fun {R:Type} {n:Nat} (hn:2<=n) {k:KA R}=> @oZ R env (aA env L n) [.arr [] 0 0,.box [.sl 0 0 0 0,.d (.ivs n2 d2),.d (.ivs start.length (ints start)),nI al,nI kd,nI go]] [.arr [] 0 0] [.ice [] 0 0] [.ice [] 0 0,.box [.sl 0 0 0 0,.d (.ivs n2 d2),.d (.ivs start.length (ints start)),nI al,nI kd,nI go]] 120 [.agg [.sl 0 0 0 0,.d (.ivs n2 d2),.d (.ivs start.length (ints start)),nI al,nI kd,nI go]] [.agg [.d (.ivs 0 []),.d (.ivs n2 d2),.d (.ivs start.length (ints start)),nI al,nI kd,nI go]] _ k [0] [0] BF rfl kr rfl rfl rfl (he_z hn) rfl sm rfl;have loop_a:=fun {R:Type} {n:Nat} (hn:1<=n) {k:KE R}=> @aBx R L n hn (.ivs n2 d2) (.ivs start.length (ints start)) (.int .i64 kd) (.int .i64 go) al zs hzl hpr k zs.length 0 L om om;have kc_m:=fun {R:Type} {n:Nat} (hn:9<=n) {k:KA R}=> @oZ R env (aA env L n) [.box [.sl 1 0 0 0,.d (.ivs n2 d2),.d (.ivs start.length (ints start)),nI al,nI kd,nI go],.ice [] 0 0] [.ice [] 0 0] [.ice [] 0 0] [.box [.sl 1 0 0 0,.d (.ivs n2 d2),.d (.ivs start.length (ints start)),nI al,nI kd,nI go],.ice [] 0 0] 121 [.agg [.sl 1 0 0 0,.d (.ivs n2 d2),.d (.ivs start.length (ints start)),nI al,nI kd,nI go],.d (.ivs zs.length (ints zs)),nI tt] [.agg [.d (.ivs 0 []),.d (.ivs n2 d2),.d (.ivs start.length (ints start)),nI al,nI kd,nI go],.d (.ivs zs.length (ints zs)),nI tt] _ k [1] [1] A0 rfl kr rfl rfl rfl (aJv hn hL hzl htt hzp kc_x) rfl sm rfl
 have loop_b:=fun {R:Type} {n:Nat} (hn:4<=n) {k:KE R}=> @aBp R L n hn hL (.ivs n2 d2) (.ivs start.length (ints start)) (.int .i64 kd) (.int .i64 go) al zs (movT nx (aB al) tt) tt zs.length gl hzl htt hzp hTl kl_x k tt 0 L (List.replicate tt 0) tt om om rfl sm;have hd0:((List.range tt).map (dK gl)).length=tt:=sm;have hd1:(dB (movT nx (aB al) tt) (tt+1) 1 ((List.range tt).map (dK gl))).length=tt:=hF.1;have kc_d:∀ {R:Type} {n:Nat} (hn:4<=n) {k:KA R},aW env (aA env L n) [.box [.sl 2 0 0 0,.d (.ivs n2 d2),.d (.ivs start.length (ints start)),nI al,nI kd,nI go],.arr (ints ((List.range tt).map (dK gl))) 1 0,.ice [] 0 0] 124 [.d (.ivs (movT nx (aB al) tt).length (tabD (movT nx (aB al) tt))),.sl 1 0 0 ((List.range tt).map (dK gl)).length] k=k (.tup []) [.box [.sl 2 0 0 0,.d (.ivs n2 d2),.d (.ivs start.length (ints start)),nI al,nI kd,nI go],.arr (ints (dB (movT nx (aB al) tt) (tt+1) 1 ((List.range tt).map (dK gl)))) 1 0,.ice [] 0 0]:=fun {R n} hn {k}=>VZ (id:=1) rfl rfl EA rfl (aLc hn hL hTin htt _ hd0);have kc_e:=fun {R:Type} {n:Nat} (hn:2<=n) {hq:H} {k:KA R}=> @aH7 R L n hq k hn zs start hzl hsl hen hL
 have hQ0:0<=(dB (movT nx (aB al) tt) (tt+1) 1 ((List.range tt).map (dK gl))).getD s.toNat 0->Qs nx (aB al) gl tt ((dB (movT nx (aB al) tt) (tt+1) 1 ((List.range tt).map (dK gl))).getD s.toNat 0).toNat [s]:=by
  intro h;refine⟨fun v hv=> ?_,by simp,by simp;omega⟩;simp at hv;subst hv;exact⟨⟨hs0,hs1⟩,(IZ hF hs0 hs1).1 om⟩
 have hdb:(dB (movT nx (aB al) tt) (tt+1) 1 ((List.range tt).map (dK gl))).getD s.toNat 0<=16777300:=by
  have hk:s.toNat<(dB (movT nx (aB al) tt) (tt+1) 1 ((List.range tt).map (dK gl))).length:=om;refine aCI (B:=16777300) _ _ _ om (fun x hx=> ?_) _ (lG hk);obtain⟨v,_,rfl⟩:=Bf.1 hx;unfold dK
  split<;>omega
 simp only[Aq,List.take_zero,List.foldl_nil,Ap,hzt,<-List.range_eq_range']at loop_a loop_b;rw[hes]at kc_e;have em:(List.range tt).map (fun(x:Nat)=>(aB al).map (nx x))=movT nx (aB al) tt:=rfl;rw[em]at kc_m;rw[hTl]at kc_d loop_b;rw[hd0]at kc_d;unfold YW aEv;have loop_2:=fun {R:Type} {n:Nat} (hn:6<=n) {k:KE R} (j:Nat) (hj) (hm) (h1) (h2) (h3)=> @ZP R L n hn hL (.ivs n2 d2) (.ivs start.length (ints start)) (.int .i64 kd) (.int .i64 go) al zs (aB al) _ _ tt zs.length tt hTin hd1 htt hkk hls (fun c hc=>cK c hc) _ hq k j ((dB (movT nx (aB al) tt) (tt+1) 1 ((List.range tt).map (dK gl))).getD s.toNat 0) L [s] [] hj hm h1 h2 h3;rw[hTl,hd1]at loop_2;clear hkk hTin kl_x kc_x he_z hw hrng
 have hgt0:0<(dB (movT nx (aB al) tt) (tt+1) 1 ((List.range tt).map (dK gl))).getD s.toNat 0->Qs nx (aB al) gl tt (((dB (movT nx (aB al) tt) (tt+1) 1 ((List.range tt).map (dK gl))).getD s.toNat 0).toNat-1+1) [s]:=by
  intro h;have h2:=hQ0 om;rw[show((dB (movT nx (aB al) tt) (tt+1) 1 ((List.range tt).map (dK gl))).getD s.toNat 0).toNat-1+1=((dB (movT nx (aB al) tt) (tt+1) 1 ((List.range tt).map (dK gl))).getD s.toNat 0).toNat by omega];exact h2
 have loop_2:=fun {R:Type} {n:Nat} (hn:6<=n) {k:KE R} (h:0<(dB (movT nx (aB al) tt) (tt+1) 1 ((List.range tt).map (dK gl))).getD s.toNat 0)=>loop_2 (R:=R) (n:=n) hn (k:=k) (((dB (movT nx (aB al) tt) (tt+1) 1 ((List.range tt).map (dK gl))).getD s.toNat 0).toNat-1) om om hdb (hgt0 h) (by simp only[Ac];omega);clear hT hF hq hQ0 hgt0;generalize dB (movT nx (aB al) tt) (tt+1) 1 ((List.range tt).map (dK gl))=dist at *;generalize movT nx (aB al) tt=tab at *;generalize(List.range tt).map (dK gl)=dz at *;have hrep:(List.replicate tt (0:Int)).length=tt:=sm;have hsn:s.toNat<dist.length:=om;have hs2:s<(dist.length:Int):=om;have hs3:s<(tt:Int):=om;have htt0:(0:Int)<=tt:=om;have esn:ints [s]=[.int .i64 s]:=rfl;have e1:[s].length=1:=rfl;rw[esn,e1]at loop_2;have loop_z:=fun {R:Type} {n m:Nat} {k:KE R} (h:¬0<dist.getD s.toNat 0)=> @ZW R L n m (.ivs n2 d2) (.ivs start.length (ints start)) (.int .i64 kd) (.int .i64 go) al zs (aB al) dist tab tt zs.length tt (dist.getD s.toNat 0) [] [s] h k;rw[hTl,hd1,esn,e1]at loop_z;generalize hdd:dist.getD s.toNat 0=d at *;obtain _|L:=L;omega
 rcases Int.lt_trichotomy d 0 with hlt|heq|hgt
 ·have loop_z:=fun {R:Type} {n m:Nat} {k:KE R}=>loop_z (R:=R) (n:=n) (m:=m) (k:=k) om;have hne:¬d=0:=om;rw[if_pos hlt];clear loop_2;obtain _|n:=n;omega
  simp-implicitDefEqProofs (maxSteps:=9^7) (disch:=try exact Dz) only[↓DN,↓kAsg,↓kRet,UP,simprocAttr,↓fV,↓kc_z,↓loop_a,↓kc_m,↓KR,↓loop_b,↓kc_d,↓kc_e,↓loop_z,hdd,hne,hs0,hs3,JA,CF,Tryz.f99]<;>rfl
 ·subst heq;have loop_z:=fun {R:Type} {n m:Nat} {k:KE R}=>loop_z (R:=R) (n:=n) (m:=m) (k:=k) om;rw[if_neg om];clear loop_2;obtain _|n:=n;omega
  simp-implicitDefEqProofs (maxSteps:=9^7) (disch:=try exact Dz) only[↓DN,↓kAsg,↓kRet,UP,simprocAttr,↓fV,↓kc_z,↓loop_a,↓kc_m,↓KR,↓loop_b,↓kc_d,↓kc_e,↓loop_z,hdd,hs0,hs3,JA,CF,Tryz.f99]<;>rfl
 ·have loop_y:=fun {R:Type} {n:Nat} (hn:6<=n) {k:KE R}=>loop_2 (R:=R) (n:=n) hn (k:=k) hgt;rw[if_neg om];simp only[Ap]at loop_y;have ed:d.toNat-1+1=d.toNat:=om;rw[ed]at loop_y;clear loop_2 loop_z;generalize gEnd tab dist (aB al) d.toNat [s]=ge at *;generalize nK tab dist (aB al) d.toNat [s]=gr at *;obtain _|n:=n;omega
  simp-implicitDefEqProofs (maxSteps:=9^7) (disch:=try exact Dz) only[↓DN,↓kAsg,↓kRet,UP,simprocAttr,↓fV,↓kc_z,↓loop_a,↓kc_m,↓KR,↓loop_b,↓kc_d,↓kc_e,↓loop_y,hdd,hs0,hs3,JA,CF,Tryz.f99]
end
end Ev
end Go.Proofs.YtppffbehejpglaaGreat
