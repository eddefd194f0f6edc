/-
  Products as the reference searches them, walked: the search of a product of automata.
-/
import Derived.Test.YthlkcebdfbjdoaaGreatNetV
set_option linter.unusedSimpArgs false
set_option linter.unusedVariables false
set_option maxRecDepth 8000
set_option maxHeartbeats 4000000
namespace Go.Proofs.YthlkcebdfbjdoaaGreat
namespace Ev
def gEnd(tab:List (List (List Int)))(dist ls:List Int):Nat->List Int->List Int
 |0,at_=>at_
 |d+1,at_=>gEnd tab dist ls d (PM tab dist at_ d (ls.length+1) 0).2
theorem aCx{tab:List (List (List Int))}{dist ls at_:List Int}{d:Int}(h:∃e,e<ls.length/\bJ tab dist e d at_ []≠[]):∃e,e<ls.length/\PM tab dist at_ d (ls.length+1) 0=(e,bJ tab dist e d at_ [])/\bJ tab dist e d at_ []≠[]/\∀f,f<e->bJ tab dist f d at_ []=[]:=by
 obtain⟨e0,h1,h2⟩:=h;obtain⟨e,_,_,g1,g2,g3⟩:=aD2 (tab:=tab) (dist:=dist) (at_:=at_) (d:=d) (ls.length+1) 0 ⟨e0,by omega,by omega,h2⟩;refine⟨e,?_,g1,g2,fun f hf=>g3 f (by omega) hf⟩
 by_cases hlt:e0<e
 ·exact(h2 (g3 e0 (by omega) hlt)).elim
 ·omega
theorem W0{R:Type}{L n:Nat}(hn:6<=n)(hL:2^60<=L){c2 c3 c5 c6:D}{al:Int}{zs ls dist:List Int}{tab:List (List (List Int))}{aO i6:Nat}{i9:Int}(ht:BQ tab aO)(hd:dist.length=aO)(htt:aO<=16777216)(hkk:∀kk,kk<ls.length->∀i,i<aO->kk<(tab.getD i []).length/\((tab.getD i []).getD kk []).length<=64)(hls:ls.length<=6)(hlr:∀c∈ls,0<=c/\c<=5){Q:Nat->List Int->Prop}
  (hQ:∀d at_,Q (d+1) at_->at_.length<=16777216/\(∀x∈at_,0<=x/\x<aO)/\(∃e,e<ls.length/\bJ tab dist e d at_ []≠[])/\∀e,e<ls.length->bJ tab dist e d at_ []≠[]->Q d (bJ tab dist e d at_ [])) {k:KE R}:∀(j:Nat) (d:Int) (m:Nat) (at_:List Int) (o:List UInt8) (hj:(j:Int)=d) (hm:j<m) (hd1:d<=16777300) (hat:Q j at_) (ho:o.length+j<=100000000),
  aM env (aA env L n) L 0 [] Bz0 (cF 2) Bz15 m (Y1 (.ptr 0 0 0::.d (.str [])::.d (.bool false)::.d (.ivs zs.length (ints zs))::nI aO::nI i6::.d (.ivs tab.length (tabD tab))::.sl 1 0 0 dist.length::nI i9::.d (.ivs at_.length (ints at_))::.d (.ivs ls.length (ints ls))::.d (.str o)::nI d::Y32 (Y32 (Y16 (Y8 (Y4 (Y1 ([])))))))) [.box [.sl 2 0 0 0,.d c2,.d c3,nI al,.d c5,.d c6],.ice (ints dist) 1 0,.ice [] 0 0] k
  =k (.exit 4) (Y1 (.ptr 0 0 0::.d (.str [])::.d (.bool false)::.d (.ivs zs.length (ints zs))::nI aO::nI i6::.d (.ivs tab.length (tabD tab))::.sl 1 0 0 dist.length::nI i9::.d (.ivs (gEnd tab dist ls j at_).length (ints (gEnd tab dist ls j at_)))::.d (.ivs ls.length (ints ls))::.d (.str ((o++txt (nJ tab dist ls j at_))))::nI 0::Y32 (Y32 (Y16 (Y8 (Y4 (Y1 ([])))))))) [.box [.sl 2 0 0 0,.d c2,.d c3,nI al,.d c5,.d c6],.ice (ints dist) 1 0,.ice [] 0 0]:=by
 intro j
 induction j with
 |zero=>
  intro d m at_ o hj hm hd1 hat ho;obtain _|m:=m;omega;obtain rfl:d=0:=by omega
  simp only[gEnd,nJ,txt,Ap,Ah];simp -implicitDefEqProofs (maxSteps:=2000000) (disch:=try exact Dz) only[↓DN,↓kRet,UP,simprocAttr,Aj,pE,pP,Tryz.f105]
 |succ j ih=>
  intro d m at_ o hj hm hd1 hat ho;obtain _|m:=m;omega;obtain⟨q1,q2,q3,q4⟩:=hQ j at_ hat;obtain⟨e,e1,e2,e3,e4⟩:=aCx q3;have hd0:0<d:=by omega
  have hat2:=q4 e e1 e3;have hj:(j:Int)=d-1:=by omega
  simp only[gEnd,nJ,e2];rw[hj]at hat2|-;have kc_c:=fun {R:Type} {n:Nat} {k:KA R} (hn:4<=n)=> @tB R env (aA env L n) [.box [.sl 2 0 0 0,.d c2,.d c3,nI al,.d c5,.d c6],.ice (ints dist) 1 0,.ice [] 0 0] [.ice (ints dist) 1 0] [.ice (ints dist) 1 0] [.box [.sl 2 0 0 0,.d c2,.d c3,nI al,.d c5,.d c6],.ice (ints dist) 1 0,.ice [] 0 0] 135 [.d (.ivs tab.length (tabD tab)),.sl 1 0 0 dist.length,.d (.ivs at_.length (ints at_)),nI ((0:Nat):Int),nI (d-1)] [.d (.ivs tab.length (tabD tab)),.d (.ivs dist.length (ints dist)),.d (.ivs at_.length (ints at_)),nI ((0:Nat):Int),nI (d-1)] _ k [1] [1] j9 rfl kr rfl (by simp[fB,frzA,frz,frz0,aE,mapA,aH,deep,hJ,eS]) rfl (@vG L n hn hL tab dist at_ (d-1) 0 aO ht hd htt q1 q2 (hkk 0 (by omega))) rfl (by simp) rfl;have loop_c:=fun {R:Type} {n:Nat} (hn:5<=n) {k:KE R}=> @XD R L n hn hL c2 c3 c5 c6 al d zs ls dist at_ o tab aO i6 e i9 ht hd htt q1 q2 hkk (by omega) (by omega) hls e1 (by rw[<-hj];exact e3) k e 0 L (by omega) (by omega) (fun f _ h=>by rw[<-hj];exact e4 f h);simp only[Aq]at kc_c loop_c;obtain⟨l0,l5⟩:=hlr _ (lN e1);have hc:(e:Int)<ls.length:=by omega
  have he0:(0:Int)<=e:=by omega
  have ih':=ih (d-1) m (bJ tab dist e (d-1) at_ []) (o++[b7 (ls.getD e 0)]) hj (by omega) (by omega) hat2 (by simp;omega);simp only[txt,Ai,Ao,Av,Am]at ih'|-;clear ih hkk ht hQ hat hat2 q2 q3 q4 e2 e3 e4 hlr;generalize bJ tab dist e (d-1) at_ []=w at *;generalize bJ tab dist 0 (d-1) at_ []=w0 at *;simp -implicitDefEqProofs (maxSteps:=2000000) (disch:=try exact Dz) only[↓DN,↓kAsg,↓kRet,UP,simprocAttr,↓LY,hc,he0,hd0,↓kc_c,↓loop_c,↓ih',pE,pP,Tryz.f105]
theorem W7{R:Type}{L n m:Nat}{c2 c3 c5 c6:D}{al:Int}{zs ls dist:List Int}{tab:List (List (List Int))}{aO i6:Nat}{i9:Int}{d:Int}{o:List UInt8}{at_:List Int}(hd:¬0<d){k:KE R}:
  aM env (aA env L n) L 0 [] Bz0 (cF 2) Bz15 (m+1) (Y1 (.ptr 0 0 0::.d (.str [])::.d (.bool false)::.d (.ivs zs.length (ints zs))::nI aO::nI i6::.d (.ivs tab.length (tabD tab))::.sl 1 0 0 dist.length::nI i9::.sl 2 0 0 at_.length::.d (.ivs ls.length (ints ls))::.d (.str o)::nI d::Y32 (Y32 (Y16 (Y8 (Y4 (Y1 ([])))))))) [.box [.sl 3 0 0 0,.d c2,.d c3,nI al,.d c5,.d c6],.arr (ints dist) 1 0,.arr (ints at_) 1 0,.ice [] 0 0] k
  =k (.exit 4) (Y1 (.ptr 0 0 0::.d (.str [])::.d (.bool false)::.d (.ivs zs.length (ints zs))::nI aO::nI i6::.d (.ivs tab.length (tabD tab))::.sl 1 0 0 dist.length::nI i9::.sl 2 0 0 at_.length::.d (.ivs ls.length (ints ls))::.d (.str o)::nI d::Y32 (Y32 (Y16 (Y8 (Y4 (Y1 ([])))))))) [.box [.sl 3 0 0 0,.d c2,.d c3,nI al,.d c5,.d c6],.arr (ints dist) 1 0,.arr (ints at_) 1 0,.ice [] 0 0]:=by
 simp -implicitDefEqProofs (maxSteps:=2000000) (disch:=try exact Dz) only[↓DN,↓kRet,UP,simprocAttr,hd,pE,pP,Tryz.f105]
theorem WX{R:Type}{L n:Nat}(hn:6<=n)(hL:2^60<=L){c2 c3 c5 c6:D}{al:Int}{zs ls dist:List Int}{tab:List (List (List Int))}{aO i6:Nat}{i9:Int}(ht:BQ tab aO)(hd:dist.length=aO)(htt:aO<=16777216)(hkk:∀kk,kk<ls.length->∀i,i<aO->kk<(tab.getD i []).length/\((tab.getD i []).getD kk []).length<=64)(hls:ls.length<=6)(hlr:∀c∈ls,0<=c/\c<=5){Q:Nat->List Int->Prop}
  (hQ:∀d at_,Q (d+1) at_->at_.length<=16777216/\(∀x∈at_,0<=x/\x<aO)/\(∃e,e<ls.length/\bJ tab dist e d at_ []≠[])/\∀e,e<ls.length->bJ tab dist e d at_ []≠[]->Q d (bJ tab dist e d at_ [])) {k:KE R} (j:Nat) (d:Int) (m:Nat) (at_:List Int) (o:List UInt8) (hj:((j+1:Nat):Int)=d) (hm:j+1<m) (hd1:d<=16777300) (hat:Q (j+1) at_) (ho:o.length+(j+1)<=100000000):
  aM env (aA env L n) L 0 [] Bz0 (cF 2) Bz15 m (Y1 (.ptr 0 0 0::.d (.str [])::.d (.bool false)::.d (.ivs zs.length (ints zs))::nI aO::nI i6::.d (.ivs tab.length (tabD tab))::.sl 1 0 0 dist.length::nI i9::.sl 2 0 0 at_.length::.d (.ivs ls.length (ints ls))::.d (.str o)::nI d::Y32 (Y32 (Y16 (Y8 (Y4 (Y1 ([])))))))) [.box [.sl 3 0 0 0,.d c2,.d c3,nI al,.d c5,.d c6],.arr (ints dist) 1 0,.arr (ints at_) 1 0,.ice [] 0 0] k
  =k (.exit 4) (Y1 (.ptr 0 0 0::.d (.str [])::.d (.bool false)::.d (.ivs zs.length (ints zs))::nI aO::nI i6::.d (.ivs tab.length (tabD tab))::.sl 1 0 0 dist.length::nI i9::.d (.ivs (gEnd tab dist ls (j+1) at_).length (ints (gEnd tab dist ls (j+1) at_)))::.d (.ivs ls.length (ints ls))::.d (.str ((o++txt (nJ tab dist ls (j+1) at_))))::nI 0::Y32 (Y32 (Y16 (Y8 (Y4 (Y1 ([])))))))) [.box [.sl 2 0 0 0,.d c2,.d c3,nI al,.d c5,.d c6],.ice (ints dist) 1 0,.ice [] 0 0]:=by
  obtain _|m:=m;omega;obtain⟨q1,q2,q3,q4⟩:=hQ j at_ hat;obtain⟨e,e1,e2,e3,e4⟩:=aCx q3;have hd0:0<d:=by omega
  have hat2:=q4 e e1 e3;have hj:(j:Int)=d-1:=by omega
  simp only[gEnd,nJ,e2];rw[hj]at hat2|-;have kc_c:=fun {R:Type} {n:Nat} {k:KA R} (hn:4<=n)=> @tB R env (aA env L n) [.box [.sl 3 0 0 0,.d c2,.d c3,nI al,.d c5,.d c6],.arr (ints dist) 1 0,.arr (ints at_) 1 0,.ice [] 0 0] [.arr (ints dist) 1 0,.arr (ints at_) 1 0] [.ice (ints dist) 1 0,.ice (ints at_) 1 0] [.box [.sl 3 0 0 0,.d c2,.d c3,nI al,.d c5,.d c6],.ice (ints dist) 1 0,.ice (ints at_) 1 0,.ice [] 0 0] 135 [.d (.ivs tab.length (tabD tab)),.sl 1 0 0 dist.length,(.sl 2 0 0 at_.length),nI ((0:Nat):Int),nI (d-1)] [.d (.ivs tab.length (tabD tab)),.d (.ivs dist.length (ints dist)),.d (.ivs at_.length (ints at_)),nI ((0:Nat):Int),nI (d-1)] _ k [1,2] [1,2] j9 rfl kr rfl (by simp[fB,frzA,frz,frz0,aE,mapA,aH,deep,hJ,eS]) rfl (@vG L n hn hL tab dist at_ (d-1) 0 aO ht hd htt q1 q2 (hkk 0 (by omega))) rfl (by simp) rfl;have loop_c:=fun {R:Type} {n:Nat} (hn:5<=n) {k:KE R}=> @XF R L n hn hL c2 c3 c5 c6 al d zs ls dist at_ o tab aO i6 e i9 ht hd htt q1 q2 hkk (by omega) (by omega) hls e1 (by rw[<-hj];exact e3) k e 0 L (by omega) (by omega) (fun f _ h=>by rw[<-hj];exact e4 f h);simp only[Aq]at kc_c loop_c;obtain⟨l0,l5⟩:=hlr _ (lN e1);have hc:(e:Int)<ls.length:=by omega
  have he0:(0:Int)<=e:=by omega
  have ih':=fun {R:Type} {n:Nat} (hn:6<=n) {k:KE R}=> @W0 R L n hn hL c2 c3 c5 c6 al zs ls dist tab aO i6 i9 ht hd htt hkk hls hlr Q hQ k j (d-1) m (bJ tab dist e (d-1) at_ []) (o++[b7 (ls.getD e 0)]) hj (by omega) (by omega) hat2 (by simp;omega);simp only[txt,Ai,Ao,Av,Am]at ih'|-;clear hkk ht hQ hat hat2 q2 q3 q4 e2 e3 e4 hlr;generalize bJ tab dist e (d-1) at_ []=w at *;generalize bJ tab dist 0 (d-1) at_ []=w0 at *;simp -implicitDefEqProofs (maxSteps:=2000000) (disch:=try exact Dz) only[↓DN,↓kAsg,↓kRet,UP,simprocAttr,↓LY,hc,he0,hd0,↓kc_c,↓loop_c,↓ih',pE,pP,Tryz.f105]
end Ev
end Go.Proofs.YthlkcebdfbjdoaaGreat
