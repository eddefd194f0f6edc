/-
  Words in order: the program's.
-/
import Derived.Test.YthlkcebdfbjdoaaGreatSortLayX
import Derived.Test.YthlkcebdfbjdoaaGreatDrawR
import Derived.Test.YthlkcebdfbjdoaaGreatLeast
import Derived.Test.YthlkcebdfbjdoaaGreatSuiteG
import Derived.Test.YthlkcebdfbjdoaaGreatAgLet
set_option linter.unusedSimpArgs false
set_option linter.unusedVariables false
set_option maxRecDepth 8000
set_option maxHeartbeats 4000000
namespace Go.Proofs.YthlkcebdfbjdoaaGreat
namespace Ev
theorem KR{L n:Nat}(hn:6<=n)(v w:List UInt8)(hv:v.length<=4294967295)(hw:w.length<=4294967295)(hL:2^60<=L):aA env L n 13 [.d (.str v),.d (.str w)] []=some (.d (.bool (cX v&&cX w&&decide (cmpX v w<0))),[]):=by
 cases h1:cX v with
 |false=>
  obtain _|n:=n;omega;simp -implicitDefEqProofs (maxSteps:=2000000) (disch:=try exact Dz) only[↓DN,↓kAsg,↓kRet,UP,simprocAttr,↓AG,h1,xS,sK,Tryz.f13]
 |true=>
  cases h2:cX w with
  |false=>
   obtain _|n:=n;omega;simp -implicitDefEqProofs (maxSteps:=2000000) (disch:=try exact Dz) only[↓DN,↓kAsg,↓kRet,UP,simprocAttr,↓AG,h1,h2,xS,sK,Tryz.f13]
  |true=>
   obtain _|n:=n;omega;simp -implicitDefEqProofs (maxSteps:=2000000) (disch:=try exact Dz) only[↓DN,↓kAsg,↓kRet,UP,simprocAttr,↓AG,↓aGx,h1,h2,xS,sK,Tryz.f13]
theorem aC9:type_of% fun {L} v w hv hw hL=>ks fun hn=> @KR L _ hn v w hv hw hL:=fun {L} v w hv hw hL=>ks fun hn=> @KR L _ hn v w hv hw hL
section
variable{R:Type}{L n:Nat}
theorem aKY{ls:List Int}{l:Int}(h:l∈ls):∀k,[b7 l]∈midG ls (k+1)
 |0=>by
  show [b7 l]∈midG ls 0++lvG ls 1;refine Al.2 (.inr ?_);show [b7 l]∈(lvG ls 0).flatMap (chG ls);exact Di.2 ⟨[],Bk.2 rfl,Bq.2 ⟨l,h,rfl⟩⟩
 |k+1=>Al.2 (.inl (aKY h k))
theorem aL4{al l:Int}(h0:0<=l)(h5:l<=5)(hb:eL al l=true):l∈aB al:=gZ.2 ⟨by omega,hb⟩
structure SuiteOK(a:Aut)(l cov ends:List Str):Prop where
 n:l.length<=3000
 nc:cov.length<=1000
 ne:ends.length<=1000
 c:∀w∈cov,w.length<=1000
 e:∀w∈ends,w.length<=1000
 two:∀c∈cov,∀e∈ends,c++e∈l
 three:∀c∈cov,∀e∈ends,∀b:Int,0<=b->b<=5->eL a.al b=true->c++[b7 b]++e∈l
theorem aLL{a:Aut}{x:Int}{l:List Str}(h:iU a x=some l):SuiteOK a l (cH a) (sepW a):=by
 obtain⟨hv,h0,h2,_,hl⟩:=J5 h;have hP:=Z9 hv (e:=x.toNat) (by omega);refine⟨hl,hP.nc,hP.ne,hP.c,hP.e,fun c hc e he=> ?_,fun c hc e he b b0 b5 hb=> ?_⟩
 ·exact(FC h _).2 ⟨c,hc,[],aDR _,e,he,by rw[Ah]⟩
 ·exact(FC h _).2 ⟨c,hc,[b7 b],aKY (aL4 b0 b5 hb) _,e,he,rfl⟩
theorem SS(hn:8<=n)(hL:2^60<=L){a:Aut}{l:List Str}(hl:l.length<=3000)(hs:m5 l)(hok:∀w∈l,cX w=true){k:KE R}:∀(j i m:Nat) (hi:i+j=l.length) (h1:1<=i) (hm:j<m),
  aM env (aA env L n) L 0 [] Bz3 (cE 0) (U2 (Z2 (U1 (Z1 (U2 (U1 (Z1 (U32 (U32 (U32 (U16 (U8 (U4 ([])))))))))))))) m (Y2 (.d (.bool false)::.ptr 0 0 0::Y1 (.sl 1 0 0 l.length::Y2 (Y1 (nI i::Y32 (Y32 (Y32 (Y16 (Y8 (Y4 ([]))))))))))) [.box [nI a.al,.d (.ivs a.nx.length (aN a.nx)),.d (.ivs a.ac.length (aJ a.ac))],.arr (aL l) 1 0] k
  =k (.exit 0) (Y2 (.d (.bool false)::.ptr 0 0 0::Y1 (.sl 1 0 0 l.length::Y2 (Y1 (nI (l.length)::Y32 (Y32 (Y32 (Y16 (Y8 (Y4 ([]))))))))))) [.box [nI a.al,.d (.ivs a.nx.length (aN a.nx)),.d (.ivs a.ac.length (aJ a.ac))],.arr (aL l) 1 0]:=by
 intro j
 induction j with
 |zero=>
  intro i m hi h1 hm;obtain _|m:=m;omega;obtain rfl:i=l.length:=by omega
  simp -implicitDefEqProofs (maxSteps:=2000000) (disch:=try exact Dz) only[↓DN,↓kRet,UP,simprocAttr,Aj,DP,yK,Tryz.f4]
 |succ j ih=>
  intro i m hi h1 hm;obtain _|m:=m;omega;have hc:(i:Int)<l.length:=by omega
  have hi0:(0:Int)<=i:=by omega
  have hb0:(0:Int)<=(i:Int)-1:=by omega
  have hb1:(i:Int)-1<l.length:=by omega
  have e1:((i:Int)-1).toNat=i-1:=by omega
  have k1:=hok _ (cU (show i-1<l.length by omega));have k2:=hok _ (cU (show i<l.length by omega))
  have h5:cmpX (l.getD (i-1) []) (l.getD i [])<0:=by
   have:=List.pairwise_iff_getElem.1 hs (i-1) i (by omega) (by omega) (by omega);rw[Aa,Ae (show i-1<l.length by omega),Aa,Ae (show i<l.length by omega)];exact this
  have big:∀w:Str,cX w=true->w.length<=4294967295:=by
   intro w h;unfold cX at h;simp only[Ar,decide_eq_true_eq]at h;omega
  have kc_w:=@aC9 L (l.getD (i-1) []) (l.getD i []) (big _ k1) (big _ k2) hL;rw[k1,k2,decide_eq_true h5]at kc_w;simp only[Bu]at kc_w;have ih':=ih (i+1) m (by omega) (by omega) (by omega);rw[cs1 i]at ih';clear ih hok hs h5 big k1 k2;generalize hw:l.getD i []=w at *;generalize hw0:l.getD (i-1) []=w0 at *;simp -implicitDefEqProofs (maxSteps:=2000000) (disch:=try exact Dz) only[↓DN,↓kRet,UP,simprocAttr,SE,hc,hi0,hb0,hb1,e1,hw,hw0,↓kc_w,Br,↓ih',DP,yK,Tryz.f4]
theorem S5(hn:3<=n)(hL:2^60<=L){a:Aut}{l cov ends:List Str}(hO:SuiteOK a l cov ends){i:Int}{p q:Nat}(hp:p<cov.length)(hq:q<ends.length){k:KE R}:∀(j c m:Nat) (hi:c+j=6) (hm:j<m),
  aM env (aA env L n) L 0 [] Bz3 (cE 3) (U2 (Z2 (U1 (Z1 (U2 (U1 (Z4 (Z2 (U32 (U32 (U32 (U16 (U4 (U2 (U1 ([])))))))))))))))) m (Y2 (.d (.bool false)::.ptr 0 0 0::Y1 (.sl 1 0 0 l.length::Y2 (Y1 (nI i::.sl 2 0 0 cov.length::.sl 3 0 0 ends.length::nI p::nI q::nI c::Y32 (Y32 (Y32 (Y16 (Y4 (Y2 (Y1 ([])))))))))))) [.box [nI a.al,.d (.ivs a.nx.length (aN a.nx)),.d (.ivs a.ac.length (aJ a.ac))],.arr (aL l) 1 0,.arr (aL cov) 1 0,.arr (aL ends) 1 0] k
  =k (.exit 6) (Y2 (.d (.bool false)::.ptr 0 0 0::Y1 (.sl 1 0 0 l.length::Y2 (Y1 (nI i::.sl 2 0 0 cov.length::.sl 3 0 0 ends.length::nI p::nI q::nI 6::Y32 (Y32 (Y32 (Y16 (Y4 (Y2 (Y1 ([])))))))))))) [.box [nI a.al,.d (.ivs a.nx.length (aN a.nx)),.d (.ivs a.ac.length (aJ a.ac))],.arr (aL l) 1 0,.arr (aL cov) 1 0,.arr (aL ends) 1 0]:=by
 have hln:=hO.n;intro j
 induction j with
 |zero=>
  intro c m hi hm;obtain _|m:=m;omega;obtain rfl:c=6:=by omega
  have e6:((6:Nat):Int)=6:=rfl;rw[e6];clear hO;simp -implicitDefEqProofs (maxSteps:=2000000) (disch:=try exact Dz) only[↓DN,↓kRet,UP,simprocAttr,Aj,rM,qC,Tryz.f4]
 |succ j ih=>
  intro c m hi hm;obtain _|m:=m;omega;have c0:(0:Int)<=c:=by omega
  have c5:(c:Int)<=5:=by omega
  have hc:(c:Int)<6:=by omega
  have hp1:(p:Int)<cov.length:=by omega
  have hq1:(q:Int)<ends.length:=by omega
  have hp0:(0:Int)<=p:=by omega
  have hq0:(0:Int)<=q:=by omega
  have b1:=hO.c _ (cU hp);have b2:=hO.e _ (cU hq);have b3:(cov.getD p []++[b7 (c:Int)]).length<=1001:=by rw[Af,Co];omega
  have ih':=ih (c+1) m (by omega) (by omega);rw[cs1 c]at ih';have hm3:=hO.three _ (cU hp) _ (cU hq) c c0 c5;have kl_h:=@R4 L l (cov.getD p []++[b7 (c:Int)]++ends.getD q []) (by omega) hL;clear ih hO
  cases hb:eL a.al c with
  |false=>
   clear kl_h hm3;generalize hci:cov.getD p []=w1 at *;generalize hei:ends.getD q []=w2 at *;simp -implicitDefEqProofs (maxSteps:=2000000) (disch:=try exact Dz) only[↓DN,↓kRet,UP,simprocAttr,↓aIs,hc,hb,Br,↓ih',rM,qC,Tryz.f4]
  |true=>
   rw[decide_eq_true (hm3 hb)]at kl_h;clear hm3;generalize hci:cov.getD p []=w1 at *;generalize hei:ends.getD q []=w2 at *;simp -implicitDefEqProofs (maxSteps:=2000000) (disch:=try exact Dz) only[↓DN,↓kRet,UP,simprocAttr,↓aIs,↓aJM,↓MV,SE,hc,hp1,hq1,hp0,hq0,hb,hci,hei,↓kl_h,Br,↓ih',rM,qC,Tryz.f4]
theorem VS(hn:3<=n)(hL:2^60<=L){a:Aut}{l cov ends:List Str}(hO:SuiteOK a l cov ends){i:Int}{p:Nat}(hp:p<cov.length){k:KE R}:∀(j q m:Nat) (hi:q+j=ends.length) (hm:j<m),
  aM env (aA env L n) L 0 [] Bz3 (cE 2) (U2 (Z2 (U1 (Z1 (U2 (U1 (Z4 (Z1 (U32 (U32 (U32 (U16 (U8 ([])))))))))))))) m (Y2 (.d (.bool false)::.ptr 0 0 0::Y1 (.sl 1 0 0 l.length::Y2 (Y1 (nI i::.sl 2 0 0 cov.length::.sl 3 0 0 ends.length::nI p::nI q::Y32 (Y32 (Y32 (Y16 (Y8 ([])))))))))) [.box [nI a.al,.d (.ivs a.nx.length (aN a.nx)),.d (.ivs a.ac.length (aJ a.ac))],.arr (aL l) 1 0,.arr (aL cov) 1 0,.arr (aL ends) 1 0] k
  =k (.exit 4) (Y2 (.d (.bool false)::.ptr 0 0 0::Y1 (.sl 1 0 0 l.length::Y2 (Y1 (nI i::.sl 2 0 0 cov.length::.sl 3 0 0 ends.length::nI p::nI (ends.length)::Y32 (Y32 (Y32 (Y16 (Y8 ([])))))))))) [.box [nI a.al,.d (.ivs a.nx.length (aN a.nx)),.d (.ivs a.ac.length (aJ a.ac))],.arr (aL l) 1 0,.arr (aL cov) 1 0,.arr (aL ends) 1 0]:=by
 have hln:=hO.n;have hne:=hO.ne;intro j
 induction j with
 |zero=>
  intro q m hi hm;obtain _|m:=m;omega;obtain rfl:q=ends.length:=by omega
  clear hO;simp -implicitDefEqProofs (maxSteps:=2000000) (disch:=try exact Dz) only[↓DN,↓kRet,UP,simprocAttr,Aj,CN,yP,Tryz.f4]
 |succ j ih=>
  intro q m hi hm;obtain _|m:=m;omega;have hq:q<ends.length:=by omega
  have hp1:(p:Int)<cov.length:=by omega
  have hq1:(q:Int)<ends.length:=by omega
  have hp0:(0:Int)<=p:=by omega
  have hq0:(0:Int)<=q:=by omega
  have b1:=hO.c _ (cU hp);have b2:=hO.e _ (cU hq);have ih':=ih (q+1) m (by omega) (by omega);rw[cs1 q]at ih';have hm2:=hO.two _ (cU hp) _ (cU hq);have kl_h:=@R4 L l (cov.getD p []++ends.getD q []) (by omega) hL;rw[decide_eq_true hm2]at kl_h;have loop_c:=fun {R n k} hn=> @S5 R L n hn hL a l cov ends hO i p q hp hq k 6 0 L rfl (by omega);simp only[Aq]at loop_c;clear ih hO hm2;generalize hci:cov.getD p []=w1 at *;generalize hei:ends.getD q []=w2 at *;simp -implicitDefEqProofs (maxSteps:=2000000) (disch:=try exact Dz) only[↓DN,↓kAsg,↓kRet,UP,simprocAttr,↓MV,SE,hp1,hq1,hp0,hq0,hci,hei,↓kl_h,↓loop_c,Br,↓ih',CN,yP,Tryz.f4]
theorem R9(hn:3<=n)(hL:2^60<=L){a:Aut}{l cov ends:List Str}(hO:SuiteOK a l cov ends){i:Int}{k:KE R}:∀(j p m:Nat) (hi:p+j=cov.length) (hm:j<m),
  aM env (aA env L n) L 0 [] Bz3 (cE 1) (U2 (Z2 (U1 (Z1 (U2 (U1 (Z4 (U32 (U32 (U32 (U16 (U8 (U1 ([])))))))))))))) m (Y2 (.d (.bool false)::.ptr 0 0 0::Y1 (.sl 1 0 0 l.length::Y2 (Y1 (nI i::.sl 2 0 0 cov.length::.sl 3 0 0 ends.length::nI p::Y32 (Y32 (Y32 (Y16 (Y8 (Y1 ([]))))))))))) [.box [nI a.al,.d (.ivs a.nx.length (aN a.nx)),.d (.ivs a.ac.length (aJ a.ac))],.arr (aL l) 1 0,.arr (aL cov) 1 0,.arr (aL ends) 1 0] k
  =k (.exit 2) (Y2 (.d (.bool false)::.ptr 0 0 0::Y1 (.sl 1 0 0 l.length::Y2 (Y1 (nI i::.sl 2 0 0 cov.length::.sl 3 0 0 ends.length::nI (cov.length)::Y32 (Y32 (Y32 (Y16 (Y8 (Y1 ([]))))))))))) [.box [nI a.al,.d (.ivs a.nx.length (aN a.nx)),.d (.ivs a.ac.length (aJ a.ac))],.arr (aL l) 1 0,.arr (aL cov) 1 0,.arr (aL ends) 1 0]:=by
 have hnc:=hO.nc;have hne:=hO.ne;intro j
 induction j with
 |zero=>
  intro p m hi hm;obtain _|m:=m;omega;obtain rfl:p=cov.length:=by omega
  clear hO;simp -implicitDefEqProofs (maxSteps:=2000000) (disch:=try exact Dz) only[↓DN,↓kRet,UP,simprocAttr,Aj,B2,yQ,Tryz.f4]
 |succ j ih=>
  intro p m hi hm;obtain _|m:=m;omega;have hp1:(p:Int)<cov.length:=by omega
  have ih':=ih (p+1) m (by omega) (by omega);rw[cs1 p]at ih';have loop_c:=fun {R n k} hn=> @VS R L n hn hL a l cov ends hO i p (by omega) k ends.length 0 L (by omega) (by omega);simp only[Aq]at loop_c;clear ih hO;simp -implicitDefEqProofs (maxSteps:=2000000) (disch:=try exact Dz) only[↓DN,↓kAsg,↓kRet,UP,simprocAttr,hp1,↓loop_c,↓ih',B2,yQ,Tryz.f4]
theorem aDL(hn:30<=n)(c:List UInt8)(hL:2^60<=L):aA env L n 4 [.d (.ivs c.length (bI c))] []=some (.d (.bool true),[]):=by
 by_cases hsz:(1048576:Int)<c.length
 ·obtain _|n:=n;omega;simp -implicitDefEqProofs (maxSteps:=2000000) (disch:=try exact Dz) only[↓DN,↓kAsg,↓kRet,UP,simprocAttr,hsz,AV,vA,Tryz.f4]
 ·obtain⟨al,nx,ac,x,b,x0,x1,kd⟩:=aAv c (by omega);have hs:=b.short (by omega);have ha:=b.a;have ha2:ac.length<=4294967296:=by omega
  unfold autD at kd;have hI:=fun {n:Nat} (hn:15<=n)=>aD9 (L:=L) hn ⟨al,nx,ac⟩ x hs ha2 hL;have kc_2:=@aDz L ⟨al,nx,ac⟩ x hs ha2 hL
  cases hG:iU ⟨al,nx,ac⟩ x with
  |none=>
   rw[hG]at hI kc_2;have kc_1:=fun {R:Type} {n:Nat} {hq:H} {k:KA R} (hn:15<=n)=>aGe (h:=hq) (k:=k) rfl pD (hI hn);have kc_3:=@aHC L [] (by simp) hL;simp only[Dj,Cn,Ac,kU]at kc_2 kc_3;clear hI;obtain _|n:=n;omega;simp -implicitDefEqProofs (maxSteps:=2000000) (disch:=try exact Dz) only[↓DN,↓kAsg,↓kRet,UP,simprocAttr,hsz,↓kd,↓kc_1,↓kc_2,↓kc_3,AV,vA,Tryz.f4]
  |some l=>
   rw[hG]at hI kc_2;have kc_1:=fun {R:Type} {n:Nat} {hq:H} {k:KA R} (hn:15<=n)=>aJ6 (h:=hq) (k:=k) rfl pD (hI hn);obtain⟨hv,y0,_,hso,hl⟩:=J5 hG;obtain⟨f1,_⟩:=aIa hG;have hO:=aLL hG;have kc_c:=fun {R:Type} {n:Nat} {hq:H} {k:KA R} (hn:10<=n)=>BP (h:=hq) (k:=k) rfl m9 (JT (L:=L) hn ⟨al,nx,ac⟩ hv hL);have kc_w:=fun {R:Type} {n:Nat} {hq:H} {k:KA R} (hn:10<=n)=>BP (h:=hq) (k:=k) rfl jV (x2 (L:=L) hn ⟨al,nx,ac⟩ hv hL);have loop_a:=fun {R n k} hn=> @SS R L n hn hL ⟨al,nx,ac⟩ l hl hso (fun w hw=>(aKb hG hw).2.2) k (l.length-1) 1 L (by omega) (by omega) (by omega);have hnc:=hO.nc;have loop_b:=fun {R:Type} {n:Nat} {i:Int} {k:KE R} (hn:3<=n)=> @R9 R L n hn hL ⟨al,nx,ac⟩ l _ _ hO i k (cH ⟨al,nx,ac⟩).length 0 L (by omega) (by omega);simp only[Bb,Db]at kc_2;simp only[Aq,Int.natCast_one]at loop_a loop_b;have hl2:(l.length:Int)<=3000:=by omega
   clear hI hG f1 hv hO hso;generalize cH ⟨al,nx,ac⟩=cov at *;generalize sepW ⟨al,nx,ac⟩=ends at *;obtain _|n:=n;omega;simp -implicitDefEqProofs (maxSteps:=2000000) (disch:=try exact Dz) only[↓DN,↓kAsg,↓kRet,UP,simprocAttr,↓aIB,↓aDo,SE,hsz,hl2,↓kd,↓kc_1,↓kc_2,↓kc_c,↓kc_w,↓loop_a,↓loop_b,AV,vA,Tryz.f4]
end
end Ev
end Go.Proofs.YthlkcebdfbjdoaaGreat
