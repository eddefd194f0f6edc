/-
  Test suites: what the laws ask of them; calls whose arguments are data and that lay a suite.
-/
import Derived.Test.YthlkcebdfbjdoaaGreatSuiteI
import Derived.Test.YthlkcebdfbjdoaaGreatDraw2
import Derived.Test.YthlkcebdfbjdoaaGreatShlx
import Derived.Test.YthlkcebdfbjdoaaGreatLeast
set_option linter.unusedSimpArgs false
set_option linter.unusedVariables false
set_option maxRecDepth 8000
set_option maxHeartbeats 4000000
namespace Go.Proofs.YthlkcebdfbjdoaaGreat
namespace Ev
theorem DY{a:Aut}{x:Int}{l:List Str}(h:gM a x=some l)(w:Str):w∈l↔∃c∈b6 a,∃m∈midG (aB a.al) (x.toNat+1),∃e∈sepW a,w=c++m++e:=by
 unfold gM at h
 split at h
 ·exact aMv h w
 ·cases h
theorem JD{a:Aut}{x:Int}{l:List Str}(h:gM a x=some l):AOK a/\0<=x/\x<=2/\mB l/\l.length<=3000:=by
 unfold gM at h
 split at h
 ·rename_i hc
  exact⟨hc.1,hc.2.1,hc.2.2,aNU h⟩
 ·cases h
theorem aCN{ls:List Int}:∀k,[]∈midG ls k
 |0=>by simp[midG]
 |k+1=>Al.2 (.inl (aCN k))
theorem aOV{a:Aut}(h:AOK a):[]∈b6 a:=by
 have:=aN9 h;rw[<-this.first];exact cH this.pos
theorem UE{a:Aut}{i:Int}:∀(q j:Nat) (o:List Str) (w:Str),w∈o->w∈sepJ a i q j o
 |0,_,_,_,h=>h
 |q+1,j,o,w,h=>by
  unfold sepJ
  split
  ·exact UE q (j+1) _ w (Al.2 (.inl h))
  ·exact UE q (j+1) o w h
theorem aED{a:Aut}:∀(q i:Nat) (o:List Str) (w:Str),w∈o->w∈sepA a q i o
 |0,_,_,_,h=>h
 |q+1,i,o,w,h=>by unfold sepA;exact aED q (i+1) _ w (UE _ _ o w h)
theorem aPk(a:Aut):[]∈sepW a:=aED _ _ _ _ (Bk.2 rfl)
theorem aGl{a:Aut}{x:Int}{l:List Str}(h:gM a x=some l):0<l.length/\l.getD 0 []=[]:=by
 obtain⟨hv,_,_,hs,_⟩:=JD h;have hm:[]∈l:=(DY h []).2 ⟨[],aOV hv,[],aCN _,[],aPk a,rfl⟩;obtain⟨i,hi,e⟩:=Ck hm;refine⟨by omega,?_⟩
 rcases Cs i with rfl|h0
 ·rw[Aa,Ae hi,e];rfl
 ·have:=List.pairwise_iff_getElem.1 hs 0 i om hi h0;rw[e]at this
  rcases zJ.1 this with h|⟨_,h⟩
  ·simp at h
  ·simp[Op.bytesLess]at h
theorem aIO{a:Aut}{x:Int}{l:List Str}(h:gM a x=some l){w:Str}(hw:w∈l):(w.length:Int)<=2*a.nx.length+x/\lJ a.al w=true/\cJ w=true:=by
 obtain⟨hv,h0,h2,_,_⟩:=JD h;obtain⟨_,_,a1,a2,_⟩:=bK hv;obtain⟨c,hc,m,hm,e,he,rfl⟩:=(DY h w).1 hw;have:=aGC hv hc hm he;have h3:=this.1;exact⟨by omega,this.ok (j8 hv).2.2.2 om⟩
theorem aIo{R:Type}{E:Env}{call:aU}{h:H}{f:FuncId}{args:List A}{l:List Str}{b:Bool}{k:KA R}(hs:args.all p8=true)(hm:(E.hint f).mode=3)(hc:call f args []=some (.tup [.sl 0 0 0 l.length,.d (.bool b)],[.arr (aK l) 1 0])):
  aW E call h f args k=k (.tup [.sl h.length 0 0 l.length,.d (.bool b)]) (h++[.arr (aK l) 1 0]):=by
 rw[NU hs hm hc (by simp only[kL,jK,tS,Br,Ca,aA1,Bu])];simp[mapA,aE,back,mapO]
theorem aFI{R:Type}{E:Env}{call:aU}{h:H}{f:FuncId}{args:List A}{b:Bool}{k:KA R}(hs:args.all p8=true)(hm:(E.hint f).mode=3)(hc:call f args []=some (.tup [.d (.ivs 0 []),.d (.bool b)],[])):
  aW E call h f args k=k (.tup [.d (.ivs 0 []),.d (.bool b)]) h:=by
 rw[NU hs hm hc rfl];simp[mapA,aE]
theorem aGp{L n:Nat}(hn:1<=n)(a i:Int)(hi:0<=i)(hi2:i<=9223372036854775807):aA env L n 16 [nI a,nI i] []=some (.d (.bool (dS a i)),[]):=by
 obtain _|n:=n;omega
 simp-implicitDefEqProofs (maxSteps:=9^7) (disch:=try exact Dz) only[↓DN,↓kAsg,↓kRet,UP,simprocAttr,↓OY,aMP,YV,aHM,aNJ,aJV,Tryz.f16]<;>rfl
theorem aF3:type_of% fun {L} a i hi hi2=>ks fun hn=> @aGp L _ hn a i hi hi2:=fun {L} a i hi hi2=>ks fun hn=> @aGp L _ hn a i hi hi2
theorem X9{L n:Nat}(hn:1<=n)(l:Int)(h0:0<=l)(h:l<=5):aA env L n 18 [nI l] []=some (.d (.str [bR l]),[]):=by
 have e:IntKind.u8.wrap (97+l)=((bR l).toNat:Int):=UL h0 h;have e2:[D.int .u8 ((bR l).toNat:Int)]=bD [bR l]:=rfl;obtain _|n:=n;omega
 simp-implicitDefEqProofs (maxSteps:=9^7) (disch:=try exact Dz) only[↓DN,↓kAsg,↓kRet,UP,simprocAttr,e,e2,↓zW,aIL,aAS,Tryz.f18]
theorem aIv:type_of% fun {L} l h0 h=>ks fun hn=> @X9 L _ hn l h0 h:=fun {L} l h0 h=>ks fun hn=> @X9 L _ hn l h0 h
theorem H9{L n:Nat}(hn:6<=n)(v w:List UInt8)(hv:v.length<=4294967295)(hw:w.length<=4294967295)(hL:2^60<=L):aA env L n 13 [.d (.str v),.d (.str w)] []=some (.d (.bool (cJ v&&cJ w&&decide (cmpX v w<0))),[]):=by
 cases h1:cJ v with
 |false=>
  obtain _|n:=n;omega
  simp-implicitDefEqProofs (maxSteps:=9^7) (disch:=try exact Dz) only[↓DN,↓kAsg,↓kRet,UP,simprocAttr,↓zM,h1,yH,rS,Tryz.f13]
 |true=>
  cases h2:cJ w with
  |false=>
   obtain _|n:=n;omega
   simp-implicitDefEqProofs (maxSteps:=9^7) (disch:=try exact Dz) only[↓DN,↓kAsg,↓kRet,UP,simprocAttr,↓zM,h1,h2,yH,rS,Tryz.f13]
  |true=>
   obtain _|n:=n;omega
   simp-implicitDefEqProofs (maxSteps:=9^7) (disch:=try exact Dz) only[↓DN,↓kAsg,↓kRet,UP,simprocAttr,↓zM,↓aFt,h1,h2,yH,rS,Tryz.f13]
theorem aBB:type_of% fun {L} v w hv hw hL=>ks fun hn=> @H9 L _ hn v w hv hw hL:=fun {L} v w hv hw hL=>ks fun hn=> @H9 L _ hn v w hv hw hL
section
variable{R:Type}{L n:Nat}
theorem aJL{ls:List Int}{l:Int}(h:l∈ls):∀k,[bR l]∈midG ls (k+1)
 |0=>by
  show [bR l]∈midG ls 0++lvG ls 1;refine Al.2 (.inr ?_);show [bR l]∈(lvG ls 0).flatMap (chG ls);exact Di.2 ⟨[],Bk.2 rfl,Bp.2 ⟨l,h,rfl⟩⟩
 |k+1=>Al.2 (.inl (aJL h k))
theorem aKU{al l:Int}(h0:0<=l)(h5:l<=5)(hb:dS al l=true):l∈aB al:=fZ.2 ⟨by omega,hb⟩
structure SuiteOK(a:Aut)(l cov ends:List Str):Prop where
 n:l.length<=3000
 nc:cov.length<=1000
 ne:ends.length<=1000
 c:∀w∈cov,w.length<=1000
 e:∀w∈ends,w.length<=1000
 two:∀c∈cov,∀e∈ends,c++e∈l
 three:∀c∈cov,∀e∈ends,∀b:Int,0<=b->b<=5->dS a.al b=true->c++[bR b]++e∈l
theorem aJ6{a:Aut}{x:Int}{l:List Str}(h:gM a x=some l):SuiteOK a l (b6 a) (sepW a):=by
 obtain⟨hv,h0,h2,_,hl⟩:=JD h;have hP:=ZW hv (e:=x.toNat) om;refine⟨hl,hP.nc,hP.ne,hP.c,hP.e,fun c hc e he=> ?_,fun c hc e he b b0 b5 hb=> ?_⟩
 ·exact(DY h _).2 ⟨c,hc,[],aCN _,e,he,by rw[Ai]⟩
 ·exact(DY h _).2 ⟨c,hc,[bR b],aJL (aKU b0 b5 hb) _,e,he,rfl⟩
theorem RK(hn:8<=n)(hL:2^60<=L){a:Aut}{l:List Str}(hl:l.length<=3000)(hs:mB l)(hok:∀w∈l,cJ w=true){k:KE R}:∀(j i m:Nat) (hi:i+j=l.length) (h1:1<=i) (hm:j<m),
  aS env (aA env L n) L 0 [] Bz3 (eM 0) (U2 (Z2 (U1 (Z1 (U2 (U1 (Z1 (U32 (U32 (U32 (U16 (U8 (U4 ([])))))))))))))) m (Y2 (.d (.bool false)::.ptr 0 0 0::Y1 (.sl 1 0 0 l.length::Y2 (Y1 (nI i::Y32 (Y32 (Y32 (Y16 (Y8 (Y4 ([]))))))))))) [.box [nI a.al,.d (.ivs a.nx.length (aL a.nx)),.d (.ivs a.ac.length (aJ a.ac))],.arr (aK l) 1 0] k
  =k (.exit 0) (Y2 (.d (.bool false)::.ptr 0 0 0::Y1 (.sl 1 0 0 l.length::Y2 (Y1 (nI (l.length)::Y32 (Y32 (Y32 (Y16 (Y8 (Y4 ([]))))))))))) [.box [nI a.al,.d (.ivs a.nx.length (aL a.nx)),.d (.ivs a.ac.length (aJ a.ac))],.arr (aK l) 1 0]:=by
 intro j
 induction j with
 |zero=>
  intro i m hi h1 hm;obtain _|m:=m;omega;obtain rfl:i=l.length:=om
  simp-implicitDefEqProofs (maxSteps:=9^7) (disch:=try exact Dz) only[↓DN,↓kRet,UP,simprocAttr,Aj,BM,yJ,Tryz.f4]
 |succ j ih=>
  intro i m hi h1 hm;obtain _|m:=m;omega;have hc:(i:Int)<l.length:=om;have hi0:(0:Int)<=i:=om;have hb0:(0:Int)<=(i:Int)-1:=om;have hb1:(i:Int)-1<l.length:=om;have e1:((i:Int)-1).toNat=i-1:=om;have k1:=hok _ (cH (show i-1<l.length by omega));have k2:=hok _ (cH (show i<l.length by omega))
  have h5:cmpX (l.getD (i-1) []) (l.getD i [])<0:=by
   have:=List.pairwise_iff_getElem.1 hs (i-1) i om om om;rw[Aa,Ae (show i-1<l.length by omega),Aa,Ae (show i<l.length by omega)];exact this
  have big:∀w:Str,cJ w=true->w.length<=4294967295:=by
   intro w h;unfold cJ at h;simp only[Ar,decide_eq_true_eq]at h;omega
  have kc_w:=@aBB L (l.getD (i-1) []) (l.getD i []) (big _ k1) (big _ k2) hL;rw[k1,k2,decide_eq_true h5]at kc_w;simp only[Bu]at kc_w;have ih':=ih (i+1) m om om om;rw[cs1 i]at ih';clear ih hok hs h5 big k1 k2;generalize hw:l.getD i []=w at *;generalize hw0:l.getD (i-1) []=w0 at *
  simp-implicitDefEqProofs (maxSteps:=9^7) (disch:=try exact Dz) only[↓DN,↓kRet,UP,simprocAttr,SE,hc,hi0,hb0,hb1,e1,hw,hw0,↓kc_w,Bq,↓ih',BM,yJ,Tryz.f4]
theorem Q0(hn:3<=n)(hL:2^60<=L){a:Aut}{l cov ends:List Str}(hO:SuiteOK a l cov ends){i:Int}{p q:Nat}(hp:p<cov.length)(hq:q<ends.length){k:KE R}:∀(j c m:Nat) (hi:c+j=6) (hm:j<m),
  aS env (aA env L n) L 0 [] Bz3 (eM 3) (U2 (Z2 (U1 (Z1 (U2 (U1 (Z4 (Z2 (U32 (U32 (U32 (U16 (U4 (U2 (U1 ([])))))))))))))))) m (Y2 (.d (.bool false)::.ptr 0 0 0::Y1 (.sl 1 0 0 l.length::Y2 (Y1 (nI i::.sl 2 0 0 cov.length::.sl 3 0 0 ends.length::nI p::nI q::nI c::Y32 (Y32 (Y32 (Y16 (Y4 (Y2 (Y1 ([])))))))))))) [.box [nI a.al,.d (.ivs a.nx.length (aL a.nx)),.d (.ivs a.ac.length (aJ a.ac))],.arr (aK l) 1 0,.arr (aK cov) 1 0,.arr (aK ends) 1 0] k
  =k (.exit 6) (Y2 (.d (.bool false)::.ptr 0 0 0::Y1 (.sl 1 0 0 l.length::Y2 (Y1 (nI i::.sl 2 0 0 cov.length::.sl 3 0 0 ends.length::nI p::nI q::nI 6::Y32 (Y32 (Y32 (Y16 (Y4 (Y2 (Y1 ([])))))))))))) [.box [nI a.al,.d (.ivs a.nx.length (aL a.nx)),.d (.ivs a.ac.length (aJ a.ac))],.arr (aK l) 1 0,.arr (aK cov) 1 0,.arr (aK ends) 1 0]:=by
 have hln:=hO.n;intro j
 induction j with
 |zero=>
  intro c m hi hm;obtain _|m:=m;omega;obtain rfl:c=6:=om;have e6:((6:Nat):Int)=6:=rfl;rw[e6];clear hO
  simp-implicitDefEqProofs (maxSteps:=9^7) (disch:=try exact Dz) only[↓DN,↓kRet,UP,simprocAttr,Aj,rL,pN,Tryz.f4]
 |succ j ih=>
  intro c m hi hm;obtain _|m:=m;omega;have c0:(0:Int)<=c:=om;have c5:(c:Int)<=5:=om;have hc:(c:Int)<6:=om;have hp1:(p:Int)<cov.length:=om;have hq1:(q:Int)<ends.length:=om;have hp0:(0:Int)<=p:=om;have hq0:(0:Int)<=q:=om;have b1:=hO.c _ (cH hp);have b2:=hO.e _ (cH hq);have b3:(cov.getD p []++[bR (c:Int)]).length<=1001:=by rw[Af,Co];omega
  have ih':=ih (c+1) m om om;rw[cs1 c]at ih';have hm3:=hO.three _ (cH hp) _ (cH hq) c c0 c5;have kl_h:=@TG L l (cov.getD p []++[bR (c:Int)]++ends.getD q []) om hL;clear ih hO
  cases hb:dS a.al c with
  |false=>
   clear kl_h hm3;generalize hci:cov.getD p []=w1 at *;generalize hei:ends.getD q []=w2 at *
   simp-implicitDefEqProofs (maxSteps:=9^7) (disch:=try exact Dz) only[↓DN,↓kRet,UP,simprocAttr,↓aF3,hc,hb,Bq,↓ih',rL,pN,Tryz.f4]
  |true=>
   rw[decide_eq_true (hm3 hb)]at kl_h;clear hm3;generalize hci:cov.getD p []=w1 at *;generalize hei:ends.getD q []=w2 at *
   simp-implicitDefEqProofs (maxSteps:=9^7) (disch:=try exact Dz) only[↓DN,↓kRet,UP,simprocAttr,↓aF3,↓aIv,↓L7,SE,hc,hp1,hq1,hp0,hq0,hb,hci,hei,↓kl_h,Bq,↓ih',rL,pN,Tryz.f4]
theorem UJ(hn:3<=n)(hL:2^60<=L){a:Aut}{l cov ends:List Str}(hO:SuiteOK a l cov ends){i:Int}{p:Nat}(hp:p<cov.length){k:KE R}:∀(j q m:Nat) (hi:q+j=ends.length) (hm:j<m),
  aS env (aA env L n) L 0 [] Bz3 (eM 2) (U2 (Z2 (U1 (Z1 (U2 (U1 (Z4 (Z1 (U32 (U32 (U32 (U16 (U8 ([])))))))))))))) m (Y2 (.d (.bool false)::.ptr 0 0 0::Y1 (.sl 1 0 0 l.length::Y2 (Y1 (nI i::.sl 2 0 0 cov.length::.sl 3 0 0 ends.length::nI p::nI q::Y32 (Y32 (Y32 (Y16 (Y8 ([])))))))))) [.box [nI a.al,.d (.ivs a.nx.length (aL a.nx)),.d (.ivs a.ac.length (aJ a.ac))],.arr (aK l) 1 0,.arr (aK cov) 1 0,.arr (aK ends) 1 0] k
  =k (.exit 4) (Y2 (.d (.bool false)::.ptr 0 0 0::Y1 (.sl 1 0 0 l.length::Y2 (Y1 (nI i::.sl 2 0 0 cov.length::.sl 3 0 0 ends.length::nI p::nI (ends.length)::Y32 (Y32 (Y32 (Y16 (Y8 ([])))))))))) [.box [nI a.al,.d (.ivs a.nx.length (aL a.nx)),.d (.ivs a.ac.length (aJ a.ac))],.arr (aK l) 1 0,.arr (aK cov) 1 0,.arr (aK ends) 1 0]:=by
 have hln:=hO.n;have hne:=hO.ne;intro j
 induction j with
 |zero=>
  intro q m hi hm;obtain _|m:=m;omega;obtain rfl:q=ends.length:=om;clear hO
  simp-implicitDefEqProofs (maxSteps:=9^7) (disch:=try exact Dz) only[↓DN,↓kRet,UP,simprocAttr,Aj,A6,yK,Tryz.f4]
 |succ j ih=>
  intro q m hi hm;obtain _|m:=m;omega;have hq:q<ends.length:=om;have hp1:(p:Int)<cov.length:=om;have hq1:(q:Int)<ends.length:=om;have hp0:(0:Int)<=p:=om;have hq0:(0:Int)<=q:=om;have b1:=hO.c _ (cH hp);have b2:=hO.e _ (cH hq);have ih':=ih (q+1) m om om;rw[cs1 q]at ih';have hm2:=hO.two _ (cH hp) _ (cH hq);have kl_h:=@TG L l (cov.getD p []++ends.getD q []) om hL;rw[decide_eq_true hm2]at kl_h;have loop_c:=fun {R n k} hn=> @Q0 R L n hn hL a l cov ends hO i p q hp hq k 6 0 L rfl om;simp only[Aq]at loop_c;clear ih hO hm2;generalize hci:cov.getD p []=w1 at *;generalize hei:ends.getD q []=w2 at *
  simp-implicitDefEqProofs (maxSteps:=9^7) (disch:=try exact Dz) only[↓DN,↓kAsg,↓kRet,UP,simprocAttr,↓L7,SE,hp1,hq1,hp0,hq0,hci,hei,↓kl_h,↓loop_c,Bq,↓ih',A6,yK,Tryz.f4]
theorem S0(hn:3<=n)(hL:2^60<=L){a:Aut}{l cov ends:List Str}(hO:SuiteOK a l cov ends){i:Int}{k:KE R}:∀(j p m:Nat) (hi:p+j=cov.length) (hm:j<m),
  aS env (aA env L n) L 0 [] Bz3 (eM 1) (U2 (Z2 (U1 (Z1 (U2 (U1 (Z4 (U32 (U32 (U32 (U16 (U8 (U1 ([])))))))))))))) m (Y2 (.d (.bool false)::.ptr 0 0 0::Y1 (.sl 1 0 0 l.length::Y2 (Y1 (nI i::.sl 2 0 0 cov.length::.sl 3 0 0 ends.length::nI p::Y32 (Y32 (Y32 (Y16 (Y8 (Y1 ([]))))))))))) [.box [nI a.al,.d (.ivs a.nx.length (aL a.nx)),.d (.ivs a.ac.length (aJ a.ac))],.arr (aK l) 1 0,.arr (aK cov) 1 0,.arr (aK ends) 1 0] k
  =k (.exit 2) (Y2 (.d (.bool false)::.ptr 0 0 0::Y1 (.sl 1 0 0 l.length::Y2 (Y1 (nI i::.sl 2 0 0 cov.length::.sl 3 0 0 ends.length::nI (cov.length)::Y32 (Y32 (Y32 (Y16 (Y8 (Y1 ([]))))))))))) [.box [nI a.al,.d (.ivs a.nx.length (aL a.nx)),.d (.ivs a.ac.length (aJ a.ac))],.arr (aK l) 1 0,.arr (aK cov) 1 0,.arr (aK ends) 1 0]:=by
 have hnc:=hO.nc;have hne:=hO.ne;intro j
 induction j with
 |zero=>
  intro p m hi hm;obtain _|m:=m;omega;obtain rfl:p=cov.length:=om;clear hO
  simp-implicitDefEqProofs (maxSteps:=9^7) (disch:=try exact Dz) only[↓DN,↓kRet,UP,simprocAttr,Aj,BC,xY,Tryz.f4]
 |succ j ih=>
  intro p m hi hm;obtain _|m:=m;omega;have hp1:(p:Int)<cov.length:=om;have ih':=ih (p+1) m om om;rw[cs1 p]at ih';have loop_c:=fun {R n k} hn=> @UJ R L n hn hL a l cov ends hO i p om k ends.length 0 L om om;simp only[Aq]at loop_c;clear ih hO
  simp-implicitDefEqProofs (maxSteps:=9^7) (disch:=try exact Dz) only[↓DN,↓kAsg,↓kRet,UP,simprocAttr,hp1,↓loop_c,↓ih',BC,xY,Tryz.f4]
theorem aCK(hn:30<=n)(c:List UInt8)(hL:2^60<=L):aA env L n 4 [.d (.ivs c.length (bD c))] []=some (.d (.bool true),[]):=by
 by_cases hsz:(1048576:Int)<c.length
 ·obtain _|n:=n;omega
  simp-implicitDefEqProofs (maxSteps:=9^7) (disch:=try exact Dz) only[↓DN,↓kAsg,↓kRet,UP,simprocAttr,hsz,z7,uI,Tryz.f4]
 ·obtain⟨al,nx,ac,x,b,x0,x1,kd⟩:=aAe c om;have hs:=b.short om;have ha:=b.a;have ha2:ac.length<=4294967296:=om;unfold autD at kd;have hI:=fun {n:Nat} (hn:15<=n)=>aCV (L:=L) hn ⟨al,nx,ac⟩ x hs ha2 hL;have kc_2:=@aCD L ⟨al,nx,ac⟩ x hs ha2 hL
  cases hG:gM ⟨al,nx,ac⟩ x with
  |none=>
   rw[hG]at hI kc_2;have kc_1:=fun {R:Type} {n:Nat} {hq:H} {k:KA R} (hn:15<=n)=>aFI (h:=hq) (k:=k) rfl nL (hI hn);have kc_3:=@aGt L [] sm hL;simp only[Option.getD_none,Cm,Ac,kA]at kc_2 kc_3;clear hI;obtain _|n:=n;omega
   simp-implicitDefEqProofs (maxSteps:=9^7) (disch:=try exact Dz) only[↓DN,↓kAsg,↓kRet,UP,simprocAttr,hsz,↓kd,↓kc_1,↓kc_2,↓kc_3,z7,uI,Tryz.f4]
  |some l=>
   rw[hG]at hI kc_2;have kc_1:=fun {R:Type} {n:Nat} {hq:H} {k:KA R} (hn:15<=n)=>aIo (h:=hq) (k:=k) rfl nL (hI hn);obtain⟨hv,y0,_,hso,hl⟩:=JD hG;obtain⟨f1,_⟩:=aGl hG;have hO:=aJ6 hG;have kc_c:=fun {R:Type} {n:Nat} {hq:H} {k:KA R} (hn:10<=n)=>AU (h:=hq) (k:=k) rfl mG (II (L:=L) hn ⟨al,nx,ac⟩ hv hL);have kc_w:=fun {R:Type} {n:Nat} {hq:H} {k:KA R} (hn:10<=n)=>AU (h:=hq) (k:=k) rfl iU (x8 (L:=L) hn ⟨al,nx,ac⟩ hv hL);have loop_a:=fun {R n k} hn=> @RK R L n hn hL ⟨al,nx,ac⟩ l hl hso (fun w hw=>(aIO hG hw).2.2) k (l.length-1) 1 L om om om;have hnc:=hO.nc;have loop_b:=fun {R:Type} {n:Nat} {i:Int} {k:KE R} (hn:3<=n)=> @S0 R L n hn hL ⟨al,nx,ac⟩ l _ _ hO i k (b6 ⟨al,nx,ac⟩).length 0 L om om;simp only[Bb,Cz]at kc_2;simp only[Aq,Int.natCast_one]at loop_a loop_b;have hl2:(l.length:Int)<=3000:=om;clear hI hG f1 hv hO hso;generalize b6 ⟨al,nx,ac⟩=cov at *;generalize sepW ⟨al,nx,ac⟩=ends at *;obtain _|n:=n;omega
   simp-implicitDefEqProofs (maxSteps:=9^7) (disch:=try exact Dz) only[↓DN,↓kAsg,↓kRet,UP,simprocAttr,↓aGI,↓aDk,SE,hsz,hl2,↓kd,↓kc_1,↓kc_2,↓kc_c,↓kc_w,↓loop_a,↓loop_b,z7,uI,Tryz.f4]
end
end Ev
end Go.Proofs.YthlkcebdfbjdoaaGreat
