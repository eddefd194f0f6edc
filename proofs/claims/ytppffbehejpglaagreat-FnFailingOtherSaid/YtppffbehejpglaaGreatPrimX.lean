/-
  Comparing words, where no aIe are known. Written by a program out of the texts of edges and of words.
-/
import Derived.Test.YtppffbehejpglaaGreatShlx
import Derived.Test.YtppffbehejpglaaGreatChecked
import Derived.Shelf.SlSortCmp.NoneTotal
set_option linter.unusedSimpArgs false
set_option linter.unusedVariables false
set_option linter.unusedSectionVars false
set_option maxRecDepth 1000000
set_option maxHeartbeats 4000000
namespace Go.Proofs.YtppffbehejpglaaGreat
namespace Ev
section
variable{R:Type}{L n:Nat}
namespace X1
noncomputable def env1:Env:={ env with prim:=fun _=>none,eqs:=[]}
theorem e1P:env1.P=env.P:=rfl
theorem ZE{args:List A}{h:H}:aA env1 L (n+1) 90 args h=cX env1 (aA env1 L n) L h.length [] ([]) aBN J9 (args++List.replicate (Tryz.f90.ntmps-args.length) (.d .undef)) h (kFin env1.P h.length false [.tmp 2]):=
 JS (mode:=1) kr Tryz.func90 kr kr aBM kr kr
theorem qS{args:List A}{h:H}:aA env1 L (n+1) 56 args h=cX env1 (aA env1 L n) L h.length [] ([]) X3 m8 (args++List.replicate (Tryz.f56.ntmps-args.length) (.d .undef)) h (kFin env1.P h.length false [.tmp 4]):=
 JS (mode:=1) kr Tryz.func56 kr kr V8 kr kr
theorem OB{args:List A}{h:H}:aA env1 L (n+1) 55 args h=cX env1 (aA env1 L n) L h.length [] (false::false::true::true::false::false::true::true::true::false::false::false::false::false::false::false::false::false::[]) pT HV (args++List.replicate (Tryz.f55.ntmps-args.length) (.d .undef)) h (kFin env1.P h.length false [.tmp 2]):=
 JS (mode:=1) kr Tryz.func55 kr kr S3 kr kr
theorem rY{R:Type}{call:aX}{L nf n:Nat}{thaw:List Nat}{live m:List Bool}{s:List A}{h:H}{k:KE R}:aR env1 call L nf thaw live (pT 0) m (n+1) s h k=cX env1 call L nf thaw live pT sZ s h (YP env1 call L nf thaw live (pT 0) m n k):=
 aDL S3 kr
theorem QL{args:List A}{h:H}:aA env1 L (n+1) 91 args h=cX env1 (aA env1 L n) L h.length [] ([]) TR DT (args++List.replicate (Tryz.f91.ntmps-args.length) (.d .undef)) h (kFin env1.P h.length false [.tmp 2]):=
 JS (mode:=1) kr Tryz.func91 kr kr TG kr kr
theorem mU{args:List A}{h:H}:aA env1 L (n+1) 57 args h=cX env1 (aA env1 L n) L h.length [] ([]) OM kC (args++List.replicate (Tryz.f57.ntmps-args.length) (.d .undef)) h (kFin env1.P h.length false [.tmp 4]):=
 JS (mode:=1) kr Tryz.func57 kr kr NU kr kr
theorem aFr{args:List A}{h:H}:aA env1 L (n+1) 27 args h=cX env1 (aA env1 L n) L h.length [] ([]) aH4 U6 (args++List.replicate (Tryz.f27.ntmps-args.length) (.d .undef)) h (kFin env1.P h.length false [.tmp 4]):=
 JS (mode:=1) kr Tryz.func27 kr kr aHG kr kr
theorem ZK(hn:1<=n)(a:Int):aA env1 L n 90 [nI a] []=some (.d (.bool false),[]):=by
 obtain _|n:=n;omega;rw[ZE];simp only[J9,Tryz.f90,SLM,simprocAttr]
 simp-implicitDefEqProofs (maxSteps:=9^7) (disch:=try exact Dz) only[↓DN,↓kAsg,↓kRet,e1P,UP,simprocAttr]
theorem uQ{hq:H}{k:KA R}(hn:1<=n)(a:Int):aW env1 (aA env1 L n) hq 90 [nI a] k=k (.d (.bool false)) hq:=
 b6 rfl (ZK hn a) rfl (.inl rfl)
theorem TF(hn:2<=n)(a b:Int):aA env1 L n 56 [nI a,nI b] []=some (nI (cmpI a b),[]):=by
 unfold cmpI
 by_cases h1:a<b
 ·obtain _|n:=n;omega;rw[qS];simp only[m8,Tryz.f56,SLM,simprocAttr]
  simp-implicitDefEqProofs (maxSteps:=9^7) (disch:=try exact Dz) only[↓DN,↓kAsg,↓kRet,e1P,UP,simprocAttr,↓uQ,h1]
 ·by_cases h2:b<a
  ·obtain _|n:=n;omega;rw[qS];simp only[m8,Tryz.f56,SLM,simprocAttr]
   simp-implicitDefEqProofs (maxSteps:=9^7) (disch:=try exact Dz) only[↓DN,↓kAsg,↓kRet,e1P,UP,simprocAttr,↓uQ,h1,h2]
  ·obtain _|n:=n;omega;rw[qS];simp only[m8,Tryz.f56,SLM,simprocAttr]
   simp-implicitDefEqProofs (maxSteps:=9^7) (disch:=try exact Dz) only[↓DN,↓kAsg,↓kRet,e1P,UP,simprocAttr,↓uQ,h1,h2]
theorem TX{hq:H}{k:KA R}(hn:2<=n)(a b:Int):aW env1 (aA env1 L n) hq 56 [nI a,nI b] k=k (nI (cmpI a b)) hq:=
 b6 rfl (TF hn a b) rfl (.inl rfl)
theorem IM(hn:1<=n){l:List Int}(hl:l.length<=1000){k:KE R}:∀(i:Int) (m:Nat) (h0:0<=i) (hi:i<=l.length) (hm:(l.length:Int)-i<m),
  aR env1 (aA env1 L n) L 0 [] (Z2 (U2 (Z2 (U2 (U1 (Z8 (Z1 ([])))))))) (pT 0) (U2 (Z2 (U2 (Z2 (Z1 (U8 (U1 ([])))))))) m (Y2 (nI 0::nI 0::Y2 (.d (.ivs l.length (ints l))::nI (l.length)::nI i::Y8 (Y1 ([]))))) [] k
  =if qB (l.drop i.toNat)=0 then k (.exit 0) (Y2 (nI 0::nI 0::Y2 (.d (.ivs l.length (ints l))::nI (l.length)::nI (l.length)::Y8 (Y1 ([]))))) []else k .ret (Y2 (nI (qB (l.drop i.toNat))::nI 0::Y2 (.d (.ivs l.length (ints l))::nI (l.length)::nI (i+lz (l.drop i.toNat))::Y8 (Y1 ([]))))) []:=by
 intro i m h0 hi hm;obtain⟨j,hj⟩:∃j:Nat,(j:Int)=(l.length:Int)-i:=⟨((l.length:Int)-i).toNat,by omega⟩
 induction j generalizing i m with
 |zero=>
  obtain _|m:=m;omega;obtain rfl:i=l.length:=om;rw[rY];simp only[sZ,Tryz.f55,SLM,simprocAttr]
  simp-implicitDefEqProofs (maxSteps:=9^7) (disch:=try exact Dz) only[↓DN,↓kRet,UP,simprocAttr,Ah];simp only[Bw,qB,if_true]
 |succ j ih=>
  obtain _|m:=m;omega;have hc:i<l.length:=om;have hk:i.toNat<l.length:=om;have e1:(i+1).toNat=i.toNat+1:=om;rw[cB hk (d:=0)]
  by_cases hz:l.getD i.toNat 0=0
  ·rw[rY];simp only[sZ,Tryz.f55,SLM,simprocAttr]
   simp-implicitDefEqProofs (maxSteps:=9^7) (disch:=try exact Dz) only[↓DN,↓kRet,e1P,UP,simprocAttr,hc,hz,↓ih];simp only[qB,lz,if_true,e1,Int.natCast_add,Int.add_assoc,Int.add_comm 1]<;>rfl
  ·rw[rY];simp only[sZ,Tryz.f55,SLM,simprocAttr]
   simp-implicitDefEqProofs (maxSteps:=9^7) (disch:=try exact Dz) only[↓DN,↓kRet,e1P,UP,simprocAttr,hc,hz];simp only[qB,lz,hz,if_false,Aq,Int.add_zero]
theorem aEZ(hn:2<=n)(l:List Int)(hl:l.length<=1000)(hL:2^60<=L):aA env1 L n 55 [.d (.ivs l.length (ints l))] []=some (nI (qB l),[]):=by
 by_cases hz:qB l=0
 ·obtain _|n:=n;omega;rw[OB];simp only[HV,Tryz.f55,SLM,simprocAttr]
  simp-implicitDefEqProofs (maxSteps:=9^7) (disch:=try exact Dz) only[↓DN,↓kAsg,↓kRet,e1P,UP,simprocAttr,↓IM,Cy,hz]
 ·obtain _|n:=n;omega;rw[OB];simp only[HV,Tryz.f55,SLM,simprocAttr]
  simp-implicitDefEqProofs (maxSteps:=9^7) (disch:=try exact Dz) only[↓DN,↓kAsg,↓kRet,e1P,UP,simprocAttr,↓IM,Cy,hz]
theorem aE6{k:A->Option R}(hn:2<=n)(l:List Int)(hl:l.length<=1000)(hL:2^60<=L):vX (aA env1 L n) 55 [.d (.ivs l.length (ints l))] k=k (nI (qB l)):=
 mJ (aEZ hn l hl hL) rfl
theorem aCk{hq:H}{k:KA R}{id0 g0 o0 len0:Nat}:aW env1 (aA env1 L n) hq 55 [.sl id0 g0 o0 len0] k=match box (YC hq [.sl id0 g0 o0 len0])with
  |.mk (some fs)=>vX (aA env1 L n) 55 fs fun r=>k r hq
  |_=>none:=eA y4
theorem RA(hn:1<=n)(x:List UInt8):aA env1 L n 91 [.d (.str x)] []=some (.d (.bool false),[]):=by
 obtain _|n:=n;omega;rw[QL];simp only[DT,Tryz.f91,SLM,simprocAttr]
 simp-implicitDefEqProofs (maxSteps:=9^7) (disch:=try exact Dz) only[↓DN,↓kAsg,↓kRet,e1P,UP,simprocAttr,aMJ]
theorem pF{hq:H}{k:KA R}(hn:1<=n)(x:List UInt8):aW env1 (aA env1 L n) hq 91 [.d (.str x)] k=k (.d (.bool false)) hq:=
 b6 rfl (RA hn x) rfl (.inl rfl)
theorem NF(hn:2<=n)(x y:List UInt8):aA env1 L n 57 [.d (.str x),.d (.str y)] []=some (nI (cmpB x y),[]):=by
 unfold cmpB
 by_cases h1:Op.bytesLess x y=true
 ·obtain _|n:=n;omega;rw[mU];simp only[kC,Tryz.f57,SLM,simprocAttr]
  simp-implicitDefEqProofs (maxSteps:=9^7) (disch:=try exact Dz) only[↓DN,↓kAsg,↓kRet,e1P,UP,simprocAttr,↓pF,Q3,h1]
 ·have hg:=aOc h1
  by_cases h2:Op.bytesLess y x=true
  ·rw[h2,Bool.not_true]at hg;obtain _|n:=n;omega;rw[mU];simp only[kC,Tryz.f57,SLM,simprocAttr]
   simp-implicitDefEqProofs (maxSteps:=9^7) (disch:=try exact Dz) only[↓DN,↓kAsg,↓kRet,e1P,UP,simprocAttr,↓pF,Q3,aDI,h1,h2,hg]
  ·rw[Bool.eq_false_iff.2 h2,Bool.not_false]at hg;obtain _|n:=n;omega;rw[mU];simp only[kC,Tryz.f57,SLM,simprocAttr]
   simp-implicitDefEqProofs (maxSteps:=9^7) (disch:=try exact Dz) only[↓DN,↓kAsg,↓kRet,e1P,UP,simprocAttr,↓pF,Q3,aDI,h1,h2,hg]
theorem M6{hq:H}{k:KA R}(hn:2<=n)(x y:List UInt8):aW env1 (aA env1 L n) hq 57 [.d (.str x),.d (.str y)] k=k (nI (cmpB x y)) hq:=
 b6 rfl (NF hn x y) rfl (.inl rfl)
theorem ev1_i_shortlex(hn:4<=n)(x y:List UInt8)(hL:2^60<=L):aA env1 L n 27 [.d (.str x),.d (.str y)] []=some (nI (cmpX x y),[]):=by
 have k3:∀ {R:Type} {n:Nat} {k:A->Option R},2<=n->vX (aA env1 L n) 55 [.d (.ivs 2 (ints [cmpI x.length y.length,cmpB x y]))] k=k (nI (qB [cmpI x.length y.length,cmpB x y])):=fun h=>aE6 h [cmpI x.length y.length,cmpB x y] sm hL;obtain _|n:=n;omega;rw[aFr];simp only[U6,Tryz.f27,SLM,simprocAttr]
 simp-implicitDefEqProofs (maxSteps:=9^7) (disch:=try exact Dz) only[↓DN,↓kAsg,↓kRet,e1P,UP,simprocAttr,↓TX,↓M6,↓aCk,aTM,↓k3]<;>rfl
end X1
end
section
open Go.Shelf
def aJ3:Go.Shelf.Ren:=⟨fun|6=>52|15=>88|14=>87|28=>116|29=>117|20=>108|21=>109|22=>110|23=>111|24=>112|25=>113|26=>114|27=>115|46=>132|47=>133|48=>134|49=>135|50=>136|57=>141|n=>n,fun|22=>31|24=>9|25=>53|3=>3|39=>103|0=>0|53=>125|55=>127|4=>4|46=>119|45=>118|50=>80|5=>5|9=>9|66=>143|70=>147|76=>156|77=>157|n=>n,fun|n=>n⟩
theorem aJE:Go.Proofs.SlLaysF.n6 Tryz.prog aJ3:={
 mixed:=by kernel_rfl
 f6:=⟨Tryz.f52.name,by decide,Tryz.func52.trans (congrArg some (by kernel_rfl))⟩
 f14:=⟨Tryz.f87.name,by decide,Tryz.func87.trans (congrArg some (by kernel_rfl))⟩
 f15:=Tryz.func88.trans (congrArg some (by kernel_rfl))
 f20:=⟨Tryz.f108.name,by decide,Tryz.func108.trans (congrArg some (by kernel_rfl))⟩
 f21:=⟨Tryz.f109.name,by decide,Tryz.func109.trans (congrArg some (by kernel_rfl))⟩
 f22:=⟨Tryz.f110.name,by decide,Tryz.func110.trans (congrArg some (by kernel_rfl))⟩
 f23:=⟨Tryz.f111.name,by decide,Tryz.func111.trans (congrArg some (by kernel_rfl))⟩
 f24:=⟨Tryz.f112.name,by decide,Tryz.func112.trans (congrArg some (by kernel_rfl))⟩
 f25:=⟨Tryz.f113.name,by decide,Tryz.func113.trans (congrArg some (by kernel_rfl))⟩
 f26:=⟨Tryz.f114.name,by decide,Tryz.func114.trans (congrArg some (by kernel_rfl))⟩
 f27:=⟨Tryz.f115.name,by decide,Tryz.func115.trans (congrArg some (by kernel_rfl))⟩
 f28:=Tryz.func116.trans (congrArg some (by kernel_rfl))
 f29:=Tryz.func117.trans (congrArg some (by kernel_rfl))
 f46:=⟨Tryz.f132.name,by decide,Tryz.func132.trans (congrArg some (by kernel_rfl))⟩
 f47:=Tryz.func133.trans (congrArg some (by kernel_rfl))
 f48:=Tryz.func134.trans (congrArg some (by kernel_rfl))
 f49:=⟨Tryz.f135.name,by decide,Tryz.func135.trans (congrArg some (by kernel_rfl))⟩
 f50:=⟨Tryz.f136.name,by decide,Tryz.func136.trans (congrArg some (by kernel_rfl))⟩
 f57:=⟨Tryz.f141.name,by decide,Tryz.func141.trans (congrArg some (by kernel_rfl))⟩
 t0:=Tryz.underlying0
 a0:=Tryz.isAgg0
 z0:=Tryz.sizeOf0
 v0:=Tryz.zeroValue0
 t3:=Tryz.underlying3
 a3:=Tryz.isAgg3
 z3:=Tryz.sizeOf3
 v3:=Tryz.zeroValue3
 t4:=Tryz.underlying4
 a4:=Tryz.isAgg4
 z4:=Tryz.sizeOf4
 v4:=Tryz.zeroValue4
 t5:=Tryz.underlying5
 a5:=Tryz.isAgg5
 z5:=Tryz.sizeOf5
 v5:=Tryz.zeroValue5
 t9:=Tryz.underlying9
 a9:=Tryz.isAgg9
 z9:=Tryz.sizeOf9
 v9:=Tryz.zeroValue9
 t22:=Tryz.underlying31
 a22:=Tryz.isAgg31
 z22:=Tryz.sizeOf31
 v22:=Tryz.zeroValue31
 a24:=Tryz.isAgg9
 z24:=Tryz.sizeOf9
 t25:=Tryz.underlying53
 a25:=Tryz.isAgg53
 z25:=Tryz.sizeOf53
 v25:=Tryz.zeroValue53
 t39:=Tryz.underlying103
 a39:=Tryz.isAgg103
 z39:=Tryz.sizeOf103
 v39:=Tryz.zeroValue103
 t45:=Tryz.underlying118
 a45:=Tryz.isAgg118
 z45:=Tryz.sizeOf118
 v45:=Tryz.zeroValue118
 t46:=Tryz.underlying119
 a46:=Tryz.isAgg119
 z46:=Tryz.sizeOf119
 v46:=Tryz.zeroValue119
 t50:=Tryz.underlying80
 a50:=Tryz.isAgg80
 z50:=Tryz.sizeOf80
 v50:=Tryz.zeroValue80
 t53:=Tryz.underlying125
 a53:=Tryz.isAgg125
 z53:=Tryz.sizeOf125
 v53:=Tryz.zeroValue125
 t55:=Tryz.underlying127
 a55:=Tryz.isAgg127
 z55:=Tryz.sizeOf127
 v55:=Tryz.zeroValue127
 t66:=Tryz.underlying143
 a66:=Tryz.isAgg143
 z66:=Tryz.sizeOf143
 v66:=Tryz.zeroValue143
 t70:=Tryz.underlying147
 a70:=Tryz.isAgg147
 z70:=Tryz.sizeOf147
 v70:=Tryz.zeroValue147
 t76:=Tryz.underlying156
 a76:=Tryz.isAgg156
 z76:=Tryz.sizeOf156
 v76:=Tryz.zeroValue156
 t77:=Tryz.underlying157
 a77:=Tryz.isAgg157
 z77:=Tryz.sizeOf157
 v77:=Tryz.zeroValue157}
end
section
variable{G:Gnd}
open Go.RowKit Go.Lib Go.Sort
theorem aSr:EnvOK X1.env1:=⟨fun t n h=>by
  have:X1.env1.eqs=[]:=rfl;rw[this]at h;simp at h,by kernel_rfl⟩
theorem aTy{w w':World}(g:Grew true w w'):∃q os,w'=grow (w.drewN q) os:=by
 refine⟨w'.drawn-w.drawn,w'.heap.extract w.heap.size w'.heap.size,?_⟩
 have h1:w'.heap=w.heap++w'.heap.extract w.heap.size w'.heap.size:=by
  apply Array.ext_getElem?;intro j;rw[Array.getElem?_append]
  by_cases h:j<w.heap.size
  ·rw[if_pos h];exact g.same j h
  ·rw[if_neg h,Array.getElem?_extract];have:=g.size
   by_cases h2:j<w'.heap.size
   ·rw[if_pos om];congr 1;omega
   ·rw[if_neg om,Array.getElem?_eq_none om]
 have h2:w.drawn+(w'.drawn-w.drawn)=w'.drawn:=by have:=g.drawn rfl;omega
 have h3:=g.os;have h4:=g.tape;have h5:=g.output;generalize w'.heap.extract w.heap.size w'.heap.size=os at h1|-;generalize w'.drawn-w.drawn=q at h2|-
 cases w' with
 |mk heap tape drawn os' output=>
  simp only at h1 h2 h3 h4 h5;subst h1;subst h2;subst h3;subst h4;subst h5;rfl
def encX(x:List UInt8):Value:=.string ⟨x.toArray⟩
theorem aQL(x y:List UInt8)(w:World):Calls Tryz.prog 27 #[encX x,encX y] w fun e w'=>e=.returned (.int .i64 (cmpX x y))/\∃q os,w'=grow (w.drewN q) os:=by
 have he:=X1.ev1_i_shortlex (L:=2^60) (n:=4) (Ab _) x y (Ab _);obtain⟨_,hc⟩:=aNB (G:=⟨[],true⟩) (E:=X1.env1) (L:=2^60) aSr (fun f g h=>by cases h) 4 _ _ _ _ _ he
 have ha:ARv [] (fun _=>none) w (fun b=>b<w.heap.size) [.d (.str x),.d (.str y)] [encX x,encX y]:=by
  simp only[ARv,AR,DR,encX];exact⟨_,_,rfl,rfl,_,_,rfl,rfl,rfl⟩
 refine(hc (fun _=>none) w (fun b=>b<w.heap.size) _ (xR (fun _ h=>h) (ground_nil _ _)) ha).mono fun e w' hh=> ?_;obtain⟨v,ρ',I',rfl,s,hv⟩:=hh;have hv:v=.int .i64 (cmpX x y):=by simpa only[AR,DR]using hv
 subst hv;exact⟨rfl,aTy (Q1 s)⟩
theorem swoX:SWO (ltOf cmpX) where
 irrefl x:=by unfold ltOf;simpa using GY x
 trans x y z h1 h2:=by unfold ltOf at *;simp only[decide_eq_true_eq]at *;exact sP h1 h2
 ntrans x y z h1 h2:=by
  unfold ltOf at *;simp only[decide_eq_false_iff_not]at *;intro h3
  rcases N1 x y with rfl|g|g
  ·exact h2 h3
  ·exact h1 g
  ·exact h2 (sP g h3)
theorem totX(x y:List UInt8)(h1:ltOf cmpX x y=false)(h2:ltOf cmpX y x=false):x=y:=by
 unfold ltOf at *;simp only[decide_eq_false_iff_not]at *
 rcases N1 x y with h|h|h
 ·exact h
 ·exact(h1 h).elim
 ·exact(h2 h).elim
theorem aLH:∀(ds:List D) (l:List (List UInt8)),C0 ds=some l->ds=l.map .str
 | [],l,h=>by simp only[C0,Option.some.injEq]at h;subst h;rfl
 |d::ds,l,h=>by
  cases d<;>simp only[C0,reduceCtorEq]at h
  obtain⟨l',h1,rfl⟩:=Ay.1 h;rw[aLH ds l' h1];rfl
theorem aKk{l:List (List UInt8)}{j:Nat}(h:j<l.length):∃s,(l.map D.str)[j]? =some (.str s)/\l.toArray[j]! =s:=by
 refine⟨l[j],?_,?_⟩
 ·rw[Bd,Ad h];rfl
 ·simp[h]
theorem aGJ(b len cap:Nat)(l:List (List UInt8))(hl:l.length=len)(w:World)(hH:Holds encX w b 0 l.toArray)(hb:b<w.heap.size)(hm:len<=4294967296):
  Calls Tryz.prog 52 #[.slice (some ⟨b,0,none⟩) len cap,.func (.func 27) #[] #[]] w fun e w'=>e=.returned (.tuple #[])/\∃n os,w'=sortWorld encX w b 0 n (l.mergeSort leX).toArray os:=by
 have eg:∀args w,(callFunc 27 args).run Tryz.prog w=.ok (.enter 27 args) w:=enters_of Tryz.func27 kr rfl;have hS:=Any.slices_SortFunc_total aJE encX (fun _=>rfl) cmpX swoX 27 #[] b 0 cap l.toArray w eg (fun _ _ _ _ x y=>aQL x y _) hH hb (by simp;omega) totX;have e1:l.toArray.size=len:=by simpa using hl
 rw[e1]at hS;exact hS
theorem aM2(p:Option Addr)(cap:Nat)(fv:Value)(w:World):Calls Tryz.prog 52 #[.slice p 0 cap,fv] w fun e w'=>e=.returned (.tuple #[])/\w'=w:=
 AnyF.slices_SortFunc_none { aJE with} p cap fv w
theorem aLj:yQ G Tryz.prog 52 (H6 27):=by
 intro k args h x h' he;simp only at he
 split at he
 ·rename_i hk
  subst hk;refine⟨⟨_,Tryz.func52,by kernel_rfl,by kernel_rfl⟩,fun ρ w I vs r ha=> ?_⟩;unfold H6 at he
  split at he
  ·rename_i id gen off len f
   split at he
   ·rename_i cs e g hid
    split at he
    ·rename_i hc
     obtain⟨rfl,rfl,rfl,he3,hcl,hmx⟩:=hc
     split at he
     ·rename_i l htr
      cases he;obtain⟨v1,rest1,rfl,hx,hr1⟩:=fI ha
      obtain⟨v2,rest2,rfl,hv2,hr2⟩:=fI hr1;simp only[ARv]at hr2;subst hr2;simp only[AR,ARv]at hv2 hx;obtain⟨caps,rfl,hcaps⟩:=hv2;obtain rfl:caps= #[]:=by simpa using hcaps
      obtain⟨a,cap,rfl,hs⟩:=hx;have hcs:=aLH _ _ htr
      have hll:l.length=len:=by
       have:=congrArg List.length hcs;rw[Ao,Bk]at this;omega
      by_cases h0:len=0
      ·subst h0;have hl0:l=[]:=Bs.1 hll;subst hl0;refine(aM2 a cap _ w).mono ?_;rintro e' w' ⟨rfl,rfl⟩
       have hsame:h.set id (.arr ((List.mergeSort [] leX).map .str++cs.drop 0) e g)=h:=by
        have:(List.mergeSort [] leX).map D.str++cs.drop 0=cs:=sm;rw[this];apply Cm;intro j;rw[Cj];obtain⟨hl,hee⟩:=Au.1 hid
        by_cases e1:id=j
        ·subst e1;simp[hl,hee]
        ·simp[e1]
       rw[hsame];exact⟨_,ρ,I,rfl,.refl r,by simp[AR,ARv]⟩
      ·obtain rfl:e=1:=om;simp only[slOK,hid]at hs;obtain⟨_,hs⟩:=hs;obtain⟨hlc,hs⟩:=hs trivial
       obtain⟨b,hρ⟩:∃b,ρ id=some b:=by
        cases hb:ρ id with
        |none=>rw[hb]at hs;simp only at hs;omega
        |some b=>exact⟨b,rfl⟩
       rw[hρ]at hs;simp only at hs;obtain⟨rfl,_,C,E,fz,hbk,hC⟩:=hs.resolve_left (by omega:¬cap=0);have hO:=r.obj id _ hid;simp only[OR,hρ]at hO;obtain⟨_,hIb,C2,E2,fz2,hbk2,hun,hdr⟩:=hO;rw[hbk]at hbk2;cases hbk2;simp only[Ag]at hC;rw[eX]at hdr;have hcell:=dJ hbk;have hlt:b<w.heap.size:=(Bl.1 hbk).1
       have hH:Holds encX w b 0 l.toArray:=by
        intro j hj;simp only[List.size_toArray]at hj;obtain⟨z,h1,h2⟩:=aKk hj
        have hk:cs[j]? =some (.str z):=by
         rw[<-hcs,Cz,if_pos om]at h1;exact h1
        obtain⟨v,hv,hd,_⟩:=hdr j _ hk;simp only[DR]at hd;subst hd;rw[Ag]at hv|-;refine⟨by rw[cell?_eq,hv,h2];rfl,?_⟩;have h3:=hun.1 j om;simp only[World.frozen?,hbk]
        by_cases h4:fz.1<=j<;>by_cases h5:j<fz.2<;>simp[h4,h5]
        exact h3 ⟨h4,h5⟩
       refine(aGJ b len cap l hll w hH hlt hmx).mono ?_;rintro e' w' ⟨rfl,n,os,rfl⟩;have hsl:(l.mergeSort leX).length=len:=by rw[List.length_mergeSort];exact hll
       obtain⟨C',hC'⟩:∃C',C'=putCells encX 0 (l.mergeSort leX).toArray C:=⟨_,rfl⟩
       have hC's:C'.size=C.size:=by rw[hC'];simp[putCells]
       have hC'g:∀k,k<C.size->C'[k]? =if k<len then some (encX ((l.mergeSort leX).toArray[k]!))else C[k]?:=by
        intro k hk;rw[hC'];simp only[putCells,Array.getElem?_mapIdx,List.size_toArray,hsl,Co,true_and,Ag,Nat.sub_zero];rw[Array.getElem?_eq_getElem hk]
        by_cases hk2:k<len<;>simp[hk2]
       obtain⟨W,hW⟩:∃W,W=sortWorld encX w b 0 n (l.mergeSort leX).toArray os:=⟨_,rfl⟩
       rw[<-hW];have hWh:W.heap=(w.heap.modify b (onCells (putCells encX 0 (l.mergeSort leX).toArray)))++os:=by rw[hW];rfl
       have hWb:W.heap[b]? =some (.cells C' E fz):=by
        rw[hWh,Eo (by simpa using hlt),Ei,if_pos rfl,hbk,hC'];rfl
       have hWo:∀k,k<w.heap.size->k≠b->W.heap[k]? =w.heap[k]?:=by
        intro k hk hne;rw[hWh,Eo (by simpa using hk),Ei,if_neg (Ne.symm hne)]
       have hcsC:cs.length<=C.size:=by
        rcases Cq C.size cs.length with hlt|hge
        ·obtain⟨v,hv,_⟩:=hdr C.size _ (Ad hlt);rw[Ag,hcell]at hv;simp at hv
        ·exact hge
       have hml:((l.mergeSort leX).map D.str).length=len:=by rw[Ao,hsl]
       have hlen':((l.mergeSort leX).map D.str++cs.drop len).length=cs.length:=by
        rw[Af,hml,Cf];omega
       have at_id:(h.set id (.arr ((l.mergeSort leX).map .str++cs.drop len) 1 g))[id]? =some (.arr ((l.mergeSort leX).map .str++cs.drop len) 1 g):=by
        have:=(Au.1 hid).1;simp[this]
       have hpk:∀(k:Nat) (d:D),((l.mergeSort leX).map D.str++cs.drop len)[k]? =some d->∃v,C'[k]? =some v/\v.oneCell'=true/\DR w I d v:=by
        intro k d hk;have hkl:=(Au.1 hk).1;rw[hlen']at hkl;rw[hC'g k om]
        by_cases hk3:k<len
        ·obtain⟨z,h1,h2⟩:=aKk (l:=l.mergeSort leX) (j:=k) om;rw[Bc om,h1]at hk;cases hk;rw[if_pos hk3,h2];exact⟨_,rfl,rfl,by simp only[DR,encX]⟩
        ·rw[if_neg hk3];rw[Bn om,hml,List.getElem?_drop]at hk;have e5:len+(k-len)=k:=om;rw[e5]at hk;obtain⟨v,hv,hd,h1⟩:=hdr k d hk;rw[Ag,hcell]at hv;exact⟨v,hv,h1,hd⟩
       have st:=dY (w':=W) (I':=I) (o':=.arr ((l.mergeSort leX).map .str++cs.drop len) 1 g) r hid trivial (some b) (by rw[hW];rfl) (by rw[hW];rfl) (by rw[hW];rfl)
        (by rw[hWh];simp) (fun k hk hne=>hWo k hk fun e=>hne (by rw[hρ,e])) (fun _ hb=>hb) (fun _ hb=>.inl hb) (fun b' hb'=>.inl (by rw[hρ];exact hb')) (fun _ gen' off' len' a' cap' hs2=> ?_) (fun _ gen' b' hs2=> ?_) (fun hE=> ?_) (by rw[hW];show w.drawn<=w.drawn+n;omega)
       ·exact⟨_,_,I,rfl,st,by simp[AR,ARv]⟩
       ·simp only[slOK,hid]at hs2;simp only[slOK,at_id,a7];refine⟨hs2.1,fun hg=> ?_⟩;obtain⟨q1,q2⟩:=hs2.2 hg;rw[hρ]at q2;simp only at q2;refine⟨q1,?_⟩
        rcases q2 with q2|⟨q3,q4,C3,E3,fz3,q5,q6⟩
        ·exact .inl q2
        ·rw[hbk]at q5;cases q5;exact .inr ⟨q3,by rw[hlen'];exact q4,C',E,fz,hWb,by rw[hC's];exact q6⟩
       ·simp only[ptOK,hid]at hs2;simp only[ptOK,at_id,a7];exact⟨hs2.1,fun hg=>by rw[<-hρ];exact hs2.2 hg⟩
       ·simp only[OR,a7];refine⟨by omega,hIb,C',E,fz,hWb,hun.keep om,?_⟩;rw[eX];intro k d hk;obtain⟨v,hv,h1,hd⟩:=hpk k d hk;refine⟨v,?_,nM hE.imm d v hd,h1⟩;rw[Ag,dJ hWb,hv]
     ·cases he
    ·cases he
   ·cases he
  ·cases he
 ·cases he
end
end Ev
end Go.Proofs.YtppffbehejpglaaGreat
