/-
  Comparing words, where no aIR are known. Written by a program out of the texts of edges and of words.
-/
import Derived.Test.YthlkcebdfbjdoaaGreatShlx
import Derived.Test.YthlkcebdfbjdoaaGreatChecked
import Derived.Shelf.SlSortCmp.NoneTotal
set_option linter.unusedSimpArgs false
set_option linter.unusedVariables false
set_option maxRecDepth 1000000
set_option maxHeartbeats 4000000
namespace Go.Proofs.YthlkcebdfbjdoaaGreat
namespace Ev
section
variable{R:Type}{L n:Nat}
namespace X1
noncomputable def env1:Env:={ env with prim:=fun _=>none,eqs:=[]}
theorem e1P:env1.P=env.P:=rfl
theorem ZW{args:List A}{h:H}:aA env1 L (n+1) 99 args h=cU env1 (aA env1 L n) L h.length [] ([]) IZ rP (args++List.replicate (Tryz.f99.ntmps-args.length) (.d .undef)) h (kFin env1.P h.length false [.tmp 2]):=
 J2 (mode:=1) kr Tryz.func99 kr kr KH kr kr
theorem qG{args:List A}{h:H}:aA env1 L (n+1) 68 args h=cU env1 (aA env1 L n) L h.length [] ([]) D3 eB (args++List.replicate (Tryz.f68.ntmps-args.length) (.d .undef)) h (kFin env1.P h.length false [.tmp 4]):=
 J2 (mode:=1) kr Tryz.func68 kr kr DW kr kr
theorem P0{args:List A}{h:H}:aA env1 L (n+1) 67 args h=cU env1 (aA env1 L n) L h.length [] (false::false::true::true::false::false::true::true::true::false::false::false::false::false::false::false::false::false::[]) iH nY (args++List.replicate (Tryz.f67.ntmps-args.length) (.d .undef)) h (kFin env1.P h.length false [.tmp 2]):=
 J2 (mode:=1) kr Tryz.func67 kr kr vP kr kr
theorem sO{R:Type}{call:aX}{L nf n:Nat}{thaw:List Nat}{live m:List Bool}{s:List A}{h:H}{k:KE R}:aT env1 call L nf thaw live (iH 0) m (n+1) s h k=cU env1 call L nf thaw live iH fY s h (ZS env1 call L nf thaw live (iH 0) m n k):=
 aE5 vP kr
theorem QF{args:List A}{h:H}:aA env1 L (n+1) 100 args h=cU env1 (aA env1 L n) L h.length [] ([]) AX lT (args++List.replicate (Tryz.f100.ntmps-args.length) (.d .undef)) h (kFin env1.P h.length false [.tmp 2]):=
 J2 (mode:=1) kr Tryz.func100 kr kr AV kr kr
theorem mO{args:List A}{h:H}:aA env1 L (n+1) 69 args h=cU env1 (aA env1 L n) L h.length [] ([]) x3 dE (args++List.replicate (Tryz.f69.ntmps-args.length) (.d .undef)) h (kFin env1.P h.length false [.tmp 4]):=
 J2 (mode:=1) kr Tryz.func69 kr kr xH kr kr
theorem aFp{args:List A}{h:H}:aA env1 L (n+1) 34 args h=cU env1 (aA env1 L n) L h.length [] ([]) SL zC (args++List.replicate (Tryz.f34.ntmps-args.length) (.d .undef)) h (kFin env1.P h.length false [.tmp 4]):=
 J2 (mode:=1) kr Tryz.func34 kr kr TQ kr kr
theorem Z3(hn:1<=n)(a:Int):aA env1 L n 99 [nI a] []=some (.d (.bool false),[]):=by
 obtain _|n:=n;omega;rw[ZW];simp only[rP,Tryz.f99,SLM,simprocAttr]
 simp-implicitDefEqProofs (maxSteps:=9^7) (disch:=try exact Dz) only[↓DN,↓kAsg,↓kRet,e1P,UP,simprocAttr]
theorem uP{hq:H}{k:KA R}(hn:1<=n)(a:Int):aY env1 (aA env1 L n) hq 99 [nI a] k=k (.d (.bool false)) hq:=
 bX rfl (Z3 hn a) rfl (.inl rfl)
theorem UV(hn:2<=n)(a b:Int):aA env1 L n 68 [nI a,nI b] []=some (nI (cmpI a b),[]):=by
 unfold cmpI
 by_cases h1:a<b
 ·obtain _|n:=n;omega;rw[qG];simp only[eB,Tryz.f68,SLM,simprocAttr]
  simp-implicitDefEqProofs (maxSteps:=9^7) (disch:=try exact Dz) only[↓DN,↓kAsg,↓kRet,e1P,UP,simprocAttr,↓uP,h1]
 ·by_cases h2:b<a
  ·obtain _|n:=n;omega;rw[qG];simp only[eB,Tryz.f68,SLM,simprocAttr]
   simp-implicitDefEqProofs (maxSteps:=9^7) (disch:=try exact Dz) only[↓DN,↓kAsg,↓kRet,e1P,UP,simprocAttr,↓uP,h1,h2]
  ·obtain _|n:=n;omega;rw[qG];simp only[eB,Tryz.f68,SLM,simprocAttr]
   simp-implicitDefEqProofs (maxSteps:=9^7) (disch:=try exact Dz) only[↓DN,↓kAsg,↓kRet,e1P,UP,simprocAttr,↓uP,h1,h2]
theorem UG{hq:H}{k:KA R}(hn:2<=n)(a b:Int):aY env1 (aA env1 L n) hq 68 [nI a,nI b] k=k (nI (cmpI a b)) hq:=
 bX rfl (UV hn a b) rfl (.inl rfl)
theorem I7(hn:1<=n){l:List Int}(hl:l.length<=1000){k:KE R}:∀(i:Int) (m:Nat) (h0:0<=i) (hi:i<=l.length) (hm:(l.length:Int)-i<m),
  aT env1 (aA env1 L n) L 0 [] Bz34 (iH 0) Bz58 m (Y2 (nI 0::nI 0::Y2 (.d (.ivs l.length (ints l))::nI (l.length)::nI i::Y8 (Y1 ([]))))) [] k
  =if eU (l.drop i.toNat)=0 then k (.exit 0) (Y2 (nI 0::nI 0::Y2 (.d (.ivs l.length (ints l))::nI (l.length)::nI (l.length)::Y8 (Y1 ([]))))) []else k .ret (Y2 (nI (eU (l.drop i.toNat))::nI 0::Y2 (.d (.ivs l.length (ints l))::nI (l.length)::nI (i+lz (l.drop i.toNat))::Y8 (Y1 ([]))))) []:=by
 intro i m h0 hi hm;obtain⟨j,hj⟩:∃j:Nat,(j:Int)=(l.length:Int)-i:=⟨((l.length:Int)-i).toNat,by omega⟩
 induction j generalizing i m with
 |zero=>
  obtain _|m:=m;omega;obtain rfl:i=l.length:=om;rw[sO];simp only[fY,Tryz.f67,SLM,simprocAttr]
  simp-implicitDefEqProofs (maxSteps:=9^7) (disch:=try exact Dz) only[↓DN,↓kRet,UP,simprocAttr,Ah];simp only[Bt,eU,if_true]
 |succ j ih=>
  obtain _|m:=m;omega;have hc:i<l.length:=om;have hk:i.toNat<l.length:=om;have e1:(i+1).toNat=i.toNat+1:=om;rw[b8 hk (d:=0)]
  by_cases hz:l.getD i.toNat 0=0
  ·rw[sO];simp only[fY,Tryz.f67,SLM,simprocAttr]
   simp-implicitDefEqProofs (maxSteps:=9^7) (disch:=try exact Dz) only[↓DN,↓kRet,e1P,UP,simprocAttr,hc,hz,↓ih];simp only[eU,lz,if_true,e1,Int.natCast_add,Int.add_assoc,Int.add_comm 1]<;>rfl
  ·rw[sO];simp only[fY,Tryz.f67,SLM,simprocAttr]
   simp-implicitDefEqProofs (maxSteps:=9^7) (disch:=try exact Dz) only[↓DN,↓kRet,e1P,UP,simprocAttr,hc,hz];simp only[eU,lz,hz,if_false,Ap,Int.add_zero]
theorem aFQ(hn:2<=n)(l:List Int)(hl:l.length<=1000)(hL:2^60<=L):aA env1 L n 67 [.d (.ivs l.length (ints l))] []=some (nI (eU l),[]):=by
 by_cases hz:eU l=0
 ·obtain _|n:=n;omega;rw[P0];simp only[nY,Tryz.f67,SLM,simprocAttr]
  simp-implicitDefEqProofs (maxSteps:=9^7) (disch:=try exact Dz) only[↓DN,↓kAsg,↓kRet,e1P,UP,simprocAttr,↓I7,Cr,hz]
 ·obtain _|n:=n;omega;rw[P0];simp only[nY,Tryz.f67,SLM,simprocAttr]
  simp-implicitDefEqProofs (maxSteps:=9^7) (disch:=try exact Dz) only[↓DN,↓kAsg,↓kRet,e1P,UP,simprocAttr,↓I7,Cr,hz]
theorem aFT{k:A->Option R}(hn:2<=n)(l:List Int)(hl:l.length<=1000)(hL:2^60<=L):rD (aA env1 L n) 67 [.d (.ivs l.length (ints l))] k=k (nI (eU l)):=
 jX (aFQ hn l hl hL) rfl
theorem aBx{hq:H}{k:KA R}{id0 g0 o0 len0:Nat}:aY env1 (aA env1 L n) hq 67 [.sl id0 g0 o0 len0] k=match box (ZA hq [.sl id0 g0 o0 len0])with
  |.mk (some fs)=>rD (aA env1 L n) 67 fs fun r=>k r hq
  |_=>none:=dD qP
theorem R4(hn:1<=n)(x:List UInt8):aA env1 L n 100 [.d (.str x)] []=some (.d (.bool false),[]):=by
 obtain _|n:=n;omega;rw[QF];simp only[lT,Tryz.f100,SLM,simprocAttr]
 simp-implicitDefEqProofs (maxSteps:=9^7) (disch:=try exact Dz) only[↓DN,↓kAsg,↓kRet,e1P,UP,simprocAttr,aEb]
theorem oW{hq:H}{k:KA R}(hn:1<=n)(x:List UInt8):aY env1 (aA env1 L n) hq 100 [.d (.str x)] k=k (.d (.bool false)) hq:=
 bX rfl (R4 hn x) rfl (.inl rfl)
theorem NU(hn:2<=n)(x y:List UInt8):aA env1 L n 69 [.d (.str x),.d (.str y)] []=some (nI (cmpB x y),[]):=by
 unfold cmpB
 by_cases h1:Op.bytesLess x y=true
 ·obtain _|n:=n;omega;rw[mO];simp only[dE,Tryz.f69,SLM,simprocAttr]
  simp-implicitDefEqProofs (maxSteps:=9^7) (disch:=try exact Dz) only[↓DN,↓kAsg,↓kRet,e1P,UP,simprocAttr,↓oW,tG,h1]
 ·have hg:=aG6 h1
  by_cases h2:Op.bytesLess y x=true
  ·rw[h2,Bool.not_true]at hg;obtain _|n:=n;omega;rw[mO];simp only[dE,Tryz.f69,SLM,simprocAttr]
   simp-implicitDefEqProofs (maxSteps:=9^7) (disch:=try exact Dz) only[↓DN,↓kAsg,↓kRet,e1P,UP,simprocAttr,↓oW,tG,GQ,h1,h2,hg]
  ·rw[Bool.eq_false_iff.2 h2,Bool.not_false]at hg;obtain _|n:=n;omega;rw[mO];simp only[dE,Tryz.f69,SLM,simprocAttr]
   simp-implicitDefEqProofs (maxSteps:=9^7) (disch:=try exact Dz) only[↓DN,↓kAsg,↓kRet,e1P,UP,simprocAttr,↓oW,tG,GQ,h1,h2,hg]
theorem NL{hq:H}{k:KA R}(hn:2<=n)(x y:List UInt8):aY env1 (aA env1 L n) hq 69 [.d (.str x),.d (.str y)] k=k (nI (cmpB x y)) hq:=
 bX rfl (NU hn x y) rfl (.inl rfl)
theorem ev1_i_shortlex(hn:4<=n)(x y:List UInt8)(hL:2^60<=L):aA env1 L n 34 [.d (.str x),.d (.str y)] []=some (nI (cmpX x y),[]):=by
 have k3:∀ {R:Type} {n:Nat} {k:A->Option R},2<=n->rD (aA env1 L n) 67 [.d (.ivs 2 (ints [cmpI x.length y.length,cmpB x y]))] k=k (nI (eU [cmpI x.length y.length,cmpB x y])):=fun h=>aFT h [cmpI x.length y.length,cmpB x y] sm hL;obtain _|n:=n;omega;rw[aFp];simp only[zC,Tryz.f34,SLM,simprocAttr]
 simp-implicitDefEqProofs (maxSteps:=9^7) (disch:=try exact Dz) only[↓DN,↓kAsg,↓kRet,e1P,UP,simprocAttr,↓UG,↓NL,↓aBx,aSf,↓k3]<;>rfl
end X1
end
section
open Go.Shelf
def aIY:Go.Shelf.Ren:=⟨fun|6=>45|15=>82|14=>81|28=>116|29=>117|20=>108|21=>109|22=>110|23=>111|24=>112|25=>113|26=>114|27=>115|46=>137|47=>138|48=>139|49=>140|50=>141|57=>153|n=>n,fun|22=>29|24=>9|25=>61|3=>3|39=>69|0=>0|53=>120|55=>122|4=>4|46=>113|45=>112|50=>117|5=>5|9=>9|66=>145|70=>149|76=>160|77=>161|n=>n,fun|n=>n⟩
theorem aJp:Go.Proofs.SlLaysF.n6 Tryz.prog aIY:={
 mixed:=by kernel_rfl
 f6:=⟨Tryz.f45.name,by decide,Tryz.func45.trans (congrArg some (by kernel_rfl))⟩
 f14:=⟨Tryz.f81.name,by decide,Tryz.func81.trans (congrArg some (by kernel_rfl))⟩
 f15:=Tryz.func82.trans (congrArg some (by kernel_rfl))
 f20:=⟨Tryz.f108.name,by decide,Tryz.func108.trans (congrArg some (by kernel_rfl))⟩
 f21:=⟨Tryz.f109.name,by decide,Tryz.func109.trans (congrArg some (by kernel_rfl))⟩
 f22:=⟨Tryz.f110.name,by decide,Tryz.func110.trans (congrArg some (by kernel_rfl))⟩
 f23:=⟨Tryz.f111.name,by decide,Tryz.func111.trans (congrArg some (by kernel_rfl))⟩
 f24:=⟨Tryz.f112.name,by decide,Tryz.func112.trans (congrArg some (by kernel_rfl))⟩
 f25:=⟨Tryz.f113.name,by decide,Tryz.func113.trans (congrArg some (by kernel_rfl))⟩
 f26:=⟨Tryz.f114.name,by decide,Tryz.func114.trans (congrArg some (by kernel_rfl))⟩
 f27:=⟨Tryz.f115.name,by decide,Tryz.func115.trans (congrArg some (by kernel_rfl))⟩
 f28:=Tryz.func116.trans (congrArg some (by kernel_rfl))
 f29:=Tryz.func117.trans (congrArg some (by kernel_rfl))
 f46:=⟨Tryz.f137.name,by decide,Tryz.func137.trans (congrArg some (by kernel_rfl))⟩
 f47:=Tryz.func138.trans (congrArg some (by kernel_rfl))
 f48:=Tryz.func139.trans (congrArg some (by kernel_rfl))
 f49:=⟨Tryz.f140.name,by decide,Tryz.func140.trans (congrArg some (by kernel_rfl))⟩
 f50:=⟨Tryz.f141.name,by decide,Tryz.func141.trans (congrArg some (by kernel_rfl))⟩
 f57:=⟨Tryz.f153.name,by decide,Tryz.func153.trans (congrArg some (by kernel_rfl))⟩
 t0:=Tryz.underlying0
 a0:=Tryz.isAgg0
 z0:=Tryz.sizeOf0
 v0:=Tryz.zeroValue0
 t3:=Tryz.underlying3
 a3:=Tryz.isAgg3
 z3:=Tryz.sizeOf3
 v3:=Tryz.zeroValue3
 t4:=Tryz.underlying4
 a4:=Tryz.isAgg4
 z4:=Tryz.sizeOf4
 v4:=Tryz.zeroValue4
 t5:=Tryz.underlying5
 a5:=Tryz.isAgg5
 z5:=Tryz.sizeOf5
 v5:=Tryz.zeroValue5
 t9:=Tryz.underlying9
 a9:=Tryz.isAgg9
 z9:=Tryz.sizeOf9
 v9:=Tryz.zeroValue9
 t22:=Tryz.underlying29
 a22:=Tryz.isAgg29
 z22:=Tryz.sizeOf29
 v22:=Tryz.zeroValue29
 a24:=Tryz.isAgg9
 z24:=Tryz.sizeOf9
 t25:=Tryz.underlying61
 a25:=Tryz.isAgg61
 z25:=Tryz.sizeOf61
 v25:=Tryz.zeroValue61
 t39:=Tryz.underlying69
 a39:=Tryz.isAgg69
 z39:=Tryz.sizeOf69
 v39:=Tryz.zeroValue69
 t45:=Tryz.underlying112
 a45:=Tryz.isAgg112
 z45:=Tryz.sizeOf112
 v45:=Tryz.zeroValue112
 t46:=Tryz.underlying113
 a46:=Tryz.isAgg113
 z46:=Tryz.sizeOf113
 v46:=Tryz.zeroValue113
 t50:=Tryz.underlying117
 a50:=Tryz.isAgg117
 z50:=Tryz.sizeOf117
 v50:=Tryz.zeroValue117
 t53:=Tryz.underlying120
 a53:=Tryz.isAgg120
 z53:=Tryz.sizeOf120
 v53:=Tryz.zeroValue120
 t55:=Tryz.underlying122
 a55:=Tryz.isAgg122
 z55:=Tryz.sizeOf122
 v55:=Tryz.zeroValue122
 t66:=Tryz.underlying145
 a66:=Tryz.isAgg145
 z66:=Tryz.sizeOf145
 v66:=Tryz.zeroValue145
 t70:=Tryz.underlying149
 a70:=Tryz.isAgg149
 z70:=Tryz.sizeOf149
 v70:=Tryz.zeroValue149
 t76:=Tryz.underlying160
 a76:=Tryz.isAgg160
 z76:=Tryz.sizeOf160
 v76:=Tryz.zeroValue160
 t77:=Tryz.underlying161
 a77:=Tryz.isAgg161
 z77:=Tryz.sizeOf161
 v77:=Tryz.zeroValue161}
end
section
variable{G:Gnd}
open Go.RowKit Go.Lib Go.Sort
theorem aTs:EnvOK X1.env1:=⟨fun t n h=>by
  have:X1.env1.eqs=[]:=rfl;rw[this]at h;simp at h,by kernel_rfl⟩
theorem aTT{w w':World}(g:Grew true w w'):∃q os,w'=grow (w.drewN q) os:=by
 refine⟨w'.drawn-w.drawn,w'.heap.extract w.heap.size w'.heap.size,?_⟩
 have h1:w'.heap=w.heap++w'.heap.extract w.heap.size w'.heap.size:=by
  apply Array.ext_getElem?;intro j;rw[Array.getElem?_append]
  by_cases h:j<w.heap.size
  ·rw[if_pos h];exact g.same j h
  ·rw[if_neg h,Array.getElem?_extract];have:=g.size
   by_cases h2:j<w'.heap.size
   ·rw[if_pos om];congr 1;omega
   ·rw[if_neg om,Array.getElem?_eq_none om]
 have h2:w.drawn+(w'.drawn-w.drawn)=w'.drawn:=by have:=g.drawn rfl;omega
 have h3:=g.os;have h4:=g.tape;have h5:=g.output;generalize w'.heap.extract w.heap.size w'.heap.size=os at h1|-;generalize w'.drawn-w.drawn=q at h2|-
 cases w' with
 |mk heap tape drawn os' output=>
  simp only at h1 h2 h3 h4 h5;subst h1;subst h2;subst h3;subst h4;subst h5;rfl
def encX(x:List UInt8):Value:=.string ⟨x.toArray⟩
theorem aRL(x y:List UInt8)(w:World):Calls Tryz.prog 34 #[encX x,encX y] w fun e w'=>e=.returned (.int .i64 (cmpX x y))/\∃q os,w'=grow (w.drewN q) os:=by
 have he:=X1.ev1_i_shortlex (L:=2^60) (n:=4) (Ab _) x y (Ab _);obtain⟨_,hc⟩:=aM5 (G:=⟨[],true⟩) (E:=X1.env1) (L:=2^60) aTs (fun f g h=>by cases h) 4 _ _ _ _ _ he
 have ha:ARv [] (fun _=>none) w (fun b=>b<w.heap.size) [.d (.str x),.d (.str y)] [encX x,encX y]:=by
  simp only[ARv,AR,DR,encX];exact⟨_,_,rfl,rfl,_,_,rfl,rfl,rfl⟩
 refine(hc (fun _=>none) w (fun b=>b<w.heap.size) _ (xD (fun _ h=>h) (ground_nil _ _)) ha).mono fun e w' hh=> ?_;obtain⟨v,ρ',I',rfl,s,hv⟩:=hh;have hv:v=.int .i64 (cmpX x y):=by simpa only[AR,DR]using hv
 subst hv;exact⟨rfl,aTT (QP s)⟩
theorem swoX:SWO (ltOf cmpX) where
 irrefl x:=by unfold ltOf;simpa using BB x
 trans x y z h1 h2:=by unfold ltOf at *;simp only[decide_eq_true_eq]at *;exact sD h1 h2
 ntrans x y z h1 h2:=by
  unfold ltOf at *;simp only[decide_eq_false_iff_not]at *;intro h3
  rcases PH x y with rfl|g|g
  ·exact h2 h3
  ·exact h1 g
  ·exact h2 (sD g h3)
theorem totX(x y:List UInt8)(h1:ltOf cmpX x y=false)(h2:ltOf cmpX y x=false):x=y:=by
 unfold ltOf at *;simp only[decide_eq_false_iff_not]at *
 rcases PH x y with h|h|h
 ·exact h
 ·exact(h1 h).elim
 ·exact(h2 h).elim
theorem aMl:∀(ds:List D) (l:List (List UInt8)),DJ ds=some l->ds=l.map .str
 | [],l,h=>by simp only[DJ,Option.some.injEq]at h;subst h;rfl
 |d::ds,l,h=>by
  cases d<;>simp only[DJ,reduceCtorEq]at h
  obtain⟨l',h1,rfl⟩:=Ay.1 h;rw[aMl ds l' h1];rfl
theorem aJw{l:List (List UInt8)}{j:Nat}(h:j<l.length):∃s,(l.map D.str)[j]? =some (.str s)/\l.toArray[j]! =s:=by
 refine⟨l[j],?_,?_⟩
 ·rw[Be,Ae h];rfl
 ·simp[h]
theorem aHb(b len cap:Nat)(l:List (List UInt8))(hl:l.length=len)(w:World)(hH:Holds encX w b 0 l.toArray)(hb:b<w.heap.size)(hm:len<=4294967296):
  Calls Tryz.prog 45 #[.slice (some ⟨b,0,none⟩) len cap,.func (.func 34) #[] #[]] w fun e w'=>e=.returned (.tuple #[])/\∃n os,w'=sortWorld encX w b 0 n (l.mergeSort leX).toArray os:=by
 have eg:∀args w,(callFunc 34 args).run Tryz.prog w=.ok (.enter 34 args) w:=enters_of Tryz.func34 kr rfl;have hS:=Any.slices_SortFunc_total aJp encX (fun _=>rfl) cmpX swoX 34 #[] b 0 cap l.toArray w eg (fun _ _ _ _ x y=>aRL x y _) hH hb (by simp;omega) totX;have e1:l.toArray.size=len:=by simpa using hl
 rw[e1]at hS;exact hS
theorem aNC(p:Option Addr)(cap:Nat)(fv:Value)(w:World):Calls Tryz.prog 45 #[.slice p 0 cap,fv] w fun e w'=>e=.returned (.tuple #[])/\w'=w:=
 AnyF.slices_SortFunc_none { aJp with} p cap fv w
theorem aL6:KG G Tryz.prog 45 (JX 34):=by
 intro k args h x h' he;simp only at he
 split at he
 ·rename_i hk
  subst hk;refine⟨⟨_,Tryz.func45,by kernel_rfl,by kernel_rfl⟩,fun ρ w I vs r ha=> ?_⟩;unfold JX at he
  split at he
  ·rename_i id gen off len f
   split at he
   ·rename_i cs e g hid
    split at he
    ·rename_i hc
     obtain⟨rfl,rfl,rfl,he3,hcl,hmx⟩:=hc
     split at he
     ·rename_i l htr
      cases he;obtain⟨v1,rest1,rfl,hx,hr1⟩:=iD ha
      obtain⟨v2,rest2,rfl,hv2,hr2⟩:=iD hr1;simp only[ARv]at hr2;subst hr2;simp only[AR,ARv]at hv2 hx;obtain⟨caps,rfl,hcaps⟩:=hv2;obtain rfl:caps= #[]:=by simpa using hcaps
      obtain⟨a,cap,rfl,hs⟩:=hx;have hcs:=aMl _ _ htr
      have hll:l.length=len:=by
       have:=congrArg List.length hcs;rw[As,Bs]at this;omega
      by_cases h0:len=0
      ·subst h0;have hl0:l=[]:=Br.1 hll;subst hl0;refine(aNC a cap _ w).mono ?_;rintro e' w' ⟨rfl,rfl⟩
       have hsame:h.set id (.arr ((List.mergeSort [] leX).map .str++cs.drop 0) e g)=h:=by
        have:(List.mergeSort [] leX).map D.str++cs.drop 0=cs:=sm;rw[this];apply Cn;intro j;rw[Cj];obtain⟨hl,hee⟩:=Av.1 hid
        by_cases e1:id=j
        ·subst e1;simp[hl,hee]
        ·simp[e1]
       rw[hsame];exact⟨_,ρ,I,rfl,.refl r,by simp[AR,ARv]⟩
      ·obtain rfl:e=1:=om;simp only[slOK,hid]at hs;obtain⟨_,hs⟩:=hs;obtain⟨hlc,hs⟩:=hs trivial
       obtain⟨b,hρ⟩:∃b,ρ id=some b:=by
        cases hb:ρ id with
        |none=>rw[hb]at hs;simp only at hs;omega
        |some b=>exact⟨b,rfl⟩
       rw[hρ]at hs;simp only at hs;obtain⟨rfl,_,C,E,fz,hbk,hC⟩:=hs.resolve_left (by omega:¬cap=0);have hO:=r.obj id _ hid;simp only[OR,hρ]at hO;obtain⟨_,hIb,C2,E2,fz2,hbk2,hun,hdr⟩:=hO;rw[hbk]at hbk2;cases hbk2;simp only[Ag]at hC;rw[eV]at hdr;have hcell:=dL hbk;have hlt:b<w.heap.size:=(Bk.1 hbk).1
       have hH:Holds encX w b 0 l.toArray:=by
        intro j hj;simp only[List.size_toArray]at hj;obtain⟨z,h1,h2⟩:=aJw hj
        have hk:cs[j]? =some (.str z):=by
         rw[<-hcs,Cx,if_pos om]at h1;exact h1
        obtain⟨v,hv,hd,_⟩:=hdr j _ hk;simp only[DR]at hd;subst hd;rw[Ag]at hv|-;refine⟨by rw[cell?_eq,hv,h2];rfl,?_⟩;have h3:=hun.1 j om;simp only[World.frozen?,hbk]
        by_cases h4:fz.1<=j<;>by_cases h5:j<fz.2<;>simp[h4,h5]
        exact h3 ⟨h4,h5⟩
       refine(aHb b len cap l hll w hH hlt hmx).mono ?_;rintro e' w' ⟨rfl,n,os,rfl⟩;have hsl:(l.mergeSort leX).length=len:=by rw[List.length_mergeSort];exact hll
       obtain⟨C',hC'⟩:∃C',C'=putCells encX 0 (l.mergeSort leX).toArray C:=⟨_,rfl⟩
       have hC's:C'.size=C.size:=by rw[hC'];simp[putCells]
       have hC'g:∀k,k<C.size->C'[k]? =if k<len then some (encX ((l.mergeSort leX).toArray[k]!))else C[k]?:=by
        intro k hk;rw[hC'];simp only[putCells,Array.getElem?_mapIdx,List.size_toArray,hsl,Nat.zero_le,true_and,Ag,Nat.sub_zero];rw[Array.getElem?_eq_getElem hk]
        by_cases hk2:k<len<;>simp[hk2]
       obtain⟨W,hW⟩:∃W,W=sortWorld encX w b 0 n (l.mergeSort leX).toArray os:=⟨_,rfl⟩
       rw[<-hW];have hWh:W.heap=(w.heap.modify b (onCells (putCells encX 0 (l.mergeSort leX).toArray)))++os:=by rw[hW];rfl
       have hWb:W.heap[b]? =some (.cells C' E fz):=by
        rw[hWh,Em (by simpa using hlt),Eg,if_pos rfl,hbk,hC'];rfl
       have hWo:∀k,k<w.heap.size->k≠b->W.heap[k]? =w.heap[k]?:=by
        intro k hk hne;rw[hWh,Em (by simpa using hk),Eg,if_neg (Ne.symm hne)]
       have hcsC:cs.length<=C.size:=by
        rcases Cs C.size cs.length with hlt|hge
        ·obtain⟨v,hv,_⟩:=hdr C.size _ (Ae hlt);rw[Ag,hcell]at hv;simp at hv
        ·exact hge
       have hml:((l.mergeSort leX).map D.str).length=len:=by rw[As,hsl]
       have hlen':((l.mergeSort leX).map D.str++cs.drop len).length=cs.length:=by
        rw[Af,hml,Cg];omega
       have at_id:(h.set id (.arr ((l.mergeSort leX).map .str++cs.drop len) 1 g))[id]? =some (.arr ((l.mergeSort leX).map .str++cs.drop len) 1 g):=by
        have:=(Av.1 hid).1;simp[this]
       have hpk:∀(k:Nat) (d:D),((l.mergeSort leX).map D.str++cs.drop len)[k]? =some d->∃v,C'[k]? =some v/\v.oneCell'=true/\DR w I d v:=by
        intro k d hk;have hkl:=(Av.1 hk).1;rw[hlen']at hkl;rw[hC'g k om]
        by_cases hk3:k<len
        ·obtain⟨z,h1,h2⟩:=aJw (l:=l.mergeSort leX) (j:=k) om;rw[Bc om,h1]at hk;cases hk;rw[if_pos hk3,h2];exact⟨_,rfl,rfl,by simp only[DR,encX]⟩
        ·rw[if_neg hk3];rw[Bl om,hml,List.getElem?_drop]at hk;have e5:len+(k-len)=k:=om;rw[e5]at hk;obtain⟨v,hv,hd,h1⟩:=hdr k d hk;rw[Ag,hcell]at hv;exact⟨v,hv,h1,hd⟩
       have st:=dY (w':=W) (I':=I) (o':=.arr ((l.mergeSort leX).map .str++cs.drop len) 1 g) r hid trivial (some b) (by rw[hW];rfl) (by rw[hW];rfl) (by rw[hW];rfl)
        (by rw[hWh];simp) (fun k hk hne=>hWo k hk fun e=>hne (by rw[hρ,e])) (fun _ hb=>hb) (fun _ hb=>.inl hb) (fun b' hb'=>.inl (by rw[hρ];exact hb')) (fun _ gen' off' len' a' cap' hs2=> ?_) (fun _ gen' b' hs2=> ?_) (fun hE=> ?_) (by rw[hW];show w.drawn<=w.drawn+n;omega)
       ·exact⟨_,_,I,rfl,st,by simp[AR,ARv]⟩
       ·simp only[slOK,hid]at hs2;simp only[slOK,at_id,bE];refine⟨hs2.1,fun hg=> ?_⟩;obtain⟨q1,q2⟩:=hs2.2 hg;rw[hρ]at q2;simp only at q2;refine⟨q1,?_⟩
        rcases q2 with q2|⟨q3,q4,C3,E3,fz3,q5,q6⟩
        ·exact .inl q2
        ·rw[hbk]at q5;cases q5;exact .inr ⟨q3,by rw[hlen'];exact q4,C',E,fz,hWb,by rw[hC's];exact q6⟩
       ·simp only[ptOK,hid]at hs2;simp only[ptOK,at_id,bE];exact⟨hs2.1,fun hg=>by rw[<-hρ];exact hs2.2 hg⟩
       ·simp only[OR,bE];refine⟨by omega,hIb,C',E,fz,hWb,hun.keep om,?_⟩;rw[eV];intro k d hk;obtain⟨v,hv,h1,hd⟩:=hpk k d hk;refine⟨v,?_,nB hE.imm d v hd,h1⟩;rw[Ag,dL hWb,hv]
     ·cases he
    ·cases he
   ·cases he
  ·cases he
 ·cases he
end
end Ev
end Go.Proofs.YthlkcebdfbjdoaaGreat
