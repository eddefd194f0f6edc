/-
  Letters and alphabets: what the small functions give.
-/
import Derived.Test.YthlkcebdfbjdoaaGreatLib
import Derived.Test.YthlkcebdfbjdoaaGreatEvPrim
import Derived.Test.YthlkcebdfbjdoaaGreatChecked
import Derived.Shelf.SlSortCmp.NoneTotal
set_option linter.unusedSimpArgs false
set_option maxRecDepth 100000
set_option linter.unusedVariables false
set_option maxHeartbeats 4000000
namespace Go.Proofs.YthlkcebdfbjdoaaGreat
namespace Ev
section
variable{R:Type}{L n:Nat}
def qM(x:Int):Bool:=decide (0<=x/\x<6)
def kD(x:Int):Bool:=decide (0<=x/\x<=63)
theorem KK(hn:1<=n)(a:Int):aA env L n 70 [nI a] []=some (.d (.bool (kD a)),[]):=by
 obtain _|n:=n;omega;simp -implicitDefEqProofs (maxSteps:=2000000) (disch:=try exact Dz) only[↓DN,↓kAsg,↓kRet,UP,simprocAttr,aBD,M6,Tryz.f70]
 by_cases h:0<=a<;>simp[h,kD]
theorem kC:type_of% fun {L} a=>ks fun hn=> @KK L _ hn a:=fun {L} a=>ks fun hn=> @KK L _ hn a
theorem KY(hn:1<=n)(a:Int):aA env L n 40 [nI a] []=some (.d (.bool (kD a)),[]):=by
 obtain _|n:=n;omega;simp -implicitDefEqProofs (maxSteps:=2000000) (disch:=try exact Dz) only[↓DN,↓kAsg,↓kRet,UP,simprocAttr,aCO,NV,Tryz.f40]
 by_cases h:0<=a<;>simp[h,kD]
theorem eI:type_of% fun {L} a=>ks fun hn=> @KY L _ hn a:=fun {L} a=>ks fun hn=> @KY L _ hn a
def eL(a i:Int):Bool:=decide ((a.fdiv (2^(min i.toNat 64))) % 2=1)
theorem toNat_ofInt(x:Int):((BitVec.ofInt 64 x).toNat:Int)=x % 18446744073709551616:=by
 rw[BitVec.toNat_ofInt];omega
theorem aAh(x:Int):iAnd .i64 x 1=x % 2:=by
 unfold iAnd
 have h1:(BitVec.ofInt IntKind.i64.bits x&&&BitVec.ofInt IntKind.i64.bits 1).toNat=(BitVec.ofInt 64 x).toNat % 2:=by
  change (BitVec.ofInt 64 x&&&BitVec.ofInt 64 1).toNat=_
  rw[BitVec.toNat_and];exact Nat.and_one_is_mod _
 rw[h1];have h2:=toNat_ofInt x;rw[zF (by omega) (by omega)];omega
theorem aGS:IntKind.i64.bits=64:=rfl
theorem aDb(hn:1<=n)(a i:Int)(hi:0<=i)(hi2:i<=9223372036854775807):aA env L n 101 [nI a,nI i] []=some (.d (.bool (eL a i)),[]):=by
 obtain _|n:=n;omega;simp -implicitDefEqProofs (maxSteps:=2000000) (disch:=try exact Dz) only[↓DN,↓kAsg,↓kRet,UP,simprocAttr,↓QK,aMI,aAh,aGS,aMb,aET,Tryz.f101];rfl
theorem tG:type_of% fun {L} a i hi hi2=>ks fun hn=> @aDb L _ hn a i hi hi2:=fun {L} a i hi hi2=>ks fun hn=> @aDb L _ hn a i hi hi2
theorem aID(hn:1<=n)(a i:Int):aA env L n 41 [nI a,nI i] []=some (.d (.bool (decide (0<=i)&&eL a i)),[]):=by
 obtain _|n:=n;omega;simp -implicitDefEqProofs (maxSteps:=2000000) (disch:=try exact Dz) only[↓DN,↓kAsg,↓kRet,UP,simprocAttr,aAh,aGS,aQZ,aKz,Tryz.f41]
 by_cases h:0<=i<;>simp[h,eL]
theorem O6:type_of% fun {L} a i=>ks fun hn=> @aID L _ hn a i:=fun {L} a i=>ks fun hn=> @aID L _ hn a i
def aB(a:Int):List Int:=[0,1,2,3,4,5].filter (eL a)
def qR:Nat->List Int
 |0=>[]
 |j+1=>(6-((j+1:Nat):Int))::qR j
theorem aFF{x:Int}:qM x=true↔0<=x/\x<=5:=by
 unfold qM;simp;omega
theorem ZW(hn:1<=n){a:Int}{k:KE R}:∀(j:Nat) (i:Int) (l:List Int) (len m:Nat),i+j=6->0<=i->j<m->len=l.length->l.length+j<100->
  aM env (aA env L n) L 0 [0,0,0,2] Bz26 (lE 0) Bz42 m (nI a::Y1 (.d .nils::.sl 0 0 0 len::Y1 (nI i::Y8 (Y2 (Y1 ([])))))) [.arr (ints l) 1 0] k
  =k (.exit 0) (nI a::Y1 (.d .nils::.sl 0 0 0 (len+((qR j).filter (eL a)).length)::Y1 (nI 6::Y8 (Y2 (Y1 ([])))))) [.arr (ints (l++(qR j).filter (eL a))) 1 0]:=by
 intro j
 induction j with
 |zero=>
  intro i l len m hi h0 hm hl hlen;obtain _|m:=m;omega;obtain rfl:i=6:=by omega
  simp -implicitDefEqProofs (maxSteps:=2000000) (disch:=try exact Dz) only[↓DN,↓kRet,UP,simprocAttr,rT,qW,Tryz.f63];simp only[qR,List.filter_nil,Ah,Ac,Bp]
 |succ j ih=>
  intro i l len m hi h0 hm hl hlen;obtain _|m:=m;omega;have hc:i<6:=by omega
  have hr:qR (j+1)=i::qR j:=by simp only[qR];congr 1;omega
  rw[hr,List.filter_cons]
  cases hb:eL a i with
  |true=>
   simp -implicitDefEqProofs (maxSteps:=2000000) (disch:=try exact Dz) only[↓DN,↓kRet,UP,simprocAttr,↓O6,↓ih,hc,hb,h0,rT,qW,Tryz.f63]
   try simp only[Ao,Av,Am,Nat.add_assoc,Nat.add_comm 1]
  |false=>
   simp -implicitDefEqProofs (maxSteps:=2000000) (disch:=try exact Dz) only[↓DN,↓kRet,UP,simprocAttr,↓O6,↓ih,hc,hb,h0,rT,qW,Tryz.f63]
theorem PJ{R:Type}{L n m:Nat}(hn:1<=n){a:Int}{k:KE R}(hm:6<m):
  aM env (aA env L n) L 0 [0,0,0,2] Bz26 (lE 0) Bz42 m (nI a::Y1 (.d .nils::.sl 0 0 0 0::Y1 (nI 0::Y8 (Y2 (Y1 ([])))))) [.arr [] 1 0] k
  =k (.exit 0) (nI a::Y1 (.d .nils::.sl 0 0 0 (aB a).length::Y1 (nI 6::Y8 (Y2 (Y1 ([])))))) [.arr (ints (aB a)) 1 0]:=by
 have h:=ZW (R:=R) (L:=L) hn (a:=a) (k:=k) 6 0 [] 0 m rfl (by omega) hm rfl (by simp);simp only[Ag,Am]at h;exact h
theorem b9(a:Int):(aB a).length<=6:=by
 unfold aB;exact List.length_filter_le _ _
theorem MU(hn:2<=n)(a:Int)(hL:2^60<=L):aA env L n 63 [nI a] []=some (.d (.ivs (aB a).length (ints (aB a))),[]):=by
 obtain _|n:=n;omega;simp -implicitDefEqProofs (maxSteps:=2000000) (disch:=try exact Dz) only[↓DN,↓kAsg,UP,simprocAttr,↓PJ,aDN,P5,Tryz.f63]
theorem lF:type_of% fun {L} a hL=>ks fun hn=> @MU L _ hn a hL:=fun {L} a hL=>ks fun hn=> @MU L _ hn a hL
theorem aQ6{l:List Int}{P:Int->Prop}(h:∀v∈l,P v){k:Nat}(hk:k<l.length):P (l.getD k 0):=by
 rw[Aa,Ae hk];exact h _ (Az hk)
theorem cQ{a:Int}:∀v∈aB a,0<=v/\v<=5:=by
 intro v hv;have:=(List.mem_filter.1 hv).1;simp at this;omega
end
section
variable{R:Type}{L n:Nat}
structure Edge where
 fr:Int
 lt:Int
 to:Int
 deriving DecidableEq,Inhabited
def aVb(e:Edge):List D:=[.int .i64 e.fr,.int .i64 e.lt,.int .i64 e.to]
def aUA(l:List Edge):List D:=(l.map aVb).flatten
def cmpI(a b:Int):Int:=if a<b then -1 else if b<a then 1 else 0
theorem IH(hn:1<=n)(a:Int):aA env L n 99 [nI a] []=some (.d (.bool false),[]):=by
 obtain _|n:=n;omega;simp -implicitDefEqProofs (maxSteps:=2000000) (disch:=try exact Dz) only[↓DN,↓kAsg,↓kRet,UP,simprocAttr,aAz,qY,Tryz.f99]
theorem vN:type_of% fun {L} a=>ks fun hn=> @IH L _ hn a:=fun {L} a=>ks fun hn=> @IH L _ hn a
theorem DG(hn:2<=n)(a b:Int):aA env L n 68 [nI a,nI b] []=some (nI (cmpI a b),[]):=by
 unfold cmpI
 by_cases h1:a<b
 ·obtain _|n:=n;omega;simp -implicitDefEqProofs (maxSteps:=2000000) (disch:=try exact Dz) only[↓DN,↓kAsg,↓kRet,UP,simprocAttr,↓vN,h1,rV,eR,Tryz.f68]
 ·by_cases h2:b<a
  ·obtain _|n:=n;omega;simp -implicitDefEqProofs (maxSteps:=2000000) (disch:=try exact Dz) only[↓DN,↓kAsg,↓kRet,UP,simprocAttr,↓vN,h1,h2,rV,eR,Tryz.f68]
  ·obtain _|n:=n;omega;simp -implicitDefEqProofs (maxSteps:=2000000) (disch:=try exact Dz) only[↓DN,↓kAsg,↓kRet,UP,simprocAttr,↓vN,h1,h2,rV,eR,Tryz.f68]
theorem S4:type_of% fun {L} a b=>ks fun hn=> @DG L _ hn a b:=fun {L} a b=>ks fun hn=> @DG L _ hn a b
def fJ:List Int->Int
 | []=>0
 |a::l=>if a=0 then fJ l else a
def lz:List Int->Nat
 | []=>0
 |a::l=>if a=0 then lz l+1 else 0
theorem cI{α:Type}{l:List α}{i:Nat}{d:α}(h:i<l.length):l.drop i=l.getD i d::l.drop (i+1):=by
 rw[Dq h,Aa,Ae h];rfl
theorem KL(hn:1<=n){l:List Int}(hl:l.length<=1000){k:KE R}:∀(i:Int) (m:Nat) (h0:0<=i) (hi:i<=l.length) (hm:(l.length:Int)-i<m),
  aM env (aA env L n) L 0 [] Bz29 (fG 0) Bz50 m (Y2 (nI 0::nI 0::Y2 (.d (.ivs l.length (ints l))::nI (l.length)::nI i::Y8 (Y1 ([]))))) [] k
  =if fJ (l.drop i.toNat)=0 then k (.exit 0) (Y2 (nI 0::nI 0::Y2 (.d (.ivs l.length (ints l))::nI (l.length)::nI (l.length)::Y8 (Y1 ([]))))) []else k .ret (Y2 (nI (fJ (l.drop i.toNat))::nI 0::Y2 (.d (.ivs l.length (ints l))::nI (l.length)::nI (i+lz (l.drop i.toNat))::Y8 (Y1 ([]))))) []:=by
 intro i m h0 hi hm;obtain⟨j,hj⟩:∃j:Nat,(j:Int)=(l.length:Int)-i:=⟨((l.length:Int)-i).toNat,by omega⟩
 induction j generalizing i m with
 |zero=>
  obtain _|m:=m;omega;obtain rfl:i=l.length:=by omega
  simp -implicitDefEqProofs (maxSteps:=2000000) (disch:=try exact Dz) only[↓DN,↓kRet,UP,simprocAttr,Aj,tX,gN,Tryz.f67];simp only[Ca,fJ,if_true]
 |succ j ih=>
  obtain _|m:=m;omega;have hc:i<l.length:=by omega
  have hk:i.toNat<l.length:=by omega
  have e1:(i+1).toNat=i.toNat+1:=by omega
  rw[cI hk (d:=0)]
  by_cases hz:l.getD i.toNat 0=0
  ·simp -implicitDefEqProofs (maxSteps:=2000000) (disch:=try exact Dz) only[↓DN,↓kRet,UP,simprocAttr,hc,hz,↓ih,tX,gN,Tryz.f67];simp only[fJ,lz,if_true,e1,Int.natCast_add,Int.add_assoc,Int.add_comm 1];rfl
  ·simp -implicitDefEqProofs (maxSteps:=2000000) (disch:=try exact Dz) only[↓DN,↓kRet,UP,simprocAttr,hc,hz,tX,gN,Tryz.f67];simp only[fJ,lz,hz,if_false,Aq,Int.add_zero]
theorem aGF(hn:2<=n)(l:List Int)(hl:l.length<=1000)(hL:2^60<=L):aA env L n 67 [.d (.ivs l.length (ints l))] []=some (nI (fJ l),[]):=by
 by_cases hz:fJ l=0
 ·obtain _|n:=n;omega;simp -implicitDefEqProofs (maxSteps:=2000000) (disch:=try exact Dz) only[↓DN,↓kAsg,↓kRet,UP,simprocAttr,↓KL,Dd,hz,QW,nZ,Tryz.f67]
 ·obtain _|n:=n;omega;simp -implicitDefEqProofs (maxSteps:=2000000) (disch:=try exact Dz) only[↓DN,↓kAsg,↓kRet,UP,simprocAttr,↓KL,Dd,hz,QW,nZ,Tryz.f67]
theorem aGE{k:A->Option R}(hn:2<=n)(l:List Int)(hl:l.length<=1000)(hL:2^60<=L):qK (aA env L n) 67 [.d (.ivs l.length (ints l))] k=k (nI (fJ l)):=
 lI (aGF hn l hl hL) rfl
theorem aBG{L:Nat}{id0 g0 o0 len0:Nat}:KV L 67 [.sl id0 g0 o0 len0]:=fun _ _ _ _=>dU rB
def seek(p:Nat->Bool):Nat->Nat->Option Nat
 |0,_=>none
 |j+1,i=>if p i=true then some i else seek p j (i+1)
theorem sF{p:Nat->Bool}:∀ {j i:Nat},seek p j i=none↔∀k,i<=k->k<i+j->p k=false
 |0,i=>by simp only[seek,true_iff];intro k h1 h2;omega
 |j+1,i=>by
  simp only[seek]
  by_cases hp:p i=true
  ·rw[if_pos hp];simp only[false_iff,reduceCtorEq];intro h;have:=h i (Ab _) (by omega);rw[hp]at this;cases this
  ·rw[if_neg hp,sF]
   constructor
   ·intro h k h1 h2
    by_cases e:k=i
    ·subst e;simpa using hp
    ·exact h k (by omega) (by omega)
   ·intro h k h1 h2;exact h k (by omega) (by omega)
theorem KF{p:Nat->Bool}:∀ {j i r:Nat},seek p j i=some r->i<=r/\r<i+j/\p r=true/\∀k,i<=k->k<r->p k=false
 |0,i,r,h=>by simp[seek]at h
 |j+1,i,r,h=>by
  simp only[seek]at h
  by_cases hp:p i=true
  ·rw[if_pos hp]at h;cases h;exact⟨Ab _,by omega,hp,fun k h1 h2=>by omega⟩
  ·rw[if_neg hp]at h;obtain⟨h1,h2,h3,h4⟩:=KF h;refine⟨by omega,by omega,h3,fun k k1 k2=> ?_⟩
   by_cases e:k=i
   ·subst e;simpa using hp
   ·exact h4 k (by omega) k2
theorem kH{p:Nat->Bool}{j i:Nat}(h:p i=true):seek p (j+1) i=some i:=by simp[seek,h]
theorem mQ{p:Nat->Bool}{j i:Nat}(h:p i=false):seek p (j+1) i=seek p j (i+1):=by simp[seek,h]
structure Sys where
 al:Int
 st:Int
 es:List Edge
 deriving DecidableEq,Inhabited
end
theorem nS{a b:UInt8}{x y:List UInt8}:Op.bytesLess (a::x) (b::y)=true↔a.toNat<b.toNat\/a=b/\Op.bytesLess x y=true:=by
 simp only[Op.bytesLess,Bool.or_eq_true,Ar,beq_iff_eq,decide_eq_true_eq];rfl
theorem Q0:∀x:List UInt8,¬Op.bytesLess x x=true
 | [],h=>by simp[Op.bytesLess]at h
 |a::x,h=>by
  rcases nS.1 h with h|⟨_,h⟩
  ·omega
  ·exact Q0 x h
theorem JP:∀ {x y z:List UInt8},Op.bytesLess x y=true->Op.bytesLess y z=true->Op.bytesLess x z=true
 |_,[],_,h,_=>by simp[Op.bytesLess]at h
 |_,_::_,[],_,k=>by simp[Op.bytesLess]at k
 | [],_::_,_::_,_,_=>by simp[Op.bytesLess]
 |a::x,b::y,c::z,h,k=>by
  rw[nS]at *
  rcases h with h|⟨rfl,h⟩<;>rcases k with k|⟨rfl,k⟩
  ·exact .inl (by omega)
  ·exact .inl h
  ·exact .inl k
  ·exact .inr ⟨rfl,JP h k⟩
theorem D9:∀(x y:List UInt8),x=y\/Op.bytesLess x y=true\/Op.bytesLess y x=true
 | [],[]=>.inl rfl
 | [],_::_=>.inr (.inl (by simp[Op.bytesLess]))
 |_::_,[]=>.inr (.inr (by simp[Op.bytesLess]))
 |a::x,b::y=>by
  rw[nS,nS]
  rcases Dc a.toNat b.toNat with h|h|h
  ·exact .inr (.inl (.inl h))
  ·have e:a=b:=UInt8.toNat_inj.1 h;subst e
   rcases D9 x y with g|g|g
   ·exact .inl (by rw[g])
   ·exact .inr (.inl (.inr ⟨rfl,g⟩))
   ·exact .inr (.inr (.inr ⟨rfl,g⟩))
  ·exact .inr (.inr (.inl h))
theorem aKC{x y:List UInt8}:cmpB x y<0↔Op.bytesLess x y=true:=by
 unfold cmpB
 by_cases h1:Op.bytesLess x y=true
 ·simp[h1]
 ·by_cases h2:Op.bytesLess y x=true<;>simp[h1,h2]
theorem AZ{x y:List UInt8}:cmpX x y<0↔x.length<y.length\/x.length=y.length/\Op.bytesLess x y=true:=by
 unfold cmpX;simp only[aDu]
 rcases Dc x.length y.length with h|h|h
 ·have e:HR (x.length:Int) (y.length:Int)= -1:=by unfold HR;rw[if_pos (by omega)]
  rw[e];simp[h]
 ·have e:HR (x.length:Int) (y.length:Int)=0:=by unfold HR;rw[h];simp
  rw[e,if_pos rfl,h]
  by_cases h0:cmpB x y=0
  ·rw[if_pos h0];have:=aKC (x:=x) (y:=y);rw[h0]at this;simp only[true_and,<-this];omega
  ·rw[if_neg h0,aKC];simp
 ·have e:HR (x.length:Int) (y.length:Int)=1:=by unfold HR;rw[if_neg (by omega),if_pos (by omega)]
  rw[e,if_neg (by omega)]
  constructor
  ·intro h2;omega
  ·rintro(h2|⟨h2,_⟩)<;>omega
theorem FY(x:List UInt8):¬cmpX x x<0:=by
 rw[AZ];rintro(h|⟨_,h⟩)
 ·omega
 ·exact Q0 _ h
theorem sJ{x y z:List UInt8}(h:cmpX x y<0)(k:cmpX y z<0):cmpX x z<0:=by
 rw[AZ]at *
 rcases h with h|⟨h1,h⟩<;>rcases k with k|⟨k1,k⟩
 ·exact .inl (by omega)
 ·exact .inl (by omega)
 ·exact .inl (by omega)
 ·exact .inr ⟨by omega,JP h k⟩
theorem NR(x y:List UInt8):x=y\/cmpX x y<0\/cmpX y x<0:=by
 rw[AZ,AZ]
 rcases Dc x.length y.length with h|h|h
 ·exact .inr (.inl (.inl h))
 ·rcases D9 x y with g|g|g
  ·exact .inl g
  ·exact .inr (.inl (.inr ⟨h,g⟩))
  ·exact .inr (.inr (.inr ⟨h.symm,g⟩))
 ·exact .inr (.inr (.inl h))
theorem aES{x y:List UInt8}(h:cmpX x y<0):¬cmpX y x<0:=fun k=>FY x (sJ h k)
theorem LI(a b c:List UInt8)(h1:leX a b=true)(h2:leX b c=true):leX a c=true:=by
 unfold leX at *;simp only[Cx,decide_eq_false_iff_not]at *;intro h
 rcases NR a b with rfl|g|g
 ·exact h2 h
 ·exact h2 (sJ h g)
 ·exact h1 g
theorem LE(a b:List UInt8):(leX a b||leX b a)=true:=by
 unfold leX
 by_cases h:cmpX b a<0
 ·have:=aES h;simp[this]
 ·simp[h]
theorem ZX{a b:List UInt8}(h1:leX a b=true)(h2:leX b a=true):a=b:=by
 unfold leX at *;simp only[Cx,decide_eq_false_iff_not]at *
 rcases NR a b with g|g|g
 ·exact g
 ·exact(h2 g).elim
 ·exact(h1 g).elim
theorem aN7{a b:List UInt8}(h:cmpX a b<0):leX a b=true:=by
 unfold leX;simp only[Cx,decide_eq_false_iff_not];exact aES h
section
variable{R:Type}{L n:Nat}
theorem aSd{a b:Int}:[D.int .i64 a,.int .i64 b]=ints [a,b]:=rfl
theorem aFl{x y:List UInt8}(h1:¬Op.bytesLess x y=true):(x==y)= !Op.bytesLess y x:=by
 rw[Bool.eq_iff_iff];simp only[Cx,beq_iff_eq]
 rcases D9 x y with rfl|g|g
 ·simpa using h1
 ·exact absurd g h1
 ·refine⟨fun e=> ?_,fun e=>by rw[g]at e;cases e⟩;subst e;exact absurd g h1
theorem FB{E:Env}{t:TypeId}{h:H}{a b:List UInt8}:bX E .gtr t h (.d (.str a)) (.d (.str b))=some (.d (.bool (!(Op.bytesLess a b||a==b))),h):=by simp[bX,aBin]
theorem aCb{E:Env}{t:TypeId}{h:H}{a b:List UInt8}:bX E .neq t h (.d (.str a)) (.d (.str b))=some (.d (.bool (!(a==b))),h):=by simp[bX,aBin]
theorem sW{E:Env}{t:TypeId}{h:H}{a b:List UInt8}:bX E .lss t h (.d (.str a)) (.d (.str b))=some (.d (.bool (Op.bytesLess a b)),h):=by simp[bX,aBin]
theorem zY(hn:1<=n)(x:List UInt8):aA env L n 100 [.d (.str x)] []=some (.d (.bool false),[]):=by
 obtain _|n:=n;omega;simp -implicitDefEqProofs (maxSteps:=2000000) (disch:=try exact Dz) only[↓DN,↓kAsg,↓kRet,UP,simprocAttr,aCb,RT,mH,Tryz.f100]
theorem qA:type_of% fun {L} x=>ks fun hn=> @zY L _ hn x:=fun {L} x=>ks fun hn=> @zY L _ hn x
theorem wT(hn:2<=n)(x y:List UInt8):aA env L n 69 [.d (.str x),.d (.str y)] []=some (nI (cmpB x y),[]):=by
 unfold cmpB
 by_cases h1:Op.bytesLess x y=true
 ·obtain _|n:=n;omega;simp -implicitDefEqProofs (maxSteps:=2000000) (disch:=try exact Dz) only[↓DN,↓kAsg,↓kRet,UP,simprocAttr,↓qA,sW,h1,nN,dT,Tryz.f69]
 ·have hg:=aFl h1
  by_cases h2:Op.bytesLess y x=true
  ·rw[h2,Bool.not_true]at hg;obtain _|n:=n;omega;simp -implicitDefEqProofs (maxSteps:=2000000) (disch:=try exact Dz) only[↓DN,↓kAsg,↓kRet,UP,simprocAttr,↓qA,sW,FB,h1,h2,hg,nN,dT,Tryz.f69]
  ·rw[Bool.eq_false_iff.2 h2,Bool.not_false]at hg;obtain _|n:=n;omega;simp -implicitDefEqProofs (maxSteps:=2000000) (disch:=try exact Dz) only[↓DN,↓kAsg,↓kRet,UP,simprocAttr,↓qA,sW,FB,h1,h2,hg,nN,dT,Tryz.f69]
theorem MI:type_of% fun {L} x y=>ks fun hn=> @wT L _ hn x y:=fun {L} x y=>ks fun hn=> @wT L _ hn x y
theorem PW(hn:4<=n)(x y:List UInt8)(hL:2^60<=L):aA env L n 34 [.d (.str x),.d (.str y)] []=some (nI (cmpX x y),[]):=by
 have k3:∀ {R:Type} {n:Nat} {k:A->Option R},2<=n->qK (aA env L n) 67 [.d (.ivs 2 (ints [cmpI x.length y.length,cmpB x y]))] k=k (nI (fJ [cmpI x.length y.length,cmpB x y])):=fun h=>aGE h [cmpI x.length y.length,cmpB x y] (by simp) hL;obtain _|n:=n;omega;simp -implicitDefEqProofs (maxSteps:=2000000) (disch:=try exact Dz) only[↓DN,↓kAsg,↓kRet,UP,simprocAttr,↓S4,↓MI,↓aBG,aSd,↓k3,aGh,yV,Tryz.f34];rfl
theorem aGx:type_of% fun {L} x y hL=>ks fun hn=> @PW L _ hn x y hL:=fun {L} x y hL=>ks fun hn=> @PW L _ hn x y hL
end
section
variable{R:Type}{L n:Nat}
namespace X1
noncomputable def env1:Env:={ env with prim:=fun _=>none,eqs:=[]}
theorem e1P:env1.P=env.P:=rfl
theorem W6{args:List A}{h:H}:aA env1 L (n+1) 99 args h=aK env1 (aA env1 L n) L h.length [] ([]) HO qY (args++List.replicate (Tryz.f99.ntmps-args.length) (.d .undef)) h (kFin env1.P h.length false [.tmp 2]):=
 aT (mode:=1) kr Tryz.func99 kr kr IS kr kr
theorem pW{args:List A}{h:H}:aA env1 L (n+1) 68 args h=aK env1 (aA env1 L n) L h.length [] ([]) CO eR (args++List.replicate (Tryz.f68.ntmps-args.length) (.d .undef)) h (kFin env1.P h.length false [.tmp 4]):=
 aT (mode:=1) kr Tryz.func68 kr kr B1 kr kr
theorem M1{args:List A}{h:H}:aA env1 L (n+1) 67 args h=aK env1 (aA env1 L n) L h.length [] (false::false::true::true::false::false::true::true::true::false::false::false::false::false::false::false::false::false::[]) fG nZ (args++List.replicate (Tryz.f67.ntmps-args.length) (.d .undef)) h (kFin env1.P h.length false [.tmp 2]):=
 aT (mode:=1) kr Tryz.func67 kr kr u9 kr kr
theorem rE{R:Type}{call:aZ}{L nf n:Nat}{thaw:List Nat}{live m:List Bool}{s:List A}{h:H}{k:KE R}:aM env1 call L nf thaw live (fG 0) m (n+1) s h k=aK env1 call L nf thaw live fG gN s h (bC env1 call L nf thaw live (fG 0) m n k):=
 aP u9 kr
theorem PR{args:List A}{h:H}:aA env1 L (n+1) 100 args h=aK env1 (aA env1 L n) L h.length [] ([]) z6 mH (args++List.replicate (Tryz.f100.ntmps-args.length) (.d .undef)) h (kFin env1.P h.length false [.tmp 2]):=
 aT (mode:=1) kr Tryz.func100 kr kr zP kr kr
theorem mV{args:List A}{h:H}:aA env1 L (n+1) 69 args h=aK env1 (aA env1 L n) L h.length [] ([]) wC dT (args++List.replicate (Tryz.f69.ntmps-args.length) (.d .undef)) h (kFin env1.P h.length false [.tmp 4]):=
 aT (mode:=1) kr Tryz.func69 kr kr wX kr kr
theorem aDA{args:List A}{h:H}:aA env1 L (n+1) 34 args h=aK env1 (aA env1 L n) L h.length [] ([]) P7 yV (args++List.replicate (Tryz.f34.ntmps-args.length) (.d .undef)) h (kFin env1.P h.length false [.tmp 4]):=
 aT (mode:=1) kr Tryz.func34 kr kr QR kr kr
theorem XH(hn:1<=n)(a:Int):aA env1 L n 99 [nI a] []=some (.d (.bool false),[]):=by
 obtain _|n:=n;omega;rw[W6];simp only[qY,Tryz.f99,SLM,simprocAttr];simp -implicitDefEqProofs (maxSteps:=2000000) (disch:=try exact Dz) only[↓DN,↓kAsg,↓kRet,e1P,UP,simprocAttr]
theorem t7{hq:H}{k:KA R}(hn:1<=n)(a:Int):a6 env1 (aA env1 L n) hq 99 [nI a] k=k (.d (.bool false)) hq:=
 c8 rfl (XH hn a) rfl (.inl rfl)
theorem RU(hn:2<=n)(a b:Int):aA env1 L n 68 [nI a,nI b] []=some (nI (cmpI a b),[]):=by
 unfold cmpI
 by_cases h1:a<b
 ·obtain _|n:=n;omega;rw[pW];simp only[eR,Tryz.f68,SLM,simprocAttr];simp -implicitDefEqProofs (maxSteps:=2000000) (disch:=try exact Dz) only[↓DN,↓kAsg,↓kRet,e1P,UP,simprocAttr,↓t7,h1]
 ·by_cases h2:b<a
  ·obtain _|n:=n;omega;rw[pW];simp only[eR,Tryz.f68,SLM,simprocAttr];simp -implicitDefEqProofs (maxSteps:=2000000) (disch:=try exact Dz) only[↓DN,↓kAsg,↓kRet,e1P,UP,simprocAttr,↓t7,h1,h2]
  ·obtain _|n:=n;omega;rw[pW];simp only[eR,Tryz.f68,SLM,simprocAttr];simp -implicitDefEqProofs (maxSteps:=2000000) (disch:=try exact Dz) only[↓DN,↓kAsg,↓kRet,e1P,UP,simprocAttr,↓t7,h1,h2]
theorem RN{hq:H}{k:KA R}(hn:2<=n)(a b:Int):a6 env1 (aA env1 L n) hq 68 [nI a,nI b] k=k (nI (cmpI a b)) hq:=
 c8 rfl (RU hn a b) rfl (.inl rfl)
theorem HI(hn:1<=n){l:List Int}(hl:l.length<=1000){k:KE R}:∀(i:Int) (m:Nat) (h0:0<=i) (hi:i<=l.length) (hm:(l.length:Int)-i<m),
  aM env1 (aA env1 L n) L 0 [] Bz29 (fG 0) Bz50 m (Y2 (nI 0::nI 0::Y2 (.d (.ivs l.length (ints l))::nI (l.length)::nI i::Y8 (Y1 ([]))))) [] k
  =if fJ (l.drop i.toNat)=0 then k (.exit 0) (Y2 (nI 0::nI 0::Y2 (.d (.ivs l.length (ints l))::nI (l.length)::nI (l.length)::Y8 (Y1 ([]))))) []else k .ret (Y2 (nI (fJ (l.drop i.toNat))::nI 0::Y2 (.d (.ivs l.length (ints l))::nI (l.length)::nI (i+lz (l.drop i.toNat))::Y8 (Y1 ([]))))) []:=by
 intro i m h0 hi hm;obtain⟨j,hj⟩:∃j:Nat,(j:Int)=(l.length:Int)-i:=⟨((l.length:Int)-i).toNat,by omega⟩
 induction j generalizing i m with
 |zero=>
  obtain _|m:=m;omega;obtain rfl:i=l.length:=by omega
  rw[rE];simp only[gN,Tryz.f67,SLM,simprocAttr];simp -implicitDefEqProofs (maxSteps:=2000000) (disch:=try exact Dz) only[↓DN,↓kRet,UP,simprocAttr,Aj];simp only[Ca,fJ,if_true]
 |succ j ih=>
  obtain _|m:=m;omega;have hc:i<l.length:=by omega
  have hk:i.toNat<l.length:=by omega
  have e1:(i+1).toNat=i.toNat+1:=by omega
  rw[cI hk (d:=0)]
  by_cases hz:l.getD i.toNat 0=0
  ·rw[rE];simp only[gN,Tryz.f67,SLM,simprocAttr];simp -implicitDefEqProofs (maxSteps:=2000000) (disch:=try exact Dz) only[↓DN,↓kRet,e1P,UP,simprocAttr,hc,hz,↓ih];simp only[fJ,lz,if_true,e1,Int.natCast_add,Int.add_assoc,Int.add_comm 1];rfl
  ·rw[rE];simp only[gN,Tryz.f67,SLM,simprocAttr];simp -implicitDefEqProofs (maxSteps:=2000000) (disch:=try exact Dz) only[↓DN,↓kRet,e1P,UP,simprocAttr,hc,hz];simp only[fJ,lz,hz,if_false,Aq,Int.add_zero]
theorem aDU(hn:2<=n)(l:List Int)(hl:l.length<=1000)(hL:2^60<=L):aA env1 L n 67 [.d (.ivs l.length (ints l))] []=some (nI (fJ l),[]):=by
 by_cases hz:fJ l=0
 ·obtain _|n:=n;omega;rw[M1];simp only[nZ,Tryz.f67,SLM,simprocAttr];simp -implicitDefEqProofs (maxSteps:=2000000) (disch:=try exact Dz) only[↓DN,↓kAsg,↓kRet,e1P,UP,simprocAttr,↓HI,Dd,hz]
 ·obtain _|n:=n;omega;rw[M1];simp only[nZ,Tryz.f67,SLM,simprocAttr];simp -implicitDefEqProofs (maxSteps:=2000000) (disch:=try exact Dz) only[↓DN,↓kAsg,↓kRet,e1P,UP,simprocAttr,↓HI,Dd,hz]
theorem aDJ{k:A->Option R}(hn:2<=n)(l:List Int)(hl:l.length<=1000)(hL:2^60<=L):qK (aA env1 L n) 67 [.d (.ivs l.length (ints l))] k=k (nI (fJ l)):=
 lI (aDU hn l hl hL) rfl
theorem aAc{hq:H}{k:KA R}{id0 g0 o0 len0:Nat}:a6 env1 (aA env1 L n) hq 67 [.sl id0 g0 o0 len0] k=match box (WN hq [.sl id0 g0 o0 len0])with
  |.mk (some fs)=>qK (aA env1 L n) 67 fs fun r=>k r hq
  |_=>none:=dU rB
theorem PV(hn:1<=n)(x:List UInt8):aA env1 L n 100 [.d (.str x)] []=some (.d (.bool false),[]):=by
 obtain _|n:=n;omega;rw[PR];simp only[mH,Tryz.f100,SLM,simprocAttr];simp -implicitDefEqProofs (maxSteps:=2000000) (disch:=try exact Dz) only[↓DN,↓kAsg,↓kRet,e1P,UP,simprocAttr,aCb]
theorem oY{hq:H}{k:KA R}(hn:1<=n)(x:List UInt8):a6 env1 (aA env1 L n) hq 100 [.d (.str x)] k=k (.d (.bool false)) hq:=
 c8 rfl (PV hn x) rfl (.inl rfl)
theorem LM(hn:2<=n)(x y:List UInt8):aA env1 L n 69 [.d (.str x),.d (.str y)] []=some (nI (cmpB x y),[]):=by
 unfold cmpB
 by_cases h1:Op.bytesLess x y=true
 ·obtain _|n:=n;omega;rw[mV];simp only[dT,Tryz.f69,SLM,simprocAttr];simp -implicitDefEqProofs (maxSteps:=2000000) (disch:=try exact Dz) only[↓DN,↓kAsg,↓kRet,e1P,UP,simprocAttr,↓oY,sW,h1]
 ·have hg:=aFl h1
  by_cases h2:Op.bytesLess y x=true
  ·rw[h2,Bool.not_true]at hg;obtain _|n:=n;omega;rw[mV];simp only[dT,Tryz.f69,SLM,simprocAttr];simp -implicitDefEqProofs (maxSteps:=2000000) (disch:=try exact Dz) only[↓DN,↓kAsg,↓kRet,e1P,UP,simprocAttr,↓oY,sW,FB,h1,h2,hg]
  ·rw[Bool.eq_false_iff.2 h2,Bool.not_false]at hg;obtain _|n:=n;omega;rw[mV];simp only[dT,Tryz.f69,SLM,simprocAttr];simp -implicitDefEqProofs (maxSteps:=2000000) (disch:=try exact Dz) only[↓DN,↓kAsg,↓kRet,e1P,UP,simprocAttr,↓oY,sW,FB,h1,h2,hg]
theorem MB{hq:H}{k:KA R}(hn:2<=n)(x y:List UInt8):a6 env1 (aA env1 L n) hq 69 [.d (.str x),.d (.str y)] k=k (nI (cmpB x y)) hq:=
 c8 rfl (LM hn x y) rfl (.inl rfl)
theorem ev1_i_shortlex(hn:4<=n)(x y:List UInt8)(hL:2^60<=L):aA env1 L n 34 [.d (.str x),.d (.str y)] []=some (nI (cmpX x y),[]):=by
 have k3:∀ {R:Type} {n:Nat} {k:A->Option R},2<=n->qK (aA env1 L n) 67 [.d (.ivs 2 (ints [cmpI x.length y.length,cmpB x y]))] k=k (nI (fJ [cmpI x.length y.length,cmpB x y])):=fun h=>aDJ h [cmpI x.length y.length,cmpB x y] (by simp) hL;obtain _|n:=n;omega;rw[aDA];simp only[yV,Tryz.f34,SLM,simprocAttr];simp -implicitDefEqProofs (maxSteps:=2000000) (disch:=try exact Dz) only[↓DN,↓kAsg,↓kRet,e1P,UP,simprocAttr,↓RN,↓MB,↓aAc,aSd,↓k3];rfl
end X1
end
section
open Go.Shelf
def aGO:Go.Shelf.Ren:=⟨fun|6=>45|15=>82|14=>81|28=>116|29=>117|20=>108|21=>109|22=>110|23=>111|24=>112|25=>113|26=>114|27=>115|46=>137|47=>138|48=>139|49=>140|50=>141|57=>153|n=>n,fun|22=>29|24=>9|25=>61|3=>3|39=>69|0=>0|53=>120|55=>122|4=>4|46=>113|45=>112|50=>117|5=>5|9=>9|66=>145|70=>149|76=>160|77=>161|n=>n,fun|n=>n⟩
theorem aIr:Go.Proofs.SlLaysF.n6 Tryz.prog aGO:={
 mixed:=by kernel_rfl
 f6:=⟨Tryz.f45.name,by decide,Tryz.func45.trans (congrArg some (by kernel_rfl))⟩
 f14:=⟨Tryz.f81.name,by decide,Tryz.func81.trans (congrArg some (by kernel_rfl))⟩
 f15:=Tryz.func82.trans (congrArg some (by kernel_rfl))
 f20:=⟨Tryz.f108.name,by decide,Tryz.func108.trans (congrArg some (by kernel_rfl))⟩
 f21:=⟨Tryz.f109.name,by decide,Tryz.func109.trans (congrArg some (by kernel_rfl))⟩
 f22:=⟨Tryz.f110.name,by decide,Tryz.func110.trans (congrArg some (by kernel_rfl))⟩
 f23:=⟨Tryz.f111.name,by decide,Tryz.func111.trans (congrArg some (by kernel_rfl))⟩
 f24:=⟨Tryz.f112.name,by decide,Tryz.func112.trans (congrArg some (by kernel_rfl))⟩
 f25:=⟨Tryz.f113.name,by decide,Tryz.func113.trans (congrArg some (by kernel_rfl))⟩
 f26:=⟨Tryz.f114.name,by decide,Tryz.func114.trans (congrArg some (by kernel_rfl))⟩
 f27:=⟨Tryz.f115.name,by decide,Tryz.func115.trans (congrArg some (by kernel_rfl))⟩
 f28:=Tryz.func116.trans (congrArg some (by kernel_rfl))
 f29:=Tryz.func117.trans (congrArg some (by kernel_rfl))
 f46:=⟨Tryz.f137.name,by decide,Tryz.func137.trans (congrArg some (by kernel_rfl))⟩
 f47:=Tryz.func138.trans (congrArg some (by kernel_rfl))
 f48:=Tryz.func139.trans (congrArg some (by kernel_rfl))
 f49:=⟨Tryz.f140.name,by decide,Tryz.func140.trans (congrArg some (by kernel_rfl))⟩
 f50:=⟨Tryz.f141.name,by decide,Tryz.func141.trans (congrArg some (by kernel_rfl))⟩
 f57:=⟨Tryz.f153.name,by decide,Tryz.func153.trans (congrArg some (by kernel_rfl))⟩
 t0:=Tryz.underlying0
 a0:=Tryz.isAgg0
 z0:=Tryz.sizeOf0
 v0:=Tryz.zeroValue0
 t3:=Tryz.underlying3
 a3:=Tryz.isAgg3
 z3:=Tryz.sizeOf3
 v3:=Tryz.zeroValue3
 t4:=Tryz.underlying4
 a4:=Tryz.isAgg4
 z4:=Tryz.sizeOf4
 v4:=Tryz.zeroValue4
 t5:=Tryz.underlying5
 a5:=Tryz.isAgg5
 z5:=Tryz.sizeOf5
 v5:=Tryz.zeroValue5
 t9:=Tryz.underlying9
 a9:=Tryz.isAgg9
 z9:=Tryz.sizeOf9
 v9:=Tryz.zeroValue9
 t22:=Tryz.underlying29
 a22:=Tryz.isAgg29
 z22:=Tryz.sizeOf29
 v22:=Tryz.zeroValue29
 a24:=Tryz.isAgg9
 z24:=Tryz.sizeOf9
 t25:=Tryz.underlying61
 a25:=Tryz.isAgg61
 z25:=Tryz.sizeOf61
 v25:=Tryz.zeroValue61
 t39:=Tryz.underlying69
 a39:=Tryz.isAgg69
 z39:=Tryz.sizeOf69
 v39:=Tryz.zeroValue69
 t45:=Tryz.underlying112
 a45:=Tryz.isAgg112
 z45:=Tryz.sizeOf112
 v45:=Tryz.zeroValue112
 t46:=Tryz.underlying113
 a46:=Tryz.isAgg113
 z46:=Tryz.sizeOf113
 v46:=Tryz.zeroValue113
 t50:=Tryz.underlying117
 a50:=Tryz.isAgg117
 z50:=Tryz.sizeOf117
 v50:=Tryz.zeroValue117
 t53:=Tryz.underlying120
 a53:=Tryz.isAgg120
 z53:=Tryz.sizeOf120
 v53:=Tryz.zeroValue120
 t55:=Tryz.underlying122
 a55:=Tryz.isAgg122
 z55:=Tryz.sizeOf122
 v55:=Tryz.zeroValue122
 t66:=Tryz.underlying145
 a66:=Tryz.isAgg145
 z66:=Tryz.sizeOf145
 v66:=Tryz.zeroValue145
 t70:=Tryz.underlying149
 a70:=Tryz.isAgg149
 z70:=Tryz.sizeOf149
 v70:=Tryz.zeroValue149
 t76:=Tryz.underlying160
 a76:=Tryz.isAgg160
 z76:=Tryz.sizeOf160
 v76:=Tryz.zeroValue160
 t77:=Tryz.underlying161
 a77:=Tryz.isAgg161
 z77:=Tryz.sizeOf161
 v77:=Tryz.zeroValue161}
end
end Ev
end Go.Proofs.YthlkcebdfbjdoaaGreat
