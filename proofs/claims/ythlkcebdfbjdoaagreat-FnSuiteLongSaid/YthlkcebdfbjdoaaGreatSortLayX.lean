/-
  Letters and alphabets: what the small functions give.
-/
import Derived.Test.YthlkcebdfbjdoaaGreatLib
import Derived.Test.YthlkcebdfbjdoaaGreatEvPrim
import Derived.Test.YthlkcebdfbjdoaaGreatChecked
import Derived.Shelf.SlSortCmp.NoneTotal
set_option linter.unusedSimpArgs false
set_option maxRecDepth 100000
set_option linter.unusedVariables false
set_option maxHeartbeats 4000000
namespace Go.Proofs.YthlkcebdfbjdoaaGreat
namespace Ev
section
variable{R:Type}{L n:Nat}
def rO(x:Int):Bool:=decide (0<=x/\x<6)
def jB(x:Int):Bool:=decide (0<=x/\x<=63)
theorem FK(hn:1<=n)(a:Int):aA env L n 70 [nI a] []=some (.d (.bool (jB a)),[]):=by
 obtain _|n:=n;omega;simp -implicitDefEqProofs (maxSteps:=2000000) (disch:=try exact Dz) only[↓DN,↓kAsg,↓kRet,UP,simprocAttr,YW,HP,Tryz.f70]
 by_cases h:0<=a<;>simp[h,jB]
theorem i8:type_of% fun {L} a=>ks fun hn=> @FK L _ hn a:=fun {L} a=>ks fun hn=> @FK L _ hn a
theorem ES(hn:1<=n)(a:Int):aA env L n 40 [nI a] []=some (.d (.bool (jB a)),[]):=by
 obtain _|n:=n;omega;simp -implicitDefEqProofs (maxSteps:=2000000) (disch:=try exact Dz) only[↓DN,↓kAsg,↓kRet,UP,simprocAttr,V3,H4,Tryz.f40]
 by_cases h:0<=a<;>simp[h,jB]
theorem dY:type_of% fun {L} a=>ks fun hn=> @ES L _ hn a:=fun {L} a=>ks fun hn=> @ES L _ hn a
def eT(a i:Int):Bool:=decide ((a.fdiv (2^(min i.toNat 64))) % 2=1)
theorem toNat_ofInt(x:Int):((BitVec.ofInt 64 x).toNat:Int)=x % 18446744073709551616:=by
 rw[BitVec.toNat_ofInt];omega
theorem aDA(x:Int):iAnd .i64 x 1=x % 2:=by
 unfold iAnd
 have h1:(BitVec.ofInt IntKind.i64.bits x&&&BitVec.ofInt IntKind.i64.bits 1).toNat=(BitVec.ofInt 64 x).toNat % 2:=by
  change (BitVec.ofInt 64 x&&&BitVec.ofInt 64 1).toNat=_
  rw[BitVec.toNat_and];exact Nat.and_one_is_mod _
 rw[h1];have h2:=toNat_ofInt x;rw[vJ (by omega) (by omega)];omega
theorem aIW:IntKind.i64.bits=64:=rfl
theorem Y6(hn:1<=n)(a i:Int)(hi:0<=i)(hi2:i<=9223372036854775807):aA env L n 101 [nI a,nI i] []=some (.d (.bool (eT a i)),[]):=by
 obtain _|n:=n;omega;simp -implicitDefEqProofs (maxSteps:=2000000) (disch:=try exact Dz) only[↓DN,↓kAsg,↓kRet,UP,simprocAttr,↓aC2,aNU,aDA,aIW,aIe,aCj,Tryz.f101];rfl
theorem qY:type_of% fun {L} a i hi hi2=>ks fun hn=> @Y6 L _ hn a i hi hi2:=fun {L} a i hi hi2=>ks fun hn=> @Y6 L _ hn a i hi hi2
theorem aD1(hn:1<=n)(a i:Int):aA env L n 41 [nI a,nI i] []=some (.d (.bool (decide (0<=i)&&eT a i)),[]):=by
 obtain _|n:=n;omega;simp -implicitDefEqProofs (maxSteps:=2000000) (disch:=try exact Dz) only[↓DN,↓kAsg,↓kRet,UP,simprocAttr,aDA,aIW,aLc,aG2,Tryz.f41]
 by_cases h:0<=i<;>simp[h,eT]
theorem KX:type_of% fun {L} a i=>ks fun hn=> @aD1 L _ hn a i:=fun {L} a i=>ks fun hn=> @aD1 L _ hn a i
def aB(a:Int):List Int:=[0,1,2,3,4,5].filter (eT a)
def o9:Nat->List Int
 |0=>[]
 |j+1=>(6-((j+1:Nat):Int))::o9 j
theorem aJx{x:Int}:rO x=true↔0<=x/\x<=5:=by
 unfold rO;simp;omega
theorem UO(hn:1<=n){a:Int}{k:KE R}:∀(j:Nat) (i:Int) (l:List Int) (len m:Nat),i+j=6->0<=i->j<m->len=l.length->l.length+j<100->
  aM env (aA env L n) L 0 [0,0,0,2] Bz24 (j2 0) Bz41 m (nI a::Y1 (.d .nils::.sl 0 0 0 len::Y1 (nI i::Y8 (Y2 (Y1 ([])))))) [.arr (ints l) 1 0] k
  =k (.exit 0) (nI a::Y1 (.d .nils::.sl 0 0 0 (len+((o9 j).filter (eT a)).length)::Y1 (nI 6::Y8 (Y2 (Y1 ([])))))) [.arr (ints (l++(o9 j).filter (eT a))) 1 0]:=by
 intro j
 induction j with
 |zero=>
  intro i l len m hi h0 hm hl hlen;obtain _|m:=m;omega;obtain rfl:i=6:=by omega
  simp -implicitDefEqProofs (maxSteps:=2000000) (disch:=try exact Dz) only[↓DN,↓kRet,UP,simprocAttr,qJ,oT,Tryz.f63];simp only[o9,List.filter_nil,Ai,Ac,Br]
 |succ j ih=>
  intro i l len m hi h0 hm hl hlen;obtain _|m:=m;omega;have hc:i<6:=by omega
  have hr:o9 (j+1)=i::o9 j:=by simp only[o9];congr 1;omega
  rw[hr,List.filter_cons]
  cases hb:eT a i with
  |true=>
   simp -implicitDefEqProofs (maxSteps:=2000000) (disch:=try exact Dz) only[↓DN,↓kRet,UP,simprocAttr,↓KX,↓ih,hc,hb,h0,qJ,oT,Tryz.f63]
   try simp only[Am,Av,Ao,Nat.add_assoc,Nat.add_comm 1]
  |false=>
   simp -implicitDefEqProofs (maxSteps:=2000000) (disch:=try exact Dz) only[↓DN,↓kRet,UP,simprocAttr,↓KX,↓ih,hc,hb,h0,qJ,oT,Tryz.f63]
theorem JG{R:Type}{L n m:Nat}(hn:1<=n){a:Int}{k:KE R}(hm:6<m):
  aM env (aA env L n) L 0 [0,0,0,2] Bz24 (j2 0) Bz41 m (nI a::Y1 (.d .nils::.sl 0 0 0 0::Y1 (nI 0::Y8 (Y2 (Y1 ([])))))) [.arr [] 1 0] k
  =k (.exit 0) (nI a::Y1 (.d .nils::.sl 0 0 0 (aB a).length::Y1 (nI 6::Y8 (Y2 (Y1 ([])))))) [.arr (ints (aB a)) 1 0]:=by
 have h:=UO (R:=R) (L:=L) hn (a:=a) (k:=k) 6 0 [] 0 m rfl (by omega) hm rfl (by simp);simp only[Ag,Ao]at h;exact h
theorem bX(a:Int):(aB a).length<=6:=by
 unfold aB;exact List.length_filter_le _ _
theorem IJ(hn:2<=n)(a:Int)(hL:2^60<=L):aA env L n 63 [nI a] []=some (.d (.ivs (aB a).length (ints (aB a))),[]):=by
 obtain _|n:=n;omega;simp -implicitDefEqProofs (maxSteps:=2000000) (disch:=try exact Dz) only[↓DN,↓kAsg,UP,simprocAttr,↓JG,aAN,LS,Tryz.f63]
theorem jY:type_of% fun {L} a hL=>ks fun hn=> @IJ L _ hn a hL:=fun {L} a hL=>ks fun hn=> @IJ L _ hn a hL
theorem aK3{l:List Int}{P:Int->Prop}(h:∀v∈l,P v){k:Nat}(hk:k<l.length):P (l.getD k 0):=by
 rw[Aa,Ae hk];exact h _ (Az hk)
theorem cI{a:Int}:∀v∈aB a,0<=v/\v<=5:=by
 intro v hv;have:=(List.mem_filter.1 hv).1;simp at this;omega
end
structure Edge where
 fr:Int
 lt:Int
 to:Int
 deriving DecidableEq,Inhabited
def aOb(e:Edge):List D:=[.int .i64 e.fr,.int .i64 e.lt,.int .i64 e.to]
def aNX(l:List Edge):List D:=(l.map aOb).flatten
def cmpI(a b:Int):Int:=if a<b then -1 else if b<a then 1 else 0
def n9:List Int->Int
 | []=>0
 |a::l=>if a=0 then n9 l else a
def lz:List Int->Nat
 | []=>0
 |a::l=>if a=0 then lz l+1 else 0
theorem cB{α:Type}{l:List α}{i:Nat}{d:α}(h:i<l.length):l.drop i=l.getD i d::l.drop (i+1):=by
 rw[Dn h,Aa,Ae h];rfl
def seek(p:Nat->Bool):Nat->Nat->Option Nat
 |0,_=>none
 |j+1,i=>if p i=true then some i else seek p j (i+1)
theorem pR{p:Nat->Bool}:∀ {j i:Nat},seek p j i=none↔∀k,i<=k->k<i+j->p k=false
 |0,i=>by simp only[seek,true_iff];intro k h1 h2;omega
 |j+1,i=>by
  simp only[seek]
  by_cases hp:p i=true
  ·rw[if_pos hp];simp only[false_iff,reduceCtorEq];intro h;have:=h i (Ab _) (by omega);rw[hp]at this;cases this
  ·rw[if_neg hp,pR]
   constructor
   ·intro h k h1 h2
    by_cases e:k=i
    ·subst e;simpa using hp
    ·exact h k (by omega) (by omega)
   ·intro h k h1 h2;exact h k (by omega) (by omega)
theorem GB{p:Nat->Bool}:∀ {j i r:Nat},seek p j i=some r->i<=r/\r<i+j/\p r=true/\∀k,i<=k->k<r->p k=false
 |0,i,r,h=>by simp[seek]at h
 |j+1,i,r,h=>by
  simp only[seek]at h
  by_cases hp:p i=true
  ·rw[if_pos hp]at h;cases h;exact⟨Ab _,by omega,hp,fun k h1 h2=>by omega⟩
  ·rw[if_neg hp]at h;obtain⟨h1,h2,h3,h4⟩:=GB h;refine⟨by omega,by omega,h3,fun k k1 k2=> ?_⟩
   by_cases e:k=i
   ·subst e;simpa using hp
   ·exact h4 k (by omega) k2
theorem j4{p:Nat->Bool}{j i:Nat}(h:p i=true):seek p (j+1) i=some i:=by simp[seek,h]
theorem nH{p:Nat->Bool}{j i:Nat}(h:p i=false):seek p (j+1) i=seek p j (i+1):=by simp[seek,h]
structure Sys where
 al:Int
 st:Int
 es:List Edge
 deriving DecidableEq,Inhabited
theorem mJ{a b:UInt8}{x y:List UInt8}:Op.bytesLess (a::x) (b::y)=true↔a.toNat<b.toNat\/a=b/\Op.bytesLess x y=true:=by
 simp only[Op.bytesLess,Bool.or_eq_true,Aq,beq_iff_eq,decide_eq_true_eq];rfl
theorem L0:∀x:List UInt8,¬Op.bytesLess x x=true
 | [],h=>by simp[Op.bytesLess]at h
 |a::x,h=>by
  rcases mJ.1 h with h|⟨_,h⟩
  ·omega
  ·exact L0 x h
theorem EX:∀ {x y z:List UInt8},Op.bytesLess x y=true->Op.bytesLess y z=true->Op.bytesLess x z=true
 |_,[],_,h,_=>by simp[Op.bytesLess]at h
 |_,_::_,[],_,k=>by simp[Op.bytesLess]at k
 | [],_::_,_::_,_,_=>by simp[Op.bytesLess]
 |a::x,b::y,c::z,h,k=>by
  rw[mJ]at *
  rcases h with h|⟨rfl,h⟩<;>rcases k with k|⟨rfl,k⟩
  ·exact .inl (by omega)
  ·exact .inl h
  ·exact .inl k
  ·exact .inr ⟨rfl,EX h k⟩
theorem AA:∀(x y:List UInt8),x=y\/Op.bytesLess x y=true\/Op.bytesLess y x=true
 | [],[]=>.inl rfl
 | [],_::_=>.inr (.inl (by simp[Op.bytesLess]))
 |_::_,[]=>.inr (.inr (by simp[Op.bytesLess]))
 |a::x,b::y=>by
  rw[mJ,mJ]
  rcases Da a.toNat b.toNat with h|h|h
  ·exact .inr (.inl (.inl h))
  ·have e:a=b:=UInt8.toNat_inj.1 h;subst e
   rcases AA x y with g|g|g
   ·exact .inl (by rw[g])
   ·exact .inr (.inl (.inr ⟨rfl,g⟩))
   ·exact .inr (.inr (.inr ⟨rfl,g⟩))
  ·exact .inr (.inr (.inl h))
theorem aHj{x y:List UInt8}:cmpB x y<0↔Op.bytesLess x y=true:=by
 unfold cmpB
 by_cases h1:Op.bytesLess x y=true
 ·simp[h1]
 ·by_cases h2:Op.bytesLess y x=true<;>simp[h1,h2]
theorem xS{x y:List UInt8}:cmpX x y<0↔x.length<y.length\/x.length=y.length/\Op.bytesLess x y=true:=by
 unfold cmpX;simp only[aAf]
 rcases Da x.length y.length with h|h|h
 ·have e:B9 (x.length:Int) (y.length:Int)= -1:=by unfold B9;rw[if_pos (by omega)]
  rw[e];simp[h]
 ·have e:B9 (x.length:Int) (y.length:Int)=0:=by unfold B9;rw[h];simp
  rw[e,if_pos rfl,h]
  by_cases h0:cmpB x y=0
  ·rw[if_pos h0];have:=aHj (x:=x) (y:=y);rw[h0]at this;simp only[true_and,<-this];omega
  ·rw[if_neg h0,aHj];simp
 ·have e:B9 (x.length:Int) (y.length:Int)=1:=by unfold B9;rw[if_neg (by omega),if_pos (by omega)]
  rw[e,if_neg (by omega)]
  constructor
  ·intro h2;omega
  ·rintro(h2|⟨h2,_⟩)<;>omega
theorem BX(x:List UInt8):¬cmpX x x<0:=by
 rw[xS];rintro(h|⟨_,h⟩)
 ·omega
 ·exact L0 _ h
theorem qK{x y z:List UInt8}(h:cmpX x y<0)(k:cmpX y z<0):cmpX x z<0:=by
 rw[xS]at *
 rcases h with h|⟨h1,h⟩<;>rcases k with k|⟨k1,k⟩
 ·exact .inl (by omega)
 ·exact .inl (by omega)
 ·exact .inl (by omega)
 ·exact .inr ⟨by omega,EX h k⟩
theorem IW(x y:List UInt8):x=y\/cmpX x y<0\/cmpX y x<0:=by
 rw[xS,xS]
 rcases Da x.length y.length with h|h|h
 ·exact .inr (.inl (.inl h))
 ·rcases AA x y with g|g|g
  ·exact .inl g
  ·exact .inr (.inl (.inr ⟨h,g⟩))
  ·exact .inr (.inr (.inr ⟨h.symm,g⟩))
 ·exact .inr (.inr (.inl h))
theorem aCa{x y:List UInt8}(h:cmpX x y<0):¬cmpX y x<0:=fun k=>BX x (qK h k)
theorem F9(a b c:List UInt8)(h1:leX a b=true)(h2:leX b c=true):leX a c=true:=by
 unfold leX at *;simp only[De,decide_eq_false_iff_not]at *;intro h
 rcases IW a b with rfl|g|g
 ·exact h2 h
 ·exact h2 (qK h g)
 ·exact h1 g
theorem EW(a b:List UInt8):(leX a b||leX b a)=true:=by
 unfold leX
 by_cases h:cmpX b a<0
 ·have:=aCa h;simp[this]
 ·simp[h]
theorem UE{a b:List UInt8}(h1:leX a b=true)(h2:leX b a=true):a=b:=by
 unfold leX at *;simp only[De,decide_eq_false_iff_not]at *
 rcases IW a b with g|g|g
 ·exact g
 ·exact(h2 g).elim
 ·exact(h1 g).elim
theorem aJm{a b:List UInt8}(h:cmpX a b<0):leX a b=true:=by
 unfold leX;simp only[De,decide_eq_false_iff_not];exact aCa h
theorem aOj{a b:Int}:[D.int .i64 a,.int .i64 b]=ints [a,b]:=rfl
theorem aI6{x y:List UInt8}(h1:¬Op.bytesLess x y=true):(x==y)= !Op.bytesLess y x:=by
 rw[Bool.eq_iff_iff];simp only[De,beq_iff_eq]
 rcases AA x y with rfl|g|g
 ·simpa using h1
 ·exact absurd g h1
 ·refine⟨fun e=> ?_,fun e=>by rw[g]at e;cases e⟩;subst e;exact absurd g h1
theorem YV{E:Env}{t:TypeId}{h:H}{a b:List UInt8}:b6 E .gtr t h (.d (.str a)) (.d (.str b))=some (.d (.bool (!(Op.bytesLess a b||a==b))),h):=by simp[b6,aBin]
theorem aIz{E:Env}{t:TypeId}{h:H}{a b:List UInt8}:b6 E .neq t h (.d (.str a)) (.d (.str b))=some (.d (.bool (!(a==b))),h):=by simp[b6,aBin]
theorem KR{E:Env}{t:TypeId}{h:H}{a b:List UInt8}:b6 E .lss t h (.d (.str a)) (.d (.str b))=some (.d (.bool (Op.bytesLess a b)),h):=by simp[b6,aBin]
section
variable{R:Type}{L n:Nat}
namespace X1
noncomputable def env1:Env:={ env with prim:=fun _=>none,eqs:=[]}
theorem e1P:env1.P=env.P:=rfl
theorem RQ{args:List A}{h:H}:aA env1 L (n+1) 99 args h=aK env1 (aA env1 L n) L h.length [] ([]) VP GI (args++List.replicate (Tryz.f99.ntmps-args.length) (.d .undef)) h (kFin env1.P h.length false [.tmp 2]):=
 aV (mode:=1) kr Tryz.func99 kr kr UA kr kr
theorem oJ{args:List A}{h:H}:aA env1 L (n+1) 68 args h=aK env1 (aA env1 L n) L h.length [] ([]) NK lO (args++List.replicate (Tryz.f68.ntmps-args.length) (.d .undef)) h (kFin env1.P h.length false [.tmp 4]):=
 aV (mode:=1) kr Tryz.func68 kr kr M4 kr kr
theorem HK{args:List A}{h:H}:aA env1 L (n+1) 67 args h=aK env1 (aA env1 L n) L h.length [] (false::false::true::true::false::false::true::true::true::false::false::false::false::false::false::false::false::false::[]) n5 CR (args++List.replicate (Tryz.f67.ntmps-args.length) (.d .undef)) h (kFin env1.P h.length false [.tmp 2]):=
 aV (mode:=1) kr Tryz.func67 kr kr ME kr kr
theorem pW{R:Type}{call:aX}{L nf n:Nat}{thaw:List Nat}{live m:List Bool}{s:List A}{h:H}{k:KE R}:aM env1 call L nf thaw live (n5 0) m (n+1) s h k=aK env1 call L nf thaw live n5 rM s h (bE env1 call L nf thaw live (n5 0) m n k):=
 aQ ME kr
theorem JN{args:List A}{h:H}:aA env1 L (n+1) 100 args h=aK env1 (aA env1 L n) L h.length [] ([]) ML yY (args++List.replicate (Tryz.f100.ntmps-args.length) (.d .undef)) h (kFin env1.P h.length false [.tmp 2]):=
 aV (mode:=1) kr Tryz.func100 kr kr MN kr kr
theorem lD{args:List A}{h:H}:aA env1 L (n+1) 69 args h=aK env1 (aA env1 L n) L h.length [] ([]) IG jO (args++List.replicate (Tryz.f69.ntmps-args.length) (.d .undef)) h (kFin env1.P h.length false [.tmp 4]):=
 aV (mode:=1) kr Tryz.func69 kr kr I5 kr kr
theorem aAU{args:List A}{h:H}:aA env1 L (n+1) 34 args h=aK env1 (aA env1 L n) L h.length [] ([]) aCM N2 (args++List.replicate (Tryz.f34.ntmps-args.length) (.d .undef)) h (kFin env1.P h.length false [.tmp 4]):=
 aV (mode:=1) kr Tryz.func34 kr kr aCS kr kr
theorem RE(hn:1<=n)(a:Int):aA env1 L n 99 [nI a] []=some (.d (.bool false),[]):=by
 obtain _|n:=n;omega;rw[RQ];simp only[GI,Tryz.f99,SLM,simprocAttr];simp -implicitDefEqProofs (maxSteps:=2000000) (disch:=try exact Dz) only[↓DN,↓kAsg,↓kRet,e1P,UP,simprocAttr]
theorem sB{hq:H}{k:KA R}(hn:1<=n)(a:Int):aZ env1 (aA env1 L n) hq 99 [nI a] k=k (.d (.bool false)) hq:=
 cO rfl (RE hn a) rfl (.inl rfl)
theorem MJ(hn:2<=n)(a b:Int):aA env1 L n 68 [nI a,nI b] []=some (nI (cmpI a b),[]):=by
 unfold cmpI
 by_cases h1:a<b
 ·obtain _|n:=n;omega;rw[oJ];simp only[lO,Tryz.f68,SLM,simprocAttr];simp -implicitDefEqProofs (maxSteps:=2000000) (disch:=try exact Dz) only[↓DN,↓kAsg,↓kRet,e1P,UP,simprocAttr,↓sB,h1]
 ·by_cases h2:b<a
  ·obtain _|n:=n;omega;rw[oJ];simp only[lO,Tryz.f68,SLM,simprocAttr];simp -implicitDefEqProofs (maxSteps:=2000000) (disch:=try exact Dz) only[↓DN,↓kAsg,↓kRet,e1P,UP,simprocAttr,↓sB,h1,h2]
  ·obtain _|n:=n;omega;rw[oJ];simp only[lO,Tryz.f68,SLM,simprocAttr];simp -implicitDefEqProofs (maxSteps:=2000000) (disch:=try exact Dz) only[↓DN,↓kAsg,↓kRet,e1P,UP,simprocAttr,↓sB,h1,h2]
theorem MI{hq:H}{k:KA R}(hn:2<=n)(a b:Int):aZ env1 (aA env1 L n) hq 68 [nI a,nI b] k=k (nI (cmpI a b)) hq:=
 cO rfl (MJ hn a b) rfl (.inl rfl)
theorem DI(hn:1<=n){l:List Int}(hl:l.length<=1000){k:KE R}:∀(i:Int) (m:Nat) (h0:0<=i) (hi:i<=l.length) (hm:(l.length:Int)-i<m),
  aM env1 (aA env1 L n) L 0 [] (Z2 (U2 (Z2 (U2 (U1 (Z8 (Z1 ([])))))))) (n5 0) (U2 (Z2 (U2 (Z2 (Z1 (U8 (U1 ([])))))))) m (Y2 (nI 0::nI 0::Y2 (.d (.ivs l.length (ints l))::nI (l.length)::nI i::Y8 (Y1 ([]))))) [] k
  =if n9 (l.drop i.toNat)=0 then k (.exit 0) (Y2 (nI 0::nI 0::Y2 (.d (.ivs l.length (ints l))::nI (l.length)::nI (l.length)::Y8 (Y1 ([]))))) []else k .ret (Y2 (nI (n9 (l.drop i.toNat))::nI 0::Y2 (.d (.ivs l.length (ints l))::nI (l.length)::nI (i+lz (l.drop i.toNat))::Y8 (Y1 ([]))))) []:=by
 intro i m h0 hi hm;obtain⟨j,hj⟩:∃j:Nat,(j:Int)=(l.length:Int)-i:=⟨((l.length:Int)-i).toNat,by omega⟩
 induction j generalizing i m with
 |zero=>
  obtain _|m:=m;omega;obtain rfl:i=l.length:=by omega
  rw[pW];simp only[rM,Tryz.f67,SLM,simprocAttr];simp -implicitDefEqProofs (maxSteps:=2000000) (disch:=try exact Dz) only[↓DN,↓kRet,UP,simprocAttr,Aj];simp only[Ca,n9,if_true]
 |succ j ih=>
  obtain _|m:=m;omega;have hc:i<l.length:=by omega
  have hk:i.toNat<l.length:=by omega
  have e1:(i+1).toNat=i.toNat+1:=by omega
  rw[cB hk (d:=0)]
  by_cases hz:l.getD i.toNat 0=0
  ·rw[pW];simp only[rM,Tryz.f67,SLM,simprocAttr];simp -implicitDefEqProofs (maxSteps:=2000000) (disch:=try exact Dz) only[↓DN,↓kRet,e1P,UP,simprocAttr,hc,hz,↓ih];simp only[n9,lz,if_true,e1,Int.natCast_add,Int.add_assoc,Int.add_comm 1];rfl
  ·rw[pW];simp only[rM,Tryz.f67,SLM,simprocAttr];simp -implicitDefEqProofs (maxSteps:=2000000) (disch:=try exact Dz) only[↓DN,↓kRet,e1P,UP,simprocAttr,hc,hz];simp only[n9,lz,hz,if_false,Ar,Int.add_zero]
theorem aAE(hn:2<=n)(l:List Int)(hl:l.length<=1000)(hL:2^60<=L):aA env1 L n 67 [.d (.ivs l.length (ints l))] []=some (nI (n9 l),[]):=by
 by_cases hz:n9 l=0
 ·obtain _|n:=n;omega;rw[HK];simp only[CR,Tryz.f67,SLM,simprocAttr];simp -implicitDefEqProofs (maxSteps:=2000000) (disch:=try exact Dz) only[↓DN,↓kAsg,↓kRet,e1P,UP,simprocAttr,↓DI,Int.toNat_zero,hz]
 ·obtain _|n:=n;omega;rw[HK];simp only[CR,Tryz.f67,SLM,simprocAttr];simp -implicitDefEqProofs (maxSteps:=2000000) (disch:=try exact Dz) only[↓DN,↓kAsg,↓kRet,e1P,UP,simprocAttr,↓DI,Int.toNat_zero,hz]
theorem aAG{k:A->Option R}(hn:2<=n)(l:List Int)(hl:l.length<=1000)(hL:2^60<=L):tE (aA env1 L n) 67 [.d (.ivs l.length (ints l))] k=k (nI (n9 l)):=
 lC (aAE hn l hl hL) rfl
theorem UK{hq:H}{k:KA R}{id0 g0 o0 len0:Nat}:aZ env1 (aA env1 L n) hq 67 [.sl id0 g0 o0 len0] k=match box (QQ hq [.sl id0 g0 o0 len0])with
  |.mk (some fs)=>tE (aA env1 L n) 67 fs fun r=>k r hq
  |_=>none:=d7 WQ
theorem J1(hn:1<=n)(x:List UInt8):aA env1 L n 100 [.d (.str x)] []=some (.d (.bool false),[]):=by
 obtain _|n:=n;omega;rw[JN];simp only[yY,Tryz.f100,SLM,simprocAttr];simp -implicitDefEqProofs (maxSteps:=2000000) (disch:=try exact Dz) only[↓DN,↓kAsg,↓kRet,e1P,UP,simprocAttr,aIz]
theorem nN{hq:H}{k:KA R}(hn:1<=n)(x:List UInt8):aZ env1 (aA env1 L n) hq 100 [.d (.str x)] k=k (.d (.bool false)) hq:=
 cO rfl (J1 hn x) rfl (.inl rfl)
theorem GX(hn:2<=n)(x y:List UInt8):aA env1 L n 69 [.d (.str x),.d (.str y)] []=some (nI (cmpB x y),[]):=by
 unfold cmpB
 by_cases h1:Op.bytesLess x y=true
 ·obtain _|n:=n;omega;rw[lD];simp only[jO,Tryz.f69,SLM,simprocAttr];simp -implicitDefEqProofs (maxSteps:=2000000) (disch:=try exact Dz) only[↓DN,↓kAsg,↓kRet,e1P,UP,simprocAttr,↓nN,KR,h1]
 ·have hg:=aI6 h1
  by_cases h2:Op.bytesLess y x=true
  ·rw[h2,Bool.not_true]at hg;obtain _|n:=n;omega;rw[lD];simp only[jO,Tryz.f69,SLM,simprocAttr];simp -implicitDefEqProofs (maxSteps:=2000000) (disch:=try exact Dz) only[↓DN,↓kAsg,↓kRet,e1P,UP,simprocAttr,↓nN,KR,YV,h1,h2,hg]
  ·rw[Bool.eq_false_iff.2 h2,Bool.not_false]at hg;obtain _|n:=n;omega;rw[lD];simp only[jO,Tryz.f69,SLM,simprocAttr];simp -implicitDefEqProofs (maxSteps:=2000000) (disch:=try exact Dz) only[↓DN,↓kAsg,↓kRet,e1P,UP,simprocAttr,↓nN,KR,YV,h1,h2,hg]
theorem HG{hq:H}{k:KA R}(hn:2<=n)(x y:List UInt8):aZ env1 (aA env1 L n) hq 69 [.d (.str x),.d (.str y)] k=k (nI (cmpB x y)) hq:=
 cO rfl (GX hn x y) rfl (.inl rfl)
theorem ev1_i_shortlex(hn:4<=n)(x y:List UInt8)(hL:2^60<=L):aA env1 L n 34 [.d (.str x),.d (.str y)] []=some (nI (cmpX x y),[]):=by
 have k3:∀ {R:Type} {n:Nat} {k:A->Option R},2<=n->tE (aA env1 L n) 67 [.d (.ivs 2 (ints [cmpI x.length y.length,cmpB x y]))] k=k (nI (n9 [cmpI x.length y.length,cmpB x y])):=fun h=>aAG h [cmpI x.length y.length,cmpB x y] (by simp) hL;obtain _|n:=n;omega;rw[aAU];simp only[N2,Tryz.f34,SLM,simprocAttr];simp -implicitDefEqProofs (maxSteps:=2000000) (disch:=try exact Dz) only[↓DN,↓kAsg,↓kRet,e1P,UP,simprocAttr,↓MI,↓HG,↓UK,aOj,↓k3];rfl
end X1
end
section
open Go.Shelf
def aEa:Go.Shelf.Ren:=⟨fun|6=>45|15=>82|14=>81|28=>116|29=>117|20=>108|21=>109|22=>110|23=>111|24=>112|25=>113|26=>114|27=>115|46=>137|47=>138|48=>139|49=>140|50=>141|57=>153|n=>n,fun|22=>29|24=>9|25=>61|3=>3|39=>69|0=>0|53=>120|55=>122|4=>4|46=>113|45=>112|50=>117|5=>5|9=>9|66=>145|70=>149|76=>160|77=>161|n=>n,fun|n=>n⟩
theorem aEf:Go.Proofs.SlLaysF.n6 Tryz.prog aEa:={
 mixed:=by kernel_rfl
 f6:=⟨Tryz.f45.name,by decide,Tryz.func45.trans (congrArg some (by kernel_rfl))⟩
 f14:=⟨Tryz.f81.name,by decide,Tryz.func81.trans (congrArg some (by kernel_rfl))⟩
 f15:=Tryz.func82.trans (congrArg some (by kernel_rfl))
 f20:=⟨Tryz.f108.name,by decide,Tryz.func108.trans (congrArg some (by kernel_rfl))⟩
 f21:=⟨Tryz.f109.name,by decide,Tryz.func109.trans (congrArg some (by kernel_rfl))⟩
 f22:=⟨Tryz.f110.name,by decide,Tryz.func110.trans (congrArg some (by kernel_rfl))⟩
 f23:=⟨Tryz.f111.name,by decide,Tryz.func111.trans (congrArg some (by kernel_rfl))⟩
 f24:=⟨Tryz.f112.name,by decide,Tryz.func112.trans (congrArg some (by kernel_rfl))⟩
 f25:=⟨Tryz.f113.name,by decide,Tryz.func113.trans (congrArg some (by kernel_rfl))⟩
 f26:=⟨Tryz.f114.name,by decide,Tryz.func114.trans (congrArg some (by kernel_rfl))⟩
 f27:=⟨Tryz.f115.name,by decide,Tryz.func115.trans (congrArg some (by kernel_rfl))⟩
 f28:=Tryz.func116.trans (congrArg some (by kernel_rfl))
 f29:=Tryz.func117.trans (congrArg some (by kernel_rfl))
 f46:=⟨Tryz.f137.name,by decide,Tryz.func137.trans (congrArg some (by kernel_rfl))⟩
 f47:=Tryz.func138.trans (congrArg some (by kernel_rfl))
 f48:=Tryz.func139.trans (congrArg some (by kernel_rfl))
 f49:=⟨Tryz.f140.name,by decide,Tryz.func140.trans (congrArg some (by kernel_rfl))⟩
 f50:=⟨Tryz.f141.name,by decide,Tryz.func141.trans (congrArg some (by kernel_rfl))⟩
 f57:=⟨Tryz.f153.name,by decide,Tryz.func153.trans (congrArg some (by kernel_rfl))⟩
 t0:=Tryz.underlying0
 a0:=Tryz.isAgg0
 z0:=Tryz.sizeOf0
 v0:=Tryz.zeroValue0
 t3:=Tryz.underlying3
 a3:=Tryz.isAgg3
 z3:=Tryz.sizeOf3
 v3:=Tryz.zeroValue3
 t4:=Tryz.underlying4
 a4:=Tryz.isAgg4
 z4:=Tryz.sizeOf4
 v4:=Tryz.zeroValue4
 t5:=Tryz.underlying5
 a5:=Tryz.isAgg5
 z5:=Tryz.sizeOf5
 v5:=Tryz.zeroValue5
 t9:=Tryz.underlying9
 a9:=Tryz.isAgg9
 z9:=Tryz.sizeOf9
 v9:=Tryz.zeroValue9
 t22:=Tryz.underlying29
 a22:=Tryz.isAgg29
 z22:=Tryz.sizeOf29
 v22:=Tryz.zeroValue29
 a24:=Tryz.isAgg9
 z24:=Tryz.sizeOf9
 t25:=Tryz.underlying61
 a25:=Tryz.isAgg61
 z25:=Tryz.sizeOf61
 v25:=Tryz.zeroValue61
 t39:=Tryz.underlying69
 a39:=Tryz.isAgg69
 z39:=Tryz.sizeOf69
 v39:=Tryz.zeroValue69
 t45:=Tryz.underlying112
 a45:=Tryz.isAgg112
 z45:=Tryz.sizeOf112
 v45:=Tryz.zeroValue112
 t46:=Tryz.underlying113
 a46:=Tryz.isAgg113
 z46:=Tryz.sizeOf113
 v46:=Tryz.zeroValue113
 t50:=Tryz.underlying117
 a50:=Tryz.isAgg117
 z50:=Tryz.sizeOf117
 v50:=Tryz.zeroValue117
 t53:=Tryz.underlying120
 a53:=Tryz.isAgg120
 z53:=Tryz.sizeOf120
 v53:=Tryz.zeroValue120
 t55:=Tryz.underlying122
 a55:=Tryz.isAgg122
 z55:=Tryz.sizeOf122
 v55:=Tryz.zeroValue122
 t66:=Tryz.underlying145
 a66:=Tryz.isAgg145
 z66:=Tryz.sizeOf145
 v66:=Tryz.zeroValue145
 t70:=Tryz.underlying149
 a70:=Tryz.isAgg149
 z70:=Tryz.sizeOf149
 v70:=Tryz.zeroValue149
 t76:=Tryz.underlying160
 a76:=Tryz.isAgg160
 z76:=Tryz.sizeOf160
 v76:=Tryz.zeroValue160
 t77:=Tryz.underlying161
 a77:=Tryz.isAgg161
 z77:=Tryz.sizeOf161
 v77:=Tryz.zeroValue161}
end
end Ev
end Go.Proofs.YthlkcebdfbjdoaaGreat
