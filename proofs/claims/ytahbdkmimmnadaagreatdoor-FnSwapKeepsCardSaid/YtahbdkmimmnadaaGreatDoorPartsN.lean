/-
  Words: what the functions on words give.
-/
import Derived.Test.YtahbdkmimmnadaaGreatDoorRead
import Derived.Test.YtahbdkmimmnadaaGreatDoorLeast
import Derived.Test.YtahbdkmimmnadaaGreatDoorEvPrim
import Derived.Test.YtahbdkmimmnadaaGreatDoorNetY
set_option linter.unusedSimpArgs false
set_option linter.unusedVariables false
set_option linter.unusedSectionVars false
set_option maxRecDepth 8000
set_option maxHeartbeats 4000000
namespace Go.Proofs.YtahbdkmimmnadaaGreatDoor
namespace Ev
section
variable{R:Type}{L n:Nat}
def ltr(b:UInt8):Int:=(b.toNat:Int)-97
def gC(l:Int):UInt8:=UInt8.ofNat (97+l).toNat
theorem aRL{b:UInt8}:IntKind.i64.wrap ((b.toNat:Int)-97)=ltr b:=dM om (by have:=toNat_lt b;omega)
theorem aFb{l:Int}(h0:0<=l)(h:l<=5):IntKind.u8.wrap (97+l)=((gC l).toNat:Int):=by
 rw[aSX om om];unfold gC;rw[UInt8.toNat_ofNat'];omega
theorem RU(hn:1<=n)(s:List UInt8)(i:Int)(h0:0<=i)(h:i<s.length):aA env L n 96 [.d (.str s),nI i] []=some (nI (if aT (ltr (s.getD i.toNat 0))then ltr (s.getD i.toNat 0)else -1),[]):=by
 obtain _|n:=n;omega
 simp-implicitDefEqProofs (maxSteps:=9^7) (disch:=try exact Dz) only[↓DN,↓kAsg,↓kRet,UP,simprocAttr,↓aD5,aRL,aGR,VW,Tryz.f96];generalize ltr (s.getD i.toNat 0)=v;unfold aT
 by_cases h1:v<0
 ·have h2:¬0<=v:=om;simp[h1,h2]
 ·have h2:0<=v:=om
  by_cases h3:6<=v
  ·have h4:¬v<6:=om;simp[h1,h2,h3,h4]
  ·have h4:v<6:=om;simp[h1,h2,h3,h4]
theorem jZ:type_of% fun {L} s i h0 h=>ks fun hn=> @RU L _ hn s i h0 h:=fun {L} s i h0 h=>ks fun hn=> @RU L _ hn s i h0 h
theorem JU(hn:1<=n)(l:Int)(h0:0<=l)(h:l<=5):aA env L n 95 [nI l] []=some (.d (.int .u8 (gC l).toNat),[]):=by
 have e:IntKind.u8.wrap (97+l)=((gC l).toNat:Int):=aFb h0 h;obtain _|n:=n;omega
 simp-implicitDefEqProofs (maxSteps:=9^7) (disch:=try exact Dz) only[↓DN,↓kAsg,↓kRet,UP,simprocAttr,↓aDH,e,aCM,OH,Tryz.f95]
theorem J6:type_of% fun {L} l h0 h=>ks fun hn=> @JU L _ hn l h0 h:=fun {L} l h0 h=>ks fun hn=> @JU L _ hn l h0 h
def okB(b:UInt8):Bool:=aT (ltr b)
def mI(s:List UInt8):Bool:=decide (s.length<=50000)&&s.all okB
def aCc(x y:Int)(b:UInt8):UInt8:=gC (cH (ltr b) x y)
def BA(s:List UInt8)(x y:Int):List UInt8:=if mI s&&aT x&&aT y then s.map (aCc x y)else []
def upTo{α:Type}(p:α->Bool)(l:List α)(i:Nat):Int:=(i:Int)+((l.drop i).takeWhile p).length
theorem aQe{α:Type}{p:α->Bool}{l:List α}:upTo p l l.length=l.length:=by
 unfold upTo;simp
theorem aNP{α:Type}{p:α->Bool}{l:List α}{i:Nat}{d:α}(h:i<l.length)(hp:p (l.getD i d)=false):upTo p l i=i:=by
 unfold upTo;rw[Aa,Ae h]at hp;simp only[Bd]at hp;rw[Da h,List.takeWhile_cons,hp];simp
theorem aRn{α:Type}{p:α->Bool}{l:List α}{i:Nat}{d:α}(h:i<l.length)(hp:p (l.getD i d)=true):upTo p l i=upTo p l (i+1):=by
 unfold upTo;rw[Aa,Ae h]at hp;simp only[Bd]at hp;rw[Da h,List.takeWhile_cons,hp]
 simp;omega
theorem aOI{α:Type}{p:α->Bool}{l:List α}{i:Nat}{d:α}(h:i<l.length)(hp:p (l.getD i d)=false):(l.drop i).all p=false:=by
 rw[Aa,Ae h]at hp;simp only[Bd]at hp;rw[Da h,Bp,hp];rfl
theorem aSo{α:Type}{p:α->Bool}{l:List α}{i:Nat}{d:α}(h:i<l.length)(hp:p (l.getD i d)=true):(l.drop i).all p=(l.drop (i+1)).all p:=by
 rw[Aa,Ae h]at hp;simp only[Bd]at hp;rw[Da h,Bp,hp];rfl
def inB(a:Int)(b:UInt8):Bool:=okB b&&bG a (ltr b)
def eZ(a:Int)(s:List UInt8):Bool:=bH a&&decide (s.length<=50000)&&s.all (inB a)
theorem aC9{a:Int}{b:UInt8}:(decide (0<=(if aT (ltr b)then ltr b else -1))&&bG a (if aT (ltr b)then ltr b else -1))=inB a b:=by
 unfold inB okB
 cases h:aT (ltr b)with
 |true=>
  have:=cU.1 h;have h2:0<=ltr b:=om;simp[h2]
 |false=>simp
theorem E5(hn:1<=n){s:List UInt8}{a:Int}(hs:s.length<4294967296){k:KE R}:∀(i:Int) (m:Nat) (h0:0<=i) (hi:i<=s.length) (hm:(s.length:Int)-i<m),
  aS env (aA env L n) L 0 [] Bz53 (yU 0) (Z2 (U2 (Z1 (U8 (U2 (Z2 (U8 (U1 ([]))))))))) m (.d (.str s)::nI a::Y2 (.d (.bool false)::Y8 (Y2 (nI (s.length)::nI i::Y8 (Y1 ([])))))) [] k
  =if(s.drop i.toNat).all (inB a)then k (.exit 0) (.d (.str s)::nI a::Y2 (.d (.bool false)::Y8 (Y2 (nI (s.length)::nI (upTo (inB a) s i.toNat)::Y8 (Y1 ([])))))) []else k .ret (.d (.str s)::nI a::Y2 (.d (.bool false)::Y8 (Y2 (nI (s.length)::nI (upTo (inB a) s i.toNat)::Y8 (Y1 ([])))))) []:=by
 intro i m h0 hi hm;obtain⟨j,hj⟩:∃j:Nat,(j:Int)=(s.length:Int)-i:=⟨((s.length:Int)-i).toNat,by omega⟩
 induction j generalizing i m with
 |zero=>
  obtain _|m:=m;omega;obtain rfl:i=s.length:=om
  simp-implicitDefEqProofs (maxSteps:=9^7) (disch:=try exact Dz) only[↓DN,↓kRet,UP,simprocAttr,Ak,qC,oI,Tryz.f91];simp only[Bl,Cc,if_true,aQe]
 |succ j ih=>
  obtain _|m:=m;omega;have hc:i<s.length:=om;have hk:i.toNat<s.length:=om;have e1:(i+1).toNat=i.toNat+1:=om
  cases hb:inB a (s.getD i.toNat 0)with
  |true=>
   simp-implicitDefEqProofs (maxSteps:=9^7) (disch:=try exact Dz) only[↓DN,↓kRet,UP,simprocAttr,hc,↓jZ,↓jA,aC9,hb,↓ih,qC,oI,Tryz.f91];rw[e1,aSo hk hb,aRn hk hb]
  |false=>
   rw[aOI hk hb,aNP hk hb]
   simp-implicitDefEqProofs (maxSteps:=9^7) (disch:=try exact Dz) only[↓DN,↓kAsg,↓kRet,UP,simprocAttr,hc,↓jZ,↓jA,aC9,hb,qC,oI,Tryz.f91];rw[Cn h0]
theorem J3(hn:2<=n)(s:List UInt8)(a:Int)(hL:2^60<=L):aA env L n 91 [.d (.str s),nI a] []=some (.d (.bool (eZ a s)),[]):=by
 unfold eZ
 cases hal:bH a with
 |false=>
  obtain _|n:=n;omega
  simp-implicitDefEqProofs (maxSteps:=9^7) (disch:=try exact Dz) only[↓DN,↓kAsg,↓kRet,UP,simprocAttr,↓bR,hal,qT,nN,Tryz.f91]
  all_goals rfl
 |true=>
  by_cases hs:s.length<=50000
  ·have hs':¬(50000:Int)<s.length:=om
   cases ha:s.all (inB a)with
   |true=>
    obtain _|n:=n;omega
    simp-implicitDefEqProofs (maxSteps:=9^7) (disch:=try exact Dz) only[↓DN,↓kAsg,↓kRet,UP,simprocAttr,↓bR,hal,hs',↓E5,ha,qT,nN,Tryz.f91];simp[hs]
   |false=>
    obtain _|n:=n;omega
    simp-implicitDefEqProofs (maxSteps:=9^7) (disch:=try exact Dz) only[↓DN,↓kAsg,↓kRet,UP,simprocAttr,↓bR,hal,hs',↓E5,ha,qT,nN,Tryz.f91]
    all_goals simp
  ·have hs':(50000:Int)<s.length:=om;obtain _|n:=n;omega
   simp-implicitDefEqProofs (maxSteps:=9^7) (disch:=try exact Dz) only[↓DN,↓kAsg,↓kRet,UP,simprocAttr,↓bR,hal,hs',qT,nN,Tryz.f91];simp[hs]
theorem jY:type_of% fun {L} s a hL=>ks fun hn=> @J3 L _ hn s a hL:=fun {L} s a hL=>ks fun hn=> @J3 L _ hn s a hL
theorem N9(hn:3<=n)(s:List UInt8)(hL:2^60<=L):aA env L n 94 [.d (.str s)] []=some (.d (.bool (mI s)),[]):=by
 have e:eZ 63 s=mI s:=by
  unfold eZ mI
  have:inB 63=okB:=by
   funext b
   unfold inB okB
   cases h:aT (ltr b)with
   |false=>rfl
   |true=>
    have hb:=cU.1 h;have:ltr b=0\/ltr b=1\/ltr b=2\/ltr b=3\/ltr b=4\/ltr b=5:=om
    rcases this with h|h|h|h|h|h<;>rw[h]<;>decide
  rw[this];rfl
 obtain _|n:=n;omega
 simp-implicitDefEqProofs (maxSteps:=9^7) (disch:=try exact Dz) only[↓DN,↓kAsg,UP,simprocAttr,↓jY,e,aEo,QT,Tryz.f94]
theorem nE:type_of% fun {L} s hL=>ks fun hn=> @N9 L _ hn s hL:=fun {L} s hL=>ks fun hn=> @N9 L _ hn s hL
theorem aSN{α β:Type}{f:α->β}{l:List α}{i:Nat}{d:α}(h:i<l.length):(l.drop i).map f=f (l.getD i d)::(l.drop (i+1)).map f:=by
 rw[Da h,Aa,Ae h];rfl
theorem aNt{α:Type}{p:α->Bool}{l:List α}{d:α}(ha:l.all p=true){i:Nat}(h:i<l.length):p (l.getD i d)=true:=by
 rw[Aa,Ae h];exact Bh.1 ha _ (Ba h)
theorem aSO{α:Type}{l:List α}{k:Nat}{v:α}{m:List α}(h:k<l.length):(l.set k v).take (k+1)++m=l.take k++(v::m):=by
 rw[take_set h];simp
theorem aCq(hn:1<=n){s:List UInt8}{x y:Int}(hx:0<=x)(hx6:x<=5)(hy:0<=y)(hy6:y<=5)(hs:s.length<=50000)(ha:s.all okB=true){k:KE R}:∀(i:Int) (m:Nat) (o:List UInt8) (len:Nat) (h0:0<=i) (hi:i<=s.length) (hm:(s.length:Int)-i<m) (hl:len=o.length) (ho:o.length=s.length),
  aS env (aA env L n) L 0 [] Bz33 (D9 0) (Z2 (Z1 (U2 (U1 (Z2 (U16 (U2 (Z2 (U8 (U4 (U2 (U1 ([]))))))))))))) m (.d (.str s)::nI x::nI y::Y2 (Y1 (.d (.str ([]))::.sl 0 0 0 len::Y16 (Y2 (nI (s.length)::nI i::Y8 (Y4 (Y2 (Y1 ([]))))))))) [.arr (a7 o) 1 0] k
  =k (.exit 0) (.d (.str s)::nI x::nI y::Y2 (Y1 (.d (.str ([]))::.sl 0 0 0 s.length::Y16 (Y2 (nI (s.length)::nI (s.length)::Y8 (Y4 (Y2 (Y1 ([]))))))))) [.arr (a7 (o.take i.toNat++(s.drop i.toNat).map (aCc x y))) 1 0]:=by
 intro i m o len h0 hi hm hl ho;obtain⟨j,hj⟩:∃j:Nat,(j:Int)=(s.length:Int)-i:=⟨((s.length:Int)-i).toNat,by omega⟩
 induction j generalizing i m o len with
 |zero=>
  obtain _|m:=m;omega;obtain rfl:i=s.length:=om
  simp-implicitDefEqProofs (maxSteps:=9^7) (disch:=try exact Dz) only[↓DN,↓kRet,UP,simprocAttr,Ak,EX,A7,Tryz.f36];have e1:o.take s.length=o:=Ca om;rw[Bl,e1,Al,Ah,hl,ho]
 |succ j ih=>
  obtain _|m:=m;omega;have hc:i<s.length:=om;have hk:i.toNat<s.length:=om;have hk2:i.toNat<o.length:=om;have e1:(i+1).toNat=i.toNat+1:=om;have hb:=aNt (d:=0) ha hk;have hsl:=cU.1 hb;have hsw:=LM hsl.1 hx hy;have hsw2:=aAw hsl.2 hx6 hy6;have hlet:aT (ltr (s.getD i.toNat 0))=true:=hb;have hlen:(o.set i.toNat (gC (cH (ltr (s.getD i.toNat 0)) x y))).length=s.length:=by rw[Bt];exact ho
  have hc2:i<(len:Int):=om
  simp-implicitDefEqProofs (maxSteps:=9^7) (disch:=try exact Dz) only[↓DN,↓kRet,UP,simprocAttr,hc,hc2,↓jZ,hlet,↓yZ,↓J6,Nat.lt_irrefl,↓aIA,↓ih,EX,A7,Tryz.f36];rw[aSN hk (d:=0),e1,aSO hk2];rfl
theorem RF(hn:4<=n)(s:List UInt8)(x y:Int)(hL:2^60<=L):aA env L n 36 [.d (.str s),nI x,nI y] []=some (.d (.str (BA s x y)),[]):=by
 unfold BA
 cases hw:mI s with
 |false=>
  obtain _|n:=n;omega
  simp-implicitDefEqProofs (maxSteps:=9^7) (disch:=try exact Dz) only[↓DN,↓kAsg,↓kRet,UP,simprocAttr,↓nE,hw,vR,rK,Tryz.f36]
 |true=>
  cases hx:aT x with
  |false=>
   obtain _|n:=n;omega
   simp-implicitDefEqProofs (maxSteps:=9^7) (disch:=try exact Dz) only[↓DN,↓kAsg,↓kRet,UP,simprocAttr,↓nE,↓fF,hw,hx,vR,rK,Tryz.f36]
  |true=>
   cases hy:aT y with
   |false=>
    obtain _|n:=n;omega
    simp-implicitDefEqProofs (maxSteps:=9^7) (disch:=try exact Dz) only[↓DN,↓kAsg,↓kRet,UP,simprocAttr,↓nE,↓fF,hw,hx,hy,vR,rK,Tryz.f36]
   |true=>
    have bx:=cU.1 hx;have by':=cU.1 hy
    have hw':=hw;unfold mI at hw';simp only[Aj,decide_eq_true_eq]at hw';obtain⟨hw1,hw2⟩:=hw';obtain _|n:=n;omega
    simp-implicitDefEqProofs (maxSteps:=9^7) (disch:=try exact Dz) only[↓DN,↓kAsg,↓kRet,UP,simprocAttr,↓nE,↓fF,hw,hx,hy,↓aLm,↓aCq,↓sY,vR,rK,Tryz.f36]
theorem aGt:type_of% fun {L} s x y hL=>ks fun hn=> @RF L _ hn s x y hL:=fun {L} s x y hL=>ks fun hn=> @RF L _ hn s x y hL
end
theorem LP{l:Int}(h0:0<=l)(h:l<=5):ltr (gC l)=l:=by
 unfold ltr gC;rw[UInt8.toNat_ofNat'];omega
theorem uI{l x y:Int}:cH (cH l x y) x y=l:=by
 unfold cH
 by_cases h1:l=x
 ·by_cases h2:y=x<;>simp[h1,h2]
 ·by_cases h2:l=y
  ·simp[h2]
  ·simp[h1,h2]
theorem aHB{w:List UInt8}{x y:Int}(hw:mI w=true)(hx:aT x=true)(hy:aT y=true):BA w x y=w.map (aCc x y):=by
 unfold BA;simp[hw,hx,hy]
theorem aES{al st:Int}{e:Edge}:cD al st e=(decide (0<=e.fr)&&(decide (e.fr<st)&&(decide (0<=e.to)&&(decide (e.to<st)&&(!decide (6<=e.lt)&&(decide (0<=e.lt)&&bG al e.lt)))))):=by
 have:decide (e.lt<6)= !decide (6<=e.lt):=by by_cases h:e.lt<6<;>simp[h]<;>omega
 unfold cD;rw[this]
 cases decide (0<=e.fr)<;>cases decide (e.fr<st)<;>cases decide (0<=e.to)<;>cases decide (e.to<st)<;>cases decide (0<=e.lt)<;>cases decide (6<=e.lt)<;>rfl
theorem aLC{al st:Int}{l:List Edge}{i:Nat}(h:kJ al st l i=false):0<=(l.getD i default).fr/\(l.getD i default).fr<st/\0<=(l.getD i default).to/\(l.getD i default).to<st/\¬6<=(l.getD i default).lt/\0<=(l.getD i default).lt/\bG al (l.getD i default).lt=true/\(0<i->¬0<=cmpE (l.getD (i-1) default) (l.getD i default)):=by
 have hc:=MF (e:=l.getD (i-1) default) (f:=l.getD i default);unfold kJ at h;rw[aES]at h;simp only[Ei,Eb,Aj,decide_eq_true_eq,Dy,decide_eq_false_iff_not,Bool.and_eq_false_imp]at h;obtain⟨⟨h1,h2,h3,h4,h5,h6,h7⟩,h8⟩:=h;refine⟨h1,h2,h3,h4,h5,h6,h7,fun hz=> ?_⟩;rw[h8 hz]at hc
 simpa using hc
theorem aN8{al st:Int}{l:List Edge}{i:Nat}(h:kJ al st l i=true):¬0<=(l.getD i default).fr\/0<=(l.getD i default).fr/\(¬(l.getD i default).fr<st\/(l.getD i default).fr<st/\(¬0<=(l.getD i default).to\/0<=(l.getD i default).to/\(¬(l.getD i default).to<st\/(l.getD i default).to<st/\(6<=(l.getD i default).lt\/¬6<=(l.getD i default).lt/\(¬0<=(l.getD i default).lt\/0<=(l.getD i default).lt/\(bG al (l.getD i default).lt=false\/bG al (l.getD i default).lt=true/\0<i/\0<=cmpE (l.getD (i-1) default) (l.getD i default))))))):=by
 have hc:=MF (e:=l.getD (i-1) default) (f:=l.getD i default);unfold kJ at h;rw[aES]at h
 by_cases h1:0<=(l.getD i default).fr
 ·refine .inr ⟨h1,?_⟩
  by_cases h2:(l.getD i default).fr<st
  ·refine .inr ⟨h2,?_⟩
   by_cases h3:0<=(l.getD i default).to
   ·refine .inr ⟨h3,?_⟩
    by_cases h4:(l.getD i default).to<st
    ·refine .inr ⟨h4,?_⟩
     by_cases h5:6<=(l.getD i default).lt
     ·exact .inl h5
     ·refine .inr ⟨h5,?_⟩
      by_cases h6:0<=(l.getD i default).lt
      ·refine .inr ⟨h6,?_⟩
       cases h7:bG al (l.getD i default).lt with
       |false=>exact .inl rfl
       |true=>
        simp only[h1,h2,h3,h4,h5,h6,h7,decide_true,decide_false,Bool.not_false,Bx,Bool.not_true,Bool.false_or,Aj,decide_eq_true_eq]at h;rw[h.2]at hc;exact .inr ⟨rfl,h.1,by simpa using hc⟩
      ·exact .inl h6
    ·exact .inl h4
   ·exact .inl h3
  ·exact .inl h2
 ·exact .inl h1
theorem TD{R:Type}{L n:Nat}(hL:2^60<=L)(hn:5<=n){al st:Int}{l:List Edge}(hl:l.length<=4294967296){k:KE R}:∀(j:Nat) (i:Int) (m:Nat) (h0:0<=i) (hi:i+j=l.length) (hm:j<m),
  aS env (aA env L n) L 0 [] Bz16 (n5 0) Bz39 m (Y1 (.ptr 0 0 0::.d (.bool false)::Y16 (Y1 (.d (.ivs l.length (aJ l))::nI (l.length)::nI i::Y32 (Y8 (Y4 (Y1 ([])))))))) [.box [nI al,nI st,.d (.ivs l.length (aJ l))]] k
  =match seek (kJ al st l) j i.toNat with
   |none=>k (.exit 0) (Y1 (.ptr 0 0 0::.d (.bool false)::Y16 (Y1 (.d (.ivs l.length (aJ l))::nI (l.length)::nI (l.length)::Y32 (Y8 (Y4 (Y1 ([])))))))) [.box [nI al,nI st,.d (.ivs l.length (aJ l))]]
   |some r=>k .ret (Y1 (.ptr 0 0 0::.d (.bool false)::Y16 (Y1 (.d (.ivs l.length (aJ l))::nI (l.length)::nI r::Y32 (Y8 (Y4 (Y1 ([])))))))) [.box [nI al,nI st,.d (.ivs l.length (aJ l))]]:=by
 intro j
 induction j with
 |zero=>
  intro i m h0 hi hm;obtain _|m:=m;omega;obtain rfl:i=l.length:=om
  simp-implicitDefEqProofs (maxSteps:=9^7) (disch:=try exact Dz) only[↓DN,↓kRet,UP,simprocAttr,Ak,cE,cP,Tryz.f77]<;>rfl
 |succ j ih=>
  intro i m h0 hi hm;obtain _|m:=m;omega;have hc:i<l.length:=om;have hk:i.toNat<l.length:=om;have e1:(i+1).toNat=i.toNat+1:=om;have e2:(i-1).toNat=i.toNat-1:=om;have e3:((i.toNat:Nat):Int)=i:=om
  cases hb:kJ al st l i.toNat with
  |true=>
   rw[i7 hb];have hb':=aN8 hb;clear hb
   rcases hb' with b1|⟨b1,hb'⟩
   ·clear ih;rw[cE];simp only[cP,Tryz.f77,SLM,simprocAttr]
    simp-implicitDefEqProofs (maxSteps:=9^7) (disch:=try exact Dz) only[↓DN,↓kAsg,↓kRet,UP,simprocAttr,↓gA,LE,hc,b1,e3]
   ·rcases hb' with b2|⟨b2,hb'⟩
    ·clear ih;rw[cE];simp only[cP,Tryz.f77,SLM,simprocAttr]
     simp-implicitDefEqProofs (maxSteps:=9^7) (disch:=try exact Dz) only[↓DN,↓kAsg,↓kRet,UP,simprocAttr,↓gA,LE,hc,b1,b2,e3]
    ·rcases hb' with b3|⟨b3,hb'⟩
     ·clear ih;rw[cE];simp only[cP,Tryz.f77,SLM,simprocAttr]
      simp-implicitDefEqProofs (maxSteps:=9^7) (disch:=try exact Dz) only[↓DN,↓kAsg,↓kRet,UP,simprocAttr,↓gA,LE,hc,b1,b2,b3,e3]
     ·rcases hb' with b4|⟨b4,hb'⟩
      ·clear ih;rw[cE];simp only[cP,Tryz.f77,SLM,simprocAttr]
       simp-implicitDefEqProofs (maxSteps:=9^7) (disch:=try exact Dz) only[↓DN,↓kAsg,↓kRet,UP,simprocAttr,↓gA,LE,hc,b1,b2,b3,b4,e3]
      ·rcases hb' with b5|⟨b5,hb'⟩
       ·clear ih;rw[cE];simp only[cP,Tryz.f77,SLM,simprocAttr]
        simp-implicitDefEqProofs (maxSteps:=9^7) (disch:=try exact Dz) only[↓DN,↓kAsg,↓kRet,UP,simprocAttr,↓gA,LE,hc,b1,b2,b3,b4,b5,e3]
       ·rcases hb' with b6|⟨b6,hb'⟩
        ·clear ih;rw[cE];simp only[cP,Tryz.f77,SLM,simprocAttr]
         simp-implicitDefEqProofs (maxSteps:=9^7) (disch:=try exact Dz) only[↓DN,↓kAsg,↓kRet,UP,simprocAttr,↓gA,↓jA,LE,hc,b1,b2,b3,b4,b5,b6,e3]
        ·rcases hb' with b7|⟨b7,hz',hb3⟩
         ·clear ih;rw[cE];simp only[cP,Tryz.f77,SLM,simprocAttr]
          simp-implicitDefEqProofs (maxSteps:=9^7) (disch:=try exact Dz) only[↓DN,↓kAsg,↓kRet,UP,simprocAttr,↓gA,↓jA,LE,hc,b1,b2,b3,b4,b5,b6,b7,e3]
         ·have hz:0<i:=om;have hk2:(i-1).toNat<l.length:=om;rw[<-e2]at hb3;clear hz' ih
          simp-implicitDefEqProofs (maxSteps:=9^7) (disch:=try exact Dz) only[↓DN,↓kAsg,↓kRet,UP,simprocAttr,↓gA,↓jA,↓EU,LE,hc,hz,b1,b2,b3,b4,b5,b6,b7,hb3,e3,cE,cP,Tryz.f77]
  |false=>
   rw[lC hb];obtain⟨b1,b2,b3,b4,b5,b6,b7,hb2⟩:=aLC hb;clear hb
   by_cases hz:0<i
   ·have hb4:=hb2 om;have hk2:(i-1).toNat<l.length:=om;rw[<-e2]at hb4;clear hb2
    simp-implicitDefEqProofs (maxSteps:=9^7) (disch:=try exact Dz) only[↓DN,↓kRet,UP,simprocAttr,↓gA,↓jA,↓EU,LE,hc,hz,b1,b2,b3,b4,b5,b6,b7,hb4,↓ih,e1,cE,cP,Tryz.f77]
   ·clear hb2
    simp-implicitDefEqProofs (maxSteps:=9^7) (disch:=try exact Dz) only[↓DN,↓kRet,UP,simprocAttr,↓gA,↓jA,LE,hc,hz,b1,b2,b3,b4,b5,b6,b7,↓ih,e1,cE,cP,Tryz.f77]
theorem uL{R:Type}{L n m:Nat}(hL:2^60<=L)(hn:5<=n){al st:Int}{l:List Edge}(hl:l.length<=4294967296){k:KE R}(hm:l.length<m):
  aS env (aA env L n) L 0 [] Bz16 (n5 0) Bz39 m (Y1 (.ptr 0 0 0::.d (.bool false)::Y16 (Y1 (.d (.ivs l.length (aJ l))::nI (l.length)::nI 0::Y32 (Y8 (Y4 (Y1 ([])))))))) [.box [nI al,nI st,.d (.ivs l.length (aJ l))]] k
  =match seek (kJ al st l) l.length 0 with
   |none=>k (.exit 0) (Y1 (.ptr 0 0 0::.d (.bool false)::Y16 (Y1 (.d (.ivs l.length (aJ l))::nI (l.length)::nI (l.length)::Y32 (Y8 (Y4 (Y1 ([])))))))) [.box [nI al,nI st,.d (.ivs l.length (aJ l))]]
   |some r=>k .ret (Y1 (.ptr 0 0 0::.d (.bool false)::Y16 (Y1 (.d (.ivs l.length (aJ l))::nI (l.length)::nI r::Y32 (Y8 (Y4 (Y1 ([])))))))) [.box [nI al,nI st,.d (.ivs l.length (aJ l))]]:=
 TD hL hn hl l.length 0 m om om hm
theorem IP{L n:Nat}(hn:6<=n)(al st:Int)(l:List Edge)(hl:l.length<=4294967296)(hL:2^60<=L):aA env L n 77 [.agg [nI al,nI st,.d (.ivs l.length (aJ l))]] []=some (.d (.bool (bK ⟨al,st,l⟩)),[]):=by
 unfold bK;simp only[]
 cases ha:bH al with
 |false=>
  obtain _|n:=n;omega
  simp-implicitDefEqProofs (maxSteps:=9^7) (disch:=try exact Dz) only[↓DN,↓kAsg,↓kRet,UP,simprocAttr,↓bR,ha,k9,jX,Tryz.f77]
 |true=>
  by_cases h1:st<1
  ·have e1:decide (1<=st)=false:=by simp;omega
   obtain _|n:=n;omega
   simp-implicitDefEqProofs (maxSteps:=9^7) (disch:=try exact Dz) only[↓DN,↓kAsg,↓kRet,UP,simprocAttr,↓bR,ha,h1,e1,k9,jX,Tryz.f77]
  ·by_cases h2:16<st
   ·have e1:decide (st<=16)=false:=by simp;omega
    obtain _|n:=n;omega
    simp-implicitDefEqProofs (maxSteps:=9^7) (disch:=try exact Dz) only[↓DN,↓kAsg,↓kRet,UP,simprocAttr,↓bR,ha,h1,h2,e1,k9,jX,Tryz.f77]
   ·have e1:decide (1<=st)=true:=by simp;omega
    have e2:decide (st<=16)=true:=by simp;omega
    cases hs:seek (kJ al st l) l.length 0 with
    |none=>
     obtain _|n:=n;omega
     simp-implicitDefEqProofs (maxSteps:=9^7) (disch:=try exact Dz) only[↓DN,↓kAsg,↓kRet,UP,simprocAttr,↓bR,↓uL,ha,h1,h2,e1,e2,hs,k9,jX,Tryz.f77]
    |some r=>
     obtain _|n:=n;omega
     simp-implicitDefEqProofs (maxSteps:=9^7) (disch:=try exact Dz) only[↓DN,↓kAsg,↓kRet,UP,simprocAttr,↓bR,↓uL,ha,h1,h2,e1,e2,hs,k9,jX,Tryz.f77]
theorem lB:type_of% fun {L} al st l hl hL=>ks fun hn=> @IP L _ hn al st l hl hL:=fun {L} al st l hl hL=>ks fun hn=> @IP L _ hn al st l hl hL
section
variable{R:Type}{L n:Nat}
def mvAt:List Edge->Nat->Nat
 | [],_=>0
 |e::l,k=>if e.fr.toNat*6+e.lt.toNat=k then mvAt l k|||2^e.to.toNat else mvAt l k
theorem aAs{k j:Nat}:∀ {l:List Edge},(mvAt l k).testBit j=true↔∃e∈l,e.fr.toNat*6+e.lt.toNat=k/\e.to.toNat=j
 | []=>by simp[mvAt]
 |e::l=>by
  have ih:=aAs (k:=k) (j:=j) (l:=l);unfold mvAt
  split
  ·rename_i h
   simp only[Nat.testBit_or,Bool.or_eq_true,ih,Nat.testBit_two_pow,decide_eq_true_eq,Au,exists_eq_or_imp]
   constructor
   ·rintro(h1|h1)
    ·exact .inr h1
    ·exact .inl ⟨h,h1⟩
   ·rintro(⟨_,h1⟩|h1)
    ·exact .inr h1
    ·exact .inl h1
  ·rename_i h
   simp only[ih,Au,exists_eq_or_imp,h,false_and,false_or]
theorem aDD{k n:Nat}{l:List Edge}(h:∀e∈l,e.to.toNat<n):mvAt l k<2^n:=by
 apply Nat.lt_pow_two_of_testBit;intro i hi
 cases hb:(mvAt l k).testBit i with
 |false=>rfl
 |true=>
  obtain⟨e,he,_,rfl⟩:=aAs.1 hb;have:=h e he;omega
def mvD(l:List Edge):List D:=(List.range 96).map fun k=>.int .i64 (mvAt l k:Nat)
theorem aEc(l:List Edge):(mvD l).length=96:=by simp[mvD]
theorem aK5{l:List Edge}{k:Nat}(h:k<96):(mvD l)[k]? =some (.int .i64 (mvAt l k:Nat)):=by
 simp[mvD,h]
def sV(m:Nat->Nat):Nat->Nat->Nat->Nat
 |0,_,o=>o
 |q+1,s,o=>if s=0 then o else sV m q (s&&&(s-1)) (o|||m (Lib.ctz 64 s))
theorem XB{a b:Nat}(ha:a<2^62)(hb:b<2^62):iOr .i64 (a:Int) (b:Int)=((a|||b:Nat):Int):=by
 have h1:a|||b<2^62:=Nat.or_lt_two_pow ha hb;unfold iOr
 have e:(BitVec.ofInt (IntKind.bits .i64) (a:Int)|||BitVec.ofInt (IntKind.bits .i64) (b:Int)).toNat=a|||b:=by
  show(BitVec.ofInt 64 (a:Int)|||BitVec.ofInt 64 (b:Int)).toNat=a|||b;rw[BitVec.ofInt_natCast,BitVec.ofInt_natCast,BitVec.toNat_or,BitVec.toNat_ofNat,BitVec.toNat_ofNat,Nat.mod_eq_of_lt om,Nat.mod_eq_of_lt om]
 rw[e];exact dM om om
theorem aIg{a b:Nat}(ha:a<2^62)(hb:b<2^62):iAnd .i64 (a:Int) (b:Int)=((a&&&b:Nat):Int):=by
 have h1:a&&&b<=a:=Nat.and_le_left;unfold iAnd
 have e:(BitVec.ofInt (IntKind.bits .i64) (a:Int)&&&BitVec.ofInt (IntKind.bits .i64) (b:Int)).toNat=a&&&b:=by
  show(BitVec.ofInt 64 (a:Int)&&&BitVec.ofInt 64 (b:Int)).toNat=a&&&b;rw[BitVec.ofInt_natCast,BitVec.ofInt_natCast,BitVec.toNat_and,BitVec.toNat_ofNat,BitVec.toNat_ofNat,Nat.mod_eq_of_lt om,Nat.mod_eq_of_lt om]
 rw[e];exact dM om om
def mvA(l:List Edge):List A:=(mvD l).map .d
theorem XD(l:List Edge):(mvA l).length=96:=by simp[mvA,aEc]
theorem aKG:∀ds:List D,idsL (ds.map A.d)=[]
 | []=>rfl
 |d::ds=>by simp only[Af,idsL,idsA,aKG ds,Ah]
theorem aIz{f:Nat->Option Nat}:∀ds:List D,aE f (ds.map A.d)=ds.map A.d
 | []=>rfl
 |d::ds=>by simp only[Af,aE,mapA,aIz ds]
theorem aFK{nf:Nat}{h:H}:∀ds:List D,aQ nf h (ds.map A.d)=ds.map A.d
 | []=>rfl
 |d::ds=>by simp only[Af,aQ,bJ,aFK ds]
theorem aCa(l:List Edge):idsL (mvA l)=[]:=aKG _
theorem aCr{f:Nat->Option Nat}(l:List Edge):aE f (mvA l)=mvA l:=aIz _
theorem aKU{nf:Nat}{h:H}(l:List Edge):aQ nf h (mvA l)=mvA l:=aFK _
theorem aKD{l:List Edge}{k:Nat}(h:k<96):((mvA l).drop k).head? =some (nI (mvAt l k:Nat)):=by
 rw[Dc];simp[mvA,aK5 h]
theorem aIL{l:List Edge}{k:Nat}(h:k<96):(((mvD l).drop k).map A.d).head? =some (nI (mvAt l k:Nat)):=by
 rw[List.map_drop];exact aKD h
theorem aSt{l:List Edge}{e:Edge}{k:Nat}(hk:k<96)(he:e.fr.toNat*6+e.lt.toNat=k):bD (mvA l) k [nI (mvAt (e::l) k:Nat)]=mvA (e::l):=by
 apply Cj;intro j;rw[tC _ _ _ (by rw[XD];simp;omega)]
 by_cases hj:j<96
 ·have g:∀l,(mvA l)[j]? =some (nI (mvAt l j:Nat)):=fun l=>by simp[mvA,aK5 hj]
  by_cases hjk:j=k
  ·subst hjk;simp[g]
  ·rw[if_neg (by simp;omega),g,g]
   have e3:mvAt l j=mvAt (e::l) j:=by
    unfold mvAt;rw[if_neg om]
    cases l<;>rfl
   rw[e3]
 ·rw[if_neg (by simp;omega),Cg (l:=mvA l) (by rw[XD];omega),Cg (l:=mvA (e::l)) (by rw[XD];omega)]
theorem aOX{l:List Edge}{h:H}:frz deep (O.box (mvA l)::h) (.ptr 0 0 0)=some (.iptr (mvD l),O.ice (mvD l) 1 0::h):=by
 have key:∀(n:Nat) (ds:List D) (h:H),eJ (frz n) h (ds.map A.d)=some (ds,h):=by
  intro n ds
  induction ds with
  |nil=>intro h;rfl
  |cons d ds ih=>
   intro h;simp only[Af,eJ];have:frz n h (.d d)=some (d,h):=by cases n<;>rfl
   simp only[this,ih h]
 show frz (4+1) _ _=_;unfold frz;simp only[Ch,Cw,and_self,if_true,mvA,key,Ax,Ce]
theorem aRz{call:aX}{thaw:List Nat}{dst:Option Tmp}{x y:Operand}{k:Nat}{l:List Edge}{e:Edge}{v:Int}{r:H}(hk:k<96)(he:e.fr.toNat*6+e.lt.toNat=k)(hv:v=((mvAt (e::l) k:Nat):Int)):memD env call thaw dst (.store 3 x y) (O.box (mvA l)::r) [.ptr 0 0 k,nI v]=some (.d .undef,O.box (mvA (e::l))::r,{ ids:=[0],ro:=false,wr:=[0]}):=by
 have e1:aD aF (O.box (mvA l)::r) (idsL [.ptr 0 0 k,nI v]) []=[0]:=by
  show aD (aF-1+1) (O.box (mvA l)::r) [0] []=[0]
  simp only[aD,List.contains_nil,Ap,if_false,Ch,aCa,Ah,Am]<;>rfl
 have e2:pack (O.box (mvA l)::r) [0]=[O.box (mvA l)]:=by
  simp only[pack,Af,Al,List.getD_cons_zero,mapO,aCr]
 have e3:aE (aH [0]) [.ptr 0 0 k,nI v]=[.ptr 0 0 k,nI v]:=rfl
 have hst:iW env.P [O.box (mvA l)] 3 (.ptr 0 0 k) (nI v)=some [O.box (mvA (e::l))]:=by
  unfold iW;have h1:(aU (nI v)).length=env.P.cellsOf 3/\(env.P.info? 3).isSome=true/\(aU (nI v)).all dE=true:=⟨QH.symm▸rfl,aLA,rfl⟩
  rw[if_pos h1];have h2:aY [O.box (mvA l)] (aU (nI v))=([nI v],[O.box (mvA l)]):=rfl;simp only[Ch,h2,QH,XD];rw[if_pos om,hv,aSt hk he];rfl
 have hcl:closed (O.box (mvA l)::r) [0] (idsL [.ptr 0 0 k,nI v])=true:=by
  simp only[closed,Bp,Cc,Ch,aCa]<;>rfl
 unfold memD;rw[e1];simp only[box];rw[e2,e3];simp only[evOp,dW,two,hst,Ay,hcl,Ac,Ab,Ad,and_self,if_true];simp only[iU,Dm,Ap,if_false,Cp,List.range'_zero,Ah,mapA,bE,mapO,aCr,Ce,Al]<;>rfl
theorem aEa{l:List Edge}(hl:l.length<=4294967296)(hv:∀e∈l,0<=e.fr/\e.fr<16/\0<=e.lt/\e.lt<6/\0<=e.to/\e.to<16){k:KE R}:∀(j i m:Nat) (hi:i+j=l.length) (hm:j<m),
  aS env (aA env L n) L 0 [] Bz31 (yV 0) Bz51 m (Y2 (.d .nilp::.ptr 0 0 0::Y4 (.d (.ivs l.length (aJ l))::nI (l.length)::nI i::Y16 (Y4 (Y1 ([])))))) [.box (mvA (l.take i).reverse)] k
  =k (.exit 0) (Y2 (.d .nilp::.ptr 0 0 0::Y4 (.d (.ivs l.length (aJ l))::nI (l.length)::nI (l.length)::Y16 (Y4 (Y1 ([])))))) [.box (mvA l.reverse)]:=by
 intro j
 induction j with
 |zero=>
  intro i m hi hm;obtain _|m:=m;omega;obtain rfl:i=l.length:=om
  simp-implicitDefEqProofs (maxSteps:=9^7) (disch:=try exact Dz) only[↓DN,↓kRet,UP,simprocAttr,Ak,aCa,aCr,aKU,H8,EK,Tryz.f185]
 |succ j ih=>
  intro i m hi hm;obtain _|m:=m;omega;have hc:(i:Int)<l.length:=om;have hk:i<l.length:=om;have hmem:l.getD i default∈l:=by rw[Aa,Ae hk];exact Ba hk
  obtain⟨b1,b2,b3,b4,b5,b6⟩:=hv _ hmem;have hkk:(l.getD i default).fr.toNat*6+(l.getD i default).lt.toNat<96:=om
  have hlt:∀k,mvAt (l.take i).reverse k<2^16:=fun k=>aDD fun e he=>by
   have:=hv e (List.mem_of_mem_take (Cq.1 he));omega
  have hmv:iOr .i64 ((mvAt (l.take i).reverse ((l.getD i default).fr.toNat*6+(l.getD i default).lt.toNat):Nat):Int) (IntKind.i64.wrap (1*2^min (l.getD i default).to.toNat 64))=((mvAt (l.getD i default::(l.take i).reverse) ((l.getD i default).fr.toNat*6+(l.getD i default).lt.toNat):Nat):Int):=by
   have e1:min (l.getD i default).to.toNat 64=(l.getD i default).to.toNat:=om;have e2:(2:Nat)^(l.getD i default).to.toNat<=2^15:=Nat.pow_le_pow_right om om
   have e3:IntKind.i64.wrap (1*2^(l.getD i default).to.toNat)=((2^(l.getD i default).to.toNat:Nat):Int):=by
    have:(1:Int)*2^(l.getD i default).to.toNat=((2^(l.getD i default).to.toNat:Nat):Int):=sm;rw[this];generalize(2:Nat)^(l.getD i default).to.toNat=p at e2;exact dM om om
   have e5:=hlt ((l.getD i default).fr.toNat*6+(l.getD i default).lt.toNat);rw[e1,e3,XB om (by generalize(2:Nat)^(l.getD i default).to.toNat=p at e2|-;omega)];simp[mvAt]
  have hrev:(l.take (i+1)).reverse=l.getD i default::(l.take i).reverse:=by
   rw[Dt,List.reverse_append,Aa,Ae hk];rfl
  have ih':=ih (i+1) m om om;rw[hrev]at ih';have e4:((i+1:Nat):Int)=(i:Int)+1:=om;rw[e4]at ih';have st_m:=fun {call:aX} {thaw:List Nat} {dst:Option Tmp} {x y:Operand} {r:H}=> @aRz call thaw dst x y _ (l.take i).reverse (l.getD i default) _ r hkk rfl hmv;clear ih hmem hlt hmv hrev
  simp-implicitDefEqProofs (maxSteps:=9^7) (disch:=try exact Dz) only[↓DN,↓kRet,UP,simprocAttr,LE,hc,b1,b2,b3,b4,aKD,↓st_m,aCa,aCr,aKU,aCF,↓ih',H8,EK,Tryz.f185]
theorem VQ{R:Type}{L n m:Nat}{l:List Edge}(hl:l.length<=4294967296)(hv:∀e∈l,0<=e.fr/\e.fr<16/\0<=e.lt/\e.lt<6/\0<=e.to/\e.to<16){k:KE R}(hm:l.length<m):
  aS env (aA env L n) L 0 [] Bz31 (yV 0) Bz51 m (Y2 (.d .nilp::.ptr 0 0 0::Y4 (.d (.ivs l.length (aJ l))::nI (l.length)::nI 0::Y16 (Y4 (Y1 ([])))))) [.box [nI 0,nI 0,nI 0,nI 0,nI 0,nI 0,nI 0,nI 0,nI 0,nI 0,nI 0,nI 0,nI 0,nI 0,nI 0,nI 0,nI 0,nI 0,nI 0,nI 0,nI 0,nI 0,nI 0,nI 0,nI 0,nI 0,nI 0,nI 0,nI 0,nI 0,nI 0,nI 0,nI 0,nI 0,nI 0,nI 0,nI 0,nI 0,nI 0,nI 0,nI 0,nI 0,nI 0,nI 0,nI 0,nI 0,nI 0,nI 0,nI 0,nI 0,nI 0,nI 0,nI 0,nI 0,nI 0,nI 0,nI 0,nI 0,nI 0,nI 0,nI 0,nI 0,nI 0,nI 0,nI 0,nI 0,nI 0,nI 0,nI 0,nI 0,nI 0,nI 0,nI 0,nI 0,nI 0,nI 0,nI 0,nI 0,nI 0,nI 0,nI 0,nI 0,nI 0,nI 0,nI 0,nI 0,nI 0,nI 0,nI 0,nI 0,nI 0,nI 0,nI 0,nI 0,nI 0,nI 0]] k
  =k (.exit 0) (Y2 (.d .nilp::.ptr 0 0 0::Y4 (.d (.ivs l.length (aJ l))::nI (l.length)::nI (l.length)::Y16 (Y4 (Y1 ([])))))) [.box (mvA l.reverse)]:=
 aEa hl hv l.length 0 m om hm
theorem S4(hn:2<=n)(al st:Int)(l:List Edge)(hl:l.length<=4294967296)(hv:∀e∈l,0<=e.fr/\e.fr<16/\0<=e.lt/\e.lt<6/\0<=e.to/\e.to<16)(hL:2^60<=L):aA env L n 185 [.agg [nI al,nI st,.d (.ivs l.length (aJ l))]] []=some (.d (.iptr (mvD l.reverse)),[]):=by
 obtain _|n:=n;omega
 simp-implicitDefEqProofs (maxSteps:=9^7) (disch:=try exact Dz) only[↓DN,↓kAsg,↓kRet,UP,simprocAttr,↓VQ,↓aOX,aHL,aAc,Tryz.f185]
theorem UD:type_of% fun {L} al st l hl hv hL=>ks fun hn=> @S4 L _ hn al st l hl hv hL:=fun {L} al st l hl hv hL=>ks fun hn=> @S4 L _ hn al st l hl hv hL
theorem UB{m:Nat->Nat}:∀(q s o:Nat),sV m q s o=o|||sV m q s 0
 |0,s,o=>by simp[sV]
 |q+1,s,o=>by
  unfold sV
  split
  ·simp
  ·rw[UB q,UB q (s&&&(s-1)) (0|||m (Lib.ctz 64 s)),Nat.zero_or,Nat.or_assoc]
theorem aAH{m:Nat->Nat}{w:Nat}(hm:∀k,m k<2^w):∀(q s o:Nat),o<2^w->sV m q s o<2^w
 |0,s,o,h=>h
 |q+1,s,o,h=>by
  unfold sV
  split
  ·exact h
  ·exact aAH hm q _ _ (Nat.or_lt_two_pow h (hm _))
theorem aIj{s:Nat}(h0:s≠0)(h:s<65536):Lib.ctz 64 s<16:=by
 unfold Lib.ctz;rw[if_neg h0]
 have key:∀(f x:Nat),0<x->x<2^f->∀F,f<=F->Lib.ctzFrom F x<f:=by
  intro f
  induction f with
  |zero=>intro x h0 h1;simp at h1;omega
  |succ f ih=>
   intro x h0 h1 F hF;obtain _|F:=F;omega;unfold Lib.ctzFrom
   split
   ·omega
   ·have:=ih (x/2) om (by rw[Nat.pow_succ]at h1;omega) F om;omega
 exact key 16 s om om 64 om
def left:Nat->Nat->Nat
 |0,s=>s
 |q+1,s=>if s=0 then 0 else left q (s&&&(s-1))
theorem pJ{hq:H}{k:KA R}(hn:1<=n)(x:Int)(h0:0<=x)(h1:x<18446744073709551616):aW env (aA env L n) hq 240 [.d (.int .u64 x)] k=k (nI (Lib.ctz 64 x.toNat:Nat)) hq:=by
 obtain _|n:=n;omega;refine cS rfl ?_ rfl (.inl rfl);rw[BP];simp only[gCtz,h0,h1,and_self,if_true]
theorem NF{h:H}{n:Int}{K:IntKind}:gE env.P h 3 165 (.d (.int K n))=some (.d (.int .u64 (IntKind.u64.wrap n)),h):=xA aGZ aMV
theorem aDj(hn:1<=n){l:List Edge}{c:Int}(hc0:0<=c)(hc6:c<6)(hm16:∀k,mvAt l k<65536){k:KE R}:∀(q s o m:Nat) (hs:s<65536) (ho:o<65536) (hq:s<=q) (hm:q<m),
  aS env (aA env L n) L 0 [] Bz61 (zM 0) (Z2 (Z1 (U2 (U1 (Z2 (U16 (U2 ([])))))))) m (.d (.iptr (mvD l))::nI s::nI c::Y2 (Y1 (nI 0::nI o::Y16 (Y2 ([]))))) [] k
  =k (.exit 0) (.d (.iptr (mvD l))::nI 0::nI c::Y2 (Y1 (nI 0::nI ((sV (fun k=>mvAt l (k*6+c.toNat)) q s o:Nat):Int)::Y16 (Y2 ([]))))) []:=by
 intro q
 induction q with
 |zero=>
  intro s o m hs ho hq hm;obtain _|m:=m;omega;obtain rfl:s=0:=om
  simp-implicitDefEqProofs (maxSteps:=9^7) (disch:=try exact Dz) only[↓DN,↓kRet,UP,simprocAttr,p9,oW,Tryz.f186]<;>rfl
 |succ q ih=>
  intro s o m hs ho hq hm;obtain _|m:=m;omega
  by_cases h0:s=0
  ·subst h0
   simp-implicitDefEqProofs (maxSteps:=9^7) (disch:=try exact Dz) only[↓DN,↓kRet,UP,simprocAttr,p9,oW,Tryz.f186]<;>rfl
  ·have h0':¬(s:Int)=0:=om;have hct:=aIj h0 hs;have hk:=hm16 (Lib.ctz 64 s*6+c.toNat);have e1:IntKind.u64.wrap (s:Int)=(s:Int):=aG9 om om;have e2:iOr .i64 (o:Int) ((mvAt l (Lib.ctz 64 s*6+c.toNat):Nat):Int)=((o|||mvAt l (Lib.ctz 64 s*6+c.toNat):Nat):Int):=XB om om;have e3:(s:Int)-1=((s-1:Nat):Int):=om;have e4:iAnd .i64 (s:Int) ((s-1:Nat):Int)=((s&&&(s-1):Nat):Int):=aIg om om;have e5:IntKind.i64.wrap ((s:Int)-1)=((s-1:Nat):Int):=by rw[<-e3];exact dM om om
   have l1:=Nat.and_le_right (n:=s) (m:=s-1);have l2:o|||mvAt l (Lib.ctz 64 s*6+c.toNat)<65536:=Nat.or_lt_two_pow (n:=16) ho hk;have hkk:Lib.ctz 64 s*6+c.toNat<96:=om;have hd:c.toNat<=96-Lib.ctz 64 s*6:=om;have hd2:Lib.ctz 64 s*6<=96:=om;have hct2:((Lib.ctz 64 s:Nat):Int)<16:=om;have ih':=ih (s&&&(s-1)) (o|||mvAt l (Lib.ctz 64 s*6+c.toNat)) m om l2 om om;clear ih l1 l2 hk
   simp-implicitDefEqProofs (maxSteps:=9^7) (disch:=try exact Dz) only[↓DN,↓kRet,UP,simprocAttr,↓pJ,h0',e1,e2,e4,e5,hct2,hc0,hc6,↓NF,aEc,Bj,Br,aIL,↓ih',p9,oW,Tryz.f186];simp only[sV,h0,if_false]
end
theorem MA{s:Nat}(h0:s≠0)(h:s<2^64)(i:Nat):(s&&&(s-1)).testBit i=(s.testBit i&&decide (i≠Lib.ctz 64 s)):=by
 have hs:∃m,s=2^Lib.ctz 64 s*(2*m+1)/\Lib.ctz 64 s<64:=by
  have:=Lib.ctzFrom_spec 64 s om h;unfold Lib.ctz;rw[if_neg h0];exact this
 obtain⟨m,hm,_⟩:=hs;generalize Lib.ctz 64 s=k at *;subst hm;have hp:0<2^k:=Nat.two_pow_pos k
 have e1:2^k*(2*m+1)-1=2^k*(2*m)+(2^k-1):=by
  rw[Nat.mul_add,Bu];omega
 have e0:2^k*(2*m+1)=2^k*(2*m+1)+0:=rfl;rw[Nat.testBit_and,e1,Nat.testBit_two_pow_mul_add _ om];rw[e0,Nat.testBit_two_pow_mul_add _ hp]
 by_cases hik:i<k
 ·simp[hik]
 ·simp only[hik,if_false]
  by_cases he:i=k
  ·subst he;simp
  ·obtain⟨j,rfl⟩:∃j,i=k+(j+1):=⟨i-k-1,by omega⟩
   have e3:k+(j+1)-k=j+1:=om;rw[e3,Nat.testBit_succ,Nat.testBit_succ];have d1:(2*m+1)/2=m:=om;have d2:(2*m)/2=m:=om;rw[d1,d2];have:decide (k+(j+1)≠k)=true:=sm;rw[this];simp
theorem aKF{s:Nat}(h0:s≠0)(h:s<2^64):s.testBit (Lib.ctz 64 s)=true:=by
 obtain⟨h1,_⟩:=Lib.lowest_bit 64 s h0 h;have h2:(s&&&(2^64-s)).testBit (Lib.ctz 64 s)=true:=by rw[h1];simp
 rw[Nat.testBit_and,Aj]at h2;exact h2.1
def memG:Nat->Nat->List Int
 |0,_=>[]
 |q+1,s=>if s=0 then []else(Lib.ctz 64 s:Nat)::memG q (s&&&(s-1))
theorem BV{s:Nat}(h0:s≠0):s&&&(s-1)<s:=by
 have:=Nat.and_le_right (n:=s) (m:=s-1);omega
theorem aIe:∀(q s:Nat) (h:s<2^64) (x:Int),x∈memG q s->0<=x/\s.testBit x.toNat=true
 |0,s,h,x,hx=>by cases hx
 |q+1,s,h,x,hx=>by
  unfold memG at hx
  split at hx
  ·cases hx
  ·rename_i h0
   rcases Au.1 hx with rfl|hx
   ·exact⟨by omega,by rw[Ct];exact aKF h0 h⟩
   ·have:=BV h0;obtain⟨k1,k2⟩:=aIe q _ om x hx;rw[MA h0 h,Aj]at k2;exact⟨k1,k2.1⟩
theorem aHU:∀(q s:Nat) (h:s<2^64) (hq:s<=q) (k:Nat),s.testBit k=true->(k:Int)∈memG q s
 |0,s,h,hq,k,hk=>by
  obtain rfl:s=0:=om;simp at hk
 |q+1,s,h,hq,k,hk=>by
  unfold memG
  split
  ·rename_i h0;subst h0;simp at hk
  ·rename_i h0
   by_cases he:k=Lib.ctz 64 s
   ·subst he;exact Bg
   ·have:=BV h0;refine Bc _ (aHU q _ om om k ?_);rw[MA h0 h,hk];simp[he]
theorem aP7:∀(w q s:Nat),s<2^w->s<2^64->(memG q s).length<=w:=by
 intro w q s hw h
 have key:∀(q s b:Nat),s<2^64->s<2^w->(∀i,s.testBit i=true->b<=i)->b<=w->(memG q s).length<=w-b:=by
  intro q
  induction q with
  |zero=>intro s b _ _ _ _;simp[memG]
  |succ q ih=>
   intro s b h hw hb hbw;unfold memG
   split
   ·simp
   ·rename_i h0
    have hc:=aKF h0 h;have h1:=hb _ hc
    have hcw:Lib.ctz 64 s<w:=by
     apply Nat.lt_of_not_le;intro hle;have:=Nat.testBit_lt_two_pow (x:=s) (i:=Lib.ctz 64 s) (Db hw (Nat.pow_le_pow_right dc hle));rw[this]at hc;cases hc
    have hlt:=BV h0
    have:=ih (s&&&(s-1)) (Lib.ctz 64 s+1) om om (fun i hi=>by
     rw[MA h0 h,Aj]at hi;have hne:=of_decide_eq_true hi.2
     have hge:Lib.ctz 64 s<=i:=by
      have hs:=Lib.ctzFrom_spec 64 s om h;have e:Lib.ctz 64 s=Lib.ctzFrom 64 s:=by unfold Lib.ctz;rw[if_neg h0]
      rw[<-e]at hs;obtain⟨m,hm,_⟩:=hs;generalize Lib.ctz 64 s=k at *;apply Nat.le_of_not_lt;intro hlt;have hp:0<2^k:=Nat.two_pow_pos k
      have:s.testBit i=false:=by
       rw[hm,show 2^k*(2*m+1)=2^k*(2*m+1)+0 from rfl,Nat.testBit_two_pow_mul_add _ hp,if_pos hlt];simp
      rw[this]at hi;cases hi.1
     omega) om
    simp only[Ac];omega
 have:=key q s 0 h hw (fun i _=>Cw _) (Cw _);omega
theorem NN{e:Edge}:cK e e=false:=by simp[cK]
theorem EM{e f g:Edge}(h1:cK e f=true)(h2:cK f g=true):cK e g=true:=by
 unfold cK at *
 split at h1<;>split at h2<;>(try split at h1)<;>(try split at h2)<;>simp only[decide_eq_true_eq]at h1 h2<;>(split<;>(try split)<;>simp only[decide_eq_true_eq]<;>omega)
theorem R0{e f:Edge}(h1:cK e f=false)(h2:cK f e=false):e=f:=by
 obtain⟨a,b,c⟩:=e;obtain⟨a',b',c'⟩:=f;simp only[cK]at h1 h2
 have:a=a'/\b=b'/\c=c':=by
  split at h1<;>split at h2<;>(try split at h1)<;>(try split at h2)<;>simp only[decide_eq_false_iff_not]at h1 h2<;>refine⟨?_,?_,?_⟩<;>omega
 obtain⟨rfl,rfl,rfl⟩:=this;rfl
theorem aGd{e f:Edge}(h:cK e f=true):cK f e=false:=by
 cases h2:cK f e with
 |false=>rfl
 |true=>have:=EM h h2;rw[NN]at this;cases this
theorem aRv{e f:Edge}:decide (cmpE e f<0)=cK e f:=by
 have h:=MF (e:=e) (f:=f)
 by_cases h1:0<=cmpE e f
 ·have h2:¬cmpE e f<0:=om;simp only[h1,decide_true]at h;simp only[h2,decide_false]
  cases hb:cK e f<;>simp_all
 ·have h2:cmpE e f<0:=om;simp only[h1,decide_false]at h;simp only[h2,decide_true]
  cases hb:cK e f<;>simp_all
def sL(l:List Edge):Prop:=l.Pairwise fun a b=>cK a b=true
theorem aLl{l:List Edge}(h:∀i,0<i->i<l.length->cK (l.getD (i-1) default) (l.getD i default)=true):sL l:=by
 unfold sL
 induction l with
 |nil=>exact List.Pairwise.nil
 |cons e l ih=>
  have hl:=ih fun i h1 h2=>by
   have:=h (i+1) om (by simp;omega);obtain⟨j,rfl⟩:∃j,i=j+1:=⟨i-1,by omega⟩
   simpa using this
  refine List.Pairwise.cons ?_ hl
  cases l with
  |nil=>intro x hx;cases hx
  |cons f l=>
   have h1:=h 1 om sm;simp only[Cp,List.getD_cons_zero,List.getD_cons_succ]at h1;intro x hx
   rcases Au.1 hx with rfl|hx
   ·exact h1
   ·exact EM h1 ((List.pairwise_cons.1 hl).1 x hx)
theorem UQ{s:Sys}(h:bK s=true):sL s.es:=by
 unfold bK at h;simp only[Aj]at h;have h4:=h.2;rw[Em,jP]at h4;refine aLl fun i h1 h2=> ?_;have:=h4 i om om;unfold kJ at this;simp only[Ei,Bool.and_eq_false_imp,decide_eq_true_eq,Eb]at this;exact this.2 h1
theorem F5{s:Sys}(h:bK s=true){e:Edge}(he:e∈s.es):cD s.al s.st e=true:=by
 unfold bK at h;simp only[Aj]at h;have h4:=h.2;rw[Em,jP]at h4;obtain⟨i,hi⟩:=List.getElem?_of_mem he;have hl:=(At.1 hi).1;have:=h4 i om om;unfold kJ at this;simp only[Ei,Eb]at this;have h5:=this.1;rw[Aa,hi]at h5;exact h5
theorem dK{s:Sys}:bK s=true↔bH s.al=true/\1<=s.st/\s.st<=16/\(∀e∈s.es,cD s.al s.st e=true)/\sL s.es:=by
 constructor
 ·intro h;have h1:=UQ h;have h2:=fun e he=>F5 h (e:=e) he;unfold bK at h;simp only[Aj,decide_eq_true_eq]at h;exact⟨h.1.1.1,h.1.1.2,h.1.2,h2,h1⟩
 ·rintro⟨h1,h2,h3,h4,h5⟩;unfold bK;simp only[h1,h2,h3,decide_true,Bx,Bool.true_and];rw[Em,jP];intro k _ hk;have hk:k<s.es.length:=om;unfold kJ;have e1:s.es.getD k default=s.es[k]:=by rw[Aa,Ae hk];rfl
  rw[e1,h4 _ (Ba hk)];simp only[Bool.not_true,Bool.false_or,Bool.and_eq_false_imp,decide_eq_true_eq,Eb];intro hz;have hk2:k-1<s.es.length:=om;have e2:s.es.getD (k-1) default=s.es[k-1]:=by rw[Aa,Ae hk2];rfl
  rw[e2];exact List.pairwise_iff_getElem.1 h5 (k-1) k hk2 hk om
theorem aMc{l:List Edge}(h:sL l){i j:Nat}(hij:i<j)(hj:j<l.length):cK (l.getD i default) (l.getD j default)=true:=by
 have hi:i<l.length:=om;rw[Aa,Ae hi,Aa,Ae hj];exact List.pairwise_iff_getElem.1 h i j hi hj hij
section
variable{R:Type}{L n:Nat}
def BX(l:List Edge)(b:UInt8)(s:Nat):Nat:=sV (fun k=>mvAt l (k*6+(ltr b).toNat)) s s 0
def saGo(l:List Edge)(w:List UInt8):Nat->Nat->Nat->Nat×Nat
 |0,i,s=>(i,s)
 |j+1,i,s=>if i<w.length/\s≠0 then saGo l w j (i+1) (BX l (w.getD i 0) s)else(i,s)
def pW(t:Sys)(w:List UInt8):Nat:=if bK t&&eZ t.al w then(saGo t.es.reverse w (w.length+1) 0 1).2 else 0
theorem yC{al st:Int}{l:List Edge}(h:bK ⟨al,st,l⟩=true):∀e∈l,0<=e.fr/\e.fr<16/\0<=e.lt/\e.lt<6/\0<=e.to/\e.to<16:=by
 intro e he;have h1:=F5 h he;have h':=h;unfold bK at h';simp only[Aj,decide_eq_true_eq]at h';unfold cD at h1;simp only[Aj,decide_eq_true_eq]at h1;omega
theorem mv16{l:List Edge}(hv:∀e∈l,0<=e.fr/\e.fr<16/\0<=e.lt/\e.lt<6/\0<=e.to/\e.to<16):∀k,mvAt l k<65536:=fun k=>aDD (n:=16) fun e he=>by
 have:=hv e he;omega
theorem LL(hn:2<=n)(l:List Edge)(s:Nat)(c:Int)(hc0:0<=c)(hc6:c<6)(hm16:∀k,mvAt l k<65536)(hs:s<65536)(hL:2^60<=L):aA env L n 186 [.d (.iptr (mvD l)),nI (s:Nat),nI c] []=some (nI (sV (fun k=>mvAt l (k*6+c.toNat)) s s 0:Nat),[]):=by
 have loop_c:=fun {R n k} hn=> @aDj R L n hn l c hc0 hc6 hm16 k s s 0 L hs om (Ad _) om;simp only[Aw]at loop_c;obtain _|n:=n;omega
 simp-implicitDefEqProofs (maxSteps:=9^7) (disch:=try exact Dz) only[↓DN,↓kAsg,UP,simprocAttr,↓loop_c,aC3,M2,Tryz.f186]
theorem aCn:type_of% fun {L} l s c hc0 hc6 hm16 hs hL=>ks fun hn=> @LL L _ hn l s c hc0 hc6 hm16 hs hL:=fun {L} l s c hc0 hc6 hm16 hs hL=>ks fun hn=> @LL L _ hn l s c hc0 hc6 hm16 hs hL
theorem TT(hn:3<=n)(hL:2^60<=L){l:List Edge}(hm16:∀k,mvAt l k<65536){w:List UInt8}(hw:w.length<=50000)(hok:w.all okB=true){k:KE R}:∀(j i s m:Nat) (hi:i+j=w.length+1) (hj:1<=j) (hs:s<65536) (hm:j<m),
  aS env (aA env L n) L 0 [] Bz48 (wT 0) (U1 (Z1 (U2 (Z4 (U16 (U8 (U4 (U1 ([]))))))))) m (Y1 (.d (.str w)::Y2 (nI 0::.d (.iptr (mvD l))::nI s::nI i::Y16 (Y8 (Y4 (Y1 ([]))))))) [] k
  =k (.exit 0) (Y1 (.d (.str w)::Y2 (nI 0::.d (.iptr (mvD l))::nI (((saGo l w j i s).2:Nat):Int)::nI (((saGo l w j i s).1:Nat):Int)::Y16 (Y8 (Y4 (Y1 ([]))))))) []:=by
 intro j
 induction j with
 |zero=>intro i s m hi hj;omega
 |succ j ih=>
  intro i s m hi hj hs hm;obtain _|m:=m;omega
  by_cases h1:i<w.length
  ·have hc:(i:Int)<w.length:=om
   by_cases h2:s=0
   ·subst h2
    simp-implicitDefEqProofs (maxSteps:=9^7) (disch:=try exact Dz) only[↓DN,↓kRet,UP,simprocAttr,hc,oH,mY,Tryz.f164];simp[saGo]
   ·have h2':¬(s:Int)=0:=om;have hb:=aNt (d:=0) hok h1;have hlet:aT (ltr (w.getD i 0))=true:=hb;have hbd:=cU.1 hb;have b0:=hbd.1;have b6:ltr (w.getD i 0)<6:=by have:=hbd.2;omega
    have hst:BX l (w.getD i 0) s<65536:=aAH (w:=16) (fun k=>hm16 _) s s 0 om;have ih':=ih (i+1) (BX l (w.getD i 0) s) m om om hst om;have e4:((i+1:Nat):Int)=(i:Int)+1:=om;rw[e4]at ih';unfold BX at ih';clear ih hst hb hbd
    simp-implicitDefEqProofs (maxSteps:=9^7) (disch:=try exact Dz) only[↓DN,↓kRet,UP,simprocAttr,↓aCn,hc,h2',↓jZ,hlet,↓ih',oH,mY,Tryz.f164];simp only[saGo,h1,h2,ne_eq,not_false_eq_true,and_self,if_true,BX]
  ·have hc:¬(i:Int)<w.length:=om
   simp-implicitDefEqProofs (maxSteps:=9^7) (disch:=try exact Dz) only[↓DN,↓kRet,UP,simprocAttr,hc,oH,mY,Tryz.f164];simp only[saGo,h1,false_and,if_false]
theorem HC(hn:7<=n)(al st:Int)(l:List Edge)(w:List UInt8)(hl:l.length<=4294967296)(hL:2^60<=L):aA env L n 164 [.agg [nI al,nI st,.d (.ivs l.length (aJ l))],.d (.str w)] []=some (nI (pW ⟨al,st,l⟩ w:Nat),[]):=by
 unfold pW
 cases h1:bK ⟨al,st,l⟩with
 |false=>
  obtain _|n:=n;omega
  simp-implicitDefEqProofs (maxSteps:=9^7) (disch:=try exact Dz) only[↓DN,↓kAsg,↓kRet,UP,simprocAttr,↓lB,h1,wE,rE,Tryz.f164]
  try rfl
 |true=>
  cases h2:eZ al w with
  |false=>
   obtain _|n:=n;omega
   simp-implicitDefEqProofs (maxSteps:=9^7) (disch:=try exact Dz) only[↓DN,↓kAsg,↓kRet,UP,simprocAttr,↓lB,↓jY,h1,h2,wE,rE,Tryz.f164]
   try rfl
  |true=>
   have hv:=yC h1;have hv2:∀e∈l.reverse,0<=e.fr/\e.fr<16/\0<=e.lt/\e.lt<6/\0<=e.to/\e.to<16:=fun e he=>hv e (Cq.1 he);have hm16:=mv16 hv2;have hw':=h2;unfold eZ at hw';simp only[Aj,decide_eq_true_eq]at hw'
   have hok:w.all okB=true:=by
    rw[Bh];intro b hb;have:=Bh.1 hw'.2 b hb;unfold inB at this;simp only[Aj]at this;exact this.1
   have hlen:=hw'.1.2;have loop_c:=fun {R n k} hn=> @TT R L n hn hL l.reverse hm16 w hlen hok k (w.length+1) 0 1 L om om om om;simp only[Aw,Int.natCast_one]at loop_c;obtain _|n:=n;omega
   simp-implicitDefEqProofs (maxSteps:=9^7) (disch:=try exact Dz) only[↓DN,↓kAsg,↓kRet,UP,simprocAttr,↓lB,↓jY,h1,h2,↓UD,↓loop_c,wE,rE,Tryz.f164]
theorem aA1:type_of% fun {L} al st l w hl hL=>ks fun hn=> @HC L _ hn al st l w hl hL:=fun {L} al st l w hl hL=>ks fun hn=> @HC L _ hn al st l w hl hL
end
abbrev Mb:Type:=Int×(Int->List Int)
def nxR:List Mb->Int->List Int
 | [],_=>[0]
 |m::ms,v=>mulN (nxR ms (v.tdiv m.1)) m.1 (m.2 (v.tmod m.1))
theorem oP{out ch:List Int}{z x:Int}:x∈mulN out z ch↔∃o∈out,∃c∈ch,x=o*z+c:=by
 unfold mulN;simp only[Du,Bf]
 constructor
 ·rintro⟨o,ho,c,hc,rfl⟩;exact⟨o,ho,c,hc,rfl⟩
 ·rintro⟨o,ho,c,hc,rfl⟩;exact⟨o,ho,c,hc,rfl⟩
def U7:List (Int×List Int)->List Int->List Int
 | [],out=>out
 |p::r,out=>U7 r (mulN out p.1 p.2)
theorem YP{p:Int×List Int}:∀ {a:List (Int×List Int)} {out:List Int},U7 (a++[p]) out=mulN (U7 a out) p.1 p.2
 | [],_=>rfl
 |q::a,out=>YP (a:=a)
theorem aCL{ch:Nat->List Int}{zs:List Int}:∀(j i:Nat) (out:List Int),nexG ch zs j i out=U7 ((List.range' i j).map fun k=>(zs.getD k 0,ch k)) out
 |0,_,_=>rfl
 |j+1,i,out=>by
  rw[nexG,aCL j (i+1),Ea];rfl
def digR(ms:List Mb)(v:Int):List (Int×List Int):=List.zipWith (fun m q=>(m.1,m.2 q)) ms (decR (ms.map (·.1)) v)
theorem aGb:∀(ms:List Mb) (v:Int),nxR ms v=U7 (digR ms v).reverse [0]
 | [],_=>rfl
 |m::ms,v=>by
  have e:digR (m::ms) v=(m.1,m.2 (v.tmod m.1))::digR ms (v.tdiv m.1):=rfl;rw[e,List.reverse_cons,YP,nxR,aGb ms]
theorem aOE{ms:List Mb}{v:Int}:(digR ms.reverse v).reverse=(List.range' 0 ms.length).map fun k=>((ms.map (·.1)).getD k 0,(ms.getD k (0,fun _=>[])).2 ((decN (ms.map (·.1)) v).getD k 0)):=by
 have hl:(decR (ms.map (·.1)).reverse v).length=ms.length:=by rw[PZ];simp
 unfold digR decN;rw[List.map_reverse,List.reverse_zipWith (by simp[hl]),List.reverse_reverse];refine List.ext_getElem (by simp[hl]) fun i h1 h2=> ?_;have hi:i<ms.length:=by simpa using h2
 rw[List.getElem_zipWith,List.getElem_map,List.getElem_range'];simp only[Ag,Nat.one_mul];rw[Aa,Bb,Ae hi,Aa,Ae hi,Aa,Ae (by simp[hl];exact hi)];rfl
theorem aPm{ms:List Mb}{v:Int}{ch:Nat->List Int}(hc:∀k,k<ms.length->ch k=(ms.getD k (0,fun _=>[])).2 ((decN (ms.map (·.1)) v).getD k 0)):nexG ch (ms.map (·.1)) ms.length 0 [0]=nxR ms.reverse v:=by
 rw[aGb,aOE,aCL]
 congr 1
 refine List.map_congr_left fun k hk=> ?_;rw[Cx]at hk;rw[hc k om]
def B2:List Mb->Int->Int->List Int->List Int
 | [],_,_,r=>r
 |m::ms,v,w,r=>B2 ms (v.tdiv m.1) (w*m.1) ((m.2 (v.tmod m.1)).flatMap fun q=>r.map fun x=>q*w+x)
theorem aF6{x:Int}:∀ {ms:List Mb} {v w:Int} {r:List Int},x∈B2 ms v w r↔∃y∈nxR ms v,∃z∈r,x=y*w+z
 | [],v,w,r=>by simp[B2,nxR]
 |m::ms,v,w,r=>by
  rw[B2,aF6 (ms:=ms),nxR];simp only[oP,Du,Bf]
  constructor
  ·rintro⟨y,hy,_,⟨q,hq,z,hz,rfl⟩,rfl⟩;refine⟨_,⟨y,hy,q,hq,rfl⟩,z,hz,?_⟩;rw[Int.add_mul,Int.mul_assoc,Int.mul_comm m.1 w];omega
  ·rintro⟨_,⟨y,hy,q,hq,rfl⟩,z,hz,rfl⟩;refine⟨y,hy,q*w+z,⟨q,hq,z,hz,rfl⟩,?_⟩;rw[Int.add_mul,Int.mul_assoc,Int.mul_comm m.1 w];omega
def pnx(ms:List Mb)(v:Int):List Int:=B2 ms v 1 [0]
theorem aDZ{x v:Int}{ms:List Mb}:x∈pnx ms v↔x∈nxR ms v:=by
 unfold pnx;rw[aF6];simp
def aQP(m m2:Mb):Prop:=m.1=m2.1/\0<m.1/\∀q,0<=q->q<m.1->∀x,x∈m.2 q↔x∈m2.2 q
inductive SameMs:List Mb->List Mb->Prop
 |nil:SameMs [] []
 |cons {m m2:Mb} {ms ms2:List Mb} (h:aQP m m2) (hs:SameMs ms ms2):SameMs (m::ms) (m2::ms2)
theorem j0{v z:Int}(hv:0<=v)(hz:0<z):0<=v.tmod z/\v.tmod z<z:=⟨Int.tmod_nonneg _ hv,Int.tmod_lt_of_pos _ hz⟩
theorem aHE{x:Int}:∀ {ms ms2:List Mb} {v:Int},SameMs ms ms2->0<=v->(x∈nxR ms v↔x∈nxR ms2 v):=by
 intro ms ms2 v h
 induction h generalizing v x with
 |nil=>intro _;exact Iff.rfl
 | @cons m m2 ms ms2 hm hs ih=>
  intro hv;obtain⟨e,hz,hq⟩:=hm;have hr:=j0 hv hz;have hd:0<=v.tdiv m.1:=Cl hv om;unfold nxR;rw[oP,oP,<-e]
  constructor
  ·rintro⟨o,ho,c,hc,rfl⟩;exact⟨o,(ih hd).1 ho,c,(hq _ hr.1 hr.2 c).1 hc,rfl⟩
  ·rintro⟨o,ho,c,hc,rfl⟩;exact⟨o,(ih hd).2 ho,c,(hq _ hr.1 hr.2 c).2 hc,rfl⟩
def totR:List Mb->Int
 | []=>1
 |m::ms=>totR ms*m.1
theorem XQ:∀ {ms:List Mb} {v:Int},(∀m∈ms,0<m.1/\∀q,0<=q->q<m.1->∀x∈m.2 q,0<=x/\x<m.1)->0<=v->∀x∈nxR ms v,0<=x/\x<totR ms
 | [],v,_,_,x,hx=>by
  simp only[nxR,Bi]at hx;subst hx;exact⟨Cb _,by unfold totR;omega⟩
 |m::ms,v,h,hv,x,hx=>by
  obtain⟨hz,hc⟩:=h m Bg;obtain⟨o,ho,c,hc2,rfl⟩:=oP.1 hx;have hr:=j0 hv hz;obtain⟨c0,c1⟩:=hc _ hr.1 hr.2 c hc2;obtain⟨o0,o1⟩:=XQ (fun m hm=>h m (Bc _ hm)) (Cl hv om) o ho;have:=Cd o0 (Int.le_of_lt hz);have h2:(o+1)*m.1<=totR ms*m.1:=Cm om om;rw[Int.add_mul,Int.one_mul]at h2;unfold totR;omega
theorem K0{nx nx2:Int->Int->List Int}{ls:List Int}{I:Int->Prop}(hI:∀v l m,I v->l∈ls->m∈nx v l->I m)(hs:∀v l,I v->l∈ls->∀m,m∈nx v l↔m∈nx2 v l):∀(w:List Int) (v u:Int),I v->(Path nx ls v w u↔Path nx2 ls v w u)
 | [],_,_,_=>Iff.rfl
 |l::w,v,u,hv=>by
  simp only[Path]
  constructor
  ·rintro⟨hl,m,hm,hp⟩;exact⟨hl,m,(hs v l hv hl m).1 hm,(K0 hI hs w m u (hI v l m hv hl hm)).1 hp⟩
  ·rintro⟨hl,m,hm,hp⟩;have hm':=(hs v l hv hl m).2 hm;exact⟨hl,m,hm',(K0 hI hs w m u (hI v l m hv hl hm')).2 hp⟩
theorem aOy{nx nx2:Int->Int->List Int}{ls start:List Int}{gl gl2:Int->Bool}{I:Int->Prop}(hI:∀v l m,I v->l∈ls->m∈nx v l->I m)(hs:∀v l,I v->l∈ls->∀m,m∈nx v l↔m∈nx2 v l)(h0:∀s∈start,I s)(hg:∀v,I v->gl v=gl2 v)(hP:∀w v u,I v->Path nx ls v w u->I u)(w:List Int):Hits nx ls start gl w↔Hits nx2 ls start gl2 w:=by
 unfold Hits vI
 constructor
 ·rintro⟨u,⟨s,hs1,hp⟩,hu⟩;exact⟨u,⟨s,hs1,(K0 hI hs w s u (h0 s hs1)).1 hp⟩,by rw[<-hg u (hP w s u (h0 s hs1) hp)];exact hu⟩
 ·rintro⟨u,⟨s,hs1,hp⟩,hu⟩;have hp':=(K0 hI hs w s u (h0 s hs1)).2 hp;exact⟨u,⟨s,hs1,hp'⟩,by rw[hg u (hP w s u (h0 s hs1) hp')];exact hu⟩
theorem aK3{nx:Int->Int->List Int}{ls:List Int}{I:Int->Prop}(hI:∀v l m,I v->l∈ls->m∈nx v l->I m):∀(w:List Int) (v u:Int),I v->Path nx ls v w u->I u
 | [],v,u,hv,hp=>by simp only[Path]at hp;exact hp▸hv
 |l::w,v,u,hv,hp=>by
  simp only[Path]at hp;obtain⟨hl,m,hm,hp⟩:=hp;exact aK3 hI w m u (hI v l m hv hl hm) hp
def choI(s:Sys)(l q:Int):List Int:=if bG s.al l=true then memG (mvAt s.es.reverse (q.toNat*6+l.toNat)) (mvAt s.es.reverse (q.toNat*6+l.toNat))else [q]
def choS(s:Sys)(l q:Int):List Int:=if bG s.al l=true then eV s.es q l else [q]
def sysI(l:Int)(s:Sys):Mb:=(s.st,choI s l)
def sysS(l:Int)(s:Sys):Mb:=(s.st,choS s l)
theorem aJm{l:List Edge}{k j:Nat}:(mvAt l.reverse k).testBit j=true↔∃e∈l,e.fr.toNat*6+e.lt.toNat=k/\e.to.toNat=j:=by
 rw[aAs];simp only[Cq]
theorem G9{s:Sys}(h:bK s=true)(k:Nat):mvAt s.es.reverse k<2^16:=
 aDD fun e he=>by have:=yC (al:=s.al) (st:=s.st) h e (Cq.1 he);omega
theorem aK9{s:Sys}(h:bK s=true){l q:Int}(hl:0<=l/\l<6)(hq:0<=q)(x:Int):x∈choI s l q↔x∈choS s l q:=by
 unfold choI choS
 by_cases hb:bG s.al l=true
 ·rw[if_pos hb,if_pos hb];have hm:=G9 h (q.toNat*6+l.toNat);unfold eV;simp only[Bf,Cz,Aj,decide_eq_true_eq]
  constructor
  ·intro hx;obtain⟨x0,hx⟩:=aIe _ _ om x hx;obtain⟨e,he,e1,e2⟩:=aJm.1 hx;have:=yC (al:=s.al) (st:=s.st) h e he;exact⟨e,⟨he,by omega,by omega⟩,by omega⟩
  ·rintro⟨e,⟨he,rfl,rfl⟩,rfl⟩;have:=yC (al:=s.al) (st:=s.st) h e he;have hb:=aHU (mvAt s.es.reverse (e.fr.toNat*6+e.lt.toNat)) _ om (Ad _) e.to.toNat (aJm.2 ⟨e,he,rfl,rfl⟩);rw[Cn this.2.2.2.2.1]at hb;exact hb
 ·rw[if_neg hb,if_neg hb]
theorem wB{s:Sys}(h:bK s=true){l q:Int}(hq:0<=q/\q<s.st):∀x∈choS s l q,0<=x/\x<s.st:=by
 intro x hx;unfold choS at hx
 split at hx
 ·unfold eV at hx;obtain⟨e,he,rfl⟩:=Bf.1 hx;have:=F5 h (Cz.1 he).1;unfold cD at this;simp only[Aj,decide_eq_true_eq]at this;omega
 ·simp only[Bi]at hx;omega
theorem aP4{s:Sys}(h:bK s=true){l:Int}(hl:0<=l/\l<6):aQP (sysI l s) (sysS l s):=⟨rfl,by have:=(dK.1 h).2.1;show 0<s.st;omega,fun _ hq _ x=>aK9 h hl hq x⟩
theorem aDM{R:Type}{L n:Nat}(hn:1<=n){k:KE R}:∀(q s m:Nat) (o:List Int) (len:Nat) (hs:s<65536) (hq:s<=q) (hm:q<m) (hlen:len=o.length) (ho:o.length+q<=70000),
  aS env (aA env L n) L 0 [0,0,0,2] Bz72 (GY 0) (Z1 (U1 (Z2 (U8 (U4 (U1 ([]))))))) m (nI s::Y1 (.d .nils::.sl 0 0 0 len::Y8 (Y4 (Y1 ([]))))) [.arr (ints o) 1 0] k
  =k (.exit 0) (nI 0::Y1 (.d .nils::.sl 0 0 0 (o++memG q s).length::Y8 (Y4 (Y1 ([]))))) [.arr (ints (o++memG q s)) 1 0]:=by
 intro q
 induction q with
 |zero=>
  intro s m o len hs hq hm hlen ho;obtain _|m:=m;omega;obtain rfl:s=0:=om;subst hlen
  simp-implicitDefEqProofs (maxSteps:=9^7) (disch:=try exact Dz) only[↓DN,↓kRet,UP,simprocAttr,v8,vG,Tryz.f180];simp only[memG,Ah,Ab,Bm]
 |succ q ih=>
  intro s m o len hs hq hm hlen ho;obtain _|m:=m;omega;subst hlen
  by_cases h0:s=0
  ·subst h0
   simp-implicitDefEqProofs (maxSteps:=9^7) (disch:=try exact Dz) only[↓DN,↓kRet,UP,simprocAttr,v8,vG,Tryz.f180];simp only[memG,if_true,Ah,Ab,Bm]
  ·have h0':¬(s:Int)=0:=om;have hct:=aIj h0 hs;have e1:IntKind.u64.wrap (s:Int)=(s:Int):=aG9 om om;have e4:iAnd .i64 (s:Int) ((s-1:Nat):Int)=((s&&&(s-1):Nat):Int):=aIg om om
   have e5:IntKind.i64.wrap ((s:Int)-1)=((s-1:Nat):Int):=by
    have e3:(s:Int)-1=((s-1:Nat):Int):=om;rw[<-e3];exact dM om om
   have l1:=Nat.and_le_right (n:=s) (m:=s-1);have ih':=ih (s&&&(s-1)) m (o++[((Lib.ctz 64 s:Nat):Int)]) (o.length+1) om om om sm (by simp;omega);clear ih l1 hct
   simp-implicitDefEqProofs (maxSteps:=9^7) (disch:=try exact Dz) only[↓DN,↓kRet,UP,simprocAttr,h0',e1,e4,e5,↓pJ,↓NF,↓ih',v8,vG,Tryz.f180];simp only[memG,h0,if_false,Ao,As,Am,Ac];rw[show o.length+1+(memG q (s&&&(s-1))).length=o.length+((memG q (s&&&(s-1))).length+1) by omega]
theorem VI{L n:Nat}(hn:2<=n)(s:Nat)(hs:s<65536)(hL:2^60<=L):aA env L n 180 [nI (s:Nat)] []=some (.d (.ivs (memG s s).length (ints (memG s s))),[]):=by
 have loop_c:=fun {R n k} hn=> @aDM R L n hn k s s L [] 0 hs (Ad _) om rfl (by simp;omega);simp only[Am,gY]at loop_c;obtain _|n:=n;omega
 simp-implicitDefEqProofs (maxSteps:=9^7) (disch:=try exact Dz) only[↓DN,↓kAsg,UP,simprocAttr,↓loop_c,aIn,ZW,Tryz.f180]
theorem aHI:type_of% fun {L} s hs hL=>ks fun hn=> @VI L _ hn s hs hL:=fun {L} s hs hL=>ks fun hn=> @VI L _ hn s hs hL
section
variable{R:Type}{L n:Nat}
def cW(P:List Sys):Prop:=P.length<=4294967296/\∀s∈P,s.es.length<=4294967296
def bQ(P:List Sys):Bool:=decide (1<=P.length)&&decide (P.length<=3)&&P.all bK
theorem XT{P:List Sys}(h:cW P){i:Nat}(hi:i<P.length):(P.getD i default).es.length<=4294967296:=by
 rw[Aa,Ae hi];exact h.2 _ (Ba hi)
theorem tG{l:List Sys}{k:Nat}(h:k<l.length):(((sysD l).drop (k*3)).map A.d).take 3=[.d (.int .i64 (l.getD k default).al),.d (.int .i64 (l.getD k default).st),.d (.ivs (l.getD k default).es.length (aJ (l.getD k default).es))]:=by
 rw[xP,bP h (d:=default)];rfl
def vV(P:List Sys)(i:Nat):Bool:=!bK (P.getD i default)
theorem WE{P:List Sys}:(seek (vV P) P.length 0).isNone=P.all bK:=by
 rw[Bool.eq_iff_iff,Em,jP,Bh]
 constructor
 ·intro h s hs;obtain⟨i,hi,rfl⟩:=Dk hs;have:=h i om om;unfold vV at this;rw[Aa,Ae hi]at this
  simpa using this
 ·intro h i _ hi;have hi:i<P.length:=om;unfold vV;rw[Aa,Ae hi];simp[h _ (Ba hi)]
theorem G6(hn:7<=n)(s:Sys)(hl:s.es.length<=4294967296)(hL:2^60<=L):aA env L n 129 [.agg [nI s.al,nI s.st,.d (.ivs s.es.length (aJ s.es))]] []=some (.d (.bool (!bK s)),[]):=by
 obtain _|n:=n;omega
 simp-implicitDefEqProofs (maxSteps:=9^7) (disch:=try exact Dz) only[↓DN,↓kAsg,↓kRet,UP,simprocAttr,↓lB,aAr,K4,Tryz.f129]
theorem aAT:type_of% fun {L} s hl hL=>ks fun hn=> @G6 L _ hn s hl hL:=fun {L} s hl hL=>ks fun hn=> @G6 L _ hn s hl hL
theorem pC(hn:8<=n)(hL:2^60<=L){P:List Sys}(hP:cW P){k:KE R}:∀(j i m:Nat) (hi:i+j=P.length) (hm:j<m),
  aS env (aA env L n) L 0 [] Bz65 (eO 0) (Z2 (U2 (Z1 (U2 (Z2 (U8 (U2 ([])))))))) m (.d (.ivs P.length (sysD P))::.d (.fn 129 [])::Y2 (nI 0::Y2 (nI (P.length)::nI i::Y8 (Y2 ([]))))) [] k
  =match seek (vV P) j i with
   |none=>k (.exit 0) (.d (.ivs P.length (sysD P))::.d (.fn 129 [])::Y2 (nI 0::Y2 (nI (P.length)::nI (P.length)::Y8 (Y2 ([]))))) []
   |some q=>k .ret (.d (.ivs P.length (sysD P))::.d (.fn 129 [])::Y2 (nI q::Y2 (nI (P.length)::nI q::Y8 (Y2 ([]))))) []:=by
 have hP1:=hP.1;intro j
 induction j with
 |zero=>
  intro i m hi hm;obtain _|m:=m;omega;obtain rfl:i=P.length:=om
  simp-implicitDefEqProofs (maxSteps:=9^7) (disch:=try exact Dz) only[↓DN,↓kRet,UP,simprocAttr,Ak,dY,dA,Tryz.f193]<;>rfl
 |succ j ih=>
  intro i m hi hm;obtain _|m:=m;omega;have hk:i<P.length:=om;have hc:(i:Int)<P.length:=om;have hi0:(0:Int)<=i:=om;have hs:=XT hP hk;have g:=tG hk;have kc_a:=@aAT L (P.getD i default) hs hL;have hno:vV P i= !bK (P.getD i default):=rfl
  cases hz:bK (P.getD i default)with
  |false=>
   rw[hz]at hno kc_a;rw[i7 hno];clear ih hP;generalize P.getD i default=s at *
   simp-implicitDefEqProofs (maxSteps:=9^7) (disch:=try exact Dz) only[↓DN,↓kRet,UP,simprocAttr,NE,Ar,Bj,hc,hi0,g,↓kc_a,dY,dA,Tryz.f193]
  |true=>
   rw[hz]at hno kc_a;rw[lC hno];have ih':=ih (i+1) m om om;rw[cs1 i]at ih';clear ih hP;generalize P.getD i default=s at *
   simp-implicitDefEqProofs (maxSteps:=9^7) (disch:=try exact Dz) only[↓DN,↓kRet,UP,simprocAttr,NE,Ar,Bj,hc,hi0,g,↓kc_a,↓ih',dY,dA,Tryz.f193]
def aHa(P:List Sys):Int:=match seek (vV P) P.length 0 with
 |none=> -1
 |some q=>(q:Int)
theorem jE(hn:9<=n)(P:List Sys)(hP:cW P)(hL:2^60<=L):aA env L n 193 [.d (.ivs P.length (sysD P)),.d (.fn 129 [])] []=some (nI (aHa P),[]):=by
 have hP1:=hP.1;have loop_a:=fun {R n k} hn=> @pC R L n hn hL P hP k P.length 0 L om om;simp only[Aw]at loop_a;unfold aHa
 cases hs:seek (vV P) P.length 0 with
 |none=>
  simp only[hs]at loop_a;obtain _|n:=n;omega
  simp-implicitDefEqProofs (maxSteps:=9^7) (disch:=try exact Dz) only[↓DN,↓kAsg,↓kRet,UP,simprocAttr,↓loop_a,jG,fB,Tryz.f193]
 |some q=>
  simp only[hs]at loop_a;obtain _|n:=n;omega
  simp-implicitDefEqProofs (maxSteps:=9^7) (disch:=try exact Dz) only[↓DN,↓kAsg,↓kRet,UP,simprocAttr,↓loop_a,jG,fB,Tryz.f193]
theorem rH:type_of% fun {L} P hP hL=>ks fun hn=> @jE L _ hn P hP hL:=fun {L} P hP hL=>ks fun hn=> @jE L _ hn P hP hL
theorem cY(hn:10<=n)(P:List Sys)(hP:cW P)(hL:2^60<=L):aA env L n 128 [.d (.ivs P.length (sysD P)),.d (.fn 129 [])] []=some (.d (.bool (!P.all bK)),[]):=by
 have hP1:=hP.1;have kc_x:=@rH L P hP hL;rw[<-WE];unfold aHa at kc_x
 cases hs:seek (vV P) P.length 0 with
 |none=>
  simp only[hs]at kc_x;have h0:¬(0:Int)<= -1:=om;obtain _|n:=n;omega
  simp-implicitDefEqProofs (maxSteps:=9^7) (disch:=try exact Dz) only[↓DN,↓kAsg,↓kRet,UP,simprocAttr,↓kc_x,h0,hJ,eC,Tryz.f128]
 |some q=>
  simp only[hs]at kc_x;have h0:(0:Int)<=q:=om;obtain _|n:=n;omega
  simp-implicitDefEqProofs (maxSteps:=9^7) (disch:=try exact Dz) only[↓DN,↓kAsg,↓kRet,UP,simprocAttr,↓kc_x,h0,hJ,eC,Tryz.f128]
theorem oM:type_of% fun {L} P hP hL=>ks fun hn=> @cY L _ hn P hP hL:=fun {L} P hP hL=>ks fun hn=> @cY L _ hn P hP hL
theorem oT:type_of% fun {L} P hP hL=>kt fun hn=> @cY L _ hn P hP hL:=fun {L} P hP hL=>kt fun hn=> @cY L _ hn P hP hL
theorem RN(hn:11<=n)(P:List Sys)(hP:cW P)(hL:2^60<=L):aA env L n 62 [.d (.ivs P.length (sysD P))] []=some (.d (.bool (bQ P)),[]):=by
 have hP1:=hP.1;have kc_x:=@oM L P hP hL;have kl_x:=@oT L P hP hL;have kv_l:=fun {R:Type} {n:Nat} {hq:H} {args:List A} {k:KA R}=>fI (E:=env) (call:=aA env L n) (h:=hq) (k:=k) (args:=args) dU;unfold bQ
 by_cases h1:1<=P.length
 ·have h1':(1:Int)<=P.length:=om;rw[decide_eq_true h1]
  by_cases h3:P.length<=3
  ·have h3':(P.length:Int)<=3:=om;rw[decide_eq_true h3];generalize P.all bK=b at *;obtain _|n:=n;omega
   simp-implicitDefEqProofs (maxSteps:=9^7) (disch:=try exact Dz) only[↓DN,↓kAsg,↓kRet,UP,simprocAttr,↓kv_l,↓kl_x,h1',h3',Bool.not_not,EC,yE,Tryz.f62]
  ·have h3':¬(P.length:Int)<=3:=om;rw[decide_eq_false h3];obtain _|n:=n;omega
   simp-implicitDefEqProofs (maxSteps:=9^7) (disch:=try exact Dz) only[↓DN,↓kAsg,↓kRet,UP,simprocAttr,h1',h3',EC,yE,Tryz.f62]
 ·have h1':¬(1:Int)<=P.length:=om;rw[decide_eq_false h1];obtain _|n:=n;omega
  simp-implicitDefEqProofs (maxSteps:=9^7) (disch:=try exact Dz) only[↓DN,↓kAsg,↓kRet,UP,simprocAttr,h1',EC,yE,Tryz.f62]
theorem lO:type_of% fun {L} P hP hL=>ks fun hn=> @RN L _ hn P hP hL:=fun {L} P hP hL=>ks fun hn=> @RN L _ hn P hP hL
end
section
variable{R:Type}{L n:Nat}
def mvsD(P:List Sys):List D:=P.map fun s=>.iptr (mvD s.es.reverse)
theorem aPP:mvsD []=[]:=rfl
theorem HG{P:List Sys}:(mvsD P).length=P.length:=Ar _
theorem aIf{P:List Sys}{k:Nat}(h:P.length<=k):(mvsD P).take k=mvsD P:=Ca (by rw[HG];exact h)
theorem aH1{P:List Sys}{s:Sys}:mvsD P++[.iptr (mvD s.es.reverse)]=mvsD (P++[s]):=by simp[mvsD]
theorem aPI{P:List Sys}{k:Nat}(h:k<P.length):(((mvsD P).drop k).map A.d).head? =some (.d (.iptr (mvD (P.getD k default).es.reverse))):=by
 rw[List.head?_map,Dc,mvsD,Bb,Aa,Ae h];rfl
theorem dH{P:List Sys}(h:bQ P=true):P.length<=3/\1<=P.length/\∀s∈P,bK s=true:=by
 unfold bQ at h;simp only[Aj,decide_eq_true_eq,Bh]at h;exact⟨h.1.2,h.1.1,h.2⟩
theorem HE{P:List Sys}{i:Nat}(hi:i<P.length):P.getD i default∈P:=by
 rw[Aa,Ae hi];exact Ba hi
def cI(P:List Sys):Int:=P.foldl (fun z s=>z*s.st) 1
theorem aDm(hn:3<=n)(hL:2^60<=L){P:List Sys}(hP:cW P)(h3:P.length<=3)(hv:∀s∈P,bK s=true){k:KE R}:∀(j i m:Nat) (Q:List Sys) (len e:Nat) (hi:i+j=P.length) (hm:j<m) (hQ:Q=P.take i) (hlen:i=len) (he:e=if i=0 then 0 else 1),
  aS env (aA env L n) L 0 [] Bz64 (D5 0) (U2 (Z2 (U4 (Z2 (Z1 (U8 (U4 ([])))))))) m (Y2 (.ptr 0 0 0::.ptr 1 0 0::Y4 (.d (.ivs P.length (sysD P))::nI (P.length)::nI i::Y8 (Y4 ([]))))) [.box [.sl 2 0 0 0,.sl 3 0 0 0],.box [.d (.ivs P.length (sysD P)),.sl 4 0 0 len],.arr [] 0 0,.arr [] 0 0,.arr (mvsD Q) e 0] k
  =k (.exit 0) (Y2 (.ptr 0 0 0::.ptr 1 0 0::Y4 (.d (.ivs P.length (sysD P))::nI (P.length)::nI (P.length)::Y8 (Y4 ([]))))) [.box [.sl 2 0 0 0,.sl 3 0 0 0],.box [.d (.ivs P.length (sysD P)),.sl 4 0 0 P.length],.arr [] 0 0,.arr [] 0 0,.arr (mvsD P) (if P.length=0 then 0 else 1) 0]:=by
 intro j
 induction j with
 |zero=>
  intro i m Q len e hi hm hQ hlen he;obtain _|m:=m;omega;obtain rfl:i=P.length:=om;rw[Cs]at hQ;subst hQ;subst hlen;subst he
  simp-implicitDefEqProofs (maxSteps:=9^7) (disch:=try exact Dz) only[↓DN,↓kRet,UP,simprocAttr,Ak,t8,sN,Tryz.f148]
 |succ j ih=>
  intro i m Q len e hi hm hQ hlen he;obtain _|m:=m;omega;subst hlen;have hk:i<P.length:=om;have hc:(i:Int)<P.length:=om;have hi0:(0:Int)<=i:=om;have hs:=XT hP hk;have g:=tG hk;have hQl:Q.length=i:=by rw[hQ,Cv];omega
  have ih':=ih (i+1) m (Q++[P.getD i default]) (i+1) 1 om om (by rw[hQ,Dt,Aa,Ae hk];rfl) rfl (by rw[if_neg om]);rw[cs1 i]at ih';have ht:(mvsD Q).take i=mvsD Q:=aIf om;have kc_m:=@UD L (P.getD i default).al (P.getD i default).st (P.getD i default).es hs (yC (al:=(P.getD i default).al) (st:=(P.getD i default).st) (hv _ (HE hk))) hL;clear ih hQ hv hP;generalize P.getD i default=s at *
  by_cases hz:i=0
  ·obtain rfl:e=0:=by rw[he,if_pos hz]
   clear he hz
   simp-implicitDefEqProofs (maxSteps:=9^7) (disch:=try exact Dz) only[↓DN,↓kRet,UP,simprocAttr,NE,Ar,Bj,hc,hi0,g,↓kc_m,ht,HG,aH1,↓ih',t8,sN,Tryz.f148]
  ·obtain rfl:e=1:=by rw[he,if_neg hz]
   clear he hz
   simp-implicitDefEqProofs (maxSteps:=9^7) (disch:=try exact Dz) only[↓DN,↓kRet,UP,simprocAttr,NE,Ar,Bj,hc,hi0,g,↓kc_m,ht,HG,aH1,↓ih',t8,sN,Tryz.f148]
theorem RP(hn:4<=n)(P:List Sys)(hP:cW P)(hv:bQ P=true)(hL:2^60<=L):aA env L n 148 [.d (.ivs P.length (sysD P))] []=some (.agg [.d (.ivs P.length (sysD P)),.d (.ivs P.length (mvsD P))],[]):=by
 obtain⟨h3,h1,hs⟩:=dH hv;have loop_a:=fun {R n k} hn=> @aDm R L n hn hL P hP h3 hs k P.length 0 L [] 0 0 om om rfl rfl rfl;simp only[Aw,aPP,if_neg (show ¬P.length=0 by omega)]at loop_a;have ht:(mvsD P).take P.length=mvsD P:=aIf (Ad _);clear hv hs hP;obtain _|n:=n;omega
 simp-implicitDefEqProofs (maxSteps:=9^7) (disch:=try exact Dz) only[↓DN,↓kRet,UP,simprocAttr,↓loop_a,ht,HG,Ad,aGz,U9,Tryz.f148]
theorem aGe:type_of% fun {L} P hP hv hL=>ks fun hn=> @RP L _ hn P hP hv hL:=fun {L} P hP hv hL=>ks fun hn=> @RP L _ hn P hP hv hL
theorem X6(hn:1<=n){P:List Sys}(h3:P.length<=3)(hv:∀s∈P,bK s=true){k:KE R}:∀(j i m:Nat) (z:Int) (hi:i+j=P.length) (hm:j<m) (hz0:0<=z) (hz:z<=16^i),
  aS env (aA env L n) L 0 [] Bz54 (yA 0) (U2 (Z2 (U2 (U1 (Z2 (Z1 (U8 (U1 ([]))))))))) m (Y2 (nI 0::nI z::Y2 (Y1 (.d (.ivs P.length (sysD P))::nI (P.length)::nI i::Y8 (Y1 ([])))))) [] k
  =k (.exit 0) (Y2 (nI 0::nI ((P.drop i).foldl (fun z s=>z*s.st) z)::Y2 (Y1 (.d (.ivs P.length (sysD P))::nI (P.length)::nI (P.length)::Y8 (Y1 ([])))))) []:=by
 intro j
 induction j with
 |zero=>
  intro i m z hi hm hz0 hz;obtain _|m:=m;omega;obtain rfl:i=P.length:=om;rw[Bl]
  simp-implicitDefEqProofs (maxSteps:=9^7) (disch:=try exact Dz) only[↓DN,↓kRet,UP,simprocAttr,Ak,AE,vY,Tryz.f153]<;>rfl
 |succ j ih=>
  intro i m z hi hm hz0 hz;obtain _|m:=m;omega;have hk:i<P.length:=om;have hc:(i:Int)<P.length:=om;have hi0:(0:Int)<=i:=om;have g:=tG hk;obtain⟨_,s1,s2,_,_⟩:=dK.1 (hv _ (HE hk))
  have hp:(16:Int)^i<=16^3:=by
   rcases(show i=0\/i=1\/i=2 by omega)with rfl|rfl|rfl<;>decide
  have hz2:z*(P.getD i default).st<=z*16:=Dn s2 hz0;have hz3:0<=z*(P.getD i default).st:=Cd hz0 om;have e1:(16:Int)^(i+1)=16^i*16:=Int.pow_succ ..;have hw:IntKind.i64.wrap (z*(P.getD i default).st)=z*(P.getD i default).st:=dM om om;have ih':=ih (i+1) m (z*(P.getD i default).st) om om hz3 om;rw[cs1 i]at ih';rw[bP hk (d:=default),Co];clear ih hv e1 hp;generalize P.drop (i+1)=w at *;generalize P.getD i default=s at *
  simp-implicitDefEqProofs (maxSteps:=9^7) (disch:=try exact Dz) only[↓DN,↓kRet,UP,simprocAttr,NE,Ar,Bj,hc,hi0,g,hw,↓ih',AE,vY,Tryz.f153]
theorem JO(hn:2<=n)(P:List Sys)(hv:bQ P=true)(hL:2^60<=L):aA env L n 153 [.agg [.d (.ivs P.length (sysD P)),.d (.ivs P.length (mvsD P))]] []=some (nI (cI P),[]):=by
 obtain⟨h3,h1,hs⟩:=dH hv;have loop_a:=fun {R n k} hn=> @X6 R L n hn P h3 hs k P.length 0 L 1 om om om sm;rw[Ax]at loop_a;simp only[Aw]at loop_a;unfold cI;clear hv hs;obtain _|n:=n;omega
 simp-implicitDefEqProofs (maxSteps:=9^7) (disch:=try exact Dz) only[↓DN,↓kAsg,↓kRet,UP,simprocAttr,↓loop_a,aC5,NZ,Tryz.f153]
theorem aB9:type_of% fun {L} P hv hL=>ks fun hn=> @JO L _ hn P hv hL:=fun {L} P hv hL=>ks fun hn=> @JO L _ hn P hv hL
end
section
variable{R:Type}{L n:Nat}
abbrev eI(l:List Int):Nat:=1
theorem aND{v:Int}:ints [v]=[.int .i64 v]:=rfl
theorem aN7(hn:1<=n){P:List Sys}{s:Sys}{o r ts:List Int}{e:Nat}{v l w i q:Int}{p:Nat}(hP:P.length<=3)(hr:r.length<=4096)(he:e=eI r)(hts:ts.length<=16)(hw:0<=w/\w<=4096)(hq:0<=q/\q<16)(hx:∀x∈r,0<=x/\x<4096){k:KE R}:∀(j y m:Nat) (mr:List Int) (len e2:Nat) (hy:y+j=r.length) (hm:j<m) (hlen:mr.length=len) (he2:e2=eI mr) (hmr:mr.length+j<=1000000),
  aS env (aA env L n) L 1 (W8 (W4 (W2 [2]))) Bz0 (eM 2) Bz9 m (Y1 (nI v::nI l::.sl 0 0 0 o.length::.ptr 1 0 0::Y2 (Y1 (.d .nils::.sl 2 0 0 r.length::nI w::nI i::.ptr 3 0 0::Y1 (.sl 4 0 0 len::Y1 (nI q::Y32 (Y8 (.d (.ivs ts.length (ints ts))::nI (ts.length)::nI p::Y2 (Y1 (.sl 2 0 0 r.length::nI (r.length)::nI y::Y16 (Y8 (Y1 ([]))))))))))))) [.arr (ints o) 1 0,.box [.d (.ivs P.length (sysD P)),.d (.ivs P.length (mvsD P))],.arr (ints r) e 0,.box [nI s.al,nI s.st,.d (.ivs s.es.length (aJ s.es))],.arr (ints (mr)) e2 0] k
  =k (.exit 4) (Y1 (nI v::nI l::.sl 0 0 0 o.length::.ptr 1 0 0::Y2 (Y1 (.d .nils::.sl 2 0 0 r.length::nI w::nI i::.ptr 3 0 0::Y1 (.sl 4 0 0 (mr++(r.drop y).map fun x=>q*w+x).length::Y1 (nI q::Y32 (Y8 (.d (.ivs ts.length (ints ts))::nI (ts.length)::nI p::Y2 (Y1 (.sl 2 0 0 r.length::nI (r.length)::nI (r.length)::Y16 (Y8 (Y1 ([]))))))))))))) [.arr (ints o) 1 0,.box [.d (.ivs P.length (sysD P)),.d (.ivs P.length (mvsD P))],.arr (ints r) e 0,.box [nI s.al,nI s.st,.d (.ivs s.es.length (aJ s.es))],.arr (ints (mr++(r.drop y).map fun x=>q*w+x)) (eI (mr++(r.drop y).map fun x=>q*w+x)) 0]:=by
 intro j
 induction j with
 |zero=>
  intro y m mr len e2 hy hm hlen he2 hmr;obtain _|m:=m;omega;obtain rfl:y=r.length:=om;subst hlen;subst he2;rw[Bl];simp only[Al,Ah]
  simp-implicitDefEqProofs (maxSteps:=9^7) (disch:=try exact Dz) only[↓DN,↓kRet,UP,simprocAttr,Ak,lI,lE,Tryz.f150]
 |succ j ih=>
  intro y m mr len e2 hy hm hlen he2 hmr;obtain _|m:=m;omega;subst hlen;have hk:y<r.length:=om;have hc:(y:Int)<r.length:=om;have hy0:(0:Int)<=y:=om;obtain rfl:e=1:=he;obtain⟨x0,x1⟩:=hx _ (fO hk);have m0:0<=q*w:=Cd hq.1 hw.1;have m1:q*w<=16*w:=Cm om hw.1;have w1:IntKind.i64.wrap (q*w)=q*w:=dM om om;have w2:IntKind.i64.wrap (q*w+r.getD y 0)=q*w+r.getD y 0:=dM om om;have ih':=ih (y+1) m (mr++[q*w+r.getD y 0]) (mr.length+1) 1 om om sm rfl (by simp;omega);rw[cs1 y]at ih';rw[bP hk (d:=0),Af];simp only[Ao,En]at ih';have hml:mr.length<=1000000:=om;clear ih hx;generalize hz:r.getD y 0=z at *;generalize(r.drop (y+1)).map (fun x=>q*w+x)=u at *;obtain rfl:e2=1:=he2
  simp-implicitDefEqProofs (maxSteps:=9^7) (disch:=try exact Dz) only[↓DN,↓kRet,UP,simprocAttr,hc,hy0,hz,w1,w2,↓ih',lI,lE,Tryz.f150]
theorem aMK(hn:2<=n)(hL:2^60<=L){P:List Sys}{s:Sys}{o r ts:List Int}{e:Nat}{v l w i:Int}(hP:P.length<=3)(hr:r.length<=4096)(he:e=eI r)(hts:ts.length<=16)(hw:0<=w/\w<=4096)(hq:∀q∈ts,0<=q/\q<16)(hx:∀x∈r,0<=x/\x<4096){k:KE R}:∀(j p m:Nat) (mr:List Int) (len e2:Nat) (hp:p+j=ts.length) (hm:j<m) (hlen:mr.length=len) (he2:e2=eI mr) (hmr:mr.length+j*4096<=1000000),
  aS env (aA env L n) L 1 (W8 (W4 (W2 [2]))) Bz0 (eM 1) Bz13 m (Y1 (nI v::nI l::.sl 0 0 0 o.length::.ptr 1 0 0::Y2 (Y1 (.d .nils::.sl 2 0 0 r.length::nI w::nI i::.ptr 3 0 0::Y1 (.sl 4 0 0 len::Y32 (Y8 (Y2 (.d (.ivs ts.length (ints ts))::nI (ts.length)::nI p::Y16 (Y8 (Y4 (Y2 (Y1 ([]))))))))))))) [.arr (ints o) 1 0,.box [.d (.ivs P.length (sysD P)),.d (.ivs P.length (mvsD P))],.arr (ints r) e 0,.box [nI s.al,nI s.st,.d (.ivs s.es.length (aJ s.es))],.arr (ints (mr)) e2 0] k
  =k (.exit 2) (Y1 (nI v::nI l::.sl 0 0 0 o.length::.ptr 1 0 0::Y2 (Y1 (.d .nils::.sl 2 0 0 r.length::nI w::nI i::.ptr 3 0 0::Y1 (.sl 4 0 0 (mr++(ts.drop p).flatMap fun q=>r.map fun x=>q*w+x).length::Y32 (Y8 (Y2 (.d (.ivs ts.length (ints ts))::nI (ts.length)::nI (ts.length)::Y16 (Y8 (Y4 (Y2 (Y1 ([]))))))))))))) [.arr (ints o) 1 0,.box [.d (.ivs P.length (sysD P)),.d (.ivs P.length (mvsD P))],.arr (ints r) e 0,.box [nI s.al,nI s.st,.d (.ivs s.es.length (aJ s.es))],.arr (ints (mr++(ts.drop p).flatMap fun q=>r.map fun x=>q*w+x)) (eI (mr++(ts.drop p).flatMap fun q=>r.map fun x=>q*w+x)) 0]:=by
 intro j
 induction j with
 |zero=>
  intro p m mr len e2 hp hm hlen he2 hmr;obtain _|m:=m;omega;obtain rfl:p=ts.length:=om;subst hlen;subst he2;rw[Bl];simp only[List.flatMap_nil,Ah]
  simp-implicitDefEqProofs (maxSteps:=9^7) (disch:=try exact Dz) only[↓DN,↓kRet,UP,simprocAttr,Ak,lH,kZ,Tryz.f150]
 |succ j ih=>
  intro p m mr len e2 hp hm hlen he2 hmr;obtain _|m:=m;omega;subst hlen;have hk:p<ts.length:=om;have hc:(p:Int)<ts.length:=om;have hp0:(0:Int)<=p:=om;have hqp:=hq _ (fO hk);have loop_c:=fun {R:Type} {n:Nat} (hn:1<=n) {k:KE R}=> @aN7 R L n hn P s o r ts e v l w i (ts.getD p 0) p hP hr he hts hw hqp hx k r.length 0 L mr mr.length e2 om om rfl he2 om;rw[Ax]at loop_c;simp only[Aw]at loop_c;have ih':=ih (p+1) m (mr++r.map fun x=>ts.getD p 0*w+x) (mr.length+(r.map fun x=>ts.getD p 0*w+x).length) _ om om Ai rfl (by rw[Ai,Ar];omega);rw[cs1 p]at ih';rw[bP hk (d:=0),List.flatMap_cons];simp only[Ao]at ih';clear ih hx hq;generalize hz:ts.getD p 0=z at *;generalize(ts.drop (p+1)).flatMap (fun q=>r.map fun x=>q*w+x)=u at *
  simp-implicitDefEqProofs (maxSteps:=9^7) (disch:=try exact Dz) only[↓DN,↓kRet,UP,simprocAttr,hc,hp0,hz,↓loop_c,↓ih',lH,kZ,Tryz.f150]
theorem aOk(hn:1<=n){P:List Sys}{s:Sys}{o r ts:List Int}{e:Nat}{v l w i q:Int}{p:Nat}(hP:P.length<=3)(hr:r.length<=4096)(he:e=eI r)(hts:ts.length<=16)(hw:0<=w/\w<=4096)(hq:0<=q/\q<16)(hx:∀x∈r,0<=x/\x<4096){k:KE R}:∀(j y m:Nat) (mr:List Int) (len e2:Nat) (hy:y+j=r.length) (hm:j<m) (hlen:mr.length=len) (he2:e2=eI mr) (hmr:mr.length+j<=1000000),
  aS env (aA env L n) L 1 (W8 (W4 (W2 [2]))) Bz0 (eM 2) Bz9 m (Y1 (nI v::nI l::.sl 0 0 0 o.length::.ptr 1 0 0::Y2 (Y1 (.d .nils::.sl 2 0 0 r.length::nI w::nI i::.ptr 3 0 0::Y1 (.sl 4 0 0 len::Y1 (nI q::Y32 (Y8 (.sl 5 0 0 ts.length::nI (ts.length)::nI p::Y2 (Y1 (.sl 2 0 0 r.length::nI (r.length)::nI y::Y16 (Y8 (Y1 ([]))))))))))))) [.arr (ints o) 1 0,.box [.d (.ivs P.length (sysD P)),.d (.ivs P.length (mvsD P))],.arr (ints r) e 0,.box [nI s.al,nI s.st,.d (.ivs s.es.length (aJ s.es))],.arr (ints (mr)) e2 0,.arr (ints ts) 1 0] k
  =k (.exit 4) (Y1 (nI v::nI l::.sl 0 0 0 o.length::.ptr 1 0 0::Y2 (Y1 (.d .nils::.sl 2 0 0 r.length::nI w::nI i::.ptr 3 0 0::Y1 (.sl 4 0 0 (mr++(r.drop y).map fun x=>q*w+x).length::Y1 (nI q::Y32 (Y8 (.sl 5 0 0 ts.length::nI (ts.length)::nI p::Y2 (Y1 (.sl 2 0 0 r.length::nI (r.length)::nI (r.length)::Y16 (Y8 (Y1 ([]))))))))))))) [.arr (ints o) 1 0,.box [.d (.ivs P.length (sysD P)),.d (.ivs P.length (mvsD P))],.arr (ints r) e 0,.box [nI s.al,nI s.st,.d (.ivs s.es.length (aJ s.es))],.arr (ints (mr++(r.drop y).map fun x=>q*w+x)) (eI (mr++(r.drop y).map fun x=>q*w+x)) 0,.arr (ints ts) 1 0]:=by
 intro j
 induction j with
 |zero=>
  intro y m mr len e2 hy hm hlen he2 hmr;obtain _|m:=m;omega;obtain rfl:y=r.length:=om;subst hlen;subst he2;rw[Bl];simp only[Al,Ah]
  simp-implicitDefEqProofs (maxSteps:=9^7) (disch:=try exact Dz) only[↓DN,↓kRet,UP,simprocAttr,Ak,lI,lE,Tryz.f150]
 |succ j ih=>
  intro y m mr len e2 hy hm hlen he2 hmr;obtain _|m:=m;omega;subst hlen;have hk:y<r.length:=om;have hc:(y:Int)<r.length:=om;have hy0:(0:Int)<=y:=om;obtain rfl:e=1:=he;obtain⟨x0,x1⟩:=hx _ (fO hk);have m0:0<=q*w:=Cd hq.1 hw.1;have m1:q*w<=16*w:=Cm om hw.1;have w1:IntKind.i64.wrap (q*w)=q*w:=dM om om;have w2:IntKind.i64.wrap (q*w+r.getD y 0)=q*w+r.getD y 0:=dM om om;have ih':=ih (y+1) m (mr++[q*w+r.getD y 0]) (mr.length+1) 1 om om sm rfl (by simp;omega);rw[cs1 y]at ih';rw[bP hk (d:=0),Af];simp only[Ao,En]at ih';have hml:mr.length<=1000000:=om;clear ih hx;generalize hz:r.getD y 0=z at *;generalize(r.drop (y+1)).map (fun x=>q*w+x)=u at *;obtain rfl:e2=1:=he2
  simp-implicitDefEqProofs (maxSteps:=9^7) (disch:=try exact Dz) only[↓DN,↓kRet,UP,simprocAttr,hc,hy0,hz,w1,w2,↓ih',lI,lE,Tryz.f150]
theorem aMG(hn:2<=n)(hL:2^60<=L){P:List Sys}{s:Sys}{o r ts:List Int}{e:Nat}{v l w i:Int}(hP:P.length<=3)(hr:r.length<=4096)(he:e=eI r)(hts:ts.length<=16)(hw:0<=w/\w<=4096)(hq:∀q∈ts,0<=q/\q<16)(hx:∀x∈r,0<=x/\x<4096){k:KE R}:∀(j p m:Nat) (mr:List Int) (len e2:Nat) (hp:p+j=ts.length) (hm:j<m) (hlen:mr.length=len) (he2:e2=eI mr) (hmr:mr.length+j*4096<=1000000),
  aS env (aA env L n) L 1 (W8 (W4 (W2 [2]))) Bz0 (eM 1) Bz13 m (Y1 (nI v::nI l::.sl 0 0 0 o.length::.ptr 1 0 0::Y2 (Y1 (.d .nils::.sl 2 0 0 r.length::nI w::nI i::.ptr 3 0 0::Y1 (.sl 4 0 0 len::Y32 (Y8 (Y2 (.sl 5 0 0 ts.length::nI (ts.length)::nI p::Y16 (Y8 (Y4 (Y2 (Y1 ([]))))))))))))) [.arr (ints o) 1 0,.box [.d (.ivs P.length (sysD P)),.d (.ivs P.length (mvsD P))],.arr (ints r) e 0,.box [nI s.al,nI s.st,.d (.ivs s.es.length (aJ s.es))],.arr (ints (mr)) e2 0,.arr (ints ts) 1 0] k
  =k (.exit 2) (Y1 (nI v::nI l::.sl 0 0 0 o.length::.ptr 1 0 0::Y2 (Y1 (.d .nils::.sl 2 0 0 r.length::nI w::nI i::.ptr 3 0 0::Y1 (.sl 4 0 0 (mr++(ts.drop p).flatMap fun q=>r.map fun x=>q*w+x).length::Y32 (Y8 (Y2 (.sl 5 0 0 ts.length::nI (ts.length)::nI (ts.length)::Y16 (Y8 (Y4 (Y2 (Y1 ([]))))))))))))) [.arr (ints o) 1 0,.box [.d (.ivs P.length (sysD P)),.d (.ivs P.length (mvsD P))],.arr (ints r) e 0,.box [nI s.al,nI s.st,.d (.ivs s.es.length (aJ s.es))],.arr (ints (mr++(ts.drop p).flatMap fun q=>r.map fun x=>q*w+x)) (eI (mr++(ts.drop p).flatMap fun q=>r.map fun x=>q*w+x)) 0,.arr (ints ts) 1 0]:=by
 intro j
 induction j with
 |zero=>
  intro p m mr len e2 hp hm hlen he2 hmr;obtain _|m:=m;omega;obtain rfl:p=ts.length:=om;subst hlen;subst he2;rw[Bl];simp only[List.flatMap_nil,Ah]
  simp-implicitDefEqProofs (maxSteps:=9^7) (disch:=try exact Dz) only[↓DN,↓kRet,UP,simprocAttr,Ak,lH,kZ,Tryz.f150]
 |succ j ih=>
  intro p m mr len e2 hp hm hlen he2 hmr;obtain _|m:=m;omega;subst hlen;have hk:p<ts.length:=om;have hc:(p:Int)<ts.length:=om;have hp0:(0:Int)<=p:=om;have hqp:=hq _ (fO hk);have loop_c:=fun {R:Type} {n:Nat} (hn:1<=n) {k:KE R}=> @aOk R L n hn P s o r ts e v l w i (ts.getD p 0) p hP hr he hts hw hqp hx k r.length 0 L mr mr.length e2 om om rfl he2 om;rw[Ax]at loop_c;simp only[Aw]at loop_c;have ih':=ih (p+1) m (mr++r.map fun x=>ts.getD p 0*w+x) (mr.length+(r.map fun x=>ts.getD p 0*w+x).length) _ om om Ai rfl (by rw[Ai,Ar];omega);rw[cs1 p]at ih';rw[bP hk (d:=0),List.flatMap_cons];simp only[Ao]at ih';clear ih hx hq;generalize hz:ts.getD p 0=z at *;generalize(ts.drop (p+1)).flatMap (fun q=>r.map fun x=>q*w+x)=u at *
  simp-implicitDefEqProofs (maxSteps:=9^7) (disch:=try exact Dz) only[↓DN,↓kRet,UP,simprocAttr,hc,hp0,hz,↓loop_c,↓ih',lH,kZ,Tryz.f150]
end
end Ev
end Go.Proofs.YtahbdkmimmnadaaGreatDoor
