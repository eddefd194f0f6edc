/-
  Valid automata; where a letter leads: the functions of the program and of the reference, at data.
-/
import Derived.Test.YtppffbehejpglaaGreatShSf
import Derived.Test.YtppffbehejpglaaGreatSafe
set_option linter.unusedSimpArgs false
set_option linter.unusedVariables false
set_option linter.unusedSectionVars false
set_option maxRecDepth 8000
set_option maxHeartbeats 4000000
namespace Go.Proofs.YtppffbehejpglaaGreat
namespace Ev
section
variable{R:Type}{L n:Nat}
def badQ(n:Int)(r:List Int)(i:Nat):Bool:=!(decide (0<=r.getD i 0)&&decide (r.getD i 0<n))
def C4(w n:Int)(r:List Int):Bool:=!decide ((r.length:Int)=w)||(seek (badQ n r) r.length 0).isSome
def fP(w n:Int)(rs:List (List Int))(i:Nat):Bool:=C4 w n (rs.getD i [])
def bX(al:Int)(rs:List (List Int))(ac:List Bool):Bool:=
 cQ al&&decide ((1:Int)<=rs.length)&&decide ((rs.length:Int)<=12)&&decide ((ac.length:Int)=rs.length)&&(seek (fP (aB al).length rs.length rs) rs.length 0).isNone
theorem aJu{w n:Int}{r:List Int}(h:¬(r.length:Int)=w):C4 w n r=true:=by
 unfold C4;rw[decide_eq_false h];rfl
theorem QK{w n:Int}{r:List Int}(h:(r.length:Int)=w):C4 w n r=(seek (badQ n r) r.length 0).isSome:=by
 unfold C4;rw[decide_eq_true h];rfl
theorem MR{n:Int}{r:List Int}{i:Nat}:badQ n r i=true↔¬(0<=r.getD i 0/\r.getD i 0<n):=by
 unfold badQ;simp only[Dl,Bool.and_eq_false_iff,decide_eq_false_iff_not];omega
theorem zN{n:Int}{r:List Int}{i:Nat}:badQ n r i=false↔(0<=r.getD i 0/\r.getD i 0<n):=by
 unfold badQ;simp only[Bool.not_eq_false',As,decide_eq_true_eq]
theorem aJW{R:Type}{L nn:Nat}(hn:1<=nn){n:Int}{r:List Int}(hl:r.length<=4294967296){k:KE R}:∀(j:Nat) (i:Int) (m:Nat) (h0:0<=i) (hi:i+j=r.length) (hm:j<m),
  aR env (aA env L nn) L 0 [] Bz34 (RP 0) (Z1 (U1 (Z1 (U2 (U1 (Z2 (U16 (U4 (U2 (U1 ([]))))))))))) m (.d (.ivs r.length (ints r))::Y1 (nI n::Y2 (Y1 (.d (.bool false)::nI i::Y16 (Y4 (Y2 (Y1 ([])))))))) [] k
  =match seek (badQ n r) j i.toNat with
   |none=>k (.exit 0) (.d (.ivs r.length (ints r))::Y1 (nI n::Y2 (Y1 (.d (.bool false)::nI (r.length)::Y16 (Y4 (Y2 (Y1 ([])))))))) []
   |some q=>k .ret (.d (.ivs r.length (ints r))::Y1 (nI n::Y2 (Y1 (.d (.bool false)::nI q::Y16 (Y4 (Y2 (Y1 ([])))))))) []:=by
 intro j
 induction j with
 |zero=>
  intro i m h0 hi hm;obtain _|m:=m;omega;obtain rfl:i=r.length:=om
  simp-implicitDefEqProofs (maxSteps:=9^7) (disch:=try exact Dz) only[↓DN,↓kRet,UP,simprocAttr,Ah,tV,vA,Tryz.f67]<;>rfl
 |succ j ih=>
  intro i m h0 hi hm;obtain _|m:=m;omega;have hc:i<r.length:=om;have hk:i.toNat<r.length:=om;have e1:(i+1).toNat=i.toNat+1:=om;have e3:((i.toNat:Nat):Int)=i:=om
  by_cases h1:r.getD i.toNat 0<0
  ·have hb:badQ n r i.toNat=true:=by rw[MR];omega
   rw[fB hb]
   simp-implicitDefEqProofs (maxSteps:=9^7) (disch:=try exact Dz) only[↓DN,↓kAsg,↓kRet,UP,simprocAttr,hc,h1,e3,tV,vA,Tryz.f67]
  ·by_cases h2:n<=r.getD i.toNat 0
   ·have hb:badQ n r i.toNat=true:=by rw[MR];omega
    rw[fB hb]
    simp-implicitDefEqProofs (maxSteps:=9^7) (disch:=try exact Dz) only[↓DN,↓kAsg,↓kRet,UP,simprocAttr,hc,h1,h2,e3,tV,vA,Tryz.f67]
   ·have hb:badQ n r i.toNat=false:=by rw[zN];omega
    rw[iY hb]
    simp-implicitDefEqProofs (maxSteps:=9^7) (disch:=try exact Dz) only[↓DN,↓kRet,UP,simprocAttr,hc,h1,h2,↓ih,e1,tV,vA,Tryz.f67]
theorem aEy(hn:2<=n)(r:List Int)(w q:Int)(hl:r.length<=4294967296)(hL:2^60<=L):aA env L n 67 [.d (.ivs r.length (ints r)),nI w,nI q] []=some (.d (.bool (!C4 w q r)),[]):=by
 unfold C4
 by_cases h1:(r.length:Int)=w
 ·have loop_a:=fun {R:Type} {n:Nat} (hn:1<=n) {k:KE R}=>aJW (R:=R) (L:=L) (nn:=n) hn (n:=q) hl (k:=k) r.length 0 L om om om;simp only[Cy]at loop_a
  cases hs:seek (badQ q r) r.length 0 with
  |none=>
   rw[hs]at loop_a;obtain _|n:=n;omega
   simp-implicitDefEqProofs (maxSteps:=9^7) (disch:=try exact Dz) only[↓DN,↓kAsg,↓kRet,UP,simprocAttr,h1,↓loop_a,QT,KX,Tryz.f67]
  |some z=>
   rw[hs]at loop_a;obtain _|n:=n;omega
   simp-implicitDefEqProofs (maxSteps:=9^7) (disch:=try exact Dz) only[↓DN,↓kAsg,↓kRet,UP,simprocAttr,h1,↓loop_a,QT,KX,Tryz.f67]
 ·obtain _|n:=n;omega
  simp-implicitDefEqProofs (maxSteps:=9^7) (disch:=try exact Dz) only[↓DN,↓kAsg,↓kRet,UP,simprocAttr,h1,QT,KX,Tryz.f67]
theorem aEw:type_of% fun {L} r w q hl hL=>ks fun hn=> @aEy L _ hn r w q hl hL:=fun {L} r w q hl hL=>ks fun hn=> @aEy L _ hn r w q hl hL
theorem PI(hL:2^60<=L)(hn:3<=n){al:Int}{rs:List (List Int)}{ac:List Bool}(hs:aY rs){k:KE R}:∀(j:Nat) (i:Int) (m:Nat) (h0:0<=i) (hi:i+j=rs.length) (hm:j<m),
  aR env (aA env L n) L 0 [] Bz58 (qP 0) (U1 (Z4 (U32 (U4 (U2 (U1 ([]))))))) m (Y1 (.ptr 0 0 0::.d (.bool false)::nI (rs.length)::nI i::Y32 (Y4 (Y2 (Y1 ([])))))) [.box [nI al,.d (.ivs rs.length (aG rs)),.d (.ivs ac.length (aD ac))]] k
  =match seek (fP (aB al).length rs.length rs) j i.toNat with
   |none=>k (.exit 0) (Y1 (.ptr 0 0 0::.d (.bool false)::nI (rs.length)::nI (rs.length)::Y32 (Y4 (Y2 (Y1 ([])))))) [.box [nI al,.d (.ivs rs.length (aG rs)),.d (.ivs ac.length (aD ac))]]
   |some q=>k .ret (Y1 (.ptr 0 0 0::.d (.bool false)::nI (rs.length)::nI q::Y32 (Y4 (Y2 (Y1 ([])))))) [.box [nI al,.d (.ivs rs.length (aG rs)),.d (.ivs ac.length (aD ac))]]:=by
 intro j;have hrl:=hs.1;have hll:=bQ al
 induction j with
 |zero=>
  intro i m h0 hi hm;obtain _|m:=m;omega;obtain rfl:i=rs.length:=om
  simp-implicitDefEqProofs (maxSteps:=9^7) (disch:=try exact Dz) only[↓DN,↓kRet,UP,simprocAttr,Ah,lM,j7,Tryz.f38]<;>rfl
 |succ j ih=>
  intro i m h0 hi hm;obtain _|m:=m;omega;have hc:i<rs.length:=om;have hk:i.toNat<rs.length:=om;have hrow:=mO hs hk;have e1:(i+1).toNat=i.toNat+1:=om;have e3:((i.toNat:Nat):Int)=i:=om
  cases hb:fP (aB al).length rs.length rs i.toNat with
  |true=>
   rw[fB hb];unfold fP at hb
   simp-implicitDefEqProofs (maxSteps:=9^7) (disch:=try exact Dz) only[↓DN,↓kAsg,↓kRet,UP,simprocAttr,↓fV,↓aEw,LA,hc,hb,e3,lM,j7,Tryz.f38]
  |false=>
   rw[iY hb];unfold fP at hb
   simp-implicitDefEqProofs (maxSteps:=9^7) (disch:=try exact Dz) only[↓DN,↓kRet,UP,simprocAttr,↓fV,↓aEw,LA,hc,hb,↓ih,e1,lM,j7,Tryz.f38]
theorem AJ(hn:4<=n)(al:Int)(rs:List (List Int))(ac:List Bool)(hs:aY rs)(ha:ac.length<=4294967296)(hL:2^60<=L):aA env L n 38 [.agg [nI al,.d (.ivs rs.length (aG rs)),.d (.ivs ac.length (aD ac))]] []=some (.d (.bool (bX al rs ac)),[]):=by
 have hrl:=hs.1;have loop_a:=fun {R:Type} {n:Nat} (hn:3<=n) {k:KE R}=>PI (R:=R) (L:=L) hL hn (al:=al) (ac:=ac) hs (k:=k) rs.length 0 L om om om;simp only[Cy]at loop_a;unfold bX
 cases hq:cQ al with
 |false=>
  obtain _|n:=n;omega
  simp-implicitDefEqProofs (maxSteps:=9^7) (disch:=try exact Dz) only[↓DN,↓kAsg,↓kRet,UP,simprocAttr,↓gO,hq,fH,eL,Tryz.f38]
 |true=>
  by_cases h1:(1:Int)<=rs.length
  ·have n1:¬(rs.length:Int)<1:=om
   by_cases h2:(rs.length:Int)<=12
   ·have n2:¬(12:Int)<rs.length:=om
    by_cases h3:(ac.length:Int)=rs.length
    ·cases hk:seek (fP (aB al).length rs.length rs) rs.length 0 with
     |none=>
      rw[hk]at loop_a;obtain _|n:=n;omega
      simp-implicitDefEqProofs (maxSteps:=9^7) (disch:=try exact Dz) only[↓DN,↓kAsg,↓kRet,UP,simprocAttr,↓gO,hq,h1,n1,h2,n2,h3,↓loop_a,fH,eL,Tryz.f38]
     |some z=>
      rw[hk]at loop_a;obtain _|n:=n;omega
      simp-implicitDefEqProofs (maxSteps:=9^7) (disch:=try exact Dz) only[↓DN,↓kAsg,↓kRet,UP,simprocAttr,↓gO,hq,h1,n1,h2,n2,h3,↓loop_a,fH,eL,Tryz.f38]
    ·obtain _|n:=n;omega
     simp-implicitDefEqProofs (maxSteps:=9^7) (disch:=try exact Dz) only[↓DN,↓kAsg,↓kRet,UP,simprocAttr,↓gO,hq,h1,n1,h2,n2,h3,fH,eL,Tryz.f38]
   ·have n2:(12:Int)<rs.length:=om;obtain _|n:=n;omega
    simp-implicitDefEqProofs (maxSteps:=9^7) (disch:=try exact Dz) only[↓DN,↓kAsg,↓kRet,UP,simprocAttr,↓gO,hq,h1,n1,h2,n2,fH,eL,Tryz.f38]
  ·have n1:(rs.length:Int)<1:=om;obtain _|n:=n;omega
   simp-implicitDefEqProofs (maxSteps:=9^7) (disch:=try exact Dz) only[↓DN,↓kAsg,↓kRet,UP,simprocAttr,↓gO,hq,h1,n1,fH,eL,Tryz.f38]
theorem a8:type_of% fun {L} al rs ac hs ha hL=>ks fun hn=> @AJ L _ hn al rs ac hs ha hL:=fun {L} al rs ac hs ha hL=>ks fun hn=> @AJ L _ hn al rs ac hs ha hL
theorem J4(hL:2^60<=L)(hn:3<=n){al q w:Int}{rs:List (List Int)}{ac:List Bool}(hs:aY rs){r:List Int}(hr:r.length<=4294967296){k:KE R}:∀(j:Nat) (i:Int) (m:Nat) (h0:0<=i) (hi:i+j=r.length) (hm:j<m),
  aR env (aA env L n) L 0 [] Bz7 (iQ 1) (U1 (Z2 (Z1 (U32 (U2 (Z2 (Z1 (U4 (U2 (U1 (Z2 (Z1 (U8 (U4 (U2 ([])))))))))))))))) m (Y1 (.ptr 0 0 0::.d (.bool false)::nI w::Y32 (Y2 (.d (.ivs rs.length (aG rs))::nI (rs.length)::nI q::Y4 (Y2 (Y1 (.d (.ivs r.length (ints r))::nI (r.length)::nI i::Y8 (Y4 (Y2 ([])))))))))) [.box [nI al,.d (.ivs rs.length (aG rs)),.d (.ivs ac.length (aD ac))]] k
  =match seek (badQ rs.length r) j i.toNat with
   |none=>k (.exit 2) (Y1 (.ptr 0 0 0::.d (.bool false)::nI w::Y32 (Y2 (.d (.ivs rs.length (aG rs))::nI (rs.length)::nI q::Y4 (Y2 (Y1 (.d (.ivs r.length (ints r))::nI (r.length)::nI (r.length)::Y8 (Y4 (Y2 ([])))))))))) [.box [nI al,.d (.ivs rs.length (aG rs)),.d (.ivs ac.length (aD ac))]]
   |some z=>k .ret (Y1 (.ptr 0 0 0::.d (.bool false)::nI w::Y32 (Y2 (.d (.ivs rs.length (aG rs))::nI (rs.length)::nI q::Y4 (Y2 (Y1 (.d (.ivs r.length (ints r))::nI (r.length)::nI z::Y8 (Y4 (Y2 ([])))))))))) [.box [nI al,.d (.ivs rs.length (aG rs)),.d (.ivs ac.length (aD ac))]]:=by
 intro j;have hrl:=hs.1
 induction j with
 |zero=>
  intro i m h0 hi hm;obtain _|m:=m;omega;obtain rfl:i=r.length:=om
  simp-implicitDefEqProofs (maxSteps:=9^7) (disch:=try exact Dz) only[↓DN,↓kRet,UP,simprocAttr,Ah,iN,hY,Tryz.f21]<;>rfl
 |succ j ih=>
  intro i m h0 hi hm;obtain _|m:=m;omega;have hc:i<r.length:=om;have hk:i.toNat<r.length:=om;have e1:(i+1).toNat=i.toNat+1:=om;have e3:((i.toNat:Nat):Int)=i:=om
  by_cases h1:r.getD i.toNat 0<0
  ·have hb:badQ rs.length r i.toNat=true:=by rw[MR];omega
   rw[fB hb]
   simp-implicitDefEqProofs (maxSteps:=9^7) (disch:=try exact Dz) only[↓DN,↓kAsg,↓kRet,UP,simprocAttr,hc,h1,e3,iN,hY,Tryz.f21]
  ·by_cases h2:(rs.length:Int)<=r.getD i.toNat 0
   ·have hb:badQ rs.length r i.toNat=true:=by rw[MR];omega
    rw[fB hb]
    simp-implicitDefEqProofs (maxSteps:=9^7) (disch:=try exact Dz) only[↓DN,↓kAsg,↓kRet,UP,simprocAttr,hc,h1,h2,e3,iN,hY,Tryz.f21]
   ·have hb:badQ rs.length r i.toNat=false:=by rw[zN];omega
    rw[iY hb]
    simp-implicitDefEqProofs (maxSteps:=9^7) (disch:=try exact Dz) only[↓DN,↓kRet,UP,simprocAttr,hc,h1,h2,↓ih,e1,iN,hY,Tryz.f21]
theorem J3(hL:2^60<=L)(hn:3<=n){al:Int}{rs:List (List Int)}{ac:List Bool}(hs:aY rs){k:KE R}:∀(j:Nat) (i:Int) (m:Nat) (h0:0<=i) (hi:i+j=rs.length) (hm:j<m),
  aR env (aA env L n) L 0 [] Bz7 (iQ 0) (U1 (Z2 (Z1 (U32 (U2 (Z2 (Z1 (U16 (U8 ([])))))))))) m (Y1 (.ptr 0 0 0::.d (.bool false)::nI ((aB al).length)::Y32 (Y2 (.d (.ivs rs.length (aG rs))::nI (rs.length)::nI i::Y16 (Y8 ([])))))) [.box [nI al,.d (.ivs rs.length (aG rs)),.d (.ivs ac.length (aD ac))]] k
  =match seek (fP (aB al).length rs.length rs) j i.toNat with
   |none=>k (.exit 0) (Y1 (.ptr 0 0 0::.d (.bool false)::nI ((aB al).length)::Y32 (Y2 (.d (.ivs rs.length (aG rs))::nI (rs.length)::nI (rs.length)::Y16 (Y8 ([])))))) [.box [nI al,.d (.ivs rs.length (aG rs)),.d (.ivs ac.length (aD ac))]]
   |some q=>k .ret (Y1 (.ptr 0 0 0::.d (.bool false)::nI ((aB al).length)::Y32 (Y2 (.d (.ivs rs.length (aG rs))::nI (rs.length)::nI q::Y16 (Y8 ([])))))) [.box [nI al,.d (.ivs rs.length (aG rs)),.d (.ivs ac.length (aD ac))]]:=by
 intro j;have hrl:=hs.1;have hll:=bQ al
 induction j with
 |zero=>
  intro i m h0 hi hm;obtain _|m:=m;omega;obtain rfl:i=rs.length:=om
  simp-implicitDefEqProofs (maxSteps:=9^7) (disch:=try exact Dz) only[↓DN,↓kRet,UP,simprocAttr,Ah,iO,gI,Tryz.f21]<;>rfl
 |succ j ih=>
  intro i m h0 hi hm;obtain _|m:=m;omega;have hc:i<rs.length:=om;have hk:i.toNat<rs.length:=om;have hrow:=mO hs hk;have e1:(i+1).toNat=i.toNat+1:=om;have e3:((i.toNat:Nat):Int)=i:=om;have loop_a:=fun {R:Type} {k:KE R}=>J4 (R:=R) (n:=n) (L:=L) hL hn (al:=al) (q:=i) (w:=(aB al).length) (ac:=ac) hs hrow (k:=k) (rs.getD i.toNat []).length 0 L om om om;simp only[Cy]at loop_a
  cases hb:fP (aB al).length rs.length rs i.toNat with
  |true=>
   rw[fB hb];unfold fP at hb
   by_cases hw:((rs.getD i.toNat []).length:Int)=(aB al).length
   ·have hwd:decide (((rs.getD i.toNat []).length:Int)=(aB al).length)=true:=decide_eq_true hw
    cases hz:seek (badQ rs.length (rs.getD i.toNat [])) (rs.getD i.toNat []).length 0 with
    |none=>rw[QK hw,hz]at hb;cases hb
    |some z=>
     rw[hz]at loop_a;clear ih hb
     simp-implicitDefEqProofs (maxSteps:=9^7) (disch:=try exact Dz) only[↓DN,↓kRet,UP,simprocAttr,LA,hc,hwd,↓loop_a,e3,iO,gI,Tryz.f21]
   ·clear ih hb loop_a
    simp-implicitDefEqProofs (maxSteps:=9^7) (disch:=try exact Dz) only[↓DN,↓kAsg,↓kRet,UP,simprocAttr,LA,hc,hw,e3,iO,gI,Tryz.f21]
  |false=>
   rw[iY hb];unfold fP at hb
   by_cases hw:((rs.getD i.toNat []).length:Int)=(aB al).length
   ·have hwd:decide (((rs.getD i.toNat []).length:Int)=(aB al).length)=true:=decide_eq_true hw
    cases hz:seek (badQ rs.length (rs.getD i.toNat [])) (rs.getD i.toNat []).length 0 with
    |none=>
     rw[hz]at loop_a;clear hb
     simp-implicitDefEqProofs (maxSteps:=9^7) (disch:=try exact Dz) only[↓DN,↓kRet,UP,simprocAttr,LA,hc,hwd,↓loop_a,↓ih,e1,iO,gI,Tryz.f21]
    |some z=>rw[QK hw,hz]at hb;cases hb
   ·rw[aJu hw]at hb;cases hb
theorem AU(hn:4<=n)(al:Int)(rs:List (List Int))(ac:List Bool)(hs:aY rs)(ha:ac.length<=4294967296)(hL:2^60<=L):aA env L n 21 [.agg [nI al,.d (.ivs rs.length (aG rs)),.d (.ivs ac.length (aD ac))]] []=some (.d (.bool (bX al rs ac)),[]):=by
 have hrl:=hs.1;have hll:=bQ al;have loop_a:=fun {R:Type} {n:Nat} (hn:3<=n) {k:KE R}=>J3 (R:=R) (L:=L) hL hn (al:=al) (ac:=ac) hs (k:=k) rs.length 0 L om om om;simp only[Cy]at loop_a;unfold bX
 cases hq:cQ al with
 |false=>
  obtain _|n:=n;omega
  simp-implicitDefEqProofs (maxSteps:=9^7) (disch:=try exact Dz) only[↓DN,↓kAsg,↓kRet,UP,simprocAttr,↓dT,hq,fJ,eN,Tryz.f21]
 |true=>
  by_cases h1:(1:Int)<=rs.length
  ·have n1:¬(rs.length:Int)<1:=om
   by_cases h2:(rs.length:Int)<=12
   ·have n2:¬(12:Int)<rs.length:=om
    by_cases h3:(ac.length:Int)=rs.length
    ·cases hk:seek (fP (aB al).length rs.length rs) rs.length 0 with
     |none=>
      rw[hk]at loop_a;obtain _|n:=n;omega
      simp-implicitDefEqProofs (maxSteps:=9^7) (disch:=try exact Dz) only[↓DN,↓kAsg,↓kRet,UP,simprocAttr,↓dT,↓kS,hq,h1,n1,h2,n2,h3,↓loop_a,fJ,eN,Tryz.f21]
     |some z=>
      rw[hk]at loop_a;obtain _|n:=n;omega
      simp-implicitDefEqProofs (maxSteps:=9^7) (disch:=try exact Dz) only[↓DN,↓kAsg,↓kRet,UP,simprocAttr,↓dT,↓kS,hq,h1,n1,h2,n2,h3,↓loop_a,fJ,eN,Tryz.f21]
    ·obtain _|n:=n;omega
     simp-implicitDefEqProofs (maxSteps:=9^7) (disch:=try exact Dz) only[↓DN,↓kAsg,↓kRet,UP,simprocAttr,↓dT,hq,h1,n1,h2,n2,h3,fJ,eN,Tryz.f21]
   ·have n2:(12:Int)<rs.length:=om;obtain _|n:=n;omega
    simp-implicitDefEqProofs (maxSteps:=9^7) (disch:=try exact Dz) only[↓DN,↓kAsg,↓kRet,UP,simprocAttr,↓dT,hq,h1,n1,h2,n2,fJ,eN,Tryz.f21]
  ·have n1:(rs.length:Int)<1:=om;obtain _|n:=n;omega
   simp-implicitDefEqProofs (maxSteps:=9^7) (disch:=try exact Dz) only[↓DN,↓kAsg,↓kRet,UP,simprocAttr,↓dT,hq,h1,n1,fJ,eN,Tryz.f21]
theorem bA:type_of% fun {L} al rs ac hs ha hL=>ks fun hn=> @AU L _ hn al rs ac hs ha hL:=fun {L} al rs ac hs ha hL=>ks fun hn=> @AU L _ hn al rs ac hs ha hL
end
section
variable{R:Type}{L n:Nat}
def gK(a l:Int):Nat:=((aB a).filter fun m=>decide (m<l)).length
def goI(al:Int)(rs:List (List Int))(q l:Int):Int:=if cO al l=true then(rs.getD q.toNat []).getD (gK al l) 0 else q
theorem six{l:Int}(h0:0<=l)(h1:l<6):l=0\/l=1\/l=2\/l=3\/l=4\/l=5:=om
theorem xS{a l:Int}(h0:0<=l)(h1:l<6)(hb:cO a l=true):gK a l<(aB a).length/\(aB a)[gK a l]? =some l:=by
 unfold gK aB;generalize cO a=p at *
 rcases six h0 h1 with rfl|rfl|rfl|rfl|rfl|rfl<;>
  cases h0':p 0<;>cases h1':p 1<;>cases h2':p 2<;>cases h3':p 3<;>cases h4':p 4<;>cases h5':p 5<;>simp_all [List.filter]
theorem jB{a l:Int}:l∈aB a↔(0<=l/\l<6)/\cO a l=true:=by
 unfold aB;rw[List.mem_filter]
 constructor
 ·rintro⟨h1,h2⟩;simp at h1;exact⟨by omega,h2⟩
 ·rintro⟨h1,h2⟩;refine⟨?_,h2⟩
  rcases six h1.1 h1.2 with rfl|rfl|rfl|rfl|rfl|rfl<;>simp
theorem RT(a:Int):(aB a).Nodup:=by
 unfold aB;exact List.Nodup.sublist List.filter_sublist dc
def vZ(q:Nat):Nat->Nat->List Int->List Int
 |0,_,t=>t
 |j+1,i,t=>vZ q j (i+1) (t.set (q*6+i) q)
def tN(q:Nat)(row:List Int):List Int->Nat->List Int->List Int
 | [],_,t=>t
 |l::ls,i,t=>tN q row ls (i+1) (t.set (q*6+l.toNat) (row.getD i 0))
def s9(ls:List Int):List (List Int)->Nat->List Int->List Int
 | [],_,t=>t
 |r::rs,q,t=>s9 ls rs (q+1) (tN q r ls 0 (vZ q 6 0 t))
def pY(al:Int)(rs:List (List Int)):List Int:=s9 (aB al) rs 0 (List.replicate (rs.length*6) 0)
theorem xF:∀(j q i:Nat) (t:List Int),(vZ q j i t).length=t.length
 |0,_,_,_=>rfl
 |j+1,q,i,t=>by simp[vZ,xF j]
theorem MK:∀(ls:List Int) (q i:Nat) (row t:List Int),(tN q row ls i t).length=t.length
 | [],_,_,_,_=>rfl
 |l::ls,q,i,row,t=>by simp[tN,MK ls]
theorem LQ:∀(rs:List (List Int)) (ls:List Int) (q:Nat) (t:List Int),(s9 ls rs q t).length=t.length
 | [],_,_,_=>rfl
 |r::rs,ls,q,t=>by simp[s9,LQ rs,MK,xF]
theorem kG(al:Int)(rs:List (List Int)):(pY al rs).length=rs.length*6:=by simp[pY,LQ]
theorem aCb{t:List Int}{k p:Nat}{v:Int}:(t.set k v).getD p 0=if p=k/\k<t.length then v else t.getD p 0:=by
 simp only[Aa,Cj]
 by_cases h:k=p
 ·subst h
  by_cases h2:k<t.length
  ·simp[h2]
  ·simp[h2]
 ·have h':¬p=k:=fun e=>h e.symm;simp[h,h']
theorem XK:∀(j q i:Nat) (t:List Int) (p:Nat),q*6+i+j<=t.length->(vZ q j i t).getD p 0=if q*6+i<=p/\p<q*6+i+j then(q:Int)else t.getD p 0
 |0,q,i,t,p,h=>by
  simp only[vZ];rw[if_neg om]
 |j+1,q,i,t,p,h=>by
  simp only[vZ];rw[XK j q (i+1) _ p (by simp;omega),aCb]
  by_cases h1:q*6+(i+1)<=p/\p<q*6+(i+1)+j
  ·rw[if_pos h1,if_pos om]
  ·rw[if_neg h1]
   by_cases h2:p=q*6+i
   ·rw[if_pos ⟨h2,by omega⟩,if_pos om]
   ·rw[if_neg om,if_neg om]
theorem wB:∀(ls:List Int) (q i:Nat) (row t:List Int) (p:Nat),(∀l∈ls,p≠q*6+l.toNat)->(tN q row ls i t).getD p 0=t.getD p 0
 | [],_,_,_,_,_,_=>rfl
 |l::ls,q,i,row,t,p,h=>by
  simp only[tN];rw[wB ls q (i+1) row _ p fun m hm=>h m (by simp[hm]),aCb,if_neg];intro hc;exact h l sm hc.1
theorem VU:∀(ls:List Int) (q i:Nat) (row t:List Int) (k:Nat) (l:Int),ls[k]? =some l->ls.Nodup->(∀m∈ls,0<=m)->q*6+l.toNat<t.length->(tN q row ls i t).getD (q*6+l.toNat) 0=row.getD (i+k) 0
 |l'::ls,q,i,row,t,0,l,h,hn,hp,hl=>by
  simp only[Cp,Option.some.injEq]at h;subst h;simp only[tN];rw[wB,aCb,if_pos ⟨rfl,hl⟩,Bv];intro m hm hc
  have h1:m=l':=by
   have h2:=hp m (by simp[hm]);have h3:=hp l' sm;omega
  subst h1;exact(Dp.1 hn).1 hm
 |l'::ls,q,i,row,t,k+1,l,h,hn,hp,hl=>by
  simp only[tN];rw[VU ls q (i+1) row _ k l (by simpa using h) (Dp.1 hn).2 (fun m hm=>hp m (by simp[hm])) (by simpa using hl)]
  congr 1
  omega
theorem aLt{a:Int}:∀m∈aB a,0<=m:=fun m hm=>(jB.1 hm).1.1
theorem aFW{a:Int}:∀(rs:List (List Int)) (q0:Nat) (t:List Int) (q l:Nat),l<6->(q0+rs.length)*6<=t.length->
  (s9 (aB a) rs q0 t).getD (q*6+l) 0=if q0<=q/\q<q0+rs.length then(if cO a l=true then(rs.getD (q-q0) []).getD (gK a l) 0 else(q:Int))else t.getD (q*6+l) 0
 | [],q0,t,q,l,hl,ht=>by
  simp only[s9];rw[if_neg (by simp only[Ac];omega)]
 |r::rs,q0,t,q,l,hl,ht=>by
  simp only[Ae]at ht|-;simp only[s9];rw[aFW rs (q0+1) _ q l hl (by rw[MK,xF];omega)]
  by_cases h1:q0+1<=q/\q<q0+1+rs.length
  ·rw[if_pos h1,if_pos (show q0<=q/\q<q0+(rs.length+1) by omega)];obtain⟨d,hd⟩:∃d,q-q0=d+1:=⟨q-q0-1,by omega⟩
   rw[hd,List.getD_cons_succ,show q-(q0+1)=d by omega]
  ·rw[if_neg h1]
   by_cases h2:q=q0
   ·subst h2;rw[if_pos (show q<=q/\q<q+(rs.length+1) by omega),Bh,List.getD_cons_zero]
    by_cases hb:cO a l=true
    ·rw[if_pos hb];have hp:=xS (a:=a) (l:=l) om om hb;have hg:=VU (aB a) q 0 r (vZ q 6 0 t) (gK a l) l hp.2 (RT a) aLt (by rw[xF];simp;omega);rw[Cn]at hg;rw[hg,Ag]
    ·rw[if_neg hb,wB,XK _ _ _ _ _ om,if_pos om];intro m hm hc;have hm2:=jB.1 hm;have:m=l:=om;subst this;exact hb hm2.2
   ·rw[if_neg (show ¬(q0<=q/\q<q0+(rs.length+1)) by omega),wB,XK _ _ _ _ _ om,if_neg om];intro m hm hc;have hm2:=jB.1 hm;omega
theorem aM5{al:Int}{rs:List (List Int)}{q l:Int}(h0:0<=q)(h1:q<rs.length)(h2:0<=l)(h3:l<6):(pY al rs).getD (q.toNat*6+l.toNat) 0=goI al rs q l:=by
 unfold pY goI;rw[aFW rs 0 _ q.toNat l.toNat om sm];rw[if_pos om,Nat.sub_zero,show((l.toNat:Nat):Int)=l by omega,show((q.toNat:Nat):Int)=q by omega]
theorem YV{al:Int}{rs:List (List Int)}{q l:Int}(h0:0<=q)(h1:q<rs.length)(h2:0<=l)(h3:l<6):((((ints (pY al rs)).drop (q.toNat*6)).drop l.toNat).map A.d).head? =some (nI (goI al rs q l)):=by
 rw[Ck,XZ (by rw[kG];omega),aM5 h0 h1 h2 h3]
theorem c_a6:env.P.cellsOf 92=6:=kr
theorem aHp:∀n:Nat,(List.replicate n [D.int .i64 0,.int .i64 0,.int .i64 0,.int .i64 0,.int .i64 0,.int .i64 0]).flatten=ints (List.replicate (n*6) 0)
 |0=>rfl
 |n+1=>by
  rw[List.replicate_succ,List.flatten_cons,aHp n,Nat.succ_mul];simp[ints,List.replicate_succ]
theorem aR1{n:Int}{h:H}(h0:0<=n)(h1:n<=4294967296):gR env.P h 90 n n=some (.sl h.length 0 0 n.toNat,h++[.arr (ints (List.replicate (n.toNat*6) 0)) 6 0]):=by
 have hm:n<=(bH:Nat):=by unfold bH;omega
 have he:cR env.P 90=some 92:=kr;have hz:dG env.P 92=some (.agg [nI 0,nI 0,nI 0,nI 0,nI 0,nI 0]):=kr;have hok:eF env.P 92=true:=kr;simp only[gR,he,hz,aZ,yW,Az,hok,h0,hm,c_a6,Int.le_refl,and_self,if_true,aHp]
theorem aBL(hn:1<=n){al q:Int}{rs:List (List Int)}(hs:aY rs){r:List Int}(hq0:0<=q)(hq1:q<rs.length){k:KE R}:∀(j:Nat) (i:Int) (m:Nat) (t:List Int) (len:Nat) (h0:0<=i) (hi:i+j=6) (hm:j<m) (ht:t.length=rs.length*6) (hlen:len=rs.length),
  aR env (aA env L n) L 0 [] Bz3 (lB 1) (U2 (Z4 (Z1 (U8 (U2 (U1 (Z2 (Z1 (U4 (Z1 (U16 (U8 (U4 ([])))))))))))))) m (Y2 (.d .nils::.sl 0 0 0 len::.d (.ivs (aB al).length (ints (aB al)))::nI q::.d (.ivs r.length (ints r))::Y8 (Y2 (Y1 (.d (.ivs rs.length (aG rs))::nI (rs.length)::nI q::Y4 (nI i::Y16 (Y8 (Y4 ([]))))))))) [.arr (ints t) 6 0] k
  =k (.exit 2) (Y2 (.d .nils::.sl 0 0 0 rs.length::.d (.ivs (aB al).length (ints (aB al)))::nI q::.d (.ivs r.length (ints r))::Y8 (Y2 (Y1 (.d (.ivs rs.length (aG rs))::nI (rs.length)::nI q::Y4 (nI 6::Y16 (Y8 (Y4 ([]))))))))) [.arr (ints (vZ q.toNat j i.toNat t)) 6 0]:=by
 intro j;have hrl:=hs.1
 induction j with
 |zero=>
  intro i m t len h0 hi hm ht hlen;obtain _|m:=m;omega;obtain rfl:i=6:=om
  simp-implicitDefEqProofs (maxSteps:=9^7) (disch:=try exact Dz) only[↓DN,↓kRet,UP,simprocAttr,Ah,hlen,JJ,EY,Tryz.f72]<;>rfl
 |succ j ih=>
  intro i m t len h0 hi hm ht hlen;obtain _|m:=m;omega;subst hlen;have hc:i<6:=om;have hk:q.toNat*6+i.toNat<t.length:=om;have e1:(i+1).toNat=i.toNat+1:=om;have e2:((q.toNat:Nat):Int)=q:=om
  simp-implicitDefEqProofs (maxSteps:=9^7) (disch:=try exact Dz) only[↓DN,↓kRet,UP,simprocAttr,hc,hq1,↓YQ,↓ih,JJ,EY,Tryz.f72];rw[e1];simp only[vZ,e2]
theorem aJq{a:Int}{i:Nat}(h:i<(aB a).length):(aB a).drop i=(aB a).getD i 0::(aB a).drop (i+1):=cB h
theorem aBn(hn:1<=n){al q:Int}{rs:List (List Int)}(hs:aY rs){r:List Int}(hr:r.length<=4294967296)(hrl2:(aB al).length<=r.length)(hq0:0<=q)(hq1:q<rs.length){k:KE R}:∀(j:Nat) (i:Int) (m:Nat) (t:List Int) (len:Nat) (h0:0<=i) (hi:i+j=(aB al).length) (hm:j<m) (ht:t.length=rs.length*6) (hlen:len=rs.length),
  aR env (aA env L n) L 0 [] Bz3 (lB 2) (U2 (Z4 (Z1 (U8 (U2 (U1 (Z2 (Z1 (U4 (Z1 (U8 (U1 (Z2 (Z1 (U16 ([])))))))))))))))) m (Y2 (.d .nils::.sl 0 0 0 len::.d (.ivs (aB al).length (ints (aB al)))::nI q::.d (.ivs r.length (ints r))::Y8 (Y2 (Y1 (.d (.ivs rs.length (aG rs))::nI (rs.length)::nI q::Y4 (nI 6::Y8 (Y1 (.d (.ivs (aB al).length (ints (aB al)))::nI ((aB al).length)::nI i::Y16 ([]))))))))) [.arr (ints t) 6 0] k
  =k (.exit 4) (Y2 (.d .nils::.sl 0 0 0 rs.length::.d (.ivs (aB al).length (ints (aB al)))::nI q::.d (.ivs r.length (ints r))::Y8 (Y2 (Y1 (.d (.ivs rs.length (aG rs))::nI (rs.length)::nI q::Y4 (nI 6::Y8 (Y1 (.d (.ivs (aB al).length (ints (aB al)))::nI ((aB al).length)::nI ((aB al).length)::Y16 ([]))))))))) [.arr (ints (tN q.toNat r ((aB al).drop i.toNat) i.toNat t)) 6 0]:=by
 intro j;have hrl:=hs.1;have hll:=bQ al
 induction j with
 |zero=>
  intro i m t len h0 hi hm ht hlen;obtain _|m:=m;omega;obtain rfl:i=(aB al).length:=om
  simp-implicitDefEqProofs (maxSteps:=9^7) (disch:=try exact Dz) only[↓DN,↓kRet,UP,simprocAttr,Ah,hlen,ID,EO,Tryz.f72];simp only[Bw,tN]
 |succ j ih=>
  intro i m t len h0 hi hm ht hlen;obtain _|m:=m;omega;subst hlen;have hc:i<(aB al).length:=om;have hk1:i.toNat<(aB al).length:=om;have hk2:i.toNat<r.length:=om;have hv:=aP6 cK hk1;have hv6:(aB al).getD i.toNat 0<6:=om;have hv0:=hv.1;have hk:q.toNat*6+((aB al).getD i.toNat 0).toNat<t.length:=om;have e1:(i+1).toNat=i.toNat+1:=om
  simp-implicitDefEqProofs (maxSteps:=9^7) (disch:=try exact Dz) only[↓DN,↓kRet,UP,simprocAttr,hc,hq1,↓YQ,↓ih,ID,EO,Tryz.f72];rw[aJq hk1,e1];simp only[tN]
def wN(w:Nat)(rs:List (List Int)):Prop:=∀r∈rs,r.length=w
theorem aFG{w:Nat}{rs:List (List Int)}(h:wN w rs){k:Nat}(hk:k<rs.length):(rs.getD k []).length=w:=by
 rw[Aa,Ad hk];exact h _ (At hk)
theorem aCm(hL:2^60<=L)(hn:1<=n){al:Int}{rs:List (List Int)}(hs:aY rs)(hw:wN (aB al).length rs){k:KE R}:∀(j:Nat) (i:Int) (m:Nat) (t:List Int) (len:Nat) (h0:0<=i) (hi:i+j=rs.length) (hm:j<m) (ht:t.length=rs.length*6) (hlen:len=rs.length),
  aR env (aA env L n) L 0 [] Bz3 (lB 0) (U2 (Z2 (Z1 (U8 (U4 (U1 (Z2 (Z1 (U32 (U1 ([]))))))))))) m (Y2 (.d .nils::.sl 0 0 0 len::.d (.ivs (aB al).length (ints (aB al)))::Y8 (Y4 (Y1 (.d (.ivs rs.length (aG rs))::nI (rs.length)::nI i::Y32 (Y1 ([]))))))) [.arr (ints t) 6 0] k
  =k (.exit 0) (Y2 (.d .nils::.sl 0 0 0 rs.length::.d (.ivs (aB al).length (ints (aB al)))::Y8 (Y4 (Y1 (.d (.ivs rs.length (aG rs))::nI (rs.length)::nI (rs.length)::Y32 (Y1 ([]))))))) [.arr (ints (s9 (aB al) (rs.drop i.toNat) i.toNat t)) 6 0]:=by
 intro j;have hrl:=hs.1;have hll:=bQ al
 induction j with
 |zero=>
  intro i m t len h0 hi hm ht hlen;obtain _|m:=m;omega;obtain rfl:i=rs.length:=om
  simp-implicitDefEqProofs (maxSteps:=9^7) (disch:=try exact Dz) only[↓DN,↓kRet,UP,simprocAttr,Ah,hlen,H1,E4,Tryz.f72];simp only[Bw,s9]
 |succ j ih=>
  intro i m t len h0 hi hm ht hlen;obtain _|m:=m;omega;subst hlen;have hc:i<rs.length:=om;have hk:i.toNat<rs.length:=om;have hrow:=mO hs hk;have hrw:=aFG hw hk;have e1:(i+1).toNat=i.toNat+1:=om;have loop_a1:=fun {R:Type} {k:KE R}=>aBL (R:=R) (L:=L) (n:=n) hn (al:=al) (q:=i) (r:=rs.getD i.toNat []) hs h0 hc (k:=k) 6 0 L t rs.length om om om ht rfl;have loop_a2:=fun {R:Type} {k:KE R}=>aBn (R:=R) (L:=L) (n:=n) hn (al:=al) (q:=i) hs (r:=rs.getD i.toNat []) hrow om h0 hc (k:=k) (aB al).length 0 L (vZ i.toNat 6 0 t) rs.length om om om (by rw[xF];exact ht) rfl;simp only[Cy,Ba]at loop_a1 loop_a2;have ht2:(tN i.toNat (rs.getD i.toNat []) (aB al) 0 (vZ i.toNat 6 0 t)).length=rs.length*6:=by rw[MK,xF];exact ht
  clear hrw
  simp-implicitDefEqProofs (maxSteps:=9^7) (disch:=try exact Dz) only[↓DN,↓kRet,UP,simprocAttr,LA,hc,↓loop_a1,↓loop_a2,↓ih,H1,E4,Tryz.f72];rw[cB hk (d:=[]),e1];simp only[s9]
theorem UY(hn:3<=n)(al:Int)(rs:List (List Int))(z:Nat)(cs:List D)(hs:aY rs)(hw:wN (aB al).length rs)(hL:2^60<=L):aA env L n 72 [.agg [nI al,.d (.ivs rs.length (aG rs)),.d (.ivs z cs)]] []=some (.d (.ivs rs.length (ints (pY al rs))),[]):=by
 have hrl:=hs.1;have loop_a:=fun {R:Type} {n:Nat} (hn:1<=n) {k:KE R}=>aCm (R:=R) (L:=L) (n:=n) hL hn (al:=al) hs hw (k:=k) rs.length 0 L (List.replicate (rs.length*6) 0) rs.length om om om sm rfl;simp only[Cy,Ba]at loop_a;have htl:(pY al rs).length=rs.length*6:=kG al rs;have htl2:rs.length*6<=(s9 (aB al) rs 0 (List.replicate (rs.length*6) 0)).length:=by rw[LQ];simp
 have htk:(ints (s9 (aB al) rs 0 (List.replicate (rs.length*6) 0))).take (rs.length*6)=ints (s9 (aB al) rs 0 (List.replicate (rs.length*6) 0)):=cW (by rw[LQ];simp);unfold pY;obtain _|n:=n;omega
 simp-implicitDefEqProofs (maxSteps:=9^7) (disch:=try exact Dz) only[↓DN,↓kAsg,↓kRet,UP,simprocAttr,↓kS,↓aR1,↓loop_a,htk,htl2,aJr,aA1,Tryz.f72]
theorem JO:type_of% fun {L} al rs z cs hs hw hL=>ks fun hn=> @UY L _ hn al rs z cs hs hw hL:=fun {L} al rs z cs hs hw hL=>ks fun hn=> @UY L _ hn al rs z cs hs hw hL
end
section
variable{R:Type}{L n:Nat}
def cntB(a:Int):Nat->Int->Nat
 |0,_=>0
 |j+1,i=>(if cO a i=true then 1 else 0)+cntB a j (i+1)
theorem aMM{a l:Int}(h0:0<=l)(h1:l<6):cntB a l.toNat 0=gK a l:=by
 unfold gK aB;generalize hp:cO a=p;have e:∀i,cO a i=p i:=fun i=>by rw[hp]
 rcases six h0 h1 with rfl|rfl|rfl|rfl|rfl|rfl<;>
  simp only[cntB,e,show(0:Int).toNat=0 from rfl,show(1:Int).toNat=1 from rfl,show(2:Int).toNat=2 from rfl,show(3:Int).toNat=3 from rfl,show(4:Int).toNat=4 from rfl,show(5:Int).toNat=5 from rfl,Int.zero_add,Int.reduceAdd]<;>
  cases h0':p 0<;>cases h1':p 1<;>cases h2':p 2<;>cases h3':p 3<;>cases h4':p 4<;>cases h5':p 5<;>simp_all [List.filter]
theorem aFm(hn:1<=n){a l:Int}(hl:l<6){k:KE R}:∀(j:Nat) (i c:Int) (m:Nat) (h0:0<=i) (hi:i+j=l) (hm:j<m) (hc0:0<=c) (hc1:c<=i),
  aR env (aA env L n) L 0 [] Bz57 (HO 0) (Z2 (U2 (Z2 (Z1 (U8 (U2 (U1 ([])))))))) m (nI a::nI l::Y2 (nI 0::nI c::nI i::Y8 (Y2 (Y1 ([]))))) [] k
  =k (.exit 0) (nI a::nI l::Y2 (nI 0::nI (c+cntB a j i)::nI l::Y8 (Y2 (Y1 ([]))))) []:=by
 intro j
 induction j with
 |zero=>
  intro i c m h0 hi hm hc0 hc1;obtain _|m:=m;omega;obtain rfl:i=l:=om
  simp-implicitDefEqProofs (maxSteps:=9^7) (disch:=try exact Dz) only[↓DN,↓kRet,UP,simprocAttr,Ah,wL,wA,Tryz.f129];simp only[cntB,Aq,Int.add_zero]
 |succ j ih=>
  intro i c m h0 hi hm hc0 hc1;obtain _|m:=m;omega;have hc:i<l:=om
  cases hb:cO a i with
  |true=>
   have e:c+1+(cntB a j (i+1):Int)=c+cntB a (j+1) i:=by simp only[cntB,hb,if_true];omega
   simp-implicitDefEqProofs (maxSteps:=9^7) (disch:=try exact Dz) only[↓DN,↓kRet,UP,simprocAttr,↓s5,hc,hb,↓ih,wL,wA,Tryz.f129];rw[e]
  |false=>
   have e:c+(cntB a j (i+1):Int)=c+cntB a (j+1) i:=by simp only[cntB,hb,Ak,if_false];omega
   simp-implicitDefEqProofs (maxSteps:=9^7) (disch:=try exact Dz) only[↓DN,↓kRet,UP,simprocAttr,↓s5,hc,hb,↓ih,wL,wA,Tryz.f129];rw[e]
theorem UA(hn:2<=n)(a l:Int)(h0:0<=l)(h1:l<6)(hL:2^60<=L):aA env L n 129 [nI a,nI l] []=some (nI (gK a l),[]):=by
 have loop_a:=fun {R:Type} {n:Nat} (hn:1<=n) {k:KE R}=>aFm (R:=R) (L:=L) hn (a:=a) h1 (k:=k) l.toNat 0 0 L om om om om om;rw[aMM h0 h1]at loop_a;obtain _|n:=n;omega
 simp-implicitDefEqProofs (maxSteps:=9^7) (disch:=try exact Dz) only[↓DN,↓kAsg,UP,simprocAttr,↓loop_a,Int.zero_add,aJe,aAE,Tryz.f129]
theorem aI7:type_of% fun {L} a l h0 h1 hL=>ks fun hn=> @UA L _ hn a l h0 h1 hL:=fun {L} a l h0 h1 hL=>ks fun hn=> @UA L _ hn a l h0 h1 hL
theorem aSQ{al q l:Int}{rs:List (List Int)}(h:cO al l=false):goI al rs q l=q:=by
 unfold goI;rw[h];rfl
theorem YN{al q l:Int}{rs:List (List Int)}(h:cO al l=true):goI al rs q l=(rs.getD q.toNat []).getD (gK al l) 0:=by
 unfold goI;rw[if_pos h]
theorem aHn(hn:3<=n)(al q l:Int)(rs:List (List Int))(z:Nat)(cs:List D)(hs:aY rs)(hw:wN (aB al).length rs)(hq0:0<=q)(hq1:q<rs.length)(h0:0<=l)(h1:l<6)(hL:2^60<=L):aA env L n 102 [.agg [nI al,.d (.ivs rs.length (aG rs)),.d (.ivs z cs)],nI q,nI l] []=some (nI (goI al rs q l),[]):=by
 have hrl:=hs.1;have hk:q.toNat<rs.length:=om;have hrow:=mO hs hk;have hrw:=aFG hw hk
 cases hb:cO al l with
 |false=>
  rw[aSQ hb];clear hrw;obtain _|n:=n;omega
  simp-implicitDefEqProofs (maxSteps:=9^7) (disch:=try exact Dz) only[↓DN,↓kAsg,↓kRet,UP,simprocAttr,↓s5,hb,aGt,aBz,Tryz.f102]
 |true=>
  rw[YN hb];have hp:=(xS h0 h1 hb).1;have hp2:gK al l<(rs.getD q.toNat []).length:=om;have hp3:(gK al l:Int)<(rs.getD q.toNat []).length:=om;have hp4:((gK al l:Nat):Int).toNat=gK al l:=Cn _;clear hrw hp;obtain _|n:=n;omega
  simp-implicitDefEqProofs (maxSteps:=9^7) (disch:=try exact Dz) only[↓DN,↓kAsg,↓kRet,UP,simprocAttr,↓s5,↓aI7,LA,hb,hp4,aGt,aBz,Tryz.f102]
theorem aGB:type_of% fun {L} al q l rs z cs hs hw hq0 hq1 h0 h1 hL=>ks fun hn=> @aHn L _ hn al q l rs z cs hs hw hq0 hq1 h0 h1 hL:=fun {L} al q l rs z cs hs hw hq0 hq1 h0 h1 hL=>ks fun hn=> @aHn L _ hn al q l rs z cs hs hw hq0 hq1 h0 h1 hL
theorem r7{l:List (List Int)}{r:List Int}{z:Nat}(h:z=r.length):aG l++[.ivs z (ints r)]=aG (l++[r]):=by
 subst h;simp[aG,rowD]
theorem ML:aG []=[]:=rfl
theorem aGc:aD []=[]:=rfl
end
end Ev
end Go.Proofs.YtppffbehejpglaaGreat
