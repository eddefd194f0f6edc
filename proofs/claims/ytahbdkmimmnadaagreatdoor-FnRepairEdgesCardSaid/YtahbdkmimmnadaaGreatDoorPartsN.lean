/-
  Where aG lead: the table of a system's moves, a step from a set of states.
-/
import Derived.Test.YtahbdkmimmnadaaGreatDoorSysI
import Derived.Test.YtahbdkmimmnadaaGreatDoorDistG
import Derived.Test.YtahbdkmimmnadaaGreatDoorEvPrim
import Derived.Test.YtahbdkmimmnadaaGreatDoorEdges
set_option linter.unusedSimpArgs false
set_option linter.unusedVariables false
set_option linter.unusedSectionVars false
set_option maxRecDepth 8000
set_option maxHeartbeats 4000000
namespace Go.Proofs.YtahbdkmimmnadaaGreatDoor
namespace Ev
section
variable{R:Type}{L n:Nat}
def mvAt:List Edge->Nat->Nat
 | [],_=>0
 |e::l,k=>if e.fr.toNat*6+e.lt.toNat=k then mvAt l k|||2^e.to.toNat else mvAt l k
theorem XH{k j:Nat}:∀ {l:List Edge},(mvAt l k).testBit j=true↔∃e∈l,e.fr.toNat*6+e.lt.toNat=k/\e.to.toNat=j
 | []=>by simp[mvAt]
 |e::l=>by
  have ih:=XH (k:=k) (j:=j) (l:=l);unfold mvAt
  split
  ·rename_i h
   simp only[Nat.testBit_or,Bool.or_eq_true,ih,Nat.testBit_two_pow,decide_eq_true_eq,Au,exists_eq_or_imp]
   constructor
   ·rintro(h1|h1)
    ·exact .inr h1
    ·exact .inl ⟨h,h1⟩
   ·rintro(⟨_,h1⟩|h1)
    ·exact .inr h1
    ·exact .inl h1
  ·rename_i h
   simp only[ih,Au,exists_eq_or_imp,h,false_and,false_or]
theorem aH4{k n:Nat}{l:List Edge}(h:∀e∈l,e.to.toNat<n):mvAt l k<2^n:=by
 apply Nat.lt_pow_two_of_testBit;intro i hi
 cases hb:(mvAt l k).testBit i with
 |false=>rfl
 |true=>
  obtain⟨e,he,_,rfl⟩:=XH.1 hb;have:=h e he;omega
def mvD(l:List Edge):List D:=(List.range 96).map fun k=>.int .i64 (mvAt l k:Nat)
theorem aIv(l:List Edge):(mvD l).length=96:=by simp[mvD]
theorem aH2{l:List Edge}{k:Nat}(h:k<96):(mvD l)[k]? =some (.int .i64 (mvAt l k:Nat)):=by
 simp[mvD,h]
theorem aBK{a b:Nat}(ha:a<2^62)(hb:b<2^62):iOr .i64 (a:Int) (b:Int)=((a|||b:Nat):Int):=by
 have h1:a|||b<2^62:=Nat.or_lt_two_pow ha hb;unfold iOr
 have e:(BitVec.ofInt (IntKind.bits .i64) (a:Int)|||BitVec.ofInt (IntKind.bits .i64) (b:Int)).toNat=a|||b:=by
  show(BitVec.ofInt 64 (a:Int)|||BitVec.ofInt 64 (b:Int)).toNat=a|||b;rw[BitVec.ofInt_natCast,BitVec.ofInt_natCast,BitVec.toNat_or,BitVec.toNat_ofNat,BitVec.toNat_ofNat,Nat.mod_eq_of_lt om,Nat.mod_eq_of_lt om]
 rw[e];exact dW om om
theorem aMP{a b:Nat}(ha:a<2^62)(hb:b<2^62):iAnd .i64 (a:Int) (b:Int)=((a&&&b:Nat):Int):=by
 have h1:a&&&b<=a:=Nat.and_le_left;unfold iAnd
 have e:(BitVec.ofInt (IntKind.bits .i64) (a:Int)&&&BitVec.ofInt (IntKind.bits .i64) (b:Int)).toNat=a&&&b:=by
  show(BitVec.ofInt 64 (a:Int)&&&BitVec.ofInt 64 (b:Int)).toNat=a&&&b;rw[BitVec.ofInt_natCast,BitVec.ofInt_natCast,BitVec.toNat_and,BitVec.toNat_ofNat,BitVec.toNat_ofNat,Nat.mod_eq_of_lt om,Nat.mod_eq_of_lt om]
 rw[e];exact dW om om
def mvA(l:List Edge):List A:=(mvD l).map .d
theorem TV(l:List Edge):(mvA l).length=96:=by simp[mvA,aIv]
theorem aIM:∀ds:List D,idsL (ds.map A.d)=[]
 | []=>rfl
 |d::ds=>by simp only[Ag,idsL,idsA,aIM ds,Ai]
theorem aGy{f:Nat->Option Nat}:∀ds:List D,aE f (ds.map A.d)=ds.map A.d
 | []=>rfl
 |d::ds=>by simp only[Ag,aE,mapA,aGy ds]
theorem aDA{nf:Nat}{h:H}:∀ds:List D,aP nf h (ds.map A.d)=ds.map A.d
 | []=>rfl
 |d::ds=>by simp only[Ag,aP,bI,aDA ds]
theorem aAv(l:List Edge):idsL (mvA l)=[]:=aIM _
theorem ZN{f:Nat->Option Nat}(l:List Edge):aE f (mvA l)=mvA l:=aGy _
theorem aH5{nf:Nat}{h:H}(l:List Edge):aP nf h (mvA l)=mvA l:=aDA _
theorem aIw{l:List Edge}{k:Nat}(h:k<96):((mvA l).drop k).head? =some (nI (mvAt l k:Nat)):=by
 rw[Cs];simp[mvA,aH2 h]
theorem aNe{l:List Edge}{k:Nat}(h:k<96):(((mvD l).drop k).map A.d).head? =some (nI (mvAt l k:Nat)):=by
 rw[List.map_drop];exact aIw h
theorem aPO{l:List Edge}{e:Edge}{k:Nat}(hk:k<96)(he:e.fr.toNat*6+e.lt.toNat=k):a6 (mvA l) k [nI (mvAt (e::l) k:Nat)]=mvA (e::l):=by
 apply Cn;intro j;rw[rP _ _ _ (by rw[TV];simp;omega)]
 by_cases hj:j<96
 ·have g:∀l,(mvA l)[j]? =some (nI (mvAt l j:Nat)):=fun l=>by simp[mvA,aH2 hj]
  by_cases hjk:j=k
  ·subst hjk;simp[g]
  ·rw[if_neg (by simp;omega),g,g]
   have e3:mvAt l j=mvAt (e::l) j:=by
    unfold mvAt;rw[if_neg om]
    cases l<;>rfl
   rw[e3]
 ·rw[if_neg (by simp;omega),Cj (l:=mvA l) (by rw[TV];omega),Cj (l:=mvA (e::l)) (by rw[TV];omega)]
theorem aMM{l:List Edge}{h:H}:frz deep (O.box (mvA l)::h) (.ptr 0 0 0)=some (.iptr (mvD l),O.ice (mvD l) 1 0::h):=by
 have key:∀(n:Nat) (ds:List D) (h:H),eS (frz n) h (ds.map A.d)=some (ds,h):=by
  intro n ds
  induction ds with
  |nil=>intro h;rfl
  |cons d ds ih=>
   intro h;simp only[Ag,eS];have:frz n h (.d d)=some (d,h):=by cases n<;>rfl
   simp only[this,ih h]
 show frz (4+1) _ _=_;unfold frz;simp only[Ch,Ck,and_self,if_true,mvA,key,Ay,Ci]
theorem aPb{call:aW}{thaw:List Nat}{dst:Option Tmp}{x y:Operand}{k:Nat}{l:List Edge}{e:Edge}{v:Int}{r:H}(hk:k<96)(he:e.fr.toNat*6+e.lt.toNat=k)(hv:v=((mvAt (e::l) k:Nat):Int)):memD env call thaw dst (.store 3 x y) (O.box (mvA l)::r) [.ptr 0 0 k,nI v]=some (.d .undef,O.box (mvA (e::l))::r,{ ids:=[0],ro:=false,wr:=[0]}):=by
 have e1:aC aD (O.box (mvA l)::r) (idsL [.ptr 0 0 k,nI v]) []=[0]:=by
  show aC (aD-1+1) (O.box (mvA l)::r) [0] []=[0]
  simp only[aC,List.contains_nil,Aj,if_false,Ch,aAv,Ai,Am]<;>rfl
 have e2:pack (O.box (mvA l)::r) [0]=[O.box (mvA l)]:=by
  simp only[pack,Ag,Ak,List.getD_cons_zero,mapO,ZN]
 have e3:aE (aH [0]) [.ptr 0 0 k,nI v]=[.ptr 0 0 k,nI v]:=rfl
 have hst:iW env.P [O.box (mvA l)] 3 (.ptr 0 0 k) (nI v)=some [O.box (mvA (e::l))]:=by
  unfold iW;have h1:(aT (nI v)).length=env.P.cellsOf 3/\(env.P.info? 3).isSome=true/\(aT (nI v)).all dH=true:=⟨IQ.symm▸rfl,aI6,rfl⟩
  rw[if_pos h1];have h2:aY [O.box (mvA l)] (aT (nI v))=([nI v],[O.box (mvA l)]):=rfl;simp only[Ch,h2,IQ,TV];rw[if_pos om,hv,aPO hk he];rfl
 have hcl:closed (O.box (mvA l)::r) [0] (idsL [.ptr 0 0 k,nI v])=true:=by
  simp only[closed,Bt,Ce,Ch,aAv]<;>rfl
 unfold memD;rw[e1];simp only[box];rw[e2,e3];simp only[evOp,dV,two,hst,Ax,hcl,Ac,Aa,Ad,and_self,if_true];simp only[hZ,Bn,Aj,if_false,Cl,List.range'_zero,Ai,mapA,bA,mapO,ZN,Ci,Ak]<;>rfl
theorem aBF{l:List Edge}(hl:l.length<=4294967296)(hv:∀e∈l,0<=e.fr/\e.fr<16/\0<=e.lt/\e.lt<6/\0<=e.to/\e.to<16){k:KE R}:∀(j i m:Nat) (hi:i+j=l.length) (hm:j<m),
  aV env (aA env L n) L 0 [] Bz28 (xM 0) Bz46 m (Y2 (.d .nilp::.ptr 0 0 0::Y4 (.d (.ivs l.length (aJ l))::nI (l.length)::nI i::Y16 (Y4 (Y1 ([])))))) [.box (mvA (l.take i).reverse)] k
  =k (.exit 0) (Y2 (.d .nilp::.ptr 0 0 0::Y4 (.d (.ivs l.length (aJ l))::nI (l.length)::nI (l.length)::Y16 (Y4 (Y1 ([])))))) [.box (mvA l.reverse)]:=by
 intro j
 induction j with
 |zero=>
  intro i m hi hm;obtain _|m:=m;omega;obtain rfl:i=l.length:=om
  simp-implicitDefEqProofs (maxSteps:=9^7) (disch:=try exact Dz) only[↓DN,↓kRet,UP,simprocAttr,Al,aAv,ZN,aH5,GQ,CQ,Tryz.f185]
 |succ j ih=>
  intro i m hi hm;obtain _|m:=m;omega;have hc:(i:Int)<l.length:=om;have hk:i<l.length:=om;have hmem:l.getD i default∈l:=by rw[Ab,Ae hk];exact Bd hk
  obtain⟨b1,b2,b3,b4,b5,b6⟩:=hv _ hmem;have hkk:(l.getD i default).fr.toNat*6+(l.getD i default).lt.toNat<96:=om
  have hlt:∀k,mvAt (l.take i).reverse k<2^16:=fun k=>aH4 fun e he=>by
   have:=hv e (List.mem_of_mem_take (Dn.1 he));omega
  have hmv:iOr .i64 ((mvAt (l.take i).reverse ((l.getD i default).fr.toNat*6+(l.getD i default).lt.toNat):Nat):Int) (IntKind.i64.wrap (1*2^min (l.getD i default).to.toNat 64))=((mvAt (l.getD i default::(l.take i).reverse) ((l.getD i default).fr.toNat*6+(l.getD i default).lt.toNat):Nat):Int):=by
   have e1:min (l.getD i default).to.toNat 64=(l.getD i default).to.toNat:=om;have e2:(2:Nat)^(l.getD i default).to.toNat<=2^15:=Nat.pow_le_pow_right om om
   have e3:IntKind.i64.wrap (1*2^(l.getD i default).to.toNat)=((2^(l.getD i default).to.toNat:Nat):Int):=by
    have:(1:Int)*2^(l.getD i default).to.toNat=((2^(l.getD i default).to.toNat:Nat):Int):=sm;rw[this];generalize(2:Nat)^(l.getD i default).to.toNat=p at e2;exact dW om om
   have e5:=hlt ((l.getD i default).fr.toNat*6+(l.getD i default).lt.toNat);rw[e1,e3,aBK om (by generalize(2:Nat)^(l.getD i default).to.toNat=p at e2|-;omega)];simp[mvAt]
  have hrev:(l.take (i+1)).reverse=l.getD i default::(l.take i).reverse:=by
   rw[Dt,List.reverse_append,Ab,Ae hk];rfl
  have ih':=ih (i+1) m om om;rw[hrev]at ih';have e4:((i+1:Nat):Int)=(i:Int)+1:=om;rw[e4]at ih';have st_m:=fun {call:aW} {thaw:List Nat} {dst:Option Tmp} {x y:Operand} {r:H}=> @aPb call thaw dst x y _ (l.take i).reverse (l.getD i default) _ r hkk rfl hmv;clear ih hmem hlt hmv hrev
  simp-implicitDefEqProofs (maxSteps:=9^7) (disch:=try exact Dz) only[↓DN,↓kRet,UP,simprocAttr,LE,hc,b1,b2,b3,b4,aIw,↓st_m,aAv,ZN,aH5,aEK,↓ih',GQ,CQ,Tryz.f185]
theorem R5{R:Type}{L n m:Nat}{l:List Edge}(hl:l.length<=4294967296)(hv:∀e∈l,0<=e.fr/\e.fr<16/\0<=e.lt/\e.lt<6/\0<=e.to/\e.to<16){k:KE R}(hm:l.length<m):
  aV env (aA env L n) L 0 [] Bz28 (xM 0) Bz46 m (Y2 (.d .nilp::.ptr 0 0 0::Y4 (.d (.ivs l.length (aJ l))::nI (l.length)::nI 0::Y16 (Y4 (Y1 ([])))))) [.box [nI 0,nI 0,nI 0,nI 0,nI 0,nI 0,nI 0,nI 0,nI 0,nI 0,nI 0,nI 0,nI 0,nI 0,nI 0,nI 0,nI 0,nI 0,nI 0,nI 0,nI 0,nI 0,nI 0,nI 0,nI 0,nI 0,nI 0,nI 0,nI 0,nI 0,nI 0,nI 0,nI 0,nI 0,nI 0,nI 0,nI 0,nI 0,nI 0,nI 0,nI 0,nI 0,nI 0,nI 0,nI 0,nI 0,nI 0,nI 0,nI 0,nI 0,nI 0,nI 0,nI 0,nI 0,nI 0,nI 0,nI 0,nI 0,nI 0,nI 0,nI 0,nI 0,nI 0,nI 0,nI 0,nI 0,nI 0,nI 0,nI 0,nI 0,nI 0,nI 0,nI 0,nI 0,nI 0,nI 0,nI 0,nI 0,nI 0,nI 0,nI 0,nI 0,nI 0,nI 0,nI 0,nI 0,nI 0,nI 0,nI 0,nI 0,nI 0,nI 0,nI 0,nI 0,nI 0,nI 0]] k
  =k (.exit 0) (Y2 (.d .nilp::.ptr 0 0 0::Y4 (.d (.ivs l.length (aJ l))::nI (l.length)::nI (l.length)::Y16 (Y4 (Y1 ([])))))) [.box (mvA l.reverse)]:=
 aBF hl hv l.length 0 m om hm
theorem S3(hn:2<=n)(al st:Int)(l:List Edge)(hl:l.length<=4294967296)(hv:∀e∈l,0<=e.fr/\e.fr<16/\0<=e.lt/\e.lt<6/\0<=e.to/\e.to<16)(hL:2^60<=L):aA env L n 185 [.agg [nI al,nI st,.d (.ivs l.length (aJ l))]] []=some (.d (.iptr (mvD l.reverse)),[]):=by
 obtain _|n:=n;omega
 simp-implicitDefEqProofs (maxSteps:=9^7) (disch:=try exact Dz) only[↓DN,↓kAsg,↓kRet,UP,simprocAttr,↓R5,↓aMM,aFo,VQ,Tryz.f185]
theorem aGo:type_of% fun {L} al st l hl hv hL=>ks fun hn=> @S3 L _ hn al st l hl hv hL:=fun {L} al st l hl hv hL=>ks fun hn=> @S3 L _ hn al st l hl hv hL
theorem aMI{s:Nat}(h0:s≠0)(h:s<65536):Lib.ctz 64 s<16:=by
 unfold Lib.ctz;rw[if_neg h0]
 have key:∀(f x:Nat),0<x->x<2^f->∀F,f<=F->Lib.ctzFrom F x<f:=by
  intro f
  induction f with
  |zero=>intro x h0 h1;simp at h1;omega
  |succ f ih=>
   intro x h0 h1 F hF;obtain _|F:=F;omega;unfold Lib.ctzFrom
   split
   ·omega
   ·have:=ih (x/2) om (by rw[Nat.pow_succ]at h1;omega) F om;omega
 exact key 16 s om om 64 om
def left:Nat->Nat->Nat
 |0,s=>s
 |q+1,s=>if s=0 then 0 else left q (s&&&(s-1))
theorem B5{hq:H}{k:KA R}(hn:1<=n)(x:Int)(h0:0<=x)(h1:x<18446744073709551616):aU env (aA env L n) hq 240 [.d (.int .u64 x)] k=k (nI (Lib.ctz 64 x.toNat:Nat)) hq:=by
 obtain _|n:=n;omega;refine cW rfl ?_ rfl (.inl rfl);rw[zM];simp only[gCtz,h0,h1,and_self,if_true]
theorem aBG{h:H}{n:Int}{K:IntKind}:gM env.P h 3 165 (.d (.int K n))=some (.d (.int .u64 (IntKind.u64.wrap n)),h):=wC aEB aFt
end
theorem P9{s:Nat}(h0:s≠0)(h:s<2^64)(i:Nat):(s&&&(s-1)).testBit i=(s.testBit i&&decide (i≠Lib.ctz 64 s)):=by
 have hs:∃m,s=2^Lib.ctz 64 s*(2*m+1)/\Lib.ctz 64 s<64:=by
  have:=Lib.ctzFrom_spec 64 s om h;unfold Lib.ctz;rw[if_neg h0];exact this
 obtain⟨m,hm,_⟩:=hs;generalize Lib.ctz 64 s=k at *;subst hm;have hp:0<2^k:=Nat.two_pow_pos k
 have e1:2^k*(2*m+1)-1=2^k*(2*m)+(2^k-1):=by
  rw[Nat.mul_add,By];omega
 have e0:2^k*(2*m+1)=2^k*(2*m+1)+0:=rfl;rw[Nat.testBit_and,e1,Nat.testBit_two_pow_mul_add _ om];rw[e0,Nat.testBit_two_pow_mul_add _ hp]
 by_cases hik:i<k
 ·simp[hik]
 ·simp only[hik,if_false]
  by_cases he:i=k
  ·subst he;simp
  ·obtain⟨j,rfl⟩:∃j,i=k+(j+1):=⟨i-k-1,by omega⟩
   have e3:k+(j+1)-k=j+1:=om;rw[e3,Nat.testBit_succ,Nat.testBit_succ];have d1:(2*m+1)/2=m:=om;have d2:(2*m)/2=m:=om;rw[d1,d2];have:decide (k+(j+1)≠k)=true:=sm;rw[this];simp
theorem aIx{s:Nat}(h0:s≠0)(h:s<2^64):s.testBit (Lib.ctz 64 s)=true:=by
 obtain⟨h1,_⟩:=Lib.lowest_bit 64 s h0 h;have h2:(s&&&(2^64-s)).testBit (Lib.ctz 64 s)=true:=by rw[h1];simp
 rw[Nat.testBit_and,Ap]at h2;exact h2.1
def memG:Nat->Nat->List Int
 |0,_=>[]
 |q+1,s=>if s=0 then []else(Lib.ctz 64 s:Nat)::memG q (s&&&(s-1))
theorem J4{s:Nat}(h0:s≠0):s&&&(s-1)<s:=by
 have:=Nat.and_le_right (n:=s) (m:=s-1);omega
theorem aEO:∀(q s:Nat) (h:s<2^64) (x:Int),x∈memG q s->0<=x/\s.testBit x.toNat=true
 |0,s,h,x,hx=>by cases hx
 |q+1,s,h,x,hx=>by
  unfold memG at hx
  split at hx
  ·cases hx
  ·rename_i h0
   rcases Au.1 hx with rfl|hx
   ·exact⟨by omega,by rw[Cd];exact aIx h0 h⟩
   ·have:=J4 h0;obtain⟨k1,k2⟩:=aEO q _ om x hx;rw[P9 h0 h,Ap]at k2;exact⟨k1,k2.1⟩
theorem aEM:∀(q s:Nat) (h:s<2^64) (hq:s<=q) (k:Nat),s.testBit k=true->(k:Int)∈memG q s
 |0,s,h,hq,k,hk=>by
  obtain rfl:s=0:=om;simp at hk
 |q+1,s,h,hq,k,hk=>by
  unfold memG
  split
  ·rename_i h0;subst h0;simp at hk
  ·rename_i h0
   by_cases he:k=Lib.ctz 64 s
   ·subst he;exact Bl
   ·have:=J4 h0;refine Bi _ (aEM q _ om om k ?_);rw[P9 h0 h,hk];simp[he]
theorem aM9:∀(w q s:Nat),s<2^w->s<2^64->(memG q s).length<=w:=by
 intro w q s hw h
 have key:∀(q s b:Nat),s<2^64->s<2^w->(∀i,s.testBit i=true->b<=i)->b<=w->(memG q s).length<=w-b:=by
  intro q
  induction q with
  |zero=>intro s b _ _ _ _;simp[memG]
  |succ q ih=>
   intro s b h hw hb hbw;unfold memG
   split
   ·simp
   ·rename_i h0
    have hc:=aIx h0 h;have h1:=hb _ hc
    have hcw:Lib.ctz 64 s<w:=by
     apply Nat.lt_of_not_le;intro hle;have:=Nat.testBit_lt_two_pow (x:=s) (i:=Lib.ctz 64 s) (Da hw (Nat.pow_le_pow_right dc hle));rw[this]at hc;cases hc
    have hlt:=J4 h0
    have:=ih (s&&&(s-1)) (Lib.ctz 64 s+1) om om (fun i hi=>by
     rw[P9 h0 h,Ap]at hi;have hne:=of_decide_eq_true hi.2
     have hge:Lib.ctz 64 s<=i:=by
      have hs:=Lib.ctzFrom_spec 64 s om h;have e:Lib.ctz 64 s=Lib.ctzFrom 64 s:=by unfold Lib.ctz;rw[if_neg h0]
      rw[<-e]at hs;obtain⟨m,hm,_⟩:=hs;generalize Lib.ctz 64 s=k at *;apply Nat.le_of_not_lt;intro hlt;have hp:0<2^k:=Nat.two_pow_pos k
      have:s.testBit i=false:=by
       rw[hm,show 2^k*(2*m+1)=2^k*(2*m+1)+0 from rfl,Nat.testBit_two_pow_mul_add _ hp,if_pos hlt];simp
      rw[this]at hi;cases hi.1
     omega) om
    simp only[Ac];omega
 have:=key q s 0 h hw (fun i _=>Ck _) (Ck _);omega
def bsF(p:Nat->Bool):Nat->Nat->Nat->Nat
 |0,i,_=>i
 |k+1,i,j=>if i<j then(if p ((i+j)/2)=true then bsF p k ((i+j)/2+1) j else bsF p k i ((i+j)/2))else i
theorem M2{p:Nat->Bool}:∀ {k i j:Nat},i<=j->i<=bsF p k i j/\bsF p k i j<=j
 |0,i,j,h=>⟨Ad _,h⟩
 |k+1,i,j,h=>by
  simp only[bsF]
  by_cases h1:i<j
  ·rw[if_pos h1]
   by_cases h2:p ((i+j)/2)=true
   ·rw[if_pos h2];have:=M2 (p:=p) (k:=k) (i:=(i+j)/2+1) (j:=j) om;omega
   ·rw[if_neg h2];have:=M2 (p:=p) (k:=k) (i:=i) (j:=(i+j)/2) om;omega
  ·rw[if_neg h1];omega
theorem XM{p:Nat->Bool}(hm:∀a b,a<=b->p b=true->p a=true):∀ {k i j:Nat},i<=j->j-i<=k->(∀h,i<=h->h<bsF p k i j->p h=true)/\(∀h,bsF p k i j<=h->h<j->p h=false)
 |0,i,j,h,hk=>by simp only[bsF];exact⟨fun h' _ _=>by omega,fun h' _ _=>by omega⟩
 |k+1,i,j,h,hk=>by
  simp only[bsF]
  by_cases h1:i<j
  ·rw[if_pos h1]
   by_cases h2:p ((i+j)/2)=true
   ·rw[if_pos h2];obtain⟨a,b⟩:=XM hm (k:=k) (i:=(i+j)/2+1) (j:=j) om om;refine⟨fun h' h3 h4=> ?_,b⟩
    by_cases h5:h'<=(i+j)/2
    ·exact hm _ _ h5 h2
    ·exact a h' om h4
   ·rw[if_neg h2];obtain⟨a,b⟩:=XM hm (k:=k) (i:=i) (j:=(i+j)/2) om om;refine⟨a,fun h' h3 h4=> ?_⟩
    by_cases h5:h'<(i+j)/2
    ·exact b h' h3 h5
    ·cases hp:p h' with
     |false=>rfl
     |true=>exact absurd (hm _ _ om hp) h2
  ·rw[if_neg h1];exact⟨fun h' _ _=>by omega,fun h' _ _=>by omega⟩
theorem sH{e:Edge}:bY e e=false:=by simp[bY]
theorem OI{e f g:Edge}(h1:bY e f=true)(h2:bY f g=true):bY e g=true:=by
 unfold bY at *
 split at h1<;>split at h2<;>(try split at h1)<;>(try split at h2)<;>simp only[decide_eq_true_eq]at h1 h2<;>(split<;>(try split)<;>simp only[decide_eq_true_eq]<;>omega)
theorem aOM{e f:Edge}:decide (cmpE e f<0)=bY e f:=by
 have h:=JQ (e:=e) (f:=f)
 by_cases h1:0<=cmpE e f
 ·have h2:¬cmpE e f<0:=om;simp only[h1,decide_true]at h;simp only[h2,decide_false]
  cases hb:bY e f<;>simp_all
 ·have h2:cmpE e f<0:=om;simp only[h1,decide_false]at h;simp only[h2,decide_true]
  cases hb:bY e f<;>simp_all
theorem wE{a b:Int}:cmpI a b=0↔a=b:=by
 unfold cmpI
 split
 ·constructor<;>intro h<;>omega
 ·split
  ·constructor<;>intro h<;>omega
  ·constructor<;>intro h<;>omega
theorem aLp{e f:Edge}:cmpE e f=0↔e=f:=by
 obtain⟨a,b,c⟩:=e;obtain⟨a',b',c'⟩:=f;simp only[cmpE,jW,Edge.mk.injEq]
 by_cases h1:cmpI a a'=0
 ·rw[if_pos h1]
  by_cases h2:cmpI b b'=0
  ·rw[if_pos h2]
   by_cases h3:cmpI c c'=0
   ·rw[if_pos h3];simp[wE.1 h1,wE.1 h2,wE.1 h3]
   ·rw[if_neg h3]
    constructor
    ·intro h;exact absurd h h3
    ·intro h;exact absurd (wE.2 h.2.2) h3
  ·rw[if_neg h2]
   constructor
   ·intro h;exact absurd h h2
   ·intro h;exact absurd (wE.2 h.2.1) h2
 ·rw[if_neg h1]
  constructor
  ·intro h;exact absurd h h1
  ·intro h;exact absurd (wE.2 h.1) h1
def sG(l:List Edge):Prop:=l.Pairwise fun a b=>bY a b=true
theorem aI1{l:List Edge}(h:∀i,0<i->i<l.length->bY (l.getD (i-1) default) (l.getD i default)=true):sG l:=by
 unfold sG
 induction l with
 |nil=>exact List.Pairwise.nil
 |cons e l ih=>
  have hl:=ih fun i h1 h2=>by
   have:=h (i+1) om (by simp;omega);obtain⟨j,rfl⟩:∃j,i=j+1:=⟨i-1,by omega⟩
   simpa using this
  refine List.Pairwise.cons ?_ hl
  cases l with
  |nil=>intro x hx;cases hx
  |cons f l=>
   have h1:=h 1 om sm;simp only[Cl,List.getD_cons_zero,List.getD_cons_succ]at h1;intro x hx
   rcases Au.1 hx with rfl|hx
   ·exact h1
   ·exact OI h1 ((List.pairwise_cons.1 hl).1 x hx)
theorem GY{s:Sys}(h:cF s=true):sG s.es:=by
 unfold cF at h;simp only[Ap]at h;have h4:=h.2;rw[Option.isNone_iff_eq_none,kF]at h4;refine aI1 fun i h1 h2=> ?_;have:=h4 i om om;unfold lD at this;simp only[Ei,Bool.and_eq_false_imp,decide_eq_true_eq,Ea]at this;exact this.2 h1
theorem M3{s:Sys}(h:cF s=true){e:Edge}(he:e∈s.es):cM s.al s.st e=true:=by
 unfold cF at h;simp only[Ap]at h;have h4:=h.2;rw[Option.isNone_iff_eq_none,kF]at h4;obtain⟨i,hi⟩:=List.getElem?_of_mem he;have hl:=(Ar.1 hi).1;have:=h4 i om om;unfold lD at this;simp only[Ei,Ea]at this;have h5:=this.1;rw[Ab,hi]at h5;exact h5
theorem jP{s:Sys}:cF s=true↔fQ s.al=true/\1<=s.st/\s.st<=16/\(∀e∈s.es,cM s.al s.st e=true)/\sG s.es:=by
 constructor
 ·intro h;have h1:=GY h;have h2:=fun e he=>M3 h (e:=e) he;unfold cF at h;simp only[Ap,decide_eq_true_eq]at h;exact⟨h.1.1.1,h.1.1.2,h.1.2,h2,h1⟩
 ·rintro⟨h1,h2,h3,h4,h5⟩;unfold cF;simp only[h1,h2,h3,decide_true,Bm,Cu];rw[Option.isNone_iff_eq_none,kF];intro k _ hk;have hk:k<s.es.length:=om;unfold lD;have e1:s.es.getD k default=s.es[k]:=by rw[Ab,Ae hk];rfl
  rw[e1,h4 _ (Bd hk)];simp only[Dg,Bool.false_or,Bool.and_eq_false_imp,decide_eq_true_eq,Ea];intro hz;have hk2:k-1<s.es.length:=om;have e2:s.es.getD (k-1) default=s.es[k-1]:=by rw[Ab,Ae hk2];rfl
  rw[e2];exact List.pairwise_iff_getElem.1 h5 (k-1) k hk2 hk om
def bsE(l:List Edge)(e:Edge):Nat:=bsF (fun h=>bY (l.getD h default) e) l.length 0 l.length
def hitE(l:List Edge)(e:Edge):Bool:=decide (bsE l e<l.length)&&decide (l.getD (bsE l e) default=e)
theorem aPi{l:List Edge}{e:Edge}:bsE l e<=l.length:=(M2 (Ck _)).2
theorem DY{l:List Edge}(h:sG l){i j:Nat}(hij:i<j)(hj:j<l.length):bY (l.getD i default) (l.getD j default)=true:=by
 have hi:i<l.length:=om;rw[Ab,Ae hi,Ab,Ae hj];exact List.pairwise_iff_getElem.1 h i j hi hj hij
theorem aM3{l:List Edge}(h:sG l)(e:Edge):(∀k,k<bsE l e->bY (l.getD k default) e=true)/\(∀k,bsE l e<=k->k<l.length->bY (l.getD k default) e=false):=by
 have key:=XM (p:=fun k=>decide (k<l.length)&&bY (l.getD k default) e) (k:=l.length) (i:=0) (j:=l.length) (by
  intro a b hab hb;simp only[Ap,decide_eq_true_eq]at hb|-;refine⟨by omega,?_⟩
  rcases Cr a b with h1|h1
  ·exact OI (DY h h1 hb.1) hb.2
  ·obtain rfl:a=b:=om;exact hb.2) (Ck _) om
 have same:∀(k i j:Nat),j<=l.length->bsF (fun k=>decide (k<l.length)&&bY (l.getD k default) e) k i j=bsF (fun h=>bY (l.getD h default) e) k i j:=by
  intro k
  induction k with
  |zero=>intro i j _;rfl
  |succ k ih=>
   intro i j hj;simp only[bsF]
   by_cases h1:i<j
   ·have h2:(i+j)/2<l.length:=om;simp only[h1,h2,decide_true,Cu,if_true];rw[ih _ _ hj,ih _ _ om]
   ·simp only[h1,if_false]
 rw[same _ _ _ (Ad _)]at key;refine⟨fun k hk=> ?_,fun k h1 h2=> ?_⟩
 ·have:=key.1 k (Ck _) hk;simp only[Ap,decide_eq_true_eq]at this;exact this.2
 ·have:=key.2 k h1 h2
  simpa [h2]using this
def idxE(l:List Edge)(e:Edge):Option Nat:=seek (fun k=>decide (l.getD k default=e)) l.length 0
theorem aMQ{l:List Edge}(h:sG l){e:Edge}(hh:hitE l e=false):idxE l e=none:=by
 unfold idxE;rw[kF];intro k _ hk;have hk:k<l.length:=om;simp only[decide_eq_false_iff_not];intro he;obtain⟨h1,h2⟩:=aM3 h e
 rcases Dy k (bsE l e)with h3|h3|h3
 ·have:=h1 k h3;rw[he,sH]at this;cases this
 ·subst h3;unfold hitE at hh;simp only[hk,he,decide_true,Bm]at hh;cases hh
 ·have h4:=h2 (bsE l e) (Ad _) om;have h5:=DY h h3 hk;rw[he]at h5;rw[h5]at h4;cases h4
theorem DS{al st:Int}{l:List Edge}(h:cF ⟨al,st,l⟩=true):∀e∈l,0<=e.fr/\e.fr<16/\0<=e.lt/\e.lt<6/\0<=e.to/\e.to<16:=by
 intro e he;have h1:=M3 h he;have h':=h;unfold cF at h';simp only[Ap,decide_eq_true_eq]at h';unfold cM at h1;simp only[Ap,decide_eq_true_eq]at h1;omega
abbrev Mb:Type:=Int×(Int->List Int)
def nxR:List Mb->Int->List Int
 | [],_=>[0]
 |m::ms,v=>mulN (nxR ms (v.tdiv m.1)) m.1 (m.2 (v.tmod m.1))
theorem z7{out ch:List Int}{z x:Int}:x∈mulN out z ch↔∃o∈out,∃c∈ch,x=o*z+c:=by
 unfold mulN;simp only[Du,Bv]
 constructor
 ·rintro⟨o,ho,c,hc,rfl⟩;exact⟨o,ho,c,hc,rfl⟩
 ·rintro⟨o,ho,c,hc,rfl⟩;exact⟨o,ho,c,hc,rfl⟩
def SV:List (Int×List Int)->List Int->List Int
 | [],out=>out
 |p::r,out=>SV r (mulN out p.1 p.2)
theorem UZ{p:Int×List Int}:∀ {a:List (Int×List Int)} {out:List Int},SV (a++[p]) out=mulN (SV a out) p.1 p.2
 | [],_=>rfl
 |q::a,out=>UZ (a:=a)
theorem aAA{ch:Nat->List Int}{zs:List Int}:∀(j i:Nat) (out:List Int),nexG ch zs j i out=SV ((List.range' i j).map fun k=>(zs.getD k 0,ch k)) out
 |0,_,_=>rfl
 |j+1,i,out=>by
  rw[nexG,aAA j (i+1),Dq];rfl
def digR(ms:List Mb)(v:Int):List (Int×List Int):=List.zipWith (fun m q=>(m.1,m.2 q)) ms (decR (ms.map (·.1)) v)
theorem aCo:∀(ms:List Mb) (v:Int),nxR ms v=SV (digR ms v).reverse [0]
 | [],_=>rfl
 |m::ms,v=>by
  have e:digR (m::ms) v=(m.1,m.2 (v.tmod m.1))::digR ms (v.tdiv m.1):=rfl;rw[e,List.reverse_cons,UZ,nxR,aCo ms]
theorem aL1{ms:List Mb}{v:Int}:(digR ms.reverse v).reverse=(List.range' 0 ms.length).map fun k=>((ms.map (·.1)).getD k 0,(ms.getD k (0,fun _=>[])).2 ((decN (ms.map (·.1)) v).getD k 0)):=by
 have hl:(decR (ms.map (·.1)).reverse v).length=ms.length:=by rw[N2];simp
 unfold digR decN;rw[List.map_reverse,List.reverse_zipWith (by simp[hl]),List.reverse_reverse];refine List.ext_getElem (by simp[hl]) fun i h1 h2=> ?_;have hi:i<ms.length:=by simpa using h2
 rw[List.getElem_zipWith,List.getElem_map,List.getElem_range'];simp only[Af,Nat.one_mul];rw[Ab,Bc,Ae hi,Ab,Ae hi,Ab,Ae (by simp[hl];exact hi)];rfl
theorem aNr{ms:List Mb}{v:Int}{ch:Nat->List Int}(hc:∀k,k<ms.length->ch k=(ms.getD k (0,fun _=>[])).2 ((decN (ms.map (·.1)) v).getD k 0)):nexG ch (ms.map (·.1)) ms.length 0 [0]=nxR ms.reverse v:=by
 rw[aCo,aL1,aAA]
 congr 1
 refine List.map_congr_left fun k hk=> ?_;rw[Cw]at hk;rw[hc k om]
def AL:List Mb->Int->Int->List Int->List Int
 | [],_,_,r=>r
 |m::ms,v,w,r=>AL ms (v.tdiv m.1) (w*m.1) ((m.2 (v.tmod m.1)).flatMap fun q=>r.map fun x=>q*w+x)
theorem aC9{x:Int}:∀ {ms:List Mb} {v w:Int} {r:List Int},x∈AL ms v w r↔∃y∈nxR ms v,∃z∈r,x=y*w+z
 | [],v,w,r=>by simp[AL,nxR]
 |m::ms,v,w,r=>by
  rw[AL,aC9 (ms:=ms),nxR];simp only[z7,Du,Bv]
  constructor
  ·rintro⟨y,hy,_,⟨q,hq,z,hz,rfl⟩,rfl⟩;refine⟨_,⟨y,hy,q,hq,rfl⟩,z,hz,?_⟩;rw[Int.add_mul,Int.mul_assoc,Int.mul_comm m.1 w];omega
  ·rintro⟨_,⟨y,hy,q,hq,rfl⟩,z,hz,rfl⟩;refine⟨y,hy,q*w+z,⟨q,hq,z,hz,rfl⟩,?_⟩;rw[Int.add_mul,Int.mul_assoc,Int.mul_comm m.1 w];omega
def pnx(ms:List Mb)(v:Int):List Int:=AL ms v 1 [0]
theorem aBV{x v:Int}{ms:List Mb}:x∈pnx ms v↔x∈nxR ms v:=by
 unfold pnx;rw[aC9];simp
def aNU(m m2:Mb):Prop:=m.1=m2.1/\0<m.1/\∀q,0<=q->q<m.1->∀x,x∈m.2 q↔x∈m2.2 q
inductive SameMs:List Mb->List Mb->Prop
 |nil:SameMs [] []
 |cons {m m2:Mb} {ms ms2:List Mb} (h:aNU m m2) (hs:SameMs ms ms2):SameMs (m::ms) (m2::ms2)
theorem mB{v z:Int}(hv:0<=v)(hz:0<z):0<=v.tmod z/\v.tmod z<z:=⟨Int.tmod_nonneg _ hv,Int.tmod_lt_of_pos _ hz⟩
theorem aNu{x:Int}:∀ {ms ms2:List Mb} {v:Int},SameMs ms ms2->0<=v->(x∈nxR ms v↔x∈nxR ms2 v):=by
 intro ms ms2 v h
 induction h generalizing v x with
 |nil=>intro _;exact Iff.rfl
 | @cons m m2 ms ms2 hm hs ih=>
  intro hv;obtain⟨e,hz,hq⟩:=hm;have hr:=mB hv hz;have hd:0<=v.tdiv m.1:=Cz hv om;unfold nxR;rw[z7,z7,<-e]
  constructor
  ·rintro⟨o,ho,c,hc,rfl⟩;exact⟨o,(ih hd).1 ho,c,(hq _ hr.1 hr.2 c).1 hc,rfl⟩
  ·rintro⟨o,ho,c,hc,rfl⟩;exact⟨o,(ih hd).2 ho,c,(hq _ hr.1 hr.2 c).2 hc,rfl⟩
def totR:List Mb->Int
 | []=>1
 |m::ms=>totR ms*m.1
theorem aBY:∀ {ms:List Mb} {v:Int},(∀m∈ms,0<m.1/\∀q,0<=q->q<m.1->∀x∈m.2 q,0<=x/\x<m.1)->0<=v->∀x∈nxR ms v,0<=x/\x<totR ms
 | [],v,_,_,x,hx=>by
  simp only[nxR,Cc]at hx;subst hx;exact⟨Int.le_refl _,by unfold totR;omega⟩
 |m::ms,v,h,hv,x,hx=>by
  obtain⟨hz,hc⟩:=h m Bl;obtain⟨o,ho,c,hc2,rfl⟩:=z7.1 hx;have hr:=mB hv hz;obtain⟨c0,c1⟩:=hc _ hr.1 hr.2 c hc2;obtain⟨o0,o1⟩:=aBY (fun m hm=>h m (Bi _ hm)) (Cz hv om) o ho;have:=Cm o0 (Int.le_of_lt hz);have h2:(o+1)*m.1<=totR ms*m.1:=Cq om om;rw[Int.add_mul,Int.one_mul]at h2;unfold totR;omega
theorem HT{nx nx2:Int->Int->List Int}{ls:List Int}{I:Int->Prop}(hI:∀v l m,I v->l∈ls->m∈nx v l->I m)(hs:∀v l,I v->l∈ls->∀m,m∈nx v l↔m∈nx2 v l):∀(w:List Int) (v u:Int),I v->(Path nx ls v w u↔Path nx2 ls v w u)
 | [],_,_,_=>Iff.rfl
 |l::w,v,u,hv=>by
  simp only[Path]
  constructor
  ·rintro⟨hl,m,hm,hp⟩;exact⟨hl,m,(hs v l hv hl m).1 hm,(HT hI hs w m u (hI v l m hv hl hm)).1 hp⟩
  ·rintro⟨hl,m,hm,hp⟩;have hm':=(hs v l hv hl m).2 hm;exact⟨hl,m,hm',(HT hI hs w m u (hI v l m hv hl hm')).2 hp⟩
theorem aKa{nx nx2:Int->Int->List Int}{ls start:List Int}{gl gl2:Int->Bool}{I:Int->Prop}(hI:∀v l m,I v->l∈ls->m∈nx v l->I m)(hs:∀v l,I v->l∈ls->∀m,m∈nx v l↔m∈nx2 v l)(h0:∀s∈start,I s)(hg:∀v,I v->gl v=gl2 v)(hP:∀w v u,I v->Path nx ls v w u->I u)(w:List Int):Hits nx ls start gl w↔Hits nx2 ls start gl2 w:=by
 unfold Hits uP
 constructor
 ·rintro⟨u,⟨s,hs1,hp⟩,hu⟩;exact⟨u,⟨s,hs1,(HT hI hs w s u (h0 s hs1)).1 hp⟩,by rw[<-hg u (hP w s u (h0 s hs1) hp)];exact hu⟩
 ·rintro⟨u,⟨s,hs1,hp⟩,hu⟩;have hp':=(HT hI hs w s u (h0 s hs1)).2 hp;exact⟨u,⟨s,hs1,hp'⟩,by rw[hg u (hP w s u (h0 s hs1) hp')];exact hu⟩
theorem aIa{nx:Int->Int->List Int}{ls:List Int}{I:Int->Prop}(hI:∀v l m,I v->l∈ls->m∈nx v l->I m):∀(w:List Int) (v u:Int),I v->Path nx ls v w u->I u
 | [],v,u,hv,hp=>by simp only[Path]at hp;exact hp▸hv
 |l::w,v,u,hv,hp=>by
  simp only[Path]at hp;obtain⟨hl,m,hm,hp⟩:=hp;exact aIa hI w m u (hI v l m hv hl hm) hp
def choI(s:Sys)(l q:Int):List Int:=if dT s.al l=true then memG (mvAt s.es.reverse (q.toNat*6+l.toNat)) (mvAt s.es.reverse (q.toNat*6+l.toNat))else [q]
def choS(s:Sys)(l q:Int):List Int:=if dT s.al l=true then eX s.es q l else [q]
def sysI(l:Int)(s:Sys):Mb:=(s.st,choI s l)
def sysS(l:Int)(s:Sys):Mb:=(s.st,choS s l)
theorem aLP{l:List Edge}{k j:Nat}:(mvAt l.reverse k).testBit j=true↔∃e∈l,e.fr.toNat*6+e.lt.toNat=k/\e.to.toNat=j:=by
 rw[XH];simp only[Dn]
theorem NA{s:Sys}(h:cF s=true)(k:Nat):mvAt s.es.reverse k<2^16:=
 aH4 fun e he=>by have:=DS (al:=s.al) (st:=s.st) h e (Dn.1 he);omega
theorem aID{s:Sys}(h:cF s=true){l q:Int}(hl:0<=l/\l<6)(hq:0<=q)(x:Int):x∈choI s l q↔x∈choS s l q:=by
 unfold choI choS
 by_cases hb:dT s.al l=true
 ·rw[if_pos hb,if_pos hb];have hm:=NA h (q.toNat*6+l.toNat);unfold eX;simp only[Bv,Dl,Ap,decide_eq_true_eq]
  constructor
  ·intro hx;obtain⟨x0,hx⟩:=aEO _ _ om x hx;obtain⟨e,he,e1,e2⟩:=aLP.1 hx;have:=DS (al:=s.al) (st:=s.st) h e he;exact⟨e,⟨he,by omega,by omega⟩,by omega⟩
  ·rintro⟨e,⟨he,rfl,rfl⟩,rfl⟩;have:=DS (al:=s.al) (st:=s.st) h e he;have hb:=aEM (mvAt s.es.reverse (e.fr.toNat*6+e.lt.toNat)) _ om (Ad _) e.to.toNat (aLP.2 ⟨e,he,rfl,rfl⟩);rw[Int.toNat_of_nonneg this.2.2.2.2.1]at hb;exact hb
 ·rw[if_neg hb,if_neg hb]
theorem M5{s:Sys}(h:cF s=true){l q:Int}(hq:0<=q/\q<s.st):∀x∈choS s l q,0<=x/\x<s.st:=by
 intro x hx;unfold choS at hx
 split at hx
 ·unfold eX at hx;obtain⟨e,he,rfl⟩:=Bv.1 hx;have:=M3 h (Dl.1 he).1;unfold cM at this;simp only[Ap,decide_eq_true_eq]at this;omega
 ·simp only[Cc]at hx;omega
theorem aNd{s:Sys}(h:cF s=true){l:Int}(hl:0<=l/\l<6):aNU (sysI l s) (sysS l s):=⟨rfl,by have:=(jP.1 h).2.1;show 0<s.st;omega,fun _ hq _ x=>aID h hl hq x⟩
theorem aBy{R:Type}{L n:Nat}(hn:1<=n){k:KE R}:∀(q s m:Nat) (o:List Int) (len:Nat) (hs:s<65536) (hq:s<=q) (hm:q<m) (hlen:len=o.length) (ho:o.length+q<=70000),
  aV env (aA env L n) L 0 [0,0,0,2] Bz63 (FE 0) (Z1 (U1 (Z2 (U8 (U4 (U1 ([]))))))) m (nI s::Y1 (.d .nils::.sl 0 0 0 len::Y8 (Y4 (Y1 ([]))))) [.arr (ints o) 1 0] k
  =k (.exit 0) (nI 0::Y1 (.d .nils::.sl 0 0 0 (o++memG q s).length::Y8 (Y4 (Y1 ([]))))) [.arr (ints (o++memG q s)) 1 0]:=by
 intro q
 induction q with
 |zero=>
  intro s m o len hs hq hm hlen ho;obtain _|m:=m;omega;obtain rfl:s=0:=om;subst hlen
  simp-implicitDefEqProofs (maxSteps:=9^7) (disch:=try exact Dz) only[↓DN,↓kRet,UP,simprocAttr,u6,uN,Tryz.f180];simp only[memG,Ai,Aa,Br]
 |succ q ih=>
  intro s m o len hs hq hm hlen ho;obtain _|m:=m;omega;subst hlen
  by_cases h0:s=0
  ·subst h0
   simp-implicitDefEqProofs (maxSteps:=9^7) (disch:=try exact Dz) only[↓DN,↓kRet,UP,simprocAttr,u6,uN,Tryz.f180];simp only[memG,if_true,Ai,Aa,Br]
  ·have h0':¬(s:Int)=0:=om;have hct:=aMI h0 hs;have e1:IntKind.u64.wrap (s:Int)=(s:Int):=ZO om om;have e4:iAnd .i64 (s:Int) ((s-1:Nat):Int)=((s&&&(s-1):Nat):Int):=aMP om om
   have e5:IntKind.i64.wrap ((s:Int)-1)=((s-1:Nat):Int):=by
    have e3:(s:Int)-1=((s-1:Nat):Int):=om;rw[<-e3];exact dW om om
   have l1:=Nat.and_le_right (n:=s) (m:=s-1);have ih':=ih (s&&&(s-1)) m (o++[((Lib.ctz 64 s:Nat):Int)]) (o.length+1) om om om sm (by simp;omega);clear ih l1 hct
   simp-implicitDefEqProofs (maxSteps:=9^7) (disch:=try exact Dz) only[↓DN,↓kRet,UP,simprocAttr,h0',e1,e4,e5,↓B5,↓aBG,↓ih',u6,uN,Tryz.f180];simp only[memG,h0,if_false,Ao,At,Am,Ac];rw[show o.length+1+(memG q (s&&&(s-1))).length=o.length+((memG q (s&&&(s-1))).length+1) by omega]
theorem RC{L n:Nat}(hn:2<=n)(s:Nat)(hs:s<65536)(hL:2^60<=L):aA env L n 180 [nI (s:Nat)] []=some (.d (.ivs (memG s s).length (ints (memG s s))),[]):=by
 have loop_c:=fun {R n k} hn=> @aBy R L n hn k s s L [] 0 hs (Ad _) om rfl (by simp;omega);simp only[Am,i7]at loop_c;obtain _|n:=n;omega
 simp-implicitDefEqProofs (maxSteps:=9^7) (disch:=try exact Dz) only[↓DN,↓kAsg,UP,simprocAttr,↓loop_c,aFK,VG,Tryz.f180]
theorem aFE:type_of% fun {L} s hs hL=>ks fun hn=> @RC L _ hn s hs hL:=fun {L} s hs hL=>ks fun hn=> @RC L _ hn s hs hL
section
variable{R:Type}{L n:Nat}
def cP(P:List Sys):Prop:=P.length<=4294967296/\∀s∈P,s.es.length<=4294967296
def bR(P:List Sys):Bool:=decide (1<=P.length)&&decide (P.length<=3)&&P.all cF
theorem xE{P:List Sys}(h:cP P){i:Nat}(hi:i<P.length):(P.getD i default).es.length<=4294967296:=by
 rw[Ab,Ae hi];exact h.2 _ (Bd hi)
theorem mY{l:List Sys}{k:Nat}(h:k<l.length):(((sysD l).drop (k*3)).map A.d).take 3=[.d (.int .i64 (l.getD k default).al),.d (.int .i64 (l.getD k default).st),.d (.ivs (l.getD k default).es.length (aJ (l.getD k default).es))]:=by
 rw[vK,bM h (d:=default)];rfl
def uK(P:List Sys)(i:Nat):Bool:=!cF (P.getD i default)
theorem RK{P:List Sys}:(seek (uK P) P.length 0).isNone=P.all cF:=by
 rw[Bool.eq_iff_iff,Option.isNone_iff_eq_none,kF,Bs]
 constructor
 ·intro h s hs;obtain⟨i,hi,rfl⟩:=Dj hs;have:=h i om om;unfold uK at this;rw[Ab,Ae hi]at this
  simpa using this
 ·intro h i _ hi;have hi:i<P.length:=om;unfold uK;rw[Ab,Ae hi];simp[h _ (Bd hi)]
theorem GK(hn:7<=n)(s:Sys)(hl:s.es.length<=4294967296)(hL:2^60<=L):aA env L n 129 [.agg [nI s.al,nI s.st,.d (.ivs s.es.length (aJ s.es))]] []=some (.d (.bool (!cF s)),[]):=by
 obtain _|n:=n;omega
 simp-implicitDefEqProofs (maxSteps:=9^7) (disch:=try exact Dz) only[↓DN,↓kAsg,↓kRet,UP,simprocAttr,↓GH,W9,IV,Tryz.f129]
theorem WY:type_of% fun {L} s hl hL=>ks fun hn=> @GK L _ hn s hl hL:=fun {L} s hl hL=>ks fun hn=> @GK L _ hn s hl hL
theorem pA(hn:8<=n)(hL:2^60<=L){P:List Sys}(hP:cP P){k:KE R}:∀(j i m:Nat) (hi:i+j=P.length) (hm:j<m),
  aV env (aA env L n) L 0 [] Bz59 (eY 0) (Z2 (U2 (Z1 (U2 (Z2 (U8 (U2 ([])))))))) m (.d (.ivs P.length (sysD P))::.d (.fn 129 [])::Y2 (nI 0::Y2 (nI (P.length)::nI i::Y8 (Y2 ([]))))) [] k
  =match seek (uK P) j i with
   |none=>k (.exit 0) (.d (.ivs P.length (sysD P))::.d (.fn 129 [])::Y2 (nI 0::Y2 (nI (P.length)::nI (P.length)::Y8 (Y2 ([]))))) []
   |some q=>k .ret (.d (.ivs P.length (sysD P))::.d (.fn 129 [])::Y2 (nI q::Y2 (nI (P.length)::nI q::Y8 (Y2 ([]))))) []:=by
 have hP1:=hP.1;intro j
 induction j with
 |zero=>
  intro i m hi hm;obtain _|m:=m;omega;obtain rfl:i=P.length:=om
  simp-implicitDefEqProofs (maxSteps:=9^7) (disch:=try exact Dz) only[↓DN,↓kRet,UP,simprocAttr,Al,eF,dD,Tryz.f193]<;>rfl
 |succ j ih=>
  intro i m hi hm;obtain _|m:=m;omega;have hk:i<P.length:=om;have hc:(i:Int)<P.length:=om;have hi0:(0:Int)<=i:=om;have hs:=xE hP hk;have g:=mY hk;have kc_a:=@WY L (P.getD i default) hs hL;have hno:uK P i= !cF (P.getD i default):=rfl
  cases hz:cF (P.getD i default)with
  |false=>
   rw[hz]at hno kc_a;rw[iY hno];clear ih hP;generalize P.getD i default=s at *
   simp-implicitDefEqProofs (maxSteps:=9^7) (disch:=try exact Dz) only[↓DN,↓kRet,UP,simprocAttr,NE,Aw,Ba,hc,hi0,g,↓kc_a,eF,dD,Tryz.f193]
  |true=>
   rw[hz]at hno kc_a;rw[kS hno];have ih':=ih (i+1) m om om;rw[cs1 i]at ih';clear ih hP;generalize P.getD i default=s at *
   simp-implicitDefEqProofs (maxSteps:=9^7) (disch:=try exact Dz) only[↓DN,↓kRet,UP,simprocAttr,NE,Aw,Ba,hc,hi0,g,↓kc_a,↓ih',eF,dD,Tryz.f193]
def aG0(P:List Sys):Int:=match seek (uK P) P.length 0 with
 |none=> -1
 |some q=>(q:Int)
theorem jF(hn:9<=n)(P:List Sys)(hP:cP P)(hL:2^60<=L):aA env L n 193 [.d (.ivs P.length (sysD P)),.d (.fn 129 [])] []=some (nI (aG0 P),[]):=by
 have hP1:=hP.1;have loop_a:=fun {R n k} hn=> @pA R L n hn hL P hP k P.length 0 L om om;simp only[Av]at loop_a;unfold aG0
 cases hs:seek (uK P) P.length 0 with
 |none=>
  simp only[hs]at loop_a;obtain _|n:=n;omega
  simp-implicitDefEqProofs (maxSteps:=9^7) (disch:=try exact Dz) only[↓DN,↓kAsg,↓kRet,UP,simprocAttr,↓loop_a,jG,fC,Tryz.f193]
 |some q=>
  simp only[hs]at loop_a;obtain _|n:=n;omega
  simp-implicitDefEqProofs (maxSteps:=9^7) (disch:=try exact Dz) only[↓DN,↓kAsg,↓kRet,UP,simprocAttr,↓loop_a,jG,fC,Tryz.f193]
theorem qJ:type_of% fun {L} P hP hL=>ks fun hn=> @jF L _ hn P hP hL:=fun {L} P hP hL=>ks fun hn=> @jF L _ hn P hP hL
theorem c7(hn:10<=n)(P:List Sys)(hP:cP P)(hL:2^60<=L):aA env L n 128 [.d (.ivs P.length (sysD P)),.d (.fn 129 [])] []=some (.d (.bool (!P.all cF)),[]):=by
 have hP1:=hP.1;have kc_x:=@qJ L P hP hL;rw[<-RK];unfold aG0 at kc_x
 cases hs:seek (uK P) P.length 0 with
 |none=>
  simp only[hs]at kc_x;have h0:¬(0:Int)<= -1:=om;obtain _|n:=n;omega
  simp-implicitDefEqProofs (maxSteps:=9^7) (disch:=try exact Dz) only[↓DN,↓kAsg,↓kRet,UP,simprocAttr,↓kc_x,h0,hJ,eK,Tryz.f128]
 |some q=>
  simp only[hs]at kc_x;have h0:(0:Int)<=q:=om;obtain _|n:=n;omega
  simp-implicitDefEqProofs (maxSteps:=9^7) (disch:=try exact Dz) only[↓DN,↓kAsg,↓kRet,UP,simprocAttr,↓kc_x,h0,hJ,eK,Tryz.f128]
theorem nV:type_of% fun {L} P hP hL=>ks fun hn=> @c7 L _ hn P hP hL:=fun {L} P hP hL=>ks fun hn=> @c7 L _ hn P hP hL
theorem nY:type_of% fun {L} P hP hL=>kt fun hn=> @c7 L _ hn P hP hL:=fun {L} P hP hL=>kt fun hn=> @c7 L _ hn P hP hL
theorem N9(hn:11<=n)(P:List Sys)(hP:cP P)(hL:2^60<=L):aA env L n 62 [.d (.ivs P.length (sysD P))] []=some (.d (.bool (bR P)),[]):=by
 have hP1:=hP.1;have kc_x:=@nV L P hP hL;have kl_x:=@nY L P hP hL;have kv_l:=fun {R:Type} {n:Nat} {hq:H} {args:List A} {k:KA R}=>d7 (E:=env) (call:=aA env L n) (h:=hq) (k:=k) (args:=args) eA;unfold bR
 by_cases h1:1<=P.length
 ·have h1':(1:Int)<=P.length:=om;rw[decide_eq_true h1]
  by_cases h3:P.length<=3
  ·have h3':(P.length:Int)<=3:=om;rw[decide_eq_true h3];generalize P.all cF=b at *;obtain _|n:=n;omega
   simp-implicitDefEqProofs (maxSteps:=9^7) (disch:=try exact Dz) only[↓DN,↓kAsg,↓kRet,UP,simprocAttr,↓kv_l,↓kl_x,h1',h3',Bool.not_not,B2,yC,Tryz.f62]
  ·have h3':¬(P.length:Int)<=3:=om;rw[decide_eq_false h3];obtain _|n:=n;omega
   simp-implicitDefEqProofs (maxSteps:=9^7) (disch:=try exact Dz) only[↓DN,↓kAsg,↓kRet,UP,simprocAttr,h1',h3',B2,yC,Tryz.f62]
 ·have h1':¬(1:Int)<=P.length:=om;rw[decide_eq_false h1];obtain _|n:=n;omega
  simp-implicitDefEqProofs (maxSteps:=9^7) (disch:=try exact Dz) only[↓DN,↓kAsg,↓kRet,UP,simprocAttr,h1',B2,yC,Tryz.f62]
theorem dM:type_of% fun {L} P hP hL=>ks fun hn=> @N9 L _ hn P hP hL:=fun {L} P hP hL=>ks fun hn=> @N9 L _ hn P hP hL
end
section
variable{R:Type}{L n:Nat}
def mvsD(P:List Sys):List D:=P.map fun s=>.iptr (mvD s.es.reverse)
theorem aMv:mvsD []=[]:=rfl
theorem FO{P:List Sys}:(mvsD P).length=P.length:=Aw _
theorem aFh{P:List Sys}{k:Nat}(h:P.length<=k):(mvsD P).take k=mvsD P:=Bx (by rw[FO];exact h)
theorem aF2{P:List Sys}{s:Sys}:mvsD P++[.iptr (mvD s.es.reverse)]=mvsD (P++[s]):=by simp[mvsD]
theorem aM2{P:List Sys}{k:Nat}(h:k<P.length):(((mvsD P).drop k).map A.d).head? =some (.d (.iptr (mvD (P.getD k default).es.reverse))):=by
 rw[Dm,Cs,mvsD,Bc,Ab,Ae h];rfl
theorem eT{P:List Sys}(h:bR P=true):P.length<=3/\1<=P.length/\∀s∈P,cF s=true:=by
 unfold bR at h;simp only[Ap,decide_eq_true_eq,Bs]at h;exact⟨h.1.2,h.1.1,h.2⟩
theorem GL{P:List Sys}{i:Nat}(hi:i<P.length):P.getD i default∈P:=by
 rw[Ab,Ae hi];exact Bd hi
def cL(P:List Sys):Int:=P.foldl (fun z s=>z*s.st) 1
theorem Y0(hn:3<=n)(hL:2^60<=L){P:List Sys}(hP:cP P)(h3:P.length<=3)(hv:∀s∈P,cF s=true){k:KE R}:∀(j i m:Nat) (Q:List Sys) (len e:Nat) (hi:i+j=P.length) (hm:j<m) (hQ:Q=P.take i) (hlen:i=len) (he:e=if i=0 then 0 else 1),
  aV env (aA env L n) L 0 [] Bz58 (CJ 0) (U2 (Z2 (U4 (Z2 (Z1 (U8 (U4 ([])))))))) m (Y2 (.ptr 0 0 0::.ptr 1 0 0::Y4 (.d (.ivs P.length (sysD P))::nI (P.length)::nI i::Y8 (Y4 ([]))))) [.box [.sl 2 0 0 0,.sl 3 0 0 0],.box [.d (.ivs P.length (sysD P)),.sl 4 0 0 len],.arr [] 0 0,.arr [] 0 0,.arr (mvsD Q) e 0] k
  =k (.exit 0) (Y2 (.ptr 0 0 0::.ptr 1 0 0::Y4 (.d (.ivs P.length (sysD P))::nI (P.length)::nI (P.length)::Y8 (Y4 ([]))))) [.box [.sl 2 0 0 0,.sl 3 0 0 0],.box [.d (.ivs P.length (sysD P)),.sl 4 0 0 P.length],.arr [] 0 0,.arr [] 0 0,.arr (mvsD P) (if P.length=0 then 0 else 1) 0]:=by
 intro j
 induction j with
 |zero=>
  intro i m Q len e hi hm hQ hlen he;obtain _|m:=m;omega;obtain rfl:i=P.length:=om;rw[Cv]at hQ;subst hQ;subst hlen;subst he
  simp-implicitDefEqProofs (maxSteps:=9^7) (disch:=try exact Dz) only[↓DN,↓kRet,UP,simprocAttr,Al,sZ,rZ,Tryz.f148]
 |succ j ih=>
  intro i m Q len e hi hm hQ hlen he;obtain _|m:=m;omega;subst hlen;have hk:i<P.length:=om;have hc:(i:Int)<P.length:=om;have hi0:(0:Int)<=i:=om;have hs:=xE hP hk;have g:=mY hk;have hQl:Q.length=i:=by rw[hQ,Cf];omega
  have ih':=ih (i+1) m (Q++[P.getD i default]) (i+1) 1 om om (by rw[hQ,Dt,Ab,Ae hk];rfl) rfl (by rw[if_neg om]);rw[cs1 i]at ih';have ht:(mvsD Q).take i=mvsD Q:=aFh om;have kc_m:=@aGo L (P.getD i default).al (P.getD i default).st (P.getD i default).es hs (DS (al:=(P.getD i default).al) (st:=(P.getD i default).st) (hv _ (GL hk))) hL;clear ih hQ hv hP;generalize P.getD i default=s at *
  by_cases hz:i=0
  ·obtain rfl:e=0:=by rw[he,if_pos hz]
   clear he hz
   simp-implicitDefEqProofs (maxSteps:=9^7) (disch:=try exact Dz) only[↓DN,↓kRet,UP,simprocAttr,NE,Aw,Ba,hc,hi0,g,↓kc_m,ht,FO,aF2,↓ih',sZ,rZ,Tryz.f148]
  ·obtain rfl:e=1:=by rw[he,if_neg hz]
   clear he hz
   simp-implicitDefEqProofs (maxSteps:=9^7) (disch:=try exact Dz) only[↓DN,↓kRet,UP,simprocAttr,NE,Aw,Ba,hc,hi0,g,↓kc_m,ht,FO,aF2,↓ih',sZ,rZ,Tryz.f148]
theorem OO(hn:4<=n)(P:List Sys)(hP:cP P)(hv:bR P=true)(hL:2^60<=L):aA env L n 148 [.d (.ivs P.length (sysD P))] []=some (.agg [.d (.ivs P.length (sysD P)),.d (.ivs P.length (mvsD P))],[]):=by
 obtain⟨h3,h1,hs⟩:=eT hv;have loop_a:=fun {R n k} hn=> @Y0 R L n hn hL P hP h3 hs k P.length 0 L [] 0 0 om om rfl rfl rfl;simp only[Av,aMv,if_neg (show ¬P.length=0 by omega)]at loop_a;have ht:(mvsD P).take P.length=mvsD P:=aFh (Ad _);clear hv hs hP;obtain _|n:=n;omega
 simp-implicitDefEqProofs (maxSteps:=9^7) (disch:=try exact Dz) only[↓DN,↓kRet,UP,simprocAttr,↓loop_a,ht,FO,Ad,aEo,RL,Tryz.f148]
theorem aEr:type_of% fun {L} P hP hv hL=>ks fun hn=> @OO L _ hn P hP hv hL:=fun {L} P hP hv hL=>ks fun hn=> @OO L _ hn P hP hv hL
theorem UL(hn:1<=n){P:List Sys}(h3:P.length<=3)(hv:∀s∈P,cF s=true){k:KE R}:∀(j i m:Nat) (z:Int) (hi:i+j=P.length) (hm:j<m) (hz0:0<=z) (hz:z<=16^i),
  aV env (aA env L n) L 0 [] Bz48 (yE 0) (U2 (Z2 (U2 (U1 (Z2 (Z1 (U8 (U1 ([]))))))))) m (Y2 (nI 0::nI z::Y2 (Y1 (.d (.ivs P.length (sysD P))::nI (P.length)::nI i::Y8 (Y1 ([])))))) [] k
  =k (.exit 0) (Y2 (nI 0::nI ((P.drop i).foldl (fun z s=>z*s.st) z)::Y2 (Y1 (.d (.ivs P.length (sysD P))::nI (P.length)::nI (P.length)::Y8 (Y1 ([])))))) []:=by
 intro j
 induction j with
 |zero=>
  intro i m z hi hm hz0 hz;obtain _|m:=m;omega;obtain rfl:i=P.length:=om;rw[Cg]
  simp-implicitDefEqProofs (maxSteps:=9^7) (disch:=try exact Dz) only[↓DN,↓kRet,UP,simprocAttr,Al,yN,uX,Tryz.f153]<;>rfl
 |succ j ih=>
  intro i m z hi hm hz0 hz;obtain _|m:=m;omega;have hk:i<P.length:=om;have hc:(i:Int)<P.length:=om;have hi0:(0:Int)<=i:=om;have g:=mY hk;obtain⟨_,s1,s2,_,_⟩:=jP.1 (hv _ (GL hk))
  have hp:(16:Int)^i<=16^3:=by
   rcases(show i=0\/i=1\/i=2 by omega)with rfl|rfl|rfl<;>decide
  have hz2:z*(P.getD i default).st<=z*16:=Do s2 hz0;have hz3:0<=z*(P.getD i default).st:=Cm hz0 om;have e1:(16:Int)^(i+1)=16^i*16:=Int.pow_succ ..;have hw:IntKind.i64.wrap (z*(P.getD i default).st)=z*(P.getD i default).st:=dW om om;have ih':=ih (i+1) m (z*(P.getD i default).st) om om hz3 om;rw[cs1 i]at ih';rw[bM hk (d:=default),Ct];clear ih hv e1 hp;generalize P.drop (i+1)=w at *;generalize P.getD i default=s at *
  simp-implicitDefEqProofs (maxSteps:=9^7) (disch:=try exact Dz) only[↓DN,↓kRet,UP,simprocAttr,NE,Aw,Ba,hc,hi0,g,hw,↓ih',yN,uX,Tryz.f153]
theorem IY(hn:2<=n)(P:List Sys)(hv:bR P=true)(hL:2^60<=L):aA env L n 153 [.agg [.d (.ivs P.length (sysD P)),.d (.ivs P.length (mvsD P))]] []=some (nI (cL P),[]):=by
 obtain⟨h3,h1,hs⟩:=eT hv;have loop_a:=fun {R n k} hn=> @UL R L n hn P h3 hs k P.length 0 L 1 om om om sm;rw[Ay]at loop_a;simp only[Av]at loop_a;unfold cL;clear hv hs;obtain _|n:=n;omega
 simp-implicitDefEqProofs (maxSteps:=9^7) (disch:=try exact Dz) only[↓DN,↓kAsg,↓kRet,UP,simprocAttr,↓loop_a,ZG,LZ,Tryz.f153]
theorem aAU:type_of% fun {L} P hv hL=>ks fun hn=> @IY L _ hn P hv hL:=fun {L} P hv hL=>ks fun hn=> @IY L _ hn P hv hL
end
section
variable{R:Type}{L n:Nat}
abbrev eI(l:List Int):Nat:=1
theorem aLt{v:Int}:ints [v]=[.int .i64 v]:=rfl
theorem aLV(hn:1<=n){P:List Sys}{s:Sys}{o r ts:List Int}{e:Nat}{v l w i q:Int}{p:Nat}(hP:P.length<=3)(hr:r.length<=4096)(he:e=eI r)(hts:ts.length<=16)(hw:0<=w/\w<=4096)(hq:0<=q/\q<16)(hx:∀x∈r,0<=x/\x<4096){k:KE R}:∀(j y m:Nat) (mr:List Int) (len e2:Nat) (hy:y+j=r.length) (hm:j<m) (hlen:mr.length=len) (he2:e2=eI mr) (hmr:mr.length+j<=1000000),
  aV env (aA env L n) L 1 (W8 (W4 (W2 [2]))) Bz0 (eW 2) Bz7 m (Y1 (nI v::nI l::.sl 0 0 0 o.length::.ptr 1 0 0::Y2 (Y1 (.d .nils::.sl 2 0 0 r.length::nI w::nI i::.ptr 3 0 0::Y1 (.sl 4 0 0 len::Y1 (nI q::Y32 (Y8 (.d (.ivs ts.length (ints ts))::nI (ts.length)::nI p::Y2 (Y1 (.sl 2 0 0 r.length::nI (r.length)::nI y::Y16 (Y8 (Y1 ([]))))))))))))) [.arr (ints o) 1 0,.box [.d (.ivs P.length (sysD P)),.d (.ivs P.length (mvsD P))],.arr (ints r) e 0,.box [nI s.al,nI s.st,.d (.ivs s.es.length (aJ s.es))],.arr (ints (mr)) e2 0] k
  =k (.exit 4) (Y1 (nI v::nI l::.sl 0 0 0 o.length::.ptr 1 0 0::Y2 (Y1 (.d .nils::.sl 2 0 0 r.length::nI w::nI i::.ptr 3 0 0::Y1 (.sl 4 0 0 (mr++(r.drop y).map fun x=>q*w+x).length::Y1 (nI q::Y32 (Y8 (.d (.ivs ts.length (ints ts))::nI (ts.length)::nI p::Y2 (Y1 (.sl 2 0 0 r.length::nI (r.length)::nI (r.length)::Y16 (Y8 (Y1 ([]))))))))))))) [.arr (ints o) 1 0,.box [.d (.ivs P.length (sysD P)),.d (.ivs P.length (mvsD P))],.arr (ints r) e 0,.box [nI s.al,nI s.st,.d (.ivs s.es.length (aJ s.es))],.arr (ints (mr++(r.drop y).map fun x=>q*w+x)) (eI (mr++(r.drop y).map fun x=>q*w+x)) 0]:=by
 intro j
 induction j with
 |zero=>
  intro y m mr len e2 hy hm hlen he2 hmr;obtain _|m:=m;omega;obtain rfl:y=r.length:=om;subst hlen;subst he2;rw[Cg];simp only[Ak,Ai]
  simp-implicitDefEqProofs (maxSteps:=9^7) (disch:=try exact Dz) only[↓DN,↓kRet,UP,simprocAttr,Al,lB,kY,Tryz.f150]
 |succ j ih=>
  intro y m mr len e2 hy hm hlen he2 hmr;obtain _|m:=m;omega;subst hlen;have hk:y<r.length:=om;have hc:(y:Int)<r.length:=om;have hy0:(0:Int)<=y:=om;obtain rfl:e=1:=he;obtain⟨x0,x1⟩:=hx _ (fV hk);have m0:0<=q*w:=Cm hq.1 hw.1;have m1:q*w<=16*w:=Cq om hw.1;have w1:IntKind.i64.wrap (q*w)=q*w:=dW om om;have w2:IntKind.i64.wrap (q*w+r.getD y 0)=q*w+r.getD y 0:=dW om om;have ih':=ih (y+1) m (mr++[q*w+r.getD y 0]) (mr.length+1) 1 om om sm rfl (by simp;omega);rw[cs1 y]at ih';rw[bM hk (d:=0),Ag];simp only[Ao,Ek]at ih';have hml:mr.length<=1000000:=om;clear ih hx;generalize hz:r.getD y 0=z at *;generalize(r.drop (y+1)).map (fun x=>q*w+x)=u at *;obtain rfl:e2=1:=he2
  simp-implicitDefEqProofs (maxSteps:=9^7) (disch:=try exact Dz) only[↓DN,↓kRet,UP,simprocAttr,hc,hy0,hz,w1,w2,↓ih',lB,kY,Tryz.f150]
theorem aKl(hn:2<=n)(hL:2^60<=L){P:List Sys}{s:Sys}{o r ts:List Int}{e:Nat}{v l w i:Int}(hP:P.length<=3)(hr:r.length<=4096)(he:e=eI r)(hts:ts.length<=16)(hw:0<=w/\w<=4096)(hq:∀q∈ts,0<=q/\q<16)(hx:∀x∈r,0<=x/\x<4096){k:KE R}:∀(j p m:Nat) (mr:List Int) (len e2:Nat) (hp:p+j=ts.length) (hm:j<m) (hlen:mr.length=len) (he2:e2=eI mr) (hmr:mr.length+j*4096<=1000000),
  aV env (aA env L n) L 1 (W8 (W4 (W2 [2]))) Bz0 (eW 1) Bz11 m (Y1 (nI v::nI l::.sl 0 0 0 o.length::.ptr 1 0 0::Y2 (Y1 (.d .nils::.sl 2 0 0 r.length::nI w::nI i::.ptr 3 0 0::Y1 (.sl 4 0 0 len::Y32 (Y8 (Y2 (.d (.ivs ts.length (ints ts))::nI (ts.length)::nI p::Y16 (Y8 (Y4 (Y2 (Y1 ([]))))))))))))) [.arr (ints o) 1 0,.box [.d (.ivs P.length (sysD P)),.d (.ivs P.length (mvsD P))],.arr (ints r) e 0,.box [nI s.al,nI s.st,.d (.ivs s.es.length (aJ s.es))],.arr (ints (mr)) e2 0] k
  =k (.exit 2) (Y1 (nI v::nI l::.sl 0 0 0 o.length::.ptr 1 0 0::Y2 (Y1 (.d .nils::.sl 2 0 0 r.length::nI w::nI i::.ptr 3 0 0::Y1 (.sl 4 0 0 (mr++(ts.drop p).flatMap fun q=>r.map fun x=>q*w+x).length::Y32 (Y8 (Y2 (.d (.ivs ts.length (ints ts))::nI (ts.length)::nI (ts.length)::Y16 (Y8 (Y4 (Y2 (Y1 ([]))))))))))))) [.arr (ints o) 1 0,.box [.d (.ivs P.length (sysD P)),.d (.ivs P.length (mvsD P))],.arr (ints r) e 0,.box [nI s.al,nI s.st,.d (.ivs s.es.length (aJ s.es))],.arr (ints (mr++(ts.drop p).flatMap fun q=>r.map fun x=>q*w+x)) (eI (mr++(ts.drop p).flatMap fun q=>r.map fun x=>q*w+x)) 0]:=by
 intro j
 induction j with
 |zero=>
  intro p m mr len e2 hp hm hlen he2 hmr;obtain _|m:=m;omega;obtain rfl:p=ts.length:=om;subst hlen;subst he2;rw[Cg];simp only[List.flatMap_nil,Ai]
  simp-implicitDefEqProofs (maxSteps:=9^7) (disch:=try exact Dz) only[↓DN,↓kRet,UP,simprocAttr,Al,lC,kX,Tryz.f150]
 |succ j ih=>
  intro p m mr len e2 hp hm hlen he2 hmr;obtain _|m:=m;omega;subst hlen;have hk:p<ts.length:=om;have hc:(p:Int)<ts.length:=om;have hp0:(0:Int)<=p:=om;have hqp:=hq _ (fV hk);have loop_c:=fun {R:Type} {n:Nat} (hn:1<=n) {k:KE R}=> @aLV R L n hn P s o r ts e v l w i (ts.getD p 0) p hP hr he hts hw hqp hx k r.length 0 L mr mr.length e2 om om rfl he2 om;rw[Ay]at loop_c;simp only[Av]at loop_c;have ih':=ih (p+1) m (mr++r.map fun x=>ts.getD p 0*w+x) (mr.length+(r.map fun x=>ts.getD p 0*w+x).length) _ om om Ah rfl (by rw[Ah,Aw];omega);rw[cs1 p]at ih';rw[bM hk (d:=0),List.flatMap_cons];simp only[Ao]at ih';clear ih hx hq;generalize hz:ts.getD p 0=z at *;generalize(ts.drop (p+1)).flatMap (fun q=>r.map fun x=>q*w+x)=u at *
  simp-implicitDefEqProofs (maxSteps:=9^7) (disch:=try exact Dz) only[↓DN,↓kRet,UP,simprocAttr,hc,hp0,hz,↓loop_c,↓ih',lC,kX,Tryz.f150]
theorem aKp(hn:1<=n){P:List Sys}{s:Sys}{o r ts:List Int}{e:Nat}{v l w i q:Int}{p:Nat}(hP:P.length<=3)(hr:r.length<=4096)(he:e=eI r)(hts:ts.length<=16)(hw:0<=w/\w<=4096)(hq:0<=q/\q<16)(hx:∀x∈r,0<=x/\x<4096){k:KE R}:∀(j y m:Nat) (mr:List Int) (len e2:Nat) (hy:y+j=r.length) (hm:j<m) (hlen:mr.length=len) (he2:e2=eI mr) (hmr:mr.length+j<=1000000),
  aV env (aA env L n) L 1 (W8 (W4 (W2 [2]))) Bz0 (eW 2) Bz7 m (Y1 (nI v::nI l::.sl 0 0 0 o.length::.ptr 1 0 0::Y2 (Y1 (.d .nils::.sl 2 0 0 r.length::nI w::nI i::.ptr 3 0 0::Y1 (.sl 4 0 0 len::Y1 (nI q::Y32 (Y8 (.sl 5 0 0 ts.length::nI (ts.length)::nI p::Y2 (Y1 (.sl 2 0 0 r.length::nI (r.length)::nI y::Y16 (Y8 (Y1 ([]))))))))))))) [.arr (ints o) 1 0,.box [.d (.ivs P.length (sysD P)),.d (.ivs P.length (mvsD P))],.arr (ints r) e 0,.box [nI s.al,nI s.st,.d (.ivs s.es.length (aJ s.es))],.arr (ints (mr)) e2 0,.arr (ints ts) 1 0] k
  =k (.exit 4) (Y1 (nI v::nI l::.sl 0 0 0 o.length::.ptr 1 0 0::Y2 (Y1 (.d .nils::.sl 2 0 0 r.length::nI w::nI i::.ptr 3 0 0::Y1 (.sl 4 0 0 (mr++(r.drop y).map fun x=>q*w+x).length::Y1 (nI q::Y32 (Y8 (.sl 5 0 0 ts.length::nI (ts.length)::nI p::Y2 (Y1 (.sl 2 0 0 r.length::nI (r.length)::nI (r.length)::Y16 (Y8 (Y1 ([]))))))))))))) [.arr (ints o) 1 0,.box [.d (.ivs P.length (sysD P)),.d (.ivs P.length (mvsD P))],.arr (ints r) e 0,.box [nI s.al,nI s.st,.d (.ivs s.es.length (aJ s.es))],.arr (ints (mr++(r.drop y).map fun x=>q*w+x)) (eI (mr++(r.drop y).map fun x=>q*w+x)) 0,.arr (ints ts) 1 0]:=by
 intro j
 induction j with
 |zero=>
  intro y m mr len e2 hy hm hlen he2 hmr;obtain _|m:=m;omega;obtain rfl:y=r.length:=om;subst hlen;subst he2;rw[Cg];simp only[Ak,Ai]
  simp-implicitDefEqProofs (maxSteps:=9^7) (disch:=try exact Dz) only[↓DN,↓kRet,UP,simprocAttr,Al,lB,kY,Tryz.f150]
 |succ j ih=>
  intro y m mr len e2 hy hm hlen he2 hmr;obtain _|m:=m;omega;subst hlen;have hk:y<r.length:=om;have hc:(y:Int)<r.length:=om;have hy0:(0:Int)<=y:=om;obtain rfl:e=1:=he;obtain⟨x0,x1⟩:=hx _ (fV hk);have m0:0<=q*w:=Cm hq.1 hw.1;have m1:q*w<=16*w:=Cq om hw.1;have w1:IntKind.i64.wrap (q*w)=q*w:=dW om om;have w2:IntKind.i64.wrap (q*w+r.getD y 0)=q*w+r.getD y 0:=dW om om;have ih':=ih (y+1) m (mr++[q*w+r.getD y 0]) (mr.length+1) 1 om om sm rfl (by simp;omega);rw[cs1 y]at ih';rw[bM hk (d:=0),Ag];simp only[Ao,Ek]at ih';have hml:mr.length<=1000000:=om;clear ih hx;generalize hz:r.getD y 0=z at *;generalize(r.drop (y+1)).map (fun x=>q*w+x)=u at *;obtain rfl:e2=1:=he2
  simp-implicitDefEqProofs (maxSteps:=9^7) (disch:=try exact Dz) only[↓DN,↓kRet,UP,simprocAttr,hc,hy0,hz,w1,w2,↓ih',lB,kY,Tryz.f150]
theorem aKL(hn:2<=n)(hL:2^60<=L){P:List Sys}{s:Sys}{o r ts:List Int}{e:Nat}{v l w i:Int}(hP:P.length<=3)(hr:r.length<=4096)(he:e=eI r)(hts:ts.length<=16)(hw:0<=w/\w<=4096)(hq:∀q∈ts,0<=q/\q<16)(hx:∀x∈r,0<=x/\x<4096){k:KE R}:∀(j p m:Nat) (mr:List Int) (len e2:Nat) (hp:p+j=ts.length) (hm:j<m) (hlen:mr.length=len) (he2:e2=eI mr) (hmr:mr.length+j*4096<=1000000),
  aV env (aA env L n) L 1 (W8 (W4 (W2 [2]))) Bz0 (eW 1) Bz11 m (Y1 (nI v::nI l::.sl 0 0 0 o.length::.ptr 1 0 0::Y2 (Y1 (.d .nils::.sl 2 0 0 r.length::nI w::nI i::.ptr 3 0 0::Y1 (.sl 4 0 0 len::Y32 (Y8 (Y2 (.sl 5 0 0 ts.length::nI (ts.length)::nI p::Y16 (Y8 (Y4 (Y2 (Y1 ([]))))))))))))) [.arr (ints o) 1 0,.box [.d (.ivs P.length (sysD P)),.d (.ivs P.length (mvsD P))],.arr (ints r) e 0,.box [nI s.al,nI s.st,.d (.ivs s.es.length (aJ s.es))],.arr (ints (mr)) e2 0,.arr (ints ts) 1 0] k
  =k (.exit 2) (Y1 (nI v::nI l::.sl 0 0 0 o.length::.ptr 1 0 0::Y2 (Y1 (.d .nils::.sl 2 0 0 r.length::nI w::nI i::.ptr 3 0 0::Y1 (.sl 4 0 0 (mr++(ts.drop p).flatMap fun q=>r.map fun x=>q*w+x).length::Y32 (Y8 (Y2 (.sl 5 0 0 ts.length::nI (ts.length)::nI (ts.length)::Y16 (Y8 (Y4 (Y2 (Y1 ([]))))))))))))) [.arr (ints o) 1 0,.box [.d (.ivs P.length (sysD P)),.d (.ivs P.length (mvsD P))],.arr (ints r) e 0,.box [nI s.al,nI s.st,.d (.ivs s.es.length (aJ s.es))],.arr (ints (mr++(ts.drop p).flatMap fun q=>r.map fun x=>q*w+x)) (eI (mr++(ts.drop p).flatMap fun q=>r.map fun x=>q*w+x)) 0,.arr (ints ts) 1 0]:=by
 intro j
 induction j with
 |zero=>
  intro p m mr len e2 hp hm hlen he2 hmr;obtain _|m:=m;omega;obtain rfl:p=ts.length:=om;subst hlen;subst he2;rw[Cg];simp only[List.flatMap_nil,Ai]
  simp-implicitDefEqProofs (maxSteps:=9^7) (disch:=try exact Dz) only[↓DN,↓kRet,UP,simprocAttr,Al,lC,kX,Tryz.f150]
 |succ j ih=>
  intro p m mr len e2 hp hm hlen he2 hmr;obtain _|m:=m;omega;subst hlen;have hk:p<ts.length:=om;have hc:(p:Int)<ts.length:=om;have hp0:(0:Int)<=p:=om;have hqp:=hq _ (fV hk);have loop_c:=fun {R:Type} {n:Nat} (hn:1<=n) {k:KE R}=> @aKp R L n hn P s o r ts e v l w i (ts.getD p 0) p hP hr he hts hw hqp hx k r.length 0 L mr mr.length e2 om om rfl he2 om;rw[Ay]at loop_c;simp only[Av]at loop_c;have ih':=ih (p+1) m (mr++r.map fun x=>ts.getD p 0*w+x) (mr.length+(r.map fun x=>ts.getD p 0*w+x).length) _ om om Ah rfl (by rw[Ah,Aw];omega);rw[cs1 p]at ih';rw[bM hk (d:=0),List.flatMap_cons];simp only[Ao]at ih';clear ih hx hq;generalize hz:ts.getD p 0=z at *;generalize(ts.drop (p+1)).flatMap (fun q=>r.map fun x=>q*w+x)=u at *
  simp-implicitDefEqProofs (maxSteps:=9^7) (disch:=try exact Dz) only[↓DN,↓kRet,UP,simprocAttr,hc,hp0,hz,↓loop_c,↓ih',lC,kX,Tryz.f150]
end
end Ev
end Go.Proofs.YtahbdkmimmnadaaGreatDoor
