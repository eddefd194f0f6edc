/-
  Systems that run together and a property of theirs, drawn.
-/
import Derived.Test.YtahbdkmimmnadaaGreatDoorWrongN
import Derived.Test.YtahbdkmimmnadaaGreatDoorShRn
import Derived.Test.YtahbdkmimmnadaaGreatDoorDrawP0
import Derived.Test.YtahbdkmimmnadaaGreatDoorOpq
import Derived.Test.YtahbdkmimmnadaaGreatDoorDrawT
set_option linter.unusedSimpArgs false
set_option linter.unusedVariables false
set_option maxRecDepth 1000000
set_option maxHeartbeats 4000000
namespace Go.Proofs.YtahbdkmimmnadaaGreatDoor
namespace Ev
theorem aHt{R:Type}{call:aW}{hq:H}{f:FuncId}{args:List A}{c:List UInt8}{p q:Int}{cs:List D}{e n:Nat}{k:KA R}(hm:(env.hint f).mode=0)(ha:idsL args=[])(he:call f (.ptr 0 0 0::args) [rdO c p]=some (.sl 1 0 0 n,[rdO c q,.arr cs e 0])):
  aV env call (rdO c p::hq) f (.ptr 0 0 0::args) k=k (.sl (hq.length+1) 0 0 n) (rdO c q::(hq++[.arr cs e 0])):=by
 have hid:idsL (A.ptr 0 0 0::args)=[0]:=by simp[idsL,idsA,ha]
 have hre:aC aD (rdO c p::hq) [0] []=[0]:=rfl;have hpk:pack (rdO c p::hq) [0]=[rdO c p]:=rfl
 have hma:aE (aH [0]) (A.ptr 0 0 0::args)=A.ptr 0 0 0::args:=by
  simp only[aE,gG _ ha];rfl
 have hc:bJ call env.hint [rdO c p] f (.ptr 0 0 0::args)=some (.sl 1 0 0 n,[rdO c q,.arr cs e 0]):=by
  unfold bJ;rw[hm];exact he
 have hcl:closed (rdO c p::hq) [0] [0]=true:=rfl;unfold aV;rw[hid,hre,hpk,hma,hc];have hb:back [0] (rdO c p::hq).length 2 1=some (hq.length+1):=by simp[back]
 have hb2:mapA (back [0] (rdO c p::hq).length 2) (.sl 1 0 0 n)=.sl (hq.length+1) 0 0 n:=by simp only[mapA,hb]
 simp only[Ac,Aa,Af,Nat.reduceAdd,hcl,and_self,if_true,show 1<=2 by omega]at hb2|-;rw[hb2]
 congr 1
theorem aCJ{R:Type}{call:aW}{hq:H}{f:FuncId}{c:List UInt8}{p q:Int}{r:A}{o:O}{k:KA R}{cs:List D}{e g n id:Nat}(hi:hq[id]? =some (.arr cs e g))(hm:(env.hint f).mode=0)(hr:idsA r=[])(ho:∀f,mapO f o=o)(he:call f [.ptr 0 0 0,.sl 1 g 0 n] [rdO c p,.arr cs e g]=some (r,[rdO c q,o])):
  aV env call (rdO c p::hq) f [.ptr 0 0 0,.sl (id+1) g 0 n] k=k r (rdO c q::hq.set id o):=by
 have hlk:(rdO c p::hq)[id+1]? =some (.arr cs e g):=by rw[As];exact hi
 have hre:aC aD (rdO c p::hq) [0,id+1] []=[0,id+1]:=by
  have e1:aC aD (rdO c p::hq) [0,id+1] []=aC (aD-1) (rdO c p::hq) [id+1] [0]:=rfl
  have e2:aC (aD-1) (rdO c p::hq) [id+1] [0]=if [0].contains (id+1)=true then aC (aD-2) (rdO c p::hq) [] [0]else match(rdO c p::hq)[id+1]? with
   |some (.box cs)=>aC (aD-2) (rdO c p::hq) ([]++idsL cs) ([0]++[id+1])
   |some (.vec cs _ _)=>aC (aD-2) (rdO c p::hq) ([]++idsL cs) ([0]++[id+1])
   |some .void=>aC (aD-2) (rdO c p::hq) [] [0]
   |some _=>aC (aD-2) (rdO c p::hq) [] ([0]++[id+1])
   |none=>aC (aD-2) (rdO c p::hq) [] [0]:=rfl
  have e3:[0].contains (id+1)=false:=sm;rw[e1,e2,e3,hlk];rfl
 have hpk:pack (rdO c p::hq) [0,id+1]=[rdO c p,.arr cs e g]:=by
  simp only[pack,Ag,Ak,Ab,hlk]<;>rfl
 unfold aV;have hid:idsL [A.ptr 0 0 0,A.sl (id+1) g 0 n]=[0,id+1]:=rfl;rw[hid,hre,hpk]
 have hma:aE (aH [0,id+1]) [A.ptr 0 0 0,A.sl (id+1) g 0 n]=[A.ptr 0 0 0,A.sl 1 g 0 n]:=by
  simp[aE,mapA,aH]
 rw[hma]
 have hc:bJ call env.hint [rdO c p,.arr cs e g] f [.ptr 0 0 0,.sl 1 g 0 n]=some (r,[rdO c q,o]):=by
  unfold bJ;rw[hm];exact he
 rw[hc]
 have hcl:closed (rdO c p::hq) [0,id+1] [0,id+1]=true:=by
  simp only[closed,Bt,Cc,hlk,Ch];simp[idsL,idsA]
 simp only[Ac,Aa,Ad,hcl,and_self,if_true,nJ r hr]
 congr 1
 simp only[bA,ho,Ak,Ai,Ci,Bk]<;>rfl
theorem aDH{R:Type}{call:aW}{hq:H}{f:FuncId}{c:List UInt8}{p q:Int}{g2 n2:Nat}{cs2:List D}{k:KA R}{cs:List D}{e g n id:Nat}(hi:hq[id]? =some (.arr cs e g))(hm:(env.hint f).mode=0)(he:call f [.ptr 0 0 0,.sl 1 g 0 n] [rdO c p,.arr cs e g]=some (.sl 1 g2 0 n2,[rdO c q,.arr cs2 e g2])):
  aV env call (rdO c p::hq) f [.ptr 0 0 0,.sl (id+1) g 0 n] k=k (.sl (id+1) g2 0 n2) (rdO c q::hq.set id (.arr cs2 e g2)):=by
 have hlk:(rdO c p::hq)[id+1]? =some (.arr cs e g):=by rw[As];exact hi
 have hre:aC aD (rdO c p::hq) [0,id+1] []=[0,id+1]:=by
  have e1:aC aD (rdO c p::hq) [0,id+1] []=aC (aD-1) (rdO c p::hq) [id+1] [0]:=rfl
  have e2:aC (aD-1) (rdO c p::hq) [id+1] [0]=if [0].contains (id+1)=true then aC (aD-2) (rdO c p::hq) [] [0]else match(rdO c p::hq)[id+1]? with
   |some (.box cs)=>aC (aD-2) (rdO c p::hq) ([]++idsL cs) ([0]++[id+1])
   |some (.vec cs _ _)=>aC (aD-2) (rdO c p::hq) ([]++idsL cs) ([0]++[id+1])
   |some .void=>aC (aD-2) (rdO c p::hq) [] [0]
   |some _=>aC (aD-2) (rdO c p::hq) [] ([0]++[id+1])
   |none=>aC (aD-2) (rdO c p::hq) [] [0]:=rfl
  have e3:[0].contains (id+1)=false:=sm;rw[e1,e2,e3,hlk];rfl
 have hpk:pack (rdO c p::hq) [0,id+1]=[rdO c p,.arr cs e g]:=by
  simp only[pack,Ag,Ak,Ab,hlk]<;>rfl
 unfold aV;have hid:idsL [A.ptr 0 0 0,A.sl (id+1) g 0 n]=[0,id+1]:=rfl;rw[hid,hre,hpk]
 have hma:aE (aH [0,id+1]) [A.ptr 0 0 0,A.sl (id+1) g 0 n]=[A.ptr 0 0 0,A.sl 1 g 0 n]:=by
  simp[aE,mapA,aH]
 rw[hma]
 have hc:bJ call env.hint [rdO c p,.arr cs e g] f [.ptr 0 0 0,.sl 1 g 0 n]=some (.sl 1 g2 0 n2,[rdO c q,.arr cs2 e g2]):=by
  unfold bJ;rw[hm];exact he
 rw[hc]
 have hcl:closed (rdO c p::hq) [0,id+1] [0,id+1]=true:=by
  simp only[closed,Bt,Cc,hlk,Ch];simp[idsL,idsA]
 have hb:back [0,id+1] (rdO c p::hq).length 2 1=some (id+1):=rfl;simp only[Ac]at hb;simp only[Ac,Aa,Af,Nat.reduceAdd,Ad,hcl,and_self,if_true,mapA,hb]
 congr 1
 simp only[bA,mapO,aE,mapA,Ak,Ai,Ci,Bk]
theorem G7:(env.hint 135).mode=0:=kr
theorem HL:(env.hint 71).mode=0:=kr
theorem aJF{c:List UInt8}(hc:c.length<=2000)(p:Int)(hp:0<=p)(hp2:p<=200000000):
  ∃(P:List Sys) (al:Int) (nx:List (List Int)) (ac:List Bool) (q:Int),P.length<=4/\SysB 80000 P/\AutB 60 nx ac/\p<=q/\q<=p+1000000/\(Dw 18 71 [] (.tup [.d (.ivs P.length (sysD P)),autD al nx ac]) c p q):=by
 obtain⟨P,q1,h1,h3,hs,a1,a2,he1⟩:=aLn hc p hp om;have hP:cS P:=⟨by omega,fun s h=>by have:=hs s h;omega⟩
 have htk:(sysD P).take (P.length*3)=sysD P:=vF (Ad _);obtain⟨al,nx,ac,q2,hb,hn1,b1,b2,kd2⟩:=oT hc (if bR P=true then parA P else -1) q1 om om;obtain⟨v,_,_,_,kd3⟩:=bM hc q2 20 om om;have kd1:=fun {R:Type} {L n:Nat} {hq:H} {k:KA R} (hn:16<=n) (hL:2^60<=L)=>aHt (R:=R) (hq:=hq) (k:=k) (args:=[]) aMl rfl (he1 L n hn hL);have kl_a:=fun {R:Type} {L n:Nat} {k:A->Option R} (hn:6<=n) (hL:2^60<=L)=> @R7 R L n k hn P hP hL;have kv_a:=fun {R:Type} {L n:Nat} {hq:H} {args:List A} {k:KA R}=>eH (E:=env) (call:=aA env L n) (h:=hq) (k:=k) (args:=args) n7;generalize(if bR P=true then parA P else -1)=z at *
 by_cases hv:v=0
 ·obtain⟨al2,nx2,ac2,q3,hb2,b3,b4,kd4⟩:=Q9 hc (B:=10) om al nx ac hb (q2+1) om om;obtain⟨al3,nx3,ac3,q4,hb3,b5,b6,kd5⟩:=Q9 hc (B:=23) om al2 nx2 ac2 hb2 q3 om om;obtain⟨al4,nx4,ac4,q5,hb4,b7,b8,kd6⟩:=Q9 hc (B:=36) om al3 nx3 ac3 hb3 q4 om om
  rcases ZK hc P h1 h3 hs q5 om om with he5|⟨P2,q6,g,g1,g2,g3,g4,he5⟩
  ·have kd7:=fun {R:Type} {L n id:Nat} {hq:H} {k:KA R} (hn:7<=n) (hL:2^60<=L) (hi:hq[id]? =some (.arr (sysD P) 3 0))=>aCJ (R:=R) (k:=k) hi G7 rfl (fun _=>rfl) (he5 L n hn hL);refine⟨[],al4,nx4,ac4,q5+1,by simp,(fun s h=>by cases h),hb4.mono om,by omega,by omega,fun R L n hq k hn hL=>aS HL rfl (by simp[autD,idsA,idsL]) ?_⟩;unfold autD at kd2 kd4 kd5 kd6|-;clear he1 he5 hb hb2 hb3 hb4 hs hP;obtain _|n:=n;omega
   simp-implicitDefEqProofs (maxSteps:=9^7) (disch:=try exact Dz) only[↓DN,↓kAsg,↓kRet,UP,simprocAttr,NE,↓kd1,↓kd2,↓kd3,hv,↓kd4,↓kd5,↓kd6,↓kl_a,↓kv_a,htk,↓kd7,WO,xV,s8,Tryz.f71]
  ·have kd7:=fun {R:Type} {L n id:Nat} {hq:H} {k:KA R} (hn:7<=n) (hL:2^60<=L) (hi:hq[id]? =some (.arr (sysD P) 3 0))=>aDH (R:=R) (k:=k) hi G7 (he5 L n hn hL);have htk2:(sysD P2).take (P2.length*3)=sysD P2:=vF (Ad _);refine⟨P2,al4,nx4,ac4,q6,g1,g2,hb4.mono om,by omega,by omega,fun R L n hq k hn hL=>aS HL rfl (by simp[autD,idsA,idsL]) ?_⟩;unfold autD at kd2 kd4 kd5 kd6|-;clear he1 he5 hb hb2 hb3 hb4 hs hP g2;obtain _|n:=n;omega
   simp-implicitDefEqProofs (maxSteps:=9^7) (disch:=try exact Dz) only[↓DN,↓kAsg,↓kRet,UP,simprocAttr,NE,↓kd1,↓kd2,↓kd3,hv,↓kd4,↓kd5,↓kd6,↓kl_a,↓kv_a,htk,htk2,↓kd7,xV,s8,Tryz.f71]
 ·rcases ZK hc P h1 h3 hs (q2+1) om om with he5|⟨P2,q6,g,g1,g2,g3,g4,he5⟩
  ·have kd7:=fun {R:Type} {L n id:Nat} {hq:H} {k:KA R} (hn:7<=n) (hL:2^60<=L) (hi:hq[id]? =some (.arr (sysD P) 3 0))=>aCJ (R:=R) (k:=k) hi G7 rfl (fun _=>rfl) (he5 L n hn hL);refine⟨[],al,nx,ac,q2+1+1,by simp,(fun s h=>by cases h),hb.mono om,by omega,by omega,fun R L n hq k hn hL=>aS HL rfl (by simp[autD,idsA,idsL]) ?_⟩;unfold autD at kd2|-;clear he1 he5 hb hs hP;obtain _|n:=n;omega
   simp-implicitDefEqProofs (maxSteps:=9^7) (disch:=try exact Dz) only[↓DN,↓kAsg,↓kRet,UP,simprocAttr,NE,↓kd1,↓kd2,↓kd3,hv,↓kl_a,↓kv_a,htk,↓kd7,WO,xV,s8,Tryz.f71]
  ·have kd7:=fun {R:Type} {L n id:Nat} {hq:H} {k:KA R} (hn:7<=n) (hL:2^60<=L) (hi:hq[id]? =some (.arr (sysD P) 3 0))=>aDH (R:=R) (k:=k) hi G7 (he5 L n hn hL);have htk2:(sysD P2).take (P2.length*3)=sysD P2:=vF (Ad _);refine⟨P2,al,nx,ac,q6,g1,g2,hb.mono om,by omega,by omega,fun R L n hq k hn hL=>aS HL rfl (by simp[autD,idsA,idsL]) ?_⟩;unfold autD at kd2|-;clear he1 he5 hb hs hP g2;obtain _|n:=n;omega
   simp-implicitDefEqProofs (maxSteps:=9^7) (disch:=try exact Dz) only[↓DN,↓kAsg,↓kRet,UP,simprocAttr,NE,↓kd1,↓kd2,↓kd3,hv,↓kl_a,↓kv_a,htk,htk2,↓kd7,xV,s8,Tryz.f71]
theorem G3:(env.hint 136).mode=0:=kr
theorem aIV{c:List UInt8}(hc:c.length<=2000)(p:Int)(hp:0<=p)(hp2:p<=300000000):
  ∃(al st:Int) (es:List Edge) (al2 st2:Int) (es2:List Edge) (b:Int) (nx:List (List Int)) (ac:List Bool) (q:Int),es.length<=60000/\es2.length<=60000/\AutB 10 nx ac/\1<=nx.length/\p<=q/\q<=p+400000/\(Dw 16 136 [] (.tup [.agg [nI al,nI st,.d (.ivs es.length (aJ es))],autD b nx ac,.agg [nI al2,nI st2,.d (.ivs es2.length (aJ es2))]]) c p q):=by
 obtain⟨al,st,es,q1,a1,a2,a3,kd1⟩:=DY hc p hp om;obtain⟨al2,st2,es2,q2,b1,b2,b3,kd2⟩:=DY hc q1 om om;obtain⟨v,_,_,_,kd3⟩:=bM hc q2 4 om om
 by_cases hv:v=0
 ·obtain⟨al3,st3,es3,q3,c1,c2,c3,kd4⟩:=H2 hc (q2+1) om om;obtain⟨w,_,_,_,kd5⟩:=bM hc q3 4 om om
  by_cases hw:w=0
  ·obtain⟨al4,st4,es4,q4,d1,d2,d3,kd6⟩:=H2 hc (q3+1) om om;obtain⟨b,nx,ac,q5,hb,h1,e1,e2,kd7⟩:=oT hc (iOr .i64 al3 al4) q4 om om;refine⟨al3,st3,es3,al4,st4,es4,b,nx,ac,q5,c1,d1,hb,h1,by omega,by omega,fun R L n hq k hn hL=>aS G3 rfl (by simp[autD,idsA,idsL]) ?_⟩;unfold autD at kd7|-;clear hb;obtain _|n:=n;omega
   simp-implicitDefEqProofs (maxSteps:=9^7) (disch:=try exact Dz) only[↓DN,↓kRet,UP,simprocAttr,↓kd1,↓kd2,↓kd3,hv,↓kd4,↓kd5,hw,↓kd6,↓kd7,wR,tH,Tryz.f136]
  ·obtain⟨b,nx,ac,q5,hb,h1,e1,e2,kd7⟩:=oT hc (iOr .i64 al3 al2) (q3+1) om om;refine⟨al3,st3,es3,al2,st2,es2,b,nx,ac,q5,c1,b1,hb,h1,by omega,by omega,fun R L n hq k hn hL=>aS G3 rfl (by simp[autD,idsA,idsL]) ?_⟩;unfold autD at kd7|-;clear hb;obtain _|n:=n;omega
   simp-implicitDefEqProofs (maxSteps:=9^7) (disch:=try exact Dz) only[↓DN,↓kRet,UP,simprocAttr,↓kd1,↓kd2,↓kd3,hv,↓kd4,↓kd5,hw,↓kd7,wR,tH,Tryz.f136]
 ·obtain⟨w,_,_,_,kd5⟩:=bM hc (q2+1) 4 om om
  by_cases hw:w=0
  ·obtain⟨al4,st4,es4,q4,d1,d2,d3,kd6⟩:=H2 hc (q2+1+1) om om;obtain⟨b,nx,ac,q5,hb,h1,e1,e2,kd7⟩:=oT hc (iOr .i64 al al4) q4 om om;refine⟨al,st,es,al4,st4,es4,b,nx,ac,q5,a1,d1,hb,h1,by omega,by omega,fun R L n hq k hn hL=>aS G3 rfl (by simp[autD,idsA,idsL]) ?_⟩;unfold autD at kd7|-;clear hb;obtain _|n:=n;omega
   simp-implicitDefEqProofs (maxSteps:=9^7) (disch:=try exact Dz) only[↓DN,↓kRet,UP,simprocAttr,↓kd1,↓kd2,↓kd3,hv,↓kd5,hw,↓kd6,↓kd7,wR,tH,Tryz.f136]
  ·obtain⟨b,nx,ac,q5,hb,h1,e1,e2,kd7⟩:=oT hc (iOr .i64 al al2) (q2+1+1) om om;refine⟨al,st,es,al2,st2,es2,b,nx,ac,q5,a1,b1,hb,h1,by omega,by omega,fun R L n hq k hn hL=>aS G3 rfl (by simp[autD,idsA,idsL]) ?_⟩;unfold autD at kd7|-;clear hb;obtain _|n:=n;omega
   simp-implicitDefEqProofs (maxSteps:=9^7) (disch:=try exact Dz) only[↓DN,↓kRet,UP,simprocAttr,↓kd1,↓kd2,↓kd3,hv,↓kd5,hw,↓kd7,wR,tH,Tryz.f136]
def chgM(x y:Edge)(m:Bool):Bool:=m&& !bY x y&& !decide (x=y)
def chgE(x:Edge)(gone:Int):List Edge->Nat->Bool->List Edge->List Edge×Bool
 | [],_,m,o=>(o,m)
 |y::ys,i,m,o=>chgE x gone ys (i+1) (chgM x y m) ((if(m&&bY x y)=true then o++[x]else o)++(if(i:Int)=gone then []else [y]))
theorem M9(x:Edge)(gone:Int):∀(l:List Edge) (i:Nat) (m:Bool) (o:List Edge),(chgE x gone l i m o).1.length<=o.length+2*l.length
 | [],_,_,o=>by simp[chgE]
 |y::ys,i,m,o=>by
  unfold chgE;refine Bf (M9 x gone ys _ _ _) ?_;have h1:(if(m&&bY x y)=true then o++[x]else o).length<=o.length+1:=by split<;>simp
  have h2:(if(i:Int)=gone then []else [y]).length<=1:=by split<;>simp
  rw[Ah,Ac];omega
theorem aBF(x:Edge)(gone:Int):∀(l:List Edge) (i:Nat) (o:List Edge),(chgE x gone l i false o).2=false
 | [],_,_=>rfl
 |y::ys,i,o=>by
  unfold chgE;exact aBF x gone ys _ _
theorem aBc{R:Type}{L n:Nat}(hn:3<=n){c:List UInt8}{p al st x1 x2 x3 gone:Int}{es:List Edge}(hl:es.length<=4294967290){k:KE R}:∀(j i m:Nat) (mr:Bool) (o:List Edge) (len e:Nat) (hi:i+j=es.length) (hm:j<m) (hlen:len=o.length) (he:e=eE o) (ho:o.length+2*j<=4294967290),
  aU env (aA env L n) L 1 [] Bz29 (B6 0) (U2 (U1 (Z4 (Z1 (U1 (Z2 (U32 (U32 (U16 (U8 (U4 (U2 ([]))))))))))))) m (Y2 (Y1 (.ptr 1 0 0::.ptr 2 0 0::.ptr 3 0 0::nI gone::.ptr 4 0 0::Y1 (.d (.bool mr)::nI i::Y32 (Y32 (Y16 (Y8 (Y4 (Y2 ([])))))))))) [rdO c p,.box [nI al,nI st,.d (.ivs es.length (aJ es))],.box [nI 0,nI 0,.sl 5 0 0 0],.box [nI al,nI st,.sl 6 0 0 len],.box [nI x1,nI x2,nI x3],.arr [] 0 0,.arr (aJ o) e 0] k
  =k (.exit 0) (Y2 (Y1 (.ptr 1 0 0::.ptr 2 0 0::.ptr 3 0 0::nI gone::.ptr 4 0 0::Y1 (.d (.bool (((chgE ⟨x1,x2,x3⟩ gone (es.drop i) i mr o).2)))::nI (es.length)::Y32 (Y32 (Y16 (Y8 (Y4 (Y2 ([])))))))))) [rdO c p,.box [nI al,nI st,.d (.ivs es.length (aJ es))],.box [nI 0,nI 0,.sl 5 0 0 0],.box [nI al,nI st,.sl 6 0 0 (chgE ⟨x1,x2,x3⟩ gone (es.drop i) i mr o).1.length],.box [nI x1,nI x2,nI x3],.arr [] 0 0,.arr (aJ (chgE ⟨x1,x2,x3⟩ gone (es.drop i) i mr o).1) (eE (chgE ⟨x1,x2,x3⟩ gone (es.drop i) i mr o).1) 0]:=by
 intro j
 induction j with
 |zero=>
  intro i m mr o len e hi hm hlen he ho;obtain _|m:=m;omega;obtain rfl:i=es.length:=om;subst hlen;subst he;rw[Cg]
  simp-implicitDefEqProofs (maxSteps:=9^7) (disch:=try exact Dz) only[↓DN,↓kRet,UP,simprocAttr,Am,bV,cN,Tryz.f140]<;>rfl
 |succ j ih=>
  intro i m mr o len e hi hm hlen he ho;obtain _|m:=m;omega;subst hlen;have hk:i<es.length:=om;have hc:(i:Int)<es.length:=om;have hi0:(0:Int)<=i:=om
  have ih':=ih (i+1) m (chgM ⟨x1,x2,x3⟩ (es.getD i default) mr) ((if(mr&&bY ⟨x1,x2,x3⟩ (es.getD i default))=true then o++[⟨x1,x2,x3⟩]else o)++(if(i:Int)=gone then []else [es.getD i default])) _ _ om om rfl rfl (by
   have h1:(if(mr&&bY ⟨x1,x2,x3⟩ (es.getD i default))=true then o++[⟨x1,x2,x3⟩]else o).length<=o.length+1:=by split<;>simp
   have h2:(if(i:Int)=gone then []else [es.getD i default]).length<=1:=by split<;>simp
   rw[Ah];omega)
  rw[cs1 i]at ih';rw[bP hk (d:=default)];simp only[chgE];clear ih;generalize hb:bY ⟨x1,x2,x3⟩ (es.getD i default)=bf at *;generalize hgen:chgE ⟨x1,x2,x3⟩ gone (es.drop (i+1)) (i+1) (chgM ⟨x1,x2,x3⟩ (es.getD i default) mr) ((if(mr&&bf)=true then o++[⟨x1,x2,x3⟩]else o)++(if(i:Int)=gone then []else [es.getD i default]))=W at *;clear hgen;have hb2:bY ⟨x1,x2,x3⟩ ⟨(es.getD i default).fr,(es.getD i default).lt,(es.getD i default).to⟩=bf:=hb;have hne:chgM ⟨x1,x2,x3⟩ (es.getD i default) mr=(mr&& !bf&& !decide ((⟨x1,x2,x3⟩:Edge)=es.getD i default)):=by unfold chgM;rw[hb]
  rw[hne]at ih';generalize hq:decide ((⟨x1,x2,x3⟩:Edge)=es.getD i default)=dq at *;have hq2:decide ((⟨x1,x2,x3⟩:Edge)=⟨(es.getD i default).fr,(es.getD i default).lt,(es.getD i default).to⟩)=dq:=hq;clear hb hq hne
  by_cases hg:(i:Int)=gone
  ·subst hg;simp only[if_true,Ai]at ih'
   cases mr with
   |false=>
    simp only[Bs,Aj,if_false]at ih'
    simp-implicitDefEqProofs (maxSteps:=9^7) (disch:=try exact Dz) only[↓DN,↓kRet,UP,simprocAttr,hc,he,↓ih',bV,cN,Tryz.f140]
   |true=>
    cases bf with
    |true=>
     simp only[Cl,Dg,Cd,Bs,if_true,ED,Ah,Bu]at ih'
     rcases wM o with h1|h1
     ·obtain rfl:e=0:=om
      simp-implicitDefEqProofs (maxSteps:=9^7) (disch:=try exact Dz) only[↓DN,↓kAsg,↓kRet,UP,simprocAttr,↓d6,LE,hc,hi0,hb2,↓ih',bV,cN,Tryz.f140]
     ·obtain rfl:e=3:=om
      simp-implicitDefEqProofs (maxSteps:=9^7) (disch:=try exact Dz) only[↓DN,↓kAsg,↓kRet,UP,simprocAttr,↓d6,LE,hc,hi0,hb2,↓ih',bV,cN,Tryz.f140]
    |false=>
     cases dq with
     |true=>
      simp only[Cl,Dg,Bool.not_false,Cd,Aj,if_false]at ih'
      simp-implicitDefEqProofs (maxSteps:=9^7) (disch:=try exact Dz) only[↓DN,↓kAsg,↓kRet,UP,simprocAttr,↓d6,LE,hc,hi0,hb2,hq2,he,↓ih',bV,cN,Tryz.f140]
     |false=>
      simp only[Cl,Bool.not_false,Bj,Aj,if_false]at ih'
      simp-implicitDefEqProofs (maxSteps:=9^7) (disch:=try exact Dz) only[↓DN,↓kRet,UP,simprocAttr,↓d6,LE,hc,hi0,hb2,hq2,he,↓ih',bV,cN,Tryz.f140]
  ·simp only[hg,if_false]at ih'
   cases mr with
   |false=>
    simp only[Bs,Aj,if_false,ED,Ah,Bu]at ih'
    rcases wM o with h1|h1
    ·obtain rfl:e=0:=om
     simp-implicitDefEqProofs (maxSteps:=9^7) (disch:=try exact Dz) only[↓DN,↓kRet,UP,simprocAttr,LE,hc,hi0,hg,↓ih',bV,cN,Tryz.f140]
    ·obtain rfl:e=3:=om
     simp-implicitDefEqProofs (maxSteps:=9^7) (disch:=try exact Dz) only[↓DN,↓kRet,UP,simprocAttr,LE,hc,hi0,hg,↓ih',bV,cN,Tryz.f140]
   |true=>
    cases bf with
    |true=>
     simp only[Cl,Dg,Cd,Bs,if_true,ED,Ah,Bu]at ih'
     rcases wM o with h1|h1
     ·obtain rfl:e=0:=om
      simp-implicitDefEqProofs (maxSteps:=9^7) (disch:=try exact Dz) only[↓DN,↓kAsg,↓kRet,UP,simprocAttr,↓d6,LE,hc,hi0,hb2,hg,↓ih',bV,cN,Tryz.f140]
     ·obtain rfl:e=3:=om
      simp-implicitDefEqProofs (maxSteps:=9^7) (disch:=try exact Dz) only[↓DN,↓kAsg,↓kRet,UP,simprocAttr,↓d6,LE,hc,hi0,hb2,hg,↓ih',bV,cN,Tryz.f140]
    |false=>
     cases dq with
     |true=>
      simp only[Cl,Dg,Bool.not_false,Cd,Aj,if_false,ED,Ah,Bu]at ih'
      rcases wM o with h1|h1
      ·obtain rfl:e=0:=om
       simp-implicitDefEqProofs (maxSteps:=9^7) (disch:=try exact Dz) only[↓DN,↓kAsg,↓kRet,UP,simprocAttr,↓d6,LE,hc,hi0,hb2,hq2,hg,↓ih',bV,cN,Tryz.f140]
      ·obtain rfl:e=3:=om
       simp-implicitDefEqProofs (maxSteps:=9^7) (disch:=try exact Dz) only[↓DN,↓kAsg,↓kRet,UP,simprocAttr,↓d6,LE,hc,hi0,hb2,hq2,hg,↓ih',bV,cN,Tryz.f140]
     |false=>
      simp only[Cl,Bool.not_false,Bj,Aj,if_false,ED,Ah,Bu]at ih'
      rcases wM o with h1|h1
      ·obtain rfl:e=0:=om
       simp-implicitDefEqProofs (maxSteps:=9^7) (disch:=try exact Dz) only[↓DN,↓kRet,UP,simprocAttr,↓d6,LE,hc,hi0,hb2,hq2,hg,↓ih',bV,cN,Tryz.f140]
      ·obtain rfl:e=3:=om
       simp-implicitDefEqProofs (maxSteps:=9^7) (disch:=try exact Dz) only[↓DN,↓kRet,UP,simprocAttr,↓d6,LE,hc,hi0,hb2,hq2,hg,↓ih',bV,cN,Tryz.f140]
theorem D7:(env.hint 140).mode=0:=kr
theorem VG{c:List UInt8}(hc:c.length<=2000)(al st:Int)(es:List Edge)(hes:es.length<=60000)(p:Int)(hp:0<=p)(hp2:p<=600000000):∃(es2:List Edge) (q:Int),es2.length<=130000/\p<=q/\q<=p+10/\(Dw 5 140 [.agg [nI al,nI st,.d (.ivs es.length (aJ es))]] (.agg [nI al,nI st,.d (.ivs es2.length (aJ es2))]) c p q):=by
 obtain⟨gone,_,_,_,kd1⟩:=bM hc p ((es.length:Int)+2) hp om;obtain⟨x,_,_,_,kd2⟩:=bM hc (p+1) st om om;obtain⟨y,_,_,_,kd3⟩:=bM hc (p+1+1) st om om;have hw:IntKind.i64.wrap ((es.length:Int)+2)=(es.length:Int)+2:=dU om om;have hll:=dG al;have het:(aJ es).take (es.length*3)=aJ es:=kC (Ad _);have loop_l:=fun {R:Type} {L n:Nat} {k:KE R} (hn:3<=n) (hL:2^60<=L) (q x1 x2 x3:Int) (mr:Bool)=> @aBc R L n hn c q al st x1 x2 x3 gone es om k es.length 0 L mr [] 0 0 om om rfl rfl (by simp only[Aa,Af];omega);simp only[Az,Av,cR]at loop_l
 by_cases h0:0<(aG al).length
 ·have h0i:(0:Int)<(aG al).length:=om;obtain⟨v,_,_,_,kd4⟩:=bM hc (p+1+1+1) 2 om om
  by_cases hv:v=0
  ·obtain⟨u,u0,u1,_,kd5⟩:=bM hc (p+1+1+1+1) (aG al).length om om;have u1:=u1 om;have hu:u.toNat<(aG al).length:=om;have h1:=M9 ⟨x,(aG al).getD u.toNat 0,y⟩ gone es 0 true [];have loop_c:=fun {R:Type} {L n:Nat} {k:KE R} (hn:3<=n) (hL:2^60<=L) {q:Int}=>loop_l (R:=R) (L:=L) (n:=n) (k:=k) hn hL q x ((aG al).getD u.toNat 0) y true;generalize chgE ⟨x,(aG al).getD u.toNat 0,y⟩ gone es 0 true []=W at *;obtain⟨o,m⟩:=W;simp only[Aa,Af]at h1 loop_c;clear loop_l
   cases m with
   |true=>
    refine⟨o++[⟨x,(aG al).getD u.toNat 0,y⟩],p+1+1+1+1+1,by rw[Ah,Bu];omega,by omega,by omega,fun R L n hq k hn hL=>aS D7 (by simp[idsL,idsA]) (by simp[idsL,idsA]) ?_⟩
    rcases wM o with g|g
    ·obtain _|n:=n;omega
     simp-implicitDefEqProofs (maxSteps:=9^7) (disch:=try exact Dz) only[↓DN,↓kAsg,↓kRet,UP,simprocAttr,↓bX,LE,↓kd1,hw,↓kd2,↓kd3,h0i,↓kd4,hv,↓kd5,u0,u1,hu,↓loop_c,g,iN,gY,Tryz.f140]
    ·obtain _|n:=n;omega
     simp-implicitDefEqProofs (maxSteps:=9^7) (disch:=try exact Dz) only[↓DN,↓kAsg,↓kRet,UP,simprocAttr,↓bX,LE,↓kd1,hw,↓kd2,↓kd3,h0i,↓kd4,hv,↓kd5,u0,u1,hu,↓loop_c,g,iN,gY,Tryz.f140]
   |false=>
    refine⟨o,p+1+1+1+1+1,by omega,by omega,by omega,fun R L n hq k hn hL=>aS D7 (by simp[idsL,idsA]) (by simp[idsL,idsA]) ?_⟩
    rcases wM o with g|g
    ·have ho:o=[]:=by unfold eE at g;split at g<;>simp_all
     subst ho;obtain _|n:=n;omega
     simp-implicitDefEqProofs (maxSteps:=9^7) (disch:=try exact Dz) only[↓DN,↓kAsg,↓kRet,UP,simprocAttr,↓bX,↓kd1,hw,↓kd2,↓kd3,h0i,↓kd4,hv,↓kd5,u0,u1,hu,↓loop_c,g,cR,iN,gY,Tryz.f140]
    ·obtain _|n:=n;omega
     simp-implicitDefEqProofs (maxSteps:=9^7) (disch:=try exact Dz) only[↓DN,↓kAsg,↓kRet,UP,simprocAttr,↓bX,LE,↓kd1,hw,↓kd2,↓kd3,h0i,↓kd4,hv,↓kd5,u0,u1,hu,↓loop_c,g,iN,gY,Tryz.f140]
  ·have h1:=M9 ⟨x,0,y⟩ gone es 0 false [];have h2:=aBF ⟨x,0,y⟩ gone es 0 [];have loop_c:=fun {R:Type} {L n:Nat} {k:KE R} (hn:3<=n) (hL:2^60<=L) {q:Int}=>loop_l (R:=R) (L:=L) (n:=n) (k:=k) hn hL q x 0 y false;generalize chgE ⟨x,0,y⟩ gone es 0 false []=W at *;obtain⟨o,m⟩:=W;simp only[Aa,Af]at h1 h2 loop_c;subst h2;clear loop_l;refine⟨o,p+1+1+1+1,by omega,by omega,by omega,fun R L n hq k hn hL=>aS D7 (by simp[idsL,idsA]) (by simp[idsL,idsA]) ?_⟩
   rcases wM o with g|g
   ·have ho:o=[]:=by unfold eE at g;split at g<;>simp_all
    subst ho;obtain _|n:=n;omega
    simp-implicitDefEqProofs (maxSteps:=9^7) (disch:=try exact Dz) only[↓DN,↓kAsg,↓kRet,UP,simprocAttr,↓bX,↓kd1,hw,↓kd2,↓kd3,h0i,↓kd4,hv,↓loop_c,g,cR,iN,gY,Tryz.f140]
   ·obtain _|n:=n;omega
    simp-implicitDefEqProofs (maxSteps:=9^7) (disch:=try exact Dz) only[↓DN,↓kAsg,↓kRet,UP,simprocAttr,↓bX,LE,↓kd1,hw,↓kd2,↓kd3,h0i,↓kd4,hv,↓loop_c,g,iN,gY,Tryz.f140]
 ·have h0i:¬(0:Int)<(aG al).length:=om;have h1:=M9 ⟨x,0,y⟩ gone es 0 false [];have h2:=aBF ⟨x,0,y⟩ gone es 0 [];have loop_c:=fun {R:Type} {L n:Nat} {k:KE R} (hn:3<=n) (hL:2^60<=L) {q:Int}=>loop_l (R:=R) (L:=L) (n:=n) (k:=k) hn hL q x 0 y false;generalize chgE ⟨x,0,y⟩ gone es 0 false []=W at *;obtain⟨o,m⟩:=W;simp only[Aa,Af]at h1 h2 loop_c;subst h2;clear loop_l;refine⟨o,p+1+1+1,by omega,by omega,by omega,fun R L n hq k hn hL=>aS D7 (by simp[idsL,idsA]) (by simp[idsL,idsA]) ?_⟩
  rcases wM o with g|g
  ·have ho:o=[]:=by unfold eE at g;split at g<;>simp_all
   subst ho;obtain _|n:=n;omega
   simp-implicitDefEqProofs (maxSteps:=9^7) (disch:=try exact Dz) only[↓DN,↓kAsg,↓kRet,UP,simprocAttr,↓bX,↓kd1,hw,↓kd2,↓kd3,h0i,↓loop_c,g,cR,iN,gY,Tryz.f140]
  ·obtain _|n:=n;omega
   simp-implicitDefEqProofs (maxSteps:=9^7) (disch:=try exact Dz) only[↓DN,↓kAsg,↓kRet,UP,simprocAttr,↓bX,LE,↓kd1,hw,↓kd2,↓kd3,h0i,↓loop_c,g,iN,gY,Tryz.f140]
theorem aFh:b9 (aA env 3000 12 138 [.d (.str [97,98,99,32,56,32,48,97,48,32,48,97,49,32,48,98,48,32,49,97,50,32,49,98,50,32,50,97,51,32,50,98,51,32,51,97,52,32,51,98,52,32,52,97,53,32,52,98,53,32,53,97,54,32,53,98,54,32,54,99,55])] [])=true:=kr
theorem aNF:b9 (aA env 3000 12 138 [.d (.str [97,98,99,32,51,32,48,97,49,32,49,98,50,32,50,99,48])] [])=true:=kr
theorem aJZ:b9 (aA env 3000 12 138 [.d (.str [97,99,32,51,32,48,97,49,32,49,97,50,32,50,99,48])] [])=true:=kr
theorem aLe:mJ (aA env 3000 12 139 [.d (.str [100,32,43,49,32,43,50,32,45,50])] [])=true:=kr
theorem aKO:b9 (aA env 3000 12 138 [.d (.str [97,98,32,53,32,48,97,49,32,49,97,50,32,49,98,48,32,50,97,51,32,50,98,49,32,51,97,52,32,51,98,50,32,52,98,51])] [])=true:=kr
theorem aKi:b9 (aA env 3000 12 138 [.d (.str [97,99,32,52,32,48,97,49,32,49,97,50,32,50,99,51,32,51,97,48])] [])=true:=kr
theorem aLv:b9 (aA env 3000 12 138 [.d (.str [97,98,99,32,50,32,48,97,49,32,49,98,48,32,49,99,49])] [])=true:=kr
theorem aMO:b9 (aA env 3000 12 138 [.d (.str [97,98,99,32,49,32,48,97,48,32,48,98,48])] [])=true:=kr
theorem aKk:mJ (aA env 3000 12 139 [.d (.str [98,32,43,49,32,43,50,32,45,50])] [])=true:=kr
theorem aLo:b9 (aA env 3000 12 138 [.d (.str [97,98,32,52,32,48,97,49,32,49,97,50,32,49,98,48,32,50,97,51,32,50,98,49,32,51,98,50])] [])=true:=kr
theorem aLd:mJ (aA env 3000 12 139 [.d (.str [97,98,32,43,49,44,48,32,43,50,44,48,32,43,51,44,49,32,45,51,44,51])] [])=true:=kr
theorem aNB:mJ (aA env 3000 12 139 [.d (.str [97,98,32,43,49,44,48,32,43,50,44,48,32,45,50,44,50])] [])=true:=kr
theorem aMS:b9 (aA env 3000 12 138 [.d (.str [97,98,32,51,32,48,97,49,32,49,97,50,32,49,98,48])] [])=true:=kr
theorem WL:b9 (aA env 3000 12 138 [.d (.str [97,98,32,50,32,48,97,49,32,49,98,48])] [])=true:=kr
theorem aLH:mJ (aA env 3000 12 139 [.d (.str [99,32,43,49,32,43,50,32,45,50])] [])=true:=kr
theorem aKQ:b9 (aA env 3000 12 138 [.d (.str [97,98,100,32,51,32,48,97,49,32,48,100,48,32,49,98,48,32,49,100,50,32,50,97,50])] [])=true:=kr
theorem aND:b9 (aA env 3000 12 138 [.d (.str [97,98,32,51,32,48,97,49,32,48,98,48,32,49,98,50,32,50,97,50,32,50,98,50])] [])=true:=kr
theorem aE1:mJ (aA env 3000 12 139 [.d (.str [97,99,32,43,49,44,50,32,43,50,44,48,32,45,50,44,50])] [])=true:=kr
theorem aLa:b9 (aA env 3000 12 138 [.d (.str [97,98,99,32,50,32,48,97,48,32,48,98,48,32,48,99,49])] [])=true:=kr
theorem aGH:b9 (aA env 3000 12 138 [.d (.str [98,99,32,50,32,48,98,49,32,49,99,48])] [])=true:=kr
theorem aFq:mJ (aA env 3000 12 139 [.d (.str [99,32,43,49,32,45,49])] [])=true:=kr
def eN:List (List (List UInt8)):=[[[97,98,32,50,32,48,97,49,32,49,98,48],[98,99,32,50,32,48,98,49,32,49,99,48],[97,99,32,43,49,44,50,32,43,50,44,48,32,45,50,44,50]],[[97,98,32,51,32,48,97,49,32,49,97,50,32,49,98,48],[97,98,32,50,32,48,97,49,32,49,98,48],[97,98,32,43,49,44,48,32,43,50,44,48,32,45,50,44,50]],[[97,98,99,32,56,32,48,97,48,32,48,97,49,32,48,98,48,32,49,97,50,32,49,98,50,32,50,97,51,32,50,98,51,32,51,97,52,32,51,98,52,32,52,97,53,32,52,98,53,32,53,97,54,32,53,98,54,32,54,99,55],[97,98,99,32,49,32,48,97,48,32,48,98,48],[99,32,43,49,32,45,49]],[[97,98,99,32,51,32,48,97,49,32,49,98,50,32,50,99,48],[98,99,32,50,32,48,98,49,32,49,99,48],[97,99,32,43,49,44,50,32,43,50,44,48,32,45,50,44,50]],[[97,98,32,51,32,48,97,49,32,48,98,48,32,49,98,50,32,50,97,50,32,50,98,50],[97,98,99,32,50,32,48,97,49,32,49,98,48,32,49,99,49],[98,32,43,49,32,43,50,32,45,50]],[[97,98,100,32,51,32,48,97,49,32,48,100,48,32,49,98,48,32,49,100,50,32,50,97,50],[97,98,32,50,32,48,97,49,32,49,98,48],[100,32,43,49,32,43,50,32,45,50]],[[97,98,99,32,56,32,48,97,48,32,48,97,49,32,48,98,48,32,49,97,50,32,49,98,50,32,50,97,51,32,50,98,51,32,51,97,52,32,51,98,52,32,52,97,53,32,52,98,53,32,53,97,54,32,53,98,54,32,54,99,55],[97,98,99,32,50,32,48,97,48,32,48,98,48,32,48,99,49],[99,32,43,49,32,45,49]],[[97,98,32,52,32,48,97,49,32,49,97,50,32,49,98,48,32,50,97,51,32,50,98,49,32,51,98,50],[97,98,32,53,32,48,97,49,32,49,97,50,32,49,98,48,32,50,97,51,32,50,98,49,32,51,97,52,32,51,98,50,32,52,98,51],[97,98,32,43,49,44,48,32,43,50,44,48,32,43,51,44,49,32,45,51,44,51]],[[97,99,32,51,32,48,97,49,32,49,97,50,32,50,99,48],[97,99,32,52,32,48,97,49,32,49,97,50,32,50,99,51,32,51,97,48],[99,32,43,49,32,43,50,32,45,50]]]
theorem aIS:∀t∈eN,t.length=3/\b9 (aA env 3000 12 138 [.d (.str (t.getD 0 []))] [])=true/\b9 (aA env 3000 12 138 [.d (.str (t.getD 1 []))] [])=true/\mJ (aA env 3000 12 139 [.d (.str (t.getD 2 []))] [])=true:=by
 intro t ht;simp only[eN,Au,Bn,or_false]at ht
 rcases ht with rfl|rfl|rfl|rfl|rfl|rfl|rfl|rfl|rfl
 ·exact⟨rfl,WL,aGH,aE1⟩
 ·exact⟨rfl,aMS,WL,aNB⟩
 ·exact⟨rfl,aFh,aMO,aFq⟩
 ·exact⟨rfl,aNF,aGH,aE1⟩
 ·exact⟨rfl,aND,aLv,aKk⟩
 ·exact⟨rfl,aKQ,WL,aLe⟩
 ·exact⟨rfl,aFh,aLa,aFq⟩
 ·exact⟨rfl,aLo,aKO,aLd⟩
 ·exact⟨rfl,aJZ,aKi,aLH⟩
theorem aNs{k:Nat}(h:k<9):(((eN.map fun r=>D.ivs r.length (nU r)).drop k).map A.d).head? =some (.d (.ivs (eN.getD k []).length (nU (eN.getD k [])))):=by
 rw[Dm,Ct,Bc,Ab,Ae (show k<eN.length from h)];rfl
theorem aNE:(eN.map fun r=>D.ivs r.length (nU r)).take 9=eN.map fun r=>D.ivs r.length (nU r):=by
 exact Bx (by simp[eN])
theorem aPe:(eN.map fun r=>D.ivs r.length (nU r)).length=9:=by simp[eN]
theorem aEe{L n:Nat}(hn:1<=n):aA env L n 137 [] []=some (.d (.ivs 9 (eN.map fun r=>.ivs r.length (nU r))),[]):=by
 obtain _|n:=n;omega
 kernel_rfl
theorem aDU{R:Type}{L n:Nat}{hq:H}{k:KA R}(hn:1<=n):aV env (aA env L n) hq 137 [] k=k (.d (.ivs 9 (eN.map fun r=>.ivs r.length (nU r)))) hq:=
 cW rfl (aEe hn) rfl (.inr rfl)
theorem aKm{t:List (List UInt8)}(ht:t∈eN):t.length=3/\∃(al st:Int) (l:List Edge) (ok:Bool) (al2 st2:Int) (l2:List Edge) (ok2:Bool) (b:Int) (nx:List (List Int)) (ac:List Bool),l.length<=100/\l2.length<=100/\1<=nx.length/\AutB 12 nx ac
  /\(∀ {R:Type} {L n:Nat} {hq:H} {k:KA R},12<=n->2^60<=L->aV env (aA env L n) hq 138 [.d (.str (t.getD 0 []))] k=k (.tup [.agg [nI al,nI st,.d (.ivs l.length (aJ l))],.d (.bool ok)]) hq)
  /\(∀ {R:Type} {L n:Nat} {hq:H} {k:KA R},12<=n->2^60<=L->aV env (aA env L n) hq 138 [.d (.str (t.getD 1 []))] k=k (.tup [.agg [nI al2,nI st2,.d (.ivs l2.length (aJ l2))],.d (.bool ok2)]) hq)
  /\(∀ {R:Type} {L n:Nat} {hq:H} {k:KA R},12<=n->2^60<=L->aV env (aA env L n) hq 139 [.d (.str (t.getD 2 []))] k=k (.tup [autD b nx ac,.d (.bool true)]) hq):=by
 obtain⟨h0,h1,h2,h3⟩:=aIS t ht;obtain⟨al,st,l,ok,a1,a2⟩:=Q6 h1;obtain⟨al2,st2,l2,ok2,b1,b2⟩:=Q6 h2;obtain⟨b,nx,ac,c1,c2,c3,c4,c5⟩:=aJ2 h3;refine⟨h0,al,st,l,ok,al2,st2,l2,ok2,b,nx,ac,a1,b1,c1,⟨c2,by omega,fun r hr=>by have:=c4 r hr;have:=dG b;omega⟩,?_,?_,?_⟩
 ·exact fun hn hL=>cW rfl (tL om hn _ _ _ _ a2) rfl (.inr rfl)
 ·exact fun hn hL=>cW rfl (tL om hn _ _ _ _ b2) rfl (.inr rfl)
 ·exact fun hn hL=>cW rfl (tL om hn _ _ _ _ c5) rfl (.inr rfl)
theorem BU:(env.hint 73).mode=0:=kr
theorem aJP{c:List UInt8}(hc:c.length<=2000)(p:Int)(hp:0<=p)(hp2:p<=200000000):
  ∃(al st:Int) (es:List Edge) (al2 st2:Int) (es2:List Edge) (b:Int) (nx:List (List Int)) (ac:List Bool) (q:Int),es.length<=130000/\es2.length<=130000/\AutB 30 nx ac/\p<=q/\q<=p+500000/\(Dw 17 73 [] (.tup [.agg [nI al,nI st,.d (.ivs es.length (aJ es))],.agg [nI al2,nI st2,.d (.ivs es2.length (aJ es2))],autD b nx ac]) c p q):=by
 obtain⟨al,st,es,al2,st2,es2,b,nx,ac,q1,a1,a2,hb,a3,a4,a5,kd1⟩:=aIV hc p hp om;obtain⟨v,_,_,_,kd2⟩:=bM hc q1 3 om om
 by_cases hv:v=0
 ·obtain⟨i,i0,i1,_,kd3⟩:=bM hc (q1+1) 9 om om;have i9:=i1 om;have hi:i.toNat<9:=om;obtain⟨h3,al3,st3,l3,ok,al4,st4,l4,ok2,b2,nx2,ac2,c1,c2,c3,hb2,kc_1,kc_2,kc_3⟩:=aKm (t:=eN.getD i.toNat []) (XH (show i.toNat<eN.length from hi));have gh:=aNs hi;have g0:=DO (l:=eN.getD i.toNat []) (k:=0) om;have g1:=DO (l:=eN.getD i.toNat []) (k:=1) om;have g2:=DO (l:=eN.getD i.toNat []) (k:=2) om;obtain⟨u,_,_,_,kd4⟩:=bM hc (q1+1+1) 4 om om;rw[h3]at gh;generalize eN.getD i.toNat []=t at *;have t1:=aNE;have t2:=aPe;have kc_t:=fun {R:Type} {L n:Nat} {hq:H} {k:KA R} (hn:1<=n)=> @aDU R L n hq k hn;generalize(eN.map fun r=>D.ivs r.length (nU r))=W at *;have i9':¬9<=i:=om;have hW:1<=9-i.toNat:=om;have g0':((nU t).map A.d).head? =some (.d (.str (t.getD 0 []))):=g0
  by_cases hu0:u=0
  ·obtain⟨es5,q5,d1,d2,d3,kd5⟩:=VG hc al3 st3 l3 om (q1+1+1+1) om om;refine⟨al3,st3,es5,al4,st4,l4,b2,nx2,ac2,q5,by omega,by omega,hb2.mono om,by omega,by omega,fun R L n hq k hn hL=>aS BU rfl (by simp[autD,idsA,idsL]) ?_⟩;unfold autD at kd1 kc_3|-;clear hb hb2;obtain _|n:=n;omega
   simp-implicitDefEqProofs (maxSteps:=9^7) (disch:=try exact Dz) only[↓DN,↓kRet,UP,simprocAttr,↓kd1,↓kd2,hv,↓kc_t,↓kd3,↓kc_1,↓kc_2,↓kc_3,↓kd4,hu0,↓kd5,t2,gh,g0',g1,g2,h3,i0,i9,hi,Cq,rF,rJ,pI,Tryz.f73]
  by_cases hu1:u=1
  ·obtain⟨es5,q5,d1,d2,d3,kd5⟩:=VG hc al4 st4 l4 om (q1+1+1+1) om om;refine⟨al3,st3,l3,al4,st4,es5,b2,nx2,ac2,q5,by omega,by omega,hb2.mono om,by omega,by omega,fun R L n hq k hn hL=>aS BU rfl (by simp[autD,idsA,idsL]) ?_⟩;unfold autD at kd1 kc_3|-;clear hb hb2;obtain _|n:=n;omega
   simp-implicitDefEqProofs (maxSteps:=9^7) (disch:=try exact Dz) only[↓DN,↓kRet,UP,simprocAttr,↓kd1,↓kd2,hv,↓kc_t,↓kd3,↓kc_1,↓kc_2,↓kc_3,↓kd4,hu1,↓kd5,t2,gh,g0',g1,g2,h3,i0,i9,hi,Cq,rF,rJ,pI,Tryz.f73]
  by_cases hu2:u=2
  ·obtain⟨nx5,ac5,q5,hb5,_,d2,d3,kd5⟩:=aHf hc (B:=12) om b2 nx2 ac2 hb2 c3 (q1+1+1+1) om om;refine⟨al3,st3,l3,al4,st4,l4,b2,nx5,ac5,q5,by omega,by omega,hb5.mono om,by omega,by omega,fun R L n hq k hn hL=>aS BU rfl (by simp[autD,idsA,idsL]) ?_⟩;unfold autD at kd1 kc_3 kd5|-;clear hb hb2 hb5;obtain _|n:=n;omega
   simp-implicitDefEqProofs (maxSteps:=9^7) (disch:=try exact Dz) only[↓DN,↓kRet,UP,simprocAttr,↓kd1,↓kd2,hv,↓kc_t,↓kd3,↓kc_1,↓kc_2,↓kc_3,↓kd4,hu2,↓kd5,t2,gh,g0',g1,g2,h3,i0,i9,hi,Cq,rF,rJ,pI,Tryz.f73]
  ·refine⟨al3,st3,l3,al4,st4,l4,b2,nx2,ac2,q1+1+1+1,by omega,by omega,hb2.mono om,by omega,by omega,fun R L n hq k hn hL=>aS BU rfl (by simp[autD,idsA,idsL]) ?_⟩;unfold autD at kd1 kc_3|-;clear hb hb2;obtain _|n:=n;omega
   simp-implicitDefEqProofs (maxSteps:=9^7) (disch:=try exact Dz) only[↓DN,↓kRet,UP,simprocAttr,↓kd1,↓kd2,hv,↓kc_t,↓kd3,↓kc_1,↓kc_2,↓kc_3,↓kd4,hu0,hu1,hu2,t2,gh,g0',g1,g2,h3,i0,i9,hi,Cq,rF,rJ,pI,Tryz.f73]
 ·refine⟨al,st,es,al2,st2,es2,b,nx,ac,q1+1,by omega,by omega,hb.mono om,by omega,by omega,fun R L n hq k hn hL=>aS BU rfl (by simp[autD,idsA,idsL]) ?_⟩;unfold autD at kd1|-;clear hb;obtain _|n:=n;omega
  simp-implicitDefEqProofs (maxSteps:=9^7) (disch:=try exact Dz) only[↓DN,↓kRet,UP,simprocAttr,↓kd1,↓kd2,hv,rJ,pI,Tryz.f73]
theorem aJ3{R:Type}{L n i j:Nat}{hq:H}{c:List UInt8}{p v:Int}{l:List Int}{k:KA R}(he:aA env L n 74 [.ptr 0 0 0,.sl 1 0 0 l.length] [rdO c p,.arr (ints l) 1 0]=some (nI v,[rdO c (p+1),.arr (ints l) 1 0]))(hi:hq[i]? =some (rdO c p))(hj:hq[j]? =some (.arr (ints l) 1 0))(hij:¬i=j):
  aV env (aA env L n) hq 74 [.ptr i 0 0,.sl j 0 0 l.length] k=k (nI v) (hq.set i (rdO c (p+1))):=by
 have hre:aC aD hq [i,j] []=[i,j]:=by
  have e1:aC aD hq [i,j] []=match hq[i]? with
   |some (.box cs)=>aC (aD-1) hq ([j]++idsL cs) ([]++[i])
   |some (.vec cs _ _)=>aC (aD-1) hq ([j]++idsL cs) ([]++[i])
   |some .void=>aC (aD-1) hq [j] []
   |some _=>aC (aD-1) hq [j] ([]++[i])
   |none=>aC (aD-1) hq [j] []:=rfl
  have e2:aC (aD-1) hq [j] [i]=if [i].contains j=true then aC (aD-2) hq [] [i]else match hq[j]? with
   |some (.box cs)=>aC (aD-2) hq ([]++idsL cs) ([i]++[j])
   |some (.vec cs _ _)=>aC (aD-2) hq ([]++idsL cs) ([i]++[j])
   |some .void=>aC (aD-2) hq [] [i]
   |some _=>aC (aD-2) hq [] ([i]++[j])
   |none=>aC (aD-2) hq [] [i]:=rfl
  have e3:[i].contains j=false:=by simpa using fun h=>hij h.symm
  rw[e1,hi];show aC (aD-1) hq [j] [i]=[i,j]
  rw[e2,e3,hj];rfl
 have hpk:pack hq [i,j]=[rdO c p,.arr (ints l) 1 0]:=by
  simp only[pack,Ag,Ak,Ab,hi,hj]<;>rfl
 have hid:idsL [A.ptr i 0 0,A.sl j 0 0 l.length]=[i,j]:=rfl
 have hma:aE (aH [i,j]) [A.ptr i 0 0,A.sl j 0 0 l.length]=[A.ptr 0 0 0,A.sl 1 0 0 l.length]:=by
  simp[aE,mapA,aH,hij]
 have hc:bJ (aA env L n) env.hint [rdO c p,.arr (ints l) 1 0] 74 [.ptr 0 0 0,.sl 1 0 0 l.length]=some (nI v,[rdO c (p+1),.arr (ints l) 1 0]):=by
  unfold bJ;rw[aNO];exact he
 have hcl:closed hq [i,j] [i,j]=true:=by
  simp only[closed,Bt,Cc,hi,hj];simp[idsL,idsA]
 have h2:(hq.set i (rdO c (p+1)))[j]? =some (.arr (ints l) 1 0):=by rw[Df hij];exact hj
 unfold aV;rw[hid,hre,hpk,hma,hc];simp only[Ac,Aa,Ad,hcl,and_self,if_true,mapA]
 congr 1
 simp only[bA,mapO,aE,mapA,Ak,Ai];exact aKJ h2
theorem aIs{c:List UInt8}(hc:c.length<=2000)(l:List Int)(hl:0<l.length)(hl2:l.length<1000)(p:Int)(hp:0<=p)(hp2:p<=1000000000):∃v:Int,v∈l/\(∀ {R:Type} {L n i j:Nat} {hq:H} {k:KA R},2<=n->2^60<=L->hq[i]? =some (rdO c p)->hq[j]? =some (.arr (ints l) 1 0)->¬i=j->aV env (aA env L n) hq 74 [.ptr i 0 0,.sl j 0 0 l.length] k=k (nI v) (hq.set i (rdO c (p+1)))):=by
 obtain⟨v,hv,he⟩:=aLE hc l 0 hl hl2 p hp hp2;exact⟨v,hv,fun hn hL hi hj hij=>aJ3 (he _ _ hn hL) hi hj hij⟩
theorem P9(c0:List UInt8)(hc0:c0.length<=4294967296):∃(P:List Sys) (b:Aut) (pt:Int),P.length<=4/\SysB 130000 P/\AutB 60 b.nx b.ac/\∀(R:Type) (L n:Nat) (hq:H) (k:KA R),20<=n->2^60<=L->aV env (aA env L n) hq 22 [.d (.ivs c0.length (bC c0))] k=k (.tup [.d (.ivs P.length (sysD P)),autD b.al b.nx b.ac,nI pt]) hq:=by
 have hc:=aO1 c0;generalize hcs:src c0=c at hc;obtain⟨P,al,nx,ac,q,g1,g2,g3,g4,g5,kd1⟩:=aJF hc 0 om om;obtain⟨v,_,_,_,kd2⟩:=bM hc q 3 om om
 by_cases hv:v=0
 ·obtain⟨al1,st1,es1,al2,st2,es2,b2,nx2,ac2,q2,h1,h2,h3,h4,h5,kd3⟩:=aJP hc (q+1) om om;obtain⟨pt,_,kd4⟩:=aIs hc [0,1,0,1,2,-1] sm sm q2 om om;simp only[ints,Ag,Ak,Ac,Aa,Af,Nat.reduceAdd]at kd4;refine⟨[⟨al1,st1,es1⟩,⟨al2,st2,es2⟩],⟨b2,nx2,ac2⟩,pt,by simp,?_,h3.mono om,fun R L n hq k hn hL=>cW rfl ?_ rfl (.inr rfl)⟩
  ·intro s hs;simp only[Au,Bn,or_false]at hs
   rcases hs with rfl|rfl
   ·exact h1
   ·exact h2
  have kd_a:=fun {R:Type} {hq:H} {k:KA R} {i:Nat} {L n:Nat}=> @Q8 L n _ _ _ _ _ _ _ rfl rfl kd1 R hq k i;have kd_b:=fun {R:Type} {hq:H} {k:KA R} {i:Nat} {L n:Nat}=> @Q8 L n _ _ _ _ _ _ _ rfl rfl kd2 R hq k i;have kd_c:=fun {R:Type} {hq:H} {k:KA R} {i:Nat} {L n:Nat}=> @Q8 L n _ _ _ _ _ _ _ rfl rfl kd3 R hq k i;clear kd1 kd2 kd3;unfold autD at kd_a kd_c|-;clear g2 g3 h3;simp only[sysD,Ac,Aa];obtain _|n:=n;omega
  simp-implicitDefEqProofs (maxSteps:=9^7) (disch:=try exact Dz) only[↓DN,↓kAsg,↓kRet,UP,simprocAttr,↓aFY,hcs,↓kd_a,↓kd_b,hv,↓kd_c,↓kd4,wX,pP,Tryz.f22]
 ·obtain⟨pt,_,kd4⟩:=aIs hc [0,1,0,1,2,-1] sm sm (q+1) om om;simp only[ints,Ag,Ak,Ac,Aa,Af,Nat.reduceAdd]at kd4;refine⟨P,⟨al,nx,ac⟩,pt,g1,fun s hs=>Bf (g2 s hs) om,g3,fun R L n hq k hn hL=>cW rfl ?_ rfl (.inr rfl)⟩;have kd_a:=fun {R:Type} {hq:H} {k:KA R} {i:Nat} {L n:Nat}=> @Q8 L n _ _ _ _ _ _ _ rfl rfl kd1 R hq k i;have kd_b:=fun {R:Type} {hq:H} {k:KA R} {i:Nat} {L n:Nat}=> @Q8 L n _ _ _ _ _ _ _ rfl rfl kd2 R hq k i;clear kd1 kd2;unfold autD at kd_a|-;clear g2 g3;obtain _|n:=n;omega
  simp-implicitDefEqProofs (maxSteps:=9^7) (disch:=try exact Dz) only[↓DN,↓kAsg,↓kRet,UP,simprocAttr,↓aFY,hcs,↓kd_a,↓kd_b,hv,↓kd4,wX,pP,Tryz.f22]
theorem aOo{P:List Sys}{b:Aut}{pt:Int}(h:AC P b pt=false):repG P b pt=[]:=by
 unfold repG;rw[if_neg (by rw[h];decide)]
theorem aNe{P:List Sys}{b:Aut}{pt:Int}(h:AC P b pt=true):repG P b pt=repF P b pt.toNat 0 (P.getD pt.toNat default).es.length:=by
 unfold repG;rw[if_pos h]
theorem aMF{P:List Sys}{b:Aut}{pt:Int}(h:AC P b pt=true):(bR P=true/\iT b.al b.nx b.ac=true)/\0<=pt/\pt<P.length:=by
 unfold AC at h;simp only[Ao,decide_eq_true_eq]at h;exact⟨h.1.1,h.1.2,h.2⟩
theorem aMj{P:List Sys}{b:Aut}{pt:Int}(h:AC P b pt=false)(hk:kB P b=true):pt<0\/(P.length:Int)<=pt:=by
 unfold kB at hk;simp only[Ao]at hk;unfold AC at h;rw[hk.1.1,hk.1.2]at h;simp only[Bj,Cl,Bool.and_eq_false_iff,decide_eq_false_iff_not]at h;omega
theorem aBJ{L n:Nat}(hn:30<=n)(c:List UInt8)(hL:2^60<=L):aA env L n 4 [.d (.ivs c.length (bC c))] []=some (.d (.bool true),[]):=by
 by_cases hsz:(1048576:Int)<c.length
 ·obtain _|n:=n;omega
  simp-implicitDefEqProofs (maxSteps:=9^7) (disch:=try exact Dz) only[↓DN,↓kAsg,↓kRet,UP,simprocAttr,hsz,kN,j1,Tryz.f4]
 ·obtain⟨P,b,pt,hl,hs,hb,kd⟩:=P9 c om;have hP:cS P:=⟨by omega,fun s h=>by have:=hs s h;omega⟩
  have hP1:=hP.1;have sb:=hb.short om;have hac:b.ac.length<=4294967296:=by have:=hb.a;omega
  have kc_i:=@WB L P b pt hP sb hac hL;have kc_s:=@WY L P b pt hP sb hac hL;have kc_k:=@aBN L P b hP sb hac hL;unfold autD at kd;unfold repD at kc_i kc_s
  cases hr:AC P b pt with
  |false=>
   rw[aOo hr]at kc_i kc_s;simp only[Aa,cR]at kc_i kc_s;have kc_a:=@NF L [] sm hL;simp only[Aa,cR]at kc_a
   cases hk:kB P b with
   |false=>
    rw[hk]at kc_k;obtain _|n:=n;omega
    simp-implicitDefEqProofs (maxSteps:=9^7) (disch:=try exact Dz) only[↓DN,↓kAsg,↓kRet,UP,simprocAttr,hsz,↓kd,↓kc_i,↓kc_s,↓kc_k,↓kc_a,kN,j1,Tryz.f4]
   |true=>
    rw[hk]at kc_k
    rcases aMj hr hk with h0|h0
    ·obtain _|n:=n;omega
     simp-implicitDefEqProofs (maxSteps:=9^7) (disch:=try exact Dz) only[↓DN,↓kAsg,↓kRet,UP,simprocAttr,hsz,↓kd,↓kc_i,↓kc_s,↓kc_k,↓kc_a,h0,kN,j1,Tryz.f4]
    ·have h1:¬pt<0:=om;obtain _|n:=n;omega
     simp-implicitDefEqProofs (maxSteps:=9^7) (disch:=try exact Dz) only[↓DN,↓kAsg,↓kRet,UP,simprocAttr,hsz,↓kd,↓kc_i,↓kc_s,↓kc_k,↓kc_a,h0,h1,kN,j1,Tryz.f4]
  |true=>
   obtain⟨_,h0,h1⟩:=aMF hr;have hpt:pt.toNat<P.length:=om;have hes:=AB hP hpt;have g:=aAD hpt;rw[aNe hr]at kc_i kc_s;have hfl:=XG (P:=P) (b:=b) (pt:=pt.toNat) (i:=0) (j:=(P.getD pt.toNat default).es.length)
   cases hk:kB P b with
   |false=>
    rw[hk]at kc_k;generalize repF P b pt.toNat 0 (P.getD pt.toNat default).es.length=w at *;obtain _|n:=n;omega
    simp-implicitDefEqProofs (maxSteps:=9^7) (disch:=try exact Dz) only[↓DN,↓kAsg,↓kRet,UP,simprocAttr,↓NF,hsz,↓kd,↓kc_i,↓kc_s,↓kc_k,kN,j1,Tryz.f4]
   |true=>
    rw[hk]at kc_k;rw[aMV hk hpt]at kc_i kc_s;have h2:¬pt<0:=om;have h3:¬(P.length:Int)<=pt:=om;obtain _|n:=n;omega
    simp-implicitDefEqProofs (maxSteps:=9^7) (disch:=try exact Dz) only[↓DN,↓kAsg,↓kRet,UP,simprocAttr,↓NF,NE,Ba,Bl,hsz,↓kd,↓kc_i,↓kc_s,↓kc_k,h0,h1,h2,h3,g,kN,j1,Tryz.f4]
end Ev
end Go.Proofs.YtahbdkmimmnadaaGreatDoor
