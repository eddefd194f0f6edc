/-
  Automata that are drawn: a random one.
-/
import Derived.Test.YtahbdkmimmnadaaGreatDoorShRn
import Derived.Test.YtahbdkmimmnadaaGreatDoorCopy
import Derived.Test.YtahbdkmimmnadaaGreatDoorPathV
import Derived.Test.YtahbdkmimmnadaaGreatDoorEnvF
import Derived.Test.YtahbdkmimmnadaaGreatDoorLeast
import Derived.Test.YtahbdkmimmnadaaGreatDoorDrawT
import Derived.Test.YtahbdkmimmnadaaGreatDoorClassL
set_option linter.unusedSimpArgs false
set_option linter.unusedVariables false
set_option linter.unusedSectionVars false
set_option maxRecDepth 1000000
set_option maxHeartbeats 4000000
namespace Go.Proofs.YtahbdkmimmnadaaGreatDoor
namespace Ev
theorem TP{c:List UInt8}(hc:c.length<=2000){al st i9:Int}{w:Nat}(hw:w<=6){d:List (List Int)}(hdl:d.length<=4294967296){cs:List D}{z:Nat}:∀(j i:Nat) (p:Int) (o:List Int) (hi:i+j=w) (ho:o.length=i) (hp:0<=p) (hp2:p+j<=1000000000),
  ∃(r:List Int) (q:Int),r.length=w/\q=p+j/\∀(R:Type) (L n m:Nat) (k:KE R),2<=n->2^60<=L->j<m->
  aS env (aA env L n) L 1 (W32 (W4 (W1 [1002]))) Bz4 (j3 1) Bz42 m (.ptr 0 0 0::Y1 (nI st::Y2 (Y1 (.ptr 1 0 0::.ptr 2 0 0::nI w::nI i9::.sl 3 0 0 i::nI i::Y32 (Y4 (Y1 ([]))))))) (rdO c p::.box [nI 0,.sl 4 0 0 0,.sl 5 0 0 0]::.box [nI al,.sl 6 0 0 d.length,.sl 7 0 0 z]::.arr (ints o) 1 0::.arr [] 0 0::.arr [] 0 0::.vec (aB 8 d++aG 0) 1 0::.arr cs 1 0::aI d) k
  =k (.exit 2) (.ptr 0 0 0::Y1 (nI st::Y2 (Y1 (.ptr 1 0 0::.ptr 2 0 0::nI w::nI i9::.sl 3 0 0 w::nI w::Y32 (Y4 (Y1 ([]))))))) (rdO c q::.box [nI 0,.sl 4 0 0 0,.sl 5 0 0 0]::.box [nI al,.sl 6 0 0 d.length,.sl 7 0 0 z]::.arr (ints r) 1 0::.arr [] 0 0::.arr [] 0 0::.vec (aB 8 d++aG 0) 1 0::.arr cs 1 0::aI d):=by
 intro j
 induction j with
 |zero=>
  intro i p o hi ho hp hp2;obtain rfl:i=w:=om;refine⟨o,p,ho,by omega,fun R L n m k hn hL hm=> ?_⟩;obtain _|m:=m;omega;subst ho
  simp-implicitDefEqProofs (maxSteps:=9^7) (disch:=try exact Dz) only[↓DN,↓kRet,UP,simprocAttr,Ak,↓aPr,mZ,nO,Tryz.f247]
 |succ j ih=>
  intro i p o hi ho hp hp2;obtain⟨v,v0,v1,v2,kd⟩:=cL hc p st hp om;obtain⟨r,q,g1,g2,kd2⟩:=ih (i+1) (p+1) (o++[v]) om (by simp;omega) om om;refine⟨r,q,g1,by omega,fun R L n m k hn hL hm=> ?_⟩;obtain _|m:=m;omega;have kd2':=kd2 R L n m k hn hL om;rw[cs1 i]at kd2';have hc1:(i:Int)<w:=om;subst ho;clear ih kd2
  simp-implicitDefEqProofs (maxSteps:=9^7) (disch:=try exact Dz) only[↓DN,↓kRet,UP,simprocAttr,hc1,↓kd,↓kd2',cC,uG,↓aRN,mZ,nO,Tryz.f247]
theorem SN{c:List UInt8}(hc:c.length<=2000){al st i9:Int}{w:Nat}(hw:w<=6){cs:List D}{z:Nat}:∀(j i:Nat) (p:Int) (o:List Int) (hi:i+j=w) (ho:o.length=i) (hp:0<=p) (hp2:p+j<=1000000000),
  ∃(r:List Int) (q:Int),r.length=w/\q=p+j/\∀(R:Type) (L n m:Nat) (k:KE R),2<=n->2^60<=L->j<m->
  aS env (aA env L n) L 1 (W32 (W4 (W1 [1002]))) Bz4 (j3 1) Bz42 m (.ptr 0 0 0::Y1 (nI st::Y2 (Y1 (.ptr 1 0 0::.ptr 2 0 0::nI w::nI i9::.sl 3 0 0 i::nI i::Y32 (Y4 (Y1 ([]))))))) (rdO c p::.box [nI 0,.sl 4 0 0 0,.sl 5 0 0 0]::.box [nI al,.sl 6 0 0 0,.sl 7 0 0 z]::.arr (ints o) 1 0::.arr [] 0 0::.arr [] 0 0::.arr [] 0 0::.arr cs 0 0::[]) k
  =k (.exit 2) (.ptr 0 0 0::Y1 (nI st::Y2 (Y1 (.ptr 1 0 0::.ptr 2 0 0::nI w::nI i9::.sl 3 0 0 w::nI w::Y32 (Y4 (Y1 ([]))))))) (rdO c q::.box [nI 0,.sl 4 0 0 0,.sl 5 0 0 0]::.box [nI al,.sl 6 0 0 0,.sl 7 0 0 z]::.arr (ints r) 1 0::.arr [] 0 0::.arr [] 0 0::.arr [] 0 0::.arr cs 0 0::[]):=by
 intro j
 induction j with
 |zero=>
  intro i p o hi ho hp hp2;obtain rfl:i=w:=om;refine⟨o,p,ho,by omega,fun R L n m k hn hL hm=> ?_⟩;obtain _|m:=m;omega;subst ho
  simp-implicitDefEqProofs (maxSteps:=9^7) (disch:=try exact Dz) only[↓DN,↓kRet,UP,simprocAttr,Ak,mZ,nO,Tryz.f247]
 |succ j ih=>
  intro i p o hi ho hp hp2;obtain⟨v,v0,v1,v2,kd⟩:=cL hc p st hp om;obtain⟨r,q,g1,g2,kd2⟩:=ih (i+1) (p+1) (o++[v]) om (by simp;omega) om om;refine⟨r,q,g1,by omega,fun R L n m k hn hL hm=> ?_⟩;obtain _|m:=m;omega;have kd2':=kd2 R L n m k hn hL om;rw[cs1 i]at kd2';have hc1:(i:Int)<w:=om;subst ho;clear ih kd2
  simp-implicitDefEqProofs (maxSteps:=9^7) (disch:=try exact Dz) only[↓DN,↓kRet,UP,simprocAttr,hc1,↓kd,↓kd2',mZ,nO,Tryz.f247]
theorem aRP{m:List Bool}{s:List A}{y1 y2 x0 x1:D}{k z rl:Nat}{r:List Int}{cs:List D}{d:List (List Int)}{p:H}(hr:rl=r.length)(hl:d.length<=4294967296):gc 1 m s (.box [.d y1,.d y2]::.box [.d x0,.sl 4 0 0 0,.sl 5 0 0 0]::.box [.d x1,.sl 6 1 0 k,.sl 7 1 0 z]::.arr (ints r) 1 0::.arr [] 0 0::.arr [] 0 0::.vec (aB 8 d++[.sl 3 0 0 rl]) 1 1::.arr cs 1 1::(aI d++p))=match box (tidy m s)with
  |.mk s1=>if idsL s1=[0,1,2]then(s1,.box [.d y1,.d y2]::.box [.d x0,.sl 3 0 0 0,.sl 4 0 0 0]::.box [.d x1,.sl 5 0 0 k,.sl 6 0 0 z]::.arr [] 0 0::.arr [] 0 0::.vec (aB 7 (d++[r])++aG 0) 1 0::.arr cs 1 0::aI (d++[r]))else gcO 1 m s (.box [.d y1,.d y2]::.box [.d x0,.sl 4 0 0 0,.sl 5 0 0 0]::.box [.d x1,.sl 6 1 0 k,.sl 7 1 0 z]::.arr (ints r) 1 0::.arr [] 0 0::.arr [] 0 0::.vec (aB 8 d++[.sl 3 0 0 rl]) 1 1::.arr cs 1 1::(aI d++p))
  |.no=>([],[]):=by
 have hn:aG 0=[]:=rfl;subst hr;rw[aQ5 hl,<-M0,F7,hn,Ah,Ck 7];simp only[box]
 split
 ·rename_i hid
  rw[oO _ (by rw[hid];intro i hi;simp at hi;rcases hi with rfl|rfl|rfl<;>rfl)]
 ·rfl
theorem B3{l:List Bool}{b:Bool}:aK l++[.bool b]=aK (l++[b]):=by simp[aK]
theorem VX{c:List UInt8}(hc:c.length<=2000){al st:Int}{w s:Nat}(hw:w<=6)(hst:st=s)(hs:s<=100):∀(j i:Nat) (p:Int) (d:List (List Int)) (bl:List Bool) (hi:i+j=s) (hd:d.length=i) (hbl:bl.length=i) (hrw:∀r∈d,r.length=w) (hp:0<=p) (hp2:p+7*j<=1000000000),
  ∃(d2:List (List Int)) (bl2:List Bool) (q:Int),d2.length=s/\bl2.length=s/\(∀r∈d2,r.length=w)/\p<=q/\q<=p+7*j/\∀(R:Type) (L n m:Nat) (k:KE R),2<=n->2^60<=L->j<m->
  aS env (aA env L n) L 1 (W32 (W4 (W1 [1002]))) Bz4 (j3 0) Bz43 m (.ptr 0 0 0::Y1 (nI st::Y2 (Y1 (.ptr 1 0 0::.ptr 2 0 0::nI w::nI i::Y32 (Y4 (Y2 (Y1 ([])))))))) (rdO c p::.box [nI 0,.sl 3 0 0 0,.sl 4 0 0 0]::.box [nI al,.sl 5 0 0 (List.length d),.sl 6 0 0 (List.length bl)]::.arr [] 0 0::.arr [] 0 0::.vec (aB 7 d++aG 0) 1 0::.arr (aK bl) 1 0::aI d) k
  =k (.exit 0) (.ptr 0 0 0::Y1 (nI st::Y2 (Y1 (.ptr 1 0 0::.ptr 2 0 0::nI w::nI s::Y32 (Y4 (Y2 (Y1 ([])))))))) (rdO c q::.box [nI 0,.sl 3 0 0 0,.sl 4 0 0 0]::.box [nI al,.sl 5 0 0 (List.length d2),.sl 6 0 0 (List.length bl2)]::.arr [] 0 0::.arr [] 0 0::.vec (aB 7 d2++aG 0) 1 0::.arr (aK bl2) 1 0::aI d2):=by
 intro j
 induction j with
 |zero=>
  intro i p d bl hi hd hbl hrw hp hp2;obtain rfl:i=s:=om;refine⟨d,bl,p,hd,hbl,hrw,by omega,by omega,fun R L n m k hn hL hm=> ?_⟩;obtain _|m:=m;omega;have hdl:d.length<=4294967296:=om;subst hst
  simp-implicitDefEqProofs (maxSteps:=9^7) (disch:=try exact Dz) only[↓DN,↓kRet,UP,simprocAttr,Ak,↓aRZ,tX,s6,Tryz.f247]
 |succ j ih=>
  intro i p d bl hi hd hbl hrw hp hp2;have hdl:d.length<=4294967296:=om;obtain⟨r,q,g1,g2,kd1⟩:=TP hc (al:=al) (st:=st) (i9:=i) hw hdl (cs:=aK bl) (z:=bl.length) w 0 p [] om rfl hp om;obtain⟨v,v0,v1,v2,kd2⟩:=cL hc q 3 om om
  obtain⟨d2,bl2,q2,e1,e2,e3,e4,e5,kd3⟩:=ih (i+1) (q+1) (d++[r]) (bl++[decide (0<v)]) om (by simp;omega) (by simp;omega) (by
   intro x hx
   rcases Aq.1 hx with hx|hx
   ·exact hrw x hx
   ·simp at hx;subst hx;exact g1) om om
  refine⟨d2,bl2,q2,e1,e2,e3,by omega,by omega,fun R L n m k hn hL hm=> ?_⟩;obtain _|m:=m;omega;have kd3':=kd3 R L n m k hn hL om;have loop_c:=fun {R:Type} {n:Nat} {k:KE R} (hn:2<=n)=>kd1 R L n L k hn hL om;rw[cs1 i]at kd3';simp only[Aw,gY,Ai,Ac,Ab,Ag]at loop_c kd3';have hc1:(i:Int)<st:=om;have g1':w=r.length:=g1.symm;have ht:(aB 8 d++aG 0).take d.length=aB 8 d:=QB rfl;have hlv:d.length<=(aB 8 d++aG 0).length:=by rw[Ai,kN];omega
  obtain⟨G2,hG2⟩:∃G:H,G=(rdO c (q+1)::.box [nI 0,.sl 4 0 0 0,.sl 5 0 0 0]::.box [nI al,.sl 6 1 0 (d.length+1),.sl 7 0 0 bl.length]::.arr (ints r) 1 0::.arr [] 0 0::.arr [] 0 0::.vec (aB 8 d++[.sl 3 0 0 w]) 1 1::.arr (aK (bl++[decide (0<v)])) 1 1::(aI d++.vec [.sl 3 0 0 w] 1 0::.arr [.bool (decide (0<v))] 1 0::[])):=⟨_,rfl⟩
  have k2:G2[2]? =some (.box [nI al,.sl 6 1 0 (d.length+1),.sl 7 0 0 bl.length]):=by rw[hG2];rfl
  have k3:G2[3]? =some (.arr (ints r) 1 0):=by rw[hG2];rfl
  have k6:G2[6]? =some (.vec (aB 8 d++[.sl 3 0 0 w]) 1 1):=by rw[hG2];rfl
  have k7:G2[7]? =some (.arr (aK (bl++[decide (0<v)])) 1 1):=by rw[hG2];rfl
  have ok3:Okay G2 3:=.mk _ _ k3 sm (by rw[bL k3];simp);have ok7:Okay G2 7:=.mk _ _ k7 sm (by rw[bL k7];simp)
  have ok6:Okay G2 6:=.mk _ _ k6 sm (by
   intro y hy;have:kids G2 6=List.range' 8 d.length++[3]:=by simp[kids,k6,bM,bY,idsL,idsA]
   rw[this,Aq,Cx]at hy
   rcases hy with hy|hy
   ·obtain⟨z,rfl⟩:∃z,y=8+z:=⟨y-8,by omega⟩
    have hz:z<d.length:=om
    have hr:G2[8+z]? =some (.arr (ints d[z]) 1 0):=by
     rw[hG2,show 8+z=z+1+1+1+1+1+1+1+1 by omega];simp only[Av];exact GS (Ae hz)
    exact .mk _ _ hr sm (by rw[bL hr];simp)
   ·simp at hy;subst hy;exact ok3)
  have ok2:Okay G2 2:=.mk _ _ k2 sm (by
   intro y hy;have:kids G2 2=[6,7]:=by simp[kids,k2,idsL,idsA]
   rw[this]at hy;simp at hy
   rcases hy with rfl|rfl
   ·exact ok6
   ·exact ok7)
  have wG2:2+wgt G2<=1099511627776:=by
   have h1:=pR (aI d) [.vec [.sl 3 0 0 w] 1 0,.arr [.bool (decide (0<v))] 1 0];rw[HI]at h1;rw[hG2];simp only[wgt,idsL,idsA,bM,bY,Ai,Ee,Ac,Ab]at h1|-;omega
  have st_sto:∀ {call:aX} {thaw:List Nat} {dst:Option Tmp} {x y:Operand},memD env call thaw dst (.store 24 x y) G2 [.ptr 2 0 2,.sl 7 1 0 (bl.length+1)]=some (.d .undef,G2.set 2 (.box (bD [nI al,.sl 6 1 0 (d.length+1),.sl 7 0 0 bl.length] 2 [.sl 7 1 0 (bl.length+1)])),{ ids:=aD aF G2 [2,7] [],ro:=false,wr:=aD aF G2 [2,7] []}):=by
   intro call thaw dst x y;exact MO kr kr k2 sm ok2 ok7 wG2
  obtain⟨o2,ho2⟩:∃o,o=aD aF G2 [2,7] []:=⟨_,rfl⟩
  rw[<-ho2]at st_sto;rw[hG2]at st_sto;simp only[By,Ce,bD,Ds,List.take_zero,As,Am,Ac,Ab,Dg,List.drop_nil,Nat.reduceAdd]at st_sto;clear hG2 k2 k3 k6 k7 ok2 ok3 ok6 ok7 wG2 ho2 ih kd1 kd3;subst hd;generalize hbv:decide (0<v)=b at *
  simp-implicitDefEqProofs (maxSteps:=9^7) (disch:=try exact Dz) only[↓DN,↓kAsg,↓kRet,UP,simprocAttr,LA,hc1,hbv,↓loop_c,↓kd2,cC,kN,aNR,Ad,uG,JC,aGB,aHp,Cp,ht,B3,Ao,↓aRF,aJi,UA,UH,V4,Q1,↓st_sto,↓aRP,↓kd3',tX,s6,Tryz.f247]
theorem PP{c:List UInt8}(hc:c.length<=2000){al st:Int}{w s:Nat}(hw:w<=6)(hst:st=s)(hs:s<=100)(h1:1<=s)(p:Int)(hp:0<=p)(hp2:p+7*s<=1000000000):
  ∃(d2:List (List Int)) (bl2:List Bool) (q:Int),d2.length=s/\bl2.length=s/\(∀r∈d2,r.length=w)/\p<=q/\q<=p+7*s/\∀(R:Type) (L n m:Nat) (k:KE R),2<=n->2^60<=L->s<m->
  aS env (aA env L n) L 1 (W32 (W4 (W1 [1002]))) Bz4 (j3 0) Bz43 m (.ptr 0 0 0::Y1 (nI st::Y2 (Y1 (.ptr 1 0 0::.ptr 2 0 0::nI w::nI 0::Y32 (Y4 (Y2 (Y1 ([])))))))) (rdO c p::.box [nI 0,.sl 3 0 0 0,.sl 4 0 0 0]::.box [nI al,.sl 5 0 0 0,.sl 6 0 0 0]::.arr [] 0 0::.arr [] 0 0::.arr [] 0 0::.arr [] 0 0::[]) k
  =k (.exit 0) (.ptr 0 0 0::Y1 (nI st::Y2 (Y1 (.ptr 1 0 0::.ptr 2 0 0::nI w::nI s::Y32 (Y4 (Y2 (Y1 ([])))))))) (rdO c q::.box [nI 0,.sl 3 0 0 0,.sl 4 0 0 0]::.box [nI al,.sl 5 0 0 (List.length d2),.sl 6 0 0 (List.length bl2)]::.arr [] 0 0::.arr [] 0 0::.vec (aB 7 d2++aG 0) 1 0::.arr (aK bl2) 1 0::aI d2):=by
 obtain⟨j,hj⟩:∃j,s=j+1:=⟨s-1,by omega⟩
 obtain⟨r,q,g1,g2,kd1⟩:=SN hc (al:=al) (st:=st) (i9:=0) hw (cs:=[]) (z:=0) w 0 p [] om rfl hp om;obtain⟨v,v0,v1,v2,kd2⟩:=cL hc q 3 om om;obtain⟨d2,bl2,q2,e1,e2,e3,e4,e5,kd3⟩:=VX hc (al:=al) (st:=st) hw hst hs j 1 (q+1) [r] [decide (0<v)] om rfl rfl (by intro x hx;simp at hx;subst hx;exact g1) om om;refine⟨d2,bl2,q2,e1,e2,e3,by omega,by omega,fun R L n m k hn hL hm=> ?_⟩;obtain _|m:=m;omega;have kd3':=kd3 R L n m k hn hL om;have loop_c:=fun {R:Type} {n:Nat} {k:KE R} (hn:2<=n)=>kd1 R L n L k hn hL om;simp only[Aw,gY]at loop_c;have e7:aB 7 [r]++aG 0=[.sl 7 0 0 r.length]:=rfl;have e8:aI [r]=[.arr (ints r) 1 0]:=rfl;have e9:aK [decide (0<v)]=[.bool (decide (0<v))]:=rfl;rw[e7,e8,e9,g1]at kd3';simp only[Ac,Ab,Ag,show((1:Nat):Int)=1 from rfl]at kd3';have hc1:(0:Int)<st:=om;generalize hbv:decide (0<v)=b at *;clear kd1 kd3
 simp-implicitDefEqProofs (maxSteps:=9^7) (disch:=try exact Dz) only[↓DN,↓kAsg,↓kRet,UP,simprocAttr,hc1,hbv,↓loop_c,↓kd2,↓kd3',tX,s6,Tryz.f247]
theorem Q8{c:List UInt8}(hc:c.length<=2000)(al st:Int){s:Nat}(hst:st=s)(hs:s<=100)(h1:1<=s)(p:Int)(hp:0<=p)(hp2:p+7*s<=1000000000):
  ∃(nx:List (List Int)) (ac:List Bool) (q:Int),nx.length=s/\ac.length=s/\(∀r∈nx,r.length=(aC al).length)/\p<=q/\q<=p+7*s/\∀(L n:Nat),3<=n->2^60<=L->
  aA env L n 247 [.ptr 0 0 0,nI al,nI st] [rdO c p]=some (autA 1 al nx.length ac.length,rdO c q::autO 1 nx ac):=by
 obtain⟨nx,ac,q,g1,g2,g3,g4,g5,kd⟩:=PP hc (al:=al) (st:=st) (w:=(aC al).length) (dD al) hst hs h1 p hp hp2;refine⟨nx,ac,q,g1,g2,g3,g4,g5,fun L n hn hL=> ?_⟩;have loop_c:=fun {R:Type} {n:Nat} {k:KE R} (hn:2<=n)=>kd R L n L k hn hL om;have hnl:nx.length<=4294967296:=om;have hbl:(aK ac).length=ac.length:=gU;unfold autA autO;clear kd;obtain _|n:=n;omega
 simp-implicitDefEqProofs (maxSteps:=9^7) (disch:=try exact Dz) only[↓DN,↓kAsg,↓kRet,UP,simprocAttr,↓fL,↓loop_c,↓aNe,↓aOB,z0As,z0A,eq_self,aEH,aFa,aGP,UO,Tryz.f247]
theorem aJ6{R:Type}{call:aX}{hq:H}{f:FuncId}{args:List A}{c:List UInt8}{p q al:Int}{rs:List (List Int)}{ac:List Bool}{k:KA R}(hm:(env.hint f).mode=0)(ha:idsL args=[])(he:call f (.ptr 0 0 0::args) [rdO c p]=some (autA 1 al rs.length ac.length,rdO c q::autO 1 rs ac)):
  aW env call (rdO c p::hq) f (.ptr 0 0 0::args) k=k (autA (hq.length+1) al rs.length ac.length) (rdO c q::(hq++autO (hq.length+1) rs ac)):=by
 have hid:idsL (A.ptr 0 0 0::args)=[0]:=by simp[idsL,idsA,ha]
 have hre:aD aF (rdO c p::hq) [0] []=[0]:=rfl;have hpk:pack (rdO c p::hq) [0]=[rdO c p]:=rfl
 have hma:aE (aH [0]) (A.ptr 0 0 0::args)=A.ptr 0 0 0::args:=by
  simp only[aE,gB _ ha];rfl
 have hc:bV call env.hint [rdO c p] f (.ptr 0 0 0::args)=some (autA 1 al rs.length ac.length,rdO c q::autO 1 rs ac):=by
  unfold bV;rw[hm];exact he
 have hcl:closed (rdO c p::hq) [0] [0]=true:=rfl
 have hb:∀i,i<rs.length+2->back [0] (hq.length+1) (rs.length+3) (1+i)=some (hq.length+1+i):=by
  intro i hi;unfold back;rw[if_neg sm,if_pos om];simp
 have hmp:(autO 1 rs ac).map (mapO (back [0] (hq.length+1) (rs.length+3)))=autO (hq.length+1) rs ac:=by
  simp only[autO,Af];rw[aKV (d:=hq.length+1+2) fun i hi=>by rw[show 1+2+i=1+(2+i) by omega,hb _ om];congr 1;omega,aIX];rfl
 have hrm:mapA (back [0] (hq.length+1) (rs.length+3)) (autA 1 al rs.length ac.length)=autA (hq.length+1) al rs.length ac.length:=
  aIh (by simpa using hb 0 om) (hb 1 om)
 have hlen:(rdO c q::autO 1 rs ac).length=rs.length+3:=by rw[Ac,PH]
 unfold aW;rw[hid,hre,hpk,hma,hc];simp only[hlen,Ac,Ab,hcl,hrm,Ag,show 1<=rs.length+3 by omega,and_self,if_true];simp only[bE,Ce,hmp]
 congr 1
theorem XF{t:H}{y1 y2:D}{v n m:Nat}{al:Int}{rs:List (List Int)}{ac:List Bool}(k:Has (.box [.d y1,.d y2]::t) v rs ac)(hv:1<=v)(hn:n=rs.length)(hm:m=ac.length):
  ∃h2,qN 1 false (.box [.d y1,.d y2]::t) [.agg [nI al,.sl v 0 0 n,.sl (v+1) 0 0 m]]=some ([autD al rs ac],h2)/\aD 1099511627776 h2 (f9 (List.take 1 h2)) [0]=[0]/\List.getD h2 0 default=.box [.d y1,.d y2]:=by
 subst hn;subst hm;obtain⟨ha,e1,i1⟩:=W0 4 (aFi _) (aSG k);obtain⟨hb,e2,i2⟩:=W0 4 i1 (aSQ k)
 have h0:hb[0]? =some (.box [.d y1,.d y2]):=by
  rcases i2 0 with h|⟨_,_,_,h,_⟩|⟨_,_,_,_,h,_⟩
  ·rw[h];rfl
  ·cases h
  ·cases h
 obtain⟨t2,rfl⟩:∃t2,hb=.box [.d y1,.d y2]::t2:=by
  cases hb with
  |nil=>simp at h0
  |cons o t2=>simp at h0;exact⟨t2,by rw[h0]⟩
 refine⟨.box [.d y1,.d y2]::t2,?_,rfl,rfl⟩;have hv1:¬(v<1):=om;have hv2:¬(v+1<1):=om;simp only[qN,outA,B8,outS,hv1,hv2,decide_false,Bool.or_self,Ap,if_false];rw[show deep=4+1 from rfl,e1];simp only[Ay];rw[e2];rfl
theorem XC{h:H}{v:Nat}{rs:List (List Int)}{ac:List Bool}{p:H}(hd:h.length=v):Has (h++(.vec (aB (v+2) rs++aG 0) 1 0::.arr (aK ac) 1 0::(aI rs++p))) v rs ac:=by
 subst hd;have:=aRU (h2:=p) (aRQ (h:=h) (rs:=rs) (ac:=ac))
 simpa [autO]using this
theorem aLB:(env.hint 247).mode=0:=kr
theorem ZU{R:Type}{L n:Nat}{hq:H}{c:List UInt8}{p q al st:Int}{rs:List (List Int)}{ac:List Bool}{k:KA R}(hn:3<=n)(hL:2^60<=L)
  (he:∀(L n:Nat),3<=n->2^60<=L->aA env L n 247 [.ptr 0 0 0,nI al,nI st] [rdO c p]=some (autA 1 al rs.length ac.length,rdO c q::autO 1 rs ac)):
  aW env (aA env L n) (rdO c p::hq) 247 [.ptr 0 0 0,nI al,nI st] k=k (autA (hq.length+1) al rs.length ac.length) (rdO c q::(hq++autO (hq.length+1) rs ac)):=
 aJ6 aLB (by simp[idsL,idsA]) (he L n hn hL)
def yG(x:Int):Nat->Nat->List Bool->List Bool
 |0,_,bl=>bl
 |j+1,i,bl=>yG x j (i+1) (bl.set i (decide ((i:Int)<x)))
theorem aEV(x:Int):∀(j i:Nat) (bl:List Bool),(yG x j i bl).length=bl.length
 |0,_,_=>rfl
 |j+1,i,bl=>by rw[yG,aEV x j,Bt]
def zV(x:Int):Nat->Nat->List Int->List Int
 |0,_,r=>r
 |j+1,i,r=>zV x j (i+1) (r.set i x)
theorem S7(x:Int):∀(j i:Nat) (r:List Int),(zV x j i r).length=r.length
 |0,_,_=>rfl
 |j+1,i,r=>by rw[zV,S7 x j,Bt]
theorem aM7{l:List Bool}{k:Nat}{v:Bool}(h:k<l.length):List.take k (aK l)++[D.bool v]++List.drop (k+1) (aK l)=aK (l.set k v):=aMF h
theorem aIl{l:List Int}{k:Nat}{v:Int}(h:k<l.length):List.take k (ints l)++[D.int .i64 v]++List.drop (k+1) (ints l)=ints (l.set k v):=aAK h
theorem xZ{rs:List (List Int)}{k:Nat}(h:k<rs.length):((aB 7 rs++aG 0).drop k).head? =some (.sl (k+7) 0 0 (rs.getD k []).length):=by
 rw[aFI (b:=0) (k:=0) h,Ck]
theorem TO{rs:List (List Int)}{b k:Nat}{r:List Int}(h:r.length=(rs.getD k []).length):aB b (rs.set k r)=aB b rs:=by
 apply aBI;rw[List.map_set]
 by_cases hk:k<rs.length
 ·have:r.length=(rs.map List.length)[k]'(by simpa using hk):=by
   rw[h,List.getElem_map,Aa,Ae hk];rfl
  rw[this,List.set_getElem_self]
 ·rw[List.set_eq_of_length_le (by simp;omega)]
theorem aRi{m:List Bool}{s:List A}{y1 y2 x0 x1:D}{k z:Nat}{cs:List D}{d d2:List (List Int)}(he:aB 7 d2=aB 7 d)(hl:d2.length<=4294967296):gc 1 m s (.box [.d y1,.d y2]::.box [.d x0,.sl 3 0 0 0,.sl 4 0 0 0]::.box [.d x1,.sl 5 0 0 k,.sl 6 0 0 z]::.arr [] 0 0::.arr [] 0 0::.vec (aB 7 d++aG 0) 1 0::.arr cs 1 0::aI d2)=match box (tidy m s)with
  |.mk s1=>if idsL s1=[1,2]/\z0As s1=true then(aE (BN d2.length) s1,.box [.d y1,.d y2]::.box [.d x0,.sl 3 0 0 0,.sl 4 0 0 0]::.box [.d x1,.sl 5 0 0 k,.sl 6 0 0 z]::.arr [] 0 0::.arr [] 0 0::.vec (aB 7 d++aG 0) 1 0::.arr cs 1 0::aI d2)else gcO 1 m s (.box [.d y1,.d y2]::.box [.d x0,.sl 3 0 0 0,.sl 4 0 0 0]::.box [.d x1,.sl 5 0 0 k,.sl 6 0 0 z]::.arr [] 0 0::.arr [] 0 0::.vec (aB 7 d++aG 0) 1 0::.arr cs 1 0::aI d2)
  |.no=>([],[]):=by
 rw[<-he];exact GP hl
theorem aDL{R:Type}{L n:Nat}{y1 y2 x0:D}{al st x:Int}{s:Nat}{nx:List (List Int)}(hx:st-1=x)(hst:st=s)(hs:s<=100)(hnl:nx.length<=4294967296){k:KE R}:∀(j i m:Nat) (bl:List Bool) (len:Nat) (hi:i+j=s) (hm:j<m) (hbl:bl.length=s) (hlen:len=bl.length),
  aS env (aA env L n) L 1 [] Bz11 (pO 0) (U2 (Z1 (U2 (U1 (Z2 (Z1 (U32 (U8 ([]))))))))) m (Y2 (nI st::Y2 (Y1 (.ptr 1 0 0::.ptr 2 0 0::nI i::Y32 (Y8 ([])))))) (.box [.d y1,.d y2]::.box [.d x0,.sl 3 0 0 0,.sl 4 0 0 0]::.box [nI al,.sl 5 0 0 nx.length,.sl 6 0 0 len]::.arr [] 0 0::.arr [] 0 0::.vec (aB 7 nx++aG 0) 1 0::.arr (aK bl) 1 0::aI nx) k
  =k (.exit 0) (Y2 (nI st::Y2 (Y1 (.ptr 1 0 0::.ptr 2 0 0::nI s::Y32 (Y8 ([])))))) (.box [.d y1,.d y2]::.box [.d x0,.sl 3 0 0 0,.sl 4 0 0 0]::.box [nI al,.sl 5 0 0 nx.length,.sl 6 0 0 s]::.arr [] 0 0::.arr [] 0 0::.vec (aB 7 nx++aG 0) 1 0::.arr (aK (yG x j i bl)) 1 0::aI nx):=by
 intro j
 induction j with
 |zero=>
  intro i m bl len hi hm hbl hlen;obtain _|m:=m;omega;obtain rfl:i=s:=om;rw[hbl]at hlen;subst hlen;have hc1:¬((len:Int)<st):=om
  simp-implicitDefEqProofs (maxSteps:=9^7) (disch:=try exact Dz) only[↓DN,↓kRet,UP,simprocAttr,hc1,↓GP,z0As,z0A,eq_self,rN,rX,yG,KK,JA,Tryz.f196]
 |succ j ih=>
  intro i m bl len hi hm hbl hlen;obtain _|m:=m;omega;subst hlen;have hc1:(i:Int)<st:=om;have hk:i<bl.length:=om;have hb1:(0:Int)<=i:=om;have ih':=ih (i+1) m (bl.set i (decide ((i:Int)<x))) bl.length om om (by simpa using hbl) sm;rw[cs1 i]at ih';rw[yG];clear ih
  simp-implicitDefEqProofs (maxSteps:=9^7) (disch:=try exact Dz) only[↓DN,↓kRet,UP,simprocAttr,LA,hc1,hx,aM7,↓GP,z0As,z0A,eq_self,rN,rX,↓ih',KK,JA,Tryz.f196]
theorem aD4{R:Type}{L n:Nat}{y1 y2 x0:D}{al st i9:Int}{s t:Nat}{bl:List Bool}{w:Nat}(hx:st-1=(t:Int))(hs:s<=100)(hw:w<=100)(ht:t<s){k:KE R}:∀(j i m:Nat) (nx:List (List Int)) (len:Nat) (hi:i+j=w) (hm:j<m) (hr:(nx.getD t []).length=w) (hnx:nx.length=s) (hlen:len=nx.length),
  aS env (aA env L n) L 1 [] Bz11 (pO 1) Bz46 m (Y2 (nI st::Y2 (Y1 (.ptr 1 0 0::.ptr 2 0 0::nI i9::nI i::Y32 (Y4 (Y2 (Y1 ([])))))))) (.box [.d y1,.d y2]::.box [.d x0,.sl 3 0 0 0,.sl 4 0 0 0]::.box [nI al,.sl 5 0 0 len,.sl 6 0 0 bl.length]::.arr [] 0 0::.arr [] 0 0::.vec (aB 7 nx++aG 0) 1 0::.arr (aK bl) 1 0::aI nx) k
  =k (.exit 2) (Y2 (nI st::Y2 (Y1 (.ptr 1 0 0::.ptr 2 0 0::nI i9::nI w::Y32 (Y4 (Y2 (Y1 ([])))))))) (.box [.d y1,.d y2]::.box [.d x0,.sl 3 0 0 0,.sl 4 0 0 0]::.box [nI al,.sl 5 0 0 s,.sl 6 0 0 bl.length]::.arr [] 0 0::.arr [] 0 0::.vec (aB 7 nx++aG 0) 1 0::.arr (aK bl) 1 0::aI (nx.set t (zV t j i (nx.getD t [])))):=by
 intro j
 induction j with
 |zero=>
  intro i m nx len hi hm hr hnx hlen;obtain _|m:=m;omega;obtain rfl:i=w:=om;rw[hnx]at hlen;subst hlen;have hc1:¬((i:Int)<(i:Int)):=om;have hnl:nx.length<=4294967296:=om;have hkd:t<nx.length:=om;have hg:=aJe hkd
  have e1:nx.set t (nx.getD t [])=nx:=by
   rw[Aa,Ae hkd];exact List.set_getElem_self hkd
  rw[zV,e1]
  simp-implicitDefEqProofs (maxSteps:=9^7) (disch:=try exact Dz) only[↓DN,↓kRet,UP,simprocAttr,hx,hr,hc1,xZ,↓GP,z0As,z0A,eq_self,rN,rX,JQ,IA,Tryz.f196]
 |succ j ih=>
  intro i m nx len hi hm hr hnx hlen;obtain _|m:=m;omega;subst hlen;have hnl:nx.length<=4294967296:=om;have hkd:t<nx.length:=om;have hg:=aJe hkd;have hc1:(i:Int)<(w:Int):=om;have hk:i<(nx.getD t []).length:=om;have hb1:(0:Int)<=i:=om
  have hgs:(nx.set t ((nx.getD t []).set i t)).getD t []=(nx.getD t []).set i t:=by
   rw[Aa,Ef hkd];rfl
  have hrs:aB 7 (nx.set t ((nx.getD t []).set i t))=aB 7 nx:=TO sm;have ih':=ih (i+1) m (nx.set t ((nx.getD t []).set i t)) nx.length om om (by rw[hgs];simpa using hr) (by simpa using hnx) sm;rw[cs1 i,hgs,hrs,List.set_set]at ih';rw[zV];have hnl2:(nx.set t ((nx.getD t []).set i t)).length<=4294967296:=by rw[Bt];omega
  clear ih hgs;generalize hro:nx.getD t []=ro at *
  simp-implicitDefEqProofs (maxSteps:=9^7) (disch:=try exact Dz) only[↓DN,↓kRet,UP,simprocAttr,hx,hr,hro,hg,hc1,xZ,aNd,aIl,↓aRi,z0As,z0A,eq_self,rN,rX,↓ih',JQ,IA,Tryz.f196]
theorem aBj{R:Type}{L n m:Nat}{y1 y2 x0:D}{al st i9:Int}{s t:Nat}{bl:List Bool}{w:Nat}{nx:List (List Int)}(hx:st-1=(t:Int))(hs:s<=100)(hw:w<=100)(ht:t<s)(hm:w<m)(hr:(nx.getD t []).length=w)(hnx:nx.length=s){k:KE R}:
  aS env (aA env L n) L 1 [] Bz11 (pO 1) Bz46 m (Y2 (nI st::Y2 (Y1 (.ptr 1 0 0::.ptr 2 0 0::nI i9::nI 0::Y32 (Y4 (Y2 (Y1 ([])))))))) (.box [.d y1,.d y2]::.box [.d x0,.sl 3 0 0 0,.sl 4 0 0 0]::.box [nI al,.sl 5 0 0 s,.sl 6 0 0 bl.length]::.arr [] 0 0::.arr [] 0 0::.vec (aB 7 nx++aG 0) 1 0::.arr (aK bl) 1 0::aI nx) k
  =k (.exit 2) (Y2 (nI st::Y2 (Y1 (.ptr 1 0 0::.ptr 2 0 0::nI i9::nI w::Y32 (Y4 (Y2 (Y1 ([])))))))) (.box [.d y1,.d y2]::.box [.d x0,.sl 3 0 0 0,.sl 4 0 0 0]::.box [nI al,.sl 5 0 0 s,.sl 6 0 0 bl.length]::.arr [] 0 0::.arr [] 0 0::.vec (aB 7 (nx.set t (zV t w 0 (nx.getD t [])))++aG 0) 1 0::.arr (aK bl) 1 0::aI (nx.set t (zV t w 0 (nx.getD t [])))):=by
 rw[TO (by rw[S7])];exact aD4 hx hs hw ht w 0 m nx s om hm hr hnx hnx.symm
theorem HO{d:List (List Int)}{o o1 o2:O}{p:H}{k:Nat}(h:k=d.length+2):(aI d++o1::o2::o::p)[k]? =some o:=by
 subst h;rw[Bq (by rw[cC];omega),cC,Dv];rfl
theorem HY{d:List (List Int)}{o o1 o2 q:O}{p:H}{k:Nat}(h:k=d.length+2):(aI d++o1::o2::o::p).set k q=aI d++o1::o2::q::p:=by
 rw[List.set_append_right _ _ (by rw[cC];omega),cC,h,Dv];rfl
theorem YS{c:List UInt8}(hc:c.length<=2000)(al st:Int){s:Nat}(hst:st=s)(hs:s<=100)(h1:1<=s)(p:Int)(hp:0<=p)(hp2:p+7*s<=1000000000):
  ∃(nx:List (List Int)) (ac:List Bool) (q:Int),nx.length=s/\ac.length=s/\(∀r∈nx,r.length=(aC al).length)/\p<=q/\q<=p+7*s/\∀(L n:Nat),4<=n->2^60<=L->
  aA env L n 196 [.ptr 0 0 0,nI al,nI st] [rdO c p]=some (autD al nx ac,[rdO c q]):=by
 obtain⟨nx,ac,q,g1,g2,g3,g4,g5,he⟩:=Q8 hc al st hst hs h1 p hp hp2;obtain⟨t,rfl⟩:∃t,s=t+1:=⟨s-1,by omega⟩
 have hx:st-1=(t:Int):=om;have hw:=dD al;have hk:t<nx.length:=om
 have hr:(nx.getD t []).length=(aC al).length:=by
  rw[Aa,Ae hk];exact g3 _ (Ba hk)
 have hl1:(nx.set t (zV t (aC al).length 0 (nx.getD t []))).length=t+1:=by rw[Bt,g1]
 have hl2:(yG (t:Int) (t+1) 0 ac).length=t+1:=by rw[aEV,g2]
 refine⟨nx.set t (zV t (aC al).length 0 (nx.getD t [])),yG (t:Int) (t+1) 0 ac,q,hl1,hl2,?_,g4,g5,fun L n hn hL=> ?_⟩
 ·intro r hrm
  rcases Dx hrm with h|h
  ·exact g3 r h
  ·rw[h,S7,hr]
 have kd:=fun {R:Type} {n:Nat} {hq:H} {k:KA R} (hn:3<=n)=>ZU (R:=R) (L:=L) (n:=n) (hq:=hq) (k:=k) hn hL he;have hnl:nx.length<=4294967296:=om;have loop_a:=fun {R:Type} {n:Nat} {y1 y2 x0:D} {k:KE R}=>aDL (R:=R) (L:=L) (n:=n) (y1:=y1) (y2:=y2) (x0:=x0) (al:=al) (nx:=nx) (k:=k) hx hst hs hnl (t+1) 0 L ac ac.length om om g2 rfl;have loop_b:=fun {R:Type} {n:Nat} {y1 y2 x0:D} {i9:Int} {k:KE R}=>aBj (R:=R) (L:=L) (n:=n) (m:=L) (y1:=y1) (y2:=y2) (x0:=x0) (al:=al) (i9:=i9) (bl:=yG (t:Int) (t+1) 0 ac) (k:=k) hx hs om om om hr g1;rw[hl2]at loop_b;rw[g1,g2]at loop_a;simp only[autA,autO,g1,g2]at kd;simp only[Aw]at loop_a;have hbl:(aK (yG (t:Int) (t+1) 0 ac)).length=t+1:=by rw[gU,hl2]
 generalize nx.set t (zV t (aC al).length 0 (nx.getD t []))=nx2 at *;generalize yG (t:Int) (t+1) 0 ac=ac2 at *;have hnl2:nx2.length<=4294967296:=om
 have hH:Has (rdO c q::.box [nI al,.sl 5 0 0 (t+1),.sl 6 0 0 (t+1)]::.box [nI al,.sl 5 0 0 (t+1),.sl 6 0 0 (t+1)]::.arr [] 0 0::.arr [] 0 0::.vec (aB 7 nx2++aG 0) 1 0::.arr (aK ac2) 1 0::aI nx2) 5 nx2 ac2:=by
  have:=XC (h:=[rdO c q,.box [nI al,.sl 5 0 0 (t+1),.sl 6 0 0 (t+1)],.box [nI al,.sl 5 0 0 (t+1),.sl 6 0 0 (t+1)],.arr [] 0 0,.arr [] 0 0]) (v:=5) (rs:=nx2) (ac:=ac2) (p:=[]) rfl
  simpa using this
 obtain⟨h2,st_out,st_keep,st_trim⟩:=XF (n:=t+1) (m:=t+1) (al:=al) hH om hl1.symm hl2.symm;simp only[autD]at st_out|-;clear he g3 g4 g5 hH;obtain _|n:=n;omega
 simp-implicitDefEqProofs (maxSteps:=9^7) (disch:=try exact Dz) only[↓DN,↓kAsg,↓kRet,UP,simprocAttr,g1,↓kd,↓loop_a,↓loop_b,cC,Ao,HO,HY,↓aQU,aLE,aFu,aCK,↓GP,rN,rX,↓st_out,↓st_keep,↓st_trim,z0As,z0A,eq_self,aJx,aBY,Tryz.f196]
theorem aI3:(env.hint 196).mode=0:=kr
theorem aH7:(env.hint 197).mode=0:=kr
theorem aNa{c:List UInt8}(hc:c.length<=2000)(al:Int)(p:Int)(hp:0<=p)(hp2:p<=900000000):
  ∃(nx:List (List Int)) (ac:List Bool) (q:Int),1<=nx.length/\nx.length<=5/\ac.length=nx.length/\(∀r∈nx,r.length=(aC al).length)/\p<=q/\q<=p+50/\(Dw 6 197 [nI al] (autD al nx ac) c p q):=by
 obtain⟨v,v0,v1,_,kd1⟩:=cL hc p 2 hp om
 by_cases h1:v=0
 ·subst h1;obtain⟨w,hw,kd2⟩:=eY hc [3,2,4,1] sm sm (p+1) om om;have hw1:1<=w/\w<=4:=by simp at hw;omega
  obtain⟨nx,ac,q,g1,g2,g3,g4,g5,he⟩:=YS hc al w (s:=w.toNat) om om om (p+1+1) om om;have kd3:=fun {R:Type} {L n:Nat} {hq:H} {k:KA R} (hn:4<=n) (hL:2^60<=L)=>aZ (R:=R) (h:=hq) (k:=k) aI3 (by simp[idsL,idsA]) (by simp[autD,idsA,idsL]) (he L n hn hL);simp only[ints,Af,Al,Ac,Ab,Ag,Nat.reduceAdd]at kd2;refine⟨nx,ac,q,by omega,by omega,by omega,g3,by omega,by omega,fun R L n hq k hn hL=>aZ aH7 (by simp[idsL,idsA]) (by simp[autD,idsA,idsL]) ?_⟩;unfold autD at kd3|-;clear he g3;obtain _|n:=n;omega
  simp-implicitDefEqProofs (maxSteps:=9^7) (disch:=try exact Dz) only[↓DN,↓kRet,UP,simprocAttr,↓kd1,↓kd2,↓kd3,Z6,PA,Tryz.f197]
 ·obtain⟨w,hw,kd2⟩:=eY hc [2,3,1,4,5] sm sm (p+1) om om;have hw1:1<=w/\w<=5:=by simp at hw;omega
  obtain⟨nx,ac,q,g1,g2,g3,g4,g5,he⟩:=Q8 hc al w (s:=w.toNat) om om om (p+1+1) om om;have kd3:=fun {R:Type} {L n:Nat} {hq:H} {k:KA R} (hn:3<=n) (hL:2^60<=L)=>ZU (R:=R) (L:=L) (n:=n) (hq:=hq) (k:=k) hn hL he;simp only[ints,Af,Al,Ac,Ab,Ag,Nat.reduceAdd]at kd2;simp only[autA,autO]at kd3;refine⟨nx,ac,q,by omega,by omega,by omega,g3,by omega,by omega,fun R L n hq k hn hL=>aZ aH7 (by simp[idsL,idsA]) (by simp[autD,idsA,idsL]) ?_⟩
  have hH:Has (rdO c q::.arr [] 0 0::.arr [] 0 0::.box [nI al,.sl 5 0 0 nx.length,.sl 6 0 0 ac.length]::.arr [.int .i64 2,.int .i64 3,.int .i64 1,.int .i64 4,.int .i64 5] 1 0::.vec (aB 7 nx++aG 0) 1 0::.arr (aK ac) 1 0::aI nx) 5 nx ac:=by
   have:=XC (h:=[rdO c q,.arr [] 0 0,.arr [] 0 0,.box [nI al,.sl 5 0 0 nx.length,.sl 6 0 0 ac.length],.arr [.int .i64 2,.int .i64 3,.int .i64 1,.int .i64 4,.int .i64 5] 1 0]) (v:=5) (rs:=nx) (ac:=ac) (p:=[]) rfl
   simpa using this
  obtain⟨h2,st_out,st_keep,st_trim⟩:=XF (n:=nx.length) (m:=ac.length) (al:=al) hH om rfl rfl;unfold autD at st_out|-;clear he g3 hH;obtain _|n:=n;omega
  simp-implicitDefEqProofs (maxSteps:=9^7) (disch:=try exact Dz) only[↓DN,↓kRet,UP,simprocAttr,h1,↓kd1,↓kd2,↓kd3,↓st_out,↓st_keep,↓st_trim,Z6,PA,Tryz.f197]










theorem aIs{d:List (List Int)}{o o1 o2 o3:O}{p:H}{k:Nat}(h:k=d.length+3):(aI d++o1::o2::o3::o::p)[k]? =some o:=by
 subst h;rw[Bq (by rw[cC];omega),cC,Dv];rfl
theorem AW{t:H}{y1 y2:D}{v w n m gv gw:Nat}{al:Int}{rs:List (List Int)}{ac:List Bool}(k1:rd1 (.box [.d y1,.d y2]::t) (.sl v gv 0 n)=some (.ivs rs.length (aP rs)))(k2:rd1 (.box [.d y1,.d y2]::t) (.sl w gw 0 m)=some (.ivs ac.length (aK ac)))(hv:1<=v)(hw:1<=w):
  ∃h2,qN 1 false (.box [.d y1,.d y2]::t) [.agg [nI al,.sl v gv 0 n,.sl w gw 0 m]]=some ([autD al rs ac],h2)/\aD 1099511627776 h2 (f9 (List.take 1 h2)) [0]=[0]/\List.getD h2 0 default=.box [.d y1,.d y2]:=by
 obtain⟨ha,e1,i1⟩:=W0 4 (aFi _) k1;obtain⟨hb,e2,i2⟩:=W0 4 i1 k2
 have h0:hb[0]? =some (.box [.d y1,.d y2]):=by
  rcases i2 0 with h|⟨_,_,_,h,_⟩|⟨_,_,_,_,h,_⟩
  ·rw[h];rfl
  ·cases h
  ·cases h
 obtain⟨t2,rfl⟩:∃t2,hb=.box [.d y1,.d y2]::t2:=by
  cases hb with
  |nil=>simp at h0
  |cons o t2=>simp at h0;exact⟨t2,by rw[h0]⟩
 refine⟨.box [.d y1,.d y2]::t2,?_,rfl,rfl⟩;have hv1:¬(v<1):=om;have hv2:¬(w<1):=om;simp only[qN,outA,B8,outS,hv1,hv2,decide_false,Bool.or_self,Ap,if_false];rw[show deep=4+1 from rfl,e1];simp only[Ay];rw[e2];rfl
theorem iK:(env.hint 134).mode=0:=kr
theorem SY{R:Type}{L n:Nat}{hq:H}{al:Int}{rs:List (List Int)}{ac:List Bool}{k:KA R}(hs:bN rs)(h1:1<=rs.length)(ha:ac.length<=4294967295)(hn:2<=n)(hL:2^60<=L):
  aW env (aA env L n) hq 198 [.agg [nI al,.d (.ivs rs.length (aP rs)),.d (.ivs ac.length (aK ac))]] k=k (autA hq.length al rs.length ac.length) (hq++autO hq.length rs ac):=by
 have he:=aJP hn al rs ac hs h1 ha hL;have hb:∀b i,i<rs.length+2->back [] b (autO 0 rs ac).length i=some (b+i):=fun b i hi=>aHZ (by rw[PH];exact hi);have hA:∀b,mapA (back [] b (autO 0 rs ac).length) (autA 0 al rs.length ac.length)=autA b al rs.length ac.length:=fun b=>aIh (by simpa using hb b 0 om) (by simpa using hb b 1 om);have hO:∀b,(autO 0 rs ac).map (mapO (back [] b (autO 0 rs ac).length))=autO b rs ac:=fun b=>aQd PH;obtain⟨o,t,hot⟩:∃o t,autO 0 rs ac=o::t:=⟨_,_,rfl⟩
 have hcall:bV (aA env L n) env.hint [] 198 [.agg [nI al,.d (.ivs rs.length (aP rs)),.d (.ivs ac.length (aK ac))]]=some (autA 0 al rs.length ac.length,autO 0 rs ac):=by
  have h2:=hA 0;have h3:=hO 0;have hf:eS [] [.agg [nI al,.d (.ivs rs.length (aP rs)),.d (.ivs ac.length (aK ac))]]=some ([.agg [nI al,.d (.ivs rs.length (aP rs)),.d (.ivs ac.length (aK ac))]],[]):=rfl;rw[hot]at he h2 h3|-;unfold bV;rw[vL];simp only[hf,he,Ab,Am,h2,h3]
 have hids:idsL [A.agg [nI al,.d (.ivs rs.length (aP rs)),.d (.ivs ac.length (aK ac))]]=[]:=by simp[idsL,idsA]
 unfold aW;rw[hids,GD,gB _ hids];have hp:pack hq []=[]:=rfl;rw[hp,hcall];simp only[Ab,Cw,true_and,closed,Cc,Bx,if_true,bE,hA,hO]
theorem aIN{c:List UInt8}(hc:c.length<=2000)(al:Int)(nx:List (List Int))(ac:List Bool)(hs:bN nx)(h1:1<=nx.length)(ha:ac.length<=4294967295)(p t u:Int)(hu0:¬(u=0))(hu1:¬(u=1))(hu2:¬(u=2))(hu3:¬(u=3))(hu4:¬(u=4))(hu5:¬(u=5))
  (kd1:(Dw 1 72 [nI (nx.length)] (nI t) c p (p+1)))
  (kd2:(Dw 1 72 [nI 30] (nI u) c (p+1) (p+1+1))):(Dw 4 134 [autD al nx ac] (autD al nx ac) c p (p+1+1)):=by
 intro R L n hq k hn hL;refine aZ iK (by simp[autD,idsA,idsL]) (by simp[autD,idsA,idsL]) ?_;have hnl:=hs.1;have kd3:=fun {R:Type} {n:Nat} {hq:H} {k:KA R} (hn:2<=n)=>SY (R:=R) (L:=L) (n:=n) (hq:=hq) (al:=al) (k:=k) hs h1 ha hn hL;simp only[autA,autO]at kd3
 have hH:Has (rdO c (p+1+1)::.box [nI al,.d (.ivs nx.length (aP nx)),.d (.ivs ac.length (aK ac))]::.arr [] 0 0::.arr [] 0 0::.box [nI al,.sl 5 0 0 nx.length,.sl 6 0 0 ac.length]::.vec (aB 7 nx++aG 0) 1 0::.arr (aK ac) 1 0::(aI nx++.arr [] 0 0::.arr [] 0 0::.box [nI al,.sl 5 0 0 nx.length,.sl 6 0 0 ac.length]::[])) 5 nx ac:=by
  have:=XC (h:=[rdO c (p+1+1),.box [nI al,.d (.ivs nx.length (aP nx)),.d (.ivs ac.length (aK ac))],.arr [] 0 0,.arr [] 0 0,.box [nI al,.sl 5 0 0 nx.length,.sl 6 0 0 ac.length]]) (v:=5) (rs:=nx) (ac:=ac) (p:=.arr [] 0 0::.arr [] 0 0::.box [nI al,.sl 5 0 0 nx.length,.sl 6 0 0 ac.length]::[]) rfl
  simpa using this
 obtain⟨h2,st_out,st_keep,st_trim⟩:=XF (n:=nx.length) (m:=ac.length) (al:=al) hH om rfl rfl;unfold autD at st_out|-;clear hH;obtain _|n:=n;omega
 simp-implicitDefEqProofs (maxSteps:=9^7) (disch:=try exact Dz) only[↓DN,↓kRet,UP,simprocAttr,hu0,hu1,hu2,hu3,hu4,hu5,↓kd1,↓kd2,↓kd3,cC,Ao,HO,HY,↓st_out,↓st_keep,↓st_trim,c9,dC,Tryz.f134]
theorem aMd{c:List UInt8}(hc:c.length<=2000)(al:Int)(nx:List (List Int))(ac:List Bool)(hs:bN nx)(h1:1<=nx.length)(ha:ac.length<=4294967295)(p t:Int)(hp:0<=p)(hp2:p<=900000000)
  (kd1:(Dw 1 72 [nI (nx.length)] (nI t) c p (p+1)))
  (kd2:(Dw 1 72 [nI 30] (nI 0) c (p+1) (p+1+1))):∃al2:Int,(Dw 4 134 [autD al nx ac] (autD al2 nx ac) c p (p+1+1+1)):=by
 obtain⟨al2,_,kd4⟩:=eY hc [64,-1,1,63,0] sm sm (p+1+1) om om;simp only[ints,Af,Al,Ac,Ab,Ag,Nat.reduceAdd]at kd4;refine⟨al2,?_⟩;intro R L n hq k hn hL;refine aZ iK (by simp[autD,idsA,idsL]) (by simp[autD,idsA,idsL]) ?_;have hnl:=hs.1;have kd3:=fun {R:Type} {n:Nat} {hq:H} {k:KA R} (hn:2<=n)=>SY (R:=R) (L:=L) (n:=n) (hq:=hq) (al:=al) (k:=k) hs h1 ha hn hL;simp only[autA,autO]at kd3
 have hH:Has (rdO c (p+1+1+1)::.box [nI al,.d (.ivs nx.length (aP nx)),.d (.ivs ac.length (aK ac))]::.arr [] 0 0::.arr [] 0 0::.box [nI al2,.sl 5 0 0 nx.length,.sl 6 0 0 ac.length]::.vec (aB 7 nx++aG 0) 1 0::.arr (aK ac) 1 0::(aI nx++.arr [] 0 0::.arr [] 0 0::.box [nI al2,.sl 5 0 0 nx.length,.sl 6 0 0 ac.length]::.arr [.int .i64 64,.int .i64 (-1),.int .i64 1,.int .i64 63,.int .i64 0] 1 0::[])) 5 nx ac:=by
  have:=XC (h:=[rdO c (p+1+1+1),.box [nI al,.d (.ivs nx.length (aP nx)),.d (.ivs ac.length (aK ac))],.arr [] 0 0,.arr [] 0 0,.box [nI al2,.sl 5 0 0 nx.length,.sl 6 0 0 ac.length]]) (v:=5) (rs:=nx) (ac:=ac) (p:=.arr [] 0 0::.arr [] 0 0::.box [nI al2,.sl 5 0 0 nx.length,.sl 6 0 0 ac.length]::.arr [.int .i64 64,.int .i64 (-1),.int .i64 1,.int .i64 63,.int .i64 0] 1 0::[]) rfl
  simpa using this
 obtain⟨h2,st_out,st_keep,st_trim⟩:=XF (n:=nx.length) (m:=ac.length) (al:=al2) hH om rfl rfl
 have hnum:(O.box [nI al,.d (.ivs nx.length (aP nx)),.d (.ivs ac.length (aK ac))]::.arr [] 0 0::.arr [] 0 0::.box [nI 0,.sl 2 0 0 0,.sl 3 0 0 0]::.vec (aB 7 nx++aG 0) 1 0::.arr (aK ac) 1 0::(aI nx++[.arr [] 0 0,.arr [] 0 0,.box [nI al,.sl 5 0 0 nx.length,.sl 6 0 0 ac.length],.arr [.int .i64 64,.int .i64 (-1),.int .i64 1,.int .i64 63,.int .i64 0] 1 0]))[nx.length+3+1+1+1+1+1+1]? =some (.arr [.int .i64 64,.int .i64 (-1),.int .i64 1,.int .i64 63,.int .i64 0] 1 0):=by
  simp only[Av];exact aIs rfl
 unfold autD at st_out|-;clear hH;obtain _|n:=n;omega
 simp-implicitDefEqProofs (maxSteps:=9^7) (disch:=try exact Dz) only[↓DN,↓kRet,UP,simprocAttr,↓kd1,↓kd2,↓kd3,↓kd4,cC,Ao,HO,HY,↓st_out,↓st_keep,↓st_trim,c9,dC,Tryz.f134]
section
section
variable{L n:Nat}{h:H}
end
end
theorem UL{f:A->Option D}:∀ {cs:List A} {ds:List D},cs.length=ds.length->(∀(i:Nat) (a:A) (x:D),cs[i]? =some a->ds[i]? =some x->f a=some x)->gN f cs=some ds
 | [],[],_,_=>rfl
 | [],_::_,h,_=>by cases h
 |_::_,[],h,_=>by cases h
 |a::cs,x::ds,h,hf=>by
  have h0:=hf 0 a x rfl rfl;have h1:=UL (f:=f) (cs:=cs) (ds:=ds) (by simpa using h) (fun i b y hb hy=>hf (i+1) b y (by simpa using hb) (by simpa using hy));simp only[gN,h0,h1]
theorem GL{h:H}{v gv n:Nat}{cs:List A}{rs:List (List Int)}(hv:h[v]? =some (.vec cs 1 gv))(hc:gN (rd0 h) cs=some (aP rs))(hn:n=rs.length):rd1 h (.sl v gv 0 n)=some (.ivs rs.length (aP rs)):=by
 subst hn;have hl:=PV hc;have hr:(aP rs).length=rs.length:=by simp[aP]
 simp only[rd1,hv,hc,Ay,Ax,Ag,Bu];rw[if_pos ⟨trivial,by omega⟩]
 congr 2
 exact Ca om
theorem xJ{h:H}{v gv n:Nat}{ac:List Bool}(hv:h[v]? =some (.arr (aK ac) 1 gv))(hn:n=ac.length):rd1 h (.sl v gv 0 n)=some (.ivs ac.length (aK ac)):=by
 subst hn;have hr:(aK ac).length=ac.length:=by simp[aK]
 simp only[rd1,rd0,hv,Ax,Ag,Bu];rw[if_pos ⟨trivial,by omega⟩]
 congr 2
 exact Ca om
theorem aHN{rs:List (List Int)}{i:Nat}{x:D}(h:(aP rs)[i]? =some x):∃r,rs[i]? =some r/\x=rowD r:=by
 unfold aP at h;rw[Bb]at h
 cases hr:rs[i]? with
 |none=>rw[hr]at h;cases h
 |some r=>rw[hr]at h;simp at h;exact⟨r,rfl,h.symm⟩
theorem aAG:∀ {rs:List (List Int)} {b i:Nat} {a:A},(aB b rs)[i]? =some a->∃r,rs[i]? =some r/\a=.sl (b+i) 0 0 r.length
 | [],b,i,a,h=>by simp[aB]at h
 |r::rs,b,0,a,h=>by simp[aB]at h;exact⟨r,rfl,h.symm⟩
 |r::rs,b,i+1,a,h=>by
  simp only[aB,Av]at h;obtain⟨q,h1,h2⟩:=aAG h;exact⟨q,by simpa using h1,by rw[h2];congr 1;omega⟩
theorem yB:∀ {h:H} {i:Nat} {o:O},wgt (h.set i o)<=wgt h+(jL o).length
 | [],i,o=>by simp[wgt]
 |x::h,0,o=>by
  have e1:=pR [o] h;have e2:=pR [x] h;have e3:wgt [o]=(jL o).length:=by cases o<;>simp[wgt,jL]
  simp only[Ce];simp only[En]at e1 e2;omega
 |x::h,i+1,o=>by
  have ih:=yB (h:=h) (i:=i) (o:=o);have e1:=pR [x] (h.set i o);have e2:=pR [x] h;simp only[By];simp only[En]at e1 e2;omega
theorem tA{o:O}{h:H}:wgt (o::h)=(jL o).length+wgt h:=by
 cases o<;>simp[wgt,jL]
theorem aAI{o:O}{h:H}:wgt (h++[o])=wgt h+(jL o).length:=by
 rw[pR,tA];rfl
structure Cpy(y z:O)(al:Int)(nx:List (List Int))(ac:List Bool)(N:Nat)(T1 T2 T3:H):Prop where
 hN:N=nx.length+6
 h1:y::.arr [] 0 0::.arr [] 0 0::z::autO 5 nx ac=T1
 l1:T1.length=N
 h2:T1++[.arr [] 0 0,.arr [] 0 0,.box [nI 0,.sl (N+1) 0 0 0,.sl (N+1+1) 0 0 0]]=T2
 b2:T2[N+1+1]? =some (.box [nI 0,.sl (N+1) 0 0 0,.sl (N+1+1) 0 0 0])
 h3:T2.set (N+1+1) (.box [nI al,.sl 5 0 0 nx.length,.sl 6 0 0 ac.length])=T3
 l3:T3.length=N+1+1+1
 t3:T3[3]? =some z
 t4:T3[4]? =some (.vec (aB 7 nx++aG 0) 1 0)
 t5:T3[5]? =some (.arr (aK ac) 1 0)
 tr:∀(i:Nat) (r:List Int),nx[i]? =some r->T3[i+6]? =some (.arr (ints r) 1 0)
 tb:T3[N+1+1]? =some (.box [nI al,.sl 5 0 0 nx.length,.sl 6 0 0 ac.length])
 e3:T3=y::.arr [] 0 0::.arr [] 0 0::z::.vec (aB 7 nx++aG 0) 1 0::.arr (aK ac) 1 0::(aI nx++[.arr [] 0 0,.arr [] 0 0,.box [nI al,.sl 5 0 0 nx.length,.sl 6 0 0 ac.length]])
 wg:wgt T3<=nx.length+8+(jL y).length+(jL z).length
theorem xX(y z:O)(al:Int)(nx:List (List Int))(ac:List Bool):∃(N:Nat) (T1 T2 T3:H),Cpy y z al nx ac N T1 T2 T3:=by
 have l1:(y::.arr [] 0 0::.arr [] 0 0::z::autO 5 nx ac).length=nx.length+6:=by simp[PH]
 generalize hT1:y::.arr [] 0 0::.arr [] 0 0::z::autO 5 nx ac=T1 at l1;have low:∀(l:H) (i:Nat),i<nx.length+6->(T1++l)[i]? =T1[i]?:=fun l i hi=>Be om;have g2:∀a b c:O,(T1++[a,b,c])[nx.length+6+1+1]? =some c:=fun a b c=>by rw[<-l1];exact aP1
 have g3:∀a b c d:O,(T1++[a,b,c]).set (nx.length+6+1+1) d=T1++[a,b,d]:=fun a b c d=>by rw[<-l1];exact aPy
 refine⟨nx.length+6,T1,_,_,rfl,hT1,l1,rfl,g2 _ _ _,rfl,by rw[Bt];simp[l1],?_,?_,?_,?_,?_,?_,?_⟩
 ·rw[g3,low _ _ om,<-hT1];rfl
 ·rw[g3,low _ _ om,<-hT1];rfl
 ·rw[g3,low _ _ om,<-hT1];rfl
 ·intro i r hr;have hi:i<nx.length:=(At.1 hr).1;rw[g3,low _ _ om,<-hT1];simp only[autO,Av];have:=GS (p:=[]) hr
  rwa [Ah]at this
 ·rw[g3,g2]
 ·rw[g3,<-hT1];simp[autO]
 ·rw[g3,pR,<-hT1,tA,tA,tA,tA,aRe];simp[wgt,jL,idsL,idsA];omega
theorem eG{T T':H}{i:Nat}{o:O}(h:T.set i o=T')(hi:i<T.length):T'.length=T.length/\T'[i]? =some o/\∀j,j≠i->T'[j]? =T[j]?:=by
 subst h;exact⟨Bt,Ef hi,fun j hj=>Dl (fun e=>hj e.symm)⟩
theorem nZ{T T':H}{o:O}(h:T++[o]=T'):T'.length=T.length+1/\T'[T.length]? =some o/\∀j,j<T.length->T'[j]? =T[j]?:=by
 subst h;exact⟨by simp,by simp,fun j hj=>Be hj⟩
theorem PT{h:H}{nx:List (List Int)}(hr:∀(i:Nat) (r:List Int),nx[i]? =some r->h[i+7]? =some (.arr (ints r) 1 0)):gN (rd0 h) (aB 7 nx++aG 0)=some (aP nx):=by
 refine UL (by rw[Ai,kN];simp[aG,aP]) ?_;intro i a x ha hx;obtain⟨r,hr1,rfl⟩:=aHN hx;have hn:aG 0=[]:=rfl;rw[hn,Ah]at ha;obtain⟨r2,hr2,rfl⟩:=aAG ha;rw[hr1]at hr2;cases hr2;refine aHy ?_;rw[Ck];exact hr i r hr1
theorem aOO{h:H}{b g:Nat}{r:List Int}(hr:h[b]? =some (.arr (ints r) 1 g)):rd0 h (.sl b g 0 r.length)=some (rowD r):=by
 have hl:(ints r).length=r.length:=by simp[ints]
 simp only[rd0,hr,Ax,Ag,Bu];rw[if_pos ⟨trivial,by omega⟩];unfold rowD
 congr 2
 exact Ca om
theorem aHY{h:H}{nx:List (List Int)}{t g:Nat}{row:List Int}(ht:t<nx.length)(hr:∀(i:Nat) (r:List Int),i≠t->nx[i]? =some r->h[i+7]? =some (.arr (ints r) 1 0))(h1:h[t+7]? =some (.arr (ints row) 1 g)){len:Nat}(hl:len=row.length):
  gN (rd0 h) ((aB 7 nx++aG 0).take t++[.sl (t+7) g 0 len]++(aB 7 nx++aG 0).drop (t+1))=some (aP (nx.set t row)):=by
 subst hl;have hn:aG 0=[]:=rfl;rw[hn,Ah];have hlr:(aB 7 nx).length=nx.length:=kN _ _
 have e:(aB 7 nx).take t++[.sl (t+7) g 0 row.length]++(aB 7 nx).drop (t+1)=(aB 7 nx).set t (.sl (t+7) g 0 row.length):=by
  rw[Ej,if_pos om];simp
 rw[e];refine UL (by simp[hlr,aP]) ?_;intro i a x ha hx;obtain⟨r,hr1,rfl⟩:=aHN hx;rw[Cu]at ha hr1
 by_cases hi:t=i
 ·subst hi;rw[if_pos rfl,if_pos om]at ha;rw[if_pos rfl,if_pos ht]at hr1;cases ha;cases hr1;exact aOO h1
 ·rw[if_neg hi]at ha hr1;obtain⟨r2,hr2,rfl⟩:=aAG ha;rw[hr1]at hr2;cases hr2;refine aHy ?_;rw[Ck];exact hr i r (fun e=>hi e.symm) hr1
theorem aAg{h:H}{i:Nat}{cs:List D}{e g:Nat}(h1:h[i]? =some (.arr cs e g)):aD aF h [i] []=[i]:=by
 rw[show aF=1099511627774+1+1 from rfl,o8,xT];simp[Aa,h1,xT]
theorem aJD{h:H}{i j:Nat}{cs ds:List D}{e g e2 g2:Nat}(h1:h[i]? =some (.arr cs e g))(h2:h[j]? =some (.arr ds e2 g2))(hne:i≠j):aD aF h [i,j] []=[i,j]:=by
 rw[show aF=1099511627773+1+1+1 from rfl,o8];have hne':¬j=i:=fun e=>hne e.symm;simp[Aa,h1];rw[o8];simp[Aa,h2,hne',xT]
theorem aRH{i j:Nat}(hne:i≠j):aH [i,j] i=some 0/\aH [i,j] j=some 1:=by
 have hne':¬i=j:=hne;simp[aH,hne']
theorem aEZ{E:Env}{call:aX}{thaw:List Nat}{dst:Option Tmp}{args:Array Operand}{t e:TypeId}{h:H}{id id2 g g2 e0 len n2:Nat}{cs src:List D}(he:cN E.P t=some e)(hce:E.P.cellsOf e=1)(hel:d5 E.P e=true)
  (h1:h[id]? =some (.arr cs e0 g)) (he0:e0=0\/e0=1) (h2:h[id2]? =some (.arr src 1 g2)) (hn2:n2=src.length) (hlen:len<=cs.length) (hmax:len+n2<=bI) (hne:id≠id2):
  memD E call thaw dst (.call ⟨.builtin .append,args,#[t,t]⟩) h [.sl id g 0 len,.sl id2 g2 0 n2]=some (.sl id (g+1) 0 (len+n2),h.set id (.arr (cs.take len++src) 1 (g+1)),{ ids:=[id,id2],ro:=false,wr:=[id]}):=by
 subst hn2;have hids:idsL [A.sl id g 0 len,A.sl id2 g2 0 src.length]=[id,id2]:=rfl;obtain⟨hk,hk2⟩:=aRH hne;have hord:=aJD h1 h2 hne;have hcl:closed h [id,id2] [id,id2]=true:=by simp[closed,h1,h2]
 have p1:=iI (h:=h) (bC hk) h1;have p2:=iI (h:=h) (bC hk2) h2;have key:=H3 (E:=E) (call:=call) (thaw:=thaw) (dst:=dst) (op:=.call ⟨.builtin .append,args,#[t,t]⟩) (h:=h) (vs:=[A.sl id g 0 len,A.sl id2 g2 0 src.length]) (a:=.sl 0 (g+1) 0 (len+src.length)) (a2:=.sl id (g+1) 0 (len+src.length)) (o:=.arr (cs.take len++src) 1 (g+1)) (o2:=.arr (cs.take len++src) 1 (g+1)) (id:=id) (k:=0) (ord:=[id,id2]) (by rw[hids];exact hord) (by rw[hids];exact hcl) hk rfl ?_ rfl rfl
 ·rw[key];rfl
 ·have hu:E.P.underlying t=some (.slice e):=by
   unfold cN at he
   split at he
   ·rename_i hq;cases he;exact hq
   ·cases he
  have hv:F9 (pack h [id,id2]) 0=false:=by simp only[F9,p1,mapO]
  have hb:XS (pack h [id,id2]) (.sl 1 g2 0 src.length)=false:=by simp only[XS,F9,p2,mapO]
  have hs:cG (pack h [id,id2]) 1 (.sl 1 g2 0 src.length)=some (src.length,src):=by
   simp[cG,p2,mapO]
  simp only[aE,mapA,hk,hk2,evOp,dW,fQ,cQ,pV,hv,hb,Ap,if_false,j2,he,hel,if_true,hce,hs,p1,mapO,Bu,hlen,hmax,and_self,he0,hu]
theorem aJX{E:Env}{call:aX}{thaw:List Nat}{dst:Option Tmp}{x y:Operand}{t:TypeId}{h:H}{id g off esz:Nat}{cs:List D}{z:D}(ht:E.P.cellsOf t=1)(hi:(E.P.info? t).isSome=true)(hz:dE (.d z)=true)
  (h1:h[id]? =some (.arr cs esz g)) (hoff:off+1<=cs.length):
  memD E call thaw dst (.store t x y) h [.ptr id g off,.d z]=some (.d .undef,h.set id (.arr (bD cs off [z]) esz g),{ ids:=[id],ro:=false,wr:=[id]}):=by
 have hids:idsL [A.ptr id g off,A.d z]=[id]:=rfl;have hk:aH [id] id=some 0:=by simp[aH]
 have hord:=aAg h1;have hcl:closed h [id] [id]=true:=by simp[closed,h1]
 have p1:=iI (h:=h) (bC hk) h1;have key:=H3 (E:=E) (call:=call) (thaw:=thaw) (dst:=dst) (op:=.store t x y) (h:=h) (vs:=[A.ptr id g off,A.d z]) (a:=.d .undef) (a2:=.d .undef) (o:=.arr (bD cs off [z]) esz g) (o2:=.arr (bD cs off [z]) esz g) (id:=id) (k:=0) (ord:=[id]) (by rw[hids];exact hord) (by rw[hids];exact hcl) hk rfl ?_ rfl rfl
 ·rw[key];rfl
 ·have hf:frzL (pack h [id]) [A.d z]=some ([z],pack h [id]):=by
   unfold frzL;simp only[eJ];have:frz deep (pack h [id]) (.d z)=some (z,pack h [id]):=rfl;rw[this]
  simp only[aE,mapA,hk,evOp,dW,two,iW,aU,Ac,Ab,Ag,ht,hi,Bp,Cc,hz,Bx,and_self,if_true,p1,mapO,hf,hoff,Ay]
theorem aKe{E:Env}{call:aX}{thaw:List Nat}{dst:Option Tmp}{x y:Operand}{t:TypeId}{h:H}{id id2 off g g2 o len:Nat}{cs:List A}(ht:E.P.cellsOf t=1)(hi:(E.P.info? t).isSome=true)
  (h1:h[id]? =some (.vec cs 1 g2)) (hoff:off+1<=cs.length) (ok1:Okay h id) (ok2:Okay h id2) (hw:2+wgt h<=1099511627776):
  memD E call thaw dst (.store t x y) h [.ptr id g2 off,.sl id2 g o len]=some (.d .undef,h.set id (.vec (bD cs off [.sl id2 g o len]) 1 g2),{ ids:=aD aF h [id,id2] [],ro:=false,wr:=aD aF h [id,id2] []}):=by
 have hids:idsL [A.ptr id g2 off,A.sl id2 g o len]=[id,id2]:=rfl;obtain⟨c1,c2,c3⟩:=WN (h:=h) (ids:=[id,id2]) (by intro i hi;simp at hi;rcases hi with rfl|rfl;exact ok1;exact ok2) (by simpa using hw);obtain⟨ord,hord⟩:∃ord,aD aF h [id,id2] []=ord:=⟨_,rfl⟩
 rw[hord]at c1 c2 c3|-;obtain⟨k,hk⟩:=bZ (c2 id sm);obtain⟨k2,hk2⟩:=bZ (c2 id2 sm);have p1:=iI (h:=h) (bC hk) h1
 have bk:∀xs:List A,(∀i∈idsL xs,i∈ord)->aE (fun(k:Nat)=>ord[k]?) (aE (aH ord) xs)=xs:=by
  intro xs hx;rw[mN (q:=fun i=>(aH ord i).bind fun k=>ord[k]?) (fun _=>rfl)];apply fT;intro i hi;obtain⟨j,hj⟩:=bZ (hx i hi);simp only[hj,Df];exact bC hj
 have hcs:∀i∈idsL cs,i∈ord:=by
  have:=c3 id (c2 id sm)
  simpa only[kids,h1]using this
 have split_cs:∀q:Nat,(∀i∈idsL (cs.take q),i∈ord)/\(∀i∈idsL (cs.drop q),i∈ord):=by
  intro q;have:=List.take_append_drop q cs
  constructor
  ·intro i hi;refine hcs i ?_;rw[<-this,bM,Aq];exact .inl hi
  ·intro i hi;refine hcs i ?_;rw[<-this,bM,Aq];exact .inr hi
 have hnew:∀i∈idsL (bD cs off [.sl id2 g o len]),i∈ord:=by
  intro i hi;unfold bD at hi;rw[bM,bM,Aq,Aq]at hi
  rcases hi with(hi|hi)|hi
  ·exact(split_cs _).1 i hi
  ·simp[idsL,idsA]at hi;subst hi;exact c2 i sm
  ·exact(split_cs _).2 i hi
 have hmr:bD (aE (aH ord) cs) off [.sl k2 g o len]=aE (aH ord) (bD cs off [.sl id2 g o len]):=by
  unfold bD;rw[dB,dB,FW,PF];simp only[aE,mapA,hk2,Ac,Ab]
 have key:=H3 (E:=E) (call:=call) (thaw:=thaw) (dst:=dst) (op:=.store t x y) (h:=h) (vs:=[A.ptr id g2 off,A.sl id2 g o len]) (a:=.d .undef) (a2:=.d .undef) (o:=.vec (aE (aH ord) (bD cs off [.sl id2 g o len])) 1 g2) (o2:=.vec (bD cs off [.sl id2 g o len]) 1 g2) (id:=id) (k:=k) (ord:=ord) (by rw[hids];exact hord) (by rw[hids];exact c1) hk rfl ?_ (by simp only[mapA]) (by simp only[mapO,bk _ hnew])
 ·rw[key];rfl
 ·have hoff2:off+1<=(aE (aH ord) cs).length:=by rw[DY];exact hoff
  simp only[aE,mapA,hk,hk2,evOp,dW,two,iW,aU,Ac,Ab,Ag,ht,hi,Bp,Cc,dE,Bx,and_self,if_true,p1,mapO,hoff2,hmr,Ay]
theorem aNM{E:Env}{call:aX}{thaw:List Nat}{dst:Option Tmp}{t e:TypeId}{x:Operand}{h:H}{id g len:Nat}{cs:List D}{es:Nat}(hk0:(keeps thaw dst&& !logs thaw dst)=true)(he:cN E.P t=some e)(hz:cX E.P e=some (.d .nils))(hce:E.P.cellsOf e=1)(hel:d5 E.P e=true)
  (h1:h[id]? =some (.arr cs es g)):
  memD E call thaw dst (.buildSlice t 1 #[(0,x)]) h [.sl id g 0 len]=some (.sl h.length 0 0 1,h++[.vec [.sl id g 0 len] 1 0],{ ids:=[id,h.length],ro:=false}):=by
 simp only[Aj,Dy]at hk0;obtain⟨hk,hlg⟩:=hk0;have hids:idsL [A.sl id g 0 len]=[id]:=rfl;have hp:aH [id] id=some 0:=by simp[aH]
 have hord:=aAg h1;have hcl:closed h [id] [id]=true:=by simp[closed,h1]
 have hlt:id<h.length:=(At.1 h1).1;have hgd:h.getD id default=.arr cs es g:=by rw[Aa,h1];rfl
 have hpk:pack h [id]=[.arr cs es g]:=by simp only[pack,Af,Al,hgd,mapO]
 have hev:evOp E call thaw (pack h [id]) (dW dst (.buildSlice t 1 #[(0,x)])) (aE (aH [id]) [A.sl id g 0 len])=some (.sl 1 0 0 1,[.arr cs es g,.vec [.sl 0 g 0 len] 1 0]):=by
  rw[hpk];simp only[aE,mapA,hp,evOp,dW,hk,hlg,Ap,if_false,if_true,rS,he,hz,hel,hce,aU]<;>rfl
 have hset:h.set id (.arr cs es g)=h:=by
  obtain⟨_,h2⟩:=At.1 h1;rw[<-h2,List.set_getElem_self]
 unfold memD;rw[hids,show aF=1099511627776 from rfl]at *;rw[hord];simp only[box,hev,hcl,Ac,Ab,iU,Dm,Ap,if_false];have hb1:back [id] h.length 2 0=some id:=rfl;have hb2:back [id] h.length 2 1=some h.length:=by simp[back]
 simp[mapA,aE,bE,mapO,hb1,hb2,hset,wrOf]
def yD(bad:List (Nat×Nat))(ops:List Oper)(cs:List Foot):Bool:=
 let b:=LQ ops []
 let f:=fun(c:Foot)=>c.ro&&c.ids.isEmpty
 (List.range cs.length).all fun j=>(List.range j).all fun i=>(b.getD j 0).testBit i||(f (cs.getD i {})||f (cs.getD j {})||((cs.getD i {}).ro&&(cs.getD j {}).ro))||bad.contains (i,j)
theorem aHw{a b:Foot}(h:(a.ro&&a.ids.isEmpty)=true):lQ a b=false/\lQ b a=false:=by
 simp only[Aj,List.isEmpty_iff]at h;obtain⟨ha,hi⟩:=h;unfold lQ;rw[ha,hi,aPG];simp
theorem PR{ops:List Oper}{cs:List Foot}(bad:List (Nat×Nat))(hm:yD bad ops cs=true)(hb:∀p∈bad,lQ (cs.getD p.1 {}) (cs.getD p.2 {})=false):jI ops cs=true:=by
 refine aM4 ?_;unfold yD at hm;unfold n4;simp only[Bh,List.mem_range,Bool.or_eq_true]at hm|-;intro j hj i hi
 rcases hm j hj i hi with(h|h)|h
 ·exact .inl h
 ·refine .inr ?_
  rcases h with(h|h)|h
  ·rw[(aHw h).1];rfl
  ·rw[(aHw h).2];rfl
  ·simp only[Aj]at h;rw[aQf h.1 h.2];rfl
 ·have hp:=hb (i,j) (by simpa using h);exact .inr (by rw[hp];rfl)
end Ev
end Go.Proofs.YtahbdkmimmnadaaGreatDoor
