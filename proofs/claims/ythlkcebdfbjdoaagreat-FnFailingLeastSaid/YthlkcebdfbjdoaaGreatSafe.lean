/-
  Automata that are drawn: a random one.
-/
import Derived.Test.YthlkcebdfbjdoaaGreatShRn
import Derived.Test.YthlkcebdfbjdoaaGreatCopy
import Derived.Test.YthlkcebdfbjdoaaGreatDraw2
import Derived.Test.YthlkcebdfbjdoaaGreatShSf
set_option linter.unusedSimpArgs false
set_option linter.unusedVariables false
set_option maxRecDepth 8000
set_option maxHeartbeats 4000000
namespace Go.Proofs.YthlkcebdfbjdoaaGreat
namespace Ev
theorem VM{c:List UInt8}(hc:c.length<=2000){al st i9:Int}{w:Nat}(hw:w<=6){d:List (List Int)}(hdl:d.length<=4294967296){cs:List D}{z:Nat}:∀(j i:Nat) (p:Int) (o:List Int) (hi:i+j=w) (ho:o.length=i) (hp:0<=p) (hp2:p+j<=1000000000),
  ∃(r:List Int) (q:Int),r.length=w/\q=p+j/\∀(R:Type) (L n m:Nat) (k:KE R),2<=n->2^60<=L->j<m->
  aS env (aA env L n) L 1 (W32 (W4 (W1 [1002]))) Bz5 (jW 1) Bz36 m (.ptr 0 0 0::Y1 (nI st::Y2 (Y1 (.ptr 1 0 0::.ptr 2 0 0::nI w::nI i9::.sl 3 0 0 i::nI i::Y32 (Y4 (Y1 ([]))))))) (rdO c p::.box [nI 0,.sl 4 0 0 0,.sl 5 0 0 0]::.box [nI al,.sl 6 0 0 d.length,.sl 7 0 0 z]::.arr (ints o) 1 0::.arr [] 0 0::.arr [] 0 0::.vec (aC 8 d++aG 0) 1 0::.arr cs 1 0::aK d) k
  =k (.exit 2) (.ptr 0 0 0::Y1 (nI st::Y2 (Y1 (.ptr 1 0 0::.ptr 2 0 0::nI w::nI i9::.sl 3 0 0 w::nI w::Y32 (Y4 (Y1 ([]))))))) (rdO c q::.box [nI 0,.sl 4 0 0 0,.sl 5 0 0 0]::.box [nI al,.sl 6 0 0 d.length,.sl 7 0 0 z]::.arr (ints r) 1 0::.arr [] 0 0::.arr [] 0 0::.vec (aC 8 d++aG 0) 1 0::.arr cs 1 0::aK d):=by
 intro j
 induction j with
 |zero=>
  intro i p o hi ho hp hp2;obtain rfl:i=w:=om;refine⟨o,p,ho,by omega,fun R L n m k hn hL hm=> ?_⟩;obtain _|m:=m;omega;subst ho
  simp-implicitDefEqProofs (maxSteps:=9^7) (disch:=try exact Dz) only[↓DN,↓kRet,UP,simprocAttr,Ah,↓aPY,mX,nU,Tryz.f61]
 |succ j ih=>
  intro i p o hi ho hp hp2;obtain⟨v,v0,v1,v2,kd⟩:=d7 hc p st hp om;obtain⟨r,q,g1,g2,kd2⟩:=ih (i+1) (p+1) (o++[v]) om (by simp;omega) om om;refine⟨r,q,g1,by omega,fun R L n m k hn hL hm=> ?_⟩;obtain _|m:=m;omega;have kd2':=kd2 R L n m k hn hL om;rw[cs1 i]at kd2';have hc1:(i:Int)<w:=om;subst ho;clear ih kd2
  simp-implicitDefEqProofs (maxSteps:=9^7) (disch:=try exact Dz) only[↓DN,↓kRet,UP,simprocAttr,hc1,↓kd,↓kd2',cC,uP,↓aSc,mX,nU,Tryz.f61]
theorem SL{c:List UInt8}(hc:c.length<=2000){al st i9:Int}{w:Nat}(hw:w<=6){cs:List D}{z:Nat}:∀(j i:Nat) (p:Int) (o:List Int) (hi:i+j=w) (ho:o.length=i) (hp:0<=p) (hp2:p+j<=1000000000),
  ∃(r:List Int) (q:Int),r.length=w/\q=p+j/\∀(R:Type) (L n m:Nat) (k:KE R),2<=n->2^60<=L->j<m->
  aS env (aA env L n) L 1 (W32 (W4 (W1 [1002]))) Bz5 (jW 1) Bz36 m (.ptr 0 0 0::Y1 (nI st::Y2 (Y1 (.ptr 1 0 0::.ptr 2 0 0::nI w::nI i9::.sl 3 0 0 i::nI i::Y32 (Y4 (Y1 ([]))))))) (rdO c p::.box [nI 0,.sl 4 0 0 0,.sl 5 0 0 0]::.box [nI al,.sl 6 0 0 0,.sl 7 0 0 z]::.arr (ints o) 1 0::.arr [] 0 0::.arr [] 0 0::.arr [] 0 0::.arr cs 0 0::[]) k
  =k (.exit 2) (.ptr 0 0 0::Y1 (nI st::Y2 (Y1 (.ptr 1 0 0::.ptr 2 0 0::nI w::nI i9::.sl 3 0 0 w::nI w::Y32 (Y4 (Y1 ([]))))))) (rdO c q::.box [nI 0,.sl 4 0 0 0,.sl 5 0 0 0]::.box [nI al,.sl 6 0 0 0,.sl 7 0 0 z]::.arr (ints r) 1 0::.arr [] 0 0::.arr [] 0 0::.arr [] 0 0::.arr cs 0 0::[]):=by
 intro j
 induction j with
 |zero=>
  intro i p o hi ho hp hp2;obtain rfl:i=w:=om;refine⟨o,p,ho,by omega,fun R L n m k hn hL hm=> ?_⟩;obtain _|m:=m;omega;subst ho
  simp-implicitDefEqProofs (maxSteps:=9^7) (disch:=try exact Dz) only[↓DN,↓kRet,UP,simprocAttr,Ah,mX,nU,Tryz.f61]
 |succ j ih=>
  intro i p o hi ho hp hp2;obtain⟨v,v0,v1,v2,kd⟩:=d7 hc p st hp om;obtain⟨r,q,g1,g2,kd2⟩:=ih (i+1) (p+1) (o++[v]) om (by simp;omega) om om;refine⟨r,q,g1,by omega,fun R L n m k hn hL hm=> ?_⟩;obtain _|m:=m;omega;have kd2':=kd2 R L n m k hn hL om;rw[cs1 i]at kd2';have hc1:(i:Int)<w:=om;subst ho;clear ih kd2
  simp-implicitDefEqProofs (maxSteps:=9^7) (disch:=try exact Dz) only[↓DN,↓kRet,UP,simprocAttr,hc1,↓kd,↓kd2',mX,nU,Tryz.f61]
theorem aRT{m:List Bool}{s:List A}{y1 y2 x0 x1:D}{k z rl:Nat}{r:List Int}{cs:List D}{d:List (List Int)}{p:H}(hr:rl=r.length)(hl:d.length<=4294967296):gc 1 m s (.box [.d y1,.d y2]::.box [.d x0,.sl 4 0 0 0,.sl 5 0 0 0]::.box [.d x1,.sl 6 1 0 k,.sl 7 1 0 z]::.arr (ints r) 1 0::.arr [] 0 0::.arr [] 0 0::.vec (aC 8 d++[.sl 3 0 0 rl]) 1 1::.arr cs 1 1::(aK d++p))=match box (tidy m s)with
  |.mk s1=>if idsL s1=[0,1,2]then(s1,.box [.d y1,.d y2]::.box [.d x0,.sl 3 0 0 0,.sl 4 0 0 0]::.box [.d x1,.sl 5 0 0 k,.sl 6 0 0 z]::.arr [] 0 0::.arr [] 0 0::.vec (aC 7 (d++[r])++aG 0) 1 0::.arr cs 1 0::aK (d++[r]))else gcO 1 m s (.box [.d y1,.d y2]::.box [.d x0,.sl 4 0 0 0,.sl 5 0 0 0]::.box [.d x1,.sl 6 1 0 k,.sl 7 1 0 z]::.arr (ints r) 1 0::.arr [] 0 0::.arr [] 0 0::.vec (aC 8 d++[.sl 3 0 0 rl]) 1 1::.arr cs 1 1::(aK d++p))
  |.no=>([],[]):=by
 have hn:aG 0=[]:=rfl;subst hr;rw[aSi hl,<-L4,FB,hn,Aj,Nat.add_comm 7];simp only[box]
 split
 ·rename_i hid
  rw[oL _ (by rw[hid];intro i hi;simp at hi;rcases hi with rfl|rfl|rfl<;>rfl)]
 ·rfl
theorem uQ{l:List Bool}{b:Bool}:aD l++[.bool b]=aD (l++[b]):=by simp[aD]
theorem UO{c:List UInt8}(hc:c.length<=2000){al st:Int}{w s:Nat}(hw:w<=6)(hst:st=s)(hs:s<=100):∀(j i:Nat) (p:Int) (d:List (List Int)) (bl:List Bool) (hi:i+j=s) (hd:d.length=i) (hbl:bl.length=i) (hrw:∀r∈d,r.length=w) (hp:0<=p) (hp2:p+7*j<=1000000000),
  ∃(d2:List (List Int)) (bl2:List Bool) (q:Int),d2.length=s/\bl2.length=s/\(∀r∈d2,r.length=w)/\p<=q/\q<=p+7*j/\∀(R:Type) (L n m:Nat) (k:KE R),2<=n->2^60<=L->j<m->
  aS env (aA env L n) L 1 (W32 (W4 (W1 [1002]))) Bz5 (jW 0) Bz37 m (.ptr 0 0 0::Y1 (nI st::Y2 (Y1 (.ptr 1 0 0::.ptr 2 0 0::nI w::nI i::Y32 (Y4 (Y2 (Y1 ([])))))))) (rdO c p::.box [nI 0,.sl 3 0 0 0,.sl 4 0 0 0]::.box [nI al,.sl 5 0 0 (List.length d),.sl 6 0 0 (List.length bl)]::.arr [] 0 0::.arr [] 0 0::.vec (aC 7 d++aG 0) 1 0::.arr (aD bl) 1 0::aK d) k
  =k (.exit 0) (.ptr 0 0 0::Y1 (nI st::Y2 (Y1 (.ptr 1 0 0::.ptr 2 0 0::nI w::nI s::Y32 (Y4 (Y2 (Y1 ([])))))))) (rdO c q::.box [nI 0,.sl 3 0 0 0,.sl 4 0 0 0]::.box [nI al,.sl 5 0 0 (List.length d2),.sl 6 0 0 (List.length bl2)]::.arr [] 0 0::.arr [] 0 0::.vec (aC 7 d2++aG 0) 1 0::.arr (aD bl2) 1 0::aK d2):=by
 intro j
 induction j with
 |zero=>
  intro i p d bl hi hd hbl hrw hp hp2;obtain rfl:i=s:=om;refine⟨d,bl,p,hd,hbl,hrw,by omega,by omega,fun R L n m k hn hL hm=> ?_⟩;obtain _|m:=m;omega;have hdl:d.length<=4294967296:=om;subst hst
  simp-implicitDefEqProofs (maxSteps:=9^7) (disch:=try exact Dz) only[↓DN,↓kRet,UP,simprocAttr,Ah,↓aR6,t6,tH,Tryz.f61]
 |succ j ih=>
  intro i p d bl hi hd hbl hrw hp hp2;have hdl:d.length<=4294967296:=om;obtain⟨r,q,g1,g2,kd1⟩:=VM hc (al:=al) (st:=st) (i9:=i) hw hdl (cs:=aD bl) (z:=bl.length) w 0 p [] om rfl hp om;obtain⟨v,v0,v1,v2,kd2⟩:=d7 hc q 3 om om
  obtain⟨d2,bl2,q2,e1,e2,e3,e4,e5,kd3⟩:=ih (i+1) (q+1) (d++[r]) (bl++[decide (0<v)]) om (by simp;omega) (by simp;omega) (by
   intro x hx
   rcases Am.1 hx with hx|hx
   ·exact hrw x hx
   ·simp at hx;subst hx;exact g1) om om
  refine⟨d2,bl2,q2,e1,e2,e3,by omega,by omega,fun R L n m k hn hL hm=> ?_⟩;obtain _|m:=m;omega;have kd3':=kd3 R L n m k hn hL om;have loop_c:=fun {R:Type} {n:Nat} {k:KE R} (hn:2<=n)=>kd1 R L n L k hn hL om;rw[cs1 i]at kd3';simp only[Ap,mD,Af,Ad,Ac,Ag]at loop_c kd3';have hc1:(i:Int)<st:=om;have g1':w=r.length:=g1.symm;have ht:(aC 8 d++aG 0).take d.length=aC 8 d:=FL rfl;have hlv:d.length<=(aC 8 d++aG 0).length:=by rw[Af,fZ];omega
  obtain⟨G2,hG2⟩:∃G:H,G=(rdO c (q+1)::.box [nI 0,.sl 4 0 0 0,.sl 5 0 0 0]::.box [nI al,.sl 6 1 0 (d.length+1),.sl 7 0 0 bl.length]::.arr (ints r) 1 0::.arr [] 0 0::.arr [] 0 0::.vec (aC 8 d++[.sl 3 0 0 w]) 1 1::.arr (aD (bl++[decide (0<v)])) 1 1::(aK d++.vec [.sl 3 0 0 w] 1 0::.arr [.bool (decide (0<v))] 1 0::[])):=⟨_,rfl⟩
  have k2:G2[2]? =some (.box [nI al,.sl 6 1 0 (d.length+1),.sl 7 0 0 bl.length]):=by rw[hG2];rfl
  have k3:G2[3]? =some (.arr (ints r) 1 0):=by rw[hG2];rfl
  have k6:G2[6]? =some (.vec (aC 8 d++[.sl 3 0 0 w]) 1 1):=by rw[hG2];rfl
  have k7:G2[7]? =some (.arr (aD (bl++[decide (0<v)])) 1 1):=by rw[hG2];rfl
  have ok3:Okay G2 3:=.mk _ _ k3 sm (by rw[bN k3];simp);have ok7:Okay G2 7:=.mk _ _ k7 sm (by rw[bN k7];simp)
  have ok6:Okay G2 6:=.mk _ _ k6 sm (by
   intro y hy;have:kids G2 6=List.range' 8 d.length++[3]:=by simp[kids,k6,bL,bU,idsL,idsA]
   rw[this,Am,Cr]at hy
   rcases hy with hy|hy
   ·obtain⟨z,rfl⟩:∃z,y=8+z:=⟨y-8,by omega⟩
    have hz:z<d.length:=om
    have hr:G2[8+z]? =some (.arr (ints d[z]) 1 0):=by
     rw[hG2,show 8+z=z+1+1+1+1+1+1+1+1 by omega];simp only[Aw];exact FW (Ae hz)
    exact .mk _ _ hr sm (by rw[bN hr];simp)
   ·simp at hy;subst hy;exact ok3)
  have ok2:Okay G2 2:=.mk _ _ k2 sm (by
   intro y hy;have:kids G2 2=[6,7]:=by simp[kids,k2,idsL,idsA]
   rw[this]at hy;simp at hy
   rcases hy with rfl|rfl
   ·exact ok6
   ·exact ok7)
  have wG2:2+wgt G2<=1099511627776:=by
   have h1:=pP (aK d) [.vec [.sl 3 0 0 w] 1 0,.arr [.bool (decide (0<v))] 1 0];rw[GE]at h1;rw[hG2];simp only[wgt,idsL,idsA,bL,bU,Af,Dv,Ad,Ac]at h1|-;omega
  have st_sto:∀ {call:aX} {thaw:List Nat} {dst:Option Tmp} {x y:Operand},memD env call thaw dst (.store 24 x y) G2 [.ptr 2 0 2,.sl 7 1 0 (bl.length+1)]=some (.d .undef,G2.set 2 (.box (bG [nI al,.sl 6 1 0 (d.length+1),.sl 7 0 0 bl.length] 2 [.sl 7 1 0 (bl.length+1)])),{ ids:=aE aH G2 [2,7] [],ro:=false,wr:=aE aH G2 [2,7] []}):=by
   intro call thaw dst x y;exact uT kr kr k2 sm ok2 ok7 wG2
  obtain⟨o2,ho2⟩:∃o,o=aE aH G2 [2,7] []:=⟨_,rfl⟩
  rw[<-ho2]at st_sto;rw[hG2]at st_sto;simp only[Bo,Ci,bG,List.take_succ_cons,List.take_zero,Ax,Ao,Ad,Ac,Dj,List.drop_nil,Nat.reduceAdd]at st_sto;clear hG2 k2 k3 k6 k7 ok2 ok3 ok6 ok7 wG2 ho2 ih kd1 kd3;subst hd;generalize hbv:decide (0<v)=b at *
  simp-implicitDefEqProofs (maxSteps:=9^7) (disch:=try exact Dz) only[↓DN,↓kAsg,↓kRet,UP,simprocAttr,LA,hc1,hbv,↓loop_c,↓kd2,cC,fZ,aNo,Ab,uP,HX,aHo,aHT,Bh,ht,uQ,Al,↓aRI,aIc,VE,UF,TT,Q8,↓st_sto,↓aRT,↓kd3',t6,tH,Tryz.f61]
theorem QH{c:List UInt8}(hc:c.length<=2000){al st:Int}{w s:Nat}(hw:w<=6)(hst:st=s)(hs:s<=100)(h1:1<=s)(p:Int)(hp:0<=p)(hp2:p+7*s<=1000000000):
  ∃(d2:List (List Int)) (bl2:List Bool) (q:Int),d2.length=s/\bl2.length=s/\(∀r∈d2,r.length=w)/\p<=q/\q<=p+7*s/\∀(R:Type) (L n m:Nat) (k:KE R),2<=n->2^60<=L->s<m->
  aS env (aA env L n) L 1 (W32 (W4 (W1 [1002]))) Bz5 (jW 0) Bz37 m (.ptr 0 0 0::Y1 (nI st::Y2 (Y1 (.ptr 1 0 0::.ptr 2 0 0::nI w::nI 0::Y32 (Y4 (Y2 (Y1 ([])))))))) (rdO c p::.box [nI 0,.sl 3 0 0 0,.sl 4 0 0 0]::.box [nI al,.sl 5 0 0 0,.sl 6 0 0 0]::.arr [] 0 0::.arr [] 0 0::.arr [] 0 0::.arr [] 0 0::[]) k
  =k (.exit 0) (.ptr 0 0 0::Y1 (nI st::Y2 (Y1 (.ptr 1 0 0::.ptr 2 0 0::nI w::nI s::Y32 (Y4 (Y2 (Y1 ([])))))))) (rdO c q::.box [nI 0,.sl 3 0 0 0,.sl 4 0 0 0]::.box [nI al,.sl 5 0 0 (List.length d2),.sl 6 0 0 (List.length bl2)]::.arr [] 0 0::.arr [] 0 0::.vec (aC 7 d2++aG 0) 1 0::.arr (aD bl2) 1 0::aK d2):=by
 obtain⟨j,hj⟩:∃j,s=j+1:=⟨s-1,by omega⟩
 obtain⟨r,q,g1,g2,kd1⟩:=SL hc (al:=al) (st:=st) (i9:=0) hw (cs:=[]) (z:=0) w 0 p [] om rfl hp om;obtain⟨v,v0,v1,v2,kd2⟩:=d7 hc q 3 om om;obtain⟨d2,bl2,q2,e1,e2,e3,e4,e5,kd3⟩:=UO hc (al:=al) (st:=st) hw hst hs j 1 (q+1) [r] [decide (0<v)] om rfl rfl (by intro x hx;simp at hx;subst hx;exact g1) om om;refine⟨d2,bl2,q2,e1,e2,e3,by omega,by omega,fun R L n m k hn hL hm=> ?_⟩;obtain _|m:=m;omega;have kd3':=kd3 R L n m k hn hL om;have loop_c:=fun {R:Type} {n:Nat} {k:KE R} (hn:2<=n)=>kd1 R L n L k hn hL om;simp only[Ap,mD]at loop_c;have e7:aC 7 [r]++aG 0=[.sl 7 0 0 r.length]:=rfl;have e8:aK [r]=[.arr (ints r) 1 0]:=rfl;have e9:aD [decide (0<v)]=[.bool (decide (0<v))]:=rfl;rw[e7,e8,e9,g1]at kd3';simp only[Ad,Ac,Ag,show((1:Nat):Int)=1 from rfl]at kd3';have hc1:(0:Int)<st:=om;generalize hbv:decide (0<v)=b at *;clear kd1 kd3
 simp-implicitDefEqProofs (maxSteps:=9^7) (disch:=try exact Dz) only[↓DN,↓kAsg,↓kRet,UP,simprocAttr,hc1,hbv,↓loop_c,↓kd2,↓kd3',t6,tH,Tryz.f61]
theorem D8{c:List UInt8}(hc:c.length<=2000)(al st:Int){s:Nat}(hst:st=s)(hs:s<=100)(h1:1<=s)(p:Int)(hp:0<=p)(hp2:p+7*s<=1000000000):
  ∃(nx:List (List Int)) (ac:List Bool) (q:Int),nx.length=s/\ac.length=s/\(∀r∈nx,r.length=(aB al).length)/\p<=q/\q<=p+7*s/\∀(L n:Nat),3<=n->2^60<=L->
  aA env L n 61 [.ptr 0 0 0,nI al,nI st] [rdO c p]=some (autA 1 al nx.length ac.length,rdO c q::autO 1 nx ac):=by
 obtain⟨nx,ac,q,g1,g2,g3,g4,g5,kd⟩:=QH hc (al:=al) (st:=st) (w:=(aB al).length) (bP al) hst hs h1 p hp hp2;refine⟨nx,ac,q,g1,g2,g3,g4,g5,fun L n hn hL=> ?_⟩;have loop_c:=fun {R:Type} {n:Nat} {k:KE R} (hn:2<=n)=>kd R L n L k hn hL om;have hnl:nx.length<=4294967296:=om;have hbl:(aD ac).length=ac.length:=dO;unfold autA autO;clear kd;obtain _|n:=n;omega
 simp-implicitDefEqProofs (maxSteps:=9^7) (disch:=try exact Dz) only[↓DN,↓kAsg,↓kRet,UP,simprocAttr,↓fS,↓loop_c,↓aOK,↓aOp,z0As,z0A,eq_self,aFx,aGn,aHt,UY,Tryz.f61]
theorem aKB{R:Type}{call:aX}{hq:H}{f:FuncId}{args:List A}{c:List UInt8}{p q al:Int}{rs:List (List Int)}{ac:List Bool}{k:KA R}(hm:(env.hint f).mode=0)(ha:idsL args=[])(he:call f (.ptr 0 0 0::args) [rdO c p]=some (autA 1 al rs.length ac.length,rdO c q::autO 1 rs ac)):
  aZ env call (rdO c p::hq) f (.ptr 0 0 0::args) k=k (autA (hq.length+1) al rs.length ac.length) (rdO c q::(hq++autO (hq.length+1) rs ac)):=by
 have hid:idsL (A.ptr 0 0 0::args)=[0]:=by simp[idsL,idsA,ha]
 have hre:aE aH (rdO c p::hq) [0] []=[0]:=rfl;have hpk:pack (rdO c p::hq) [0]=[rdO c p]:=rfl
 have hma:aF (aJ [0]) (A.ptr 0 0 0::args)=A.ptr 0 0 0::args:=by
  simp only[aF,fL _ ha];rfl
 have hc:bT call env.hint [rdO c p] f (.ptr 0 0 0::args)=some (autA 1 al rs.length ac.length,rdO c q::autO 1 rs ac):=by
  unfold bT;rw[hm];exact he
 have hcl:closed (rdO c p::hq) [0] [0]=true:=rfl
 have hb:∀i,i<rs.length+2->back [0] (hq.length+1) (rs.length+3) (1+i)=some (hq.length+1+i):=by
  intro i hi;unfold back;rw[if_neg sm,if_pos om];simp
 have hmp:(autO 1 rs ac).map (mapO (back [0] (hq.length+1) (rs.length+3)))=autO (hq.length+1) rs ac:=by
  simp only[autO,Ai];rw[aLe (d:=hq.length+1+2) fun i hi=>by rw[show 1+2+i=1+(2+i) by omega,hb _ om];congr 1;omega,aJQ];rfl
 have hrm:mapA (back [0] (hq.length+1) (rs.length+3)) (autA 1 al rs.length ac.length)=autA (hq.length+1) al rs.length ac.length:=
  aH3 (by simpa using hb 0 om) (hb 1 om)
 have hlen:(rdO c q::autO 1 rs ac).length=rs.length+3:=by rw[Ad,PH]
 unfold aZ;rw[hid,hre,hpk,hma,hc];simp only[hlen,Ad,Ac,hcl,hrm,Ag,show 1<=rs.length+3 by omega,and_self,if_true];simp only[bI,Ci,hmp]
 congr 1
theorem NG{t:H}{y1 y2:D}{v n m:Nat}{al:Int}{rs:List (List Int)}{ac:List Bool}(k:Has (.box [.d y1,.d y2]::t) v rs ac)(hv:1<=v)(hn:n=rs.length)(hm:m=ac.length):
  ∃h2,oV 1 false (.box [.d y1,.d y2]::t) [.agg [nI al,.sl v 0 0 n,.sl (v+1) 0 0 m]]=some ([autD al rs ac],h2)/\aE 1099511627776 h2 (eK (List.take 1 h2)) [0]=[0]/\List.getD h2 0 default=.box [.d y1,.d y2]:=by
 subst hn;subst hm;obtain⟨ha,e1,i1⟩:=X8 4 (aGF _) (aSZ k);obtain⟨hb,e2,i2⟩:=X8 4 i1 (aSG k)
 have h0:hb[0]? =some (.box [.d y1,.d y2]):=by
  rcases i2 0 with h|⟨_,_,_,h,_⟩|⟨_,_,_,_,h,_⟩
  ·rw[h];rfl
  ·cases h
  ·cases h
 obtain⟨t2,rfl⟩:∃t2,hb=.box [.d y1,.d y2]::t2:=by
  cases hb with
  |nil=>simp at h0
  |cons o t2=>simp at h0;exact⟨t2,by rw[h0]⟩
 refine⟨.box [.d y1,.d y2]::t2,?_,rfl,rfl⟩;have hv1:¬(v<1):=om;have hv2:¬(v+1<1):=om;simp only[oV,outA,BS,outS,hv1,hv2,decide_false,Bool.or_self,Ak,if_false];rw[show deep=4+1 from rfl,e1];simp only[Az];rw[e2];rfl
theorem NC{h:H}{v:Nat}{rs:List (List Int)}{ac:List Bool}{p:H}(hd:h.length=v):Has (h++(.vec (aC (v+2) rs++aG 0) 1 0::.arr (aD ac) 1 0::(aK rs++p))) v rs ac:=by
 subst hd;have:=aRC (h2:=p) (aRZ (h:=h) (rs:=rs) (ac:=ac))
 simpa [autO]using this
theorem aMF:(env.hint 61).mode=0:=kr
theorem MR{R:Type}{L n:Nat}{hq:H}{c:List UInt8}{p q al st:Int}{rs:List (List Int)}{ac:List Bool}{k:KA R}(hn:3<=n)(hL:2^60<=L)
  (he:∀(L n:Nat),3<=n->2^60<=L->aA env L n 61 [.ptr 0 0 0,nI al,nI st] [rdO c p]=some (autA 1 al rs.length ac.length,rdO c q::autO 1 rs ac)):
  aZ env (aA env L n) (rdO c p::hq) 61 [.ptr 0 0 0,nI al,nI st] k=k (autA (hq.length+1) al rs.length ac.length) (rdO c q::(hq++autO (hq.length+1) rs ac)):=
 aKB aMF (by simp[idsL,idsA]) (he L n hn hL)
def yI(x:Int):Nat->Nat->List Bool->List Bool
 |0,_,bl=>bl
 |j+1,i,bl=>yI x j (i+1) (bl.set i (decide ((i:Int)<x)))
theorem aFl(x:Int):∀(j i:Nat) (bl:List Bool),(yI x j i bl).length=bl.length
 |0,_,_=>rfl
 |j+1,i,bl=>by rw[yI,aFl x j,Bn]
def zE(x:Int):Nat->Nat->List Int->List Int
 |0,_,r=>r
 |j+1,i,r=>zE x j (i+1) (r.set i x)
theorem TR(x:Int):∀(j i:Nat) (r:List Int),(zE x j i r).length=r.length
 |0,_,_=>rfl
 |j+1,i,r=>by rw[zE,TR x j,Bn]
theorem aN5{l:List Bool}{k:Nat}{v:Bool}(h:k<l.length):List.take k (aD l)++[D.bool v]++List.drop (k+1) (aD l)=aD (l.set k v):=aGf h
theorem aAO{l:List Int}{k:Nat}{v:Int}(h:k<l.length):List.take k (ints l)++[D.int .i64 v]++List.drop (k+1) (ints l)=ints (l.set k v):=aBI h
theorem kA{rs:List (List Int)}{k:Nat}(h:k<rs.length):((aC 7 rs++aG 0).drop k).head? =some (.sl (k+7) 0 0 (rs.getD k []).length):=by
 rw[aGR (b:=0) (k:=0) h,Nat.add_comm]
theorem CA{rs:List (List Int)}{b k:Nat}{r:List Int}(h:r.length=(rs.getD k []).length):aC b (rs.set k r)=aC b rs:=by
 apply aCO;rw[List.map_set]
 by_cases hk:k<rs.length
 ·have:r.length=(rs.map List.length)[k]'(by simpa using hk):=by
   rw[h,Dx,Aa,Ae hk];rfl
  rw[this,List.set_getElem_self]
 ·rw[List.set_eq_of_length_le (by simp;omega)]
theorem aSm{m:List Bool}{s:List A}{y1 y2 x0 x1:D}{k z:Nat}{cs:List D}{d d2:List (List Int)}(he:aC 7 d2=aC 7 d)(hl:d2.length<=4294967296):gc 1 m s (.box [.d y1,.d y2]::.box [.d x0,.sl 3 0 0 0,.sl 4 0 0 0]::.box [.d x1,.sl 5 0 0 k,.sl 6 0 0 z]::.arr [] 0 0::.arr [] 0 0::.vec (aC 7 d++aG 0) 1 0::.arr cs 1 0::aK d2)=match box (tidy m s)with
  |.mk s1=>if idsL s1=[1,2]/\z0As s1=true then(aF (A5 d2.length) s1,.box [.d y1,.d y2]::.box [.d x0,.sl 3 0 0 0,.sl 4 0 0 0]::.box [.d x1,.sl 5 0 0 k,.sl 6 0 0 z]::.arr [] 0 0::.arr [] 0 0::.vec (aC 7 d++aG 0) 1 0::.arr cs 1 0::aK d2)else gcO 1 m s (.box [.d y1,.d y2]::.box [.d x0,.sl 3 0 0 0,.sl 4 0 0 0]::.box [.d x1,.sl 5 0 0 k,.sl 6 0 0 z]::.arr [] 0 0::.arr [] 0 0::.vec (aC 7 d++aG 0) 1 0::.arr cs 1 0::aK d2)
  |.no=>([],[]):=by
 rw[<-he];exact F3 hl
theorem aEI{R:Type}{L n:Nat}{y1 y2 x0:D}{al st x:Int}{s:Nat}{nx:List (List Int)}(hx:st-1=x)(hst:st=s)(hs:s<=100)(hnl:nx.length<=4294967296){k:KE R}:∀(j i m:Nat) (bl:List Bool) (len:Nat) (hi:i+j=s) (hm:j<m) (hbl:bl.length=s) (hlen:len=bl.length),
  aS env (aA env L n) L 1 [] Bz9 (pS 0) (U2 (Z1 (U2 (U1 (Z2 (Z1 (U32 (U8 ([]))))))))) m (Y2 (nI st::Y2 (Y1 (.ptr 1 0 0::.ptr 2 0 0::nI i::Y32 (Y8 ([])))))) (.box [.d y1,.d y2]::.box [.d x0,.sl 3 0 0 0,.sl 4 0 0 0]::.box [nI al,.sl 5 0 0 nx.length,.sl 6 0 0 len]::.arr [] 0 0::.arr [] 0 0::.vec (aC 7 nx++aG 0) 1 0::.arr (aD bl) 1 0::aK nx) k
  =k (.exit 0) (Y2 (nI st::Y2 (Y1 (.ptr 1 0 0::.ptr 2 0 0::nI s::Y32 (Y8 ([])))))) (.box [.d y1,.d y2]::.box [.d x0,.sl 3 0 0 0,.sl 4 0 0 0]::.box [nI al,.sl 5 0 0 nx.length,.sl 6 0 0 s]::.arr [] 0 0::.arr [] 0 0::.vec (aC 7 nx++aG 0) 1 0::.arr (aD (yI x j i bl)) 1 0::aK nx):=by
 intro j
 induction j with
 |zero=>
  intro i m bl len hi hm hbl hlen;obtain _|m:=m;omega;obtain rfl:i=s:=om;rw[hbl]at hlen;subst hlen;have hc1:¬((len:Int)<st):=om
  simp-implicitDefEqProofs (maxSteps:=9^7) (disch:=try exact Dz) only[↓DN,↓kRet,UP,simprocAttr,hc1,↓F3,z0As,z0A,eq_self,rI,rR,yI,L3,IR,Tryz.f122]
 |succ j ih=>
  intro i m bl len hi hm hbl hlen;obtain _|m:=m;omega;subst hlen;have hc1:(i:Int)<st:=om;have hk:i<bl.length:=om;have hb1:(0:Int)<=i:=om;have ih':=ih (i+1) m (bl.set i (decide ((i:Int)<x))) bl.length om om (by simpa using hbl) sm;rw[cs1 i]at ih';rw[yI];clear ih
  simp-implicitDefEqProofs (maxSteps:=9^7) (disch:=try exact Dz) only[↓DN,↓kRet,UP,simprocAttr,LA,hc1,hx,aN5,↓F3,z0As,z0A,eq_self,rI,rR,↓ih',L3,IR,Tryz.f122]
theorem aEZ{R:Type}{L n:Nat}{y1 y2 x0:D}{al st i9:Int}{s t:Nat}{bl:List Bool}{w:Nat}(hx:st-1=(t:Int))(hs:s<=100)(hw:w<=100)(ht:t<s){k:KE R}:∀(j i m:Nat) (nx:List (List Int)) (len:Nat) (hi:i+j=w) (hm:j<m) (hr:(nx.getD t []).length=w) (hnx:nx.length=s) (hlen:len=nx.length),
  aS env (aA env L n) L 1 [] Bz9 (pS 1) Bz41 m (Y2 (nI st::Y2 (Y1 (.ptr 1 0 0::.ptr 2 0 0::nI i9::nI i::Y32 (Y4 (Y2 (Y1 ([])))))))) (.box [.d y1,.d y2]::.box [.d x0,.sl 3 0 0 0,.sl 4 0 0 0]::.box [nI al,.sl 5 0 0 len,.sl 6 0 0 bl.length]::.arr [] 0 0::.arr [] 0 0::.vec (aC 7 nx++aG 0) 1 0::.arr (aD bl) 1 0::aK nx) k
  =k (.exit 2) (Y2 (nI st::Y2 (Y1 (.ptr 1 0 0::.ptr 2 0 0::nI i9::nI w::Y32 (Y4 (Y2 (Y1 ([])))))))) (.box [.d y1,.d y2]::.box [.d x0,.sl 3 0 0 0,.sl 4 0 0 0]::.box [nI al,.sl 5 0 0 s,.sl 6 0 0 bl.length]::.arr [] 0 0::.arr [] 0 0::.vec (aC 7 nx++aG 0) 1 0::.arr (aD bl) 1 0::aK (nx.set t (zE t j i (nx.getD t [])))):=by
 intro j
 induction j with
 |zero=>
  intro i m nx len hi hm hr hnx hlen;obtain _|m:=m;omega;obtain rfl:i=w:=om;rw[hnx]at hlen;subst hlen;have hc1:¬((i:Int)<(i:Int)):=om;have hnl:nx.length<=4294967296:=om;have hkd:t<nx.length:=om;have hg:=aJt hkd
  have e1:nx.set t (nx.getD t [])=nx:=by
   rw[Aa,Ae hkd];exact List.set_getElem_self hkd
  rw[zE,e1]
  simp-implicitDefEqProofs (maxSteps:=9^7) (disch:=try exact Dz) only[↓DN,↓kRet,UP,simprocAttr,hx,hr,hc1,kA,↓F3,z0As,z0A,eq_self,rI,rR,JQ,GN,Tryz.f122]
 |succ j ih=>
  intro i m nx len hi hm hr hnx hlen;obtain _|m:=m;omega;subst hlen;have hnl:nx.length<=4294967296:=om;have hkd:t<nx.length:=om;have hg:=aJt hkd;have hc1:(i:Int)<(w:Int):=om;have hk:i<(nx.getD t []).length:=om;have hb1:(0:Int)<=i:=om
  have hgs:(nx.set t ((nx.getD t []).set i t)).getD t []=(nx.getD t []).set i t:=by
   rw[Aa,Eg hkd];rfl
  have hrs:aC 7 (nx.set t ((nx.getD t []).set i t))=aC 7 nx:=CA sm;have ih':=ih (i+1) m (nx.set t ((nx.getD t []).set i t)) nx.length om om (by rw[hgs];simpa using hr) (by simpa using hnx) sm;rw[cs1 i,hgs,hrs,List.set_set]at ih';rw[zE];have hnl2:(nx.set t ((nx.getD t []).set i t)).length<=4294967296:=by rw[Bn];omega
  clear ih hgs;generalize hro:nx.getD t []=ro at *
  simp-implicitDefEqProofs (maxSteps:=9^7) (disch:=try exact Dz) only[↓DN,↓kRet,UP,simprocAttr,hx,hr,hro,hg,hc1,kA,aOj,aAO,↓aSm,z0As,z0A,eq_self,rI,rR,↓ih',JQ,GN,Tryz.f122]
theorem aB5{R:Type}{L n m:Nat}{y1 y2 x0:D}{al st i9:Int}{s t:Nat}{bl:List Bool}{w:Nat}{nx:List (List Int)}(hx:st-1=(t:Int))(hs:s<=100)(hw:w<=100)(ht:t<s)(hm:w<m)(hr:(nx.getD t []).length=w)(hnx:nx.length=s){k:KE R}:
  aS env (aA env L n) L 1 [] Bz9 (pS 1) Bz41 m (Y2 (nI st::Y2 (Y1 (.ptr 1 0 0::.ptr 2 0 0::nI i9::nI 0::Y32 (Y4 (Y2 (Y1 ([])))))))) (.box [.d y1,.d y2]::.box [.d x0,.sl 3 0 0 0,.sl 4 0 0 0]::.box [nI al,.sl 5 0 0 s,.sl 6 0 0 bl.length]::.arr [] 0 0::.arr [] 0 0::.vec (aC 7 nx++aG 0) 1 0::.arr (aD bl) 1 0::aK nx) k
  =k (.exit 2) (Y2 (nI st::Y2 (Y1 (.ptr 1 0 0::.ptr 2 0 0::nI i9::nI w::Y32 (Y4 (Y2 (Y1 ([])))))))) (.box [.d y1,.d y2]::.box [.d x0,.sl 3 0 0 0,.sl 4 0 0 0]::.box [nI al,.sl 5 0 0 s,.sl 6 0 0 bl.length]::.arr [] 0 0::.arr [] 0 0::.vec (aC 7 (nx.set t (zE t w 0 (nx.getD t [])))++aG 0) 1 0::.arr (aD bl) 1 0::aK (nx.set t (zE t w 0 (nx.getD t [])))):=by
 rw[CA (by rw[TR])];exact aEZ hx hs hw ht w 0 m nx s om hm hr hnx hnx.symm
theorem HZ{d:List (List Int)}{o o1 o2:O}{p:H}{k:Nat}(h:k=d.length+2):(aK d++o1::o2::o::p)[k]? =some o:=by
 subst h;rw[Bk (by rw[cC];omega),cC,Du];rfl
theorem GC{d:List (List Int)}{o o1 o2 q:O}{p:H}{k:Nat}(h:k=d.length+2):(aK d++o1::o2::o::p).set k q=aK d++o1::o2::q::p:=by
 rw[Dt _ _ (by rw[cC];omega),cC,h,Du];rfl
theorem aKd{c:List UInt8}(hc:c.length<=2000)(al st:Int){s:Nat}(hst:st=s)(hs:s<=100)(h1:1<=s)(p:Int)(hp:0<=p)(hp2:p+7*s<=1000000000):
  ∃(nx:List (List Int)) (ac:List Bool) (q:Int),nx.length=s/\ac.length=s/\(∀r∈nx,r.length=(aB al).length)/\p<=q/\q<=p+7*s/\∀(L n:Nat),4<=n->2^60<=L->
  aA env L n 122 [.ptr 0 0 0,nI al,nI st] [rdO c p]=some (autD al nx ac,[rdO c q]):=by
 obtain⟨nx,ac,q,g1,g2,g3,g4,g5,he⟩:=D8 hc al st hst hs h1 p hp hp2;obtain⟨t,rfl⟩:∃t,s=t+1:=⟨s-1,by omega⟩
 have hx:st-1=(t:Int):=om;have hw:=bP al;have hk:t<nx.length:=om
 have hr:(nx.getD t []).length=(aB al).length:=by
  rw[Aa,Ae hk];exact g3 _ (At hk)
 have hl1:(nx.set t (zE t (aB al).length 0 (nx.getD t []))).length=t+1:=by rw[Bn,g1]
 have hl2:(yI (t:Int) (t+1) 0 ac).length=t+1:=by rw[aFl,g2]
 refine⟨nx.set t (zE t (aB al).length 0 (nx.getD t [])),yI (t:Int) (t+1) 0 ac,q,hl1,hl2,?_,g4,g5,fun L n hn hL=> ?_⟩
 ·intro r hrm
  rcases Do hrm with h|h
  ·exact g3 r h
  ·rw[h,TR,hr]
 have kd:=fun {R:Type} {n:Nat} {hq:H} {k:KA R} (hn:3<=n)=>MR (R:=R) (L:=L) (n:=n) (hq:=hq) (k:=k) hn hL he;have hnl:nx.length<=4294967296:=om;have loop_a:=fun {R:Type} {n:Nat} {y1 y2 x0:D} {k:KE R}=>aEI (R:=R) (L:=L) (n:=n) (y1:=y1) (y2:=y2) (x0:=x0) (al:=al) (nx:=nx) (k:=k) hx hst hs hnl (t+1) 0 L ac ac.length om om g2 rfl;have loop_b:=fun {R:Type} {n:Nat} {y1 y2 x0:D} {i9:Int} {k:KE R}=>aB5 (R:=R) (L:=L) (n:=n) (m:=L) (y1:=y1) (y2:=y2) (x0:=x0) (al:=al) (i9:=i9) (bl:=yI (t:Int) (t+1) 0 ac) (k:=k) hx hs om om om hr g1;rw[hl2]at loop_b;rw[g1,g2]at loop_a;simp only[autA,autO,g1,g2]at kd;simp only[Ap]at loop_a;have hbl:(aD (yI (t:Int) (t+1) 0 ac)).length=t+1:=by rw[dO,hl2]
 generalize nx.set t (zE t (aB al).length 0 (nx.getD t []))=nx2 at *;generalize yI (t:Int) (t+1) 0 ac=ac2 at *;have hnl2:nx2.length<=4294967296:=om
 have hH:Has (rdO c q::.box [nI al,.sl 5 0 0 (t+1),.sl 6 0 0 (t+1)]::.box [nI al,.sl 5 0 0 (t+1),.sl 6 0 0 (t+1)]::.arr [] 0 0::.arr [] 0 0::.vec (aC 7 nx2++aG 0) 1 0::.arr (aD ac2) 1 0::aK nx2) 5 nx2 ac2:=by
  have:=NC (h:=[rdO c q,.box [nI al,.sl 5 0 0 (t+1),.sl 6 0 0 (t+1)],.box [nI al,.sl 5 0 0 (t+1),.sl 6 0 0 (t+1)],.arr [] 0 0,.arr [] 0 0]) (v:=5) (rs:=nx2) (ac:=ac2) (p:=[]) rfl
  simpa using this
 obtain⟨h2,st_out,st_keep,st_trim⟩:=NG (n:=t+1) (m:=t+1) (al:=al) hH om hl1.symm hl2.symm;simp only[autD]at st_out|-;clear he g3 g4 g5 hH;obtain _|n:=n;omega
 simp-implicitDefEqProofs (maxSteps:=9^7) (disch:=try exact Dz) only[↓DN,↓kAsg,↓kRet,UP,simprocAttr,g1,↓kd,↓loop_a,↓loop_b,cC,Al,HZ,GC,↓aR7,aMO,aGT,aD6,↓F3,rI,rR,↓st_out,↓st_keep,↓st_trim,z0As,z0A,eq_self,aKH,aDQ,Tryz.f122]
end Ev
end Go.Proofs.YthlkcebdfbjdoaaGreat
