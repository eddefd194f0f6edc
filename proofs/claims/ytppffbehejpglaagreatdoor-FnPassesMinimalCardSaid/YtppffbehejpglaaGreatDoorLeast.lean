/-
  Automata that are drawn: one state more.
-/
import Derived.Test.YtppffbehejpglaaGreatDoorChange
import Derived.Tactics
set_option linter.unusedSimpArgs false
set_option linter.unusedVariables false
set_option linter.unusedSectionVars false
set_option maxRecDepth 8000
set_option maxHeartbeats 4000000
namespace Go.Proofs.YtppffbehejpglaaGreatDoor
namespace Ev
theorem aMt{c:List UInt8}(hc:c.length<=2000)(al:Int)(nx:List (List Int))(ac:List Bool)(hs:aW nx)(ha:ac.length<=4294967290)(p:Int)(t:Nat)(ht:t<nx.length)(h12:nx.length<12)(hta:t<ac.length){row:List Int}(hrw:nx.getD t []=row)(hr0:0<row.length)(hrl:row.length<=4294967290){bt:Bool}(hbt:ac.getD t false=bt)
  (kd1:(Dw 1 30 [nI (nx.length)] (nI t) c p (p+1)))
  (kd2:(Dw 1 30 [nI 4] (nI 2) c (p+1) (p+1+1))):(Dw 4 29 [autD al nx ac] (autD al (nx.set t (row.set 0 nx.length)++[row]) (ac++[bt])) c p (p+1+1)):=by
 intro R L n hq k hn hL;refine b7 BU (by simp[autD,idsA,idsL]) (by simp[autD,idsA,idsL]) ?_;have hnl:=hs.1;have h1:1<=nx.length:=om;obtain⟨N,T1,T2,T3,w⟩:=lC (.box [nI al,.d (.ivs nx.length (aE nx)),.d (.ivs ac.length (aD ac))]) (.box [nI 0,.sl 2 0 0 0,.sl 3 0 0 0]) al nx ac;have kd3:=fun {R:Type} {n:Nat} {o1:O} {k:KA R} (hn:2<=n)=>nB (R:=R) (L:=L) (n:=n) (o1:=o1) (al:=al) (k:=k) w.h1 hs h1 om hn hL;obtain⟨hN,hT1,l1,h2,b2,h3,l3,t3,t4,t5,tr,tb,e3,wg⟩:=w;simp only[dV,idsL,idsA,Ac,Ae,Aq,Ax,Ag]at wg;clear e3;clear hT1;have hrow:nx[t]? =some row:=by rw[<-hrw,Aa,Ad ht];rfl
 have hd7:((aC 7 nx++aH 0).drop t).head? =some (.sl (t+7) 0 0 row.length):=by rw[kO ht,hrw]
 have hlv:(aC 7 nx++aH 0).length=nx.length:=by rw[Af,gA];rfl
 have htk:(aC 7 nx++aH 0).take nx.length=aC 7 nx:=IM rfl;have t3r:T3[t+6]? =some (.arr (ints row) 1 0):=tr _ _ hrow;obtain⟨T4,h4⟩:∃T,T3++[.arr [] 1 0]=T:=⟨_,rfl⟩
 obtain⟨l4,g4,k4⟩:=j3 h4;rw[l3]at l4 g4 k4;obtain⟨T5,h5⟩:∃T,T4.set (N+1+1+1) (.arr (ints row) 1 1)=T:=⟨_,rfl⟩
 obtain⟨l5,g5,k5⟩:=cF h5 om;obtain⟨T6,h6⟩:∃T,T5++[.vec [.sl (N+1+1+1+1) 1 0 row.length] 1 0]=T:=⟨_,rfl⟩
 obtain⟨l6,g6,k6⟩:=j3 h6;rw[l5,l4]at l6 g6 k6;obtain⟨T7,h7⟩:∃T,T6.set 4 (.vec (aC 7 nx++[.sl (N+1+1+1+1) 1 0 row.length]) 1 1)=T:=⟨_,rfl⟩
 obtain⟨l7,g7,k7⟩:=cF h7 om;obtain⟨T8,h8⟩:∃T,T7.set (N+1+1) (.box [nI al,.sl 5 1 0 (nx.length+1),.sl 6 0 0 ac.length])=T:=⟨_,rfl⟩
 obtain⟨l8,g8,k8⟩:=cF h8 om;obtain⟨T9,h9⟩:∃T,T8++[.arr [.bool bt] 1 0]=T:=⟨_,rfl⟩
 obtain⟨l9,g9,k9⟩:=j3 h9;rw[l8,l7,l6]at l9 g9 k9;obtain⟨T10,h10⟩:∃T,T9.set 5 (.arr (aD (ac++[bt])) 1 1)=T:=⟨_,rfl⟩
 obtain⟨l10,g10,k10⟩:=cF h10 om;obtain⟨T11,h11⟩:∃T,T10.set (N+1+1) (.box [nI al,.sl 5 1 0 (nx.length+1),.sl 6 1 0 (ac.length+1)])=T:=⟨_,rfl⟩
 obtain⟨l11,g11,k11⟩:=cF h11 om;obtain⟨T12,h12'⟩:∃T,T11.set (t+6) (.arr (ints (row.set 0 nx.length)) 1 0)=T:=⟨_,rfl⟩
 obtain⟨l12,g12,k12⟩:=cF h12' om;obtain⟨T13,h13⟩:∃T,T12.set 3 (.box [nI al,.sl 5 1 0 (nx.length+1),.sl 6 1 0 (ac.length+1)])=T:=⟨_,rfl⟩
 obtain⟨l13,g13,k13⟩:=cF h13 om;have w4:wgt T4=wgt T3:=by rw[<-h4,CX];simp[dV]
 have w5:wgt T5<=wgt T4:=by rw[<-h5];have:=jT (h:=T4) (i:=N+1+1+1) (o:=.arr (ints row) 1 1);simpa [dV]using this
 have w6:wgt T6=wgt T5+1:=by rw[<-h6,CX];simp[dV,idsL,idsA]
 have w7:wgt T7<=wgt T6+nx.length+1:=by
  rw[<-h7];have:=jT (h:=T6) (i:=4) (o:=.vec (aC 7 nx++[.sl (N+1+1+1+1) 1 0 row.length]) 1 1);simp only[dV,bN,bZ,idsL,idsA,Af,Ee,Ae,Ac]at this;omega
 have w8:wgt T8<=wgt T7+2:=by
  rw[<-h8];have:=jT (h:=T7) (i:=N+1+1) (o:=.box [nI al,.sl 5 1 0 (nx.length+1),.sl 6 0 0 ac.length])
  simpa [dV,idsL,idsA]using this
 have w9:wgt T9=wgt T8:=by rw[<-h9,CX];simp[dV]
 have w10:wgt T10<=wgt T9:=by rw[<-h10];have:=jT (h:=T9) (i:=5) (o:=.arr (aD (ac++[bt])) 1 1);simpa [dV]using this
 have t4b:T4[N+1+1]? =some (.box [nI al,.sl 5 0 0 nx.length,.sl 6 0 0 ac.length]):=by rw[k4 _ om,tb]
 have t44:T4[4]? =some (.vec (aC 7 nx++aH 0) 1 0):=by rw[k4 _ om,t4]
 have t4r:T4[t+6]? =some (.arr (ints row) 1 0):=by rw[k4 _ om,t3r]
 have t64:T6[4]? =some (.vec (aC 7 nx++aH 0) 1 0):=by rw[k6 _ om,k5 _ om,t44]
 have t6e:T6[N+1+1+1]? =some (.arr (ints row) 1 1):=by rw[k6 _ om,g5]
 have t7b:T7[N+1+1]? =some (.box [nI al,.sl 5 0 0 nx.length,.sl 6 0 0 ac.length]):=by rw[k7 _ om,k6 _ om,k5 _ om,t4b]
 have t85:T8[5]? =some (.arr (aD ac) 1 0):=by rw[k8 _ om,k7 _ om,k6 _ om,k5 _ om,k4 _ om,t5]
 have t9b:T9[N+1+1]? =some (.box [nI al,.sl 5 1 0 (nx.length+1),.sl 6 0 0 ac.length]):=by rw[k9 _ om,g8]
 have t95:T9[5]? =some (.arr (aD ac) 1 0):=by rw[k9 _ om,t85]
 have t10b:T10[N+1+1]? =some (.box [nI al,.sl 5 1 0 (nx.length+1),.sl 6 0 0 ac.length]):=by rw[k10 _ om,t9b]
 have t94:T9[4]? =some (.vec (aC 7 nx++[.sl (N+1+1+1+1) 1 0 row.length]) 1 1):=by rw[k9 _ om,k8 _ om,g7]
 have t114:T11[4]? =some (.vec (aC 7 nx++[.sl (N+1+1+1+1) 1 0 row.length]) 1 1):=by rw[k11 _ om,k10 _ om,t94]
 have tr9:∀(i:Nat) (r:List Int),nx[i]? =some r->T9[i+6]? =some (.arr (ints r) 1 0):=by
  intro i r hr;have hi:i<nx.length:=(Aw.1 hr).1;rw[k9 _ om,k8 _ om,k7 _ om,k6 _ om,k5 _ om,k4 _ om];exact tr i r hr
 have t11r:T11[t+6]? =some (.arr (ints row) 1 0):=by rw[k11 _ om,k10 _ om];exact tr9 _ _ hrow
 have t12b:T12[N+1+1]? =some (.box [nI al,.sl 5 1 0 (nx.length+1),.sl 6 1 0 (ac.length+1)]):=by rw[k12 _ om,g11]
 have t123:T12[3]? =some (.box [nI 0,.sl 2 0 0 0,.sl 3 0 0 0]):=by rw[k12 _ om,k11 _ om,k10 _ om,k9 _ om,k8 _ om,k7 _ om,k6 _ om,k5 _ om,k4 _ om,t3]
 have up:∀(T:H) (i:Nat) (o:O),T[i]? =some o->(rdO c (p+1+1)::T)[i+1]? =some o:=fun T i o h=>by rw[Ay];exact h
 have row6:∀i,i<nx.length->T6[i+6]? =some (.arr (ints (nx.getD i [])) 1 0):=by
  intro i hi;rw[k6 _ om,k5 _ om,k4 _ om];refine tr i _ ?_;rw[Aa,Ad hi];rfl
 have st_app1:∀ {call:aZ} {thaw:List Nat} {dst:Option Tmp} {args:Array Operand},memD env call thaw dst (.call ⟨.builtin .append,args,#[58,58]⟩) (rdO c (p+1+1)::T4) [.sl (N+1+1+1+1) 0 0 0,.sl (t+7) 0 0 row.length]=some (.sl (N+1+1+1+1) 1 0 row.length,rdO c (p+1+1)::T5,{ ids:=[N+1+1+1+1,t+7],ro:=false,wr:=[N+1+1+1+1]}):=by
  intro call thaw dst args;rw[M3 (e:=3) (e0:=1) (n2:=row.length) (len:=0) (cs:=[]) (src:=ints row) rfl OS kr (up T4 _ _ g4) (.inr rfl) (up T4 (t+6) _ t4r) (by simp[ints]) smp (by unfold bI;omega) om];rw[Bt,<-h5];simp
 have st_vec:∀ {call:aZ} {thaw:List Nat} {dst:Option Tmp} {x:Operand},Shut ((keeps thaw dst&& !logs thaw dst)=true)->memD env call thaw dst (.buildSlice 23 1 #[(0,x)]) (rdO c (p+1+1)::T5) [.sl (N+1+1+1+1) 1 0 row.length]=some (.sl (N+1+1+1+1+1) 0 0 1,rdO c (p+1+1)::T6,{ ids:=[N+1+1+1+1,N+1+1+1+1+1],ro:=false}):=by
  intro call thaw dst x hk;rw[aIB (e:=58) (cs:=ints row) (es:=1) hk.it rfl kr YX kr (up T5 _ _ g5)];rw[Ax,h6,Ae,l5,l4]
 have ok65:Okay (rdO c (p+1+1)::T6) 5:=UE (x:=aH 0) (up T6 4 _ t64) (fun j hj=>pI (up T6 (j+6) _ (row6 j hj))) (by intro q hq;simp[c8]at hq)
 have ok6e:Okay (rdO c (p+1+1)::T6) (N+1+1+1+1+1):=aK8 (up T6 _ _ g6) (by
  intro q hq;simp[idsL,idsA]at hq;subst hq;exact pI (up T6 _ _ t6e))
 obtain⟨o1,ho1⟩:∃o,o=aF aI (rdO c (p+1+1)::T6) [5,N+1+1+1+1+1] []:=⟨_,rfl⟩
 have st_app2:∀ {call:aZ} {thaw:List Nat} {dst:Option Tmp} {args:Array Operand},memD env call thaw dst (.call ⟨.builtin .append,args,#[23,23]⟩) (rdO c (p+1+1)::T6) [.sl 5 0 0 nx.length,.sl (N+1+1+1+1+1) 0 0 1]=some (.sl 5 1 0 (nx.length+1),rdO c (p+1+1)::T7,{ ids:=o1,ro:=false,wr:=[5]}):=by
  intro call thaw dst args;rw[YV (e:=58) rfl YX kr (id:=5) (id2:=N+1+1+1+1+1) (g:=0) (g2:=0) (len:=nx.length) (cs:=aC 7 nx++aH 0) (c:=.sl (N+1+1+1+1) 1 0 row.length) (up T6 4 _ t64) (up T6 _ _ g6) om (by unfold bI;omega) ok65 ok6e (by rw[mH];simp only[dV,idsL,idsA,Aq,Ac];omega),<-ho1,htk];rw[Bt,h7]
 have row7:∀i,i<nx.length->T7[i+6]? =some (.arr (ints (nx.getD i [])) 1 0):=fun i hi=>by rw[k7 _ om];exact row6 i hi
 have t7e:T7[N+1+1+1]? =some (.arr (ints row) 1 1):=by rw[k7 _ om,t6e]
 have ok75:Okay (rdO c (p+1+1)::T7) 5:=UE (up T7 4 _ g7) (fun j hj=>pI (up T7 (j+6) _ (row7 j hj))) (by
  intro q hq;simp[idsL,idsA]at hq;subst hq;exact pI (up T7 _ _ t7e))
 have ok7b:Okay (rdO c (p+1+1)::T7) (N+2+1):=aLo (up T7 _ _ t7b) (by
  intro q hq;simp[idsL,idsA]at hq
  rcases hq with rfl|rfl
  ·exact ok75
  ·exact pI (up T7 5 _ (by rw[k7 _ om,k6 _ om,k5 _ om,k4 _ om,t5])))
 obtain⟨o2,ho2⟩:∃o,o=aF aI (rdO c (p+1+1)::T7) [N+2+1,5] []:=⟨_,rfl⟩
 have st_sto:∀ {call:aZ} {thaw:List Nat} {dst:Option Tmp} {x y:Operand},memD env call thaw dst (.store 23 x y) (rdO c (p+1+1)::T7) [.ptr (N+2+1) 0 1,.sl 5 1 0 (nx.length+1)]=some (.d .undef,rdO c (p+1+1)::T8,{ ids:=o2,ro:=false,wr:=o2}):=by
  intro call thaw dst x y;rw[xG kr kr (h:=rdO c (p+1+1)::T7) (id:=N+2+1) (id2:=5) (off:=1) (cs:=[nI al,.sl 5 0 0 nx.length,.sl 6 0 0 ac.length]) (up T7 _ _ t7b) smp ok7b ok75 (by rw[mH];simp only[dV,idsL,idsA,Aq,Ac];omega),<-ho2];rw[Bt];unfold bK;rw[<-h8];rfl
 have hbh:(((aD ac).drop t).map A.d).head? =some (.d (.bool bt)):=by rw[H7 hta,hbt]
 have st_app3:∀ {call:aZ} {thaw:List Nat} {dst:Option Tmp} {args:Array Operand},memD env call thaw dst (.call ⟨.builtin .append,args,#[24,24]⟩) (rdO c (p+1+1)::T9) [.sl 6 0 0 ac.length,.sl (N+1+1+1+1+1+1) 0 0 1]=some (.sl 6 1 0 (ac.length+1),rdO c (p+1+1)::T10,{ ids:=[6,N+1+1+1+1+1+1],ro:=false,wr:=[6]}):=by
  intro call thaw dst args;rw[M3 (e:=4) (e0:=1) (n2:=1) (len:=ac.length) (cs:=aD ac) (src:=[.bool bt]) rfl aNJ kr (up T9 5 _ t95) (.inr rfl) (up T9 _ _ g9) rfl (by rw[cU];omega) (by unfold bI;omega) om];rw[Bt,iJ (Ab _),xD,h10]
 have row10:∀i,i<nx.length->T10[i+6]? =some (.arr (ints (nx.getD i [])) 1 0):=fun i hi=>by
  rw[k10 _ om,k9 _ om,k8 _ om];exact row7 i hi
 have ok105:Okay (rdO c (p+1+1)::T10) 5:=UE (up T10 4 _ (by rw[k10 _ om,t94])) (fun j hj=>pI (up T10 (j+6) _ (row10 j hj))) (by
  intro q hq;simp[idsL,idsA]at hq;subst hq;exact pI (up T10 _ _ (by rw[k10 _ om,k9 _ om,k8 _ om,t7e])))
 have ok106:Okay (rdO c (p+1+1)::T10) 6:=pI (up T10 5 _ g10)
 have ok10b:Okay (rdO c (p+1+1)::T10) (N+2+1):=aLo (up T10 _ _ t10b) (by
  intro q hq;simp[idsL,idsA]at hq
  rcases hq with rfl|rfl
  ·exact ok105
  ·exact ok106)
 obtain⟨o3,ho3⟩:∃o,o=aF aI (rdO c (p+1+1)::T10) [N+2+1,6] []:=⟨_,rfl⟩
 have st_sto2:∀ {call:aZ} {thaw:List Nat} {dst:Option Tmp} {x y:Operand},memD env call thaw dst (.store 24 x y) (rdO c (p+1+1)::T10) [.ptr (N+2+1) 0 2,.sl 6 1 0 (ac.length+1)]=some (.d .undef,rdO c (p+1+1)::T11,{ ids:=o3,ro:=false,wr:=o3}):=by
  intro call thaw dst x y;rw[xG kr kr (h:=rdO c (p+1+1)::T10) (id:=N+2+1) (id2:=6) (off:=2) (cs:=[nI al,.sl 5 1 0 (nx.length+1),.sl 6 0 0 ac.length]) (up T10 _ _ t10b) smp ok10b ok106 (by rw[mH];simp only[dV,idsL,idsA,Aq,Ac];omega),<-ho3];rw[Bt];unfold bK;rw[<-h11];rfl
 have hcl1:∀(ops:List Oper) (w:List Nat),w=[N+1+1+1+1]->pR [(1,2),(2,4),(2,6),(2,7),(1,8),(1,9)] ops [{},{ ids:=[N+2+1],ro:=true},{ ids:=[N+1+1+1+1],ro:=false},{},{ ids:=[N+2+1],ro:=true},{},{ ids:=[5],ro:=true},{ ids:=[5],ro:=true},{ ids:=[N+1+1+1+1,t+7],ro:=false,wr:=[N+1+1+1+1]},{ ids:=[N+1+1+1+1,N+1+1+1+1+1],ro:=false},{ ids:=o1,ro:=false,wr:=[5]},{},{ ids:=o2,ro:=false}]=true->eE ops (([]:List Foot)++[({}:Foot)]++[({ ids:=idsA (A.ptr (N+2+1) 0 1)}:Foot)]++[({ ids:=[N+1+1+1+1],ro:=false,wr:=w}:Foot)]++[({}:Foot)]++[({ ids:=idsA (A.ptr (N+2+1) 0 1)}:Foot)]++[({}:Foot)]++[({ ids:=idsA (A.sl 5 0 0 nx.length)}:Foot)]++[({ ids:=idsA (A.ptr 5 0 t)}:Foot)]++[({ ids:=[N+1+1+1+1,t+7],ro:=false,wr:=[N+1+1+1+1]}:Foot)]++[({ ids:=[N+1+1+1+1,N+1+1+1+1+1],ro:=false}:Foot)]++[({ ids:=o1,ro:=false,wr:=[5]}:Foot)]++[({}:Foot)]++[({ ids:=o2,ro:=false}:Foot)])=true:=by
  intro ops w hw hm;subst hw
  have key:eE ops [{},{ ids:=[N+2+1],ro:=true},{ ids:=[N+1+1+1+1],ro:=false},{},{ ids:=[N+2+1],ro:=true},{},{ ids:=[5],ro:=true},{ ids:=[5],ro:=true},{ ids:=[N+1+1+1+1,t+7],ro:=false,wr:=[N+1+1+1+1]},{ ids:=[N+1+1+1+1,N+1+1+1+1+1],ro:=false},{ ids:=o1,ro:=false,wr:=[5]},{},{ ids:=o2,ro:=false}]=true:=by
   refine AM _ hm ?_;intro q hq;simp only[Au,Bv,or_false]at hq
   rcases hq with rfl|rfl|rfl|rfl|rfl|rfl<;>simp[kU]<;>omega
  exact key
 have hcl2:∀(ops:List Oper) (w:List Nat),w=[N+1+1+1+1+1+1]->pR [(1,7)] ops [{},{ ids:=[N+2+1],ro:=true},{},{ ids:=[N+2+1],ro:=true},{},{ ids:=[6],ro:=true},{ ids:=[6],ro:=true},{ ids:=[N+1+1+1+1+1+1],ro:=false},{ ids:=[6,N+1+1+1+1+1+1],ro:=false,wr:=[6]},{},{ ids:=o3,ro:=false}]=true->eE ops (([]:List Foot)++[({}:Foot)]++[({ ids:=idsA (A.ptr (N+2+1) 0 2)}:Foot)]++[({}:Foot)]++[({ ids:=idsA (A.ptr (N+2+1) 0 2)}:Foot)]++[({}:Foot)]++[({ ids:=idsA (A.sl 6 0 0 ac.length)}:Foot)]++[({ ids:=idsA (A.ptr 6 0 t)}:Foot)]++[({ ids:=[N+1+1+1+1+1+1],ro:=false,wr:=w}:Foot)]++[({ ids:=[6,N+1+1+1+1+1+1],ro:=false,wr:=[6]}:Foot)]++[({}:Foot)]++[({ ids:=o3,ro:=false}:Foot)])=true:=by
  intro ops w hw hm;subst hw
  have key:eE ops [{},{ ids:=[N+2+1],ro:=true},{},{ ids:=[N+2+1],ro:=true},{},{ ids:=[6],ro:=true},{ ids:=[6],ro:=true},{ ids:=[N+1+1+1+1+1+1],ro:=false},{ ids:=[6,N+1+1+1+1+1+1],ro:=false,wr:=[6]},{},{ ids:=o3,ro:=false}]=true:=by
   refine AM _ hm ?_;intro q hq;simp only[Au,Bv,or_false]at hq
   rcases hq with rfl<;>simp[kU]<;>omega
  exact key
 have hlen:(nx.set t (row.set 0 nx.length)++[row]).length=nx.length+1:=smp;have hlen2:(ac++[bt]).length=ac.length+1:=smp;have hrefs:aC 7 (nx.set t (row.set 0 nx.length))=aC 7 nx:=FJ (by rw[hrw];simp)
 have hv:rd1 (rdO c (p+1+1)::T13) (.sl 5 1 0 (nx.length+1))=some (.ivs (nx.set t (row.set 0 nx.length)++[row]).length (aE (nx.set t (row.set 0 nx.length)++[row]))):=by
  refine y9 (cs:=aC 7 (nx.set t (row.set 0 nx.length))++[.sl (N+1+1+1+1) 1 0 row.length]) ?_ ?_ hlen.symm
  ·rw[hrefs];exact up T13 4 _ (by rw[k13 _ om,k12 _ om,t114])
  ·refine aMK (fun i r hr=> ?_) (up T13 _ _ (by rw[k13 _ om,k12 _ om,k11 _ om,k10 _ om,k9 _ om,k8 _ om,t7e]));refine up T13 (i+6) _ ?_;rw[Cp]at hr
   by_cases e:t=i
   ·subst e;rw[if_pos rfl,if_pos ht]at hr;cases hr;rw[k13 _ om];exact g12
   ·rw[if_neg e]at hr;have hi:i<nx.length:=(Aw.1 hr).1;rw[k13 _ om,k12 _ om,k11 _ om,k10 _ om];exact tr9 i r hr
 have hw:rd1 (rdO c (p+1+1)::T13) (.sl 6 1 0 (ac.length+1))=some (.ivs (ac++[bt]).length (aD (ac++[bt]))):=
  pL (up T13 5 _ (by rw[k13 _ om,k12 _ om,k11 _ om,g10])) hlen2.symm
 obtain⟨h2',st_out,st_keep,st_trim⟩:=tC (al:=al) hv hw om om;unfold autD at st_out|-;rw[hlen,hlen2]at st_out|-;have hd7x:((aC 7 nx++[A.sl (N+1+1+1+1) 1 0 row.length]).drop t).head? =some (.sl (t+7) 0 0 row.length):=by rw[aN2 ht,hrw]
 have hput:∀v:Int,(ints row).drop 1=ints (row.drop 1):=fun v=>by simp[ints]
 have hset0:D.int .i64 (nx.length:Int)::List.drop 1 (ints row)=ints (row.set 0 nx.length):=by
  cases row with
  |nil=>simp at hr0
  |cons x xs=>simp[ints]
 have hti:(t:Int)<nx.length:=om;have hti1:(t:Int)<(nx.length:Int)+1:=om;have ht0:(0:Int)<=t:=om;have hn0:¬((nx.length:Int)=0):=om;have hn12:(nx.length:Int)<12:=om;have hta':(t:Int)<ac.length:=om;have hr0':(0:Int)<row.length:=om;have hr1:1<=(ints row).length:=by simp[ints];omega
 have l8':T8.length=N+1+1+1+1+1:=om;clear hv hw k4 k5 k6 k7 k8 k9 k10 k11 k12 k13 tr tr9 h1 l4 l5 l6 l7 l8 l9 l10 l11 l12 l13 wg w4 w5 w6 w7 w8 w9 w10 hrow ok65 ok6e ok75 ok7b ok105 ok106 ok10b row6 row7 row10 ho1 ho2 ho3 up hlv htk hrefs hput;obtain _|n:=n;omega
 simp-implicitDefEqProofs (maxSteps:=9^7) (disch:=first|assumption|(refine Shut.mk ?_;exact hcl1 _ _ kr kr)|(refine Shut.mk ?_;exact hcl2 _ _ kr kr)|(refine Shut.mk ?_;kernel_rfl)|omega|(simp only[GT];done)|(simp only[LN]<;>omega)|fail) only[↓DN,↓kRet,UP,simprocAttr,↓kd1,↓kd2,↓kd3,l1,h2,b2,h3,l3,t4,tb,hti,ht0,hn0,hn12,hta',hr0',hd7,h4,t4b,t44,↓st_app1,↓st_vec,↓st_app2,↓st_sto,g8,t85,l8',hbh,h9,↓st_app3,↓st_sto2,g11,t114,hd7x,t11r,hset0,h12',t12b,t123,h13,g13,↓st_out,↓st_keep,↓st_trim,Bj,Ao,eT,eS,Tryz.f29]
theorem aCO{c:List UInt8}(hc:c.length<=2000){B:Nat}(hB:B<=4294966000)(al:Int)(nx:List (List Int))(ac:List Bool)(hb:AutB B nx ac)(h1:1<=nx.length)(p:Int)(hp:0<=p)(hp2:p<=890000000):
  ∃(nx2:List (List Int)) (ac2:List Bool) (q:Int),AutB (B+1) nx2 ac2/\1<=nx2.length/\p<=q/\q<=p+4/\(Dw 4 29 [autD al nx ac] (autD al nx2 ac2) c p q):=by
 have hs:=hb.short om;have hn:=hb.n;have hba:=hb.a;obtain⟨k,k0,k1,_,kd1⟩:=eC hc p nx.length hp om;obtain⟨u,u0,u1,_,kd2⟩:=eC hc (p+1) 4 om om;have k1:=k1 om;obtain⟨t,rfl⟩:∃t:Nat,k=t:=⟨k.toNat,by omega⟩
 have ht:t<nx.length:=om;have hrt:=hb.at t;have same:=fun hcase=>aKM hc al nx ac hs h1 om p u t ht hcase kd1 kd2
 by_cases hu0:u=0
 ·by_cases hta:t<ac.length
  ·subst hu0;refine⟨nx,_,_,⟨by omega,by rw[Bs];omega,fun r hr=> ?_⟩,h1,by omega,by omega,aNV hc al nx ac hs h1 om p t hta kd1 kd2⟩;have:=hb.r r hr;omega
  ·exact⟨nx,ac,_,hb.mono om,h1,by omega,by omega,same (.inl ⟨hu0,by omega⟩)⟩
 by_cases hu1:u=1
 ·by_cases h0:(nx.getD t []).length=0
  ·exact⟨nx,ac,_,hb.mono om,h1,by omega,by omega,same (.inr (.inl ⟨hu1,h0⟩))⟩
  ·subst hu1;obtain⟨v,v0,v1,_,kd4⟩:=eC hc (p+1+1) (nx.getD t []).length om om;have v1:=v1 om;obtain⟨j,rfl⟩:∃j:Nat,v=j:=⟨v.toNat,by omega⟩
   obtain⟨w,w0,w1,_,kd5⟩:=eC hc (p+1+1+1) nx.length om om;refine⟨_,ac,_,⟨by rw[Bs];omega,by omega,fun r hr=> ?_⟩,by rw[Bs];exact h1,by omega,by omega,aLI hc al nx ac hs h1 om p w t j ht om kd1 kd2 kd4 kd5⟩
   rcases Dy hr with h|h
   ·have:=hb.r r h;omega
   ·rw[h,Bs];omega
 by_cases hu2:u=2
 ·by_cases h3:nx.length<12/\t<ac.length/\0<(nx.getD t []).length
  ·subst hu2;refine⟨_,_,_,⟨?_,?_,fun r hr=> ?_⟩,?_,by omega,by omega,aMt hc al nx ac hs om p t ht h3.1 h3.2.1 rfl h3.2.2 om rfl kd1 kd2⟩
   ·rw[Af,Bs,Ae,Ac];omega
   ·rw[Af,Ae,Ac];omega
   ·rcases Ak.1 hr with h|h
    ·rcases Dy h with h|h
     ·have:=hb.r r h;omega
     ·rw[h,Bs];omega
    ·simp only[Bf]at h;rw[h];omega
   ·rw[Af,Bs,Ae,Ac];omega
  ·exact⟨nx,ac,_,hb.mono om,h1,by omega,by omega,same (.inr (.inr (.inl ⟨hu2,by omega⟩)))⟩
 exact⟨nx,ac,_,hb.mono om,h1,by omega,by omega,same (.inr (.inr (.inr ⟨hu0,hu1,hu2⟩)))⟩
theorem x3{R:Type}{L n:Nat}{hq:H}{al:Int}{k:KA R}(hn:2<=n)(hL:2^60<=L):aX env (aA env L n) hq 60 [.agg [nI al,.d (.ivs 0 []),.d (.ivs 0 [])]] k=k (.agg [nI al,.sl hq.length 0 0 0,.sl (hq.length+1) 0 0 0]) (hq++[.arr [] 0 0,.arr [] 1 0]):=by
 have he:aA env L n 60 [.agg [nI al,.d (.ivs 0 []),.d (.ivs 0 [])]] []=some (.agg [nI al,.sl 0 0 0 0,.sl 1 0 0 0],[.arr [] 0 0,.arr [] 1 0]):=N6 hn al [] smp hL
 have hcall:bY (aA env L n) env.hint [] 60 [.agg [nI al,.d (.ivs 0 []),.d (.ivs 0 [])]]=some (.agg [nI al,.sl 0 0 0 0,.sl 1 0 0 0],[.arr [] 0 0,.arr [] 1 0]):=by
  have hf:d8 [] [.agg [nI al,.d (.ivs 0 []),.d (.ivs 0 [])]]=some ([.agg [nI al,.d (.ivs 0 []),.d (.ivs 0 [])]],[]):=rfl;unfold bY;rw[rA];simp only[hf,he]<;>rfl
 have hids:idsL [A.agg [nI al,.d (.ivs 0 []),.d (.ivs 0 [])]]=[]:=rfl;unfold aX;rw[hids,AB,fU _ hids];have hp:pack hq []=[]:=rfl;rw[hp,hcall];simp only[Ac,Nat.zero_le,true_and,closed,Cd,Bq,if_true,bJ];simp[mapA,aG,back,mapO]
theorem aN4{R:Type}{L n m:Nat}{y1 y2:D}{al:Int}{k:KE R}:aT env (aA env L n) L 1 (W32 (W32 (W16 (W2 (W1 [1002,0,0,0,0,0,0,0,0,0,0,0,0,0,0,0,0,0,0,0,0,0,1002]))))) Bz22 (AD 0) Bz44 (m+1) (Y4 (.ptr 1 0 0::.ptr 2 0 0::nI 0::Y32 (Y32 (Y32 (Y8 (Y2 (Y1 ([])))))))) [.box [.d y1,.d y2],.box [nI 0,.sl 3 0 0 0,.sl 4 0 0 0],.box [nI al,.sl 5 0 0 0,.sl 6 0 0 0],.arr [] 0 0,.arr [] 0 0,.arr [] 0 0,.arr [] 1 0] k
  =k (.exit 1) (Y4 (.ptr 1 0 0::.ptr 2 0 0::nI 0::Y32 (Y32 (Y32 (Y8 (Y2 (Y1 ([])))))))) [.box [.d y1,.d y2],.box [nI 0,.sl 3 0 0 0,.sl 4 0 0 0],.box [nI al,.sl 5 0 0 0,.sl 6 0 0 0],.arr [] 0 0,.arr [] 0 0,.arr [] 0 0,.arr [] 1 0]:=by
 simp-implicitDefEqProofs (maxSteps:=9^7) (disch:=try exact Dz) only[↓DN,↓kRet,UP,simprocAttr,Ah,yF,xU,Tryz.f57]
theorem aS3{c:List UInt8}(hc:c.length<=2000)(al p:Int)(hp:0<=p)(hp2:p<=890000000):∃(al2:Int) (ac2:List Bool) (q:Int),ac2.length<=1/\p<=q/\q<=p+4/\(Dw 4 57 [autD al [] []] (autD al2 [] ac2) c p q):=by
 obtain⟨k,k0,_,k1,kd1⟩:=eC hc p 0 hp om;obtain rfl:k=0:=k1 om;obtain⟨u,u0,u1,_,kd2⟩:=eC hc (p+1) 30 om om;have e0:aE []=[]:=rfl;have e1:aD []=[]:=rfl;have loop_a:=fun {R:Type} {n:Nat} {y1 y2:D} {al:Int} {k:KE R} {L:Nat} (hL:2^60<=L)=>(show L-1+1=L by omega)▸aN4 (R:=R) (L:=L) (n:=n) (m:=L-1) (y1:=y1) (y2:=y2) (al:=al) (k:=k)
 by_cases h0:u=0
 ·subst h0;obtain⟨al2,_,kd4⟩:=AP hc [64,-1,1,63,0] smp smp (p+1+1) om om;simp only[ints,Aj,As,Ae,Ac,Ag,Nat.reduceAdd]at kd4;refine⟨al2,[],p+1+1+1,by simp,by omega,by omega,fun R L n hq k hn hL=>b7 jZ (by simp[autD,idsA,idsL]) (by simp[autD,idsA,idsL]) ?_⟩;simp only[autD,e0,e1,Ac];obtain _|n:=n;omega
  simp-implicitDefEqProofs (maxSteps:=9^7) (disch:=try exact Dz) only[↓DN,↓kRet,UP,simprocAttr,↓kd1,↓kd2,↓x3,↓kd4,cV,c9,Tryz.f57]
 by_cases h1:u=1
 ·subst h1;have e2:aD [true]=[.bool true]:=rfl;refine⟨al,[true],p+1+1,by simp,by omega,by omega,fun R L n hq k hn hL=>b7 jZ (by simp[autD,idsA,idsL]) (by simp[autD,idsA,idsL]) ?_⟩;simp only[autD,e0,e1,e2,Ac,Ae];obtain _|n:=n;omega
  simp-implicitDefEqProofs (maxSteps:=9^7) (disch:=try exact Dz) only[↓DN,↓kRet,UP,simprocAttr,↓kd1,↓kd2,↓x3,cV,c9,Tryz.f57]
 refine⟨al,[],p+1+1,by simp,by omega,by omega,fun R L n hq k hn hL=>b7 jZ (by simp[autD,idsA,idsL]) (by simp[autD,idsA,idsL]) ?_⟩;simp only[autD,e0,e1,Ac];have loop_b:=fun {R:Type} {n:Nat} {y1 y2:D} {al:Int} {k:KE R}=>loop_a (R:=R) (n:=n) (y1:=y1) (y2:=y2) (al:=al) (k:=k) hL
 by_cases h2:u=2
 ·subst h2;obtain _|n:=n;omega
  simp-implicitDefEqProofs (maxSteps:=9^7) (disch:=try exact Dz) only[↓DN,↓kRet,UP,simprocAttr,↓kd1,↓kd2,↓x3,Ah,cV,c9,Tryz.f57]
 by_cases h3:u=3
 ·subst h3;obtain _|n:=n;omega
  simp-implicitDefEqProofs (maxSteps:=9^7) (disch:=try exact Dz) only[↓DN,↓kRet,UP,simprocAttr,↓kd1,↓kd2,↓x3,Ah,cV,c9,Tryz.f57]
 by_cases h4:u=4
 ·subst h4;obtain _|n:=n;omega
  simp-implicitDefEqProofs (maxSteps:=9^7) (disch:=try exact Dz) only[↓DN,↓kRet,UP,simprocAttr,↓kd1,↓kd2,↓x3,cV,c9,Tryz.f57]
 by_cases h5:u=5
 ·subst h5;obtain _|n:=n;omega
  simp-implicitDefEqProofs (maxSteps:=9^7) (disch:=try exact Dz) only[↓DN,↓kRet,UP,simprocAttr,↓kd1,↓kd2,↓x3,↓loop_b,cV,c9,Tryz.f57]
 obtain _|n:=n;omega
 simp-implicitDefEqProofs (maxSteps:=9^7) (disch:=try exact Dz) only[↓DN,↓kRet,UP,simprocAttr,↓kd1,↓kd2,↓x3,h0,h1,h2,h3,h4,h5,cV,c9,Tryz.f57]
theorem aRD{c:List UInt8}(hc:c.length<=2000){B:Nat}(hB:B<=4294966000)(al:Int)(nx:List (List Int))(ac:List Bool)(hb:AutB B nx ac)(h1:1<=nx.length\/nx=[]/\ac=[])(p:Int)(hp:0<=p)(hp2:p<=890000000):
  ∃(al2:Int) (nx2:List (List Int)) (ac2:List Bool) (q:Int),AutB (B+13) nx2 ac2/\p<=q/\q<=p+4/\(Dw 4 57 [autD al nx ac] (autD al2 nx2 ac2) c p q):=by
 rcases h1 with h1|⟨rfl,rfl⟩
 ·exact aQf hc hB al nx ac hb h1 p hp hp2
 ·obtain⟨al2,ac2,q,a,b,d,e⟩:=aS3 hc al p hp hp2;exact⟨al2,[],ac2,q,⟨by simp,by omega,by simp⟩,b,d,e⟩
theorem O4:(env.hint 28).mode=0:=kr
theorem aPV:(env.hint 33).mode=0:=kr
theorem EH{c:List UInt8}(hc:c.length<=2000)(p:Int)(hp:0<=p)(hp2:p<=900000000):∃x:Int,-1<=x/\x<=3/\(Dw 3 33 [] (nI x) c p (p+1)):=by
 obtain⟨x,hx,kd⟩:=AP hc [0,1,0,2,0,1,-1,3] smp smp p hp om;simp only[ints,Aj,As,Ae,Ac,Ag,Nat.reduceAdd]at kd;simp at hx;refine⟨x,by omega,by omega,fun R L n hq k hn hL=>b7 aPV rfl rfl ?_⟩;obtain _|n:=n;omega
 simp-implicitDefEqProofs (maxSteps:=9^7) (disch:=try exact Dz) only[↓DN,↓kAsg,↓kRet,UP,simprocAttr,↓kd,aKP,aA6,Tryz.f33]
theorem aPX{c:List UInt8}(hc:c.length<=2000)(p:Int)(hp:0<=p)(hp2:p<=700000000):
  ∃(al:Int) (nx:List (List Int)) (ac:List Bool) (q:Int),AutB 45 nx ac/\p<=q/\q<=p+200/\(Dw 16 28 [] (autD al nx ac) c p q):=by
 obtain⟨al,nx,ac,q,g1,g2,g3,g4,g5,g6,kd1⟩:=aKb hc p om om;have b0:AutB 12 nx ac:=⟨by omega,by omega,fun r hr=>by have:=g4 r hr;have:=bO al;omega⟩
 obtain⟨u,u0,u1,_,kd2⟩:=eC hc q 3 om om
 obtain⟨nx1,ac1,q1,b1,n1,r1,r2,kd3,no3⟩:∃(nx1:List (List Int)) (ac1:List Bool) (q1:Int),AutB 13 nx1 ac1/\1<=nx1.length/\q+1<=q1/\q1<=q+5/\(u=0->(Dw 4 29 [autD al nx ac] (autD al nx1 ac1) c (q+1) q1))/\(¬u=0->nx1=nx/\ac1=ac/\q1=q+1):=by
  by_cases hu:u=0
  ·obtain⟨nx1,ac1,q1,b1,n1,r1,r2,kd⟩:=aCO hc (B:=12) om al nx ac b0 g1 (q+1) om om;exact⟨nx1,ac1,q1,b1,n1,r1,by omega,fun _=>kd,fun h=>absurd hu h⟩
  ·exact⟨nx,ac,q+1,b0.mono om,g1,by omega,by omega,fun h=>absurd h hu,fun _=>⟨rfl,rfl,rfl⟩⟩
 obtain⟨w,w0,w1,_,kd4⟩:=eC hc q1 24 om om;clear g4 b0;unfold autD at kd1 kd3|-
 by_cases hw0:w=0
 ·subst hw0;obtain⟨al2,nx2,ac2,q2,b2,e2,s1,s2,kd5⟩:=aJd hc (B:=13) om al nx1 ac1 b1 n1 (q1+1) om om;obtain⟨al3,nx3,ac3,q3,b3,s3,s4,kd6⟩:=aRD hc (B:=26) om al2 nx2 ac2 b2 e2 q2 om om;refine⟨al3,nx3,ac3,q3,b3.mono om,by omega,by omega,fun R L n hq k hn hL=>b7 O4 (by simp[idsL]) (by simp[idsA,idsL]) ?_⟩;unfold autD at kd5 kd6;clear b1 b2 b3 e2
  by_cases hu:u=0
  ·have kd3:=kd3 hu;subst hu;clear no3;obtain _|n:=n;omega
   simp-implicitDefEqProofs (maxSteps:=9^7) (disch:=try exact Dz) only[↓DN,↓kRet,UP,simprocAttr,↓kd1,↓kd2,↓kd3,↓kd4,↓kd5,↓kd6,jY,jP,Tryz.f28]
  ·obtain⟨rfl,rfl,rfl⟩:=no3 hu;clear kd3;obtain _|n:=n;omega
   simp-implicitDefEqProofs (maxSteps:=9^7) (disch:=try exact Dz) only[↓DN,↓kRet,UP,simprocAttr,↓kd1,↓kd2,hu,↓kd4,↓kd5,↓kd6,jY,jP,Tryz.f28]
 by_cases hw1:w=1
 ·subst hw1;obtain⟨nx2,ac2,q2,e1,e2,e3,e4,e5,kd5⟩:=aUa hc (q1+1) om om;refine⟨3,nx2,ac2,q2,⟨by omega,by omega,fun r hr=>by have:=e3 r hr;have:=bO 3;omega⟩,by omega,by omega,fun R L n hq k hn hL=>b7 O4 (by simp[idsL]) (by simp[idsA,idsL]) ?_⟩;unfold autD at kd5;clear b1 e3
  by_cases hu:u=0
  ·have kd3:=kd3 hu;subst hu;clear no3;obtain _|n:=n;omega
   simp-implicitDefEqProofs (maxSteps:=9^7) (disch:=try exact Dz) only[↓DN,↓kRet,UP,simprocAttr,↓kd1,↓kd2,↓kd3,↓kd4,↓kd5,jY,jP,Tryz.f28]
  ·obtain⟨rfl,rfl,rfl⟩:=no3 hu;clear kd3;obtain _|n:=n;omega
   simp-implicitDefEqProofs (maxSteps:=9^7) (disch:=try exact Dz) only[↓DN,↓kRet,UP,simprocAttr,↓kd1,↓kd2,hu,↓kd4,↓kd5,jY,jP,Tryz.f28]
 by_cases hw2:w=2
 ·subst hw2;obtain⟨nx2,ac2,q2,e1,e2,e3,e4,e5,he⟩:=GE hc 63 5 (s:=5) rfl om om (q1+1) om om;have kd5:=fun {R:Type} {L n:Nat} {hq:H} {k:KA R} (hn:3<=n) (hL:2^60<=L)=>QB (R:=R) (L:=L) (n:=n) (hq:=hq) (k:=k) hn hL he;simp only[autA,autO]at kd5;refine⟨63,nx2,ac2,q2,⟨by omega,by omega,fun r hr=>by have:=e3 r hr;have:=bO 63;omega⟩,by omega,by omega,fun R L n hq k hn hL=>b7 O4 (by simp[idsL]) (by simp[idsA,idsL]) ?_⟩
  have hH:Has (rdO c q2::.arr [] 0 0::.arr [] 0 0::.box [nI 63,.sl 7 0 0 nx2.length,.sl 8 0 0 ac2.length]::.arr [] 0 0::.arr [] 0 0::.box [nI 63,.sl 7 0 0 nx2.length,.sl 8 0 0 ac2.length]::.vec (aC 9 nx2++aH 0) 1 0::.arr (aD ac2) 1 0::aK nx2) 7 nx2 ac2:=by
   have:=Q1 (h:=[rdO c q2,.arr [] 0 0,.arr [] 0 0,.box [nI 63,.sl 7 0 0 nx2.length,.sl 8 0 0 ac2.length],.arr [] 0 0,.arr [] 0 0,.box [nI 63,.sl 7 0 0 nx2.length,.sl 8 0 0 ac2.length]]) (v:=7) (rs:=nx2) (ac:=ac2) (p:=[]) rfl
   simpa using this
  obtain⟨h2,st_out,st_keep,st_trim⟩:=RP (n:=nx2.length) (m:=ac2.length) (al:=63) hH om rfl rfl;unfold autD at st_out;clear b1 e3 he hH
  by_cases hu:u=0
  ·have kd3:=kd3 hu;subst hu;clear no3;obtain _|n:=n;omega
   simp-implicitDefEqProofs (maxSteps:=9^7) (disch:=try exact Dz) only[↓DN,↓kRet,UP,simprocAttr,↓kd1,↓kd2,↓kd3,↓kd4,↓kd5,↓st_out,↓st_keep,↓st_trim,jY,jP,Tryz.f28]
  ·obtain⟨rfl,rfl,rfl⟩:=no3 hu;clear kd3;obtain _|n:=n;omega
   simp-implicitDefEqProofs (maxSteps:=9^7) (disch:=try exact Dz) only[↓DN,↓kRet,UP,simprocAttr,↓kd1,↓kd2,hu,↓kd4,↓kd5,↓st_out,↓st_keep,↓st_trim,jY,jP,Tryz.f28]
 ·refine⟨al,nx1,ac1,q1+1,b1.mono om,by omega,by omega,fun R L n hq k hn hL=>b7 O4 (by simp[idsL]) (by simp[idsA,idsL]) ?_⟩;clear b1
  by_cases hu:u=0
  ·have kd3:=kd3 hu;subst hu;clear no3;obtain _|n:=n;omega
   simp-implicitDefEqProofs (maxSteps:=9^7) (disch:=try exact Dz) only[↓DN,↓kRet,UP,simprocAttr,↓kd1,↓kd2,↓kd3,↓kd4,hw0,hw1,hw2,jY,jP,Tryz.f28]
  ·obtain⟨rfl,rfl,rfl⟩:=no3 hu;clear kd3;obtain _|n:=n;omega
   simp-implicitDefEqProofs (maxSteps:=9^7) (disch:=try exact Dz) only[↓DN,↓kRet,UP,simprocAttr,↓kd1,↓kd2,hu,↓kd4,hw0,hw1,hw2,jY,jP,Tryz.f28]
section
def rZ:List Int->List Int->Prop
 |a::x,b::y=>a<b\/a=b/\rZ x y
 |_,_=>False
def slt(x y:List Int):Prop:=x.length<y.length\/x.length=y.length/\rZ x y
theorem aIF:∀x:List Int,¬rZ x x
 | [],h=>h
 |a::x,h=>by
  rcases h with h|⟨_,h⟩
  ·omega
  ·exact aIF x h
theorem aCA:∀ {x y z:List Int},rZ x y->rZ y z->rZ x z
 | [],_,_,h,_=>h.elim
 |_::_,[],_,h,_=>h.elim
 |_::_,_::_,[],_,h=>h.elim
 |a::x,b::y,c::z,h,k=>by
  rcases h with h|⟨rfl,h⟩
  ·rcases k with k|⟨rfl,k⟩
   ·exact .inl om
   ·exact .inl h
  ·rcases k with k|⟨rfl,k⟩
   ·exact .inl k
   ·exact .inr ⟨rfl,aCA h k⟩
theorem aJL:∀ {x y:List Int},x.length=y.length->x=y\/rZ x y\/rZ y x
 | [],[],_=>.inl rfl
 | [],_::_,h=>by simp at h
 |_::_,[],h=>by simp at h
 |a::x,b::y,h=>by
  rcases Int.lt_trichotomy a b with h1|h1|h1
  ·exact .inr (.inl (.inl h1))
  ·subst h1
   rcases aJL (x:=x) (y:=y) (by simpa using h)with h2|h2|h2
   ·exact .inl (by rw[h2])
   ·exact .inr (.inl (.inr ⟨rfl,h2⟩))
   ·exact .inr (.inr (.inr ⟨rfl,h2⟩))
  ·exact .inr (.inr (.inl h1))
theorem aHT(x:List Int):¬slt x x:=by
 intro h
 rcases h with h|⟨_,h⟩
 ·omega
 ·exact aIF x h
theorem N5{x y z:List Int}(h:slt x y)(k:slt y z):slt x z:=by
 rcases h with h|⟨h1,h⟩<;>rcases k with k|⟨k1,k⟩
 ·exact .inl om
 ·exact .inl om
 ·exact .inl om
 ·exact .inr ⟨by omega,aCA h k⟩
theorem aOY(x y:List Int):x=y\/slt x y\/slt y x:=by
 rcases Dd x.length y.length with h|h|h
 ·exact .inr (.inl (.inl h))
 ·rcases aJL h with k|k|k
  ·exact .inl k
  ·exact .inr (.inl (.inr ⟨h,k⟩))
  ·exact .inr (.inr (.inr ⟨h.symm,k⟩))
 ·exact .inr (.inr (.inl h))
theorem H6:∀ {u v:List Int} {a b:Int},u.length=v.length->(rZ (u++[a]) (v++[b])↔rZ u v\/u=v/\a<b)
 | [],[],a,b,_=>by simp[rZ]
 | [],_::_,a,b,h=>by simp at h
 |_::_,[],a,b,h=>by simp at h
 |x::u,y::v,a,b,h=>by
  have ih:=H6 (u:=u) (v:=v) (a:=a) (b:=b) (by simpa using h);simp only[Ax,rZ,ih,List.cons.injEq]
  constructor
  ·rintro(k|⟨rfl,k|⟨rfl,k⟩⟩)
   ·exact .inl (.inl k)
   ·exact .inl (.inr ⟨rfl,k⟩)
   ·exact .inr ⟨⟨rfl,rfl⟩,k⟩
  ·rintro((k|⟨rfl,k⟩)|⟨⟨rfl,rfl⟩,k⟩)
   ·exact .inl k
   ·exact .inr ⟨rfl,.inl k⟩
   ·exact .inr ⟨rfl,.inr ⟨rfl,k⟩⟩
theorem TJ{u v:List Int}{a b:Int}:slt (u++[a]) (v++[b])↔slt u v\/u=v/\a<b:=by
 unfold slt;simp only[Af,Ae,Ac]
 constructor
 ·rintro(h|⟨h,k⟩)
  ·exact .inl (.inl om)
  ·have hl:u.length=v.length:=om
   rcases(H6 hl).1 k with k|k
   ·exact .inl (.inr ⟨hl,k⟩)
   ·exact .inr k
 ·rintro((h|⟨h,k⟩)|⟨rfl,k⟩)
  ·exact .inl om
  ·exact .inr ⟨by omega,(H6 h).2 (.inl k)⟩
  ·exact .inr ⟨rfl,(H6 rfl).2 (.inr ⟨rfl,k⟩)⟩
def Path(nx:Int->Int->List Int)(ls:List Int):Int->List Int->Int->Prop
 |v,[],u=>v=u
 |v,l::w,u=>l∈ls/\∃m∈nx v l,Path nx ls m w u
section
variable{nx:Int->Int->List Int}{ls:List Int}
theorem aMp:∀ {x y:List Int} {v u:Int},Path nx ls v (x++y) u↔∃m,Path nx ls v x m/\Path nx ls m y u
 | [],y,v,u=>by simp[Path]
 |l::x,y,v,u=>by
  simp only[Ax,Path,aMp (x:=x)]
  constructor
  ·rintro⟨h,m,hm,q,h1,h2⟩;exact⟨q,⟨h,m,hm,h1⟩,h2⟩
  ·rintro⟨q,⟨h,m,hm,h1⟩,h2⟩;exact⟨h,m,hm,q,h1,h2⟩
theorem aJg{w:List Int}{l v u:Int}:Path nx ls v (w++[l]) u↔l∈ls/\∃m,Path nx ls v w m/\u∈nx m l:=by
 rw[aMp];simp only[Path]
 constructor
 ·rintro⟨m,h1,h2,q,h3,rfl⟩;exact⟨h2,m,h1,h3⟩
 ·rintro⟨h2,m,h1,h3⟩;exact⟨m,h1,h2,u,h3,rfl⟩
def sB(nx:Int->Int->List Int)(ls start w:List Int)(u:Int):Prop:=∃s∈start,Path nx ls s w u
def Hits(nx:Int->Int->List Int)(ls start:List Int)(gl:Int->Bool)(w:List Int):Prop:=∃u,sB nx ls start w u/\gl u=true
def PJ(P:List Int->Prop)(w:List Int):Prop:=P w/\∀x,P x->¬slt x w
theorem aNg{P:List Int->Prop}{x y:List Int}(hx:PJ P x)(hy:PJ P y):x=y:=by
 rcases aOY x y with h|h|h
 ·exact h
 ·exact(hy.2 x hx.1 h).elim
 ·exact(hx.2 y hy.1 h).elim
def ED(P:List Int->Prop)(r:List Int×Bool):Prop:=(r.2=true/\PJ P r.1)\/(r=([],false)/\∀w,¬P w)
theorem tO{P:List Int->Prop}{r q:List Int×Bool}(hr:ED P r)(hq:ED P q):r=q:=by
 rcases hr with⟨h1,h2⟩|⟨h1,h2⟩<;>rcases hq with⟨k1,k2⟩|⟨k1,k2⟩
 ·obtain⟨a,b⟩:=r;obtain⟨c,d⟩:=q;simp only at h1 k1 h2 k2;subst h1;subst k1;rw[aNg h2 k2]
 ·exact(k2 _ h2.1).elim
 ·exact(h2 _ k2.1).elim
 ·rw[h1,k1]
theorem TM{P Q:List Int->Prop}{r:List Int×Bool}(h:∀w,P w↔Q w)(hr:ED P r):ED Q r:=by
 have:P=Q:=funext fun w=>propext (h w);rw[<-this];exact hr
end
end
end Ev
end Go.Proofs.YtppffbehejpglaaGreatDoor
