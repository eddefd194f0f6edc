/-
  Automata that are drawn: a copy that is not valid: one more flag.
-/
import Derived.Test.YtahbdkmimmnadaaGreatDoorOpq
import Derived.Test.YtahbdkmimmnadaaGreatDoorShRn
set_option linter.unusedSimpArgs false
set_option linter.unusedVariables false
set_option maxRecDepth 8000
set_option maxHeartbeats 4000000
namespace Go.Proofs.YtahbdkmimmnadaaGreatDoor
namespace Ev
theorem mF{R:Type}{L n:Nat}{o1 o2 o3 o4 o5:O}{al:Int}{rs:List (List Int)}{ac:List Bool}{T1:H}{k:KA R}(hT:o2::o3::o4::o5::autO 5 rs ac=T1)(hs:bD rs)(h1:1<=rs.length)(ha:ac.length<=4294967295)(hn:2<=n)(hL:2^60<=L):
  aU env (aA env L n) [o1,o2,o3,o4,o5] 198 [.agg [nI al,.d (.ivs rs.length (aN rs)),.d (.ivs ac.length (aK ac))]] k=k (.agg [nI al,.sl 5 0 0 rs.length,.sl 6 0 0 ac.length]) (o1::T1):=by
 rw[RM hs h1 ha hn hL,<-hT];rfl
theorem aJe{c:List UInt8}(hc:c.length<=2000)(al:Int)(nx:List (List Int))(ac:List Bool)(hs:bD nx)(h1:1<=nx.length)(ha:ac.length<=4294967290)(p t:Int)
  (kd1:(Dw 1 72 [nI (nx.length)] (nI t) c p (p+1)))
  (kd2:(Dw 1 72 [nI 30] (nI 1) c (p+1) (p+1+1))):(Dw 4 134 [autD al nx ac] (autD al nx (ac++[true])) c p (p+1+1)):=by
 intro R L n hq k hn hL;refine aS iM (by simp[autD,idsA,idsL]) (by simp[autD,idsA,idsL]) ?_;have hnl:=hs.1;obtain⟨N,T1,T2,T3,w⟩:=kH (.box [nI al,.d (.ivs nx.length (aN nx)),.d (.ivs ac.length (aK ac))]) (.box [nI 0,.sl 2 0 0 0,.sl 3 0 0 0]) al nx ac;have kd3:=fun {R:Type} {n:Nat} {o1:O} {k:KA R} (hn:2<=n)=>mF (R:=R) (L:=L) (n:=n) (o1:=o1) (al:=al) (k:=k) w.h1 hs h1 om hn hL;obtain⟨hN,hT1,l1,h2,b2,h3,l3,t3,t4,t5,tr,tb,e3,wg⟩:=w;clear e3;clear hT1;obtain⟨T4,h4⟩:∃T,T3++[.arr [.bool true] 1 0]=T:=⟨_,rfl⟩
 obtain⟨l4,g4,k4⟩:=jK h4;rw[l3]at l4 g4 k4;have t45:=k4 5 om;rw[t5]at t45;obtain⟨T5,h5⟩:∃T,T4.set 5 (.arr (aK (ac++[true])) 1 1)=T:=⟨_,rfl⟩
 obtain⟨l5,g5,k5⟩:=cC h5 om;obtain⟨T6,h6⟩:∃T,T5.set (N+1+1) (.box [nI al,.sl 5 0 0 nx.length,.sl 6 1 0 (ac.length+1)])=T:=⟨_,rfl⟩
 obtain⟨l6,g6,k6⟩:=cC h6 om;obtain⟨T7,h7⟩:∃T,T6.set 3 (.box [nI al,.sl 5 0 0 nx.length,.sl 6 1 0 (ac.length+1)])=T:=⟨_,rfl⟩
 obtain⟨l7,g7,k7⟩:=cC h7 om;have t5b:T5[N+1+1]? =some (.box [nI al,.sl 5 0 0 nx.length,.sl 6 0 0 ac.length]):=by rw[k5 _ om,k4 _ om,tb]
 have t63:T6[3]? =some (.box [nI 0,.sl 2 0 0 0,.sl 3 0 0 0]):=by rw[k6 _ om,k5 _ om,k4 _ om,t3]
 have look:∀i,i≠5->i≠3->i<N+2->T7[i]? =T3[i]?:=fun i i5 i3 hi=>by rw[k7 _ i3,k6 _ om,k5 _ i5,k4 _ om]
 have hv:rd1 (rdO c (p+1+1)::T7) (.sl 5 0 0 nx.length)=some (.ivs nx.length (aN nx)):=by
  refine wD (cs:=aB 7 nx++aF 0) ?_ (FX fun i r hr=> ?_) rfl
  ·rw[As,look 4 om om om,t4]
  ·have hi:i<nx.length:=(Ar.1 hr).1;rw[show i+7=i+6+1 by omega,As,look _ om om om];exact tr i r hr
 have hw:rd1 (rdO c (p+1+1)::T7) (.sl 6 1 0 (ac.length+1))=some (.ivs (ac++[true]).length (aK (ac++[true]))):=by
  refine nP ?_ sm;rw[As,k7 _ om,k6 _ om,g5]
 obtain⟨h2',st_out,st_keep,st_trim⟩:=rG (al:=al) hv hw om om;unfold autD at st_out|-;clear hv hw look k4 k5 k6 k7 tr h1 l4 l5 l6 l7 hN;obtain _|n:=n;omega
 simp-implicitDefEqProofs (maxSteps:=9^7) (disch:=try exact Dz) only[↓DN,↓kRet,UP,simprocAttr,LA,↓kd1,↓kd2,↓kd3,l1,h2,b2,h3,l3,tb,h4,g4,t45,h5,t5b,h6,g6,t63,h7,g7,tS,↓st_out,↓st_keep,↓st_trim,Ao,dC,dG,Tryz.f134]
theorem aGV{c:List UInt8}(hc:c.length<=2000)(al:Int)(nx:List (List Int))(ac:List Bool)(hs:bD nx)(h1:1<=nx.length)(ha:ac.length<=4294967290)(p t:Int)
  (kd1:(Dw 1 72 [nI (nx.length)] (nI t) c p (p+1)))
  (kd2:(Dw 1 72 [nI 30] (nI 4) c (p+1) (p+1+1))):(Dw 4 134 [autD al nx ac] (autD al [] []) c p (p+1+1)):=by
 intro R L n hq k hn hL;refine aS iM (by simp[autD,idsA,idsL]) (by simp[autD,idsA,idsL]) ?_;have hnl:=hs.1;obtain⟨N,T1,T2,T3,w⟩:=kH (.box [nI al,.d (.ivs nx.length (aN nx)),.d (.ivs ac.length (aK ac))]) (.box [nI 0,.sl 2 0 0 0,.sl 3 0 0 0]) al nx ac;have kd3:=fun {R:Type} {n:Nat} {o1:O} {k:KA R} (hn:2<=n)=>mF (R:=R) (L:=L) (n:=n) (o1:=o1) (al:=al) (k:=k) w.h1 hs h1 om hn hL;obtain⟨hN,hT1,l1,h2,b2,h3,l3,t3,t4,t5,tr,tb,e3,wg⟩:=w;clear e3;clear hT1;obtain⟨T4,h4⟩:∃T,T3++[.vec [] 1 0]=T:=⟨_,rfl⟩
 obtain⟨l4,g4,k4⟩:=jK h4;rw[l3]at l4 g4 k4;obtain⟨T5,h5⟩:∃T,T4.set (N+1+1) (.box [nI al,.sl (N+4) 0 0 0,.sl 6 0 0 ac.length])=T:=⟨_,rfl⟩
 obtain⟨l5,g5,k5⟩:=cC h5 om;obtain⟨T6,h6⟩:∃T,T5++[.arr [] 1 0]=T:=⟨_,rfl⟩
 obtain⟨l6,g6,k6⟩:=jK h6;rw[l5,l4]at l6 g6 k6;obtain⟨T7,h7⟩:∃T,T6.set (N+1+1) (.box [nI al,.sl (N+4) 0 0 0,.sl (N+5) 0 0 0])=T:=⟨_,rfl⟩
 obtain⟨l7,g7,k7⟩:=cC h7 om;obtain⟨T8,h8⟩:∃T,T7.set 3 (.box [nI al,.sl (N+4) 0 0 0,.sl (N+5) 0 0 0])=T:=⟨_,rfl⟩
 obtain⟨l8,g8,k8⟩:=cC h8 om;have t4b:T4[N+1+1]? =some (.box [nI al,.sl 5 0 0 nx.length,.sl 6 0 0 ac.length]):=by rw[k4 _ om,tb]
 have t6b:T6[N+1+1]? =some (.box [nI al,.sl (N+4) 0 0 0,.sl 6 0 0 ac.length]):=by rw[k6 _ om,g5]
 have t73:T7[3]? =some (.box [nI 0,.sl 2 0 0 0,.sl 3 0 0 0]):=by rw[k7 _ om,k6 _ om,k5 _ om,k4 _ om,t3]
 rw[l4]at l5
 have hv:rd1 (rdO c (p+1+1)::T8) (.sl (N+4) 0 0 0)=some (.ivs ([]:List (List Int)).length (aN [])):=by
  refine wD (cs:=[]) ?_ rfl rfl;rw[As,k8 _ om,k7 _ om,k6 _ om,k5 _ om,g4]
 have hw:rd1 (rdO c (p+1+1)::T8) (.sl (N+5) 0 0 0)=some (.ivs ([]:List Bool).length (aK [])):=by
  refine nP ?_ rfl;rw[As,k8 _ om,k7 _ om,g6];rfl
 obtain⟨h2',st_out,st_keep,st_trim⟩:=rG (al:=al) hv hw om om;unfold autD at st_out|-;clear hv hw k4 k5 k6 k7 k8 tr h1 l4 l6 l7 l8 hN;obtain _|n:=n;omega
 simp-implicitDefEqProofs (maxSteps:=9^7) (disch:=try exact Dz) only[↓DN,↓kRet,UP,simprocAttr,↓kd1,↓kd2,↓kd3,l1,h2,b2,h3,l3,tb,h4,t4b,h5,l5,t6b,h6,t73,h7,g7,h8,g8,↓st_out,↓st_keep,↓st_trim,Ao,dC,dG,Tryz.f134]
theorem aHl{c:List UInt8}(hc:c.length<=2000)(al:Int)(nx:List (List Int))(ac:List Bool)(hs:bD nx)(h1:1<=nx.length)(ha:ac.length<=4294967290)(p:Int)(t:Nat)(ht:t<nx.length)(hr:(nx.getD t []).length<=4294967290)
  (kd1:(Dw 1 72 [nI (nx.length)] (nI t) c p (p+1)))
  (kd2:(Dw 1 72 [nI 30] (nI 2) c (p+1) (p+1+1))):(Dw 4 134 [autD al nx ac] (autD al (nx.set t (nx.getD t []++[0])) ac) c p (p+1+1)):=by
 intro R L n hq k hn hL;refine aS iM (by simp[autD,idsA,idsL]) (by simp[autD,idsA,idsL]) ?_;have hnl:=hs.1;obtain⟨N,T1,T2,T3,w⟩:=kH (.box [nI al,.d (.ivs nx.length (aN nx)),.d (.ivs ac.length (aK ac))]) (.box [nI 0,.sl 2 0 0 0,.sl 3 0 0 0]) al nx ac;have kd3:=fun {R:Type} {n:Nat} {o1:O} {k:KA R} (hn:2<=n)=>mF (R:=R) (L:=L) (n:=n) (o1:=o1) (al:=al) (k:=k) w.h1 hs h1 om hn hL;obtain⟨hN,hT1,l1,h2,b2,h3,l3,t3,t4,t5,tr,tb,e3,wg⟩:=w;clear e3;simp only[eD,idsL,idsA,Aa,Ac,Am,At,Af]at wg;clear hT1;have hrow:nx[t]? =some (nx.getD t []):=by rw[Ab,Ae ht];rfl
 generalize hrw:nx.getD t []=row at hrow hr|-;have hd7:((aB 7 nx++aF 0).drop t).head? =some (.sl (t+7) 0 0 row.length):=by rw[kD ht,hrw]
 obtain⟨T4,h4⟩:∃T,T3++[.arr [.int .i64 0] 1 0]=T:=⟨_,rfl⟩
 obtain⟨l4,g4,k4⟩:=jK h4;rw[l3]at l4 g4 k4;have w4:wgt T4=wgt T3:=by rw[<-h4,zC];simp[eD]
 obtain⟨T5,h5⟩:∃T,T4.set (t+6) (.arr (ints (row++[0])) 1 1)=T:=⟨_,rfl⟩
 obtain⟨l5,g5,k5⟩:=cC h5 om;have w5:wgt T5<=wgt T4:=by rw[<-h5];have:=jO (h:=T4) (i:=t+6) (o:=.arr (ints (row++[0])) 1 1);simpa [eD]using this
 obtain⟨T6,h6⟩:∃T,T5.set 4 (.vec ((aB 7 nx++aF 0).take t++[.sl (t+7) 1 0 (row.length+1)]++(aB 7 nx++aF 0).drop (t+1)) 1 0)=T:=⟨_,rfl⟩
 obtain⟨l6,g6,k6⟩:=cC h6 om;obtain⟨T7,h7⟩:∃T,T6.set 3 (.box [nI al,.sl 5 0 0 nx.length,.sl 6 0 0 ac.length])=T:=⟨_,rfl⟩
 obtain⟨l7,g7,k7⟩:=cC h7 om;have t6b:T6[N+1+1]? =some (.box [nI al,.sl 5 0 0 nx.length,.sl 6 0 0 ac.length]):=by rw[k6 _ om,k5 _ om,k4 _ om,tb]
 have t63:T6[3]? =some (.box [nI 0,.sl 2 0 0 0,.sl 3 0 0 0]):=by rw[k6 _ om,k5 _ om,k4 _ om,t3]
 have t44:T4[4]? =some (.vec (aB 7 nx++aF 0) 1 0):=by rw[k4 _ om,t4]
 have t54:T5[4]? =some (.vec (aB 7 nx++aF 0) 1 0):=by rw[k5 _ om,t44]
 have t4r:T4[t+6]? =some (.arr (ints row) 1 0):=by rw[k4 _ om];exact tr _ _ hrow
 have hlv:(aB 7 nx++aF 0).length=nx.length:=by rw[Ah,gN];rfl
 have st_app:∀ {call:aW} {thaw:List Nat} {dst:Option Tmp} {args:Array Operand},memD env call thaw dst (.call ⟨.builtin .append,args,#[104,104]⟩) (rdO c (p+1+1)::T4) [.sl (t+7) 0 0 row.length,.sl (N+1+1+1+1) 0 0 1]=some (.sl (t+7) 1 0 (row.length+1),rdO c (p+1+1)::T5,{ ids:=[t+7,N+1+1+1+1],ro:=false,wr:=[t+7]}):=by
  intro call thaw dst args;rw[IF (e:=3) (e0:=1) (n2:=1) (cs:=ints row) (src:=[.int .i64 0]) rfl IQ kr (by rw[show t+7=t+6+1 by omega,As];exact t4r) (.inr rfl) (by rw[As];exact g4) rfl (by simp[ints]) (by unfold bF;omega) om];rw[show t+7=t+6+1 by omega,Bk,<-h5,show(ints row).take row.length++[D.int .i64 0]=ints (row++[0]) by rw[Bx (by simp[ints])];simp[ints]]
 have ok_row:∀(i:Nat) (r:List Int),nx[i]? =some r->Okay (rdO c (p+1+1)::T5) (i+7):=by
  intro i r hr;have hi:i<nx.length:=(Ar.1 hr).1
  by_cases e:i=t
  ·subst e;have hg:(rdO c (p+1+1)::T5)[i+7]? =some (.arr (ints (row++[0])) 1 1):=by rw[show i+7=i+6+1 by omega,As];exact g5
   exact .mk _ _ hg sm (by rw[bH hg];simp)
  ·have hg:(rdO c (p+1+1)::T5)[i+7]? =some (.arr (ints r) 1 0):=by rw[show i+7=i+6+1 by omega,As,k5 _ om,k4 _ om];exact tr _ _ hr
   exact .mk _ _ hg sm (by rw[bH hg];simp)
 have ok5:Okay (rdO c (p+1+1)::T5) 5:=by
  have hg:(rdO c (p+1+1)::T5)[5]? =some (.vec (aB 7 nx++aF 0) 1 0):=t54;refine .mk _ _ hg sm ?_;intro q hq;have:kids (rdO c (p+1+1)::T5) 5=List.range' 7 nx.length:=by simp only[kids,hg,bG,bQ,dE,Ai]
  rw[this,Cw]at hq;obtain⟨z,rfl⟩:∃z,q=z+7:=⟨q-7,by omega⟩
  exact ok_row z (nx[z]'om) (Ae _)
 obtain⟨o2,ho2⟩:∃o,o=aC aD (rdO c (p+1+1)::T5) [5,t+7] []:=⟨_,rfl⟩
 have st_sto:∀ {call:aW} {thaw:List Nat} {dst:Option Tmp} {x y:Operand},memD env call thaw dst (.store 104 x y) (rdO c (p+1+1)::T5) [.ptr 5 0 t,.sl (t+7) 1 0 (row.length+1)]=some (.d .undef,rdO c (p+1+1)::T6,{ ids:=o2,ro:=false,wr:=o2}):=by
  intro call thaw dst x y;rw[aHo kr kr (h:=rdO c (p+1+1)::T5) (id:=5) (id2:=t+7) (cs:=aB 7 nx++aF 0) t54 om ok5 (ok_row t row hrow) (by rw[lI];simp only[eD,idsL,idsA,Am,Aa];omega),<-ho2];rw[Bk];unfold a6;rw[<-h6];rfl
 have hclash:∀(ops:List Oper),n9 [(1,8),(4,8),(6,8),(7,8),(1,9),(8,10),(9,10)] ops [{},{ ids:=[N+2+1],ro:=true},{},{},{ ids:=[N+2+1],ro:=true},{},{ ids:=[5],ro:=true},{ ids:=[5],ro:=true},{ ids:=[N+1+1+1+1],ro:=false},{ ids:=[t+7,N+1+1+1+1],ro:=false,wr:=[t+7]},{ ids:=[5],ro:=true},{ ids:=o2,ro:=false,wr:=o2}]=true->eU ops [{},{ ids:=[N+2+1],ro:=true},{},{},{ ids:=[N+2+1],ro:=true},{},{ ids:=[5],ro:=true},{ ids:=[5],ro:=true},{ ids:=[N+1+1+1+1],ro:=false},{ ids:=[t+7,N+1+1+1+1],ro:=false,wr:=[t+7]},{ ids:=[5],ro:=true},{ ids:=o2,ro:=false,wr:=o2}]=true:=by
  intro ops hm;refine xK _ hm ?_;intro q hq;simp only[Au,Bo,or_false]at hq
  rcases hq with rfl|rfl|rfl|rfl|rfl|rfl|rfl<;>simp[kB]<;>omega
 have hv:rd1 (rdO c (p+1+1)::T7) (.sl 5 0 0 nx.length)=some (.ivs (nx.set t (row++[0])).length (aN (nx.set t (row++[0])))):=by
  refine wD (cs:=(aB 7 nx++aF 0).take t++[.sl (t+7) 1 0 (row.length+1)]++(aB 7 nx++aF 0).drop (t+1)) ?_ ?_ sm
  ·rw[As,k7 _ om,g6]
  ·refine aGK ht (fun i r hi hr=> ?_) ?_ sm
   ·have hil:i<nx.length:=(Ar.1 hr).1;rw[show i+7=i+6+1 by omega,As,k7 _ om,k6 _ om,k5 _ om,k4 _ om];exact tr i r hr
   ·rw[show t+7=t+6+1 by omega,As,k7 _ om,k6 _ om,g5]
 have hw:rd1 (rdO c (p+1+1)::T7) (.sl 6 0 0 ac.length)=some (.ivs ac.length (aK ac)):=by
  refine nP ?_ rfl;rw[As,k7 _ om,k6 _ om,k5 _ om,k4 _ om,t5]
 obtain⟨h2',st_out,st_keep,st_trim⟩:=rG (al:=al) hv hw om om;have hlen:(nx.set t (row++[0])).length=nx.length:=sm;unfold autD at st_out|-;rw[hlen]at st_out|-;have hti:(t:Int)<nx.length:=om;have ht0:(0:Int)<=t:=om;have hn0:(0:Int)<nx.length:=om;clear hv hw k4 k5 k6 k7 tr h1 l4 l6 l7 ok_row ok5 w4 w5 wg ho2 hrow hlv;obtain _|n:=n;omega
 simp-implicitDefEqProofs (maxSteps:=9^7) (disch:=first|assumption|(refine Shut.mk ?_;(show eU _ _=true;with_unfolding_all exact hclash _ kr))|(refine Shut.mk ?_;kernel_rfl)|omega|(simp only[GT];done)|(simp only[LN]<;>omega)|fail) only[↓DN,↓kRet,UP,simprocAttr,↓kd1,↓kd2,↓kd3,l1,h2,b2,h3,l3,t4,tb,h4,hti,ht0,hn0,hd7,t54,↓st_app,↓st_sto,t6b,t63,h7,g7,↓st_out,↓st_keep,↓st_trim,Ao,dC,dG,Tryz.f134]
theorem aI8{c:List UInt8}(hc:c.length<=2000)(al:Int)(nx:List (List Int))(ac:List Bool)(hs:bD nx)(h1:1<=nx.length)(ha:ac.length<=4294967290)(p:Int)(t:Nat)(ht:t<nx.length)(hr:(nx.getD t []).length=0)
  (kd1:(Dw 1 72 [nI (nx.length)] (nI t) c p (p+1)))
  (kd2:(Dw 1 72 [nI 30] (nI 3) c (p+1) (p+1+1))):(Dw 4 134 [autD al nx ac] (autD al nx ac) c p (p+1+1)):=by
 intro R L n hq k hn hL;refine aS iM (by simp[autD,idsA,idsL]) (by simp[autD,idsA,idsL]) ?_;have hnl:=hs.1;obtain⟨N,T1,T2,T3,w⟩:=kH (.box [nI al,.d (.ivs nx.length (aN nx)),.d (.ivs ac.length (aK ac))]) (.box [nI 0,.sl 2 0 0 0,.sl 3 0 0 0]) al nx ac;have kd3:=fun {R:Type} {n:Nat} {o1:O} {k:KA R} (hn:2<=n)=>mF (R:=R) (L:=L) (n:=n) (o1:=o1) (al:=al) (k:=k) w.h1 hs h1 om hn hL;obtain⟨hN,hT1,l1,h2,b2,h3,l3,t3,t4,t5,tr,tb,e3,wg⟩:=w;clear e3;clear hT1;have hd7:((aB 7 nx++aF 0).drop t).head? =some (.sl (t+7) 0 0 0):=by rw[kD ht,hr]
 obtain⟨T7,h7⟩:∃T,T3.set 3 (.box [nI al,.sl 5 0 0 nx.length,.sl 6 0 0 ac.length])=T:=⟨_,rfl⟩
 obtain⟨l7,g7,k7⟩:=cC h7 om
 have hv:rd1 (rdO c (p+1+1)::T7) (.sl 5 0 0 nx.length)=some (.ivs nx.length (aN nx)):=by
  refine wD (cs:=aB 7 nx++aF 0) ?_ (FX fun i r hr=> ?_) rfl
  ·rw[As,k7 _ om,t4]
  ·rw[show i+7=i+6+1 by omega,As,k7 _ om];exact tr i r hr
 have hw:rd1 (rdO c (p+1+1)::T7) (.sl 6 0 0 ac.length)=some (.ivs ac.length (aK ac)):=by
  refine nP ?_ rfl;rw[As,k7 _ om,t5]
 obtain⟨h2',st_out,st_keep,st_trim⟩:=rG (al:=al) hv hw om om;unfold autD at st_out|-;have hti:(t:Int)<nx.length:=om;have ht0:(0:Int)<=t:=om;have hn0:(0:Int)<nx.length:=om;clear hv hw k7 tr h1 l7 wg;obtain _|n:=n;omega
 simp-implicitDefEqProofs (maxSteps:=9^7) (disch:=try exact Dz) only[↓DN,↓kRet,UP,simprocAttr,↓kd1,↓kd2,↓kd3,l1,h2,b2,h3,t3,t4,tb,hti,ht0,hn0,hd7,h7,g7,↓st_out,↓st_keep,↓st_trim,Ao,dC,dG,Tryz.f134]
theorem aHz{c:List UInt8}(hc:c.length<=2000)(al:Int)(nx:List (List Int))(ac:List Bool)(hs:bD nx)(h1:1<=nx.length)(ha:ac.length<=4294967290)(p:Int)(hp:0<=p)(hp2:p<=900000000)(t:Nat)(ht:t<nx.length)(j:Nat)(hj:j<(nx.getD t []).length)
  (kd1:(Dw 1 72 [nI (nx.length)] (nI t) c p (p+1)))
  (kd2:(Dw 1 72 [nI 30] (nI 3) c (p+1) (p+1+1)))
  (kd4:(Dw 1 72 [nI ((nx.getD t []).length:Int)] (nI j) c (p+1+1) (p+1+1+1))):∃v:Int,(Dw 4 134 [autD al nx ac] (autD al (nx.set t ((nx.getD t []).set j v)) ac) c p (p+1+1+1+1)):=by
 obtain⟨v,_,kd5⟩:=gQ hc [-1,nx.length,(nx.length:Int)-1,0] sm sm (p+1+1+1) om om;simp only[ints,Ag,Ak,Ac,Aa,Af,Nat.reduceAdd]at kd5;refine⟨v,?_⟩;intro R L n hq k hn hL;refine aS iM (by simp[autD,idsA,idsL]) (by simp[autD,idsA,idsL]) ?_;have hnl:=hs.1;obtain⟨N,T1,T2,T3,w⟩:=kH (.box [nI al,.d (.ivs nx.length (aN nx)),.d (.ivs ac.length (aK ac))]) (.box [nI 0,.sl 2 0 0 0,.sl 3 0 0 0]) al nx ac;have kd3:=fun {R:Type} {n:Nat} {o1:O} {k:KA R} (hn:2<=n)=>mF (R:=R) (L:=L) (n:=n) (o1:=o1) (al:=al) (k:=k) w.h1 hs h1 om hn hL;obtain⟨hN,hT1,l1,h2,b2,h3,l3,t3,t4,t5,tr,tb,e3,wg⟩:=w;clear e3;clear hT1;have hrow:nx[t]? =some (nx.getD t []):=by rw[Ab,Ae ht];rfl
 have hrl:=oJ hs ht;generalize hrw:nx.getD t []=row at *;have hd7:((aB 7 nx++aF 0).drop t).head? =some (.sl (t+7) 0 0 row.length):=by rw[kD ht,hrw]
 obtain⟨T4,h4⟩:∃T,T3++[.arr [.int .i64 (-1),.int .i64 nx.length,.int .i64 ((nx.length:Int)-1),.int .i64 0] 1 0]=T:=⟨_,rfl⟩
 obtain⟨l4,g4,k4⟩:=jK h4;rw[l3]at l4 g4 k4;have g4D:T4.getD (N+1+1+1) O.void=.arr [.int .i64 (-1),.int .i64 nx.length,.int .i64 ((nx.length:Int)-1),.int .i64 0] 1 0:=by rw[Ab,g4];rfl
 have t4r:T4[t+6]? =some (.arr (ints row) 1 0):=by rw[k4 _ om];exact tr _ _ hrow
 obtain⟨T5,h5⟩:∃T,T4.set (t+6) (.arr (ints (row.set j v)) 1 0)=T:=⟨_,rfl⟩
 obtain⟨l5,g5,k5⟩:=cC h5 om;obtain⟨T7,h7⟩:∃T,T5.set 3 (.box [nI al,.sl 5 0 0 nx.length,.sl 6 0 0 ac.length])=T:=⟨_,rfl⟩
 obtain⟨l7,g7,k7⟩:=cC h7 om;have t3r:T3[t+6]? =some (.arr (ints row) 1 0):=tr _ _ hrow;have t5b:T5[N+1+1]? =some (.box [nI al,.sl 5 0 0 nx.length,.sl 6 0 0 ac.length]):=by rw[k5 _ om,k4 _ om,tb]
 have t53:T5[3]? =some (.box [nI 0,.sl 2 0 0 0,.sl 3 0 0 0]):=by rw[k5 _ om,k4 _ om,t3]
 have hset:a6 (ints row) j [.int .i64 v]=ints (row.set j v):=by
  unfold a6;exact XT hj
 have st_sto:∀ {call:aW} {thaw:List Nat} {dst:Option Tmp} {x y:Operand},memD env call thaw dst (.store 3 x y) (rdO c (p+1+1+1+1)::T4) [.ptr (t+7) 0 j,nI v]=some (.d .undef,rdO c (p+1+1+1+1)::T5,{ ids:=[t+7],ro:=false,wr:=[t+7]}):=by
  intro call thaw dst x y;rw[JS kr kr rfl (h:=rdO c (p+1+1+1+1)::T4) (id:=t+7) (cs:=ints row) (esz:=1) (by rw[show t+7=t+6+1 by omega,As];exact t4r) (by simp[ints];omega)];rw[show t+7=t+6+1 by omega,Bk,hset,h5]
 have hre:∀x y:D,aC 1099511627776 (.box [.d x,.d y]::T4) [0,N+1+1+1+1] []=[0,N+1+1+1+1]:=by
  intro x y;rw[show(1099511627776:Nat)=1099511627773+1+1+1 from rfl,oI];simp[idsL,idsA];rw[oI];simp[g4,Ab,vU]
 have hclash:∀(ops:List Oper),n9 [(1,10),(3,10),(4,10),(1,11),(3,11),(4,11),(11,12)] ops [{},{ ids:=[N+2+1],ro:=true},{},{ ids:=[5],ro:=true},{ ids:=[5],ro:=true},{},{},{},{},{},{ ids:=[N+1+1+1+1],ro:=false},{ ids:=[0,N+1+1+1+1],ro:=false},{ ids:=[t+7],ro:=true},{ ids:=[t+7],ro:=false}]=true->eU ops [{},{ ids:=[N+2+1],ro:=true},{},{ ids:=[5],ro:=true},{ ids:=[5],ro:=true},{},{},{},{},{},{ ids:=[N+1+1+1+1],ro:=false},{ ids:=[0,N+1+1+1+1],ro:=false},{ ids:=[t+7],ro:=true},{ ids:=[t+7],ro:=false}]=true:=by
  intro ops hm;refine xK _ hm ?_;intro q hq;simp only[Au,Bo,or_false]at hq
  rcases hq with rfl|rfl|rfl|rfl|rfl|rfl|rfl<;>simp[kB]<;>omega
 have hlen:(nx.set t (row.set j v)).length=nx.length:=sm
 have hv:rd1 (rdO c (p+1+1+1+1)::T7) (.sl 5 0 0 nx.length)=some (.ivs (nx.set t (row.set j v)).length (aN (nx.set t (row.set j v)))):=by
  refine wD (cs:=aB 7 nx++aF 0) ?_ ?_ hlen.symm
  ·rw[As,k7 _ om,k5 _ om,k4 _ om,t4]
  ·rw[<-BF (b:=7) (rs:=nx) (k:=t) (r:=row.set j v) (by rw[hrw];simp)];refine FX fun i r hr=> ?_;rw[show i+7=i+6+1 by omega,As];rw[Co]at hr
   by_cases e:t=i
   ·subst e;rw[if_pos rfl,if_pos ht]at hr;cases hr;rw[k7 _ om];exact g5
   ·rw[if_neg e]at hr;have hil:i<nx.length:=(Ar.1 hr).1;rw[k7 _ om,k5 _ om,k4 _ om];exact tr i r hr
 have hw:rd1 (rdO c (p+1+1+1+1)::T7) (.sl 6 0 0 ac.length)=some (.ivs ac.length (aK ac)):=by
  refine nP ?_ rfl;rw[As,k7 _ om,k5 _ om,k4 _ om,t5]
 obtain⟨h2',st_out,st_keep,st_trim⟩:=rG (al:=al) hv hw om om;unfold autD at st_out|-;rw[hlen]at st_out|-;have hti:(t:Int)<nx.length:=om;have ht0:(0:Int)<=t:=om;have hn0:(0:Int)<nx.length:=om;have hji:(j:Int)<row.length:=om;have hj0:(0:Int)<=j:=om;have hr0:(0:Int)<row.length:=om;clear hv hw k4 k5 k7 tr h1 l4 l7 wg hrow;obtain _|n:=n;omega
 simp-implicitDefEqProofs (maxSteps:=9^7) (disch:=first|assumption|(refine Shut.mk ?_;(show eU _ _=true;with_unfolding_all exact hclash _ kr))|(refine Shut.mk ?_;kernel_rfl)|omega|(simp only[GT];done)|(simp only[LN]<;>omega)|fail) only[↓DN,↓kRet,UP,simprocAttr,↓kd1,↓kd2,↓kd3,↓kd4,↓kd5,l1,h2,b2,h3,l3,t4,tb,h4,t4r,hti,ht0,hn0,hji,hj0,hr0,hd7,hre,↓st_sto,t5b,t53,h7,g7,↓st_out,↓st_keep,↓st_trim,Cl,Ao,dC,dG,Tryz.f134]
def LI(n:Nat)(ids:List Nat):Bool:=decide (ids=[4,n+9])
theorem aJD{n:Nat}{ke2:Nat}(he2:ke2=n+9):LI n [4,ke2]=true:=by subst he2;simp[LI]
def zS(n i:Nat):Option Nat:=if i=0 then some 0 else if i=4 then some 1 else if i=n+9 then some 2 else none
theorem aCB{n:Nat}:zS n 4=some (1):=by unfold zS;repeat (first|rfl|rw[if_pos rfl]|rw[if_neg om])
theorem aAs{n k:Nat}(h:k=n+9):zS n k=some (2):=by subst h;unfold zS;repeat (first|rfl|rw[if_pos rfl]|rw[if_neg om])
theorem aOq{m:List Bool}{s:List A}{y1 y2 x0 x1:D}{o1:O}{k z:Nat}{cs:List D}{d:List (List Int)}(hl:d.length<=4294967296):gc 1 m s (.box [.d y1,.d y2]::o1::.arr [] 0 0::.arr [] 0 0::.box [.d x0,.sl 2 0 0 0,.sl 3 0 0 0]::.vec (aB 7 d++aF 0) 1 0::.arr cs 1 0::(aI d++[.arr [] 0 0,.arr [] 0 0,.box [.d x1,.sl 5 0 0 k,.sl 6 0 0 z]]))=match box (tidy m s)with
  |.mk s1=>if LI d.length (idsL s1)=true/\z0As s1=true then(aE (zS d.length) s1,.box [.d y1,.d y2]::.box [.d x0,.sl 3 0 0 0,.sl 4 0 0 0]::.box [.d x1,.sl 5 0 0 k,.sl 6 0 0 z]::.arr [] 0 0::.arr [] 0 0::.vec (aB 7 d++aF 0) 1 0::.arr cs 1 0::aI d)else gcO 1 m s (.box [.d y1,.d y2]::o1::.arr [] 0 0::.arr [] 0 0::.box [.d x0,.sl 2 0 0 0,.sl 3 0 0 0]::.vec (aB 7 d++aF 0) 1 0::.arr cs 1 0::(aI d++[.arr [] 0 0,.arr [] 0 0,.box [.d x1,.sl 5 0 0 k,.sl 6 0 0 z]]))
  |.no=>([],[]):=by
 simp only[box]
 split
 ·rename_i hc
  obtain⟨hb,hz⟩:=hc;have hids:idsL (tidy m s)=[4,d.length+9]:=by simpa [LI]using hb
  obtain⟨h,hh⟩:∃h:H,O.box [.d y1,.d y2]::o1::.arr [] 0 0::.arr [] 0 0::.box [.d x0,.sl 2 0 0 0,.sl 3 0 0 0]::.vec (aB 7 d++aF 0) 1 0::.arr cs 1 0::(aI d++[.arr [] 0 0,.arr [] 0 0,.box [.d x1,.sl 5 0 0 k,.sl 6 0 0 z]])=h:=⟨_,rfl⟩
  conv=>lhs;rw[hh]
  have g0:h[0]? =some (.box [.d y1,.d y2]):=by rw[<-hh];rfl
  have g2:h[2]? =some (.arr [] 0 0):=by rw[<-hh];rfl
  have g3:h[3]? =some (.arr [] 0 0):=by rw[<-hh];rfl
  have g4:h[4]? =some (.box [.d x0,.sl 2 0 0 0,.sl 3 0 0 0]):=by rw[<-hh];rfl
  have g5:h[5]? =some (.vec (aB 7 d++aF 0) 1 0):=by rw[<-hh];rfl
  have g6:h[6]? =some (.arr cs 1 0):=by rw[<-hh];rfl
  have hD:h.drop 7=aI d++[.arr [] 0 0,.arr [] 0 0,.box [.d x1,.sl 5 0 0 k,.sl 6 0 0 z]]:=by rw[<-hh];rfl
  have gr:=iJ 7 hD;have ge2:h[d.length+9]? =some (.box [.d x1,.sl 5 0 0 k,.sl 6 0 0 z]):=vV 7 2 hD rfl om;have k0:kids h (0)=[]:=by simp[kids,g0,idsL,idsA]
  have k4:kids h (4)=[2,3]:=by simp[kids,g4,idsL,idsA]
  have ke2:kids h (d.length+9)=[5,6]:=by simp[kids,ge2,idsL,idsA]
  have k2:kids h (2)=[]:=bH g2;have k3:kids h (3)=[]:=bH g3;have k5:kids h (5)=List.range' 7 d.length:=by simp[kids,g5,bG,bQ,dE]
  have leaf:=jA gr;have hr:aC (aD+1) h [0,4,d.length+9] []=[0,4,d.length+9,2,3,5]++([6]++(List.range' 7 d.length++[])):=gK (by simp[k0,k4,ke2,k2,k3,k5]) (by intro q hq;simp only[Ac,Aa]at hq;have:q=0\/q=1\/q=2\/q=3\/q=4\/q=5:=om;rcases this with rfl|rfl|rfl|rfl|rfl|rfl<;>simp[k0,k4,ke2,k2,k3]) leaf (by intro i hi;simp at hi;subst hi;exact⟨_,_,_,by assumption⟩) (by intro i hi;simp at hi;rcases hi with rfl|rfl|rfl|rfl|rfl|rfl<;>exact⟨_,by assumption,by simp⟩) (by simp<;>omega) (by intro i hi;simp at hi;omega) (by simp only[aD,Ac,Aa];omega);generalize hord:[0,4,d.length+9,2,3,5]++([6]++(List.range' 7 d.length++[]))=ord at hr;have hA:ord=([0,4,d.length+9,2,3,5]++[6])++(List.range' 7 d.length++[]):=by rw[<-hord,Ao]
  have pk:∀i j,ord[j]? =some i->aH ord i=some j:=fun i j h1=>dR (by rw[<-hr];exact bO (aD+1) h _ [] sm) h1;have p0:=pk (0) 0 (by rw[<-hord];rfl);have p4:=pk (4) 1 (by rw[<-hord];rfl);have pe2:=pk (d.length+9) 2 (by rw[<-hord];rfl);have p2:=pk (2) 3 (by rw[<-hord];rfl);have p3:=pk (3) 4 (by rw[<-hord];rfl);have p5:=pk (5) 5 (by rw[<-hord];rfl);have p6:=pk (6) 6 (by rw[<-hord];rfl);have pr:=iX (C:=7) pk hA rfl;obtain⟨K,hK⟩:∃K:H,O.box [.d y1,.d y2]::.box [.d x0,.sl 3 0 0 0,.sl 4 0 0 0]::.box [.d x1,.sl 5 0 0 k,.sl 6 0 0 z]::.arr [] 0 0::.arr [] 0 0::.vec (aB 7 d++aF 0) 1 0::.arr cs 1 0::aI d=K:=⟨_,rfl⟩
  have hni:∀f,aE f (aF 0)=aF 0:=fun _=>rfl
  have hpk:pack h ord=K:=by
   have hrf:aE (aH ord) (aB 7 d)=aB 7 d:=fD (c:=0) pr;rw[kM hA gr,<-hK];simp only[At,Am,Ag,Ak,Ab,g0,g4,ge2,g2,g3,g5,g6,Bh,mapO,aE,mapA,c8,hrf,hni,p2,p3,p5,p6,Ai]
  have hKD:K.drop 7=aI d++[]:=by rw[<-hK];exact(Ai _).symm
  have hgr:=m6 hKD
  have hcm:cK 0 K=.box [.d y1,.d y2]::.box [.d x0,.sl 3 0 0 0,.sl 4 0 0 0]::.box [.d x1,.sl 5 0 0 k,.sl 6 0 0 z]::.arr [] 0 0::.arr [] 0 0::.vec (aB 7 d++aF 0) 1 0::.arr cs 1 0::aI d:=by
   have hrf:aP 0 K (aB 7 d)=aB 7 d:=fX hgr;have hnc:∀h:H,aP 0 h (aF 0)=aF 0:=fun _=>rfl;have q3:aZ K 3=some 0:=by rw[<-hK];rfl
   have q4:aZ K 4=some 0:=by rw[<-hK];rfl
   have q5:aZ K 5=some 0:=by rw[<-hK];rfl
   have q6:aZ K 6=some 0:=by rw[<-hK];rfl
   unfold cK;rw[fW]
   conv=>lhs;arg 2;rw[<-hK]
   simp only[Ag,cB,aP,bI,hR,eV,hrf,hnc,gO,q3,q4,q5,q6,Cb,if_false,if_true]
  subst hK;rw[ZI hh hids hr,hpk,hcm]
  have hmp:aE (aH ord) (tidy m s)=aE (zS d.length) (tidy m s):=by
   apply kJ;rw[hids];intro i hi;simp only[Au,Bo,or_false]at hi
   rcases hi with rfl|rfl
   ·rw[p4,aCB]
   ·rw[pe2,aAs rfl]
  have hz2:aP 0 (O.box [.d y1,.d y2]::.box [.d x0,.sl 3 0 0 0,.sl 4 0 0 0]::.box [.d x1,.sl 5 0 0 k,.sl 6 0 0 z]::.arr [] 0 0::.arr [] 0 0::.vec (aB 7 d++aF 0) 1 0::.arr cs 1 0::aI d) (aE (aH ord) (tidy m s))=aE (aH ord) (tidy m s):=by
   exact j9 (GA (by simp[z0O,z0As,z0A,zV,vQ,vZ,GU])) _ (xA _ hz)
  rw[hz2,hmp]
 ·rfl
theorem aMo{m:List Bool}{s:List A}{y1 y2 x0 x1:D}{k z:Nat}{r:List Int}{cs:List D}{d:List (List Int)}{p:H}(hl:d.length<=4294967296):gc 1 m s (.box [.d y1,.d y2]::.box [.d x0,.sl 3 0 0 0,.sl 4 0 0 0]::.box [.d x1,.sl 5 1 0 k,.sl 6 1 0 z]::.arr [] 0 0::.arr [] 0 0::.vec (aB 7 d++[.sl (d.length+7) 1 0 r.length]) 1 1::.arr cs 1 1::(aI d++.arr (ints r) 1 1::p))=match box (tidy m s)with
  |.mk s1=>if idsL s1=[1,2]then(aP 0 (.box [.d y1,.d y2]::.box [.d x0,.sl 3 0 0 0,.sl 4 0 0 0]::.box [.d x1,.sl 5 1 0 k,.sl 6 1 0 z]::.arr [] 0 0::.arr [] 0 0::.vec (aB 7 d++[.sl (d.length+7) 1 0 r.length]) 1 1::.arr cs 1 1::(aI d++[.arr (ints r) 1 1])) (s1),.box [.d y1,.d y2]::.box [.d x0,.sl 3 0 0 0,.sl 4 0 0 0]::.box [.d x1,.sl 5 0 0 k,.sl 6 0 0 z]::.arr [] 0 0::.arr [] 0 0::.vec (aB 7 d++[.sl (d.length+7) 0 0 r.length]) 1 0::.arr cs 1 0::(aI d++[.arr (ints r) 1 0]))else gcO 1 m s (.box [.d y1,.d y2]::.box [.d x0,.sl 3 0 0 0,.sl 4 0 0 0]::.box [.d x1,.sl 5 1 0 k,.sl 6 1 0 z]::.arr [] 0 0::.arr [] 0 0::.vec (aB 7 d++[.sl (d.length+7) 1 0 r.length]) 1 1::.arr cs 1 1::(aI d++.arr (ints r) 1 1::p))
  |.no=>([],[]):=by
 simp only[box]
 split
 ·rename_i hc
  have hb:=hc;have hids:idsL (tidy m s)=[1,2]:=by exact hb
  obtain⟨h,hh⟩:∃h:H,O.box [.d y1,.d y2]::.box [.d x0,.sl 3 0 0 0,.sl 4 0 0 0]::.box [.d x1,.sl 5 1 0 k,.sl 6 1 0 z]::.arr [] 0 0::.arr [] 0 0::.vec (aB 7 d++[.sl (d.length+7) 1 0 r.length]) 1 1::.arr cs 1 1::(aI d++.arr (ints r) 1 1::p)=h:=⟨_,rfl⟩
  conv=>lhs;rw[hh]
  have g0:h[0]? =some (.box [.d y1,.d y2]):=by rw[<-hh];rfl
  have g1:h[1]? =some (.box [.d x0,.sl 3 0 0 0,.sl 4 0 0 0]):=by rw[<-hh];rfl
  have g2:h[2]? =some (.box [.d x1,.sl 5 1 0 k,.sl 6 1 0 z]):=by rw[<-hh];rfl
  have g3:h[3]? =some (.arr [] 0 0):=by rw[<-hh];rfl
  have g4:h[4]? =some (.arr [] 0 0):=by rw[<-hh];rfl
  have g5:h[5]? =some (.vec (aB 7 d++[.sl (d.length+7) 1 0 r.length]) 1 1):=by rw[<-hh];rfl
  have g6:h[6]? =some (.arr cs 1 1):=by rw[<-hh];rfl
  have hD:h.drop 7=aI d++(.arr (ints r) 1 1::p):=by rw[<-hh];rfl
  have gr:=iJ 7 hD;have ge0:h[d.length+7]? =some (.arr (ints r) 1 1):=vV 7 0 hD rfl om;have k0:kids h (0)=[]:=by simp[kids,g0,idsL,idsA]
  have k1:kids h (1)=[3,4]:=by simp[kids,g1,idsL,idsA]
  have k2:kids h (2)=[5,6]:=by simp[kids,g2,idsL,idsA]
  have k3:kids h (3)=[]:=bH g3;have k4:kids h (4)=[]:=bH g4;have k5:kids h (5)=List.range' 7 d.length++[d.length+7]:=by simp[kids,g5,bG,bQ,idsL,idsA]
  have leaf:=jA gr;have hr:aC (aD+1) h [0,1,2] []=[0,1,2,3,4,5]++([6]++(List.range' 7 d.length++[d.length+7])):=gK (by simp[k0,k1,k2,k3,k4,k5]) (by intro q hq;simp only[Ac,Aa]at hq;have:q=0\/q=1\/q=2\/q=3\/q=4\/q=5:=om;rcases this with rfl|rfl|rfl|rfl|rfl|rfl<;>simp[k0,k1,k2,k3,k4]) leaf (by intro i hi;simp at hi;rcases hi with rfl|rfl<;>exact⟨_,_,_,by assumption⟩) (by intro i hi;simp at hi;rcases hi with rfl|rfl|rfl|rfl|rfl|rfl<;>exact⟨_,by assumption,by simp⟩) (by simp<;>omega) (by intro i hi;simp at hi;omega) (by simp only[aD,Ac,Aa];omega);generalize hord:[0,1,2,3,4,5]++([6]++(List.range' 7 d.length++[d.length+7]))=ord at hr;have hA:ord=([0,1,2,3,4,5]++[6])++(List.range' 7 d.length++[d.length+7]):=by rw[<-hord,Ao]
  have pk:∀i j,ord[j]? =some i->aH ord i=some j:=fun i j h1=>dR (by rw[<-hr];exact bO (aD+1) h _ [] sm) h1;have p0:=pk (0) 0 (by rw[<-hord];rfl);have p1:=pk (1) 1 (by rw[<-hord];rfl);have p2:=pk (2) 2 (by rw[<-hord];rfl);have p3:=pk (3) 3 (by rw[<-hord];rfl);have p4:=pk (4) 4 (by rw[<-hord];rfl);have p5:=pk (5) 5 (by rw[<-hord];rfl);have p6:=pk (6) 6 (by rw[<-hord];rfl);have pr:=iX (C:=7) pk hA rfl;have pe0:=QN (C:=7) pk hA rfl 0 (i:=d.length+7) (j:=d.length+7) rfl om;obtain⟨K,hK⟩:∃K:H,O.box [.d y1,.d y2]::.box [.d x0,.sl 3 0 0 0,.sl 4 0 0 0]::.box [.d x1,.sl 5 1 0 k,.sl 6 1 0 z]::.arr [] 0 0::.arr [] 0 0::.vec (aB 7 d++[.sl (d.length+7) 1 0 r.length]) 1 1::.arr cs 1 1::(aI d++[.arr (ints r) 1 1])=K:=⟨_,rfl⟩
  have hni:∀f,aE f (aF 0)=aF 0:=fun _=>rfl
  have hpk:pack h ord=K:=by
   have hrf:aE (aH ord) (aB 7 d)=aB 7 d:=fD (c:=0) pr;rw[kM hA gr,<-hK];simp only[At,Am,Ag,Ak,Ab,g0,g1,g2,g3,g4,g5,g6,ge0,Bh,mapO,aE,mapA,c8,hrf,p3,p4,p5,p6,pe0]
  have hKD:K.drop 7=aI d++[.arr (ints r) 1 1]:=by rw[<-hK];rfl
  have hgr:=m6 hKD;have hge0:aZ K (d.length+7)=some 1:=by simp only[aZ,vV 7 0 hKD rfl (j:=d.length+7) om]
  have hcm:cK 0 K=.box [.d y1,.d y2]::.box [.d x0,.sl 3 0 0 0,.sl 4 0 0 0]::.box [.d x1,.sl 5 0 0 k,.sl 6 0 0 z]::.arr [] 0 0::.arr [] 0 0::.vec (aB 7 d++[.sl (d.length+7) 0 0 r.length]) 1 0::.arr cs 1 0::(aI d++[.arr (ints r) 1 0]):=by
   have hrf:aP 0 K (aB 7 d)=aB 7 d:=fX hgr;have hnc:∀h:H,aP 0 h (aF 0)=aF 0:=fun _=>rfl;have q3:aZ K 3=some 0:=by rw[<-hK];rfl
   have q4:aZ K 4=some 0:=by rw[<-hK];rfl
   have q5:aZ K 5=some 1:=by rw[<-hK];rfl
   have q6:aZ K 6=some 1:=by rw[<-hK];rfl
   unfold cK;rw[fW]
   conv=>lhs;arg 2;rw[<-hK]
   simp only[Ag,Dk,Ak,cB,aP,bI,hR,eV,hrf,gO,q3,q4,q5,q6,hge0,Cb,if_false,if_true]
  subst hK;rw[ZI hh hids hr,hpk,hcm]
  have hmp:aE (aH ord) (tidy m s)=tidy m s:=by
   apply fY;rw[hids];intro i hi;simp only[Au,Bo,or_false]at hi
   rcases hi with rfl|rfl
   ·exact p1
   ·exact p2
  rw[hmp]
 ·rfl
theorem aOD{m:List Bool}{s:List A}{y1 y2 x0 x1:D}{k z:Nat}{r:List Int}{cs:List D}{d:List (List Int)}{p:H}(hl:d.length<=4294967296):gc 1 m s (.box [.d y1,.d y2]::.box [.d x0,.sl 3 0 0 0,.sl 4 0 0 0]::.box [.d x1,.sl 5 1 0 k,.sl 6 1 0 z]::.arr [] 0 0::.arr [] 0 0::.vec (aB 7 d++[.sl (d.length+7) 1 0 r.length]) 1 1::.arr cs 1 1::(aI d++.arr (ints r) 1 1::p))=match box (tidy m s)with
  |.mk s1=>if idsL s1=[1,2]then(s1,.box [.d y1,.d y2]::.box [.d x0,.sl 3 0 0 0,.sl 4 0 0 0]::.box [.d x1,.sl 5 0 0 k,.sl 6 0 0 z]::.arr [] 0 0::.arr [] 0 0::.vec (aB 7 (d++[r])++aF 0) 1 0::.arr cs 1 0::aI (d++[r]))else gcO 1 m s (.box [.d y1,.d y2]::.box [.d x0,.sl 3 0 0 0,.sl 4 0 0 0]::.box [.d x1,.sl 5 1 0 k,.sl 6 1 0 z]::.arr [] 0 0::.arr [] 0 0::.vec (aB 7 d++[.sl (d.length+7) 1 0 r.length]) 1 1::.arr cs 1 1::(aI d++.arr (ints r) 1 1::p))
  |.no=>([],[]):=by
 have hn:aF 0=[]:=rfl;rw[aMo hl,<-JM,DW,hn,Ai,Nat.add_comm 7];have hc:=oB (nf:=0) (h:=.box [.d y1,.d y2]::.box [.d x0,.sl 3 0 0 0,.sl 4 0 0 0]::.box [.d x1,.sl 5 1 0 k,.sl 6 1 0 z]::.arr [] 0 0::.arr [] 0 0::.vec (aB 7 d++[.sl (d.length+7) 1 0 r.length]) 1 1::.arr cs 1 1::(aI d++[.arr (ints r) 1 1])) (tidy m s);simp only[box]
 split
 ·rename_i hid
  rw[hc (by rw[hid];intro i hi;simp at hi;rcases hi with rfl|rfl<;>rfl)]
 ·rfl
theorem aE2{α:Type}{d:List α}{x:α}{j:Nat}:d++[x]++List.replicate j x=d++List.replicate (j+1) x:=by
 rw[Ao,Dr];rfl
theorem aBR{R:Type}{L n:Nat}{y1 y2 x0:D}{al n0:Int}(hn0:0<n0){row:List Int}(hrl:row.length<=4294967290){k:KE R}:∀(j m:Nat) (d:List (List Int)) (ac:List Bool) (len len2:Nat) (hj:d.length+j=13\/j=0/\13<=d.length) (hm:j<m) (hd:d[0]? =some row) (hlen:len=d.length) (hlen2:len2=ac.length) (ha:ac.length+j<=4294967290) (hdl:d.length<=4294967290),
  aV env (aA env L n) L 1 (W32 (W32 (W16 (W2 (W1 [1002,0,0,0,0,0,0,0,0,0,0,0,0,0,0,0,0,0,0,0,0,0,1002]))))) Bz22 (xY 0) Bz41 m (Y4 (.ptr 1 0 0::.ptr 2 0 0::nI n0::Y32 (Y32 (Y32 (Y8 (Y2 (Y1 ([])))))))) (.box [.d y1,.d y2]::.box [.d x0,.sl 3 0 0 0,.sl 4 0 0 0]::.box [nI al,.sl 5 0 0 len,.sl 6 0 0 len2]::.arr [] 0 0::.arr [] 0 0::.vec (aB 7 d++aF 0) 1 0::.arr (aK ac) 1 0::aI d) k
  =k (.exit 1) (Y4 (.ptr 1 0 0::.ptr 2 0 0::nI n0::Y32 (Y32 (Y32 (Y8 (Y2 (Y1 ([])))))))) (.box [.d y1,.d y2]::.box [.d x0,.sl 3 0 0 0,.sl 4 0 0 0]::.box [nI al,.sl 5 0 0 (d.length+j),.sl 6 0 0 (ac.length+j)]::.arr [] 0 0::.arr [] 0 0::.vec (aB 7 (d++List.replicate j row)++aF 0) 1 0::.arr (aK (ac++List.replicate j false)) 1 0::aI (d++List.replicate j row)):=by
 intro j
 induction j with
 |zero=>
  intro m d ac len len2 hj hm hd hlen hlen2 ha hdl;obtain _|m:=m;omega;have hc:¬((d.length:Int)<=12):=om;have hdl2:d.length<=4294967296:=om;subst hlen;subst hlen2;simp only[List.replicate_zero,Ai,Br]
  simp-implicitDefEqProofs (maxSteps:=9^7) (disch:=try exact Dz) only[↓DN,↓kRet,UP,simprocAttr,hn0,hc,↓EN,z0As,z0A,eq_self,rM,rL,vC,uJ,Tryz.f134]
 |succ j ih=>
  intro m d ac len len2 hj hm hd hlen hlen2 ha hdl;obtain _|m:=m;omega;have hc:(d.length:Int)<=12:=om;subst hlen;subst hlen2;have hpos:0<d.length:=(Ar.1 hd).1;have ih':=ih m (d++[row]) (ac++[false]) (d.length+1) (ac.length+1) (by simp;omega) om (by rw[Bb hpos];exact hd) sm sm (by simp;omega) (by simp;omega);rw[aE2,aE2]at ih';simp only[Ah,Ac,Aa,Af]at ih';rw[show d.length+1+j=d.length+(j+1) by omega,show ac.length+1+j=ac.length+(j+1) by omega]at ih';clear ih
  have hh0:(aB 7 d++aF 0).head? =some (.sl 7 0 0 row.length):=by
   cases d with
   |nil=>simp at hd
   |cons r d=>simp at hd;subst hd;rfl
  have hlv:(aB 7 d++aF 0).length=d.length:=by rw[Ah,gN];rfl
  have ht:(aB 7 d++aF 0).take d.length=aB 7 d:=D2 rfl;obtain⟨T0,e0⟩:∃T:H,T=(.box [.d x0,.sl 3 0 0 0,.sl 4 0 0 0]::.box [nI al,.sl 5 0 0 d.length,.sl 6 0 0 ac.length]::.arr [] 0 0::.arr [] 0 0::.vec (aB 7 d++aF 0) 1 0::.arr (aK ac) 1 0::aI d):=⟨_,rfl⟩
  have l0:T0.length=d.length+6:=by rw[e0];simp[cD]
  have t01:T0[1]? =some (.box [nI al,.sl 5 0 0 d.length,.sl 6 0 0 ac.length]):=by rw[e0];rfl
  have t04:T0[4]? =some (.vec (aB 7 d++aF 0) 1 0):=by rw[e0];rfl
  have t05:T0[5]? =some (.arr (aK ac) 1 0):=by rw[e0];rfl
  have t0r:∀(i:Nat) (r:List Int),d[i]? =some r->T0[i+6]? =some (.arr (ints r) 1 0):=by
   intro i r hr;rw[e0];simp only[As];have:=EI (p:=[]) hr
   rwa [Ai]at this
  have w0:wgt T0<=d.length+4:=by
   rw[e0];simp only[lI,E4,eD,idsL,idsA,bG,bQ,dE,Ah,Dx,Ac,Aa,Ai];omega
  obtain⟨T1,h1⟩:∃T,T0++[.arr [] 1 0]=T:=⟨_,rfl⟩
  obtain⟨l1,g1,k1⟩:=jK h1;rw[l0]at l1 g1 k1;have w1:wgt T1=wgt T0:=by rw[<-h1,zC];simp[eD]
  obtain⟨T2,h2⟩:∃T,T1.set (d.length+6) (.arr (ints row) 1 1)=T:=⟨_,rfl⟩
  obtain⟨l2,g2,k2⟩:=cC h2 om;have w2:wgt T2<=wgt T1:=by rw[<-h2];have:=jO (h:=T1) (i:=d.length+6) (o:=.arr (ints row) 1 1);simpa [eD]using this
  obtain⟨T3,h3⟩:∃T,T2++[.vec [.sl (d.length+7) 1 0 row.length] 1 0]=T:=⟨_,rfl⟩
  obtain⟨l3,g3,k3⟩:=jK h3;rw[l2,l1]at l3 g3 k3;have w3:wgt T3=wgt T2+1:=by rw[<-h3,zC];simp[eD,idsL,idsA]
  obtain⟨T4,h4⟩:∃T,T3.set 4 (.vec (aB 7 d++[.sl (d.length+7) 1 0 row.length]) 1 1)=T:=⟨_,rfl⟩
  obtain⟨l4,g4,k4⟩:=cC h4 om
  have w4:wgt T4<=wgt T3+d.length+1:=by
   rw[<-h4];have:=jO (h:=T3) (i:=4) (o:=.vec (aB 7 d++[.sl (d.length+7) 1 0 row.length]) 1 1);simp only[eD,bG,bQ,idsL,idsA,Ah,Dx,Ac,Aa]at this;omega
  obtain⟨T5,h5⟩:∃T,T4.set 1 (.box [nI al,.sl 5 1 0 (d.length+1),.sl 6 0 0 ac.length])=T:=⟨_,rfl⟩
  obtain⟨l5,g5,k5⟩:=cC h5 om;obtain⟨T6,h6⟩:∃T,T5++[.arr [.bool false] 1 0]=T:=⟨_,rfl⟩
  obtain⟨l6,g6,k6⟩:=jK h6;rw[l5,l4,l3]at l6 g6 k6;obtain⟨T7,h7⟩:∃T,T6.set 5 (.arr (aK (ac++[false])) 1 1)=T:=⟨_,rfl⟩
  obtain⟨l7,g7,k7⟩:=cC h7 om;obtain⟨T8,h8⟩:∃T,T7.set 1 (.box [nI al,.sl 5 1 0 (d.length+1),.sl 6 1 0 (ac.length+1)])=T:=⟨_,rfl⟩
  have e8:T8=.box [.d x0,.sl 3 0 0 0,.sl 4 0 0 0]::.box [nI al,.sl 5 1 0 (d.length+1),.sl 6 1 0 (ac.length+1)]::.arr [] 0 0::.arr [] 0 0::.vec (aB 7 d++[.sl (d.length+7) 1 0 row.length]) 1 1::.arr (aK (ac++[false])) 1 1::(aI d++.arr (ints row) 1 1::.vec [.sl (d.length+7) 1 0 row.length] 1 0::[.arr [.bool false] 1 0]):=by
   rw[<-h8,<-h7,<-h6,<-h5,<-h4,<-h3,<-h2,<-h1,e0];simp only[At,Ao,Am,Bk,Ci];rw[V4 rfl];simp only[At,Ao,Am]
  have st_gc:∀ {mk:List Bool} {s:List A},gc 1 mk s (.box [.d y1,.d y2]::T8)=match box (tidy mk s)with
    |.mk s1=>if idsL s1=[1,2]then(s1,.box [.d y1,.d y2]::.box [.d x0,.sl 3 0 0 0,.sl 4 0 0 0]::.box [nI al,.sl 5 0 0 (d.length+1),.sl 6 0 0 (ac.length+1)]::.arr [] 0 0::.arr [] 0 0::.vec (aB 7 (d++[row])++aF 0) 1 0::.arr (aK (ac++[false])) 1 0::aI (d++[row]))else gcO 1 mk s (.box [.d y1,.d y2]::T8)
    |.no=>([],[]):=by
   intro mk s;rw[e8];exact aOD om
  have st_app1:∀ {call:aW} {thaw:List Nat} {dst:Option Tmp} {args:Array Operand},memD env call thaw dst (.call ⟨.builtin .append,args,#[104,104]⟩) (.box [.d y1,.d y2]::T1) [.sl (d.length+6+1) 0 0 0,.sl 7 0 0 row.length]=some (.sl (d.length+7) 1 0 row.length,.box [.d y1,.d y2]::T2,{ ids:=[d.length+7,7],ro:=false,wr:=[d.length+7]}):=by
   intro call thaw dst args;have h7r:T1[6]? =some (.arr (ints row) 1 0):=by rw[k1 _ om];exact t0r 0 row hd
   rw[IF (e:=3) (e0:=1) (n2:=row.length) (len:=0) (cs:=[]) (src:=ints row) rfl IQ kr (by rw[As];exact g1) (.inr rfl) (by rw[As];exact h7r) (by simp[ints]) sm (by unfold bF;omega) om];rw[Bk,<-h2];simp
  have st_vec:∀ {call:aW} {thaw:List Nat} {dst:Option Tmp} {x:Operand},Shut ((keeps thaw dst&& !logs thaw dst)=true)->memD env call thaw dst (.buildSlice 23 1 #[(0,x)]) (.box [.d y1,.d y2]::T2) [.sl (d.length+7) 1 0 row.length]=some (.sl (d.length+8) 0 0 1,.box [.d y1,.d y2]::T3,{ ids:=[d.length+7,d.length+8],ro:=false}):=by
   intro call thaw dst x hk;rw[aC8 (e:=104) (cs:=ints row) (es:=1) hk.it rfl kr QW kr (by rw[show d.length+7=d.length+6+1 by omega,As];exact g2)];rw[At,h3,Ac,l2,l1]
  have ok_row:∀(T:H) (i:Nat) (r:List Int) (g:Nat),T[i+6]? =some (.arr (ints r) 1 g)->Okay (.box [.d y1,.d y2]::T) (i+7):=by
   intro T i r g hr;have hg:(O.box [.d y1,.d y2]::T)[i+7]? =some (.arr (ints r) 1 g):=by rw[show i+7=i+6+1 by omega,As];exact hr
   exact .mk _ _ hg sm (by rw[bH hg];simp)
  have t3r:∀(i:Nat) (r:List Int),d[i]? =some r->T3[i+6]? =some (.arr (ints r) 1 0):=by
   intro i r hr;have hi:i<d.length:=(Ar.1 hr).1;rw[k3 _ om,k2 _ om,k1 _ om];exact t0r i r hr
  have t3e:T3[d.length+6]? =some (.arr (ints row) 1 1):=by rw[k3 _ om];exact g2
  have t34:T3[4]? =some (.vec (aB 7 d++aF 0) 1 0):=by rw[k3 _ om,k2 _ om,k1 _ om,t04]
  have g3':T3[d.length+7]? =some (.vec [.sl (d.length+7) 1 0 row.length] 1 0):=g3
  have ok35:Okay (.box [.d y1,.d y2]::T3) 5:=by
   have hg:(O.box [.d y1,.d y2]::T3)[5]? =some (.vec (aB 7 d++aF 0) 1 0):=t34;refine .mk _ _ hg sm ?_;intro q hq;have:kids (.box [.d y1,.d y2]::T3) 5=List.range' 7 d.length:=by simp only[kids,hg,bG,bQ,dE,Ai]
   rw[this,Cw]at hq;obtain⟨z,rfl⟩:∃z,q=z+7:=⟨q-7,by omega⟩
   exact ok_row T3 z (d[z]'om) 0 (t3r _ _ (Ae _))
  have ok3e:Okay (.box [.d y1,.d y2]::T3) (d.length+8):=by
   have hg:(O.box [.d y1,.d y2]::T3)[d.length+8]? =some (.vec [.sl (d.length+7) 1 0 row.length] 1 0):=g3';refine .mk _ _ hg sm ?_;intro q hq;have:kids (.box [.d y1,.d y2]::T3) (d.length+8)=[d.length+7]:=by simp[kids,hg,idsL,idsA]
   rw[this]at hq;simp at hq;subst hq;exact ok_row T3 d.length row 1 t3e
  obtain⟨o1,ho1⟩:∃o,o=aC aD (.box [.d y1,.d y2]::T3) [5,d.length+8] []:=⟨_,rfl⟩
  have st_app2:∀ {call:aW} {thaw:List Nat} {dst:Option Tmp} {args:Array Operand},memD env call thaw dst (.call ⟨.builtin .append,args,#[23,23]⟩) (.box [.d y1,.d y2]::T3) [.sl 5 0 0 d.length,.sl (d.length+8) 0 0 1]=some (.sl 5 1 0 (d.length+1),.box [.d y1,.d y2]::T4,{ ids:=o1,ro:=false,wr:=[5]}):=by
   intro call thaw dst args;rw[SQ (e:=104) rfl QW kr (id:=5) (id2:=d.length+8) (g:=0) (g2:=0) (len:=d.length) (cs:=aB 7 d++aF 0) (c:=.sl (d.length+7) 1 0 row.length) t34 g3' om (by unfold bF;omega) ok35 ok3e (by rw[lI];simp only[eD,idsL,idsA,Am,Aa];omega),<-ho1,ht];rw[Bk,h4]
  have t41:T4[1]? =some (.box [nI al,.sl 5 0 0 d.length,.sl 6 0 0 ac.length]):=by rw[k4 _ om,k3 _ om,k2 _ om,k1 _ om,t01]
  have t45:T4[5]? =some (.arr (aK ac) 1 0):=by rw[k4 _ om,k3 _ om,k2 _ om,k1 _ om,t05]
  have ok45:Okay (.box [.d y1,.d y2]::T4) 5:=by
   have hg:(O.box [.d y1,.d y2]::T4)[5]? =some (.vec (aB 7 d++[.sl (d.length+7) 1 0 row.length]) 1 1):=g4;refine .mk _ _ hg sm ?_;intro q hq;have:kids (.box [.d y1,.d y2]::T4) 5=List.range' 7 d.length++[d.length+7]:=by simp only[kids,hg,bG,bQ,idsL,idsA,Ai]
   rw[this,Aq,Cw]at hq
   rcases hq with hq|hq
   ·obtain⟨z,rfl⟩:∃z,q=z+7:=⟨q-7,by omega⟩
    exact ok_row T4 z (d[z]'om) 0 (by rw[k4 _ om];exact t3r _ _ (Ae _))
   ·simp at hq;subst hq;exact ok_row T4 d.length row 1 (by rw[k4 _ om];exact t3e)
  have ok46:Okay (.box [.d y1,.d y2]::T4) 6:=by
   have hg:(O.box [.d y1,.d y2]::T4)[6]? =some (.arr (aK ac) 1 0):=t45;exact .mk _ _ hg sm (by rw[bH hg];simp)
  have ok42:Okay (.box [.d y1,.d y2]::T4) 2:=by
   have hg:(O.box [.d y1,.d y2]::T4)[2]? =some (.box [nI al,.sl 5 0 0 d.length,.sl 6 0 0 ac.length]):=t41;refine .mk _ _ hg sm ?_;intro q hq;have:kids (.box [.d y1,.d y2]::T4) 2=[5,6]:=by simp[kids,hg,idsL,idsA]
   rw[this]at hq;simp at hq
   rcases hq with rfl|rfl
   ·exact ok45
   ·exact ok46
  obtain⟨o2,ho2⟩:∃o,o=aC aD (.box [.d y1,.d y2]::T4) [2,5] []:=⟨_,rfl⟩
  have st_sto:∀ {call:aW} {thaw:List Nat} {dst:Option Tmp} {x y:Operand},memD env call thaw dst (.store 23 x y) (.box [.d y1,.d y2]::T4) [.ptr 2 0 1,.sl 5 1 0 (d.length+1)]=some (.d .undef,.box [.d y1,.d y2]::T5,{ ids:=o2,ro:=false,wr:=o2}):=by
   intro call thaw dst x y;rw[t6 kr kr (h:=.box [.d y1,.d y2]::T4) (id:=2) (id2:=5) (off:=1) (cs:=[nI al,.sl 5 0 0 d.length,.sl 6 0 0 ac.length]) t41 sm ok42 ok45 (by rw[lI];simp only[eD,idsL,idsA,Am,Aa];omega),<-ho2];rw[Bk];unfold a6;rw[<-h5];rfl
  have hclash:∀(ops:List Oper),n9 [(1,2),(2,4),(2,5),(2,6),(1,7),(1,8)] ops [{},{ ids:=[2],ro:=true},{ ids:=[d.length+6+1],ro:=false},{},{ ids:=[2],ro:=true},{ ids:=[5],ro:=true},{ ids:=[5],ro:=true},{ ids:=[d.length+7,7],ro:=false,wr:=[d.length+7]},{ ids:=[d.length+7,d.length+8],ro:=false},{ ids:=o1,ro:=false,wr:=[5]},{},{ ids:=o2,ro:=false,wr:=o2}]=true->eU ops [{},{ ids:=[2],ro:=true},{ ids:=[d.length+6+1],ro:=false},{},{ ids:=[2],ro:=true},{ ids:=[5],ro:=true},{ ids:=[5],ro:=true},{ ids:=[d.length+7,7],ro:=false,wr:=[d.length+7]},{ ids:=[d.length+7,d.length+8],ro:=false},{ ids:=o1,ro:=false,wr:=[5]},{},{ ids:=o2,ro:=false,wr:=o2}]=true:=by
   intro ops hm;refine xK _ hm ?_;intro q hq;simp only[Au,Bo,or_false]at hq
   rcases hq with rfl|rfl|rfl|rfl|rfl|rfl<;>simp[kB]<;>omega
  have t5b:T5[5]? =some (.arr (aK ac) 1 0):=by rw[k5 _ om,t45]
  have t65:T6[5]? =some (.arr (aK ac) 1 0):=by rw[k6 _ om,t5b]
  have t71:T7[1]? =some (.box [nI al,.sl 5 1 0 (d.length+1),.sl 6 0 0 ac.length]):=by rw[k7 _ om,k6 _ om,g5]
  have t61:T6[1]? =some (.box [nI al,.sl 5 1 0 (d.length+1),.sl 6 0 0 ac.length]):=by rw[k6 _ om,g5]
  have hp0:(0:Int)<d.length:=om;have t11:T1[1]? =some (.box [nI al,.sl 5 0 0 d.length,.sl 6 0 0 ac.length]):=by rw[k1 _ om,t01]
  have t14:T1[4]? =some (.vec (aB 7 d++aF 0) 1 0):=by rw[k1 _ om,t04]
  have l5':T5.length=d.length+8:=om;rw[<-e0];clear k1 k2 k3 k4 k5 k6 k7 w0 w1 w2 w3 w4 ok35 ok3e ok45 ok46 ok42 ok_row t3r t3e ho1 ho2 e0 e8 l1 l2 l3 l4 l5 l6 l7 hlv ht hd hpos t0r g3 g3'
  simp-implicitDefEqProofs (maxSteps:=9^7) (disch:=try exact Dz) only[↓DN,↓kRet,UP,simprocAttr,LA,hn0,hc,hp0,l0,t01,h1,t11,t14,hh0,↓st_app1,↓st_vec,↓st_app2,↓st_sto,g5,l5',h6,g6,t65,h7,t71,h8,tS,↓st_gc,↓ih',vC,uJ,Tryz.f134]
theorem aHg{c:List UInt8}(hc:c.length<=2000)(al:Int)(nx:List (List Int))(ac:List Bool)(hs:bD nx)(h1:1<=nx.length)(ha:ac.length<=4294967000)(hnl2:nx.length<=4294967000)(p t:Int){row:List Int}(hrow:nx[0]? =some row)(hrl:row.length<=4294967290)(j:Nat)(hj:nx.length+j=13\/j=0/\13<=nx.length)
  (kd1:(Dw 1 72 [nI (nx.length)] (nI t) c p (p+1)))
  (kd2:(Dw 1 72 [nI 30] (nI 5) c (p+1) (p+1+1))):(Dw 4 134 [autD al nx ac] (autD al (nx++List.replicate j row) (ac++List.replicate j false)) c p (p+1+1)):=by
 intro R L n hq k hn hL;refine aS iM (by simp[autD,idsA,idsL]) (by simp[autD,idsA,idsL]) ?_;have hnl:=hs.1;obtain⟨N,T1,T2,T3,w⟩:=kH (.box [nI al,.d (.ivs nx.length (aN nx)),.d (.ivs ac.length (aK ac))]) (.box [nI 0,.sl 2 0 0 0,.sl 3 0 0 0]) al nx ac;have kd3:=fun {R:Type} {n:Nat} {o1:O} {k:KA R} (hn:2<=n)=>mF (R:=R) (L:=L) (n:=n) (o1:=o1) (al:=al) (k:=k) w.h1 hs h1 om hn hL;obtain⟨hN,hT1,l1,h2,b2,h3,l3,t3,t4,t5,tr,tb,e3,wg⟩:=w;clear hT1
 have st_gc:∀ {y1 y2:D} {mk:List Bool} {s:List A},gc 1 mk s (.box [.d y1,.d y2]::T3)=match box (tidy mk s)with
   |.mk s1=>if LI nx.length (idsL s1)=true/\z0As s1=true then(aE (zS nx.length) s1,.box [.d y1,.d y2]::.box [nI 0,.sl 3 0 0 0,.sl 4 0 0 0]::.box [nI al,.sl 5 0 0 nx.length,.sl 6 0 0 ac.length]::.arr [] 0 0::.arr [] 0 0::.vec (aB 7 nx++aF 0) 1 0::.arr (aK ac) 1 0::aI nx)else gcO 1 mk s (.box [.d y1,.d y2]::T3)
   |.no=>([],[]):=by
  intro y1 y2 mk s;rw[e3];exact aOq om
 have loop_a:=fun {R:Type} {n:Nat} {y1 y2 x0:D} {k:KE R}=>aBR (R:=R) (L:=L) (n:=n) (y1:=y1) (y2:=y2) (x0:=x0) (al:=al) (n0:=nx.length) (k:=k) om hrl j L nx ac nx.length ac.length hj om hrow rfl rfl om om;have hl1:(nx++List.replicate j row).length=nx.length+j:=sm;have hl2:(ac++List.replicate j false).length=ac.length+j:=sm;generalize nx++List.replicate j row=nx2 at *;generalize ac++List.replicate j false=ac2 at *;obtain⟨T9,e9⟩:∃T:H,.box [nI al,.sl 5 0 0 (nx.length+j),.sl 6 0 0 (ac.length+j)]::.box [nI al,.sl 5 0 0 (nx.length+j),.sl 6 0 0 (ac.length+j)]::.arr [] 0 0::.arr [] 0 0::.vec (aB 7 nx2++aF 0) 1 0::.arr (aK ac2) 1 0::aI nx2=T:=⟨_,rfl⟩
 have g9:T9[0]? =some (.box [nI al,.sl 5 0 0 (nx.length+j),.sl 6 0 0 (ac.length+j)]):=by rw[<-e9];rfl
 have hv:rd1 (rdO c (p+1+1)::T9) (.sl 5 0 0 (nx.length+j))=some (.ivs nx2.length (aN nx2)):=by
  refine wD (cs:=aB 7 nx2++aF 0) (by rw[<-e9];rfl) (FX fun i r hr=> ?_) hl1.symm;rw[<-e9];simp only[As];have:=EI (p:=[]) hr
  rwa [Ai]at this
 have hw:rd1 (rdO c (p+1+1)::T9) (.sl 6 0 0 (ac.length+j))=some (.ivs ac2.length (aK ac2)):=nP (by rw[<-e9];rfl) hl2.symm;obtain⟨h2',st_out,st_keep,st_trim⟩:=rG (al:=al) hv hw om om;unfold autD at st_out|-;have hke:N+1+1+1=nx.length+9:=om;clear hv hw tr h1 wg e3 hrow;obtain _|n:=n;omega
 simp-implicitDefEqProofs (maxSteps:=9^7) (disch:=try exact Dz) only[↓DN,↓kRet,UP,simprocAttr,↓kd1,↓kd2,↓kd3,l1,h2,b2,h3,tb,↓st_gc,aJD,aCB,aAs,z0As,z0A,eq_self,↓loop_a,e9,g9,↓st_out,↓st_keep,↓st_trim,Ao,dC,dG,Tryz.f134]
end Ev
end Go.Proofs.YtahbdkmimmnadaaGreatDoor
