/-
  Automata that are drawn: a copy that is not valid: one more flag.
-/
import Derived.Test.YtahbdkmimmnadaaGreatDoorOpq
import Derived.Test.YtahbdkmimmnadaaGreatDoorShRn
import Derived.Test.YtahbdkmimmnadaaGreatDoorDrawT
import Derived.Test.YtahbdkmimmnadaaGreatDoorClassL
import Derived.Test.YtahbdkmimmnadaaGreatDoorNetY
import Derived.Test.YtahbdkmimmnadaaGreatDoorPathZ
set_option linter.unusedSimpArgs false
set_option linter.unusedVariables false
set_option maxRecDepth 8000
set_option maxHeartbeats 4000000
namespace Go.Proofs.YtahbdkmimmnadaaGreatDoor
namespace Ev
theorem BJ{R:Type}{L n:Nat}{o1 o2 o3 o4 o5:O}{al:Int}{rs:List (List Int)}{ac:List Bool}{T1:H}{k:KA R}(hT:o2::o3::o4::o5::autO 5 rs ac=T1)(hs:bN rs)(h1:1<=rs.length)(ha:ac.length<=4294967295)(hn:2<=n)(hL:2^60<=L):
  aW env (aA env L n) [o1,o2,o3,o4,o5] 198 [.agg [nI al,.d (.ivs rs.length (aP rs)),.d (.ivs ac.length (aK ac))]] k=k (.agg [nI al,.sl 5 0 0 rs.length,.sl 6 0 0 ac.length]) (o1::T1):=by
 rw[SY hs h1 ha hn hL,<-hT];rfl
theorem aMu{c:List UInt8}(hc:c.length<=2000)(al:Int)(nx:List (List Int))(ac:List Bool)(hs:bN nx)(h1:1<=nx.length)(ha:ac.length<=4294967290)(p t:Int)
  (kd1:(Dw 1 72 [nI (nx.length)] (nI t) c p (p+1)))
  (kd2:(Dw 1 72 [nI 30] (nI 1) c (p+1) (p+1+1))):(Dw 4 134 [autD al nx ac] (autD al nx (ac++[true])) c p (p+1+1)):=by
 intro R L n hq k hn hL;refine aZ iK (by simp[autD,idsA,idsL]) (by simp[autD,idsA,idsL]) ?_;have hnl:=hs.1;obtain⟨N,T1,T2,T3,w⟩:=xX (.box [nI al,.d (.ivs nx.length (aP nx)),.d (.ivs ac.length (aK ac))]) (.box [nI 0,.sl 2 0 0 0,.sl 3 0 0 0]) al nx ac;have kd3:=fun {R:Type} {n:Nat} {o1:O} {k:KA R} (hn:2<=n)=>BJ (R:=R) (L:=L) (n:=n) (o1:=o1) (al:=al) (k:=k) w.h1 hs h1 om hn hL;obtain⟨hN,hT1,l1,h2,b2,h3,l3,t3,t4,t5,tr,tb,e3,wg⟩:=w;clear e3;clear hT1;obtain⟨T4,h4⟩:∃T,T3++[.arr [.bool true] 1 0]=T:=⟨_,rfl⟩
 obtain⟨l4,g4,k4⟩:=nZ h4;rw[l3]at l4 g4 k4;have t45:=k4 5 om;rw[t5]at t45;obtain⟨T5,h5⟩:∃T,T4.set 5 (.arr (aK (ac++[true])) 1 1)=T:=⟨_,rfl⟩
 obtain⟨l5,g5,k5⟩:=eG h5 om;obtain⟨T6,h6⟩:∃T,T5.set (N+1+1) (.box [nI al,.sl 5 0 0 nx.length,.sl 6 1 0 (ac.length+1)])=T:=⟨_,rfl⟩
 obtain⟨l6,g6,k6⟩:=eG h6 om;obtain⟨T7,h7⟩:∃T,T6.set 3 (.box [nI al,.sl 5 0 0 nx.length,.sl 6 1 0 (ac.length+1)])=T:=⟨_,rfl⟩
 obtain⟨l7,g7,k7⟩:=eG h7 om;have t5b:T5[N+1+1]? =some (.box [nI al,.sl 5 0 0 nx.length,.sl 6 0 0 ac.length]):=by rw[k5 _ om,k4 _ om,tb]
 have t63:T6[3]? =some (.box [nI 0,.sl 2 0 0 0,.sl 3 0 0 0]):=by rw[k6 _ om,k5 _ om,k4 _ om,t3]
 have look:∀i,i≠5->i≠3->i<N+2->T7[i]? =T3[i]?:=fun i i5 i3 hi=>by rw[k7 _ i3,k6 _ om,k5 _ i5,k4 _ om]
 have hv:rd1 (rdO c (p+1+1)::T7) (.sl 5 0 0 nx.length)=some (.ivs nx.length (aP nx)):=by
  refine GL (cs:=aB 7 nx++aG 0) ?_ (PT fun i r hr=> ?_) rfl
  ·rw[Av,look 4 om om om,t4]
  ·have hi:i<nx.length:=(At.1 hr).1;rw[show i+7=i+6+1 by omega,Av,look _ om om om];exact tr i r hr
 have hw:rd1 (rdO c (p+1+1)::T7) (.sl 6 1 0 (ac.length+1))=some (.ivs (ac++[true]).length (aK (ac++[true]))):=by
  refine xJ ?_ sm;rw[Av,k7 _ om,k6 _ om,g5]
 obtain⟨h2',st_out,st_keep,st_trim⟩:=AW (al:=al) hv hw om om;unfold autD at st_out|-;clear hv hw look k4 k5 k6 k7 tr h1 l4 l5 l6 l7 hN;obtain _|n:=n;omega
 simp-implicitDefEqProofs (maxSteps:=9^7) (disch:=try exact Dz) only[↓DN,↓kRet,UP,simprocAttr,LA,↓kd1,↓kd2,↓kd3,l1,h2,b2,h3,l3,tb,h4,g4,t45,h5,t5b,h6,g6,t63,h7,g7,B3,↓st_out,↓st_keep,↓st_trim,Ao,c9,dC,Tryz.f134]
theorem aHb{c:List UInt8}(hc:c.length<=2000)(al:Int)(nx:List (List Int))(ac:List Bool)(hs:bN nx)(h1:1<=nx.length)(ha:ac.length<=4294967290)(p t:Int)
  (kd1:(Dw 1 72 [nI (nx.length)] (nI t) c p (p+1)))
  (kd2:(Dw 1 72 [nI 30] (nI 4) c (p+1) (p+1+1))):(Dw 4 134 [autD al nx ac] (autD al [] []) c p (p+1+1)):=by
 intro R L n hq k hn hL;refine aZ iK (by simp[autD,idsA,idsL]) (by simp[autD,idsA,idsL]) ?_;have hnl:=hs.1;obtain⟨N,T1,T2,T3,w⟩:=xX (.box [nI al,.d (.ivs nx.length (aP nx)),.d (.ivs ac.length (aK ac))]) (.box [nI 0,.sl 2 0 0 0,.sl 3 0 0 0]) al nx ac;have kd3:=fun {R:Type} {n:Nat} {o1:O} {k:KA R} (hn:2<=n)=>BJ (R:=R) (L:=L) (n:=n) (o1:=o1) (al:=al) (k:=k) w.h1 hs h1 om hn hL;obtain⟨hN,hT1,l1,h2,b2,h3,l3,t3,t4,t5,tr,tb,e3,wg⟩:=w;clear e3;clear hT1;obtain⟨T4,h4⟩:∃T,T3++[.vec [] 1 0]=T:=⟨_,rfl⟩
 obtain⟨l4,g4,k4⟩:=nZ h4;rw[l3]at l4 g4 k4;obtain⟨T5,h5⟩:∃T,T4.set (N+1+1) (.box [nI al,.sl (N+4) 0 0 0,.sl 6 0 0 ac.length])=T:=⟨_,rfl⟩
 obtain⟨l5,g5,k5⟩:=eG h5 om;obtain⟨T6,h6⟩:∃T,T5++[.arr [] 1 0]=T:=⟨_,rfl⟩
 obtain⟨l6,g6,k6⟩:=nZ h6;rw[l5,l4]at l6 g6 k6;obtain⟨T7,h7⟩:∃T,T6.set (N+1+1) (.box [nI al,.sl (N+4) 0 0 0,.sl (N+5) 0 0 0])=T:=⟨_,rfl⟩
 obtain⟨l7,g7,k7⟩:=eG h7 om;obtain⟨T8,h8⟩:∃T,T7.set 3 (.box [nI al,.sl (N+4) 0 0 0,.sl (N+5) 0 0 0])=T:=⟨_,rfl⟩
 obtain⟨l8,g8,k8⟩:=eG h8 om;have t4b:T4[N+1+1]? =some (.box [nI al,.sl 5 0 0 nx.length,.sl 6 0 0 ac.length]):=by rw[k4 _ om,tb]
 have t6b:T6[N+1+1]? =some (.box [nI al,.sl (N+4) 0 0 0,.sl 6 0 0 ac.length]):=by rw[k6 _ om,g5]
 have t73:T7[3]? =some (.box [nI 0,.sl 2 0 0 0,.sl 3 0 0 0]):=by rw[k7 _ om,k6 _ om,k5 _ om,k4 _ om,t3]
 rw[l4]at l5
 have hv:rd1 (rdO c (p+1+1)::T8) (.sl (N+4) 0 0 0)=some (.ivs ([]:List (List Int)).length (aP [])):=by
  refine GL (cs:=[]) ?_ rfl rfl;rw[Av,k8 _ om,k7 _ om,k6 _ om,k5 _ om,g4]
 have hw:rd1 (rdO c (p+1+1)::T8) (.sl (N+5) 0 0 0)=some (.ivs ([]:List Bool).length (aK [])):=by
  refine xJ ?_ rfl;rw[Av,k8 _ om,k7 _ om,g6];rfl
 obtain⟨h2',st_out,st_keep,st_trim⟩:=AW (al:=al) hv hw om om;unfold autD at st_out|-;clear hv hw k4 k5 k6 k7 k8 tr h1 l4 l6 l7 l8 hN;obtain _|n:=n;omega
 simp-implicitDefEqProofs (maxSteps:=9^7) (disch:=try exact Dz) only[↓DN,↓kRet,UP,simprocAttr,↓kd1,↓kd2,↓kd3,l1,h2,b2,h3,l3,tb,h4,t4b,h5,l5,t6b,h6,t73,h7,g7,h8,g8,↓st_out,↓st_keep,↓st_trim,Ao,c9,dC,Tryz.f134]
theorem aJM{c:List UInt8}(hc:c.length<=2000)(al:Int)(nx:List (List Int))(ac:List Bool)(hs:bN nx)(h1:1<=nx.length)(ha:ac.length<=4294967290)(p:Int)(t:Nat)(ht:t<nx.length)(hr:(nx.getD t []).length<=4294967290)
  (kd1:(Dw 1 72 [nI (nx.length)] (nI t) c p (p+1)))
  (kd2:(Dw 1 72 [nI 30] (nI 2) c (p+1) (p+1+1))):(Dw 4 134 [autD al nx ac] (autD al (nx.set t (nx.getD t []++[0])) ac) c p (p+1+1)):=by
 intro R L n hq k hn hL;refine aZ iK (by simp[autD,idsA,idsL]) (by simp[autD,idsA,idsL]) ?_;have hnl:=hs.1;obtain⟨N,T1,T2,T3,w⟩:=xX (.box [nI al,.d (.ivs nx.length (aP nx)),.d (.ivs ac.length (aK ac))]) (.box [nI 0,.sl 2 0 0 0,.sl 3 0 0 0]) al nx ac;have kd3:=fun {R:Type} {n:Nat} {o1:O} {k:KA R} (hn:2<=n)=>BJ (R:=R) (L:=L) (n:=n) (o1:=o1) (al:=al) (k:=k) w.h1 hs h1 om hn hL;obtain⟨hN,hT1,l1,h2,b2,h3,l3,t3,t4,t5,tr,tb,e3,wg⟩:=w;clear e3;simp only[jL,idsL,idsA,Ab,Ac,Am,As,Ag]at wg;clear hT1;have hrow:nx[t]? =some (nx.getD t []):=by rw[Aa,Ae ht];rfl
 generalize hrw:nx.getD t []=row at hrow hr|-;have hd7:((aB 7 nx++aG 0).drop t).head? =some (.sl (t+7) 0 0 row.length):=by rw[xZ ht,hrw]
 obtain⟨T4,h4⟩:∃T,T3++[.arr [.int .i64 0] 1 0]=T:=⟨_,rfl⟩
 obtain⟨l4,g4,k4⟩:=nZ h4;rw[l3]at l4 g4 k4;have w4:wgt T4=wgt T3:=by rw[<-h4,aAI];simp[jL]
 obtain⟨T5,h5⟩:∃T,T4.set (t+6) (.arr (ints (row++[0])) 1 1)=T:=⟨_,rfl⟩
 obtain⟨l5,g5,k5⟩:=eG h5 om;have w5:wgt T5<=wgt T4:=by rw[<-h5];have:=yB (h:=T4) (i:=t+6) (o:=.arr (ints (row++[0])) 1 1);simpa [jL]using this
 obtain⟨T6,h6⟩:∃T,T5.set 4 (.vec ((aB 7 nx++aG 0).take t++[.sl (t+7) 1 0 (row.length+1)]++(aB 7 nx++aG 0).drop (t+1)) 1 0)=T:=⟨_,rfl⟩
 obtain⟨l6,g6,k6⟩:=eG h6 om;obtain⟨T7,h7⟩:∃T,T6.set 3 (.box [nI al,.sl 5 0 0 nx.length,.sl 6 0 0 ac.length])=T:=⟨_,rfl⟩
 obtain⟨l7,g7,k7⟩:=eG h7 om;have t6b:T6[N+1+1]? =some (.box [nI al,.sl 5 0 0 nx.length,.sl 6 0 0 ac.length]):=by rw[k6 _ om,k5 _ om,k4 _ om,tb]
 have t63:T6[3]? =some (.box [nI 0,.sl 2 0 0 0,.sl 3 0 0 0]):=by rw[k6 _ om,k5 _ om,k4 _ om,t3]
 have t44:T4[4]? =some (.vec (aB 7 nx++aG 0) 1 0):=by rw[k4 _ om,t4]
 have t54:T5[4]? =some (.vec (aB 7 nx++aG 0) 1 0):=by rw[k5 _ om,t44]
 have t4r:T4[t+6]? =some (.arr (ints row) 1 0):=by rw[k4 _ om];exact tr _ _ hrow
 have hlv:(aB 7 nx++aG 0).length=nx.length:=by rw[Ai,kN];rfl
 have st_app:∀ {call:aX} {thaw:List Nat} {dst:Option Tmp} {args:Array Operand},memD env call thaw dst (.call ⟨.builtin .append,args,#[104,104]⟩) (rdO c (p+1+1)::T4) [.sl (t+7) 0 0 row.length,.sl (N+1+1+1+1) 0 0 1]=some (.sl (t+7) 1 0 (row.length+1),rdO c (p+1+1)::T5,{ ids:=[t+7,N+1+1+1+1],ro:=false,wr:=[t+7]}):=by
  intro call thaw dst args;rw[aEZ (e:=3) (e0:=1) (n2:=1) (cs:=ints row) (src:=[.int .i64 0]) rfl QH kr (by rw[show t+7=t+6+1 by omega,Av];exact t4r) (.inr rfl) (by rw[Av];exact g4) rfl (by simp[ints]) (by unfold bI;omega) om];rw[show t+7=t+6+1 by omega,By,<-h5,show(ints row).take row.length++[D.int .i64 0]=ints (row++[0]) by rw[Ca (by simp[ints])];simp[ints]]
 have ok_row:∀(i:Nat) (r:List Int),nx[i]? =some r->Okay (rdO c (p+1+1)::T5) (i+7):=by
  intro i r hr;have hi:i<nx.length:=(At.1 hr).1
  by_cases e:i=t
  ·subst e;have hg:(rdO c (p+1+1)::T5)[i+7]? =some (.arr (ints (row++[0])) 1 1):=by rw[show i+7=i+6+1 by omega,Av];exact g5
   exact .mk _ _ hg sm (by rw[bL hg];simp)
  ·have hg:(rdO c (p+1+1)::T5)[i+7]? =some (.arr (ints r) 1 0):=by rw[show i+7=i+6+1 by omega,Av,k5 _ om,k4 _ om];exact tr _ _ hr
   exact .mk _ _ hg sm (by rw[bL hg];simp)
 have ok5:Okay (rdO c (p+1+1)::T5) 5:=by
  have hg:(rdO c (p+1+1)::T5)[5]? =some (.vec (aB 7 nx++aG 0) 1 0):=t54;refine .mk _ _ hg sm ?_;intro q hq;have:kids (rdO c (p+1+1)::T5) 5=List.range' 7 nx.length:=by simp only[kids,hg,bM,bY,dO,Ah]
  rw[this,Cx]at hq;obtain⟨z,rfl⟩:∃z,q=z+7:=⟨q-7,by omega⟩
  exact ok_row z (nx[z]'om) (Ae _)
 obtain⟨o2,ho2⟩:∃o,o=aD aF (rdO c (p+1+1)::T5) [5,t+7] []:=⟨_,rfl⟩
 have st_sto:∀ {call:aX} {thaw:List Nat} {dst:Option Tmp} {x y:Operand},memD env call thaw dst (.store 104 x y) (rdO c (p+1+1)::T5) [.ptr 5 0 t,.sl (t+7) 1 0 (row.length+1)]=some (.d .undef,rdO c (p+1+1)::T6,{ ids:=o2,ro:=false,wr:=o2}):=by
  intro call thaw dst x y;rw[aKe kr kr (h:=rdO c (p+1+1)::T5) (id:=5) (id2:=t+7) (cs:=aB 7 nx++aG 0) t54 om ok5 (ok_row t row hrow) (by rw[tA];simp only[jL,idsL,idsA,Am,Ab];omega),<-ho2];rw[By];unfold bD;rw[<-h6];rfl
 have hclash:∀(ops:List Oper),yD [(1,8),(4,8),(6,8),(7,8),(1,9),(8,10),(9,10)] ops [{},{ ids:=[N+2+1],ro:=true},{},{},{ ids:=[N+2+1],ro:=true},{},{ ids:=[5],ro:=true},{ ids:=[5],ro:=true},{ ids:=[N+1+1+1+1],ro:=false},{ ids:=[t+7,N+1+1+1+1],ro:=false,wr:=[t+7]},{ ids:=[5],ro:=true},{ ids:=o2,ro:=false,wr:=o2}]=true->jI ops [{},{ ids:=[N+2+1],ro:=true},{},{},{ ids:=[N+2+1],ro:=true},{},{ ids:=[5],ro:=true},{ ids:=[5],ro:=true},{ ids:=[N+1+1+1+1],ro:=false},{ ids:=[t+7,N+1+1+1+1],ro:=false,wr:=[t+7]},{ ids:=[5],ro:=true},{ ids:=o2,ro:=false,wr:=o2}]=true:=by
  intro ops hm;refine PR _ hm ?_;intro q hq;simp only[Au,Bv,or_false]at hq
  rcases hq with rfl|rfl|rfl|rfl|rfl|rfl|rfl<;>simp[lQ]<;>omega
 have hv:rd1 (rdO c (p+1+1)::T7) (.sl 5 0 0 nx.length)=some (.ivs (nx.set t (row++[0])).length (aP (nx.set t (row++[0])))):=by
  refine GL (cs:=(aB 7 nx++aG 0).take t++[.sl (t+7) 1 0 (row.length+1)]++(aB 7 nx++aG 0).drop (t+1)) ?_ ?_ sm
  ·rw[Av,k7 _ om,g6]
  ·refine aHY ht (fun i r hi hr=> ?_) ?_ sm
   ·have hil:i<nx.length:=(At.1 hr).1;rw[show i+7=i+6+1 by omega,Av,k7 _ om,k6 _ om,k5 _ om,k4 _ om];exact tr i r hr
   ·rw[show t+7=t+6+1 by omega,Av,k7 _ om,k6 _ om,g5]
 have hw:rd1 (rdO c (p+1+1)::T7) (.sl 6 0 0 ac.length)=some (.ivs ac.length (aK ac)):=by
  refine xJ ?_ rfl;rw[Av,k7 _ om,k6 _ om,k5 _ om,k4 _ om,t5]
 obtain⟨h2',st_out,st_keep,st_trim⟩:=AW (al:=al) hv hw om om;have hlen:(nx.set t (row++[0])).length=nx.length:=sm;unfold autD at st_out|-;rw[hlen]at st_out|-;have hti:(t:Int)<nx.length:=om;have ht0:(0:Int)<=t:=om;have hn0:(0:Int)<nx.length:=om;clear hv hw k4 k5 k6 k7 tr h1 l4 l6 l7 ok_row ok5 w4 w5 wg ho2 hrow hlv;obtain _|n:=n;omega
 simp-implicitDefEqProofs (maxSteps:=9^7) (disch:=first|assumption|(refine Shut.mk ?_;(show jI _ _=true;with_unfolding_all exact hclash _ kr))|(refine Shut.mk ?_;kernel_rfl)|omega|(simp only[GT];done)|(simp only[LN]<;>omega)|fail) only[↓DN,↓kRet,UP,simprocAttr,↓kd1,↓kd2,↓kd3,l1,h2,b2,h3,l3,t4,tb,h4,hti,ht0,hn0,hd7,t54,↓st_app,↓st_sto,t6b,t63,h7,g7,↓st_out,↓st_keep,↓st_trim,Ao,c9,dC,Tryz.f134]
theorem aLJ{c:List UInt8}(hc:c.length<=2000)(al:Int)(nx:List (List Int))(ac:List Bool)(hs:bN nx)(h1:1<=nx.length)(ha:ac.length<=4294967290)(p:Int)(t:Nat)(ht:t<nx.length)(hr:(nx.getD t []).length=0)
  (kd1:(Dw 1 72 [nI (nx.length)] (nI t) c p (p+1)))
  (kd2:(Dw 1 72 [nI 30] (nI 3) c (p+1) (p+1+1))):(Dw 4 134 [autD al nx ac] (autD al nx ac) c p (p+1+1)):=by
 intro R L n hq k hn hL;refine aZ iK (by simp[autD,idsA,idsL]) (by simp[autD,idsA,idsL]) ?_;have hnl:=hs.1;obtain⟨N,T1,T2,T3,w⟩:=xX (.box [nI al,.d (.ivs nx.length (aP nx)),.d (.ivs ac.length (aK ac))]) (.box [nI 0,.sl 2 0 0 0,.sl 3 0 0 0]) al nx ac;have kd3:=fun {R:Type} {n:Nat} {o1:O} {k:KA R} (hn:2<=n)=>BJ (R:=R) (L:=L) (n:=n) (o1:=o1) (al:=al) (k:=k) w.h1 hs h1 om hn hL;obtain⟨hN,hT1,l1,h2,b2,h3,l3,t3,t4,t5,tr,tb,e3,wg⟩:=w;clear e3;clear hT1;have hd7:((aB 7 nx++aG 0).drop t).head? =some (.sl (t+7) 0 0 0):=by rw[xZ ht,hr]
 obtain⟨T7,h7⟩:∃T,T3.set 3 (.box [nI al,.sl 5 0 0 nx.length,.sl 6 0 0 ac.length])=T:=⟨_,rfl⟩
 obtain⟨l7,g7,k7⟩:=eG h7 om
 have hv:rd1 (rdO c (p+1+1)::T7) (.sl 5 0 0 nx.length)=some (.ivs nx.length (aP nx)):=by
  refine GL (cs:=aB 7 nx++aG 0) ?_ (PT fun i r hr=> ?_) rfl
  ·rw[Av,k7 _ om,t4]
  ·rw[show i+7=i+6+1 by omega,Av,k7 _ om];exact tr i r hr
 have hw:rd1 (rdO c (p+1+1)::T7) (.sl 6 0 0 ac.length)=some (.ivs ac.length (aK ac)):=by
  refine xJ ?_ rfl;rw[Av,k7 _ om,t5]
 obtain⟨h2',st_out,st_keep,st_trim⟩:=AW (al:=al) hv hw om om;unfold autD at st_out|-;have hti:(t:Int)<nx.length:=om;have ht0:(0:Int)<=t:=om;have hn0:(0:Int)<nx.length:=om;clear hv hw k7 tr h1 l7 wg;obtain _|n:=n;omega
 simp-implicitDefEqProofs (maxSteps:=9^7) (disch:=try exact Dz) only[↓DN,↓kRet,UP,simprocAttr,↓kd1,↓kd2,↓kd3,l1,h2,b2,h3,t3,t4,tb,hti,ht0,hn0,hd7,h7,g7,↓st_out,↓st_keep,↓st_trim,Ao,c9,dC,Tryz.f134]
theorem aJK{c:List UInt8}(hc:c.length<=2000)(al:Int)(nx:List (List Int))(ac:List Bool)(hs:bN nx)(h1:1<=nx.length)(ha:ac.length<=4294967290)(p:Int)(hp:0<=p)(hp2:p<=900000000)(t:Nat)(ht:t<nx.length)(j:Nat)(hj:j<(nx.getD t []).length)
  (kd1:(Dw 1 72 [nI (nx.length)] (nI t) c p (p+1)))
  (kd2:(Dw 1 72 [nI 30] (nI 3) c (p+1) (p+1+1)))
  (kd4:(Dw 1 72 [nI ((nx.getD t []).length:Int)] (nI j) c (p+1+1) (p+1+1+1))):∃v:Int,(Dw 4 134 [autD al nx ac] (autD al (nx.set t ((nx.getD t []).set j v)) ac) c p (p+1+1+1+1)):=by
 obtain⟨v,_,kd5⟩:=eY hc [-1,nx.length,(nx.length:Int)-1,0] sm sm (p+1+1+1) om om;simp only[ints,Af,Al,Ac,Ab,Ag,Nat.reduceAdd]at kd5;refine⟨v,?_⟩;intro R L n hq k hn hL;refine aZ iK (by simp[autD,idsA,idsL]) (by simp[autD,idsA,idsL]) ?_;have hnl:=hs.1;obtain⟨N,T1,T2,T3,w⟩:=xX (.box [nI al,.d (.ivs nx.length (aP nx)),.d (.ivs ac.length (aK ac))]) (.box [nI 0,.sl 2 0 0 0,.sl 3 0 0 0]) al nx ac;have kd3:=fun {R:Type} {n:Nat} {o1:O} {k:KA R} (hn:2<=n)=>BJ (R:=R) (L:=L) (n:=n) (o1:=o1) (al:=al) (k:=k) w.h1 hs h1 om hn hL;obtain⟨hN,hT1,l1,h2,b2,h3,l3,t3,t4,t5,tr,tb,e3,wg⟩:=w;clear e3;clear hT1;have hrow:nx[t]? =some (nx.getD t []):=by rw[Aa,Ae ht];rfl
 have hrl:=wK hs ht;generalize hrw:nx.getD t []=row at *;have hd7:((aB 7 nx++aG 0).drop t).head? =some (.sl (t+7) 0 0 row.length):=by rw[xZ ht,hrw]
 obtain⟨T4,h4⟩:∃T,T3++[.arr [.int .i64 (-1),.int .i64 nx.length,.int .i64 ((nx.length:Int)-1),.int .i64 0] 1 0]=T:=⟨_,rfl⟩
 obtain⟨l4,g4,k4⟩:=nZ h4;rw[l3]at l4 g4 k4;have g4D:T4.getD (N+1+1+1) O.void=.arr [.int .i64 (-1),.int .i64 nx.length,.int .i64 ((nx.length:Int)-1),.int .i64 0] 1 0:=by rw[Aa,g4];rfl
 have t4r:T4[t+6]? =some (.arr (ints row) 1 0):=by rw[k4 _ om];exact tr _ _ hrow
 obtain⟨T5,h5⟩:∃T,T4.set (t+6) (.arr (ints (row.set j v)) 1 0)=T:=⟨_,rfl⟩
 obtain⟨l5,g5,k5⟩:=eG h5 om;obtain⟨T7,h7⟩:∃T,T5.set 3 (.box [nI al,.sl 5 0 0 nx.length,.sl 6 0 0 ac.length])=T:=⟨_,rfl⟩
 obtain⟨l7,g7,k7⟩:=eG h7 om;have t3r:T3[t+6]? =some (.arr (ints row) 1 0):=tr _ _ hrow;have t5b:T5[N+1+1]? =some (.box [nI al,.sl 5 0 0 nx.length,.sl 6 0 0 ac.length]):=by rw[k5 _ om,k4 _ om,tb]
 have t53:T5[3]? =some (.box [nI 0,.sl 2 0 0 0,.sl 3 0 0 0]):=by rw[k5 _ om,k4 _ om,t3]
 have hset:bD (ints row) j [.int .i64 v]=ints (row.set j v):=by
  unfold bD;exact aIl hj
 have st_sto:∀ {call:aX} {thaw:List Nat} {dst:Option Tmp} {x y:Operand},memD env call thaw dst (.store 3 x y) (rdO c (p+1+1+1+1)::T4) [.ptr (t+7) 0 j,nI v]=some (.d .undef,rdO c (p+1+1+1+1)::T5,{ ids:=[t+7],ro:=false,wr:=[t+7]}):=by
  intro call thaw dst x y;rw[aJX kr kr rfl (h:=rdO c (p+1+1+1+1)::T4) (id:=t+7) (cs:=ints row) (esz:=1) (by rw[show t+7=t+6+1 by omega,Av];exact t4r) (by simp[ints];omega)];rw[show t+7=t+6+1 by omega,By,hset,h5]
 have hre:∀x y:D,aD 1099511627776 (.box [.d x,.d y]::T4) [0,N+1+1+1+1] []=[0,N+1+1+1+1]:=by
  intro x y;rw[show(1099511627776:Nat)=1099511627773+1+1+1 from rfl,o8];simp[idsL,idsA];rw[o8];simp[g4,Aa,xT]
 have hclash:∀(ops:List Oper),yD [(1,10),(3,10),(4,10),(1,11),(3,11),(4,11),(11,12)] ops [{},{ ids:=[N+2+1],ro:=true},{},{ ids:=[5],ro:=true},{ ids:=[5],ro:=true},{},{},{},{},{},{ ids:=[N+1+1+1+1],ro:=false},{ ids:=[0,N+1+1+1+1],ro:=false},{ ids:=[t+7],ro:=true},{ ids:=[t+7],ro:=false}]=true->jI ops [{},{ ids:=[N+2+1],ro:=true},{},{ ids:=[5],ro:=true},{ ids:=[5],ro:=true},{},{},{},{},{},{ ids:=[N+1+1+1+1],ro:=false},{ ids:=[0,N+1+1+1+1],ro:=false},{ ids:=[t+7],ro:=true},{ ids:=[t+7],ro:=false}]=true:=by
  intro ops hm;refine PR _ hm ?_;intro q hq;simp only[Au,Bv,or_false]at hq
  rcases hq with rfl|rfl|rfl|rfl|rfl|rfl|rfl<;>simp[lQ]<;>omega
 have hlen:(nx.set t (row.set j v)).length=nx.length:=sm
 have hv:rd1 (rdO c (p+1+1+1+1)::T7) (.sl 5 0 0 nx.length)=some (.ivs (nx.set t (row.set j v)).length (aP (nx.set t (row.set j v)))):=by
  refine GL (cs:=aB 7 nx++aG 0) ?_ ?_ hlen.symm
  ·rw[Av,k7 _ om,k5 _ om,k4 _ om,t4]
  ·rw[<-TO (b:=7) (rs:=nx) (k:=t) (r:=row.set j v) (by rw[hrw];simp)];refine PT fun i r hr=> ?_;rw[show i+7=i+6+1 by omega,Av];rw[Cu]at hr
   by_cases e:t=i
   ·subst e;rw[if_pos rfl,if_pos ht]at hr;cases hr;rw[k7 _ om];exact g5
   ·rw[if_neg e]at hr;have hil:i<nx.length:=(At.1 hr).1;rw[k7 _ om,k5 _ om,k4 _ om];exact tr i r hr
 have hw:rd1 (rdO c (p+1+1+1+1)::T7) (.sl 6 0 0 ac.length)=some (.ivs ac.length (aK ac)):=by
  refine xJ ?_ rfl;rw[Av,k7 _ om,k5 _ om,k4 _ om,t5]
 obtain⟨h2',st_out,st_keep,st_trim⟩:=AW (al:=al) hv hw om om;unfold autD at st_out|-;rw[hlen]at st_out|-;have hti:(t:Int)<nx.length:=om;have ht0:(0:Int)<=t:=om;have hn0:(0:Int)<nx.length:=om;have hji:(j:Int)<row.length:=om;have hj0:(0:Int)<=j:=om;have hr0:(0:Int)<row.length:=om;clear hv hw k4 k5 k7 tr h1 l4 l7 wg hrow;obtain _|n:=n;omega
 simp-implicitDefEqProofs (maxSteps:=9^7) (disch:=first|assumption|(refine Shut.mk ?_;(show jI _ _=true;with_unfolding_all exact hclash _ kr))|(refine Shut.mk ?_;kernel_rfl)|omega|(simp only[GT];done)|(simp only[LN]<;>omega)|fail) only[↓DN,↓kRet,UP,simprocAttr,↓kd1,↓kd2,↓kd3,↓kd4,↓kd5,l1,h2,b2,h3,l3,t4,tb,h4,t4r,hti,ht0,hn0,hji,hj0,hr0,hd7,hre,↓st_sto,t5b,t53,h7,g7,↓st_out,↓st_keep,↓st_trim,Cp,Ao,c9,dC,Tryz.f134]
def N8(n:Nat)(ids:List Nat):Bool:=decide (ids=[4,n+9])
theorem aMe{n:Nat}{ke2:Nat}(he2:ke2=n+9):N8 n [4,ke2]=true:=by subst he2;simp[N8]
def A3(n i:Nat):Option Nat:=if i=0 then some 0 else if i=4 then some 1 else if i=n+9 then some 2 else none
theorem aE3{n:Nat}:A3 n 4=some (1):=by unfold A3;repeat (first|rfl|rw[if_pos rfl]|rw[if_neg om])
theorem aBL{n k:Nat}(h:k=n+9):A3 n k=some (2):=by subst h;unfold A3;repeat (first|rfl|rw[if_pos rfl]|rw[if_neg om])
theorem aRI{m:List Bool}{s:List A}{y1 y2 x0 x1:D}{o1:O}{k z:Nat}{cs:List D}{d:List (List Int)}(hl:d.length<=4294967296):gc 1 m s (.box [.d y1,.d y2]::o1::.arr [] 0 0::.arr [] 0 0::.box [.d x0,.sl 2 0 0 0,.sl 3 0 0 0]::.vec (aB 7 d++aG 0) 1 0::.arr cs 1 0::(aI d++[.arr [] 0 0,.arr [] 0 0,.box [.d x1,.sl 5 0 0 k,.sl 6 0 0 z]]))=match box (tidy m s)with
  |.mk s1=>if N8 d.length (idsL s1)=true/\z0As s1=true then(aE (A3 d.length) s1,.box [.d y1,.d y2]::.box [.d x0,.sl 3 0 0 0,.sl 4 0 0 0]::.box [.d x1,.sl 5 0 0 k,.sl 6 0 0 z]::.arr [] 0 0::.arr [] 0 0::.vec (aB 7 d++aG 0) 1 0::.arr cs 1 0::aI d)else gcO 1 m s (.box [.d y1,.d y2]::o1::.arr [] 0 0::.arr [] 0 0::.box [.d x0,.sl 2 0 0 0,.sl 3 0 0 0]::.vec (aB 7 d++aG 0) 1 0::.arr cs 1 0::(aI d++[.arr [] 0 0,.arr [] 0 0,.box [.d x1,.sl 5 0 0 k,.sl 6 0 0 z]]))
  |.no=>([],[]):=by
 simp only[box]
 split
 ·rename_i hc
  obtain⟨hb,hz⟩:=hc;have hids:idsL (tidy m s)=[4,d.length+9]:=by simpa [N8]using hb
  obtain⟨h,hh⟩:∃h:H,O.box [.d y1,.d y2]::o1::.arr [] 0 0::.arr [] 0 0::.box [.d x0,.sl 2 0 0 0,.sl 3 0 0 0]::.vec (aB 7 d++aG 0) 1 0::.arr cs 1 0::(aI d++[.arr [] 0 0,.arr [] 0 0,.box [.d x1,.sl 5 0 0 k,.sl 6 0 0 z]])=h:=⟨_,rfl⟩
  conv=>lhs;rw[hh]
  have g0:h[0]? =some (.box [.d y1,.d y2]):=by rw[<-hh];rfl
  have g2:h[2]? =some (.arr [] 0 0):=by rw[<-hh];rfl
  have g3:h[3]? =some (.arr [] 0 0):=by rw[<-hh];rfl
  have g4:h[4]? =some (.box [.d x0,.sl 2 0 0 0,.sl 3 0 0 0]):=by rw[<-hh];rfl
  have g5:h[5]? =some (.vec (aB 7 d++aG 0) 1 0):=by rw[<-hh];rfl
  have g6:h[6]? =some (.arr cs 1 0):=by rw[<-hh];rfl
  have hD:h.drop 7=aI d++[.arr [] 0 0,.arr [] 0 0,.box [.d x1,.sl 5 0 0 k,.sl 6 0 0 z]]:=by rw[<-hh];rfl
  have gr:=iF 7 hD;have ge2:h[d.length+9]? =some (.box [.d x1,.sl 5 0 0 k,.sl 6 0 0 z]):=xL 7 2 hD rfl om;have k0:kids h (0)=[]:=by simp[kids,g0,idsL,idsA]
  have k4:kids h (4)=[2,3]:=by simp[kids,g4,idsL,idsA]
  have ke2:kids h (d.length+9)=[5,6]:=by simp[kids,ge2,idsL,idsA]
  have k2:kids h (2)=[]:=bL g2;have k3:kids h (3)=[]:=bL g3;have k5:kids h (5)=List.range' 7 d.length:=by simp[kids,g5,bM,bY,dO]
  have leaf:=i8 gr;have hr:aD (aF+1) h [0,4,d.length+9] []=[0,4,d.length+9,2,3,5]++([6]++(List.range' 7 d.length++[])):=gH (by simp[k0,k4,ke2,k2,k3,k5]) (by intro q hq;simp only[Ac,Ab]at hq;have:q=0\/q=1\/q=2\/q=3\/q=4\/q=5:=om;rcases this with rfl|rfl|rfl|rfl|rfl|rfl<;>simp[k0,k4,ke2,k2,k3]) leaf (by intro i hi;simp at hi;subst hi;exact⟨_,_,_,by assumption⟩) (by intro i hi;simp at hi;rcases hi with rfl|rfl|rfl|rfl|rfl|rfl<;>exact⟨_,by assumption,by simp⟩) (by simp<;>omega) (by intro i hi;simp at hi;omega) (by simp only[aF,Ac,Ab];omega);generalize hord:[0,4,d.length+9,2,3,5]++([6]++(List.range' 7 d.length++[]))=ord at hr;have hA:ord=([0,4,d.length+9,2,3,5]++[6])++(List.range' 7 d.length++[]):=by rw[<-hord,Ao]
  have pk:∀i j,ord[j]? =some i->aH ord i=some j:=fun i j h1=>dP (by rw[<-hr];exact bT (aF+1) h _ [] sm) h1;have p0:=pk (0) 0 (by rw[<-hord];rfl);have p4:=pk (4) 1 (by rw[<-hord];rfl);have pe2:=pk (d.length+9) 2 (by rw[<-hord];rfl);have p2:=pk (2) 3 (by rw[<-hord];rfl);have p3:=pk (3) 4 (by rw[<-hord];rfl);have p5:=pk (5) 5 (by rw[<-hord];rfl);have p6:=pk (6) 6 (by rw[<-hord];rfl);have pr:=jC (C:=7) pk hA rfl;obtain⟨K,hK⟩:∃K:H,O.box [.d y1,.d y2]::.box [.d x0,.sl 3 0 0 0,.sl 4 0 0 0]::.box [.d x1,.sl 5 0 0 k,.sl 6 0 0 z]::.arr [] 0 0::.arr [] 0 0::.vec (aB 7 d++aG 0) 1 0::.arr cs 1 0::aI d=K:=⟨_,rfl⟩
  have hni:∀f,aE f (aG 0)=aG 0:=fun _=>rfl
  have hpk:pack h ord=K:=by
   have hrf:aE (aH ord) (aB 7 d)=aB 7 d:=fC (c:=0) pr;rw[kR hA gr,<-hK];simp only[As,Am,Af,Al,Aa,g0,g4,ge2,g2,g3,g5,g6,Bd,mapO,aE,mapA,dB,hrf,hni,p2,p3,p5,p6,Ah]
  have hKD:K.drop 7=aI d++[]:=by rw[<-hK];exact(Ah _).symm
  have hgr:=nT hKD
  have hcm:cM 0 K=.box [.d y1,.d y2]::.box [.d x0,.sl 3 0 0 0,.sl 4 0 0 0]::.box [.d x1,.sl 5 0 0 k,.sl 6 0 0 z]::.arr [] 0 0::.arr [] 0 0::.vec (aB 7 d++aG 0) 1 0::.arr cs 1 0::aI d:=by
   have hrf:aQ 0 K (aB 7 d)=aB 7 d:=fR hgr;have hnc:∀h:H,aQ 0 h (aG 0)=aG 0:=fun _=>rfl;have q3:a6 K 3=some 0:=by rw[<-hK];rfl
   have q4:a6 K 4=some 0:=by rw[<-hK];rfl
   have q5:a6 K 5=some 0:=by rw[<-hK];rfl
   have q6:a6 K 6=some 0:=by rw[<-hK];rfl
   unfold cM;rw[fV]
   conv=>lhs;arg 2;rw[<-hK]
   simp only[Af,cB,aQ,bJ,gS,eK,hrf,hnc,gM,q3,q4,q5,q6,Bz,if_false,if_true]
  subst hK;rw[aCl hh hids hr,hpk,hcm]
  have hmp:aE (aH ord) (tidy m s)=aE (A3 d.length) (tidy m s):=by
   apply kQ;rw[hids];intro i hi;simp only[Au,Bv,or_false]at hi
   rcases hi with rfl|rfl
   ·rw[p4,aE3]
   ·rw[pe2,aBL rfl]
  have hz2:aQ 0 (O.box [.d y1,.d y2]::.box [.d x0,.sl 3 0 0 0,.sl 4 0 0 0]::.box [.d x1,.sl 5 0 0 k,.sl 6 0 0 z]::.arr [] 0 0::.arr [] 0 0::.vec (aB 7 d++aG 0) 1 0::.arr cs 1 0::aI d) (aE (aH ord) (tidy m s))=aE (aH ord) (tidy m s):=by
   exact kI (HD (by simp[z0O,z0As,z0A,BS,xB,xG,H7])) _ (zJ _ hz)
  rw[hz2,hmp]
 ·rfl
theorem aP9{m:List Bool}{s:List A}{y1 y2 x0 x1:D}{k z:Nat}{r:List Int}{cs:List D}{d:List (List Int)}{p:H}(hl:d.length<=4294967296):gc 1 m s (.box [.d y1,.d y2]::.box [.d x0,.sl 3 0 0 0,.sl 4 0 0 0]::.box [.d x1,.sl 5 1 0 k,.sl 6 1 0 z]::.arr [] 0 0::.arr [] 0 0::.vec (aB 7 d++[.sl (d.length+7) 1 0 r.length]) 1 1::.arr cs 1 1::(aI d++.arr (ints r) 1 1::p))=match box (tidy m s)with
  |.mk s1=>if idsL s1=[1,2]then(aQ 0 (.box [.d y1,.d y2]::.box [.d x0,.sl 3 0 0 0,.sl 4 0 0 0]::.box [.d x1,.sl 5 1 0 k,.sl 6 1 0 z]::.arr [] 0 0::.arr [] 0 0::.vec (aB 7 d++[.sl (d.length+7) 1 0 r.length]) 1 1::.arr cs 1 1::(aI d++[.arr (ints r) 1 1])) (s1),.box [.d y1,.d y2]::.box [.d x0,.sl 3 0 0 0,.sl 4 0 0 0]::.box [.d x1,.sl 5 0 0 k,.sl 6 0 0 z]::.arr [] 0 0::.arr [] 0 0::.vec (aB 7 d++[.sl (d.length+7) 0 0 r.length]) 1 0::.arr cs 1 0::(aI d++[.arr (ints r) 1 0]))else gcO 1 m s (.box [.d y1,.d y2]::.box [.d x0,.sl 3 0 0 0,.sl 4 0 0 0]::.box [.d x1,.sl 5 1 0 k,.sl 6 1 0 z]::.arr [] 0 0::.arr [] 0 0::.vec (aB 7 d++[.sl (d.length+7) 1 0 r.length]) 1 1::.arr cs 1 1::(aI d++.arr (ints r) 1 1::p))
  |.no=>([],[]):=by
 simp only[box]
 split
 ·rename_i hc
  have hb:=hc;have hids:idsL (tidy m s)=[1,2]:=by exact hb
  obtain⟨h,hh⟩:∃h:H,O.box [.d y1,.d y2]::.box [.d x0,.sl 3 0 0 0,.sl 4 0 0 0]::.box [.d x1,.sl 5 1 0 k,.sl 6 1 0 z]::.arr [] 0 0::.arr [] 0 0::.vec (aB 7 d++[.sl (d.length+7) 1 0 r.length]) 1 1::.arr cs 1 1::(aI d++.arr (ints r) 1 1::p)=h:=⟨_,rfl⟩
  conv=>lhs;rw[hh]
  have g0:h[0]? =some (.box [.d y1,.d y2]):=by rw[<-hh];rfl
  have g1:h[1]? =some (.box [.d x0,.sl 3 0 0 0,.sl 4 0 0 0]):=by rw[<-hh];rfl
  have g2:h[2]? =some (.box [.d x1,.sl 5 1 0 k,.sl 6 1 0 z]):=by rw[<-hh];rfl
  have g3:h[3]? =some (.arr [] 0 0):=by rw[<-hh];rfl
  have g4:h[4]? =some (.arr [] 0 0):=by rw[<-hh];rfl
  have g5:h[5]? =some (.vec (aB 7 d++[.sl (d.length+7) 1 0 r.length]) 1 1):=by rw[<-hh];rfl
  have g6:h[6]? =some (.arr cs 1 1):=by rw[<-hh];rfl
  have hD:h.drop 7=aI d++(.arr (ints r) 1 1::p):=by rw[<-hh];rfl
  have gr:=iF 7 hD;have ge0:h[d.length+7]? =some (.arr (ints r) 1 1):=xL 7 0 hD rfl om;have k0:kids h (0)=[]:=by simp[kids,g0,idsL,idsA]
  have k1:kids h (1)=[3,4]:=by simp[kids,g1,idsL,idsA]
  have k2:kids h (2)=[5,6]:=by simp[kids,g2,idsL,idsA]
  have k3:kids h (3)=[]:=bL g3;have k4:kids h (4)=[]:=bL g4;have k5:kids h (5)=List.range' 7 d.length++[d.length+7]:=by simp[kids,g5,bM,bY,idsL,idsA]
  have leaf:=i8 gr;have hr:aD (aF+1) h [0,1,2] []=[0,1,2,3,4,5]++([6]++(List.range' 7 d.length++[d.length+7])):=gH (by simp[k0,k1,k2,k3,k4,k5]) (by intro q hq;simp only[Ac,Ab]at hq;have:q=0\/q=1\/q=2\/q=3\/q=4\/q=5:=om;rcases this with rfl|rfl|rfl|rfl|rfl|rfl<;>simp[k0,k1,k2,k3,k4]) leaf (by intro i hi;simp at hi;rcases hi with rfl|rfl<;>exact⟨_,_,_,by assumption⟩) (by intro i hi;simp at hi;rcases hi with rfl|rfl|rfl|rfl|rfl|rfl<;>exact⟨_,by assumption,by simp⟩) (by simp<;>omega) (by intro i hi;simp at hi;omega) (by simp only[aF,Ac,Ab];omega);generalize hord:[0,1,2,3,4,5]++([6]++(List.range' 7 d.length++[d.length+7]))=ord at hr;have hA:ord=([0,1,2,3,4,5]++[6])++(List.range' 7 d.length++[d.length+7]):=by rw[<-hord,Ao]
  have pk:∀i j,ord[j]? =some i->aH ord i=some j:=fun i j h1=>dP (by rw[<-hr];exact bT (aF+1) h _ [] sm) h1;have p0:=pk (0) 0 (by rw[<-hord];rfl);have p1:=pk (1) 1 (by rw[<-hord];rfl);have p2:=pk (2) 2 (by rw[<-hord];rfl);have p3:=pk (3) 3 (by rw[<-hord];rfl);have p4:=pk (4) 4 (by rw[<-hord];rfl);have p5:=pk (5) 5 (by rw[<-hord];rfl);have p6:=pk (6) 6 (by rw[<-hord];rfl);have pr:=jC (C:=7) pk hA rfl;have pe0:=SZ (C:=7) pk hA rfl 0 (i:=d.length+7) (j:=d.length+7) rfl om;obtain⟨K,hK⟩:∃K:H,O.box [.d y1,.d y2]::.box [.d x0,.sl 3 0 0 0,.sl 4 0 0 0]::.box [.d x1,.sl 5 1 0 k,.sl 6 1 0 z]::.arr [] 0 0::.arr [] 0 0::.vec (aB 7 d++[.sl (d.length+7) 1 0 r.length]) 1 1::.arr cs 1 1::(aI d++[.arr (ints r) 1 1])=K:=⟨_,rfl⟩
  have hni:∀f,aE f (aG 0)=aG 0:=fun _=>rfl
  have hpk:pack h ord=K:=by
   have hrf:aE (aH ord) (aB 7 d)=aB 7 d:=fC (c:=0) pr;rw[kR hA gr,<-hK];simp only[As,Am,Af,Al,Aa,g0,g1,g2,g3,g4,g5,g6,ge0,Bd,mapO,aE,mapA,dB,hrf,p3,p4,p5,p6,pe0]
  have hKD:K.drop 7=aI d++[.arr (ints r) 1 1]:=by rw[<-hK];rfl
  have hgr:=nT hKD;have hge0:a6 K (d.length+7)=some 1:=by simp only[a6,xL 7 0 hKD rfl (j:=d.length+7) om]
  have hcm:cM 0 K=.box [.d y1,.d y2]::.box [.d x0,.sl 3 0 0 0,.sl 4 0 0 0]::.box [.d x1,.sl 5 0 0 k,.sl 6 0 0 z]::.arr [] 0 0::.arr [] 0 0::.vec (aB 7 d++[.sl (d.length+7) 0 0 r.length]) 1 0::.arr cs 1 0::(aI d++[.arr (ints r) 1 0]):=by
   have hrf:aQ 0 K (aB 7 d)=aB 7 d:=fR hgr;have hnc:∀h:H,aQ 0 h (aG 0)=aG 0:=fun _=>rfl;have q3:a6 K 3=some 0:=by rw[<-hK];rfl
   have q4:a6 K 4=some 0:=by rw[<-hK];rfl
   have q5:a6 K 5=some 1:=by rw[<-hK];rfl
   have q6:a6 K 6=some 1:=by rw[<-hK];rfl
   unfold cM;rw[fV]
   conv=>lhs;arg 2;rw[<-hK]
   simp only[Af,Dp,Al,cB,aQ,bJ,gS,eK,hrf,gM,q3,q4,q5,q6,hge0,Bz,if_false,if_true]
  subst hK;rw[aCl hh hids hr,hpk,hcm]
  have hmp:aE (aH ord) (tidy m s)=tidy m s:=by
   apply fT;rw[hids];intro i hi;simp only[Au,Bv,or_false]at hi
   rcases hi with rfl|rfl
   ·exact p1
   ·exact p2
  rw[hmp]
 ·rfl
theorem aSa{m:List Bool}{s:List A}{y1 y2 x0 x1:D}{k z:Nat}{r:List Int}{cs:List D}{d:List (List Int)}{p:H}(hl:d.length<=4294967296):gc 1 m s (.box [.d y1,.d y2]::.box [.d x0,.sl 3 0 0 0,.sl 4 0 0 0]::.box [.d x1,.sl 5 1 0 k,.sl 6 1 0 z]::.arr [] 0 0::.arr [] 0 0::.vec (aB 7 d++[.sl (d.length+7) 1 0 r.length]) 1 1::.arr cs 1 1::(aI d++.arr (ints r) 1 1::p))=match box (tidy m s)with
  |.mk s1=>if idsL s1=[1,2]then(s1,.box [.d y1,.d y2]::.box [.d x0,.sl 3 0 0 0,.sl 4 0 0 0]::.box [.d x1,.sl 5 0 0 k,.sl 6 0 0 z]::.arr [] 0 0::.arr [] 0 0::.vec (aB 7 (d++[r])++aG 0) 1 0::.arr cs 1 0::aI (d++[r]))else gcO 1 m s (.box [.d y1,.d y2]::.box [.d x0,.sl 3 0 0 0,.sl 4 0 0 0]::.box [.d x1,.sl 5 1 0 k,.sl 6 1 0 z]::.arr [] 0 0::.arr [] 0 0::.vec (aB 7 d++[.sl (d.length+7) 1 0 r.length]) 1 1::.arr cs 1 1::(aI d++.arr (ints r) 1 1::p))
  |.no=>([],[]):=by
 have hn:aG 0=[]:=rfl;rw[aP9 hl,<-M0,F7,hn,Ah,Ck 7];have hc:=oO (nf:=0) (h:=.box [.d y1,.d y2]::.box [.d x0,.sl 3 0 0 0,.sl 4 0 0 0]::.box [.d x1,.sl 5 1 0 k,.sl 6 1 0 z]::.arr [] 0 0::.arr [] 0 0::.vec (aB 7 d++[.sl (d.length+7) 1 0 r.length]) 1 1::.arr cs 1 1::(aI d++[.arr (ints r) 1 1])) (tidy m s);simp only[box]
 split
 ·rename_i hid
  rw[hc (by rw[hid];intro i hi;simp at hi;rcases hi with rfl|rfl<;>rfl)]
 ·rfl
theorem aJr{α:Type}{d:List α}{x:α}{j:Nat}:d++[x]++List.replicate j x=d++List.replicate (j+1) x:=by
 rw[Ao,Dr];rfl
theorem aD8{R:Type}{L n:Nat}{y1 y2 x0:D}{al n0:Int}(hn0:0<n0){row:List Int}(hrl:row.length<=4294967290){k:KE R}:∀(j m:Nat) (d:List (List Int)) (ac:List Bool) (len len2:Nat) (hj:d.length+j=13\/j=0/\13<=d.length) (hm:j<m) (hd:d[0]? =some row) (hlen:len=d.length) (hlen2:len2=ac.length) (ha:ac.length+j<=4294967290) (hdl:d.length<=4294967290),
  aS env (aA env L n) L 1 (W32 (W32 (W16 (W2 (W1 [1002,0,0,0,0,0,0,0,0,0,0,0,0,0,0,0,0,0,0,0,0,0,1002]))))) Bz24 (zA 0) Bz45 m (Y4 (.ptr 1 0 0::.ptr 2 0 0::nI n0::Y32 (Y32 (Y32 (Y8 (Y2 (Y1 ([])))))))) (.box [.d y1,.d y2]::.box [.d x0,.sl 3 0 0 0,.sl 4 0 0 0]::.box [nI al,.sl 5 0 0 len,.sl 6 0 0 len2]::.arr [] 0 0::.arr [] 0 0::.vec (aB 7 d++aG 0) 1 0::.arr (aK ac) 1 0::aI d) k
  =k (.exit 1) (Y4 (.ptr 1 0 0::.ptr 2 0 0::nI n0::Y32 (Y32 (Y32 (Y8 (Y2 (Y1 ([])))))))) (.box [.d y1,.d y2]::.box [.d x0,.sl 3 0 0 0,.sl 4 0 0 0]::.box [nI al,.sl 5 0 0 (d.length+j),.sl 6 0 0 (ac.length+j)]::.arr [] 0 0::.arr [] 0 0::.vec (aB 7 (d++List.replicate j row)++aG 0) 1 0::.arr (aK (ac++List.replicate j false)) 1 0::aI (d++List.replicate j row)):=by
 intro j
 induction j with
 |zero=>
  intro m d ac len len2 hj hm hd hlen hlen2 ha hdl;obtain _|m:=m;omega;have hc:¬((d.length:Int)<=12):=om;have hdl2:d.length<=4294967296:=om;subst hlen;subst hlen2;simp only[List.replicate_zero,Ah,Bm]
  simp-implicitDefEqProofs (maxSteps:=9^7) (disch:=try exact Dz) only[↓DN,↓kRet,UP,simprocAttr,hn0,hc,↓GP,z0As,z0A,eq_self,rN,rX,wN,vT,Tryz.f134]
 |succ j ih=>
  intro m d ac len len2 hj hm hd hlen hlen2 ha hdl;obtain _|m:=m;omega;have hc:(d.length:Int)<=12:=om;subst hlen;subst hlen2;have hpos:0<d.length:=(At.1 hd).1;have ih':=ih m (d++[row]) (ac++[false]) (d.length+1) (ac.length+1) (by simp;omega) om (by rw[Be hpos];exact hd) sm sm (by simp;omega) (by simp;omega);rw[aJr,aJr]at ih';simp only[Ai,Ac,Ab,Ag]at ih';rw[show d.length+1+j=d.length+(j+1) by omega,show ac.length+1+j=ac.length+(j+1) by omega]at ih';clear ih
  have hh0:(aB 7 d++aG 0).head? =some (.sl 7 0 0 row.length):=by
   cases d with
   |nil=>simp at hd
   |cons r d=>simp at hd;subst hd;rfl
  have hlv:(aB 7 d++aG 0).length=d.length:=by rw[Ai,kN];rfl
  have ht:(aB 7 d++aG 0).take d.length=aB 7 d:=QB rfl;obtain⟨T0,e0⟩:∃T:H,T=(.box [.d x0,.sl 3 0 0 0,.sl 4 0 0 0]::.box [nI al,.sl 5 0 0 d.length,.sl 6 0 0 ac.length]::.arr [] 0 0::.arr [] 0 0::.vec (aB 7 d++aG 0) 1 0::.arr (aK ac) 1 0::aI d):=⟨_,rfl⟩
  have l0:T0.length=d.length+6:=by rw[e0];simp[cC]
  have t01:T0[1]? =some (.box [nI al,.sl 5 0 0 d.length,.sl 6 0 0 ac.length]):=by rw[e0];rfl
  have t04:T0[4]? =some (.vec (aB 7 d++aG 0) 1 0):=by rw[e0];rfl
  have t05:T0[5]? =some (.arr (aK ac) 1 0):=by rw[e0];rfl
  have t0r:∀(i:Nat) (r:List Int),d[i]? =some r->T0[i+6]? =some (.arr (ints r) 1 0):=by
   intro i r hr;rw[e0];simp only[Av];have:=GS (p:=[]) hr
   rwa [Ah]at this
  have w0:wgt T0<=d.length+4:=by
   rw[e0];simp only[tA,HI,jL,idsL,idsA,bM,bY,dO,Ai,Ee,Ac,Ab,Ah];omega
  obtain⟨T1,h1⟩:∃T,T0++[.arr [] 1 0]=T:=⟨_,rfl⟩
  obtain⟨l1,g1,k1⟩:=nZ h1;rw[l0]at l1 g1 k1;have w1:wgt T1=wgt T0:=by rw[<-h1,aAI];simp[jL]
  obtain⟨T2,h2⟩:∃T,T1.set (d.length+6) (.arr (ints row) 1 1)=T:=⟨_,rfl⟩
  obtain⟨l2,g2,k2⟩:=eG h2 om;have w2:wgt T2<=wgt T1:=by rw[<-h2];have:=yB (h:=T1) (i:=d.length+6) (o:=.arr (ints row) 1 1);simpa [jL]using this
  obtain⟨T3,h3⟩:∃T,T2++[.vec [.sl (d.length+7) 1 0 row.length] 1 0]=T:=⟨_,rfl⟩
  obtain⟨l3,g3,k3⟩:=nZ h3;rw[l2,l1]at l3 g3 k3;have w3:wgt T3=wgt T2+1:=by rw[<-h3,aAI];simp[jL,idsL,idsA]
  obtain⟨T4,h4⟩:∃T,T3.set 4 (.vec (aB 7 d++[.sl (d.length+7) 1 0 row.length]) 1 1)=T:=⟨_,rfl⟩
  obtain⟨l4,g4,k4⟩:=eG h4 om
  have w4:wgt T4<=wgt T3+d.length+1:=by
   rw[<-h4];have:=yB (h:=T3) (i:=4) (o:=.vec (aB 7 d++[.sl (d.length+7) 1 0 row.length]) 1 1);simp only[jL,bM,bY,idsL,idsA,Ai,Ee,Ac,Ab]at this;omega
  obtain⟨T5,h5⟩:∃T,T4.set 1 (.box [nI al,.sl 5 1 0 (d.length+1),.sl 6 0 0 ac.length])=T:=⟨_,rfl⟩
  obtain⟨l5,g5,k5⟩:=eG h5 om;obtain⟨T6,h6⟩:∃T,T5++[.arr [.bool false] 1 0]=T:=⟨_,rfl⟩
  obtain⟨l6,g6,k6⟩:=nZ h6;rw[l5,l4,l3]at l6 g6 k6;obtain⟨T7,h7⟩:∃T,T6.set 5 (.arr (aK (ac++[false])) 1 1)=T:=⟨_,rfl⟩
  obtain⟨l7,g7,k7⟩:=eG h7 om;obtain⟨T8,h8⟩:∃T,T7.set 1 (.box [nI al,.sl 5 1 0 (d.length+1),.sl 6 1 0 (ac.length+1)])=T:=⟨_,rfl⟩
  have e8:T8=.box [.d x0,.sl 3 0 0 0,.sl 4 0 0 0]::.box [nI al,.sl 5 1 0 (d.length+1),.sl 6 1 0 (ac.length+1)]::.arr [] 0 0::.arr [] 0 0::.vec (aB 7 d++[.sl (d.length+7) 1 0 row.length]) 1 1::.arr (aK (ac++[false])) 1 1::(aI d++.arr (ints row) 1 1::.vec [.sl (d.length+7) 1 0 row.length] 1 0::[.arr [.bool false] 1 0]):=by
   rw[<-h8,<-h7,<-h6,<-h5,<-h4,<-h3,<-h2,<-h1,e0];simp only[As,Ao,Am,By,Ce];rw[Y7 rfl];simp only[As,Ao,Am]
  have st_gc:∀ {mk:List Bool} {s:List A},gc 1 mk s (.box [.d y1,.d y2]::T8)=match box (tidy mk s)with
    |.mk s1=>if idsL s1=[1,2]then(s1,.box [.d y1,.d y2]::.box [.d x0,.sl 3 0 0 0,.sl 4 0 0 0]::.box [nI al,.sl 5 0 0 (d.length+1),.sl 6 0 0 (ac.length+1)]::.arr [] 0 0::.arr [] 0 0::.vec (aB 7 (d++[row])++aG 0) 1 0::.arr (aK (ac++[false])) 1 0::aI (d++[row]))else gcO 1 mk s (.box [.d y1,.d y2]::T8)
    |.no=>([],[]):=by
   intro mk s;rw[e8];exact aSa om
  have st_app1:∀ {call:aX} {thaw:List Nat} {dst:Option Tmp} {args:Array Operand},memD env call thaw dst (.call ⟨.builtin .append,args,#[104,104]⟩) (.box [.d y1,.d y2]::T1) [.sl (d.length+6+1) 0 0 0,.sl 7 0 0 row.length]=some (.sl (d.length+7) 1 0 row.length,.box [.d y1,.d y2]::T2,{ ids:=[d.length+7,7],ro:=false,wr:=[d.length+7]}):=by
   intro call thaw dst args;have h7r:T1[6]? =some (.arr (ints row) 1 0):=by rw[k1 _ om];exact t0r 0 row hd
   rw[aEZ (e:=3) (e0:=1) (n2:=row.length) (len:=0) (cs:=[]) (src:=ints row) rfl QH kr (by rw[Av];exact g1) (.inr rfl) (by rw[Av];exact h7r) (by simp[ints]) sm (by unfold bI;omega) om];rw[By,<-h2];simp
  have st_vec:∀ {call:aX} {thaw:List Nat} {dst:Option Tmp} {x:Operand},Shut ((keeps thaw dst&& !logs thaw dst)=true)->memD env call thaw dst (.buildSlice 23 1 #[(0,x)]) (.box [.d y1,.d y2]::T2) [.sl (d.length+7) 1 0 row.length]=some (.sl (d.length+8) 0 0 1,.box [.d y1,.d y2]::T3,{ ids:=[d.length+7,d.length+8],ro:=false}):=by
   intro call thaw dst x hk;rw[aNM (e:=104) (cs:=ints row) (es:=1) hk.it rfl kr aJo kr (by rw[show d.length+7=d.length+6+1 by omega,Av];exact g2)];rw[As,h3,Ac,l2,l1]
  have ok_row:∀(T:H) (i:Nat) (r:List Int) (g:Nat),T[i+6]? =some (.arr (ints r) 1 g)->Okay (.box [.d y1,.d y2]::T) (i+7):=by
   intro T i r g hr;have hg:(O.box [.d y1,.d y2]::T)[i+7]? =some (.arr (ints r) 1 g):=by rw[show i+7=i+6+1 by omega,Av];exact hr
   exact .mk _ _ hg sm (by rw[bL hg];simp)
  have t3r:∀(i:Nat) (r:List Int),d[i]? =some r->T3[i+6]? =some (.arr (ints r) 1 0):=by
   intro i r hr;have hi:i<d.length:=(At.1 hr).1;rw[k3 _ om,k2 _ om,k1 _ om];exact t0r i r hr
  have t3e:T3[d.length+6]? =some (.arr (ints row) 1 1):=by rw[k3 _ om];exact g2
  have t34:T3[4]? =some (.vec (aB 7 d++aG 0) 1 0):=by rw[k3 _ om,k2 _ om,k1 _ om,t04]
  have g3':T3[d.length+7]? =some (.vec [.sl (d.length+7) 1 0 row.length] 1 0):=g3
  have ok35:Okay (.box [.d y1,.d y2]::T3) 5:=by
   have hg:(O.box [.d y1,.d y2]::T3)[5]? =some (.vec (aB 7 d++aG 0) 1 0):=t34;refine .mk _ _ hg sm ?_;intro q hq;have:kids (.box [.d y1,.d y2]::T3) 5=List.range' 7 d.length:=by simp only[kids,hg,bM,bY,dO,Ah]
   rw[this,Cx]at hq;obtain⟨z,rfl⟩:∃z,q=z+7:=⟨q-7,by omega⟩
   exact ok_row T3 z (d[z]'om) 0 (t3r _ _ (Ae _))
  have ok3e:Okay (.box [.d y1,.d y2]::T3) (d.length+8):=by
   have hg:(O.box [.d y1,.d y2]::T3)[d.length+8]? =some (.vec [.sl (d.length+7) 1 0 row.length] 1 0):=g3';refine .mk _ _ hg sm ?_;intro q hq;have:kids (.box [.d y1,.d y2]::T3) (d.length+8)=[d.length+7]:=by simp[kids,hg,idsL,idsA]
   rw[this]at hq;simp at hq;subst hq;exact ok_row T3 d.length row 1 t3e
  obtain⟨o1,ho1⟩:∃o,o=aD aF (.box [.d y1,.d y2]::T3) [5,d.length+8] []:=⟨_,rfl⟩
  have st_app2:∀ {call:aX} {thaw:List Nat} {dst:Option Tmp} {args:Array Operand},memD env call thaw dst (.call ⟨.builtin .append,args,#[23,23]⟩) (.box [.d y1,.d y2]::T3) [.sl 5 0 0 d.length,.sl (d.length+8) 0 0 1]=some (.sl 5 1 0 (d.length+1),.box [.d y1,.d y2]::T4,{ ids:=o1,ro:=false,wr:=[5]}):=by
   intro call thaw dst args;rw[aFl (e:=104) rfl aJo kr (id:=5) (id2:=d.length+8) (g:=0) (g2:=0) (len:=d.length) (cs:=aB 7 d++aG 0) (c:=.sl (d.length+7) 1 0 row.length) t34 g3' om (by unfold bI;omega) ok35 ok3e (by rw[tA];simp only[jL,idsL,idsA,Am,Ab];omega),<-ho1,ht];rw[By,h4]
  have t41:T4[1]? =some (.box [nI al,.sl 5 0 0 d.length,.sl 6 0 0 ac.length]):=by rw[k4 _ om,k3 _ om,k2 _ om,k1 _ om,t01]
  have t45:T4[5]? =some (.arr (aK ac) 1 0):=by rw[k4 _ om,k3 _ om,k2 _ om,k1 _ om,t05]
  have ok45:Okay (.box [.d y1,.d y2]::T4) 5:=by
   have hg:(O.box [.d y1,.d y2]::T4)[5]? =some (.vec (aB 7 d++[.sl (d.length+7) 1 0 row.length]) 1 1):=g4;refine .mk _ _ hg sm ?_;intro q hq;have:kids (.box [.d y1,.d y2]::T4) 5=List.range' 7 d.length++[d.length+7]:=by simp only[kids,hg,bM,bY,idsL,idsA,Ah]
   rw[this,Aq,Cx]at hq
   rcases hq with hq|hq
   ·obtain⟨z,rfl⟩:∃z,q=z+7:=⟨q-7,by omega⟩
    exact ok_row T4 z (d[z]'om) 0 (by rw[k4 _ om];exact t3r _ _ (Ae _))
   ·simp at hq;subst hq;exact ok_row T4 d.length row 1 (by rw[k4 _ om];exact t3e)
  have ok46:Okay (.box [.d y1,.d y2]::T4) 6:=by
   have hg:(O.box [.d y1,.d y2]::T4)[6]? =some (.arr (aK ac) 1 0):=t45;exact .mk _ _ hg sm (by rw[bL hg];simp)
  have ok42:Okay (.box [.d y1,.d y2]::T4) 2:=by
   have hg:(O.box [.d y1,.d y2]::T4)[2]? =some (.box [nI al,.sl 5 0 0 d.length,.sl 6 0 0 ac.length]):=t41;refine .mk _ _ hg sm ?_;intro q hq;have:kids (.box [.d y1,.d y2]::T4) 2=[5,6]:=by simp[kids,hg,idsL,idsA]
   rw[this]at hq;simp at hq
   rcases hq with rfl|rfl
   ·exact ok45
   ·exact ok46
  obtain⟨o2,ho2⟩:∃o,o=aD aF (.box [.d y1,.d y2]::T4) [2,5] []:=⟨_,rfl⟩
  have st_sto:∀ {call:aX} {thaw:List Nat} {dst:Option Tmp} {x y:Operand},memD env call thaw dst (.store 23 x y) (.box [.d y1,.d y2]::T4) [.ptr 2 0 1,.sl 5 1 0 (d.length+1)]=some (.d .undef,.box [.d y1,.d y2]::T5,{ ids:=o2,ro:=false,wr:=o2}):=by
   intro call thaw dst x y;rw[MO kr kr (h:=.box [.d y1,.d y2]::T4) (id:=2) (id2:=5) (off:=1) (cs:=[nI al,.sl 5 0 0 d.length,.sl 6 0 0 ac.length]) t41 sm ok42 ok45 (by rw[tA];simp only[jL,idsL,idsA,Am,Ab];omega),<-ho2];rw[By];unfold bD;rw[<-h5];rfl
  have hclash:∀(ops:List Oper),yD [(1,2),(2,4),(2,5),(2,6),(1,7),(1,8)] ops [{},{ ids:=[2],ro:=true},{ ids:=[d.length+6+1],ro:=false},{},{ ids:=[2],ro:=true},{ ids:=[5],ro:=true},{ ids:=[5],ro:=true},{ ids:=[d.length+7,7],ro:=false,wr:=[d.length+7]},{ ids:=[d.length+7,d.length+8],ro:=false},{ ids:=o1,ro:=false,wr:=[5]},{},{ ids:=o2,ro:=false,wr:=o2}]=true->jI ops [{},{ ids:=[2],ro:=true},{ ids:=[d.length+6+1],ro:=false},{},{ ids:=[2],ro:=true},{ ids:=[5],ro:=true},{ ids:=[5],ro:=true},{ ids:=[d.length+7,7],ro:=false,wr:=[d.length+7]},{ ids:=[d.length+7,d.length+8],ro:=false},{ ids:=o1,ro:=false,wr:=[5]},{},{ ids:=o2,ro:=false,wr:=o2}]=true:=by
   intro ops hm;refine PR _ hm ?_;intro q hq;simp only[Au,Bv,or_false]at hq
   rcases hq with rfl|rfl|rfl|rfl|rfl|rfl<;>simp[lQ]<;>omega
  have t5b:T5[5]? =some (.arr (aK ac) 1 0):=by rw[k5 _ om,t45]
  have t65:T6[5]? =some (.arr (aK ac) 1 0):=by rw[k6 _ om,t5b]
  have t71:T7[1]? =some (.box [nI al,.sl 5 1 0 (d.length+1),.sl 6 0 0 ac.length]):=by rw[k7 _ om,k6 _ om,g5]
  have t61:T6[1]? =some (.box [nI al,.sl 5 1 0 (d.length+1),.sl 6 0 0 ac.length]):=by rw[k6 _ om,g5]
  have hp0:(0:Int)<d.length:=om;have t11:T1[1]? =some (.box [nI al,.sl 5 0 0 d.length,.sl 6 0 0 ac.length]):=by rw[k1 _ om,t01]
  have t14:T1[4]? =some (.vec (aB 7 d++aG 0) 1 0):=by rw[k1 _ om,t04]
  have l5':T5.length=d.length+8:=om;rw[<-e0];clear k1 k2 k3 k4 k5 k6 k7 w0 w1 w2 w3 w4 ok35 ok3e ok45 ok46 ok42 ok_row t3r t3e ho1 ho2 e0 e8 l1 l2 l3 l4 l5 l6 l7 hlv ht hd hpos t0r g3 g3'
  simp-implicitDefEqProofs (maxSteps:=9^7) (disch:=try exact Dz) only[↓DN,↓kRet,UP,simprocAttr,LA,hn0,hc,hp0,l0,t01,h1,t11,t14,hh0,↓st_app1,↓st_vec,↓st_app2,↓st_sto,g5,l5',h6,g6,t65,h7,t71,h8,B3,↓st_gc,↓ih',wN,vT,Tryz.f134]
theorem aJ5{c:List UInt8}(hc:c.length<=2000)(al:Int)(nx:List (List Int))(ac:List Bool)(hs:bN nx)(h1:1<=nx.length)(ha:ac.length<=4294967000)(hnl2:nx.length<=4294967000)(p t:Int){row:List Int}(hrow:nx[0]? =some row)(hrl:row.length<=4294967290)(j:Nat)(hj:nx.length+j=13\/j=0/\13<=nx.length)
  (kd1:(Dw 1 72 [nI (nx.length)] (nI t) c p (p+1)))
  (kd2:(Dw 1 72 [nI 30] (nI 5) c (p+1) (p+1+1))):(Dw 4 134 [autD al nx ac] (autD al (nx++List.replicate j row) (ac++List.replicate j false)) c p (p+1+1)):=by
 intro R L n hq k hn hL;refine aZ iK (by simp[autD,idsA,idsL]) (by simp[autD,idsA,idsL]) ?_;have hnl:=hs.1;obtain⟨N,T1,T2,T3,w⟩:=xX (.box [nI al,.d (.ivs nx.length (aP nx)),.d (.ivs ac.length (aK ac))]) (.box [nI 0,.sl 2 0 0 0,.sl 3 0 0 0]) al nx ac;have kd3:=fun {R:Type} {n:Nat} {o1:O} {k:KA R} (hn:2<=n)=>BJ (R:=R) (L:=L) (n:=n) (o1:=o1) (al:=al) (k:=k) w.h1 hs h1 om hn hL;obtain⟨hN,hT1,l1,h2,b2,h3,l3,t3,t4,t5,tr,tb,e3,wg⟩:=w;clear hT1
 have st_gc:∀ {y1 y2:D} {mk:List Bool} {s:List A},gc 1 mk s (.box [.d y1,.d y2]::T3)=match box (tidy mk s)with
   |.mk s1=>if N8 nx.length (idsL s1)=true/\z0As s1=true then(aE (A3 nx.length) s1,.box [.d y1,.d y2]::.box [nI 0,.sl 3 0 0 0,.sl 4 0 0 0]::.box [nI al,.sl 5 0 0 nx.length,.sl 6 0 0 ac.length]::.arr [] 0 0::.arr [] 0 0::.vec (aB 7 nx++aG 0) 1 0::.arr (aK ac) 1 0::aI nx)else gcO 1 mk s (.box [.d y1,.d y2]::T3)
   |.no=>([],[]):=by
  intro y1 y2 mk s;rw[e3];exact aRI om
 have loop_a:=fun {R:Type} {n:Nat} {y1 y2 x0:D} {k:KE R}=>aD8 (R:=R) (L:=L) (n:=n) (y1:=y1) (y2:=y2) (x0:=x0) (al:=al) (n0:=nx.length) (k:=k) om hrl j L nx ac nx.length ac.length hj om hrow rfl rfl om om;have hl1:(nx++List.replicate j row).length=nx.length+j:=sm;have hl2:(ac++List.replicate j false).length=ac.length+j:=sm;generalize nx++List.replicate j row=nx2 at *;generalize ac++List.replicate j false=ac2 at *;obtain⟨T9,e9⟩:∃T:H,.box [nI al,.sl 5 0 0 (nx.length+j),.sl 6 0 0 (ac.length+j)]::.box [nI al,.sl 5 0 0 (nx.length+j),.sl 6 0 0 (ac.length+j)]::.arr [] 0 0::.arr [] 0 0::.vec (aB 7 nx2++aG 0) 1 0::.arr (aK ac2) 1 0::aI nx2=T:=⟨_,rfl⟩
 have g9:T9[0]? =some (.box [nI al,.sl 5 0 0 (nx.length+j),.sl 6 0 0 (ac.length+j)]):=by rw[<-e9];rfl
 have hv:rd1 (rdO c (p+1+1)::T9) (.sl 5 0 0 (nx.length+j))=some (.ivs nx2.length (aP nx2)):=by
  refine GL (cs:=aB 7 nx2++aG 0) (by rw[<-e9];rfl) (PT fun i r hr=> ?_) hl1.symm;rw[<-e9];simp only[Av];have:=GS (p:=[]) hr
  rwa [Ah]at this
 have hw:rd1 (rdO c (p+1+1)::T9) (.sl 6 0 0 (ac.length+j))=some (.ivs ac2.length (aK ac2)):=xJ (by rw[<-e9];rfl) hl2.symm;obtain⟨h2',st_out,st_keep,st_trim⟩:=AW (al:=al) hv hw om om;unfold autD at st_out|-;have hke:N+1+1+1=nx.length+9:=om;clear hv hw tr h1 wg e3 hrow;obtain _|n:=n;omega
 simp-implicitDefEqProofs (maxSteps:=9^7) (disch:=try exact Dz) only[↓DN,↓kRet,UP,simprocAttr,↓kd1,↓kd2,↓kd3,l1,h2,b2,h3,tb,↓st_gc,aMe,aE3,aBL,z0As,z0A,eq_self,↓loop_a,e9,g9,↓st_out,↓st_keep,↓st_trim,Ao,c9,dC,Tryz.f134]
mutual
theorem aE1{f g:Nat->Option Nat}(hfg:∀k,f k=none->g k=none):∀a:A,idsA (mapA f a)=[]->mapA g a=mapA f a
 |.d x,_=>by simp only[mapA]
 |.sl id gen off len,h=>by
  simp only[mapA]at h|-
  cases hf:f id with
  |none=>rw[hfg id hf]
  |some m=>rw[hf]at h;simp[idsA]at h
 |.ptr id gen off,h=>by
  simp only[mapA]at h|-
  cases hf:f id with
  |none=>rw[hfg id hf]
  |some m=>rw[hf]at h;simp[idsA]at h
 |.mp id,h=>by
  simp only[mapA]at h|-
  cases hf:f id with
  |none=>rw[hfg id hf]
  |some m=>rw[hf]at h;simp[idsA]at h
 |.clo c caps,h=>by simp only[mapA,idsA]at h|-;rw[FX hfg caps h]
 |.agg cs,h=>by simp only[mapA,idsA]at h|-;rw[FX hfg cs h]
 |.tup cs,h=>by simp only[mapA,idsA]at h|-;rw[FX hfg cs h]
 |.junk,_=>by simp only[mapA]
theorem FX{f g:Nat->Option Nat}(hfg:∀k,f k=none->g k=none):∀l:List A,idsL (aE f l)=[]->aE g l=aE f l
 | [],_=>by simp only[aE]
 |a::l,h=>by
  simp only[aE,idsL,List.append_eq_nil_iff]at h;simp only[aE];rw[aE1 hfg a h.1,FX hfg l h.2]
end
theorem aNE{f:Nat->Option Nat}{a:A}{x:D}(h:mapA f a=.d x):a=.d x:=by
 cases a with
 |d y=>simpa [mapA]using h
 |sl id gen off len=>simp only[mapA]at h;split at h<;>cases h
 |ptr id gen off=>simp only[mapA]at h;split at h<;>cases h
 |mp id=>simp only[mapA]at h;split at h<;>cases h
 |clo c caps=>simp[mapA]at h
 |agg cs=>simp[mapA]at h
 |tup cs=>simp[mapA]at h
 |junk=>simp[mapA]at h
theorem aRm{f:Nat->Option Nat}{o:O}{c:List UInt8}{q:Int}(h:mapO f o=rdO c q):o=rdO c q:=by
 cases o with
 |box cs=>
  simp only[mapO,O.box.injEq]at h
  match cs,h with
  | [a,b],h=>
   simp only[aE,List.cons.injEq,and_true]at h;rw[aNE h.1,aNE h.2]
  | [],h=>simp[aE]at h
  | [_],h=>simp[aE]at h
  |_::_::_::_,h=>simp[aE]at h
 |_=>simp[mapO]at h
theorem aHF{L n m:Nat}{f:FuncId}{args:List A}{c:List UInt8}{p q:Int}{r:A}(ha:idsL args=[])(hr:idsA r=[])
  (kd:∀(R:Type) (L n:Nat) (hq:H) (k:KA R),m<=n->2^60<=L->aW env (aA env L n) (rdO c p::hq) f (.ptr 0 0 0::args) k=k r (rdO c q::hq))
  {R:Type} {hq:H} {k:KA R} {i:Nat} (hn:m<=n) (hL:2^60<=L) (hi:hq[i]? =some (rdO c p)):
  aW env (aA env L n) hq f (.ptr i 0 0::args) k=k r (hq.set i (rdO c q)):=by
 have h0:=kd (A×H) L n [] (fun a h=>some (a,h)) hn hL;generalize aA env L n=call at h0|-;have hid:∀j,idsL (A.ptr j 0 0::args)=[j]:=fun j=>by simp[idsL,idsA,ha]
 have hre:∀(h:H) (j:Nat),h[j]? =some (rdO c p)->aD aF h [j] []=[j]:=by
  intro h j hj
  have e1:aD aF h [j] []=match h[j]? with
   |some (.box cs)=>aD (aF-1) h ([]++idsL cs) ([]++[j])
   |some (.vec cs _ _)=>aD (aF-1) h ([]++idsL cs) ([]++[j])
   |some .void=>aD (aF-1) h [] []
   |some _=>aD (aF-1) h [] ([]++[j])
   |none=>aD (aF-1) h [] []:=rfl
  rw[e1,hj];rfl
 have hpk:∀(h:H) (j:Nat),h[j]? =some (rdO c p)->pack h [j]=[rdO c p]:=by
  intro h j hj;simp only[pack,Af,Al,Aa,hj]<;>rfl
 have hma:∀j,aE (aH [j]) (A.ptr j 0 0::args)=A.ptr 0 0 0::args:=by
  intro j;simp only[aE,gB _ ha];simp[mapA,aH]
 have hcl:∀(h:H) (j:Nat),h[j]? =some (rdO c p)->closed h [j] [j]=true:=by
  intro h j hj;simp only[closed,Bp,Cc,hj];simp[idsL,idsA]
 unfold aW at h0|-;rw[hid,hre hq i hi,hpk hq i hi,hma];rw[hid,hre [rdO c p] 0 rfl,hpk [rdO c p] 0 rfl,hma]at h0
 cases hc:bV call env.hint [rdO c p] f (A.ptr 0 0 0::args)with
 |none=>rw[hc]at h0;simp at h0
 |some y=>
  obtain⟨a,h1⟩:=y;rw[hc]at h0;simp only[hcl [rdO c p] 0 rfl,hcl hq i hi,and_true,Ac,Ab]at h0|-
  split at h0
  ·rename_i hlen
   rw[if_pos hlen];simp only[Option.some.injEq,Prod.mk.injEq]at h0;obtain⟨g1,g2⟩:=h0
   match h1,hlen,g1,g2 with
   |o::rest,hlen,g1,g2=>
    simp only[bE,Ce,As,Am,List.cons.injEq,List.map_eq_nil_iff]at g2;obtain⟨g2,rfl⟩:=g2;have ho:=aRm g2;subst ho
    have ga:mapA (back [i] hq.length 1) a=r:=by
     rw[aE1 (f:=back [0] 1 1) (g:=back [i] hq.length 1) ?_ a (by have:=g1;simp only[Ac,Ab,Ag]at this;rw[this];exact hr)]
     ·simpa using g1
     ·intro j hj;unfold back at hj|-
      by_cases h0:j< [i].length
      ·have:j=0:=by simp at h0;exact h0
       subst this;simp at hj
      ·have h0':¬j< [0].length:=by simpa using h0
       rw[if_neg h0']at hj;rw[if_neg h0]
       split at hj
       ·cases hj
       ·rename_i h2;rw[if_neg h2]
    simp only[Ac,Ab,Ag];rw[ga]
    congr 1
    simp[bE,mapO,aE,mapA]
  ·simp at h0
theorem aJq{R:Type}{L n:Nat}{hq:H}{k:KA R}(c0:List UInt8)(hn:1<=n)(hc:c0.length<=4294967296):aW env (aA env L n) hq 70 [.d (.ivs c0.length (a7 c0))] k=k (.ptr hq.length 0 0) (hq++[O.box [A.d (D.ivs (src c0).length (a7 (src c0))),A.d (D.int .i64 0)]]):=by
 have he:=aRo (L:=L) hn c0 hc;unfold aW;have h1:aD aF hq (idsL [A.d (D.ivs c0.length (a7 c0))]) []=[]:=rfl;have h2:pack hq []=[]:=rfl;have h3:aE (aH []) [A.d (D.ivs c0.length (a7 c0))]=[A.d (D.ivs c0.length (a7 c0))]:=rfl;rw[h1,h2,h3]
 have h4:bV (aA env L n) env.hint [] 70 [A.d (D.ivs c0.length (a7 c0))]=some (.ptr 0 0 0,[O.box [A.d (D.ivs (src c0).length (a7 (src c0))),A.d (D.int .i64 0)]]):=by
  unfold bV;rw[aN1];have h5:eS ([]:H) [A.d (D.ivs c0.length (a7 c0))]=some ([A.d (D.ivs c0.length (a7 c0))],[]):=rfl;simp only[h5,he]<;>rfl
 rw[h4];have hcl:closed hq [] (idsL [A.d (D.ivs c0.length (a7 c0))])=true:=rfl;simp only[hcl,Ab,Cw,and_self,if_true]
 congr 1
structure AutB(B:Nat)(nx:List (List Int))(ac:List Bool):Prop where
 n:nx.length<=B
 a:ac.length<=B
 r:∀r∈nx,r.length<=B
theorem AutB.short{B:Nat}{nx:List (List Int)}{ac:List Bool}(h:AutB B nx ac)(hB:B<=4294967000):bN nx:=⟨by have:=h.n;omega,fun r hr=>by have:=h.r r hr;omega⟩
theorem AutB.mono{B C:Nat}{nx:List (List Int)}{ac:List Bool}(h:AutB B nx ac)(hB:B<=C):AutB C nx ac:=⟨by have:=h.n;omega,by have:=h.a;omega,fun r hr=>by have:=h.r r hr;omega⟩
theorem AutB.at{B:Nat}{nx:List (List Int)}{ac:List Bool}(h:AutB B nx ac)(i:Nat):(nx.getD i []).length<=B:=by
 rw[Aa]
 cases hg:nx[i]? with
 |none=>simp
 |some r=>simpa using h.r r (Bo hg)
theorem aOm{c:List UInt8}(hc:c.length<=2000){B:Nat}(hB:B<=4294966000)(al:Int)(nx:List (List Int))(ac:List Bool)(hb:AutB B nx ac)(h1:1<=nx.length)(p:Int)(hp:0<=p)(hp2:p<=890000000):
  ∃(al2:Int) (nx2:List (List Int)) (ac2:List Bool) (q:Int),AutB (B+13) nx2 ac2/\(1<=nx2.length\/nx2=[]/\ac2=[])/\p<=q/\q<=p+4/\(Dw 4 134 [autD al nx ac] (autD al2 nx2 ac2) c p q):=by
 have hs:=hb.short om;have hn:=hb.n;have hba:=hb.a;obtain⟨k,k0,k1,_,kd1⟩:=cL hc p nx.length hp om;obtain⟨u,u0,u1,_,kd2⟩:=cL hc (p+1) 30 om om;have k1:=k1 om;obtain⟨t,rfl⟩:∃t:Nat,k=t:=⟨k.toNat,by omega⟩
 have ht:t<nx.length:=om;have hrt:=hb.at t
 by_cases hu0:u=0
 ·subst hu0;obtain⟨al2,kd⟩:=aMd hc al nx ac hs h1 om p t hp om kd1 kd2;exact⟨al2,nx,ac,_,hb.mono om,.inl h1,by omega,by omega,kd⟩
 by_cases hu1:u=1
 ·subst hu1;refine⟨al,nx,ac++[true],_,⟨by omega,by simp;omega,fun r hr=> ?_⟩,.inl h1,by omega,by omega,aMu hc al nx ac hs h1 om p t kd1 kd2⟩;have:=hb.r r hr;omega
 by_cases hu2:u=2
 ·subst hu2;refine⟨al,_,ac,_,⟨by rw[Bt];omega,by omega,fun r hr=> ?_⟩,.inl (by rw[Bt];exact h1),by omega,by omega,aJM hc al nx ac hs h1 om p t ht om kd1 kd2⟩
  rcases Dx hr with h|h
  ·have:=hb.r r h;omega
  ·rw[h,Ai,Ac,Ab];omega
 by_cases hu3:u=3
 ·subst hu3
  by_cases h0:(nx.getD t []).length=0
  ·exact⟨al,nx,ac,_,hb.mono om,.inl h1,by omega,by omega,aLJ hc al nx ac hs h1 om p t ht h0 kd1 kd2⟩
  ·obtain⟨v,v0,v1,_,kd4⟩:=cL hc (p+1+1) (nx.getD t []).length om om;have v1:=v1 om;obtain⟨j,rfl⟩:∃j:Nat,v=j:=⟨v.toNat,by omega⟩
   obtain⟨w,kd⟩:=aJK hc al nx ac hs h1 om p hp om t ht j om kd1 kd2 kd4;refine⟨al,_,ac,_,⟨by rw[Bt];omega,by omega,fun r hr=> ?_⟩,.inl (by rw[Bt];exact h1),by omega,by omega,kd⟩
   rcases Dx hr with h|h
   ·have:=hb.r r h;omega
   ·rw[h,Bt];omega
 by_cases hu4:u=4
 ·subst hu4;exact⟨al,[],[],_,⟨by simp,by simp,by simp⟩,.inr ⟨rfl,rfl⟩,by omega,by omega,aHb hc al nx ac hs h1 om p t kd1 kd2⟩
 by_cases hu5:u=5
 ·subst hu5;have h0:nx[0]? =some (nx[0]'om):=Ae _;have hr0:=hb.r _ (Ba (by omega:0<nx.length));refine⟨al,_,_,_,⟨?_,?_,fun r hr=> ?_⟩,.inl (by rw[Ai];omega),by omega,by omega,aJ5 hc al nx ac hs h1 om om p t h0 om (13-nx.length) om kd1 kd2⟩
  ·simp;omega
  ·simp;omega
  ·rcases Aq.1 hr with h|h
   ·have:=hb.r r h;omega
   ·obtain⟨_,rfl⟩:=List.mem_replicate.1 h;omega
 exact⟨al,nx,ac,_,hb.mono om,.inl h1,by omega,by omega,aIN hc al nx ac hs h1 om p t u hu0 hu1 hu2 hu3 hu4 hu5 kd1 kd2⟩
theorem aLr{c:List UInt8}(hc:c.length<=2000){B:Nat}(hB:B<=4294966000)(al:Int)(nx:List (List Int))(ac:List Bool)(hb:AutB B nx ac)(h1:1<=nx.length)(p:Int)(hp:0<=p)(hp2:p<=890000000):
  ∃(al2:Int) (nx2:List (List Int)) (ac2:List Bool) (q:Int),AutB (B+13) nx2 ac2/\p<=q/\q<=p+4/\(Dw 4 134 [autD al nx ac] (autD al2 nx2 ac2) c p q):=by
 obtain⟨al2,nx2,ac2,q,a,_,b⟩:=aOm hc hB al nx ac hb h1 p hp hp2;exact⟨al2,nx2,ac2,q,a,b⟩
theorem aOo:(env.hint 194).mode=0:=kr
theorem aCo{c:List UInt8}(hc:c.length<=2000)(p:Int)(hp:0<=p)(hp2:p<=500000000):∃(al st:Int) (es:List Edge) (q:Int),es.length<=60000/\p<=q/\q<=p+70000/\(Dw 5 194 [] (.agg [nI al,nI st,.d (.ivs es.length (aJ es))]) c p q):=by
 obtain⟨al,h1,kd1⟩:=eY hc [3,6,7,5,2] sm sm p hp om;obtain⟨st,h2,kd2⟩:=eY hc [2,3,1,3] sm sm (p+1) om om;obtain⟨few,h3,kd3⟩:=eY hc [2,3,4] sm sm (p+1+1) om om;have hst:0<=st/\st<=100:=by simp at h2;omega
 obtain⟨es,q,g1,g2,g3,kd4⟩:=YV hc al st few hst.1 hst.2 (p+1+1+1) om om;simp only[ints,Af,Al,Ac,Ab,Ag,Nat.reduceAdd]at kd1 kd2 kd3;refine⟨al,st,es,q,g1,by omega,by omega,fun R L n hq k hn hL=>aZ aOo rfl rfl ?_⟩;obtain _|n:=n;omega
 simp-implicitDefEqProofs (maxSteps:=9^7) (disch:=try exact Dz) only[↓DN,↓kRet,UP,simprocAttr,↓kd1,↓kd2,↓kd3,↓kd4,aIH,ZM,Tryz.f194]
theorem H2{l:List Sys}{a b:Int}{es:List Edge}:sysD l++[.int .i64 a,.int .i64 b,.ivs es.length (aJ es)]=sysD (l++[⟨a,b,es⟩]):=by
 induction l with
 |nil=>rfl
 |cons s l ih=>simp only[sysD,As,ih]
def SysB(B:Nat)(P:List Sys):Prop:=∀s∈P,s.es.length<=B
theorem SysB.snoc{B:Nat}{P:List Sys}(h:SysB B P){s:Sys}(hs:s.es.length<=B):SysB B (P++[s]):=by
 intro x hx
 rcases Aq.1 hx with h1|h1
 ·exact h x h1
 ·rw[Bi]at h1;rw[h1];exact hs
theorem aEh{c:List UInt8}(hc:c.length<=2000):∀(j:Nat) (i p:Int) (P:List Sys) (len:Nat) (hi:i=j) (hj:P.length+j<=4) (hlen:len=P.length) (hs:SysB 60000 P) (hp:0<=p) (hp2:p+j*150000<=400000000),
  ∃(P2:List Sys) (q:Int),P2.length=P.length+j/\SysB 60000 P2/\p<=q/\q<=p+j*150000/\∀(R:Type) (L n m:Nat) (k:KE R),15<=n->2^60<=L->j<m->
  aS env (aA env L n) L 1 [] Bz58 (MC 0) (Z1 (U1 (Z2 (Z1 (U16 (U4 (U1 ([])))))))) m (.ptr 0 0 0::Y1 (.d .nils::.sl 1 0 0 len::nI i::Y16 (Y4 (Y1 ([]))))) [rdO c p,.arr (sysD P) 3 0] k
  =k (.exit 0) (.ptr 0 0 0::Y1 (.d .nils::.sl 1 0 0 P2.length::nI 0::Y16 (Y4 (Y1 ([]))))) [rdO c q,.arr (sysD P2) 3 0]:=by
 intro j
 induction j with
 |zero=>
  intro i p P len hi hj hlen hs hp hp2;subst hlen;obtain rfl:i=0:=om;refine⟨P,p,by omega,hs,by omega,by omega,fun R L n m k hn hL hm=> ?_⟩;obtain _|m:=m;omega
  simp-implicitDefEqProofs (maxSteps:=9^7) (disch:=try exact Dz) only[↓DN,↓kRet,UP,simprocAttr,Ak,yQ,yY,Tryz.f132]
 |succ j ih=>
  intro i p P len hi hj hlen hs hp hp2;subst hlen;have hlt:0<i:=om;obtain⟨al,st,es,q1,a1,a2,a3,kd1⟩:=aCo hc p hp om;obtain⟨v,v0,v1,_,kd2⟩:=cL hc q1 3 om om
  by_cases hv:v=0
  ·obtain⟨al2,st2,es2,q2,b1,b2,b3,kd3⟩:=aE9 hc (q1+1) om om;obtain⟨P2,q,g1,g2,g3,g4,kd4⟩:=ih (i-1) q2 (P++[⟨al2,st2,es2⟩]) (P.length+1) om (by simp;omega) sm (hs.snoc b1) om om;refine⟨P2,q,by simp at g1;omega,g2,by omega,by omega,fun R L n m k hn hL hm=> ?_⟩;obtain _|m:=m;omega
   simp-implicitDefEqProofs (maxSteps:=9^7) (disch:=try exact Dz) only[↓DN,↓kRet,UP,simprocAttr,NE,hlt,↓kd1,↓kd2,hv,↓kd3,H2,↓kd4,yQ,yY,Tryz.f132]
  ·obtain⟨P2,q,g1,g2,g3,g4,kd4⟩:=ih (i-1) (q1+1) (P++[⟨al,st,es⟩]) (P.length+1) om (by simp;omega) sm (hs.snoc a1) om om;refine⟨P2,q,by simp at g1;omega,g2,by omega,by omega,fun R L n m k hn hL hm=> ?_⟩;obtain _|m:=m;omega
   simp-implicitDefEqProofs (maxSteps:=9^7) (disch:=try exact Dz) only[↓DN,↓kRet,UP,simprocAttr,NE,hlt,↓kd1,↓kd2,hv,H2,↓kd4,yQ,yY,Tryz.f132]
theorem aP8:(env.hint 132).mode=0:=kr
theorem aMZ{c:List UInt8}(hc:c.length<=2000)(p:Int)(hp:0<=p)(hp2:p<=300000000):∃(P:List Sys) (q:Int),1<=P.length/\P.length<=3/\SysB 60000 P/\p<=q/\q<=p+600000/\∀(L n:Nat),16<=n->2^60<=L->aA env L n 132 [.ptr 0 0 0] [rdO c p]=some (.sl 1 0 0 P.length,[rdO c q,.arr (sysD P) 3 0]):=by
 obtain⟨v,hv,kd1⟩:=eY hc [2,2,3,1] sm sm p hp om;have hv1:1<=v/\v<=3:=by simp at hv;omega
 obtain⟨P,q,g1,g2,g3,g4,kd2⟩:=aEh hc v.toNat v (p+1) [] 0 om (by simp;omega) rfl (fun s hs=>by cases hs) om om;simp only[ints,Af,Al,Ac,Ab,Ag,Nat.reduceAdd]at kd1;simp only[PX]at kd2;simp only[Ab,Ag]at g1;refine⟨P,q,by omega,by omega,g2,by omega,by omega,fun L n hn hL=> ?_⟩;obtain _|n:=n;omega
 simp-implicitDefEqProofs (maxSteps:=9^7) (disch:=try exact Dz) only[↓DN,↓kAsg,↓kRet,UP,simprocAttr,↓kd1,↓kd2,aJV,aCp,Tryz.f132]
theorem zQ:(env.hint 133).mode=0:=kr
theorem aFq{c:List UInt8}(hc:c.length<=2000)(al:Int)(p:Int)(hp:0<=p)(hp2:p<=800000000):
  (∃(w:Int) (u:Int) (nx:List (List Int)) (ac:List Bool) (q:Int),0<w/\AutB 10 nx ac/\1<=nx.length/\p<=q/\q<=p+90/\(Dw 1 72 [nI 4] (nI w) c p (p+1))/\(∀(R:Type) (L n id:Nat) (hq:H) (k:KA R),2<=n->2^60<=L->hq[id]? =some (.arr [.int .i64 3,.int .i64 2,.int .i64 4,.int .i64 1] 1 0)->aW env (aA env L n) (rdO c (p+1)::hq) 74 [.ptr 0 0 0,.sl (id+1) 0 0 4] k=k (nI u) (rdO c (p+1+1)::hq))/\(Dw 4 196 [nI al,nI u] (autD al nx ac) c (p+1+1) q))
  \/(∃(nx:List (List Int)) (ac:List Bool) (q:Int),AutB 10 nx ac/\1<=nx.length/\p<=q/\q<=p+90/\(Dw 1 72 [nI 4] (nI 0) c p (p+1))/\(Dw 6 197 [nI al] (autD al nx ac) c (p+1) q)):=by
 obtain⟨w,w0,w1,_,kd1⟩:=cL hc p 4 hp om
 by_cases hw:0<w
 ·left;obtain⟨u,hu,kd2⟩:=eY hc [3,2,4,1] sm sm (p+1) om om;have hu1:1<=u/\u<=4:=by simp at hu;omega
  obtain⟨nx,ac,q,g1,g2,g3,g4,g5,he⟩:=YS hc al u (s:=u.toNat) om om om (p+1+1) om om;simp only[ints,Af,Al,Ac,Ab,Ag,Nat.reduceAdd]at kd2;exact⟨w,u,nx,ac,q,hw,⟨by omega,by omega,fun r hr=>by have:=g3 r hr;have:=dD al;omega⟩,by omega,by omega,by omega,kd1,kd2,fun R L n hq k hn hL=>aZ aI3 (by simp[idsL,idsA]) (by simp[autD,idsA,idsL]) (he L n hn hL)⟩
 ·right;obtain rfl:w=0:=om;obtain⟨nx,ac,q,g1,g2,g3,g4,g5,g6,kd2⟩:=aNa hc al (p+1) om om;exact⟨nx,ac,q,⟨by omega,by omega,fun r hr=>by have:=g4 r hr;have:=dD al;omega⟩,by omega,by omega,by omega,kd1,kd2⟩
theorem aGI{c:List UInt8}(hc:c.length<=2000)(a:Int)(p:Int)(hp:0<=p)(hp2:p<=700000000):
  ∃(al:Int) (nx:List (List Int)) (ac:List Bool) (q:Int),AutB 10 nx ac/\1<=nx.length/\p<=q/\q<=p+100/\(Dw 7 133 [nI a] (autD al nx ac) c p q):=by
 obtain⟨v,_,kd1⟩:=eY hc [63,63,5,3,6] sm sm p hp om;obtain⟨t,_,_,_,kd2⟩:=cL hc (p+1) 8 om om;simp only[ints,Af,Al,Ac,Ab,Ag,Nat.reduceAdd]at kd1
 by_cases ht:t=0
 ·obtain⟨al,_,kd3⟩:=aNc hc (p+1+1) om om
  rcases aFq hc al (p+1+1+1) om om with⟨w,u,nx,ac,q,hw,hb,h1,h2,h3,kd4,kd5,kd6⟩|⟨nx,ac,q,hb,h1,h2,h3,kd4,kd5⟩
  ·refine⟨al,nx,ac,q,hb,h1,by omega,by omega,fun R L n hq k hn hL=>aZ zQ (by simp[idsL,idsA]) (by simp[autD,idsA,idsL]) ?_⟩;unfold autD at kd6|-;clear hb;obtain _|n:=n;omega
   simp-implicitDefEqProofs (maxSteps:=9^7) (disch:=try exact Dz) only[↓DN,↓kRet,UP,simprocAttr,↓kd1,↓kd2,ht,↓kd3,↓kd4,hw,↓kd5,↓kd6,rB,nF,Tryz.f133]
  ·refine⟨al,nx,ac,q,hb,h1,by omega,by omega,fun R L n hq k hn hL=>aZ zQ (by simp[idsL,idsA]) (by simp[autD,idsA,idsL]) ?_⟩;unfold autD at kd5|-;clear hb;obtain _|n:=n;omega
   simp-implicitDefEqProofs (maxSteps:=9^7) (disch:=try exact Dz) only[↓DN,↓kRet,UP,simprocAttr,↓kd1,↓kd2,ht,↓kd3,↓kd4,↓kd5,rB,nF,Tryz.f133]
 ·rcases aFq hc (iAnd .i64 a v) (p+1+1) om om with⟨w,u,nx,ac,q,hw,hb,h1,h2,h3,kd4,kd5,kd6⟩|⟨nx,ac,q,hb,h1,h2,h3,kd4,kd5⟩
  ·refine⟨iAnd .i64 a v,nx,ac,q,hb,h1,by omega,by omega,fun R L n hq k hn hL=>aZ zQ (by simp[idsL,idsA]) (by simp[autD,idsA,idsL]) ?_⟩;unfold autD at kd6|-;clear hb;obtain _|n:=n;omega
   simp-implicitDefEqProofs (maxSteps:=9^7) (disch:=try exact Dz) only[↓DN,↓kRet,UP,simprocAttr,↓kd1,↓kd2,ht,↓kd4,hw,↓kd5,↓kd6,rB,nF,Tryz.f133]
  ·refine⟨iAnd .i64 a v,nx,ac,q,hb,h1,by omega,by omega,fun R L n hq k hn hL=>aZ zQ (by simp[idsL,idsA]) (by simp[autD,idsA,idsL]) ?_⟩;unfold autD at kd5|-;clear hb;obtain _|n:=n;omega
   simp-implicitDefEqProofs (maxSteps:=9^7) (disch:=try exact Dz) only[↓DN,↓kRet,UP,simprocAttr,↓kd1,↓kd2,ht,↓kd4,↓kd5,rB,nF,Tryz.f133]

theorem aHd:∀ {a b:List Sys},sysD a++sysD b=sysD (a++b)
 | [],b=>rfl
 |s::a,b=>by
  simp only[sysD,As,aHd (a:=a)]
theorem aCO:∀ {l:List Sys} {k:Nat},(sysD l).take (k*3)=sysD (l.take k)
 |l,0=>by simp[sysD]
 | [],k+1=>by simp[sysD]
 |p::l,k+1=>by
  rw[Bw,Nat.one_mul];simp only[sysD,Ds];rw[aCO]
theorem aR6{Q:List Sys}{k:Nat}{al st:Int}{es:List Edge}(hk:k<Q.length):bD (sysD Q) (k*3) [.int .i64 al,.int .i64 st,.ivs es.length (aJ es)]=sysD (Q.set k ⟨al,st,es⟩):=by
 unfold bD;rw[aCO,show([D.int .i64 al,.int .i64 st,.ivs es.length (aJ es)]).length=3 from rfl,show k*3+3=(k+1)*3 by omega,xP,Ej,if_pos hk,<-aHd];simp[sysD]
theorem aLs{Q:List Sys}{k:Nat}{al st:Int}{es:List Edge}(hk:k<Q.length):List.take (k*3) (sysD Q)++[.int .i64 al,.int .i64 st,.ivs es.length (aJ es)]++List.drop (k*3+3) (sysD Q)=sysD (Q.set k ⟨al,st,es⟩):=aR6 hk
theorem SysB.mono{B C:Nat}{P:List Sys}(h:SysB B P)(hB:B<=C):SysB C P:=fun s hs=>Bk (h s hs) hB
theorem SysB.at{B:Nat}{P:List Sys}(h:SysB B P){i:Nat}(hi:i<P.length):(P.getD i default).es.length<=B:=h _ (by rw[Aa,Ae hi];exact Ba hi)
theorem aDq{c:List UInt8}(hc:c.length<=2000):∀(j:Nat) (p:Int) (P:List Sys) (g len:Nat) (hj:P.length+j=4) (hlen:len=P.length) (hs:SysB 60000 P) (hp:0<=p) (hp2:p+j*70000<=400000000),
  ∃(P2:List Sys) (q:Int),P2.length=4/\SysB 60000 P2/\p<=q/\q<=p+j*70000/\∀(R:Type) (L n m:Nat) (k:KE R),6<=n->2^60<=L->j<m->
  aS env (aA env L n) L 2 [] Bz59 (HQ 0) (Z2 (U2 (Z1 (U16 (U8 (U4 (U1 ([])))))))) m (.ptr 0 0 0::.sl 1 g 0 len::Y2 (.d .nils::Y16 (Y8 (Y4 (Y1 ([])))))) [rdO c p,.arr (sysD P) 3 g] k
  =k (.exit 1) (.ptr 0 0 0::.sl 1 (g+j) 0 4::Y2 (.d .nils::Y16 (Y8 (Y4 (Y1 ([])))))) [rdO c q,.arr (sysD P2) 3 (g+j)]:=by
 intro j
 induction j with
 |zero=>
  intro p P g len hj hlen hs hp hp2;obtain rfl:len=4:=om;refine⟨P,p,by omega,hs,by omega,by omega,fun R L n m k hn hL hm=> ?_⟩;obtain _|m:=m;omega
  simp-implicitDefEqProofs (maxSteps:=9^7) (disch:=try exact Dz) only[↓DN,↓kRet,UP,simprocAttr,I5,EJ,Tryz.f135]
 |succ j ih=>
  intro p P g len hj hlen hs hp hp2;subst hlen;have hc4:(P.length:Int)<=3:=om;obtain⟨al,st,es,q1,a1,a2,a3,kd1⟩:=aCo hc p hp om;obtain⟨P2,q,g1,g2,g3,g4,kd4⟩:=ih q1 (P++[⟨al,st,es⟩]) (g+1) (P.length+1) (by simp;omega) sm (hs.snoc a1) om om;refine⟨P2,q,g1,g2,by omega,by omega,fun R L n m k hn hL hm=> ?_⟩;obtain _|m:=m;omega;have e1:g+1+j=g+(j+1):=om;rw[e1]at kd4
  simp-implicitDefEqProofs (maxSteps:=9^7) (disch:=try exact Dz) only[↓DN,↓kRet,UP,simprocAttr,NE,hc4,↓kd1,H2,↓kd4,I5,EJ,Tryz.f135]
theorem aC0{c:List UInt8}(hc:c.length<=2000)(P:List Sys)(h1:1<=P.length)(h3:P.length<=3)(hs:SysB 60000 P)(p:Int)(hp:0<=p)(hp2:p<=300000000):
  (∀(L n:Nat),7<=n->2^60<=L->aA env L n 135 [.ptr 0 0 0,.sl 1 0 0 P.length] [rdO c p,.arr (sysD P) 3 0]=some (.d (.ivs 0 []),[rdO c (p+1),.arr (sysD P) 3 0]))
  \/∃(P2:List Sys) (q:Int) (g:Nat),P2.length<=4/\SysB 80000 P2/\p<=q/\q<=p+300000/\∀(L n:Nat),7<=n->2^60<=L->aA env L n 135 [.ptr 0 0 0,.sl 1 0 0 P.length] [rdO c p,.arr (sysD P) 3 0]=some (.sl 1 g 0 P2.length,[rdO c q,.arr (sysD P2) 3 g]):=by
 obtain⟨v,v0,v1,_,kd1⟩:=cL hc p 20 hp om
 by_cases hv0:v=0
 ·left;subst hv0;intro L n hn hL;obtain _|n:=n;omega
  simp-implicitDefEqProofs (maxSteps:=9^7) (disch:=try exact Dz) only[↓DN,↓kAsg,↓kRet,UP,simprocAttr,↓kd1,zK,vA,Tryz.f135]
 right
 by_cases hv1:v=1
 ·subst hv1;obtain⟨P2,q,g1,g2,g3,g4,kd2⟩:=aDq hc (4-P.length) (p+1) P 0 P.length om rfl hs om om;refine⟨P2,q,4-P.length,by omega,g2.mono om,by omega,by omega,fun L n hn hL=> ?_⟩;simp only[Ag]at kd2;have hj:4-P.length<L:=om;obtain _|n:=n;omega
  simp-implicitDefEqProofs (maxSteps:=9^7) (disch:=try exact Dz) only[↓DN,↓kAsg,↓kRet,UP,simprocAttr,↓kd1,↓kd2,g1,zK,vA,Tryz.f135]
 by_cases hv2:v=2
 ·subst hv2;have hk:0<P.length:=om;have g:=tG hk;have hes0:=hs.at hk;have hk0:(0:Int)<P.length:=om;obtain⟨al2,st2,es2,q2,a1,a2,a3,kd2⟩:=GC hc (P.getD 0 default).al (P.getD 0 default).st (P.getD 0 default).es om (p+1) om om;obtain⟨al3,st3,es3,q3,b1,b2,b3,kd3⟩:=GC hc al2 st2 es2 om q2 om om;obtain⟨al4,st4,es4,q4,c1,c2,c3,kd4⟩:=GC hc al3 st3 es3 om q3 om om;have hst:=@aLs P 0 al4 st4 es4 hk;simp only[Nat.zero_mul,Ag,List.take_zero,Am]at hst;refine⟨P.set 0 ⟨al4,st4,es4⟩,q4,0,by rw[Bt];omega,?_,by omega,by omega,fun L n hn hL=> ?_⟩
  ·intro s h
   rcases Dx h with h|rfl
   ·have:=hs s h;omega
   ·show es4.length<=80000;omega
  rw[Bt];have g':(((sysD P).drop 0).map A.d).take 3=[.d (.int .i64 (P.getD 0 default).al),.d (.int .i64 (P.getD 0 default).st),.d (.ivs (P.getD 0 default).es.length (aJ (P.getD 0 default).es))]:=g;simp only[Ax]at g';have hk3:3<=P.length*3:=om;obtain _|n:=n;omega
  simp-implicitDefEqProofs (maxSteps:=9^7) (disch:=try exact Dz) only[↓DN,↓kAsg,↓kRet,UP,simprocAttr,NE,Ar,hk3,↓kd1,↓kd2,↓kd3,↓kd4,hk0,g',hst,zK,vA,Tryz.f135]
 ·refine⟨P,p+1,0,by omega,hs.mono om,by omega,by omega,fun L n hn hL=> ?_⟩;obtain _|n:=n;omega
  simp-implicitDefEqProofs (maxSteps:=9^7) (disch:=try exact Dz) only[↓DN,↓kAsg,↓kRet,UP,simprocAttr,↓kd1,hv0,hv1,hv2,zK,vA,Tryz.f135]










theorem wG{R:Type}{L n:Nat}{hq:H}{al:Int}{ac:List Bool}{k:KA R}(hn:2<=n)(ha:ac.length<=4294967295)(hL:2^60<=L):aW env (aA env L n) hq 198 [.agg [nI al,.d (.ivs 0 []),.d (.ivs ac.length (aK ac))]] k=k (.agg [nI al,.sl hq.length 0 0 0,.sl (hq.length+1) 0 0 ac.length]) (hq++[.arr [] 0 0,.arr (aK ac) 1 0]):=by
 have he:aA env L n 198 [.agg [nI al,.d (.ivs 0 []),.d (.ivs ac.length (aK ac))]] []=some (.agg [nI al,.sl 0 0 0 0,.sl 1 0 0 ac.length],[.arr [] 0 0,.arr (aK ac) 1 0]):=aBP hn al ac ha hL
 have hcall:bV (aA env L n) env.hint [] 198 [.agg [nI al,.d (.ivs 0 []),.d (.ivs ac.length (aK ac))]]=some (.agg [nI al,.sl 0 0 0 0,.sl 1 0 0 ac.length],[.arr [] 0 0,.arr (aK ac) 1 0]):=by
  have hf:eS [] [.agg [nI al,.d (.ivs 0 []),.d (.ivs ac.length (aK ac))]]=some ([.agg [nI al,.d (.ivs 0 []),.d (.ivs ac.length (aK ac))]],[]):=rfl;unfold bV;rw[vL];simp only[hf,he]<;>rfl
 have hids:idsL [A.agg [nI al,.d (.ivs 0 []),.d (.ivs ac.length (aK ac))]]=[]:=rfl;unfold aW;rw[hids,GD,gB _ hids];have hp:pack hq []=[]:=rfl;rw[hp,hcall];simp only[Ab,Cw,true_and,closed,Cc,Bx,if_true,bE];simp[mapA,aE,back,mapO,aK]
theorem aJB{R:Type}{L n m:Nat}{y1 y2:D}{al:Int}{ac:List Bool}{k:KE R}:aS env (aA env L n) L 1 (W32 (W32 (W16 (W2 (W1 [1002,0,0,0,0,0,0,0,0,0,0,0,0,0,0,0,0,0,0,0,0,0,1002]))))) Bz24 (zA 0) Bz45 (m+1) (Y4 (.ptr 1 0 0::.ptr 2 0 0::nI 0::Y32 (Y32 (Y32 (Y8 (Y2 (Y1 ([])))))))) [.box [.d y1,.d y2],.box [nI 0,.sl 3 0 0 0,.sl 4 0 0 0],.box [nI al,.sl 5 0 0 0,.sl 6 0 0 ac.length],.arr [] 0 0,.arr [] 0 0,.arr [] 0 0,.arr (aK ac) 1 0] k
  =k (.exit 1) (Y4 (.ptr 1 0 0::.ptr 2 0 0::nI 0::Y32 (Y32 (Y32 (Y8 (Y2 (Y1 ([])))))))) [.box [.d y1,.d y2],.box [nI 0,.sl 3 0 0 0,.sl 4 0 0 0],.box [nI al,.sl 5 0 0 0,.sl 6 0 0 ac.length],.arr [] 0 0,.arr [] 0 0,.arr [] 0 0,.arr (aK ac) 1 0]:=by
 simp-implicitDefEqProofs (maxSteps:=9^7) (disch:=try exact Dz) only[↓DN,↓kRet,UP,simprocAttr,Ak,wN,vT,Tryz.f134]
theorem aOx{c:List UInt8}(hc:c.length<=2000)(al:Int)(ac:List Bool)(ha:ac.length<=4294960000)(p:Int)(hp:0<=p)(hp2:p<=890000000):∃(al2:Int) (ac2:List Bool) (q:Int),ac2.length<=ac.length+1/\p<=q/\q<=p+4/\(Dw 4 134 [autD al [] ac] (autD al2 [] ac2) c p q):=by
 obtain⟨k,k0,_,k1,kd1⟩:=cL hc p 0 hp om;obtain rfl:k=0:=k1 om;obtain⟨u,u0,u1,_,kd2⟩:=cL hc (p+1) 30 om om;have e0:aP []=[]:=rfl;have loop_a:=fun {R:Type} {n:Nat} {y1 y2:D} {al:Int} {k:KE R} {L:Nat} (hL:2^60<=L)=>(show L-1+1=L by omega)▸aJB (R:=R) (L:=L) (n:=n) (m:=L-1) (y1:=y1) (y2:=y2) (al:=al) (ac:=ac) (k:=k)
 by_cases h0:u=0
 ·subst h0;obtain⟨al2,_,kd4⟩:=eY hc [64,-1,1,63,0] sm sm (p+1+1) om om;simp only[ints,Af,Al,Ac,Ab,Ag,Nat.reduceAdd]at kd4;refine⟨al2,ac,p+1+1+1,by simp,by omega,by omega,fun R L n hq k hn hL=>aZ iK (by simp[autD,idsA,idsL]) (by simp[autD,idsA,idsL]) ?_⟩;simp only[autD,e0,Ab];obtain _|n:=n;omega
  simp-implicitDefEqProofs (maxSteps:=9^7) (disch:=try exact Dz) only[↓DN,↓kRet,UP,simprocAttr,LA,↓kd1,↓kd2,↓wG,↓kd4,c9,dC,Tryz.f134]
 by_cases h1:u=1
 ·subst h1;refine⟨al,ac++[true],p+1+1,by simp,by omega,by omega,fun R L n hq k hn hL=>aZ iK (by simp[autD,idsA,idsL]) (by simp[autD,idsA,idsL]) ?_⟩;have htk:(aK ac++[D.bool true]).take (ac.length+1)=aK (ac++[true]):=by rw[B3];exact zP sm
  simp only[autD,e0,Ab];obtain _|n:=n;omega
  simp-implicitDefEqProofs (maxSteps:=9^7) (disch:=try exact Dz) only[↓DN,↓kRet,UP,simprocAttr,LA,↓kd1,↓kd2,↓wG,htk,c9,dC,Tryz.f134]
 by_cases h4:u=4
 ·subst h4;have e1:aK []=[]:=rfl;refine⟨al,[],p+1+1,by simp,by omega,by omega,fun R L n hq k hn hL=>aZ iK (by simp[autD,idsA,idsL]) (by simp[autD,idsA,idsL]) ?_⟩;simp only[autD,e0,Ab];obtain _|n:=n;omega
  simp-implicitDefEqProofs (maxSteps:=9^7) (disch:=try exact Dz) only[↓DN,↓kRet,UP,simprocAttr,↓kd1,↓kd2,↓wG,e1,c9,dC,Tryz.f134]
 refine⟨al,ac,p+1+1,by simp,by omega,by omega,fun R L n hq k hn hL=>aZ iK (by simp[autD,idsA,idsL]) (by simp[autD,idsA,idsL]) ?_⟩;simp only[autD,e0,Ab];have loop_b:=fun {R:Type} {n:Nat} {y1 y2:D} {al:Int} {k:KE R}=>loop_a (R:=R) (n:=n) (y1:=y1) (y2:=y2) (al:=al) (k:=k) hL
 by_cases h2:u=2
 ·subst h2;obtain _|n:=n;omega
  simp-implicitDefEqProofs (maxSteps:=9^7) (disch:=try exact Dz) only[↓DN,↓kRet,UP,simprocAttr,LA,↓kd1,↓kd2,↓wG,Ak,c9,dC,Tryz.f134]
 by_cases h3:u=3
 ·subst h3;obtain _|n:=n;omega
  simp-implicitDefEqProofs (maxSteps:=9^7) (disch:=try exact Dz) only[↓DN,↓kRet,UP,simprocAttr,LA,↓kd1,↓kd2,↓wG,Ak,c9,dC,Tryz.f134]
 by_cases h5:u=5
 ·subst h5;obtain _|n:=n;omega
  simp-implicitDefEqProofs (maxSteps:=9^7) (disch:=try exact Dz) only[↓DN,↓kRet,UP,simprocAttr,LA,↓kd1,↓kd2,↓wG,↓loop_b,c9,dC,Tryz.f134]
 obtain _|n:=n;omega
 simp-implicitDefEqProofs (maxSteps:=9^7) (disch:=try exact Dz) only[↓DN,↓kRet,UP,simprocAttr,LA,↓kd1,↓kd2,↓wG,h0,h1,h2,h3,h4,h5,c9,dC,Tryz.f134]
theorem WH{c:List UInt8}(hc:c.length<=2000){B:Nat}(hB:B<=4294960000)(al:Int)(nx:List (List Int))(ac:List Bool)(hb:AutB B nx ac)(p:Int)(hp:0<=p)(hp2:p<=890000000):
  ∃(al2:Int) (nx2:List (List Int)) (ac2:List Bool) (q:Int),AutB (B+13) nx2 ac2/\p<=q/\q<=p+4/\(Dw 4 134 [autD al nx ac] (autD al2 nx2 ac2) c p q):=by
 by_cases h1:1<=nx.length
 ·exact aLr hc om al nx ac hb h1 p hp hp2
 ·obtain rfl:nx=[]:=Bs.1 om;have ha:=hb.a;obtain⟨al2,ac2,q,a,b,d,e⟩:=aOx hc al ac om p hp hp2;exact⟨al2,[],ac2,q,⟨by simp,by omega,by simp⟩,b,d,e⟩
theorem aKa{R:Type}{call:aX}{hq:H}{f:FuncId}{args:List A}{c:List UInt8}{p q:Int}{cs:List D}{e n:Nat}{k:KA R}(hm:(env.hint f).mode=0)(ha:idsL args=[])(he:call f (.ptr 0 0 0::args) [rdO c p]=some (.sl 1 0 0 n,[rdO c q,.arr cs e 0])):
  aW env call (rdO c p::hq) f (.ptr 0 0 0::args) k=k (.sl (hq.length+1) 0 0 n) (rdO c q::(hq++[.arr cs e 0])):=by
 have hid:idsL (A.ptr 0 0 0::args)=[0]:=by simp[idsL,idsA,ha]
 have hre:aD aF (rdO c p::hq) [0] []=[0]:=rfl;have hpk:pack (rdO c p::hq) [0]=[rdO c p]:=rfl
 have hma:aE (aH [0]) (A.ptr 0 0 0::args)=A.ptr 0 0 0::args:=by
  simp only[aE,gB _ ha];rfl
 have hc:bV call env.hint [rdO c p] f (.ptr 0 0 0::args)=some (.sl 1 0 0 n,[rdO c q,.arr cs e 0]):=by
  unfold bV;rw[hm];exact he
 have hcl:closed (rdO c p::hq) [0] [0]=true:=rfl;unfold aW;rw[hid,hre,hpk,hma,hc];have hb:back [0] (rdO c p::hq).length 2 1=some (hq.length+1):=by simp[back]
 have hb2:mapA (back [0] (rdO c p::hq).length 2) (.sl 1 0 0 n)=.sl (hq.length+1) 0 0 n:=by simp only[mapA,hb]
 simp only[Ac,Ab,Ag,Nat.reduceAdd,hcl,and_self,if_true,show 1<=2 by omega]at hb2|-;rw[hb2]
 congr 1
theorem aE8{R:Type}{call:aX}{hq:H}{f:FuncId}{c:List UInt8}{p q:Int}{r:A}{o:O}{k:KA R}{cs:List D}{e g n id:Nat}(hi:hq[id]? =some (.arr cs e g))(hm:(env.hint f).mode=0)(hr:idsA r=[])(ho:∀f,mapO f o=o)(he:call f [.ptr 0 0 0,.sl 1 g 0 n] [rdO c p,.arr cs e g]=some (r,[rdO c q,o])):
  aW env call (rdO c p::hq) f [.ptr 0 0 0,.sl (id+1) g 0 n] k=k r (rdO c q::hq.set id o):=by
 have hlk:(rdO c p::hq)[id+1]? =some (.arr cs e g):=by rw[Av];exact hi
 have hre:aD aF (rdO c p::hq) [0,id+1] []=[0,id+1]:=by
  have e1:aD aF (rdO c p::hq) [0,id+1] []=aD (aF-1) (rdO c p::hq) [id+1] [0]:=rfl
  have e2:aD (aF-1) (rdO c p::hq) [id+1] [0]=if [0].contains (id+1)=true then aD (aF-2) (rdO c p::hq) [] [0]else match(rdO c p::hq)[id+1]? with
   |some (.box cs)=>aD (aF-2) (rdO c p::hq) ([]++idsL cs) ([0]++[id+1])
   |some (.vec cs _ _)=>aD (aF-2) (rdO c p::hq) ([]++idsL cs) ([0]++[id+1])
   |some .void=>aD (aF-2) (rdO c p::hq) [] [0]
   |some _=>aD (aF-2) (rdO c p::hq) [] ([0]++[id+1])
   |none=>aD (aF-2) (rdO c p::hq) [] [0]:=rfl
  have e3:[0].contains (id+1)=false:=sm;rw[e1,e2,e3,hlk];rfl
 have hpk:pack (rdO c p::hq) [0,id+1]=[rdO c p,.arr cs e g]:=by
  simp only[pack,Af,Al,Aa,hlk]<;>rfl
 unfold aW;have hid:idsL [A.ptr 0 0 0,A.sl (id+1) g 0 n]=[0,id+1]:=rfl;rw[hid,hre,hpk]
 have hma:aE (aH [0,id+1]) [A.ptr 0 0 0,A.sl (id+1) g 0 n]=[A.ptr 0 0 0,A.sl 1 g 0 n]:=by
  simp[aE,mapA,aH]
 rw[hma]
 have hc:bV call env.hint [rdO c p,.arr cs e g] f [.ptr 0 0 0,.sl 1 g 0 n]=some (r,[rdO c q,o]):=by
  unfold bV;rw[hm];exact he
 rw[hc]
 have hcl:closed (rdO c p::hq) [0,id+1] [0,id+1]=true:=by
  simp only[closed,Bp,Cc,hlk,Ch];simp[idsL,idsA]
 simp only[Ac,Ab,Ad,hcl,and_self,if_true,nV r hr]
 congr 1
 simp only[bE,ho,Al,Ah,Ce,By]<;>rfl
theorem aFT{R:Type}{call:aX}{hq:H}{f:FuncId}{c:List UInt8}{p q:Int}{g2 n2:Nat}{cs2:List D}{k:KA R}{cs:List D}{e g n id:Nat}(hi:hq[id]? =some (.arr cs e g))(hm:(env.hint f).mode=0)(he:call f [.ptr 0 0 0,.sl 1 g 0 n] [rdO c p,.arr cs e g]=some (.sl 1 g2 0 n2,[rdO c q,.arr cs2 e g2])):
  aW env call (rdO c p::hq) f [.ptr 0 0 0,.sl (id+1) g 0 n] k=k (.sl (id+1) g2 0 n2) (rdO c q::hq.set id (.arr cs2 e g2)):=by
 have hlk:(rdO c p::hq)[id+1]? =some (.arr cs e g):=by rw[Av];exact hi
 have hre:aD aF (rdO c p::hq) [0,id+1] []=[0,id+1]:=by
  have e1:aD aF (rdO c p::hq) [0,id+1] []=aD (aF-1) (rdO c p::hq) [id+1] [0]:=rfl
  have e2:aD (aF-1) (rdO c p::hq) [id+1] [0]=if [0].contains (id+1)=true then aD (aF-2) (rdO c p::hq) [] [0]else match(rdO c p::hq)[id+1]? with
   |some (.box cs)=>aD (aF-2) (rdO c p::hq) ([]++idsL cs) ([0]++[id+1])
   |some (.vec cs _ _)=>aD (aF-2) (rdO c p::hq) ([]++idsL cs) ([0]++[id+1])
   |some .void=>aD (aF-2) (rdO c p::hq) [] [0]
   |some _=>aD (aF-2) (rdO c p::hq) [] ([0]++[id+1])
   |none=>aD (aF-2) (rdO c p::hq) [] [0]:=rfl
  have e3:[0].contains (id+1)=false:=sm;rw[e1,e2,e3,hlk];rfl
 have hpk:pack (rdO c p::hq) [0,id+1]=[rdO c p,.arr cs e g]:=by
  simp only[pack,Af,Al,Aa,hlk]<;>rfl
 unfold aW;have hid:idsL [A.ptr 0 0 0,A.sl (id+1) g 0 n]=[0,id+1]:=rfl;rw[hid,hre,hpk]
 have hma:aE (aH [0,id+1]) [A.ptr 0 0 0,A.sl (id+1) g 0 n]=[A.ptr 0 0 0,A.sl 1 g 0 n]:=by
  simp[aE,mapA,aH]
 rw[hma]
 have hc:bV call env.hint [rdO c p,.arr cs e g] f [.ptr 0 0 0,.sl 1 g 0 n]=some (.sl 1 g2 0 n2,[rdO c q,.arr cs2 e g2]):=by
  unfold bV;rw[hm];exact he
 rw[hc]
 have hcl:closed (rdO c p::hq) [0,id+1] [0,id+1]=true:=by
  simp only[closed,Bp,Cc,hlk,Ch];simp[idsL,idsA]
 have hb:back [0,id+1] (rdO c p::hq).length 2 1=some (id+1):=rfl;simp only[Ac]at hb;simp only[Ac,Ab,Ag,Nat.reduceAdd,Ad,hcl,and_self,if_true,mapA,hb]
 congr 1
 simp only[bE,mapO,aE,mapA,Al,Ah,Ce,By]
theorem KF:(env.hint 135).mode=0:=kr
theorem KU:(env.hint 71).mode=0:=kr
theorem aLV{c:List UInt8}(hc:c.length<=2000)(p:Int)(hp:0<=p)(hp2:p<=200000000):
  ∃(P:List Sys) (al:Int) (nx:List (List Int)) (ac:List Bool) (q:Int),P.length<=4/\SysB 80000 P/\AutB 60 nx ac/\p<=q/\q<=p+1000000/\(Dw 18 71 [] (.tup [.d (.ivs P.length (sysD P)),autD al nx ac]) c p q):=by
 obtain⟨P,q1,h1,h3,hs,a1,a2,he1⟩:=aMZ hc p hp om;have hP:cW P:=⟨by omega,fun s h=>by have:=hs s h;omega⟩
 have htk:(sysD P).take (P.length*3)=sysD P:=BF (Ad _);obtain⟨al,nx,ac,q2,hb,hn1,b1,b2,kd2⟩:=aGI hc (if bQ P=true then parA P else -1) q1 om om;obtain⟨v,_,_,_,kd3⟩:=cL hc q2 20 om om;have kd1:=fun {R:Type} {L n:Nat} {hq:H} {k:KA R} (hn:16<=n) (hL:2^60<=L)=>aKa (R:=R) (hq:=hq) (k:=k) (args:=[]) aP8 rfl (he1 L n hn hL);have kl_a:=fun {R:Type} {L n:Nat} {k:A->Option R} (hn:6<=n) (hL:2^60<=L)=> @TB R L n k hn P hP hL;have kv_a:=fun {R:Type} {L n:Nat} {hq:H} {args:List A} {k:KA R}=>fI (E:=env) (call:=aA env L n) (h:=hq) (k:=k) (args:=args) oA;generalize(if bQ P=true then parA P else -1)=z at *
 by_cases hv:v=0
 ·obtain⟨al2,nx2,ac2,q3,hb2,b3,b4,kd4⟩:=WH hc (B:=10) om al nx ac hb (q2+1) om om;obtain⟨al3,nx3,ac3,q4,hb3,b5,b6,kd5⟩:=WH hc (B:=23) om al2 nx2 ac2 hb2 q3 om om;obtain⟨al4,nx4,ac4,q5,hb4,b7,b8,kd6⟩:=WH hc (B:=36) om al3 nx3 ac3 hb3 q4 om om
  rcases aC0 hc P h1 h3 hs q5 om om with he5|⟨P2,q6,g,g1,g2,g3,g4,he5⟩
  ·have kd7:=fun {R:Type} {L n id:Nat} {hq:H} {k:KA R} (hn:7<=n) (hL:2^60<=L) (hi:hq[id]? =some (.arr (sysD P) 3 0))=>aE8 (R:=R) (k:=k) hi KF rfl (fun _=>rfl) (he5 L n hn hL);refine⟨[],al4,nx4,ac4,q5+1,by simp,(fun s h=>by cases h),hb4.mono om,by omega,by omega,fun R L n hq k hn hL=>aZ KU rfl (by simp[autD,idsA,idsL]) ?_⟩;unfold autD at kd2 kd4 kd5 kd6|-;clear he1 he5 hb hb2 hb3 hb4 hs hP;obtain _|n:=n;omega
   simp-implicitDefEqProofs (maxSteps:=9^7) (disch:=try exact Dz) only[↓DN,↓kAsg,↓kRet,UP,simprocAttr,NE,↓kd1,↓kd2,↓kd3,hv,↓kd4,↓kd5,↓kd6,↓kl_a,↓kv_a,htk,↓kd7,PX,zN,vC,Tryz.f71]
  ·have kd7:=fun {R:Type} {L n id:Nat} {hq:H} {k:KA R} (hn:7<=n) (hL:2^60<=L) (hi:hq[id]? =some (.arr (sysD P) 3 0))=>aFT (R:=R) (k:=k) hi KF (he5 L n hn hL);have htk2:(sysD P2).take (P2.length*3)=sysD P2:=BF (Ad _);refine⟨P2,al4,nx4,ac4,q6,g1,g2,hb4.mono om,by omega,by omega,fun R L n hq k hn hL=>aZ KU rfl (by simp[autD,idsA,idsL]) ?_⟩;unfold autD at kd2 kd4 kd5 kd6|-;clear he1 he5 hb hb2 hb3 hb4 hs hP g2;obtain _|n:=n;omega
   simp-implicitDefEqProofs (maxSteps:=9^7) (disch:=try exact Dz) only[↓DN,↓kAsg,↓kRet,UP,simprocAttr,NE,↓kd1,↓kd2,↓kd3,hv,↓kd4,↓kd5,↓kd6,↓kl_a,↓kv_a,htk,htk2,↓kd7,zN,vC,Tryz.f71]
 ·rcases aC0 hc P h1 h3 hs (q2+1) om om with he5|⟨P2,q6,g,g1,g2,g3,g4,he5⟩
  ·have kd7:=fun {R:Type} {L n id:Nat} {hq:H} {k:KA R} (hn:7<=n) (hL:2^60<=L) (hi:hq[id]? =some (.arr (sysD P) 3 0))=>aE8 (R:=R) (k:=k) hi KF rfl (fun _=>rfl) (he5 L n hn hL);refine⟨[],al,nx,ac,q2+1+1,by simp,(fun s h=>by cases h),hb.mono om,by omega,by omega,fun R L n hq k hn hL=>aZ KU rfl (by simp[autD,idsA,idsL]) ?_⟩;unfold autD at kd2|-;clear he1 he5 hb hs hP;obtain _|n:=n;omega
   simp-implicitDefEqProofs (maxSteps:=9^7) (disch:=try exact Dz) only[↓DN,↓kAsg,↓kRet,UP,simprocAttr,NE,↓kd1,↓kd2,↓kd3,hv,↓kl_a,↓kv_a,htk,↓kd7,PX,zN,vC,Tryz.f71]
  ·have kd7:=fun {R:Type} {L n id:Nat} {hq:H} {k:KA R} (hn:7<=n) (hL:2^60<=L) (hi:hq[id]? =some (.arr (sysD P) 3 0))=>aFT (R:=R) (k:=k) hi KF (he5 L n hn hL);have htk2:(sysD P2).take (P2.length*3)=sysD P2:=BF (Ad _);refine⟨P2,al,nx,ac,q6,g1,g2,hb.mono om,by omega,by omega,fun R L n hq k hn hL=>aZ KU rfl (by simp[autD,idsA,idsL]) ?_⟩;unfold autD at kd2|-;clear he1 he5 hb hs hP g2;obtain _|n:=n;omega
   simp-implicitDefEqProofs (maxSteps:=9^7) (disch:=try exact Dz) only[↓DN,↓kAsg,↓kRet,UP,simprocAttr,NE,↓kd1,↓kd2,↓kd3,hv,↓kl_a,↓kv_a,htk,htk2,↓kd7,zN,vC,Tryz.f71]
end Ev
end Go.Proofs.YtahbdkmimmnadaaGreatDoor
