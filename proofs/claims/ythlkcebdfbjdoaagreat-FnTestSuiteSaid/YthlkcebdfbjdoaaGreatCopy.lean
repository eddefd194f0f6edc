/-
  A copy of an automaton, as the reference makes it.
-/
import Derived.Test.YthlkcebdfbjdoaaGreatMemD
import Derived.Test.YthlkcebdfbjdoaaGreatBlock
set_option linter.unusedSimpArgs false
set_option linter.unusedVariables false
set_option maxRecDepth 8000
set_option maxHeartbeats 4000000
namespace Go.Proofs.YthlkcebdfbjdoaaGreat
namespace Ev
variable{R:Type}{L n:Nat}
mutual
theorem aMm{nf:Nat}{h:H}:∀a:A,(∀i∈idsA a,a8 h i=none)->bL nf h a=a
 |.d x,_=>by simp only[bL]
 |.sl id gen off len,hi=>by
  have:=hi id (by simp[idsA]);simp only[bL,hY,this]
  split<;>rfl
 |.ptr id gen off,hi=>by
  have:=hi id (by simp[idsA]);simp only[bL,H9,this]
  split<;>rfl
 |.mp id,_=>by simp only[bL]
 |.clo g cs,hi=>by simp only[bL];rw[oH cs (fun i h=>hi i (by simpa only[idsA]using h))]
 |.agg cs,hi=>by simp only[bL];rw[oH cs (fun i h=>hi i (by simpa only[idsA]using h))]
 |.tup cs,hi=>by simp only[bL];rw[oH cs (fun i h=>hi i (by simpa only[idsA]using h))]
 |.junk,_=>by simp only[bL]
theorem oH{nf:Nat}{h:H}:∀xs:List A,(∀i∈idsL xs,a8 h i=none)->aV nf h xs=xs
 | [],_=>by simp only[aV]
 |x::xs,hi=>by
  simp only[aV];rw[aMm x (fun i h=>hi i (by simp only[idsL,Al];exact .inl h)),oH xs (fun i h=>hi i (by simp only[idsL,Al];exact .inr h))]
end
theorem aTV{m:List Bool}{s:List A}{a1 a2 a3 x0 x1:D}{k z e0:Nat}{r:List Int}{cs:List D}{d:List (List Int)}{p:H}(he:e0=d.length+7)(hl:d.length<=4294967296):gc 0 m s (.box [.d a1,.d a2,.d a3]::.box [.d x0,.sl 3 0 0 0,.sl 4 0 0 0]::.box [.d x1,.sl 5 1 0 k,.sl 6 0 0 z]::.arr [] 0 0::.arr [] 0 0::.vec (aC 7 d++[.sl e0 1 0 r.length]) 1 1::.arr cs 1 0::(aI d++.arr (ints r) 1 1::p))=match box (tidy m s)with
  |.mk s1=>if idsL s1=[0,1,2]then(s1,.box [.d a1,.d a2,.d a3]::.box [.d x0,.sl 3 0 0 0,.sl 4 0 0 0]::.box [.d x1,.sl 5 0 0 k,.sl 6 0 0 z]::.arr [] 0 0::.arr [] 0 0::.vec (aC 7 (d++[r])++aF 0) 1 0::.arr cs 1 0::aI (d++[r]))else gcO 0 m s (.box [.d a1,.d a2,.d a3]::.box [.d x0,.sl 3 0 0 0,.sl 4 0 0 0]::.box [.d x1,.sl 5 1 0 k,.sl 6 0 0 z]::.arr [] 0 0::.arr [] 0 0::.vec (aC 7 d++[.sl e0 1 0 r.length]) 1 1::.arr cs 1 0::(aI d++.arr (ints r) 1 1::p))
  |.no=>([],[]):=by
 have hn:aF 0=[]:=rfl;subst he;rw[aUQ hl,<-LT,FP,hn,Ah,Nat.add_comm 7];have hc:=oH (nf:=0) (h:=.box [.d a1,.d a2,.d a3]::.box [.d x0,.sl 3 0 0 0,.sl 4 0 0 0]::.box [.d x1,.sl 5 1 0 k,.sl 6 0 0 z]::.arr [] 0 0::.arr [] 0 0::.vec (aC 7 d++[.sl (d.length+7) 1 0 r.length]) 1 1::.arr cs 1 0::(aI d++[.arr (ints r) 1 1])) (tidy m s);simp only[box]
 split
 ·rename_i hid
  rw[hc (by rw[hid];intro i hi;simp at hi;rcases hi with rfl|rfl|rfl<;>rfl)]
 ·rfl
theorem X4{d:List (List Int)}{o q:O}{p:H}{k:Nat}(h:k=d.length):(aI d++o::p).set k q=aI d++q::p:=by
 rw[Dp _ _ (by rw[cJ];omega),cJ,h,Br];rfl
theorem aHH{d:List (List Int)}{o o2 q:O}{p:H}{k:Nat}(h:k=d.length+1):(aI d++o2::o::p).set k q=aI d++o2::q::p:=by
 rw[Dp _ _ (by rw[cJ];omega),cJ,h,Dr];rfl
theorem uG{d:List (List Int)}{o:O}{p:H}{k:Nat}(h:k=d.length):(aI d++o::p)[k]? =some o:=by
 subst h;rw[Bh (by rw[cJ];omega),cJ,Br];rfl
theorem GJ{d:List (List Int)}{o o2:O}{p:H}{k:Nat}(h:k=d.length+1):(aI d++o2::o::p)[k]? =some o:=by
 subst h;rw[Bh (by rw[cJ];omega),cJ,Dr];rfl
theorem aHm{d:List (List Int)}{o x:O}{p:H}{k:Nat}(h:k=d.length):(aI d++o::p).getD k x=o:=by
 rw[Aa,uG h];rfl
theorem aGD{d:List (List Int)}{o o2 x:O}{p:H}{k:Nat}(h:k=d.length+1):(aI d++o2::o::p).getD k x=o:=by
 rw[Aa,GJ h];rfl
theorem aGt(hn:1<=n){al:Int}{rs:List (List Int)}{ac:List Bool}(hs:bF rs){k:KE R}:∀(j i m:Nat) (d:List (List Int)) (len:Nat) (hi:i+j=rs.length) (hm:j<m) (hd:d.length=i) (hlen:len=d.length),
  aM env (aA env L n) L 0 (W16 (W8 (W4 [1002]))) Bz13 (kT 0) Bz24 m (Y1 (.ptr 0 0 0::.ptr 1 0 0::.ptr 2 0 0::nI i::Y16 (Y8 (Y2 (Y1 ([])))))) (.box [nI al,.d (.ivs rs.length (aN rs)),.d (.ivs ac.length (aJ ac))]::.box [nI 0,.sl 3 0 0 0,.sl 4 0 0 0]::.box [nI al,.sl 5 0 0 len,.sl 6 0 0 ac.length]::.arr [] 0 0::.arr [] 0 0::.vec (aC 7 d++aF 0) 1 0::.arr (aJ ac) 1 0::aI d) k
  =k (.exit 0) (Y1 (.ptr 0 0 0::.ptr 1 0 0::.ptr 2 0 0::nI (rs.length)::Y16 (Y8 (Y2 (Y1 ([])))))) (.box [nI al,.d (.ivs rs.length (aN rs)),.d (.ivs ac.length (aJ ac))]::.box [nI 0,.sl 3 0 0 0,.sl 4 0 0 0]::.box [nI al,.sl 5 0 0 (d++rs.drop i).length,.sl 6 0 0 ac.length]::.arr [] 0 0::.arr [] 0 0::.vec (aC 7 (d++rs.drop i)++aF 0) 1 0::.arr (aJ ac) 1 0::aI (d++rs.drop i)):=by
 intro j;have hrl:=hs.1
 induction j with
 |zero=>
  intro i m d len hi hm hd hlen;obtain _|m:=m;omega;obtain rfl:i=rs.length:=by omega
  subst hlen;have hdl:d.length<=4294967296:=by omega
  rw[Ca,Ah];simp -implicitDefEqProofs (maxSteps:=2000000) (disch:=try exact Dz) only[↓DN,↓kRet,UP,simprocAttr,Aj,↓aUJ,qE,rK,Tryz.f85]
 |succ j ih=>
  intro i m d len hi hm hd hlen;obtain _|m:=m;omega;subst hlen;have hc:(i:Int)<rs.length:=by omega
  have hk:i<rs.length:=by omega
  have hi0:(0:Int)<=i:=by omega
  have hrow:=oX hs hk;have hdl:d.length<=4294967296:=by omega
  have hdl3:d.length<=4294967295:=by omega
  have ih':=ih (i+1) m (d++[rs.getD i []]) (d.length+1) (by omega) (by omega) (by simp;omega) (by simp);rw[cs1 i]at ih';rw[cI hk (d:=[])];simp only[Ao,Av,Am]at ih';have ht:(aC 7 d++aF 0).take d.length=aC 7 d:=FA rfl;have hlv:d.length<=(aC 7 d++aF 0).length:=by rw[Af,gR];omega
  clear ih;obtain⟨G1,hG1⟩:∃G:H,G=(O.box [nI al,.d (.ivs rs.length (aN rs)),.d (.ivs ac.length (aJ ac))]::.box [nI 0,.sl 3 0 0 0,.sl 4 0 0 0]::.box [nI al,.sl 5 0 0 d.length,.sl 6 0 0 ac.length]::.arr [] 0 0::.arr [] 0 0::.vec (aC 7 d++aF 0) 1 0::.arr (aJ ac) 1 0::(aI d++.arr (ints (rs.getD i [])) 1 1::.vec [.sl (d.length+7) 1 0 (rs.getD i []).length] 1 0::[])):=⟨_,rfl⟩
  have row1:∀q,q<d.length->∃r:List Int,G1[7+q]? =some (.arr (ints r) 1 0):=by
   intro q hq;obtain⟨r,hr⟩:∃r,d[q]? =some r:=⟨d[q],Ae hq⟩
   refine⟨r,?_⟩;rw[hG1,show 7+q=q+1+1+1+1+1+1+1 by omega];simp only[At];exact F1 hr
  have g5:G1[5]? =some (.vec (aC 7 d++aF 0) 1 0):=by rw[hG1];rfl
  have ge:G1[d.length+7]? =some (.arr (ints (rs.getD i [])) 1 1):=by
   rw[hG1];simp only[At];exact uG rfl
  have ge1:G1[d.length+8]? =some (.vec [.sl (d.length+7) 1 0 (rs.getD i []).length] 1 0):=by
   rw[hG1];simp only[At];exact GJ rfl
  have oke:Okay G1 (d.length+7):=.mk _ _ ge (by simp) (by rw[bO ge];simp)
  have oke1:Okay G1 (d.length+8):=.mk _ _ ge1 (by simp) (by
   intro q hq;have:kids G1 (d.length+8)=[d.length+7]:=by simp[kids,ge1,idsL,idsA]
   rw[this]at hq;simp at hq;subst hq;exact oke)
  have ok5:Okay G1 5:=.mk _ _ g5 (by simp) (by
   intro q hq;have:kids G1 5=List.range' 7 d.length:=by simp[kids,g5,bM,bY,dM]
   rw[this,Cu]at hq;obtain⟨z,rfl⟩:∃z,q=7+z:=⟨q-7,by omega⟩
   obtain⟨r,hr⟩:=row1 z (by omega);exact .mk _ _ hr (by simp) (by rw[bO hr];simp))
  have wG1:2+wgt G1<=1099511627776:=by
   have h1:=pU (aI d) [.arr (ints (rs.getD i [])) 1 1,.vec [.sl (d.length+7) 1 0 (rs.getD i []).length] 1 0];rw[GB]at h1;rw[hG1];simp only[wgt,idsL,idsA,bM,bY,dM,Af,Ds,Ad,Ac]at h1|-;omega
  have st_app:∀ {call:aZ} {thaw:List Nat} {dst:Option Tmp} {args:Array Operand},memD env call thaw dst (.call ⟨.builtin .append,args,#[23,23]⟩) G1 [.sl 5 0 0 d.length,.sl (d.length+8) 0 0 1]=some (.sl 5 1 0 (d.length+1),G1.set 5 (.vec ((aC 7 d++aF 0).take d.length++[.sl (d.length+7) 1 0 (rs.getD i []).length]) 1 1),{ ids:=aD aG G1 [5,d.length+8] [],ro:=false,wr:=[5]}):=by
   intro call thaw dst args;exact SU (e:=80) rfl SV kr g5 ge1 hlv (by unfold bK;omega) ok5 oke1 wG1
  rw[ht]at st_app;obtain⟨G2,hG2⟩:∃G:H,G=G1.set 5 (.vec (aC 7 d++[.sl (d.length+7) 1 0 (rs.getD i []).length]) 1 1):=⟨_,rfl⟩
  have hl1:G1.length=d.length+9:=by rw[hG1];simp[cJ]
  have keep:∀q,q≠5->G2[q]? =G1[q]?:=fun q hq=>by rw[hG2,Df (fun e=>hq e.symm)]
  have k5:G2[5]? =some (.vec (aC 7 d++[.sl (d.length+7) 1 0 (rs.getD i []).length]) 1 1):=by rw[hG2,Dy (by omega)]
  have k2:G2[2]? =some (.box [nI al,.sl 5 0 0 d.length,.sl 6 0 0 ac.length]):=by rw[keep 2 (by omega),hG1];rfl
  have k6:G2[6]? =some (.arr (aJ ac) 1 0):=by rw[keep 6 (by omega),hG1];rfl
  have ok5':Okay G2 5:=.mk _ _ k5 (by simp) (by
   intro q hq;have:kids G2 5=List.range' 7 d.length++[d.length+7]:=by simp[kids,k5,bM,bY,idsL,idsA]
   rw[this,Al,Cu]at hq
   rcases hq with hq|hq
   ·obtain⟨z,rfl⟩:∃z,q=7+z:=⟨q-7,by omega⟩
    obtain⟨r,hr⟩:=row1 z (by omega);rw[<-keep _ (by omega)]at hr;exact .mk _ _ hr (by simp) (by rw[bO hr];simp)
   ·simp at hq;subst hq;rw[<-keep _ (by omega)]at ge;exact .mk _ _ ge (by simp) (by rw[bO ge];simp))
  have ok6':Okay G2 6:=.mk _ _ k6 (by simp) (by rw[bO k6];simp)
  have ok2':Okay G2 2:=.mk _ _ k2 (by simp) (by
   intro q hq;have:kids G2 2=[5,6]:=by simp[kids,k2,idsL,idsA]
   rw[this]at hq;simp at hq
   rcases hq with rfl|rfl
   ·exact ok5'
   ·exact ok6')
  have wG2:2+wgt G2<=1099511627776:=by
   have h1:=pU (aI d) [.arr (ints (rs.getD i [])) 1 1,.vec [.sl (d.length+7) 1 0 (rs.getD i []).length] 1 0];rw[GB]at h1;rw[hG2,hG1];simp only[Bn,Cf,wgt,idsL,idsA,bM,bY,Af,Ds,Ad,Ac]at h1|-;omega
  have st_sto:∀ {call:aZ} {thaw:List Nat} {dst:Option Tmp} {x y:Operand},memD env call thaw dst (.store 23 x y) G2 [.ptr 2 0 1,.sl 5 1 0 (d.length+1)]=some (.d .undef,G2.set 2 (.box (bH [nI al,.sl 5 0 0 d.length,.sl 6 0 0 ac.length] 1 [.sl 5 1 0 (d.length+1)])),{ ids:=aD aG G2 [2,5] [],ro:=false,wr:=aD aG G2 [2,5] []}):=by
   intro call thaw dst x y;exact uB kr kr k2 (by simp) ok2' ok5' wG2
  obtain⟨o1,ho1⟩:∃o,o=aD aG G1 [5,d.length+8] []:=⟨_,rfl⟩
  obtain⟨o2,ho2⟩:∃o,o=aD aG G2 [2,5] []:=⟨_,rfl⟩
  rw[<-ho1]at st_app;rw[<-ho2,hG2]at st_sto;rw[hG1]at st_app st_sto;simp only[Bn,Cf,bH,List.take_succ_cons,List.take_zero,Av,Am,Ad,Ac,Dh,Bc,Nat.reduceAdd]at st_app st_sto;clear hG2 hG1 k5 k2 k6 keep ok5' ok6' ok2' wG2 wG1 ok5 oke1 oke ge1 ge g5 row1 ho1 ho2 hl1;simp -implicitDefEqProofs (maxSteps:=2000000) (disch:=try exact Dz) only[↓DN,↓kRet,UP,simprocAttr,LA,hc,hi0,cJ,Ab,uG,aHm,X4,Ao,↓st_app,↓st_sto,↓aTV,↓ih',qE,rK,Tryz.f85]
theorem W9{R:Type}{L n m:Nat}(hn:1<=n){al:Int}{rs:List (List Int)}{ac:List Bool}(hs:bF rs)(h1:1<=rs.length)(hm:rs.length<m){k:KE R}:
  aM env (aA env L n) L 0 (W16 (W8 (W4 [1002]))) Bz13 (kT 0) Bz24 m (Y1 (.ptr 0 0 0::.ptr 1 0 0::.ptr 2 0 0::nI 0::Y16 (Y8 (Y2 (Y1 ([])))))) [.box [nI al,.d (.ivs rs.length (aN rs)),.d (.ivs ac.length (aJ ac))],.box [nI 0,.sl 3 0 0 0,.sl 4 0 0 0],.box [nI al,.sl 5 0 0 0,.sl 6 0 0 ac.length],.arr [] 0 0,.arr [] 0 0,.arr [] 0 0,.arr (aJ ac) 1 0] k
  =k (.exit 0) (Y1 (.ptr 0 0 0::.ptr 1 0 0::.ptr 2 0 0::nI (rs.length)::Y16 (Y8 (Y2 (Y1 ([])))))) (.box [nI al,.d (.ivs rs.length (aN rs)),.d (.ivs ac.length (aJ ac))]::.box [nI 0,.sl 3 0 0 0,.sl 4 0 0 0]::.box [nI al,.sl 5 0 0 rs.length,.sl 6 0 0 ac.length]::.arr [] 0 0::.arr [] 0 0::.vec (aC 7 rs++aF 0) 1 0::.arr (aJ ac) 1 0::aI rs):=by
 obtain⟨j,hj⟩:∃j,rs.length=j+1:=⟨rs.length-1,by omega⟩
 obtain _|m:=m;omega;have hrl:=hs.1;have hc:(0:Int)<rs.length:=by omega
 have hrow:=oX hs (k:=0) (by omega)
 have loop_b:∀ {R:Type} {k:KE R},aM env (aA env L n) L 0 (W16 (W8 (W4 [1002]))) Bz13 (kT 0) Bz24 m (Y1 (.ptr 0 0 0::.ptr 1 0 0::.ptr 2 0 0::nI 1::Y16 (Y8 (Y2 (Y1 ([])))))) [.box [nI al,.d (.ivs rs.length (aN rs)),.d (.ivs ac.length (aJ ac))],.box [nI 0,.sl 3 0 0 0,.sl 4 0 0 0],.box [nI al,.sl 5 0 0 1,.sl 6 0 0 ac.length],.arr [] 0 0,.arr [] 0 0,.vec [.sl 7 0 0 (rs.getD 0 []).length] 1 0,.arr (aJ ac) 1 0,.arr (ints (rs.getD 0 [])) 1 0] k
  =k (.exit 0) (Y1 (.ptr 0 0 0::.ptr 1 0 0::.ptr 2 0 0::nI (rs.length)::Y16 (Y8 (Y2 (Y1 ([])))))) (.box [nI al,.d (.ivs rs.length (aN rs)),.d (.ivs ac.length (aJ ac))]::.box [nI 0,.sl 3 0 0 0,.sl 4 0 0 0]::.box [nI al,.sl 5 0 0 rs.length,.sl 6 0 0 ac.length]::.arr [] 0 0::.arr [] 0 0::.vec (aC 7 rs++aF 0) 1 0::.arr (aJ ac) 1 0::aI rs):=by
  intro R k;have h:=aGt (R:=R) (L:=L) (n:=n) hn (al:=al) (ac:=ac) hs (k:=k) j 1 m [rs.getD 0 []] 1 (by omega) (by omega) rfl rfl
  have e:[rs.getD 0 []]++rs.drop 1=rs:=by
   have:=cI (l:=rs) (i:=0) (d:=[]) (by omega);rw[Bc]at this;exact this.symm
  rw[e]at h;exact h
 clear hj;have g0:((aN rs).map A.d).head? =some (.d (.ivs (rs.getD 0 []).length (ints (rs.getD 0 [])))):=V1 (k:=0) (by omega);generalize rs.getD 0 []=r0 at *;simp -implicitDefEqProofs (maxSteps:=2000000) (disch:=try exact Dz) only[↓DN,↓kRet,UP,simprocAttr,LA,hc,g0,↓loop_b,qE,rK,Tryz.f85]
theorem W5{R:Type}{L n m:Nat}(hn:1<=n){al:Int}{ac:List Bool}{k:KE R}:
  aM env (aA env L n) L 0 (W16 (W8 (W4 [1002]))) Bz13 (kT 0) Bz24 (m+1) (Y1 (.ptr 0 0 0::.ptr 1 0 0::.ptr 2 0 0::nI 0::Y16 (Y8 (Y2 (Y1 ([])))))) [.box [nI al,.d (.ivs 0 []),.d (.ivs ac.length (aJ ac))],.box [nI 0,.sl 3 0 0 0,.sl 4 0 0 0],.box [nI al,.sl 5 0 0 0,.sl 6 0 0 ac.length],.arr [] 0 0,.arr [] 0 0,.arr [] 0 0,.arr (aJ ac) 1 0] k
  =k (.exit 0) (Y1 (.ptr 0 0 0::.ptr 1 0 0::.ptr 2 0 0::nI 0::Y16 (Y8 (Y2 (Y1 ([])))))) [.box [nI al,.d (.ivs 0 []),.d (.ivs ac.length (aJ ac))],.box [nI 0,.sl 3 0 0 0,.sl 4 0 0 0],.box [nI al,.sl 5 0 0 0,.sl 6 0 0 ac.length],.arr [] 0 0,.arr [] 0 0,.arr [] 0 0,.arr (aJ ac) 1 0]:=by
 simp -implicitDefEqProofs (maxSteps:=2000000) (disch:=try exact Dz) only[↓DN,↓kRet,UP,simprocAttr,Aj,qE,rK,Tryz.f85]
theorem aJJ(hn:2<=n)(al:Int)(rs:List (List Int))(ac:List Bool)(hs:bF rs)(h1:1<=rs.length)(ha:ac.length<=4294967295)(hL:2^60<=L):aA env L n 85 [.agg [nI al,.d (.ivs rs.length (aN rs)),.d (.ivs ac.length (aJ ac))]] []=some (autA 0 al rs.length ac.length,autO 0 rs ac):=by
 have hrl:=hs.1;have hbl:(aJ ac).length=ac.length:=eP;unfold autA autO;obtain _|n:=n;omega;simp -implicitDefEqProofs (maxSteps:=2000000) (disch:=try exact Dz) only[↓DN,↓kAsg,↓kRet,UP,simprocAttr,hbl,↓W9,↓aQR,↓aRa,z0As,z0A,eq_self,aEH,aFE,XW,ON,Tryz.f85]
theorem aDg(hn:2<=n)(al:Int)(ac:List Bool)(ha:ac.length<=4294967295)(hL:2^60<=L):aA env L n 85 [.agg [nI al,.d (.ivs 0 []),.d (.ivs ac.length (aJ ac))]] []=some (autA 0 al 0 ac.length,[.arr [] 0 0,.arr (aJ ac) 1 0]):=by
 have hbl:(aJ ac).length=ac.length:=eP;have loop_c:=fun {R:Type} {n:Nat} (hn:1<=n) {k:KE R}=> @W5 R L n (L-1) hn al ac k;rw[show L-1+1=L by omega]at loop_c;unfold autA;obtain _|n:=n;omega;simp -implicitDefEqProofs (maxSteps:=2000000) (disch:=try exact Dz) only[↓DN,↓kAsg,↓kRet,UP,simprocAttr,hbl,↓loop_c,XW,ON,Tryz.f85]
end Ev
end Go.Proofs.YthlkcebdfbjdoaaGreat
