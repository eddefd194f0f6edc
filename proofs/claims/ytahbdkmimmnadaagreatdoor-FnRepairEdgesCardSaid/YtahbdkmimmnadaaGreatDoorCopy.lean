/-
  Memory of some shapes at the end of a round. Written by a program.
-/
import Derived.Test.YtahbdkmimmnadaaGreatDoorShRn
import Derived.Test.YtahbdkmimmnadaaGreatDoorDistG
set_option linter.unusedSimpArgs false
set_option linter.unusedVariables false
set_option linter.unusedSectionVars false
set_option maxRecDepth 8000
set_option maxHeartbeats 4000000
namespace Go.Proofs.YtahbdkmimmnadaaGreatDoor
namespace Ev
theorem aPy{m:List Bool}{s:List A}{a1 a2 a3 x0 x1:D}{k z:Nat}{r:List Int}{cs:List D}{d:List (List Int)}{p:H}(hl:d.length<=4294967296):gc 0 m s (.box [.d a1,.d a2,.d a3]::.box [.d x0,.sl 3 0 0 0,.sl 4 0 0 0]::.box [.d x1,.sl 5 1 0 k,.sl 6 0 0 z]::.arr [] 0 0::.arr [] 0 0::.vec (aB 7 d++[.sl (d.length+7) 1 0 r.length]) 1 1::.arr cs 1 0::(aI d++.arr (ints r) 1 1::p))=match box (tidy m s)with
  |.mk s1=>if idsL s1=[0,1,2]then(aP 0 (.box [.d a1,.d a2,.d a3]::.box [.d x0,.sl 3 0 0 0,.sl 4 0 0 0]::.box [.d x1,.sl 5 1 0 k,.sl 6 0 0 z]::.arr [] 0 0::.arr [] 0 0::.vec (aB 7 d++[.sl (d.length+7) 1 0 r.length]) 1 1::.arr cs 1 0::(aI d++[.arr (ints r) 1 1])) (s1),.box [.d a1,.d a2,.d a3]::.box [.d x0,.sl 3 0 0 0,.sl 4 0 0 0]::.box [.d x1,.sl 5 0 0 k,.sl 6 0 0 z]::.arr [] 0 0::.arr [] 0 0::.vec (aB 7 d++[.sl (d.length+7) 0 0 r.length]) 1 0::.arr cs 1 0::(aI d++[.arr (ints r) 1 0]))else gcO 0 m s (.box [.d a1,.d a2,.d a3]::.box [.d x0,.sl 3 0 0 0,.sl 4 0 0 0]::.box [.d x1,.sl 5 1 0 k,.sl 6 0 0 z]::.arr [] 0 0::.arr [] 0 0::.vec (aB 7 d++[.sl (d.length+7) 1 0 r.length]) 1 1::.arr cs 1 0::(aI d++.arr (ints r) 1 1::p))
  |.no=>([],[]):=by
 simp only[box]
 split
 ·rename_i hc
  have hb:=hc;have hids:idsL (tidy m s)=[0,1,2]:=by exact hb
  obtain⟨h,hh⟩:∃h:H,O.box [.d a1,.d a2,.d a3]::.box [.d x0,.sl 3 0 0 0,.sl 4 0 0 0]::.box [.d x1,.sl 5 1 0 k,.sl 6 0 0 z]::.arr [] 0 0::.arr [] 0 0::.vec (aB 7 d++[.sl (d.length+7) 1 0 r.length]) 1 1::.arr cs 1 0::(aI d++.arr (ints r) 1 1::p)=h:=⟨_,rfl⟩
  conv=>lhs;rw[hh]
  have g0:h[0]? =some (.box [.d a1,.d a2,.d a3]):=by rw[<-hh];rfl
  have g1:h[1]? =some (.box [.d x0,.sl 3 0 0 0,.sl 4 0 0 0]):=by rw[<-hh];rfl
  have g2:h[2]? =some (.box [.d x1,.sl 5 1 0 k,.sl 6 0 0 z]):=by rw[<-hh];rfl
  have g3:h[3]? =some (.arr [] 0 0):=by rw[<-hh];rfl
  have g4:h[4]? =some (.arr [] 0 0):=by rw[<-hh];rfl
  have g5:h[5]? =some (.vec (aB 7 d++[.sl (d.length+7) 1 0 r.length]) 1 1):=by rw[<-hh];rfl
  have g6:h[6]? =some (.arr cs 1 0):=by rw[<-hh];rfl
  have hD:h.drop 7=aI d++(.arr (ints r) 1 1::p):=by rw[<-hh];rfl
  have gr:=iJ 7 hD;have ge0:h[d.length+7]? =some (.arr (ints r) 1 1):=vV 7 0 hD rfl om;have k0:kids h (0)=[]:=by simp[kids,g0,idsL,idsA]
  have k1:kids h (1)=[3,4]:=by simp[kids,g1,idsL,idsA]
  have k2:kids h (2)=[5,6]:=by simp[kids,g2,idsL,idsA]
  have k3:kids h (3)=[]:=bH g3;have k4:kids h (4)=[]:=bH g4;have k5:kids h (5)=List.range' 7 d.length++[d.length+7]:=by simp[kids,g5,bG,bQ,idsL,idsA]
  have leaf:=jA gr;have hr:aC aD h [0,1,2] []=[0,1,2,3,4,5]++([6]++(List.range' 7 d.length++[d.length+7])):=gK (by simp[k0,k1,k2,k3,k4,k5]) (by intro q hq;simp only[Ac,Aa]at hq;have:q=0\/q=1\/q=2\/q=3\/q=4\/q=5:=om;rcases this with rfl|rfl|rfl|rfl|rfl|rfl<;>simp[k0,k1,k2,k3,k4]) leaf (by intro i hi;simp at hi;rcases hi with rfl|rfl<;>exact⟨_,_,_,by assumption⟩) (by intro i hi;simp at hi;rcases hi with rfl|rfl|rfl|rfl|rfl|rfl<;>exact⟨_,by assumption,by simp⟩) (by simp<;>omega) (by intro i hi;simp at hi;omega) (by simp only[aD,Ac,Aa];omega);generalize hord:[0,1,2,3,4,5]++([6]++(List.range' 7 d.length++[d.length+7]))=ord at hr;have hA:ord=([0,1,2,3,4,5]++[6])++(List.range' 7 d.length++[d.length+7]):=by rw[<-hord,Ao]
  have pk:∀i j,ord[j]? =some i->aH ord i=some j:=fun i j h1=>dR (by rw[<-hr];exact bO aD h _ [] sm) h1;have p0:=pk (0) 0 (by rw[<-hord];rfl);have p1:=pk (1) 1 (by rw[<-hord];rfl);have p2:=pk (2) 2 (by rw[<-hord];rfl);have p3:=pk (3) 3 (by rw[<-hord];rfl);have p4:=pk (4) 4 (by rw[<-hord];rfl);have p5:=pk (5) 5 (by rw[<-hord];rfl);have p6:=pk (6) 6 (by rw[<-hord];rfl);have pr:=iX (C:=7) pk hA rfl;have pe0:=QN (C:=7) pk hA rfl 0 (i:=d.length+7) (j:=d.length+7) rfl om;obtain⟨K,hK⟩:∃K:H,O.box [.d a1,.d a2,.d a3]::.box [.d x0,.sl 3 0 0 0,.sl 4 0 0 0]::.box [.d x1,.sl 5 1 0 k,.sl 6 0 0 z]::.arr [] 0 0::.arr [] 0 0::.vec (aB 7 d++[.sl (d.length+7) 1 0 r.length]) 1 1::.arr cs 1 0::(aI d++[.arr (ints r) 1 1])=K:=⟨_,rfl⟩
  have hni:∀f,aE f (aF 0)=aF 0:=fun _=>rfl
  have hpk:pack h ord=K:=by
   have hrf:aE (aH ord) (aB 7 d)=aB 7 d:=fD (c:=0) pr;rw[kM hA gr,<-hK];simp only[At,Am,Ag,Ak,Ab,g0,g1,g2,g3,g4,g5,g6,ge0,Bh,mapO,aE,mapA,c8,hrf,p3,p4,p5,p6,pe0]
  have hKD:K.drop 7=aI d++[.arr (ints r) 1 1]:=by rw[<-hK];rfl
  have hgr:=m6 hKD;have hge0:aZ K (d.length+7)=some 1:=by simp only[aZ,vV 7 0 hKD rfl (j:=d.length+7) om]
  have hcm:cK 0 K=.box [.d a1,.d a2,.d a3]::.box [.d x0,.sl 3 0 0 0,.sl 4 0 0 0]::.box [.d x1,.sl 5 0 0 k,.sl 6 0 0 z]::.arr [] 0 0::.arr [] 0 0::.vec (aB 7 d++[.sl (d.length+7) 0 0 r.length]) 1 0::.arr cs 1 0::(aI d++[.arr (ints r) 1 0]):=by
   have hrf:aP 0 K (aB 7 d)=aB 7 d:=fX hgr;have hnc:∀h:H,aP 0 h (aF 0)=aF 0:=fun _=>rfl;have q3:aZ K 3=some 0:=by rw[<-hK];rfl
   have q4:aZ K 4=some 0:=by rw[<-hK];rfl
   have q5:aZ K 5=some 1:=by rw[<-hK];rfl
   have q6:aZ K 6=some 0:=by rw[<-hK];rfl
   unfold cK;rw[fW]
   conv=>lhs;arg 2;rw[<-hK]
   simp only[Ag,Dk,Ak,cB,aP,bI,hR,eV,hrf,gO,q3,q4,q5,q6,hge0,Cb,if_false,if_true]
  subst hK;rw[N1 (ord:=ord) (by rw[hids];exact hr),hpk,hcm]
  have hmp:aE (aH ord) (tidy m s)=tidy m s:=by
   apply fY;rw[hids];intro i hi;simp only[Au,Bo,or_false]at hi
   rcases hi with rfl|rfl|rfl
   ·exact p0
   ·exact p1
   ·exact p2
  rw[hmp]
 ·rfl
theorem aPE{m:List Bool}{s:List A}{a1 a2 a3 x0 x1:D}{k z:Nat}{cs:List D}{d:List (List Int)}(hl:d.length<=4294967296):gc 0 m s (.box [.d a1,.d a2,.d a3]::.box [.d x0,.sl 3 0 0 0,.sl 4 0 0 0]::.box [.d x1,.sl 5 0 0 k,.sl 6 0 0 z]::.arr [] 0 0::.arr [] 0 0::.vec (aB 7 d++aF 0) 1 0::.arr cs 1 0::aI d)=match box (tidy m s)with
  |.mk s1=>if idsL s1=[0,1,2]then(aP 0 (.box [.d a1,.d a2,.d a3]::.box [.d x0,.sl 3 0 0 0,.sl 4 0 0 0]::.box [.d x1,.sl 5 0 0 k,.sl 6 0 0 z]::.arr [] 0 0::.arr [] 0 0::.vec (aB 7 d++aF 0) 1 0::.arr cs 1 0::aI d) (s1),.box [.d a1,.d a2,.d a3]::.box [.d x0,.sl 3 0 0 0,.sl 4 0 0 0]::.box [.d x1,.sl 5 0 0 k,.sl 6 0 0 z]::.arr [] 0 0::.arr [] 0 0::.vec (aB 7 d++aF 0) 1 0::.arr cs 1 0::aI d)else gcO 0 m s (.box [.d a1,.d a2,.d a3]::.box [.d x0,.sl 3 0 0 0,.sl 4 0 0 0]::.box [.d x1,.sl 5 0 0 k,.sl 6 0 0 z]::.arr [] 0 0::.arr [] 0 0::.vec (aB 7 d++aF 0) 1 0::.arr cs 1 0::aI d)
  |.no=>([],[]):=by
 simp only[box]
 split
 ·rename_i hc
  have hb:=hc;have hids:idsL (tidy m s)=[0,1,2]:=by exact hb
  obtain⟨h,hh⟩:∃h:H,O.box [.d a1,.d a2,.d a3]::.box [.d x0,.sl 3 0 0 0,.sl 4 0 0 0]::.box [.d x1,.sl 5 0 0 k,.sl 6 0 0 z]::.arr [] 0 0::.arr [] 0 0::.vec (aB 7 d++aF 0) 1 0::.arr cs 1 0::aI d=h:=⟨_,rfl⟩
  conv=>lhs;rw[hh]
  have g0:h[0]? =some (.box [.d a1,.d a2,.d a3]):=by rw[<-hh];rfl
  have g1:h[1]? =some (.box [.d x0,.sl 3 0 0 0,.sl 4 0 0 0]):=by rw[<-hh];rfl
  have g2:h[2]? =some (.box [.d x1,.sl 5 0 0 k,.sl 6 0 0 z]):=by rw[<-hh];rfl
  have g3:h[3]? =some (.arr [] 0 0):=by rw[<-hh];rfl
  have g4:h[4]? =some (.arr [] 0 0):=by rw[<-hh];rfl
  have g5:h[5]? =some (.vec (aB 7 d++aF 0) 1 0):=by rw[<-hh];rfl
  have g6:h[6]? =some (.arr cs 1 0):=by rw[<-hh];rfl
  have hD:h.drop 7=aI d++[]:=by rw[<-hh];exact(Ai _).symm
  have gr:=iJ 7 hD;have k0:kids h (0)=[]:=by simp[kids,g0,idsL,idsA]
  have k1:kids h (1)=[3,4]:=by simp[kids,g1,idsL,idsA]
  have k2:kids h (2)=[5,6]:=by simp[kids,g2,idsL,idsA]
  have k3:kids h (3)=[]:=bH g3;have k4:kids h (4)=[]:=bH g4;have k5:kids h (5)=List.range' 7 d.length:=by simp[kids,g5,bG,bQ,dE]
  have leaf:=jA gr;have hr:aC aD h [0,1,2] []=[0,1,2,3,4,5]++([6]++(List.range' 7 d.length++[])):=gK (by simp[k0,k1,k2,k3,k4,k5]) (by intro q hq;simp only[Ac,Aa]at hq;have:q=0\/q=1\/q=2\/q=3\/q=4\/q=5:=om;rcases this with rfl|rfl|rfl|rfl|rfl|rfl<;>simp[k0,k1,k2,k3,k4]) leaf (by intro i hi;simp at hi;subst hi;exact⟨_,_,_,by assumption⟩) (by intro i hi;simp at hi;rcases hi with rfl|rfl|rfl|rfl|rfl|rfl<;>exact⟨_,by assumption,by simp⟩) (by simp<;>omega) (by intro i hi;simp at hi;omega) (by simp only[aD,Ac,Aa];omega);generalize hord:[0,1,2,3,4,5]++([6]++(List.range' 7 d.length++[]))=ord at hr;have hA:ord=([0,1,2,3,4,5]++[6])++(List.range' 7 d.length++[]):=by rw[<-hord,Ao]
  have pk:∀i j,ord[j]? =some i->aH ord i=some j:=fun i j h1=>dR (by rw[<-hr];exact bO aD h _ [] sm) h1;have p0:=pk (0) 0 (by rw[<-hord];rfl);have p1:=pk (1) 1 (by rw[<-hord];rfl);have p2:=pk (2) 2 (by rw[<-hord];rfl);have p3:=pk (3) 3 (by rw[<-hord];rfl);have p4:=pk (4) 4 (by rw[<-hord];rfl);have p5:=pk (5) 5 (by rw[<-hord];rfl);have p6:=pk (6) 6 (by rw[<-hord];rfl);have pr:=iX (C:=7) pk hA rfl;obtain⟨K,hK⟩:∃K:H,O.box [.d a1,.d a2,.d a3]::.box [.d x0,.sl 3 0 0 0,.sl 4 0 0 0]::.box [.d x1,.sl 5 0 0 k,.sl 6 0 0 z]::.arr [] 0 0::.arr [] 0 0::.vec (aB 7 d++aF 0) 1 0::.arr cs 1 0::aI d=K:=⟨_,rfl⟩
  have hni:∀f,aE f (aF 0)=aF 0:=fun _=>rfl
  have hpk:pack h ord=K:=by
   have hrf:aE (aH ord) (aB 7 d)=aB 7 d:=fD (c:=0) pr;rw[kM hA gr,<-hK];simp only[At,Am,Ag,Ak,Ab,g0,g1,g2,g3,g4,g5,g6,Bh,mapO,aE,mapA,c8,hrf,hni,p3,p4,p5,p6,Ai]
  have hKD:K.drop 7=aI d++[]:=by rw[<-hK];exact(Ai _).symm
  have hgr:=m6 hKD
  have hcm:cK 0 K=.box [.d a1,.d a2,.d a3]::.box [.d x0,.sl 3 0 0 0,.sl 4 0 0 0]::.box [.d x1,.sl 5 0 0 k,.sl 6 0 0 z]::.arr [] 0 0::.arr [] 0 0::.vec (aB 7 d++aF 0) 1 0::.arr cs 1 0::aI d:=by
   have hrf:aP 0 K (aB 7 d)=aB 7 d:=fX hgr;have hnc:∀h:H,aP 0 h (aF 0)=aF 0:=fun _=>rfl;have q3:aZ K 3=some 0:=by rw[<-hK];rfl
   have q4:aZ K 4=some 0:=by rw[<-hK];rfl
   have q5:aZ K 5=some 0:=by rw[<-hK];rfl
   have q6:aZ K 6=some 0:=by rw[<-hK];rfl
   unfold cK;rw[fW]
   conv=>lhs;arg 2;rw[<-hK]
   simp only[Ag,cB,aP,bI,hR,eV,hrf,hnc,gO,q3,q4,q5,q6,Cb,if_false,if_true]
  subst hK;rw[N1 (ord:=ord) (by rw[hids];exact hr),hpk,hcm]
  have hmp:aE (aH ord) (tidy m s)=tidy m s:=by
   apply fY;rw[hids];intro i hi;simp only[Au,Bo,or_false]at hi
   rcases hi with rfl|rfl|rfl
   ·exact p0
   ·exact p1
   ·exact p2
  rw[hmp]
 ·rfl
def TM(n:Nat):List Nat:=[5,6]++(List.range' 7 n++[])
def EH(n i:Nat):Option Nat:=if i=5 then some 0 else if i=6 then some 1 else none
theorem aCn{n:Nat}:EH n 5=some (0):=by unfold EH;repeat (first|rfl|rw[if_pos rfl]|rw[if_neg om])
theorem aCP{n:Nat}:EH n 6=some (1):=by unfold EH;repeat (first|rfl|rw[if_pos rfl]|rw[if_neg om])
theorem aMy{o0 x0 x1:O}{o3 o4:O}{cs:List D}{d:List (List Int)}(hl:d.length<=4294967296){ids:List Nat}:dK 0 (o0::x0::x1::o3::o4::.vec (aB 7 d++aF 0) 1 0::.arr cs 1 0::aI d) ids=if ids=[5,6]then TM d.length else aNO 0 (o0::x0::x1::o3::o4::.vec (aB 7 d++aF 0) 1 0::.arr cs 1 0::aI d) ids:=by
 split
 ·rename_i hc
  subst hc;obtain⟨h,hh⟩:∃h:H,o0::x0::x1::o3::o4::.vec (aB 7 d++aF 0) 1 0::.arr cs 1 0::aI d=h:=⟨_,rfl⟩
  conv=>lhs;rw[hh]
  have g5:h[5]? =some (.vec (aB 7 d++aF 0) 1 0):=by rw[<-hh];rfl
  have g6:h[6]? =some (.arr cs 1 0):=by rw[<-hh];rfl
  have hD:h.drop 7=aI d++[]:=by rw[<-hh];exact(Ai _).symm
  have gr:=iJ 7 hD;have k5:kids h (5)=List.range' 7 d.length:=by simp[kids,g5,bG,bQ,dE]
  have leaf:=jA gr;have hr:aC aD h [5,6] []=[5]++([6]++(List.range' 7 d.length++[])):=gK (by simp[k5]) (by intro q hq;simp only[Ac,Aa]at hq;have:q=0:=om;rcases this with rfl<;>simp[]) leaf (by intro i hi;simp at hi;subst hi;exact⟨_,_,_,by assumption⟩) (by intro i hi;simp at hi;subst hi;exact⟨_,by assumption,by simp⟩) (by simp<;>omega) (by intro i hi;simp at hi;omega) (by simp only[aD,Ac,Aa];omega);generalize hord:[5]++([6]++(List.range' 7 d.length++[]))=ord at hr;rw[S2];unfold aD at hr;rw[hr,<-hord];rfl
 ·rfl
theorem aMa{o0 x0 x1:O}{o3 o4:O}{cs:List D}{d:List (List Int)}(hl:d.length<=4294967296){s:List A}:trim 0 (o0::x0::x1::o3::o4::.vec (aB 7 d++aF 0) 1 0::.arr cs 1 0::aI d) (TM d.length) s=if idsL s=[5,6]/\z0As s=true then(aE (EH d.length) s,.vec (aB 2 d++aF 0) 1 0::.arr cs 1 0::aI d)else aNG 0 (o0::x0::x1::o3::o4::.vec (aB 7 d++aF 0) 1 0::.arr cs 1 0::aI d) (TM d.length) s:=by
 split
 ·rename_i hc
  obtain⟨hids,hz⟩:=hc;obtain⟨h,hh⟩:∃h:H,o0::x0::x1::o3::o4::.vec (aB 7 d++aF 0) 1 0::.arr cs 1 0::aI d=h:=⟨_,rfl⟩
  conv=>lhs;rw[hh]
  have g5:h[5]? =some (.vec (aB 7 d++aF 0) 1 0):=by rw[<-hh];rfl
  have g6:h[6]? =some (.arr cs 1 0):=by rw[<-hh];rfl
  have hD:h.drop 7=aI d++[]:=by rw[<-hh];exact(Ai _).symm
  have gr:=iJ 7 hD;have k5:kids h (5)=List.range' 7 d.length:=by simp[kids,g5,bG,bQ,dE]
  have leaf:=jA gr;have hr:aC aD h [5,6] []=[5]++([6]++(List.range' 7 d.length++[])):=gK (by simp[k5]) (by intro q hq;simp only[Ac,Aa]at hq;have:q=0:=om;rcases this with rfl<;>simp[]) leaf (by intro i hi;simp at hi;subst hi;exact⟨_,_,_,by assumption⟩) (by intro i hi;simp at hi;subst hi;exact⟨_,by assumption,by simp⟩) (by simp<;>omega) (by intro i hi;simp at hi;omega) (by simp only[aD,Ac,Aa];omega);generalize hord:[5]++([6]++(List.range' 7 d.length++[]))=ord at hr;have hA:ord=([5]++[6])++(List.range' 7 d.length++[]):=by rw[<-hord,Ao]
  have pk:∀i j,ord[j]? =some i->aH ord i=some j:=fun i j h1=>dR (by rw[<-hr];exact bO aD h _ [] sm) h1;have p5:=pk (5) 0 (by rw[<-hord];rfl);have p6:=pk (6) 1 (by rw[<-hord];rfl);have pr:=iX (C:=2) pk hA rfl;obtain⟨K,hK⟩:∃K:H,O.vec (aB 2 d++aF 0) 1 0::.arr cs 1 0::aI d=K:=⟨_,rfl⟩
  have hni:∀f,aE f (aF 0)=aF 0:=fun _=>rfl
  have hpk:pack h ord=K:=by
   have hrf:aE (aH ord) (aB 7 d)=aB 2 d:=fD (c:=0) pr;rw[kM hA gr,<-hK];simp only[At,Am,Ag,Ak,Ab,g5,g6,Bh,mapO,c8,hrf,hni,Ai]
  have hKD:K.drop 2=aI d++[]:=by rw[<-hK];exact(Ai _).symm
  have hgr:=m6 hKD
  have hcm:cK 0 K=.vec (aB 2 d++aF 0) 1 0::.arr cs 1 0::aI d:=by
   have hrf:aP 0 K (aB 2 d)=aB 2 d:=fX hgr;have hnc:∀h:H,aP 0 h (aF 0)=aF 0:=fun _=>rfl;have q0:aZ K 0=some 0:=by rw[<-hK];rfl
   have q1:aZ K 1=some 0:=by rw[<-hK];rfl
   unfold cK;rw[fW]
   conv=>lhs;arg 2;rw[<-hK]
   simp only[Ag,cB,eV,hrf,hnc,gO,Cb,if_false]
  subst hK;have hoo:TM d.length=ord:=by rw[<-hord];rfl
  unfold trim;rw[hoo,hpk,hcm]
  have hz2:aP 0 (O.vec (aB 2 d++aF 0) 1 0::.arr cs 1 0::aI d) (aE (aH ord) s)=aE (aH ord) s:=by
   exact j9 (GA (by simp[z0O,zV,vQ,vZ,GU])) _ (xA _ hz)
  have hmp:aE (aH ord) s=aE (EH d.length) s:=by
   apply kJ;rw[hids];intro i hi;simp only[Au,Bo,or_false]at hi
   rcases hi with rfl|rfl
   ·rw[p5,aCn]
   ·rw[p6,aCP]
  rw[hz2,hmp]
 ·rfl


section
section
variable{h:H}{a b c d:O}
theorem aNj:(h++[a,b,c])[h.length+1+1]? =some c:=by
 rw[Bq om,show h.length+1+1-h.length=2 by omega];rfl
theorem aL2:(h++[a,b,c]).set (h.length+1+1) d=h++[a,b,d]:=by
 rw[List.set_append_right _ _ om,show h.length+1+1-h.length=2 by omega];rfl
end
theorem aM7{a b:Foot}(ha:a.ro=true)(hb:b.ro=true):kB a b=false:=by
 unfold kB;rw[ha,hb];rfl
section
variable{L n:Nat}{h:H}{al:Int}{rs:List (List Int)}{ac:List Bool}
end
end
theorem D9{f:Nat->Option Nat}:∀(k:Nat) (cs:List A),(aE f cs).take k=aE f (cs.take k)
 |0,cs=>by simp[aE]
 |k+1,[]=>by simp[aE]
 |k+1,c::cs=>by simp only[aE,Ds,D9 k cs]
theorem NF{f:Nat->Option Nat}:∀(k:Nat) (cs:List A),(aE f cs).drop k=aE f (cs.drop k)
 |0,cs=>rfl
 |k+1,[]=>by simp[aE]
 |k+1,c::cs=>by simp only[aE,Dh,NF k cs]
theorem aHV{h:H}{ord ids:List Nat}{id k:Nat}{o:O}(hc:closed h ord ids=true)(hn:ord.Nodup)(hl:∀i∈ord,i<h.length)(hk:aH ord id=some k):
  bA (fun(k:Nat)=>ord[k]?) h ord ((pack h ord).set k o)=h.set id (mapO (fun(k:Nat)=>ord[k]?) o):=by
 have hpl:(pack h ord).length=ord.length:=by simp[pack]
 have hid:=hl id (I7 hk);apply Cn;intro i;rw[AC _ ord h _ i hn hl (by simp[pack])]
 cases hp:aH ord i with
 |none=>
  have hne:id≠i:=fun e=>by rw[e,hp]at hk;cases hk
  rw[Df hne];simp only[]
  split
  ·rfl
  ·rename_i hge
   rw[Cj (by simp[pack]),Cj om];rfl
 |some q=>
  simp only[]
  by_cases hqk:q=k
  ·subst hqk;have h1:=a9 hp;have h2:=a9 hk;rw[h1]at h2;obtain rfl:i=id:=Option.some.inj h2;rw[Ed (by rw[hpl];exact zX hp),Ed hid];rfl
  ·have hne:id≠i:=fun e=>by rw[e,hp]at hk;exact hqk (Option.some.inj hk)
   rw[Df (fun e=>hqk e.symm),Df hne];have hm:=I7 hp;obtain⟨x,hx⟩:∃x,h[i]? =some x:=⟨h[i]'(hl i hm),Ae _⟩
   rw[iI (a9 hp) hx,hx,Ax,RA hc hm hx]
theorem GO{E:Env}{call:aW}{thaw:List Nat}{dst:Option Tmp}{op:Op}{h:H}{vs:List A}{a a2:A}{o o2:O}{id k:Nat}{ord:List Nat}(hord:aC aD h (idsL vs) []=ord)(hc:closed h ord (idsL vs)=true)(hk:aH ord id=some k)(hro:hZ E op vs=false)
  (hev:evOp E call thaw (pack h ord) (dV dst op) (aE (aH ord) vs)=some (a,(pack h ord).set k o)) (ha:mapA (fun(k:Nat)=>ord[k]?) a=a2) (ho:mapO (fun(k:Nat)=>ord[k]?) o=o2):
  memD E call thaw dst op h vs=some (a2,h.set id o2,{ ids:=ord,ro:=false,wr:=wrOf E op vs ord}):=by
 have hn:ord.Nodup:=by rw[<-hord];exact bO aD h (idsL vs) [] sm
 have hl:∀i∈ord,i<h.length:=by rw[<-hord];exact jY aD h (idsL vs) [] sm
 have hpl:((pack h ord).set k o).length=ord.length:=by simp[pack]
 unfold memD;rw[hord];simp only[box,hev,hpl,Ad,hc,and_self,if_true,hro,Bn,Aj,if_false,aCR,Cl];rw[aHV hc hn hl hk,ha,ho];simp
theorem SQ{E:Env}{call:aW}{thaw:List Nat}{dst:Option Tmp}{args:Array Operand}{t e:TypeId}{h:H}{id id2 g g2 len:Nat}{cs:List A}{c:A}(he:cR E.P t=some e)(hce:E.P.cellsOf e=1)(hel:eG E.P e=true)
  (h1:h[id]? =some (.vec cs 1 g)) (h2:h[id2]? =some (.vec [c] 1 g2)) (hlen:len<=cs.length) (hmax:len+1<=bF) (ok1:Okay h id) (ok2:Okay h id2) (hw:2+wgt h<=1099511627776):
  memD E call thaw dst (.call ⟨.builtin .append,args,#[t,t]⟩) h [.sl id g 0 len,.sl id2 g2 0 1]=some (.sl id (g+1) 0 (len+1),h.set id (.vec (cs.take len++[c]) 1 (g+1)),{ ids:=aC aD h [id,id2] [],ro:=false,wr:=[id]}):=by
 have hids:idsL [A.sl id g 0 len,A.sl id2 g2 0 1]=[id,id2]:=rfl;obtain⟨c1,c2,c3⟩:=P0 (h:=h) (ids:=[id,id2]) (by intro i hi;simp at hi;rcases hi with rfl|rfl;exact ok1;exact ok2) (by simpa using hw);obtain⟨ord,hord⟩:∃ord,aC aD h [id,id2] []=ord:=⟨_,rfl⟩
 rw[hord]at c1 c2 c3;obtain⟨k,hk⟩:=bU (c2 id sm);obtain⟨k2,hk2⟩:=bU (c2 id2 sm);have p1:=iI (h:=h) (a9 hk) h1;have p2:=iI (h:=h) (a9 hk2) h2;have kid:∀i,i∈ord->∀q∈kids h i,∃j,aH ord q=some j:=fun i hi q hq=>bU (c3 i hi q hq)
 have bk:∀xs:List A,(∀i∈idsL xs,i∈ord)->aE (fun(k:Nat)=>ord[k]?) (aE (aH ord) xs)=xs:=by
  intro xs hx;rw[mC (q:=fun i=>(aH ord i).bind fun k=>ord[k]?) (fun _=>rfl)];apply fY;intro i hi;obtain⟨j,hj⟩:=bU (hx i hi);simp only[hj,De];exact a9 hj
 have hcs:∀i∈idsL cs,i∈ord:=by
  have:=c3 id (c2 id sm)
  simpa only[kids,h1]using this
 have hcc:∀i∈idsL [c],i∈ord:=by
  have:=c3 id2 (c2 id2 sm)
  simpa only[kids,h2]using this
 have hnew:∀i∈idsL (cs.take len++[c]),i∈ord:=by
  intro i hi;rw[bG,Aq]at hi
  rcases hi with hi|hi
  ·refine hcs i ?_;have:=List.take_append_drop len cs;rw[<-this,bG,Aq];exact .inl hi
  ·exact hcc i hi
 have hmt:(aE (aH ord) cs).take len=aE (aH ord) (cs.take len):=D9 len cs;have key:=GO (E:=E) (call:=call) (thaw:=thaw) (dst:=dst) (op:=.call ⟨.builtin .append,args,#[t,t]⟩) (h:=h) (vs:=[A.sl id g 0 len,A.sl id2 g2 0 1]) (a:=.sl k (g+1) 0 (len+1)) (a2:=.sl id (g+1) 0 (len+1)) (o:=.vec (aE (aH ord) (cs.take len++[c])) 1 (g+1)) (o2:=.vec (cs.take len++[c]) 1 (g+1)) (id:=id) (k:=k) (ord:=ord) (by rw[hids];exact hord) (by rw[hids];exact c1) hk rfl ?_ (by simp only[mapA,a9 hk]) (by simp only[mapO,bk _ hnew])
 ·rw[key,hord];rfl
 ·have hu:E.P.underlying t=some (.slice e):=by
   unfold cR at he
   split at he
   ·rename_i hq;cases he;exact hq
   ·cases he
  have hv:DQ (pack h ord) k=true:=by simp only[DQ,p1,mapO]
  have hs:pC (pack h ord) 1 (.sl k2 g2 0 1)=some (1,aE (aH ord) [c]):=by
   simp[pC,p2,mapO,aE]
  simp only[aE,mapA,hk,hk2,evOp,dV,fE,cU,pB,hv,if_true,oE,he,hel,hce,hs,p1,mapO,true_and,or_true,By,BE,hlen,hmax,and_self,hmt,c8,hu]
theorem t6{E:Env}{call:aW}{thaw:List Nat}{dst:Option Tmp}{x y:Operand}{t:TypeId}{h:H}{id id2 off g o len:Nat}{cs:List A}(ht:E.P.cellsOf t=1)(hi:(E.P.info? t).isSome=true)
  (h1:h[id]? =some (.box cs)) (hoff:off+1<=cs.length) (ok1:Okay h id) (ok2:Okay h id2) (hw:2+wgt h<=1099511627776):
  memD E call thaw dst (.store t x y) h [.ptr id 0 off,.sl id2 g o len]=some (.d .undef,h.set id (.box (a6 cs off [.sl id2 g o len])),{ ids:=aC aD h [id,id2] [],ro:=false,wr:=aC aD h [id,id2] []}):=by
 have hids:idsL [A.ptr id 0 off,A.sl id2 g o len]=[id,id2]:=rfl;obtain⟨c1,c2,c3⟩:=P0 (h:=h) (ids:=[id,id2]) (by intro i hi;simp at hi;rcases hi with rfl|rfl;exact ok1;exact ok2) (by simpa using hw);obtain⟨ord,hord⟩:∃ord,aC aD h [id,id2] []=ord:=⟨_,rfl⟩
 rw[hord]at c1 c2 c3|-;obtain⟨k,hk⟩:=bU (c2 id sm);obtain⟨k2,hk2⟩:=bU (c2 id2 sm);have p1:=iI (h:=h) (a9 hk) h1
 have bk:∀xs:List A,(∀i∈idsL xs,i∈ord)->aE (fun(k:Nat)=>ord[k]?) (aE (aH ord) xs)=xs:=by
  intro xs hx;rw[mC (q:=fun i=>(aH ord i).bind fun k=>ord[k]?) (fun _=>rfl)];apply fY;intro i hi;obtain⟨j,hj⟩:=bU (hx i hi);simp only[hj,De];exact a9 hj
 have hcs:∀i∈idsL cs,i∈ord:=by
  have:=c3 id (c2 id sm)
  simpa only[kids,h1]using this
 have split_cs:∀q:Nat,(∀i∈idsL (cs.take q),i∈ord)/\(∀i∈idsL (cs.drop q),i∈ord):=by
  intro q;have:=List.take_append_drop q cs
  constructor
  ·intro i hi;refine hcs i ?_;rw[<-this,bG,Aq];exact .inl hi
  ·intro i hi;refine hcs i ?_;rw[<-this,bG,Aq];exact .inr hi
 have hnew:∀i∈idsL (a6 cs off [.sl id2 g o len]),i∈ord:=by
  intro i hi;unfold a6 at hi;rw[bG,bG,Aq,Aq]at hi
  rcases hi with(hi|hi)|hi
  ·exact(split_cs _).1 i hi
  ·simp[idsL,idsA]at hi;subst hi;exact c2 i sm
  ·exact(split_cs _).2 i hi
 have hmr:a6 (aE (aH ord) cs) off [.sl k2 g o len]=aE (aH ord) (a6 cs off [.sl id2 g o len]):=by
  unfold a6;rw[c8,c8,D9,NF];simp only[aE,mapA,hk2,Ac,Aa]
 have key:=GO (E:=E) (call:=call) (thaw:=thaw) (dst:=dst) (op:=.store t x y) (h:=h) (vs:=[A.ptr id 0 off,A.sl id2 g o len]) (a:=.d .undef) (a2:=.d .undef) (o:=.box (aE (aH ord) (a6 cs off [.sl id2 g o len]))) (o2:=.box (a6 cs off [.sl id2 g o len])) (id:=id) (k:=k) (ord:=ord) (by rw[hids];exact hord) (by rw[hids];exact c1) hk rfl ?_ (by simp only[mapA]) (by simp only[mapO,bk _ hnew])
 ·rw[key];rfl
 ·have hoff2:off+1<=(aE (aH ord) cs).length:=by rw[BE];exact hoff
  simp only[aE,mapA,hk,hk2,evOp,dV,two,iW,aT,Ac,Aa,Af,ht,hi,Bt,Ce,dH,Bm,and_self,if_true,p1,mapO,hoff2,aY,hmr,Ax]
section
variable{R:Type}{L n:Nat}
mutual
theorem aKi{nf:Nat}{h:H}:∀a:A,(∀i∈idsA a,aZ h i=none)->bI nf h a=a
 |.d x,_=>by simp only[bI]
 |.sl id gen off len,hi=>by
  have:=hi id (by simp[idsA]);simp only[bI,hR,this]
  split<;>rfl
 |.ptr id gen off,hi=>by
  have:=hi id (by simp[idsA]);simp only[bI,ES,this]
  split<;>rfl
 |.mp id,_=>by simp only[bI]
 |.clo g cs,hi=>by simp only[bI];rw[oB cs (fun i h=>hi i (by simpa only[idsA]using h))]
 |.agg cs,hi=>by simp only[bI];rw[oB cs (fun i h=>hi i (by simpa only[idsA]using h))]
 |.tup cs,hi=>by simp only[bI];rw[oB cs (fun i h=>hi i (by simpa only[idsA]using h))]
 |.junk,_=>by simp only[bI]
theorem oB{nf:Nat}{h:H}:∀xs:List A,(∀i∈idsL xs,aZ h i=none)->aP nf h xs=xs
 | [],_=>by simp only[aP]
 |x::xs,hi=>by
  simp only[aP];rw[aKi x (fun i h=>hi i (by simp only[idsL,Aq];exact .inl h)),oB xs (fun i h=>hi i (by simp only[idsL,Aq];exact .inr h))]
end
theorem aOP{m:List Bool}{s:List A}{a1 a2 a3 x0 x1:D}{k z e0:Nat}{r:List Int}{cs:List D}{d:List (List Int)}{p:H}(he:e0=d.length+7)(hl:d.length<=4294967296):gc 0 m s (.box [.d a1,.d a2,.d a3]::.box [.d x0,.sl 3 0 0 0,.sl 4 0 0 0]::.box [.d x1,.sl 5 1 0 k,.sl 6 0 0 z]::.arr [] 0 0::.arr [] 0 0::.vec (aB 7 d++[.sl e0 1 0 r.length]) 1 1::.arr cs 1 0::(aI d++.arr (ints r) 1 1::p))=match box (tidy m s)with
  |.mk s1=>if idsL s1=[0,1,2]then(s1,.box [.d a1,.d a2,.d a3]::.box [.d x0,.sl 3 0 0 0,.sl 4 0 0 0]::.box [.d x1,.sl 5 0 0 k,.sl 6 0 0 z]::.arr [] 0 0::.arr [] 0 0::.vec (aB 7 (d++[r])++aF 0) 1 0::.arr cs 1 0::aI (d++[r]))else gcO 0 m s (.box [.d a1,.d a2,.d a3]::.box [.d x0,.sl 3 0 0 0,.sl 4 0 0 0]::.box [.d x1,.sl 5 1 0 k,.sl 6 0 0 z]::.arr [] 0 0::.arr [] 0 0::.vec (aB 7 d++[.sl e0 1 0 r.length]) 1 1::.arr cs 1 0::(aI d++.arr (ints r) 1 1::p))
  |.no=>([],[]):=by
 have hn:aF 0=[]:=rfl;subst he;rw[aPy hl,<-JM,DW,hn,Ai,Nat.add_comm 7];have hc:=oB (nf:=0) (h:=.box [.d a1,.d a2,.d a3]::.box [.d x0,.sl 3 0 0 0,.sl 4 0 0 0]::.box [.d x1,.sl 5 1 0 k,.sl 6 0 0 z]::.arr [] 0 0::.arr [] 0 0::.vec (aB 7 d++[.sl (d.length+7) 1 0 r.length]) 1 1::.arr cs 1 0::(aI d++[.arr (ints r) 1 1])) (tidy m s);simp only[box]
 split
 ·rename_i hid
  rw[hc (by rw[hid];intro i hi;simp at hi;rcases hi with rfl|rfl|rfl<;>rfl)]
 ·rfl
theorem V4{d:List (List Int)}{o q:O}{p:H}{k:Nat}(h:k=d.length):(aI d++o::p).set k q=aI d++q::p:=by
 rw[List.set_append_right _ _ (by rw[cD];omega),cD,h,Cl];rfl
theorem aGl{d:List (List Int)}{o o2 q:O}{p:H}{k:Nat}(h:k=d.length+1):(aI d++o2::o::p).set k q=aI d++o2::q::p:=by
 rw[List.set_append_right _ _ (by rw[cD];omega),cD,h,Dv];rfl
theorem tI{d:List (List Int)}{o:O}{p:H}{k:Nat}(h:k=d.length):(aI d++o::p)[k]? =some o:=by
 subst h;rw[Bq (by rw[cD];omega),cD,Cl];rfl
theorem FQ{d:List (List Int)}{o o2:O}{p:H}{k:Nat}(h:k=d.length+1):(aI d++o2::o::p)[k]? =some o:=by
 subst h;rw[Bq (by rw[cD];omega),cD,Dv];rfl
theorem aG9{d:List (List Int)}{o x:O}{p:H}{k:Nat}(h:k=d.length):(aI d++o::p).getD k x=o:=by
 rw[Ab,tI h];rfl
theorem aEa{d:List (List Int)}{o o2 x:O}{p:H}{k:Nat}(h:k=d.length+1):(aI d++o2::o::p).getD k x=o:=by
 rw[Ab,FQ h];rfl
theorem aD5(hn:1<=n){al:Int}{rs:List (List Int)}{ac:List Bool}(hs:bD rs){k:KE R}:∀(j i m:Nat) (d:List (List Int)) (len:Nat) (hi:i+j=rs.length) (hm:j<m) (hd:d.length=i) (hlen:len=d.length),
  aV env (aA env L n) L 0 (W16 (W8 (W4 [1002]))) Bz13 (pD 0) Bz27 m (Y1 (.ptr 0 0 0::.ptr 1 0 0::.ptr 2 0 0::nI i::Y16 (Y8 (Y2 (Y1 ([])))))) (.box [nI al,.d (.ivs rs.length (aN rs)),.d (.ivs ac.length (aK ac))]::.box [nI 0,.sl 3 0 0 0,.sl 4 0 0 0]::.box [nI al,.sl 5 0 0 len,.sl 6 0 0 ac.length]::.arr [] 0 0::.arr [] 0 0::.vec (aB 7 d++aF 0) 1 0::.arr (aK ac) 1 0::aI d) k
  =k (.exit 0) (Y1 (.ptr 0 0 0::.ptr 1 0 0::.ptr 2 0 0::nI (rs.length)::Y16 (Y8 (Y2 (Y1 ([])))))) (.box [nI al,.d (.ivs rs.length (aN rs)),.d (.ivs ac.length (aK ac))]::.box [nI 0,.sl 3 0 0 0,.sl 4 0 0 0]::.box [nI al,.sl 5 0 0 (d++rs.drop i).length,.sl 6 0 0 ac.length]::.arr [] 0 0::.arr [] 0 0::.vec (aB 7 (d++rs.drop i)++aF 0) 1 0::.arr (aK ac) 1 0::aI (d++rs.drop i)):=by
 intro j;have hrl:=hs.1
 induction j with
 |zero=>
  intro i m d len hi hm hd hlen;obtain _|m:=m;omega;obtain rfl:i=rs.length:=om;subst hlen;have hdl:d.length<=4294967296:=om;rw[Cg,Ai]
  simp-implicitDefEqProofs (maxSteps:=9^7) (disch:=try exact Dz) only[↓DN,↓kRet,UP,simprocAttr,Al,↓aPE,qI,rE,Tryz.f198]
 |succ j ih=>
  intro i m d len hi hm hd hlen;obtain _|m:=m;omega;subst hlen;have hc:(i:Int)<rs.length:=om;have hk:i<rs.length:=om;have hi0:(0:Int)<=i:=om;have hrow:=oJ hs hk;have hdl:d.length<=4294967296:=om;have hdl3:d.length<=4294967295:=om;have ih':=ih (i+1) m (d++[rs.getD i []]) (d.length+1) om om (by simp;omega) sm;rw[cs1 i]at ih';rw[bM hk (d:=[])];simp only[Ao,At,Am]at ih';have ht:(aB 7 d++aF 0).take d.length=aB 7 d:=D2 rfl;have hlv:d.length<=(aB 7 d++aF 0).length:=by rw[Ah,gN];omega
  clear ih;obtain⟨G1,hG1⟩:∃G:H,G=(O.box [nI al,.d (.ivs rs.length (aN rs)),.d (.ivs ac.length (aK ac))]::.box [nI 0,.sl 3 0 0 0,.sl 4 0 0 0]::.box [nI al,.sl 5 0 0 d.length,.sl 6 0 0 ac.length]::.arr [] 0 0::.arr [] 0 0::.vec (aB 7 d++aF 0) 1 0::.arr (aK ac) 1 0::(aI d++.arr (ints (rs.getD i [])) 1 1::.vec [.sl (d.length+7) 1 0 (rs.getD i []).length] 1 0::[])):=⟨_,rfl⟩
  have row1:∀q,q<d.length->∃r:List Int,G1[7+q]? =some (.arr (ints r) 1 0):=by
   intro q hq;obtain⟨r,hr⟩:∃r,d[q]? =some r:=⟨d[q],Ae hq⟩
   refine⟨r,?_⟩;rw[hG1,show 7+q=q+1+1+1+1+1+1+1 by omega];simp only[As];exact EI hr
  have g5:G1[5]? =some (.vec (aB 7 d++aF 0) 1 0):=by rw[hG1];rfl
  have ge:G1[d.length+7]? =some (.arr (ints (rs.getD i [])) 1 1):=by
   rw[hG1];simp only[As];exact tI rfl
  have ge1:G1[d.length+8]? =some (.vec [.sl (d.length+7) 1 0 (rs.getD i []).length] 1 0):=by
   rw[hG1];simp only[As];exact FQ rfl
  have oke:Okay G1 (d.length+7):=.mk _ _ ge sm (by rw[bH ge];simp)
  have oke1:Okay G1 (d.length+8):=.mk _ _ ge1 sm (by
   intro q hq;have:kids G1 (d.length+8)=[d.length+7]:=by simp[kids,ge1,idsL,idsA]
   rw[this]at hq;simp at hq;subst hq;exact oke)
  have ok5:Okay G1 5:=.mk _ _ g5 sm (by
   intro q hq;have:kids G1 5=List.range' 7 d.length:=by simp[kids,g5,bG,bQ,dE]
   rw[this,Cw]at hq;obtain⟨z,rfl⟩:∃z,q=7+z:=⟨q-7,by omega⟩
   obtain⟨r,hr⟩:=row1 z om;exact .mk _ _ hr sm (by rw[bH hr];simp))
  have wG1:2+wgt G1<=1099511627776:=by
   have h1:=pH (aI d) [.arr (ints (rs.getD i [])) 1 1,.vec [.sl (d.length+7) 1 0 (rs.getD i []).length] 1 0];rw[E4]at h1;rw[hG1];simp only[wgt,idsL,idsA,bG,bQ,dE,Ah,Dx,Ac,Aa]at h1|-;omega
  have st_app:∀ {call:aW} {thaw:List Nat} {dst:Option Tmp} {args:Array Operand},memD env call thaw dst (.call ⟨.builtin .append,args,#[23,23]⟩) G1 [.sl 5 0 0 d.length,.sl (d.length+8) 0 0 1]=some (.sl 5 1 0 (d.length+1),G1.set 5 (.vec ((aB 7 d++aF 0).take d.length++[.sl (d.length+7) 1 0 (rs.getD i []).length]) 1 1),{ ids:=aC aD G1 [5,d.length+8] [],ro:=false,wr:=[5]}):=by
   intro call thaw dst args;exact SQ (e:=104) rfl QW kr g5 ge1 hlv (by unfold bF;omega) ok5 oke1 wG1
  rw[ht]at st_app;obtain⟨G2,hG2⟩:∃G:H,G=G1.set 5 (.vec (aB 7 d++[.sl (d.length+7) 1 0 (rs.getD i []).length]) 1 1):=⟨_,rfl⟩
  have hl1:G1.length=d.length+9:=by rw[hG1];simp[cD]
  have keep:∀q,q≠5->G2[q]? =G1[q]?:=fun q hq=>by rw[hG2,Df (fun e=>hq e.symm)]
  have k5:G2[5]? =some (.vec (aB 7 d++[.sl (d.length+7) 1 0 (rs.getD i []).length]) 1 1):=by rw[hG2,Ed om]
  have k2:G2[2]? =some (.box [nI al,.sl 5 0 0 d.length,.sl 6 0 0 ac.length]):=by rw[keep 2 om,hG1];rfl
  have k6:G2[6]? =some (.arr (aK ac) 1 0):=by rw[keep 6 om,hG1];rfl
  have ok5':Okay G2 5:=.mk _ _ k5 sm (by
   intro q hq;have:kids G2 5=List.range' 7 d.length++[d.length+7]:=by simp[kids,k5,bG,bQ,idsL,idsA]
   rw[this,Aq,Cw]at hq
   rcases hq with hq|hq
   ·obtain⟨z,rfl⟩:∃z,q=7+z:=⟨q-7,by omega⟩
    obtain⟨r,hr⟩:=row1 z om;rw[<-keep _ om]at hr;exact .mk _ _ hr sm (by rw[bH hr];simp)
   ·simp at hq;subst hq;rw[<-keep _ om]at ge;exact .mk _ _ ge sm (by rw[bH ge];simp))
  have ok6':Okay G2 6:=.mk _ _ k6 sm (by rw[bH k6];simp)
  have ok2':Okay G2 2:=.mk _ _ k2 sm (by
   intro q hq;have:kids G2 2=[5,6]:=by simp[kids,k2,idsL,idsA]
   rw[this]at hq;simp at hq
   rcases hq with rfl|rfl
   ·exact ok5'
   ·exact ok6')
  have wG2:2+wgt G2<=1099511627776:=by
   have h1:=pH (aI d) [.arr (ints (rs.getD i [])) 1 1,.vec [.sl (d.length+7) 1 0 (rs.getD i []).length] 1 0];rw[E4]at h1;rw[hG2,hG1];simp only[Bk,Ci,wgt,idsL,idsA,bG,bQ,Ah,Dx,Ac,Aa]at h1|-;omega
  have st_sto:∀ {call:aW} {thaw:List Nat} {dst:Option Tmp} {x y:Operand},memD env call thaw dst (.store 23 x y) G2 [.ptr 2 0 1,.sl 5 1 0 (d.length+1)]=some (.d .undef,G2.set 2 (.box (a6 [nI al,.sl 5 0 0 d.length,.sl 6 0 0 ac.length] 1 [.sl 5 1 0 (d.length+1)])),{ ids:=aC aD G2 [2,5] [],ro:=false,wr:=aC aD G2 [2,5] []}):=by
   intro call thaw dst x y;exact t6 kr kr k2 sm ok2' ok5' wG2
  obtain⟨o1,ho1⟩:∃o,o=aC aD G1 [5,d.length+8] []:=⟨_,rfl⟩
  obtain⟨o2,ho2⟩:∃o,o=aC aD G2 [2,5] []:=⟨_,rfl⟩
  rw[<-ho1]at st_app;rw[<-ho2,hG2]at st_sto;rw[hG1]at st_app st_sto;simp only[Bk,Ci,a6,Ds,List.take_zero,At,Am,Ac,Aa,Dh,Ay,Nat.reduceAdd]at st_app st_sto;clear hG2 hG1 k5 k2 k6 keep ok5' ok6' ok2' wG2 wG1 ok5 oke1 oke ge1 ge g5 row1 ho1 ho2 hl1
  simp-implicitDefEqProofs (maxSteps:=9^7) (disch:=try exact Dz) only[↓DN,↓kRet,UP,simprocAttr,LA,hc,hi0,cD,Ad,tI,aG9,V4,Ao,↓st_app,↓st_sto,↓aOP,↓ih',qI,rE,Tryz.f198]
theorem UC{R:Type}{L n m:Nat}(hn:1<=n){al:Int}{rs:List (List Int)}{ac:List Bool}(hs:bD rs)(h1:1<=rs.length)(hm:rs.length<m){k:KE R}:
  aV env (aA env L n) L 0 (W16 (W8 (W4 [1002]))) Bz13 (pD 0) Bz27 m (Y1 (.ptr 0 0 0::.ptr 1 0 0::.ptr 2 0 0::nI 0::Y16 (Y8 (Y2 (Y1 ([])))))) [.box [nI al,.d (.ivs rs.length (aN rs)),.d (.ivs ac.length (aK ac))],.box [nI 0,.sl 3 0 0 0,.sl 4 0 0 0],.box [nI al,.sl 5 0 0 0,.sl 6 0 0 ac.length],.arr [] 0 0,.arr [] 0 0,.arr [] 0 0,.arr (aK ac) 1 0] k
  =k (.exit 0) (Y1 (.ptr 0 0 0::.ptr 1 0 0::.ptr 2 0 0::nI (rs.length)::Y16 (Y8 (Y2 (Y1 ([])))))) (.box [nI al,.d (.ivs rs.length (aN rs)),.d (.ivs ac.length (aK ac))]::.box [nI 0,.sl 3 0 0 0,.sl 4 0 0 0]::.box [nI al,.sl 5 0 0 rs.length,.sl 6 0 0 ac.length]::.arr [] 0 0::.arr [] 0 0::.vec (aB 7 rs++aF 0) 1 0::.arr (aK ac) 1 0::aI rs):=by
 obtain⟨j,hj⟩:∃j,rs.length=j+1:=⟨rs.length-1,by omega⟩
 obtain _|m:=m;omega;have hrl:=hs.1;have hc:(0:Int)<rs.length:=om;have hrow:=oJ hs (k:=0) om
 have loop_b:∀ {R:Type} {k:KE R},aV env (aA env L n) L 0 (W16 (W8 (W4 [1002]))) Bz13 (pD 0) Bz27 m (Y1 (.ptr 0 0 0::.ptr 1 0 0::.ptr 2 0 0::nI 1::Y16 (Y8 (Y2 (Y1 ([])))))) [.box [nI al,.d (.ivs rs.length (aN rs)),.d (.ivs ac.length (aK ac))],.box [nI 0,.sl 3 0 0 0,.sl 4 0 0 0],.box [nI al,.sl 5 0 0 1,.sl 6 0 0 ac.length],.arr [] 0 0,.arr [] 0 0,.vec [.sl 7 0 0 (rs.getD 0 []).length] 1 0,.arr (aK ac) 1 0,.arr (ints (rs.getD 0 [])) 1 0] k
  =k (.exit 0) (Y1 (.ptr 0 0 0::.ptr 1 0 0::.ptr 2 0 0::nI (rs.length)::Y16 (Y8 (Y2 (Y1 ([])))))) (.box [nI al,.d (.ivs rs.length (aN rs)),.d (.ivs ac.length (aK ac))]::.box [nI 0,.sl 3 0 0 0,.sl 4 0 0 0]::.box [nI al,.sl 5 0 0 rs.length,.sl 6 0 0 ac.length]::.arr [] 0 0::.arr [] 0 0::.vec (aB 7 rs++aF 0) 1 0::.arr (aK ac) 1 0::aI rs):=by
  intro R k;have h:=aD5 (R:=R) (L:=L) (n:=n) hn (al:=al) (ac:=ac) hs (k:=k) j 1 m [rs.getD 0 []] 1 om om rfl rfl
  have e:[rs.getD 0 []]++rs.drop 1=rs:=by
   have:=bM (l:=rs) (i:=0) (d:=[]) om;rw[Ay]at this;exact this.symm
  rw[e]at h;exact h
 clear hj;have g0:((aN rs).map A.d).head? =some (.d (.ivs (rs.getD 0 []).length (ints (rs.getD 0 [])))):=P1 (k:=0) om;generalize rs.getD 0 []=r0 at *
 simp-implicitDefEqProofs (maxSteps:=9^7) (disch:=try exact Dz) only[↓DN,↓kRet,UP,simprocAttr,LA,hc,g0,↓loop_b,qI,rE,Tryz.f198]
theorem UI{R:Type}{L n m:Nat}(hn:1<=n){al:Int}{ac:List Bool}{k:KE R}:
  aV env (aA env L n) L 0 (W16 (W8 (W4 [1002]))) Bz13 (pD 0) Bz27 (m+1) (Y1 (.ptr 0 0 0::.ptr 1 0 0::.ptr 2 0 0::nI 0::Y16 (Y8 (Y2 (Y1 ([])))))) [.box [nI al,.d (.ivs 0 []),.d (.ivs ac.length (aK ac))],.box [nI 0,.sl 3 0 0 0,.sl 4 0 0 0],.box [nI al,.sl 5 0 0 0,.sl 6 0 0 ac.length],.arr [] 0 0,.arr [] 0 0,.arr [] 0 0,.arr (aK ac) 1 0] k
  =k (.exit 0) (Y1 (.ptr 0 0 0::.ptr 1 0 0::.ptr 2 0 0::nI 0::Y16 (Y8 (Y2 (Y1 ([])))))) [.box [nI al,.d (.ivs 0 []),.d (.ivs ac.length (aK ac))],.box [nI 0,.sl 3 0 0 0,.sl 4 0 0 0],.box [nI al,.sl 5 0 0 0,.sl 6 0 0 ac.length],.arr [] 0 0,.arr [] 0 0,.arr [] 0 0,.arr (aK ac) 1 0]:=by
 simp-implicitDefEqProofs (maxSteps:=9^7) (disch:=try exact Dz) only[↓DN,↓kRet,UP,simprocAttr,Al,qI,rE,Tryz.f198]
theorem aHU(hn:2<=n)(al:Int)(rs:List (List Int))(ac:List Bool)(hs:bD rs)(h1:1<=rs.length)(ha:ac.length<=4294967295)(hL:2^60<=L):aA env L n 198 [.agg [nI al,.d (.ivs rs.length (aN rs)),.d (.ivs ac.length (aK ac))]] []=some (autA 0 al rs.length ac.length,autO 0 rs ac):=by
 have hrl:=hs.1;have hbl:(aK ac).length=ac.length:=gD;unfold autA autO;obtain _|n:=n;omega
 simp-implicitDefEqProofs (maxSteps:=9^7) (disch:=try exact Dz) only[↓DN,↓kAsg,↓kRet,UP,simprocAttr,hbl,↓UC,↓aMy,↓aMa,z0As,z0A,eq_self,aCn,aCP,VP,NY,Tryz.f198]
theorem Y6(hn:2<=n)(al:Int)(ac:List Bool)(ha:ac.length<=4294967295)(hL:2^60<=L):aA env L n 198 [.agg [nI al,.d (.ivs 0 []),.d (.ivs ac.length (aK ac))]] []=some (autA 0 al 0 ac.length,[.arr [] 0 0,.arr (aK ac) 1 0]):=by
 have hbl:(aK ac).length=ac.length:=gD;have loop_c:=fun {R:Type} {n:Nat} (hn:1<=n) {k:KE R}=> @UI R L n (L-1) hn al ac k;rw[show L-1+1=L by omega]at loop_c;unfold autA;obtain _|n:=n;omega
 simp-implicitDefEqProofs (maxSteps:=9^7) (disch:=try exact Dz) only[↓DN,↓kAsg,↓kRet,UP,simprocAttr,hbl,↓loop_c,VP,NY,Tryz.f198]
end
end Ev
end Go.Proofs.YtahbdkmimmnadaaGreatDoor
