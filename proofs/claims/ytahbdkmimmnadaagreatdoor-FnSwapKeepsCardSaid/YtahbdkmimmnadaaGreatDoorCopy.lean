/-
  Memory of some shapes at the end of a round. Written by a program.
-/
import Derived.Test.YtahbdkmimmnadaaGreatDoorShRn
import Derived.Test.YtahbdkmimmnadaaGreatDoorLeast
set_option linter.unusedSimpArgs false
set_option linter.unusedVariables false
set_option linter.unusedSectionVars false
set_option maxRecDepth 8000
set_option maxHeartbeats 4000000
namespace Go.Proofs.YtahbdkmimmnadaaGreatDoor
namespace Ev
theorem aSF{m:List Bool}{s:List A}{a1 a2 a3 x0 x1:D}{k z:Nat}{r:List Int}{cs:List D}{d:List (List Int)}{p:H}(hl:d.length<=4294967296):gc 0 m s (.box [.d a1,.d a2,.d a3]::.box [.d x0,.sl 3 0 0 0,.sl 4 0 0 0]::.box [.d x1,.sl 5 1 0 k,.sl 6 0 0 z]::.arr [] 0 0::.arr [] 0 0::.vec (aB 7 d++[.sl (d.length+7) 1 0 r.length]) 1 1::.arr cs 1 0::(aI d++.arr (ints r) 1 1::p))=match box (tidy m s)with
  |.mk s1=>if idsL s1=[0,1,2]then(aQ 0 (.box [.d a1,.d a2,.d a3]::.box [.d x0,.sl 3 0 0 0,.sl 4 0 0 0]::.box [.d x1,.sl 5 1 0 k,.sl 6 0 0 z]::.arr [] 0 0::.arr [] 0 0::.vec (aB 7 d++[.sl (d.length+7) 1 0 r.length]) 1 1::.arr cs 1 0::(aI d++[.arr (ints r) 1 1])) (s1),.box [.d a1,.d a2,.d a3]::.box [.d x0,.sl 3 0 0 0,.sl 4 0 0 0]::.box [.d x1,.sl 5 0 0 k,.sl 6 0 0 z]::.arr [] 0 0::.arr [] 0 0::.vec (aB 7 d++[.sl (d.length+7) 0 0 r.length]) 1 0::.arr cs 1 0::(aI d++[.arr (ints r) 1 0]))else gcO 0 m s (.box [.d a1,.d a2,.d a3]::.box [.d x0,.sl 3 0 0 0,.sl 4 0 0 0]::.box [.d x1,.sl 5 1 0 k,.sl 6 0 0 z]::.arr [] 0 0::.arr [] 0 0::.vec (aB 7 d++[.sl (d.length+7) 1 0 r.length]) 1 1::.arr cs 1 0::(aI d++.arr (ints r) 1 1::p))
  |.no=>([],[]):=by
 simp only[box]
 split
 ·rename_i hc
  have hb:=hc;have hids:idsL (tidy m s)=[0,1,2]:=by exact hb
  obtain⟨h,hh⟩:∃h:H,O.box [.d a1,.d a2,.d a3]::.box [.d x0,.sl 3 0 0 0,.sl 4 0 0 0]::.box [.d x1,.sl 5 1 0 k,.sl 6 0 0 z]::.arr [] 0 0::.arr [] 0 0::.vec (aB 7 d++[.sl (d.length+7) 1 0 r.length]) 1 1::.arr cs 1 0::(aI d++.arr (ints r) 1 1::p)=h:=⟨_,rfl⟩
  conv=>lhs;rw[hh]
  have g0:h[0]? =some (.box [.d a1,.d a2,.d a3]):=by rw[<-hh];rfl
  have g1:h[1]? =some (.box [.d x0,.sl 3 0 0 0,.sl 4 0 0 0]):=by rw[<-hh];rfl
  have g2:h[2]? =some (.box [.d x1,.sl 5 1 0 k,.sl 6 0 0 z]):=by rw[<-hh];rfl
  have g3:h[3]? =some (.arr [] 0 0):=by rw[<-hh];rfl
  have g4:h[4]? =some (.arr [] 0 0):=by rw[<-hh];rfl
  have g5:h[5]? =some (.vec (aB 7 d++[.sl (d.length+7) 1 0 r.length]) 1 1):=by rw[<-hh];rfl
  have g6:h[6]? =some (.arr cs 1 0):=by rw[<-hh];rfl
  have hD:h.drop 7=aI d++(.arr (ints r) 1 1::p):=by rw[<-hh];rfl
  have gr:=iF 7 hD;have ge0:h[d.length+7]? =some (.arr (ints r) 1 1):=xL 7 0 hD rfl om;have k0:kids h (0)=[]:=by simp[kids,g0,idsL,idsA]
  have k1:kids h (1)=[3,4]:=by simp[kids,g1,idsL,idsA]
  have k2:kids h (2)=[5,6]:=by simp[kids,g2,idsL,idsA]
  have k3:kids h (3)=[]:=bL g3;have k4:kids h (4)=[]:=bL g4;have k5:kids h (5)=List.range' 7 d.length++[d.length+7]:=by simp[kids,g5,bM,bY,idsL,idsA]
  have leaf:=i8 gr;have hr:aD aF h [0,1,2] []=[0,1,2,3,4,5]++([6]++(List.range' 7 d.length++[d.length+7])):=gH (by simp[k0,k1,k2,k3,k4,k5]) (by intro q hq;simp only[Ac,Ab]at hq;have:q=0\/q=1\/q=2\/q=3\/q=4\/q=5:=om;rcases this with rfl|rfl|rfl|rfl|rfl|rfl<;>simp[k0,k1,k2,k3,k4]) leaf (by intro i hi;simp at hi;rcases hi with rfl|rfl<;>exact⟨_,_,_,by assumption⟩) (by intro i hi;simp at hi;rcases hi with rfl|rfl|rfl|rfl|rfl|rfl<;>exact⟨_,by assumption,by simp⟩) (by simp<;>omega) (by intro i hi;simp at hi;omega) (by simp only[aF,Ac,Ab];omega);generalize hord:[0,1,2,3,4,5]++([6]++(List.range' 7 d.length++[d.length+7]))=ord at hr;have hA:ord=([0,1,2,3,4,5]++[6])++(List.range' 7 d.length++[d.length+7]):=by rw[<-hord,Ao]
  have pk:∀i j,ord[j]? =some i->aH ord i=some j:=fun i j h1=>dP (by rw[<-hr];exact bT aF h _ [] sm) h1;have p0:=pk (0) 0 (by rw[<-hord];rfl);have p1:=pk (1) 1 (by rw[<-hord];rfl);have p2:=pk (2) 2 (by rw[<-hord];rfl);have p3:=pk (3) 3 (by rw[<-hord];rfl);have p4:=pk (4) 4 (by rw[<-hord];rfl);have p5:=pk (5) 5 (by rw[<-hord];rfl);have p6:=pk (6) 6 (by rw[<-hord];rfl);have pr:=jC (C:=7) pk hA rfl;have pe0:=SZ (C:=7) pk hA rfl 0 (i:=d.length+7) (j:=d.length+7) rfl om;obtain⟨K,hK⟩:∃K:H,O.box [.d a1,.d a2,.d a3]::.box [.d x0,.sl 3 0 0 0,.sl 4 0 0 0]::.box [.d x1,.sl 5 1 0 k,.sl 6 0 0 z]::.arr [] 0 0::.arr [] 0 0::.vec (aB 7 d++[.sl (d.length+7) 1 0 r.length]) 1 1::.arr cs 1 0::(aI d++[.arr (ints r) 1 1])=K:=⟨_,rfl⟩
  have hni:∀f,aE f (aG 0)=aG 0:=fun _=>rfl
  have hpk:pack h ord=K:=by
   have hrf:aE (aH ord) (aB 7 d)=aB 7 d:=fC (c:=0) pr;rw[kR hA gr,<-hK];simp only[As,Am,Af,Al,Aa,g0,g1,g2,g3,g4,g5,g6,ge0,Bd,mapO,aE,mapA,dB,hrf,p3,p4,p5,p6,pe0]
  have hKD:K.drop 7=aI d++[.arr (ints r) 1 1]:=by rw[<-hK];rfl
  have hgr:=nT hKD;have hge0:a6 K (d.length+7)=some 1:=by simp only[a6,xL 7 0 hKD rfl (j:=d.length+7) om]
  have hcm:cM 0 K=.box [.d a1,.d a2,.d a3]::.box [.d x0,.sl 3 0 0 0,.sl 4 0 0 0]::.box [.d x1,.sl 5 0 0 k,.sl 6 0 0 z]::.arr [] 0 0::.arr [] 0 0::.vec (aB 7 d++[.sl (d.length+7) 0 0 r.length]) 1 0::.arr cs 1 0::(aI d++[.arr (ints r) 1 0]):=by
   have hrf:aQ 0 K (aB 7 d)=aB 7 d:=fR hgr;have hnc:∀h:H,aQ 0 h (aG 0)=aG 0:=fun _=>rfl;have q3:a6 K 3=some 0:=by rw[<-hK];rfl
   have q4:a6 K 4=some 0:=by rw[<-hK];rfl
   have q5:a6 K 5=some 1:=by rw[<-hK];rfl
   have q6:a6 K 6=some 0:=by rw[<-hK];rfl
   unfold cM;rw[fV]
   conv=>lhs;arg 2;rw[<-hK]
   simp only[Af,Dp,Al,cB,aQ,bJ,gS,eK,hrf,gM,q3,q4,q5,q6,hge0,Bz,if_false,if_true]
  subst hK;rw[O8 (ord:=ord) (by rw[hids];exact hr),hpk,hcm]
  have hmp:aE (aH ord) (tidy m s)=tidy m s:=by
   apply fT;rw[hids];intro i hi;simp only[Au,Bv,or_false]at hi
   rcases hi with rfl|rfl|rfl
   ·exact p0
   ·exact p1
   ·exact p2
  rw[hmp]
 ·rfl
theorem aSI{m:List Bool}{s:List A}{a1 a2 a3 x0 x1:D}{k z:Nat}{cs:List D}{d:List (List Int)}(hl:d.length<=4294967296):gc 0 m s (.box [.d a1,.d a2,.d a3]::.box [.d x0,.sl 3 0 0 0,.sl 4 0 0 0]::.box [.d x1,.sl 5 0 0 k,.sl 6 0 0 z]::.arr [] 0 0::.arr [] 0 0::.vec (aB 7 d++aG 0) 1 0::.arr cs 1 0::aI d)=match box (tidy m s)with
  |.mk s1=>if idsL s1=[0,1,2]then(aQ 0 (.box [.d a1,.d a2,.d a3]::.box [.d x0,.sl 3 0 0 0,.sl 4 0 0 0]::.box [.d x1,.sl 5 0 0 k,.sl 6 0 0 z]::.arr [] 0 0::.arr [] 0 0::.vec (aB 7 d++aG 0) 1 0::.arr cs 1 0::aI d) (s1),.box [.d a1,.d a2,.d a3]::.box [.d x0,.sl 3 0 0 0,.sl 4 0 0 0]::.box [.d x1,.sl 5 0 0 k,.sl 6 0 0 z]::.arr [] 0 0::.arr [] 0 0::.vec (aB 7 d++aG 0) 1 0::.arr cs 1 0::aI d)else gcO 0 m s (.box [.d a1,.d a2,.d a3]::.box [.d x0,.sl 3 0 0 0,.sl 4 0 0 0]::.box [.d x1,.sl 5 0 0 k,.sl 6 0 0 z]::.arr [] 0 0::.arr [] 0 0::.vec (aB 7 d++aG 0) 1 0::.arr cs 1 0::aI d)
  |.no=>([],[]):=by
 simp only[box]
 split
 ·rename_i hc
  have hb:=hc;have hids:idsL (tidy m s)=[0,1,2]:=by exact hb
  obtain⟨h,hh⟩:∃h:H,O.box [.d a1,.d a2,.d a3]::.box [.d x0,.sl 3 0 0 0,.sl 4 0 0 0]::.box [.d x1,.sl 5 0 0 k,.sl 6 0 0 z]::.arr [] 0 0::.arr [] 0 0::.vec (aB 7 d++aG 0) 1 0::.arr cs 1 0::aI d=h:=⟨_,rfl⟩
  conv=>lhs;rw[hh]
  have g0:h[0]? =some (.box [.d a1,.d a2,.d a3]):=by rw[<-hh];rfl
  have g1:h[1]? =some (.box [.d x0,.sl 3 0 0 0,.sl 4 0 0 0]):=by rw[<-hh];rfl
  have g2:h[2]? =some (.box [.d x1,.sl 5 0 0 k,.sl 6 0 0 z]):=by rw[<-hh];rfl
  have g3:h[3]? =some (.arr [] 0 0):=by rw[<-hh];rfl
  have g4:h[4]? =some (.arr [] 0 0):=by rw[<-hh];rfl
  have g5:h[5]? =some (.vec (aB 7 d++aG 0) 1 0):=by rw[<-hh];rfl
  have g6:h[6]? =some (.arr cs 1 0):=by rw[<-hh];rfl
  have hD:h.drop 7=aI d++[]:=by rw[<-hh];exact(Ah _).symm
  have gr:=iF 7 hD;have k0:kids h (0)=[]:=by simp[kids,g0,idsL,idsA]
  have k1:kids h (1)=[3,4]:=by simp[kids,g1,idsL,idsA]
  have k2:kids h (2)=[5,6]:=by simp[kids,g2,idsL,idsA]
  have k3:kids h (3)=[]:=bL g3;have k4:kids h (4)=[]:=bL g4;have k5:kids h (5)=List.range' 7 d.length:=by simp[kids,g5,bM,bY,dO]
  have leaf:=i8 gr;have hr:aD aF h [0,1,2] []=[0,1,2,3,4,5]++([6]++(List.range' 7 d.length++[])):=gH (by simp[k0,k1,k2,k3,k4,k5]) (by intro q hq;simp only[Ac,Ab]at hq;have:q=0\/q=1\/q=2\/q=3\/q=4\/q=5:=om;rcases this with rfl|rfl|rfl|rfl|rfl|rfl<;>simp[k0,k1,k2,k3,k4]) leaf (by intro i hi;simp at hi;subst hi;exact⟨_,_,_,by assumption⟩) (by intro i hi;simp at hi;rcases hi with rfl|rfl|rfl|rfl|rfl|rfl<;>exact⟨_,by assumption,by simp⟩) (by simp<;>omega) (by intro i hi;simp at hi;omega) (by simp only[aF,Ac,Ab];omega);generalize hord:[0,1,2,3,4,5]++([6]++(List.range' 7 d.length++[]))=ord at hr;have hA:ord=([0,1,2,3,4,5]++[6])++(List.range' 7 d.length++[]):=by rw[<-hord,Ao]
  have pk:∀i j,ord[j]? =some i->aH ord i=some j:=fun i j h1=>dP (by rw[<-hr];exact bT aF h _ [] sm) h1;have p0:=pk (0) 0 (by rw[<-hord];rfl);have p1:=pk (1) 1 (by rw[<-hord];rfl);have p2:=pk (2) 2 (by rw[<-hord];rfl);have p3:=pk (3) 3 (by rw[<-hord];rfl);have p4:=pk (4) 4 (by rw[<-hord];rfl);have p5:=pk (5) 5 (by rw[<-hord];rfl);have p6:=pk (6) 6 (by rw[<-hord];rfl);have pr:=jC (C:=7) pk hA rfl;obtain⟨K,hK⟩:∃K:H,O.box [.d a1,.d a2,.d a3]::.box [.d x0,.sl 3 0 0 0,.sl 4 0 0 0]::.box [.d x1,.sl 5 0 0 k,.sl 6 0 0 z]::.arr [] 0 0::.arr [] 0 0::.vec (aB 7 d++aG 0) 1 0::.arr cs 1 0::aI d=K:=⟨_,rfl⟩
  have hni:∀f,aE f (aG 0)=aG 0:=fun _=>rfl
  have hpk:pack h ord=K:=by
   have hrf:aE (aH ord) (aB 7 d)=aB 7 d:=fC (c:=0) pr;rw[kR hA gr,<-hK];simp only[As,Am,Af,Al,Aa,g0,g1,g2,g3,g4,g5,g6,Bd,mapO,aE,mapA,dB,hrf,hni,p3,p4,p5,p6,Ah]
  have hKD:K.drop 7=aI d++[]:=by rw[<-hK];exact(Ah _).symm
  have hgr:=nT hKD
  have hcm:cM 0 K=.box [.d a1,.d a2,.d a3]::.box [.d x0,.sl 3 0 0 0,.sl 4 0 0 0]::.box [.d x1,.sl 5 0 0 k,.sl 6 0 0 z]::.arr [] 0 0::.arr [] 0 0::.vec (aB 7 d++aG 0) 1 0::.arr cs 1 0::aI d:=by
   have hrf:aQ 0 K (aB 7 d)=aB 7 d:=fR hgr;have hnc:∀h:H,aQ 0 h (aG 0)=aG 0:=fun _=>rfl;have q3:a6 K 3=some 0:=by rw[<-hK];rfl
   have q4:a6 K 4=some 0:=by rw[<-hK];rfl
   have q5:a6 K 5=some 0:=by rw[<-hK];rfl
   have q6:a6 K 6=some 0:=by rw[<-hK];rfl
   unfold cM;rw[fV]
   conv=>lhs;arg 2;rw[<-hK]
   simp only[Af,cB,aQ,bJ,gS,eK,hrf,hnc,gM,q3,q4,q5,q6,Bz,if_false,if_true]
  subst hK;rw[O8 (ord:=ord) (by rw[hids];exact hr),hpk,hcm]
  have hmp:aE (aH ord) (tidy m s)=tidy m s:=by
   apply fT;rw[hids];intro i hi;simp only[Au,Bv,or_false]at hi
   rcases hi with rfl|rfl|rfl
   ·exact p0
   ·exact p1
   ·exact p2
  rw[hmp]
 ·rfl
def XE(n:Nat):List Nat:=[5,6]++(List.range' 7 n++[])
def GO(n i:Nat):Option Nat:=if i=5 then some 0 else if i=6 then some 1 else none
theorem aEB{n:Nat}:GO n 5=some (0):=by unfold GO;repeat (first|rfl|rw[if_pos rfl]|rw[if_neg om])
theorem aFt{n:Nat}:GO n 6=some (1):=by unfold GO;repeat (first|rfl|rw[if_pos rfl]|rw[if_neg om])
theorem aOF{o0 x0 x1:O}{o3 o4:O}{cs:List D}{d:List (List Int)}(hl:d.length<=4294967296){ids:List Nat}:dI 0 (o0::x0::x1::o3::o4::.vec (aB 7 d++aG 0) 1 0::.arr cs 1 0::aI d) ids=if ids=[5,6]then XE d.length else aQH 0 (o0::x0::x1::o3::o4::.vec (aB 7 d++aG 0) 1 0::.arr cs 1 0::aI d) ids:=by
 split
 ·rename_i hc
  subst hc;obtain⟨h,hh⟩:∃h:H,o0::x0::x1::o3::o4::.vec (aB 7 d++aG 0) 1 0::.arr cs 1 0::aI d=h:=⟨_,rfl⟩
  conv=>lhs;rw[hh]
  have g5:h[5]? =some (.vec (aB 7 d++aG 0) 1 0):=by rw[<-hh];rfl
  have g6:h[6]? =some (.arr cs 1 0):=by rw[<-hh];rfl
  have hD:h.drop 7=aI d++[]:=by rw[<-hh];exact(Ah _).symm
  have gr:=iF 7 hD;have k5:kids h (5)=List.range' 7 d.length:=by simp[kids,g5,bM,bY,dO]
  have leaf:=i8 gr;have hr:aD aF h [5,6] []=[5]++([6]++(List.range' 7 d.length++[])):=gH (by simp[k5]) (by intro q hq;simp only[Ac,Ab]at hq;have:q=0:=om;rcases this with rfl<;>simp[]) leaf (by intro i hi;simp at hi;subst hi;exact⟨_,_,_,by assumption⟩) (by intro i hi;simp at hi;subst hi;exact⟨_,by assumption,by simp⟩) (by simp<;>omega) (by intro i hi;simp at hi;omega) (by simp only[aF,Ac,Ab];omega);generalize hord:[5]++([6]++(List.range' 7 d.length++[]))=ord at hr;rw[WS];unfold aF at hr;rw[hr,<-hord];rfl
 ·rfl
theorem aPc{o0 x0 x1:O}{o3 o4:O}{cs:List D}{d:List (List Int)}(hl:d.length<=4294967296){s:List A}:trim 0 (o0::x0::x1::o3::o4::.vec (aB 7 d++aG 0) 1 0::.arr cs 1 0::aI d) (XE d.length) s=if idsL s=[5,6]/\z0As s=true then(aE (GO d.length) s,.vec (aB 2 d++aG 0) 1 0::.arr cs 1 0::aI d)else aQA 0 (o0::x0::x1::o3::o4::.vec (aB 7 d++aG 0) 1 0::.arr cs 1 0::aI d) (XE d.length) s:=by
 split
 ·rename_i hc
  obtain⟨hids,hz⟩:=hc;obtain⟨h,hh⟩:∃h:H,o0::x0::x1::o3::o4::.vec (aB 7 d++aG 0) 1 0::.arr cs 1 0::aI d=h:=⟨_,rfl⟩
  conv=>lhs;rw[hh]
  have g5:h[5]? =some (.vec (aB 7 d++aG 0) 1 0):=by rw[<-hh];rfl
  have g6:h[6]? =some (.arr cs 1 0):=by rw[<-hh];rfl
  have hD:h.drop 7=aI d++[]:=by rw[<-hh];exact(Ah _).symm
  have gr:=iF 7 hD;have k5:kids h (5)=List.range' 7 d.length:=by simp[kids,g5,bM,bY,dO]
  have leaf:=i8 gr;have hr:aD aF h [5,6] []=[5]++([6]++(List.range' 7 d.length++[])):=gH (by simp[k5]) (by intro q hq;simp only[Ac,Ab]at hq;have:q=0:=om;rcases this with rfl<;>simp[]) leaf (by intro i hi;simp at hi;subst hi;exact⟨_,_,_,by assumption⟩) (by intro i hi;simp at hi;subst hi;exact⟨_,by assumption,by simp⟩) (by simp<;>omega) (by intro i hi;simp at hi;omega) (by simp only[aF,Ac,Ab];omega);generalize hord:[5]++([6]++(List.range' 7 d.length++[]))=ord at hr;have hA:ord=([5]++[6])++(List.range' 7 d.length++[]):=by rw[<-hord,Ao]
  have pk:∀i j,ord[j]? =some i->aH ord i=some j:=fun i j h1=>dP (by rw[<-hr];exact bT aF h _ [] sm) h1;have p5:=pk (5) 0 (by rw[<-hord];rfl);have p6:=pk (6) 1 (by rw[<-hord];rfl);have pr:=jC (C:=2) pk hA rfl;obtain⟨K,hK⟩:∃K:H,O.vec (aB 2 d++aG 0) 1 0::.arr cs 1 0::aI d=K:=⟨_,rfl⟩
  have hni:∀f,aE f (aG 0)=aG 0:=fun _=>rfl
  have hpk:pack h ord=K:=by
   have hrf:aE (aH ord) (aB 7 d)=aB 2 d:=fC (c:=0) pr;rw[kR hA gr,<-hK];simp only[As,Am,Af,Al,Aa,g5,g6,Bd,mapO,dB,hrf,hni,Ah]
  have hKD:K.drop 2=aI d++[]:=by rw[<-hK];exact(Ah _).symm
  have hgr:=nT hKD
  have hcm:cM 0 K=.vec (aB 2 d++aG 0) 1 0::.arr cs 1 0::aI d:=by
   have hrf:aQ 0 K (aB 2 d)=aB 2 d:=fR hgr;have hnc:∀h:H,aQ 0 h (aG 0)=aG 0:=fun _=>rfl;have q0:a6 K 0=some 0:=by rw[<-hK];rfl
   have q1:a6 K 1=some 0:=by rw[<-hK];rfl
   unfold cM;rw[fV]
   conv=>lhs;arg 2;rw[<-hK]
   simp only[Af,cB,eK,hrf,hnc,gM,Bz,if_false]
  subst hK;have hoo:XE d.length=ord:=by rw[<-hord];rfl
  unfold trim;rw[hoo,hpk,hcm]
  have hz2:aQ 0 (O.vec (aB 2 d++aG 0) 1 0::.arr cs 1 0::aI d) (aE (aH ord) s)=aE (aH ord) s:=by
   exact kI (HD (by simp[z0O,BS,xB,xG,H7])) _ (zJ _ hz)
  have hmp:aE (aH ord) s=aE (GO d.length) s:=by
   apply kQ;rw[hids];intro i hi;simp only[Au,Bv,or_false]at hi
   rcases hi with rfl|rfl
   ·rw[p5,aEB]
   ·rw[p6,aFt]
  rw[hz2,hmp]
 ·rfl


section
section
variable{h:H}{a b c d:O}
theorem aP1:(h++[a,b,c])[h.length+1+1]? =some c:=by
 rw[Bq om,show h.length+1+1-h.length=2 by omega];rfl
theorem aPy:(h++[a,b,c]).set (h.length+1+1) d=h++[a,b,d]:=by
 rw[List.set_append_right _ _ om,show h.length+1+1-h.length=2 by omega];rfl
end
theorem aQf{a b:Foot}(ha:a.ro=true)(hb:b.ro=true):lQ a b=false:=by
 unfold lQ;rw[ha,hb];rfl
section
variable{L n:Nat}{h:H}{al:Int}{rs:List (List Int)}{ac:List Bool}
end
end
theorem FW{f:Nat->Option Nat}:∀(k:Nat) (cs:List A),(aE f cs).take k=aE f (cs.take k)
 |0,cs=>by simp[aE]
 |k+1,[]=>by simp[aE]
 |k+1,c::cs=>by simp only[aE,Ds,FW k cs]
theorem PF{f:Nat->Option Nat}:∀(k:Nat) (cs:List A),(aE f cs).drop k=aE f (cs.drop k)
 |0,cs=>rfl
 |k+1,[]=>by simp[aE]
 |k+1,c::cs=>by simp only[aE,Dg,PF k cs]
theorem aKj{h:H}{ord ids:List Nat}{id k:Nat}{o:O}(hc:closed h ord ids=true)(hn:ord.Nodup)(hl:∀i∈ord,i<h.length)(hk:aH ord id=some k):
  bE (fun(k:Nat)=>ord[k]?) h ord ((pack h ord).set k o)=h.set id (mapO (fun(k:Nat)=>ord[k]?) o):=by
 have hpl:(pack h ord).length=ord.length:=by simp[pack]
 have hid:=hl id (LW hk);apply Cj;intro i;rw[B4 _ ord h _ i hn hl (by simp[pack])]
 cases hp:aH ord i with
 |none=>
  have hne:id≠i:=fun e=>by rw[e,hp]at hk;cases hk
  rw[Dl hne];simp only[]
  split
  ·rfl
  ·rename_i hge
   rw[Cg (by simp[pack]),Cg om];rfl
 |some q=>
  simp only[]
  by_cases hqk:q=k
  ·subst hqk;have h1:=bC hp;have h2:=bC hk;rw[h1]at h2;obtain rfl:i=id:=Option.some.inj h2;rw[Ef (by rw[hpl];exact BB hp),Ef hid];rfl
  ·have hne:id≠i:=fun e=>by rw[e,hp]at hk;exact hqk (Option.some.inj hk)
   rw[Dl (fun e=>hqk e.symm),Dl hne];have hm:=LW hp;obtain⟨x,hx⟩:∃x,h[i]? =some x:=⟨h[i]'(hl i hm),Ae _⟩
   rw[iI (bC hp) hx,hx,Ay,WV hc hm hx]
theorem H3{E:Env}{call:aX}{thaw:List Nat}{dst:Option Tmp}{op:Op}{h:H}{vs:List A}{a a2:A}{o o2:O}{id k:Nat}{ord:List Nat}(hord:aD aF h (idsL vs) []=ord)(hc:closed h ord (idsL vs)=true)(hk:aH ord id=some k)(hro:iU E op vs=false)
  (hev:evOp E call thaw (pack h ord) (dW dst op) (aE (aH ord) vs)=some (a,(pack h ord).set k o)) (ha:mapA (fun(k:Nat)=>ord[k]?) a=a2) (ho:mapO (fun(k:Nat)=>ord[k]?) o=o2):
  memD E call thaw dst op h vs=some (a2,h.set id o2,{ ids:=ord,ro:=false,wr:=wrOf E op vs ord}):=by
 have hn:ord.Nodup:=by rw[<-hord];exact bT aF h (idsL vs) [] sm
 have hl:∀i∈ord,i<h.length:=by rw[<-hord];exact j5 aF h (idsL vs) [] sm
 have hpl:((pack h ord).set k o).length=ord.length:=by simp[pack]
 unfold memD;rw[hord];simp only[box,hev,hpl,Ad,hc,and_self,if_true,hro,Dm,Ap,if_false,aE0,Cp];rw[aKj hc hn hl hk,ha,ho];simp
theorem aFl{E:Env}{call:aX}{thaw:List Nat}{dst:Option Tmp}{args:Array Operand}{t e:TypeId}{h:H}{id id2 g g2 len:Nat}{cs:List A}{c:A}(he:cN E.P t=some e)(hce:E.P.cellsOf e=1)(hel:d5 E.P e=true)
  (h1:h[id]? =some (.vec cs 1 g)) (h2:h[id2]? =some (.vec [c] 1 g2)) (hlen:len<=cs.length) (hmax:len+1<=bI) (ok1:Okay h id) (ok2:Okay h id2) (hw:2+wgt h<=1099511627776):
  memD E call thaw dst (.call ⟨.builtin .append,args,#[t,t]⟩) h [.sl id g 0 len,.sl id2 g2 0 1]=some (.sl id (g+1) 0 (len+1),h.set id (.vec (cs.take len++[c]) 1 (g+1)),{ ids:=aD aF h [id,id2] [],ro:=false,wr:=[id]}):=by
 have hids:idsL [A.sl id g 0 len,A.sl id2 g2 0 1]=[id,id2]:=rfl;obtain⟨c1,c2,c3⟩:=WN (h:=h) (ids:=[id,id2]) (by intro i hi;simp at hi;rcases hi with rfl|rfl;exact ok1;exact ok2) (by simpa using hw);obtain⟨ord,hord⟩:∃ord,aD aF h [id,id2] []=ord:=⟨_,rfl⟩
 rw[hord]at c1 c2 c3;obtain⟨k,hk⟩:=bZ (c2 id sm);obtain⟨k2,hk2⟩:=bZ (c2 id2 sm);have p1:=iI (h:=h) (bC hk) h1;have p2:=iI (h:=h) (bC hk2) h2;have kid:∀i,i∈ord->∀q∈kids h i,∃j,aH ord q=some j:=fun i hi q hq=>bZ (c3 i hi q hq)
 have bk:∀xs:List A,(∀i∈idsL xs,i∈ord)->aE (fun(k:Nat)=>ord[k]?) (aE (aH ord) xs)=xs:=by
  intro xs hx;rw[mN (q:=fun i=>(aH ord i).bind fun k=>ord[k]?) (fun _=>rfl)];apply fT;intro i hi;obtain⟨j,hj⟩:=bZ (hx i hi);simp only[hj,Df];exact bC hj
 have hcs:∀i∈idsL cs,i∈ord:=by
  have:=c3 id (c2 id sm)
  simpa only[kids,h1]using this
 have hcc:∀i∈idsL [c],i∈ord:=by
  have:=c3 id2 (c2 id2 sm)
  simpa only[kids,h2]using this
 have hnew:∀i∈idsL (cs.take len++[c]),i∈ord:=by
  intro i hi;rw[bM,Aq]at hi
  rcases hi with hi|hi
  ·refine hcs i ?_;have:=List.take_append_drop len cs;rw[<-this,bM,Aq];exact .inl hi
  ·exact hcc i hi
 have hmt:(aE (aH ord) cs).take len=aE (aH ord) (cs.take len):=FW len cs;have key:=H3 (E:=E) (call:=call) (thaw:=thaw) (dst:=dst) (op:=.call ⟨.builtin .append,args,#[t,t]⟩) (h:=h) (vs:=[A.sl id g 0 len,A.sl id2 g2 0 1]) (a:=.sl k (g+1) 0 (len+1)) (a2:=.sl id (g+1) 0 (len+1)) (o:=.vec (aE (aH ord) (cs.take len++[c])) 1 (g+1)) (o2:=.vec (cs.take len++[c]) 1 (g+1)) (id:=id) (k:=k) (ord:=ord) (by rw[hids];exact hord) (by rw[hids];exact c1) hk rfl ?_ (by simp only[mapA,bC hk]) (by simp only[mapO,bk _ hnew])
 ·rw[key,hord];rfl
 ·have hu:E.P.underlying t=some (.slice e):=by
   unfold cN at he
   split at he
   ·rename_i hq;cases he;exact hq
   ·cases he
  have hv:F9 (pack h ord) k=true:=by simp only[F9,p1,mapO]
  have hs:pU (pack h ord) 1 (.sl k2 g2 0 1)=some (1,aE (aH ord) [c]):=by
   simp[pU,p2,mapO,aE]
  simp only[aE,mapA,hk,hk2,evOp,dW,fQ,cQ,pV,hv,if_true,oS,he,hel,hce,hs,p1,mapO,true_and,or_true,Bu,DY,hlen,hmax,and_self,hmt,dB,hu]
theorem MO{E:Env}{call:aX}{thaw:List Nat}{dst:Option Tmp}{x y:Operand}{t:TypeId}{h:H}{id id2 off g o len:Nat}{cs:List A}(ht:E.P.cellsOf t=1)(hi:(E.P.info? t).isSome=true)
  (h1:h[id]? =some (.box cs)) (hoff:off+1<=cs.length) (ok1:Okay h id) (ok2:Okay h id2) (hw:2+wgt h<=1099511627776):
  memD E call thaw dst (.store t x y) h [.ptr id 0 off,.sl id2 g o len]=some (.d .undef,h.set id (.box (bD cs off [.sl id2 g o len])),{ ids:=aD aF h [id,id2] [],ro:=false,wr:=aD aF h [id,id2] []}):=by
 have hids:idsL [A.ptr id 0 off,A.sl id2 g o len]=[id,id2]:=rfl;obtain⟨c1,c2,c3⟩:=WN (h:=h) (ids:=[id,id2]) (by intro i hi;simp at hi;rcases hi with rfl|rfl;exact ok1;exact ok2) (by simpa using hw);obtain⟨ord,hord⟩:∃ord,aD aF h [id,id2] []=ord:=⟨_,rfl⟩
 rw[hord]at c1 c2 c3|-;obtain⟨k,hk⟩:=bZ (c2 id sm);obtain⟨k2,hk2⟩:=bZ (c2 id2 sm);have p1:=iI (h:=h) (bC hk) h1
 have bk:∀xs:List A,(∀i∈idsL xs,i∈ord)->aE (fun(k:Nat)=>ord[k]?) (aE (aH ord) xs)=xs:=by
  intro xs hx;rw[mN (q:=fun i=>(aH ord i).bind fun k=>ord[k]?) (fun _=>rfl)];apply fT;intro i hi;obtain⟨j,hj⟩:=bZ (hx i hi);simp only[hj,Df];exact bC hj
 have hcs:∀i∈idsL cs,i∈ord:=by
  have:=c3 id (c2 id sm)
  simpa only[kids,h1]using this
 have split_cs:∀q:Nat,(∀i∈idsL (cs.take q),i∈ord)/\(∀i∈idsL (cs.drop q),i∈ord):=by
  intro q;have:=List.take_append_drop q cs
  constructor
  ·intro i hi;refine hcs i ?_;rw[<-this,bM,Aq];exact .inl hi
  ·intro i hi;refine hcs i ?_;rw[<-this,bM,Aq];exact .inr hi
 have hnew:∀i∈idsL (bD cs off [.sl id2 g o len]),i∈ord:=by
  intro i hi;unfold bD at hi;rw[bM,bM,Aq,Aq]at hi
  rcases hi with(hi|hi)|hi
  ·exact(split_cs _).1 i hi
  ·simp[idsL,idsA]at hi;subst hi;exact c2 i sm
  ·exact(split_cs _).2 i hi
 have hmr:bD (aE (aH ord) cs) off [.sl k2 g o len]=aE (aH ord) (bD cs off [.sl id2 g o len]):=by
  unfold bD;rw[dB,dB,FW,PF];simp only[aE,mapA,hk2,Ac,Ab]
 have key:=H3 (E:=E) (call:=call) (thaw:=thaw) (dst:=dst) (op:=.store t x y) (h:=h) (vs:=[A.ptr id 0 off,A.sl id2 g o len]) (a:=.d .undef) (a2:=.d .undef) (o:=.box (aE (aH ord) (bD cs off [.sl id2 g o len]))) (o2:=.box (bD cs off [.sl id2 g o len])) (id:=id) (k:=k) (ord:=ord) (by rw[hids];exact hord) (by rw[hids];exact c1) hk rfl ?_ (by simp only[mapA]) (by simp only[mapO,bk _ hnew])
 ·rw[key];rfl
 ·have hoff2:off+1<=(aE (aH ord) cs).length:=by rw[DY];exact hoff
  simp only[aE,mapA,hk,hk2,evOp,dW,two,iW,aU,Ac,Ab,Ag,ht,hi,Bp,Cc,dE,Bx,and_self,if_true,p1,mapO,hoff2,aY,hmr,Ay]
section
variable{R:Type}{L n:Nat}
mutual
theorem aMz{nf:Nat}{h:H}:∀a:A,(∀i∈idsA a,a6 h i=none)->bJ nf h a=a
 |.d x,_=>by simp only[bJ]
 |.sl id gen off len,hi=>by
  have:=hi id (by simp[idsA]);simp only[bJ,gS,this]
  split<;>rfl
 |.ptr id gen off,hi=>by
  have:=hi id (by simp[idsA]);simp only[bJ,IE,this]
  split<;>rfl
 |.mp id,_=>by simp only[bJ]
 |.clo g cs,hi=>by simp only[bJ];rw[oO cs (fun i h=>hi i (by simpa only[idsA]using h))]
 |.agg cs,hi=>by simp only[bJ];rw[oO cs (fun i h=>hi i (by simpa only[idsA]using h))]
 |.tup cs,hi=>by simp only[bJ];rw[oO cs (fun i h=>hi i (by simpa only[idsA]using h))]
 |.junk,_=>by simp only[bJ]
theorem oO{nf:Nat}{h:H}:∀xs:List A,(∀i∈idsL xs,a6 h i=none)->aQ nf h xs=xs
 | [],_=>by simp only[aQ]
 |x::xs,hi=>by
  simp only[aQ];rw[aMz x (fun i h=>hi i (by simp only[idsL,Aq];exact .inl h)),oO xs (fun i h=>hi i (by simp only[idsL,Aq];exact .inr h))]
end
theorem aSe{m:List Bool}{s:List A}{a1 a2 a3 x0 x1:D}{k z e0:Nat}{r:List Int}{cs:List D}{d:List (List Int)}{p:H}(he:e0=d.length+7)(hl:d.length<=4294967296):gc 0 m s (.box [.d a1,.d a2,.d a3]::.box [.d x0,.sl 3 0 0 0,.sl 4 0 0 0]::.box [.d x1,.sl 5 1 0 k,.sl 6 0 0 z]::.arr [] 0 0::.arr [] 0 0::.vec (aB 7 d++[.sl e0 1 0 r.length]) 1 1::.arr cs 1 0::(aI d++.arr (ints r) 1 1::p))=match box (tidy m s)with
  |.mk s1=>if idsL s1=[0,1,2]then(s1,.box [.d a1,.d a2,.d a3]::.box [.d x0,.sl 3 0 0 0,.sl 4 0 0 0]::.box [.d x1,.sl 5 0 0 k,.sl 6 0 0 z]::.arr [] 0 0::.arr [] 0 0::.vec (aB 7 (d++[r])++aG 0) 1 0::.arr cs 1 0::aI (d++[r]))else gcO 0 m s (.box [.d a1,.d a2,.d a3]::.box [.d x0,.sl 3 0 0 0,.sl 4 0 0 0]::.box [.d x1,.sl 5 1 0 k,.sl 6 0 0 z]::.arr [] 0 0::.arr [] 0 0::.vec (aB 7 d++[.sl e0 1 0 r.length]) 1 1::.arr cs 1 0::(aI d++.arr (ints r) 1 1::p))
  |.no=>([],[]):=by
 have hn:aG 0=[]:=rfl;subst he;rw[aSF hl,<-M0,F7,hn,Ah,Ck 7];have hc:=oO (nf:=0) (h:=.box [.d a1,.d a2,.d a3]::.box [.d x0,.sl 3 0 0 0,.sl 4 0 0 0]::.box [.d x1,.sl 5 1 0 k,.sl 6 0 0 z]::.arr [] 0 0::.arr [] 0 0::.vec (aB 7 d++[.sl (d.length+7) 1 0 r.length]) 1 1::.arr cs 1 0::(aI d++[.arr (ints r) 1 1])) (tidy m s);simp only[box]
 split
 ·rename_i hid
  rw[hc (by rw[hid];intro i hi;simp at hi;rcases hi with rfl|rfl|rfl<;>rfl)]
 ·rfl
theorem Y7{d:List (List Int)}{o q:O}{p:H}{k:Nat}(h:k=d.length):(aI d++o::p).set k q=aI d++q::p:=by
 rw[List.set_append_right _ _ (by rw[cC];omega),cC,h,Cp];rfl
theorem aHp{d:List (List Int)}{o o2 q:O}{p:H}{k:Nat}(h:k=d.length+1):(aI d++o2::o::p).set k q=aI d++o2::q::p:=by
 rw[List.set_append_right _ _ (by rw[cC];omega),cC,h,Dv];rfl
theorem uG{d:List (List Int)}{o:O}{p:H}{k:Nat}(h:k=d.length):(aI d++o::p)[k]? =some o:=by
 subst h;rw[Bq (by rw[cC];omega),cC,Cp];rfl
theorem JC{d:List (List Int)}{o o2:O}{p:H}{k:Nat}(h:k=d.length+1):(aI d++o2::o::p)[k]? =some o:=by
 subst h;rw[Bq (by rw[cC];omega),cC,Dv];rfl
theorem aJu{d:List (List Int)}{o x:O}{p:H}{k:Nat}(h:k=d.length):(aI d++o::p).getD k x=o:=by
 rw[Aa,uG h];rfl
theorem aGB{d:List (List Int)}{o o2 x:O}{p:H}{k:Nat}(h:k=d.length+1):(aI d++o2::o::p).getD k x=o:=by
 rw[Aa,JC h];rfl
theorem aGW(hn:1<=n){al:Int}{rs:List (List Int)}{ac:List Bool}(hs:bN rs){k:KE R}:∀(j i m:Nat) (d:List (List Int)) (len:Nat) (hi:i+j=rs.length) (hm:j<m) (hd:d.length=i) (hlen:len=d.length),
  aS env (aA env L n) L 0 (W16 (W8 (W4 [1002]))) Bz14 (pX 0) Bz30 m (Y1 (.ptr 0 0 0::.ptr 1 0 0::.ptr 2 0 0::nI i::Y16 (Y8 (Y2 (Y1 ([])))))) (.box [nI al,.d (.ivs rs.length (aP rs)),.d (.ivs ac.length (aK ac))]::.box [nI 0,.sl 3 0 0 0,.sl 4 0 0 0]::.box [nI al,.sl 5 0 0 len,.sl 6 0 0 ac.length]::.arr [] 0 0::.arr [] 0 0::.vec (aB 7 d++aG 0) 1 0::.arr (aK ac) 1 0::aI d) k
  =k (.exit 0) (Y1 (.ptr 0 0 0::.ptr 1 0 0::.ptr 2 0 0::nI (rs.length)::Y16 (Y8 (Y2 (Y1 ([])))))) (.box [nI al,.d (.ivs rs.length (aP rs)),.d (.ivs ac.length (aK ac))]::.box [nI 0,.sl 3 0 0 0,.sl 4 0 0 0]::.box [nI al,.sl 5 0 0 (d++rs.drop i).length,.sl 6 0 0 ac.length]::.arr [] 0 0::.arr [] 0 0::.vec (aB 7 (d++rs.drop i)++aG 0) 1 0::.arr (aK ac) 1 0::aI (d++rs.drop i)):=by
 intro j;have hrl:=hs.1
 induction j with
 |zero=>
  intro i m d len hi hm hd hlen;obtain _|m:=m;omega;obtain rfl:i=rs.length:=om;subst hlen;have hdl:d.length<=4294967296:=om;rw[Bl,Ah]
  simp-implicitDefEqProofs (maxSteps:=9^7) (disch:=try exact Dz) only[↓DN,↓kRet,UP,simprocAttr,Ak,↓aSI,qW,rY,Tryz.f198]
 |succ j ih=>
  intro i m d len hi hm hd hlen;obtain _|m:=m;omega;subst hlen;have hc:(i:Int)<rs.length:=om;have hk:i<rs.length:=om;have hi0:(0:Int)<=i:=om;have hrow:=wK hs hk;have hdl:d.length<=4294967296:=om;have hdl3:d.length<=4294967295:=om;have ih':=ih (i+1) m (d++[rs.getD i []]) (d.length+1) om om (by simp;omega) sm;rw[cs1 i]at ih';rw[bP hk (d:=[])];simp only[Ao,As,Am]at ih';have ht:(aB 7 d++aG 0).take d.length=aB 7 d:=QB rfl;have hlv:d.length<=(aB 7 d++aG 0).length:=by rw[Ai,kN];omega
  clear ih;obtain⟨G1,hG1⟩:∃G:H,G=(O.box [nI al,.d (.ivs rs.length (aP rs)),.d (.ivs ac.length (aK ac))]::.box [nI 0,.sl 3 0 0 0,.sl 4 0 0 0]::.box [nI al,.sl 5 0 0 d.length,.sl 6 0 0 ac.length]::.arr [] 0 0::.arr [] 0 0::.vec (aB 7 d++aG 0) 1 0::.arr (aK ac) 1 0::(aI d++.arr (ints (rs.getD i [])) 1 1::.vec [.sl (d.length+7) 1 0 (rs.getD i []).length] 1 0::[])):=⟨_,rfl⟩
  have row1:∀q,q<d.length->∃r:List Int,G1[7+q]? =some (.arr (ints r) 1 0):=by
   intro q hq;obtain⟨r,hr⟩:∃r,d[q]? =some r:=⟨d[q],Ae hq⟩
   refine⟨r,?_⟩;rw[hG1,show 7+q=q+1+1+1+1+1+1+1 by omega];simp only[Av];exact GS hr
  have g5:G1[5]? =some (.vec (aB 7 d++aG 0) 1 0):=by rw[hG1];rfl
  have ge:G1[d.length+7]? =some (.arr (ints (rs.getD i [])) 1 1):=by
   rw[hG1];simp only[Av];exact uG rfl
  have ge1:G1[d.length+8]? =some (.vec [.sl (d.length+7) 1 0 (rs.getD i []).length] 1 0):=by
   rw[hG1];simp only[Av];exact JC rfl
  have oke:Okay G1 (d.length+7):=.mk _ _ ge sm (by rw[bL ge];simp)
  have oke1:Okay G1 (d.length+8):=.mk _ _ ge1 sm (by
   intro q hq;have:kids G1 (d.length+8)=[d.length+7]:=by simp[kids,ge1,idsL,idsA]
   rw[this]at hq;simp at hq;subst hq;exact oke)
  have ok5:Okay G1 5:=.mk _ _ g5 sm (by
   intro q hq;have:kids G1 5=List.range' 7 d.length:=by simp[kids,g5,bM,bY,dO]
   rw[this,Cx]at hq;obtain⟨z,rfl⟩:∃z,q=7+z:=⟨q-7,by omega⟩
   obtain⟨r,hr⟩:=row1 z om;exact .mk _ _ hr sm (by rw[bL hr];simp))
  have wG1:2+wgt G1<=1099511627776:=by
   have h1:=pR (aI d) [.arr (ints (rs.getD i [])) 1 1,.vec [.sl (d.length+7) 1 0 (rs.getD i []).length] 1 0];rw[HI]at h1;rw[hG1];simp only[wgt,idsL,idsA,bM,bY,dO,Ai,Ee,Ac,Ab]at h1|-;omega
  have st_app:∀ {call:aX} {thaw:List Nat} {dst:Option Tmp} {args:Array Operand},memD env call thaw dst (.call ⟨.builtin .append,args,#[23,23]⟩) G1 [.sl 5 0 0 d.length,.sl (d.length+8) 0 0 1]=some (.sl 5 1 0 (d.length+1),G1.set 5 (.vec ((aB 7 d++aG 0).take d.length++[.sl (d.length+7) 1 0 (rs.getD i []).length]) 1 1),{ ids:=aD aF G1 [5,d.length+8] [],ro:=false,wr:=[5]}):=by
   intro call thaw dst args;exact aFl (e:=104) rfl aJo kr g5 ge1 hlv (by unfold bI;omega) ok5 oke1 wG1
  rw[ht]at st_app;obtain⟨G2,hG2⟩:∃G:H,G=G1.set 5 (.vec (aB 7 d++[.sl (d.length+7) 1 0 (rs.getD i []).length]) 1 1):=⟨_,rfl⟩
  have hl1:G1.length=d.length+9:=by rw[hG1];simp[cC]
  have keep:∀q,q≠5->G2[q]? =G1[q]?:=fun q hq=>by rw[hG2,Dl (fun e=>hq e.symm)]
  have k5:G2[5]? =some (.vec (aB 7 d++[.sl (d.length+7) 1 0 (rs.getD i []).length]) 1 1):=by rw[hG2,Ef om]
  have k2:G2[2]? =some (.box [nI al,.sl 5 0 0 d.length,.sl 6 0 0 ac.length]):=by rw[keep 2 om,hG1];rfl
  have k6:G2[6]? =some (.arr (aK ac) 1 0):=by rw[keep 6 om,hG1];rfl
  have ok5':Okay G2 5:=.mk _ _ k5 sm (by
   intro q hq;have:kids G2 5=List.range' 7 d.length++[d.length+7]:=by simp[kids,k5,bM,bY,idsL,idsA]
   rw[this,Aq,Cx]at hq
   rcases hq with hq|hq
   ·obtain⟨z,rfl⟩:∃z,q=7+z:=⟨q-7,by omega⟩
    obtain⟨r,hr⟩:=row1 z om;rw[<-keep _ om]at hr;exact .mk _ _ hr sm (by rw[bL hr];simp)
   ·simp at hq;subst hq;rw[<-keep _ om]at ge;exact .mk _ _ ge sm (by rw[bL ge];simp))
  have ok6':Okay G2 6:=.mk _ _ k6 sm (by rw[bL k6];simp)
  have ok2':Okay G2 2:=.mk _ _ k2 sm (by
   intro q hq;have:kids G2 2=[5,6]:=by simp[kids,k2,idsL,idsA]
   rw[this]at hq;simp at hq
   rcases hq with rfl|rfl
   ·exact ok5'
   ·exact ok6')
  have wG2:2+wgt G2<=1099511627776:=by
   have h1:=pR (aI d) [.arr (ints (rs.getD i [])) 1 1,.vec [.sl (d.length+7) 1 0 (rs.getD i []).length] 1 0];rw[HI]at h1;rw[hG2,hG1];simp only[By,Ce,wgt,idsL,idsA,bM,bY,Ai,Ee,Ac,Ab]at h1|-;omega
  have st_sto:∀ {call:aX} {thaw:List Nat} {dst:Option Tmp} {x y:Operand},memD env call thaw dst (.store 23 x y) G2 [.ptr 2 0 1,.sl 5 1 0 (d.length+1)]=some (.d .undef,G2.set 2 (.box (bD [nI al,.sl 5 0 0 d.length,.sl 6 0 0 ac.length] 1 [.sl 5 1 0 (d.length+1)])),{ ids:=aD aF G2 [2,5] [],ro:=false,wr:=aD aF G2 [2,5] []}):=by
   intro call thaw dst x y;exact MO kr kr k2 sm ok2' ok5' wG2
  obtain⟨o1,ho1⟩:∃o,o=aD aF G1 [5,d.length+8] []:=⟨_,rfl⟩
  obtain⟨o2,ho2⟩:∃o,o=aD aF G2 [2,5] []:=⟨_,rfl⟩
  rw[<-ho1]at st_app;rw[<-ho2,hG2]at st_sto;rw[hG1]at st_app st_sto;simp only[By,Ce,bD,Ds,List.take_zero,As,Am,Ac,Ab,Dg,Ax,Nat.reduceAdd]at st_app st_sto;clear hG2 hG1 k5 k2 k6 keep ok5' ok6' ok2' wG2 wG1 ok5 oke1 oke ge1 ge g5 row1 ho1 ho2 hl1
  simp-implicitDefEqProofs (maxSteps:=9^7) (disch:=try exact Dz) only[↓DN,↓kRet,UP,simprocAttr,LA,hc,hi0,cC,Ad,uG,aJu,Y7,Ao,↓st_app,↓st_sto,↓aSe,↓ih',qW,rY,Tryz.f198]
theorem YA{R:Type}{L n m:Nat}(hn:1<=n){al:Int}{rs:List (List Int)}{ac:List Bool}(hs:bN rs)(h1:1<=rs.length)(hm:rs.length<m){k:KE R}:
  aS env (aA env L n) L 0 (W16 (W8 (W4 [1002]))) Bz14 (pX 0) Bz30 m (Y1 (.ptr 0 0 0::.ptr 1 0 0::.ptr 2 0 0::nI 0::Y16 (Y8 (Y2 (Y1 ([])))))) [.box [nI al,.d (.ivs rs.length (aP rs)),.d (.ivs ac.length (aK ac))],.box [nI 0,.sl 3 0 0 0,.sl 4 0 0 0],.box [nI al,.sl 5 0 0 0,.sl 6 0 0 ac.length],.arr [] 0 0,.arr [] 0 0,.arr [] 0 0,.arr (aK ac) 1 0] k
  =k (.exit 0) (Y1 (.ptr 0 0 0::.ptr 1 0 0::.ptr 2 0 0::nI (rs.length)::Y16 (Y8 (Y2 (Y1 ([])))))) (.box [nI al,.d (.ivs rs.length (aP rs)),.d (.ivs ac.length (aK ac))]::.box [nI 0,.sl 3 0 0 0,.sl 4 0 0 0]::.box [nI al,.sl 5 0 0 rs.length,.sl 6 0 0 ac.length]::.arr [] 0 0::.arr [] 0 0::.vec (aB 7 rs++aG 0) 1 0::.arr (aK ac) 1 0::aI rs):=by
 obtain⟨j,hj⟩:∃j,rs.length=j+1:=⟨rs.length-1,by omega⟩
 obtain _|m:=m;omega;have hrl:=hs.1;have hc:(0:Int)<rs.length:=om;have hrow:=wK hs (k:=0) om
 have loop_b:∀ {R:Type} {k:KE R},aS env (aA env L n) L 0 (W16 (W8 (W4 [1002]))) Bz14 (pX 0) Bz30 m (Y1 (.ptr 0 0 0::.ptr 1 0 0::.ptr 2 0 0::nI 1::Y16 (Y8 (Y2 (Y1 ([])))))) [.box [nI al,.d (.ivs rs.length (aP rs)),.d (.ivs ac.length (aK ac))],.box [nI 0,.sl 3 0 0 0,.sl 4 0 0 0],.box [nI al,.sl 5 0 0 1,.sl 6 0 0 ac.length],.arr [] 0 0,.arr [] 0 0,.vec [.sl 7 0 0 (rs.getD 0 []).length] 1 0,.arr (aK ac) 1 0,.arr (ints (rs.getD 0 [])) 1 0] k
  =k (.exit 0) (Y1 (.ptr 0 0 0::.ptr 1 0 0::.ptr 2 0 0::nI (rs.length)::Y16 (Y8 (Y2 (Y1 ([])))))) (.box [nI al,.d (.ivs rs.length (aP rs)),.d (.ivs ac.length (aK ac))]::.box [nI 0,.sl 3 0 0 0,.sl 4 0 0 0]::.box [nI al,.sl 5 0 0 rs.length,.sl 6 0 0 ac.length]::.arr [] 0 0::.arr [] 0 0::.vec (aB 7 rs++aG 0) 1 0::.arr (aK ac) 1 0::aI rs):=by
  intro R k;have h:=aGW (R:=R) (L:=L) (n:=n) hn (al:=al) (ac:=ac) hs (k:=k) j 1 m [rs.getD 0 []] 1 om om rfl rfl
  have e:[rs.getD 0 []]++rs.drop 1=rs:=by
   have:=bP (l:=rs) (i:=0) (d:=[]) om;rw[Ax]at this;exact this.symm
  rw[e]at h;exact h
 clear hj;have g0:((aP rs).map A.d).head? =some (.d (.ivs (rs.getD 0 []).length (ints (rs.getD 0 [])))):=US (k:=0) om;generalize rs.getD 0 []=r0 at *
 simp-implicitDefEqProofs (maxSteps:=9^7) (disch:=try exact Dz) only[↓DN,↓kRet,UP,simprocAttr,LA,hc,g0,↓loop_b,qW,rY,Tryz.f198]
theorem X1{R:Type}{L n m:Nat}(hn:1<=n){al:Int}{ac:List Bool}{k:KE R}:
  aS env (aA env L n) L 0 (W16 (W8 (W4 [1002]))) Bz14 (pX 0) Bz30 (m+1) (Y1 (.ptr 0 0 0::.ptr 1 0 0::.ptr 2 0 0::nI 0::Y16 (Y8 (Y2 (Y1 ([])))))) [.box [nI al,.d (.ivs 0 []),.d (.ivs ac.length (aK ac))],.box [nI 0,.sl 3 0 0 0,.sl 4 0 0 0],.box [nI al,.sl 5 0 0 0,.sl 6 0 0 ac.length],.arr [] 0 0,.arr [] 0 0,.arr [] 0 0,.arr (aK ac) 1 0] k
  =k (.exit 0) (Y1 (.ptr 0 0 0::.ptr 1 0 0::.ptr 2 0 0::nI 0::Y16 (Y8 (Y2 (Y1 ([])))))) [.box [nI al,.d (.ivs 0 []),.d (.ivs ac.length (aK ac))],.box [nI 0,.sl 3 0 0 0,.sl 4 0 0 0],.box [nI al,.sl 5 0 0 0,.sl 6 0 0 ac.length],.arr [] 0 0,.arr [] 0 0,.arr [] 0 0,.arr (aK ac) 1 0]:=by
 simp-implicitDefEqProofs (maxSteps:=9^7) (disch:=try exact Dz) only[↓DN,↓kRet,UP,simprocAttr,Ak,qW,rY,Tryz.f198]
theorem aJP(hn:2<=n)(al:Int)(rs:List (List Int))(ac:List Bool)(hs:bN rs)(h1:1<=rs.length)(ha:ac.length<=4294967295)(hL:2^60<=L):aA env L n 198 [.agg [nI al,.d (.ivs rs.length (aP rs)),.d (.ivs ac.length (aK ac))]] []=some (autA 0 al rs.length ac.length,autO 0 rs ac):=by
 have hrl:=hs.1;have hbl:(aK ac).length=ac.length:=gU;unfold autA autO;obtain _|n:=n;omega
 simp-implicitDefEqProofs (maxSteps:=9^7) (disch:=try exact Dz) only[↓DN,↓kAsg,↓kRet,UP,simprocAttr,hbl,↓YA,↓aOF,↓aPc,z0As,z0A,eq_self,aEB,aFt,ZG,OY,Tryz.f198]
theorem aBP(hn:2<=n)(al:Int)(ac:List Bool)(ha:ac.length<=4294967295)(hL:2^60<=L):aA env L n 198 [.agg [nI al,.d (.ivs 0 []),.d (.ivs ac.length (aK ac))]] []=some (autA 0 al 0 ac.length,[.arr [] 0 0,.arr (aK ac) 1 0]):=by
 have hbl:(aK ac).length=ac.length:=gU;have loop_c:=fun {R:Type} {n:Nat} (hn:1<=n) {k:KE R}=> @X1 R L n (L-1) hn al ac k;rw[show L-1+1=L by omega]at loop_c;unfold autA;obtain _|n:=n;omega
 simp-implicitDefEqProofs (maxSteps:=9^7) (disch:=try exact Dz) only[↓DN,↓kAsg,↓kRet,UP,simprocAttr,hbl,↓loop_c,ZG,OY,Tryz.f198]
end
end Ev
end Go.Proofs.YtahbdkmimmnadaaGreatDoor
