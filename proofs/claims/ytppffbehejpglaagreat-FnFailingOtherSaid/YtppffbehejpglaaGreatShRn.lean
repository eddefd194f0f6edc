/-
  Memory of some shapes at the end of a round. Written by a program.
-/
import Derived.Test.YtppffbehejpglaaGreatShSf
set_option linter.unusedSimpArgs false
set_option linter.unusedVariables false
set_option maxRecDepth 4000
namespace Go.Proofs.YtppffbehejpglaaGreat
namespace Ev
theorem aSM{m:List Bool}{s:List A}{y1 y2 x0 x1:D}{k z:Nat}{r:List Int}{cs:List D}{d:List (List Int)}{p:H}(hl:d.length<=4294967296):gc 1 m s (.box [.d y1,.d y2]::.box [.d x0,.sl 4 0 0 0,.sl 5 0 0 0]::.box [.d x1,.sl 6 1 0 k,.sl 7 1 0 z]::.arr (ints r) 1 0::.arr [] 0 0::.arr [] 0 0::.vec (aC 8 d++[.sl 3 0 0 r.length]) 1 1::.arr cs 1 1::(aK d++p))=match box (tidy m s)with
  |.mk s1=>if idsL s1=[0,1,2]then(aS 0 (.box [.d y1,.d y2]::.box [.d x0,.sl 3 0 0 0,.sl 4 0 0 0]::.box [.d x1,.sl 5 1 0 k,.sl 6 1 0 z]::.arr [] 0 0::.arr [] 0 0::.vec (aC 7 d++[.sl (d.length+7) 0 0 r.length]) 1 1::.arr cs 1 1::(aK d++[.arr (ints r) 1 0])) (s1),.box [.d y1,.d y2]::.box [.d x0,.sl 3 0 0 0,.sl 4 0 0 0]::.box [.d x1,.sl 5 0 0 k,.sl 6 0 0 z]::.arr [] 0 0::.arr [] 0 0::.vec (aC 7 d++[.sl (d.length+7) 0 0 r.length]) 1 0::.arr cs 1 0::(aK d++[.arr (ints r) 1 0]))else gcO 1 m s (.box [.d y1,.d y2]::.box [.d x0,.sl 4 0 0 0,.sl 5 0 0 0]::.box [.d x1,.sl 6 1 0 k,.sl 7 1 0 z]::.arr (ints r) 1 0::.arr [] 0 0::.arr [] 0 0::.vec (aC 8 d++[.sl 3 0 0 r.length]) 1 1::.arr cs 1 1::(aK d++p))
  |.no=>([],[]):=by
 simp only[box]
 split
 ·rename_i hc
  have hb:=hc;have hids:idsL (tidy m s)=[0,1,2]:=by exact hb
  obtain⟨h,hh⟩:∃h:H,O.box [.d y1,.d y2]::.box [.d x0,.sl 4 0 0 0,.sl 5 0 0 0]::.box [.d x1,.sl 6 1 0 k,.sl 7 1 0 z]::.arr (ints r) 1 0::.arr [] 0 0::.arr [] 0 0::.vec (aC 8 d++[.sl 3 0 0 r.length]) 1 1::.arr cs 1 1::(aK d++p)=h:=⟨_,rfl⟩
  conv=>lhs;rw[hh]
  have g0:h[0]? =some (.box [.d y1,.d y2]):=by rw[<-hh];rfl
  have g1:h[1]? =some (.box [.d x0,.sl 4 0 0 0,.sl 5 0 0 0]):=by rw[<-hh];rfl
  have g2:h[2]? =some (.box [.d x1,.sl 6 1 0 k,.sl 7 1 0 z]):=by rw[<-hh];rfl
  have g3:h[3]? =some (.arr (ints r) 1 0):=by rw[<-hh];rfl
  have g4:h[4]? =some (.arr [] 0 0):=by rw[<-hh];rfl
  have g5:h[5]? =some (.arr [] 0 0):=by rw[<-hh];rfl
  have g6:h[6]? =some (.vec (aC 8 d++[.sl 3 0 0 r.length]) 1 1):=by rw[<-hh];rfl
  have g7:h[7]? =some (.arr cs 1 1):=by rw[<-hh];rfl
  have hD:h.drop 8=aK d++p:=by rw[<-hh];rfl
  have gr:=hZ 8 hD;have k0:kids h (0)=[]:=by simp[kids,g0,idsL,idsA]
  have k1:kids h (1)=[4,5]:=by simp[kids,g1,idsL,idsA]
  have k2:kids h (2)=[6,7]:=by simp[kids,g2,idsL,idsA]
  have k4:kids h (4)=[]:=bN g4;have k5:kids h (5)=[]:=bN g5;have k6:kids h (6)=List.range' 8 d.length++[3]:=by simp[kids,g6,bL,bV,idsL,idsA]
  have leaf:=iR gr;have hr:aE aI h [0,1,2] []=[0,1,2,4,5,6]++([7]++(List.range' 8 d.length++[3])):=fR (by simp[k0,k1,k2,k4,k5,k6]) (by intro q hq;simp only[Ae,Ac]at hq;have:q=0\/q=1\/q=2\/q=3\/q=4\/q=5:=om;rcases this with rfl|rfl|rfl|rfl|rfl|rfl<;>simp[k0,k1,k2,k4,k5]) leaf (by intro i hi;simp at hi;rcases hi with rfl|rfl<;>exact⟨_,_,_,by assumption⟩) (by intro i hi;simp at hi;rcases hi with rfl|rfl|rfl|rfl|rfl|rfl<;>exact⟨_,by assumption,by simp⟩) (by simp<;>omega) (by intro i hi;simp at hi;omega) (by simp only[aI,Ae,Ac];omega);generalize hord:[0,1,2,4,5,6]++([7]++(List.range' 8 d.length++[3]))=ord at hr;have hA:ord=([0,1,2,4,5,6]++[7])++(List.range' 8 d.length++[3]):=by rw[<-hord,Al]
  have pk:∀i j,ord[j]? =some i->aJ ord i=some j:=fun i j h1=>dE (by rw[<-hr];exact bU aI h _ [] sm) h1;have p0:=pk (0) 0 (by rw[<-hord];rfl);have p1:=pk (1) 1 (by rw[<-hord];rfl);have p2:=pk (2) 2 (by rw[<-hord];rfl);have p4:=pk (4) 3 (by rw[<-hord];rfl);have p5:=pk (5) 4 (by rw[<-hord];rfl);have p6:=pk (6) 5 (by rw[<-hord];rfl);have p7:=pk (7) 6 (by rw[<-hord];rfl);have pr:=iX (C:=7) pk hA rfl;have p3:=X0 (C:=7) pk hA rfl 0 (i:=3) (j:=d.length+7) rfl om;obtain⟨K,hK⟩:∃K:H,O.box [.d y1,.d y2]::.box [.d x0,.sl 3 0 0 0,.sl 4 0 0 0]::.box [.d x1,.sl 5 1 0 k,.sl 6 1 0 z]::.arr [] 0 0::.arr [] 0 0::.vec (aC 7 d++[.sl (d.length+7) 0 0 r.length]) 1 1::.arr cs 1 1::(aK d++[.arr (ints r) 1 0])=K:=⟨_,rfl⟩
  have hni:∀f,aF f (aH 0)=aH 0:=fun _=>rfl
  have hpk:pack h ord=K:=by
   have hrf:aF (aJ ord) (aC 8 d)=aC 7 d:=eI (c:=0) pr;rw[kP hA gr,<-hK];simp only[Ax,Ap,Ai,Ar,Aa,g0,g1,g2,g4,g5,g6,g7,g3,Bb,mapO,aF,mapA,cU,hrf,p4,p5,p6,p7,p3]
  have hKD:K.drop 7=aK d++[.arr (ints r) 1 0]:=by rw[<-hK];rfl
  have hgr:=nD hKD;have hge0:bB K (d.length+7)=some 0:=by simp only[bB,xV 7 0 hKD rfl (j:=d.length+7) om]
  have hcm:cG 0 K=.box [.d y1,.d y2]::.box [.d x0,.sl 3 0 0 0,.sl 4 0 0 0]::.box [.d x1,.sl 5 0 0 k,.sl 6 0 0 z]::.arr [] 0 0::.arr [] 0 0::.vec (aC 7 d++[.sl (d.length+7) 0 0 r.length]) 1 0::.arr cs 1 0::(aK d++[.arr (ints r) 1 0]):=by
   have hrf:aS 0 K (aC 7 d)=aC 7 d:=fC hgr;have hnc:∀h:H,aS 0 h (aH 0)=aH 0:=fun _=>rfl;have q3:bB K 3=some 0:=by rw[<-hK];rfl
   have q4:bB K 4=some 0:=by rw[<-hK];rfl
   have q5:bB K 5=some 1:=by rw[<-hK];rfl
   have q6:bB K 6=some 1:=by rw[<-hK];rfl
   unfold cG;rw[fD]
   conv=>lhs;arg 2;rw[<-hK]
   simp only[Ai,Cw,Ar,bY,aS,bM,hU,eB,hrf,fX,q3,q4,q5,q6,hge0,Ca,if_false,if_true]
  subst hK;rw[XE hh hids,QD (ord:=ord) (by rw[hids];exact hr),hpk,hcm]
  have hmp:aF (aJ ord) (tidy m s)=tidy m s:=by
   apply fG;rw[hids];intro i hi;simp only[Av,Br,or_false]at hi
   rcases hi with rfl|rfl|rfl
   ·exact p0
   ·exact p1
   ·exact p2
  rw[hmp]
 ·rfl
theorem aSE{m:List Bool}{s:List A}{y1 y2 x0 x1:D}{k z:Nat}{cs:List D}{d:List (List Int)}(hl:d.length<=4294967296):gc 1 m s (.box [.d y1,.d y2]::.box [.d x0,.sl 3 0 0 0,.sl 4 0 0 0]::.box [.d x1,.sl 5 0 0 k,.sl 6 0 0 z]::.arr [] 0 0::.arr [] 0 0::.vec (aC 7 d++aH 0) 1 0::.arr cs 1 0::aK d)=match box (tidy m s)with
  |.mk s1=>if idsL s1=[0,1,2]then(aS 0 (.box [.d y1,.d y2]::.box [.d x0,.sl 3 0 0 0,.sl 4 0 0 0]::.box [.d x1,.sl 5 0 0 k,.sl 6 0 0 z]::.arr [] 0 0::.arr [] 0 0::.vec (aC 7 d++aH 0) 1 0::.arr cs 1 0::aK d) (s1),.box [.d y1,.d y2]::.box [.d x0,.sl 3 0 0 0,.sl 4 0 0 0]::.box [.d x1,.sl 5 0 0 k,.sl 6 0 0 z]::.arr [] 0 0::.arr [] 0 0::.vec (aC 7 d++aH 0) 1 0::.arr cs 1 0::aK d)else gcO 1 m s (.box [.d y1,.d y2]::.box [.d x0,.sl 3 0 0 0,.sl 4 0 0 0]::.box [.d x1,.sl 5 0 0 k,.sl 6 0 0 z]::.arr [] 0 0::.arr [] 0 0::.vec (aC 7 d++aH 0) 1 0::.arr cs 1 0::aK d)
  |.no=>([],[]):=by
 simp only[box]
 split
 ·rename_i hc
  have hb:=hc;have hids:idsL (tidy m s)=[0,1,2]:=by exact hb
  obtain⟨h,hh⟩:∃h:H,O.box [.d y1,.d y2]::.box [.d x0,.sl 3 0 0 0,.sl 4 0 0 0]::.box [.d x1,.sl 5 0 0 k,.sl 6 0 0 z]::.arr [] 0 0::.arr [] 0 0::.vec (aC 7 d++aH 0) 1 0::.arr cs 1 0::aK d=h:=⟨_,rfl⟩
  conv=>lhs;rw[hh]
  have g0:h[0]? =some (.box [.d y1,.d y2]):=by rw[<-hh];rfl
  have g1:h[1]? =some (.box [.d x0,.sl 3 0 0 0,.sl 4 0 0 0]):=by rw[<-hh];rfl
  have g2:h[2]? =some (.box [.d x1,.sl 5 0 0 k,.sl 6 0 0 z]):=by rw[<-hh];rfl
  have g3:h[3]? =some (.arr [] 0 0):=by rw[<-hh];rfl
  have g4:h[4]? =some (.arr [] 0 0):=by rw[<-hh];rfl
  have g5:h[5]? =some (.vec (aC 7 d++aH 0) 1 0):=by rw[<-hh];rfl
  have g6:h[6]? =some (.arr cs 1 0):=by rw[<-hh];rfl
  have hD:h.drop 7=aK d++[]:=by rw[<-hh];exact(Aj _).symm
  have gr:=hZ 7 hD;have k0:kids h (0)=[]:=by simp[kids,g0,idsL,idsA]
  have k1:kids h (1)=[3,4]:=by simp[kids,g1,idsL,idsA]
  have k2:kids h (2)=[5,6]:=by simp[kids,g2,idsL,idsA]
  have k3:kids h (3)=[]:=bN g3;have k4:kids h (4)=[]:=bN g4;have k5:kids h (5)=List.range' 7 d.length:=by simp[kids,g5,bL,bV,c8]
  have leaf:=iR gr;have hr:aE aI h [0,1,2] []=[0,1,2,3,4,5]++([6]++(List.range' 7 d.length++[])):=fR (by simp[k0,k1,k2,k3,k4,k5]) (by intro q hq;simp only[Ae,Ac]at hq;have:q=0\/q=1\/q=2\/q=3\/q=4\/q=5:=om;rcases this with rfl|rfl|rfl|rfl|rfl|rfl<;>simp[k0,k1,k2,k3,k4]) leaf (by intro i hi;simp at hi;subst hi;exact⟨_,_,_,by assumption⟩) (by intro i hi;simp at hi;rcases hi with rfl|rfl|rfl|rfl|rfl|rfl<;>exact⟨_,by assumption,by simp⟩) (by simp<;>omega) (by intro i hi;simp at hi;omega) (by simp only[aI,Ae,Ac];omega);generalize hord:[0,1,2,3,4,5]++([6]++(List.range' 7 d.length++[]))=ord at hr;have hA:ord=([0,1,2,3,4,5]++[6])++(List.range' 7 d.length++[]):=by rw[<-hord,Al]
  have pk:∀i j,ord[j]? =some i->aJ ord i=some j:=fun i j h1=>dE (by rw[<-hr];exact bU aI h _ [] sm) h1;have p0:=pk (0) 0 (by rw[<-hord];rfl);have p1:=pk (1) 1 (by rw[<-hord];rfl);have p2:=pk (2) 2 (by rw[<-hord];rfl);have p3:=pk (3) 3 (by rw[<-hord];rfl);have p4:=pk (4) 4 (by rw[<-hord];rfl);have p5:=pk (5) 5 (by rw[<-hord];rfl);have p6:=pk (6) 6 (by rw[<-hord];rfl);have pr:=iX (C:=7) pk hA rfl;obtain⟨K,hK⟩:∃K:H,O.box [.d y1,.d y2]::.box [.d x0,.sl 3 0 0 0,.sl 4 0 0 0]::.box [.d x1,.sl 5 0 0 k,.sl 6 0 0 z]::.arr [] 0 0::.arr [] 0 0::.vec (aC 7 d++aH 0) 1 0::.arr cs 1 0::aK d=K:=⟨_,rfl⟩
  have hni:∀f,aF f (aH 0)=aH 0:=fun _=>rfl
  have hpk:pack h ord=K:=by
   have hrf:aF (aJ ord) (aC 7 d)=aC 7 d:=eI (c:=0) pr;rw[kP hA gr,<-hK];simp only[Ax,Ap,Ai,Ar,Aa,g0,g1,g2,g3,g4,g5,g6,Bb,mapO,aF,mapA,cU,hrf,hni,p3,p4,p5,p6,Aj]
  have hKD:K.drop 7=aK d++[]:=by rw[<-hK];exact(Aj _).symm
  have hgr:=nD hKD
  have hcm:cG 0 K=.box [.d y1,.d y2]::.box [.d x0,.sl 3 0 0 0,.sl 4 0 0 0]::.box [.d x1,.sl 5 0 0 k,.sl 6 0 0 z]::.arr [] 0 0::.arr [] 0 0::.vec (aC 7 d++aH 0) 1 0::.arr cs 1 0::aK d:=by
   have hrf:aS 0 K (aC 7 d)=aC 7 d:=fC hgr;have hnc:∀h:H,aS 0 h (aH 0)=aH 0:=fun _=>rfl;have q3:bB K 3=some 0:=by rw[<-hK];rfl
   have q4:bB K 4=some 0:=by rw[<-hK];rfl
   have q5:bB K 5=some 0:=by rw[<-hK];rfl
   have q6:bB K 6=some 0:=by rw[<-hK];rfl
   unfold cG;rw[fD]
   conv=>lhs;arg 2;rw[<-hK]
   simp only[Ai,bY,aS,bM,hU,eB,hrf,hnc,fX,q3,q4,q5,q6,Ca,if_false,if_true]
  subst hK;rw[XE hh hids,QD (ord:=ord) (by rw[hids];exact hr),hpk,hcm]
  have hmp:aF (aJ ord) (tidy m s)=tidy m s:=by
   apply fG;rw[hids];intro i hi;simp only[Av,Br,or_false]at hi
   rcases hi with rfl|rfl|rfl
   ·exact p0
   ·exact p1
   ·exact p2
  rw[hmp]
 ·rfl
theorem aR3{m:List Bool}{s:List A}{y1 y2 x0 x1:D}{k z g:Nat}{cr cs:List D}{d:List (List Int)}{p:H}(hl:d.length<=4294967296):gc 1 m s (.box [.d y1,.d y2]::.box [.d x0,.sl 4 0 0 0,.sl 5 0 0 0]::.box [.d x1,.sl 6 0 0 k,.sl 7 0 0 z]::.arr cr 1 g::.arr [] 0 0::.arr [] 0 0::.vec (aC 8 d++aH 0) 1 0::.arr cs 1 0::(aK d++p))=match box (tidy m s)with
  |.mk s1=>if idsL s1=[0,1,2,3]then(aS 0 (.box [.d y1,.d y2]::.box [.d x0,.sl 4 0 0 0,.sl 5 0 0 0]::.box [.d x1,.sl 6 0 0 k,.sl 7 0 0 z]::.arr cr 1 g::.arr [] 0 0::.arr [] 0 0::.vec (aC 8 d++aH 0) 1 0::.arr cs 1 0::aK d) (s1),.box [.d y1,.d y2]::.box [.d x0,.sl 4 0 0 0,.sl 5 0 0 0]::.box [.d x1,.sl 6 0 0 k,.sl 7 0 0 z]::.arr cr 1 0::.arr [] 0 0::.arr [] 0 0::.vec (aC 8 d++aH 0) 1 0::.arr cs 1 0::aK d)else gcO 1 m s (.box [.d y1,.d y2]::.box [.d x0,.sl 4 0 0 0,.sl 5 0 0 0]::.box [.d x1,.sl 6 0 0 k,.sl 7 0 0 z]::.arr cr 1 g::.arr [] 0 0::.arr [] 0 0::.vec (aC 8 d++aH 0) 1 0::.arr cs 1 0::(aK d++p))
  |.no=>([],[]):=by
 simp only[box]
 split
 ·rename_i hc
  have hb:=hc;have hids:idsL (tidy m s)=[0,1,2,3]:=by exact hb
  obtain⟨h,hh⟩:∃h:H,O.box [.d y1,.d y2]::.box [.d x0,.sl 4 0 0 0,.sl 5 0 0 0]::.box [.d x1,.sl 6 0 0 k,.sl 7 0 0 z]::.arr cr 1 g::.arr [] 0 0::.arr [] 0 0::.vec (aC 8 d++aH 0) 1 0::.arr cs 1 0::(aK d++p)=h:=⟨_,rfl⟩
  conv=>lhs;rw[hh]
  have g0:h[0]? =some (.box [.d y1,.d y2]):=by rw[<-hh];rfl
  have g1:h[1]? =some (.box [.d x0,.sl 4 0 0 0,.sl 5 0 0 0]):=by rw[<-hh];rfl
  have g2:h[2]? =some (.box [.d x1,.sl 6 0 0 k,.sl 7 0 0 z]):=by rw[<-hh];rfl
  have g3:h[3]? =some (.arr cr 1 g):=by rw[<-hh];rfl
  have g4:h[4]? =some (.arr [] 0 0):=by rw[<-hh];rfl
  have g5:h[5]? =some (.arr [] 0 0):=by rw[<-hh];rfl
  have g6:h[6]? =some (.vec (aC 8 d++aH 0) 1 0):=by rw[<-hh];rfl
  have g7:h[7]? =some (.arr cs 1 0):=by rw[<-hh];rfl
  have hD:h.drop 8=aK d++p:=by rw[<-hh];rfl
  have gr:=hZ 8 hD;have k0:kids h (0)=[]:=by simp[kids,g0,idsL,idsA]
  have k1:kids h (1)=[4,5]:=by simp[kids,g1,idsL,idsA]
  have k2:kids h (2)=[6,7]:=by simp[kids,g2,idsL,idsA]
  have k3:kids h (3)=[]:=bN g3;have k4:kids h (4)=[]:=bN g4;have k5:kids h (5)=[]:=bN g5;have k6:kids h (6)=List.range' 8 d.length:=by simp[kids,g6,bL,bV,c8]
  have leaf:=iR gr;have hr:aE aI h [0,1,2,3] []=[0,1,2,3,4,5,6]++([7]++(List.range' 8 d.length++[])):=fR (by simp[k0,k1,k2,k3,k4,k5,k6]) (by intro q hq;simp only[Ae,Ac]at hq;have:q=0\/q=1\/q=2\/q=3\/q=4\/q=5\/q=6:=om;rcases this with rfl|rfl|rfl|rfl|rfl|rfl|rfl<;>simp[k0,k1,k2,k3,k4,k5]) leaf (by intro i hi;simp at hi;subst hi;exact⟨_,_,_,by assumption⟩) (by intro i hi;simp at hi;rcases hi with rfl|rfl|rfl|rfl|rfl|rfl|rfl<;>exact⟨_,by assumption,by simp⟩) (by simp<;>omega) (by intro i hi;simp at hi;omega) (by simp only[aI,Ae,Ac];omega);generalize hord:[0,1,2,3,4,5,6]++([7]++(List.range' 8 d.length++[]))=ord at hr;have hA:ord=([0,1,2,3,4,5,6]++[7])++(List.range' 8 d.length++[]):=by rw[<-hord,Al]
  have pk:∀i j,ord[j]? =some i->aJ ord i=some j:=fun i j h1=>dE (by rw[<-hr];exact bU aI h _ [] sm) h1;have p0:=pk (0) 0 (by rw[<-hord];rfl);have p1:=pk (1) 1 (by rw[<-hord];rfl);have p2:=pk (2) 2 (by rw[<-hord];rfl);have p3:=pk (3) 3 (by rw[<-hord];rfl);have p4:=pk (4) 4 (by rw[<-hord];rfl);have p5:=pk (5) 5 (by rw[<-hord];rfl);have p6:=pk (6) 6 (by rw[<-hord];rfl);have p7:=pk (7) 7 (by rw[<-hord];rfl);have pr:=iX (C:=8) pk hA rfl;obtain⟨K,hK⟩:∃K:H,O.box [.d y1,.d y2]::.box [.d x0,.sl 4 0 0 0,.sl 5 0 0 0]::.box [.d x1,.sl 6 0 0 k,.sl 7 0 0 z]::.arr cr 1 g::.arr [] 0 0::.arr [] 0 0::.vec (aC 8 d++aH 0) 1 0::.arr cs 1 0::aK d=K:=⟨_,rfl⟩
  have hni:∀f,aF f (aH 0)=aH 0:=fun _=>rfl
  have hpk:pack h ord=K:=by
   have hrf:aF (aJ ord) (aC 8 d)=aC 8 d:=eI (c:=0) pr;rw[kP hA gr,<-hK];simp only[Ax,Ap,Ai,Ar,Aa,g0,g1,g2,g3,g4,g5,g6,g7,Bb,mapO,aF,mapA,cU,hrf,hni,p4,p5,p6,p7,Aj]
  have hKD:K.drop 8=aK d++[]:=by rw[<-hK];exact(Aj _).symm
  have hgr:=nD hKD
  have hcm:cG 0 K=.box [.d y1,.d y2]::.box [.d x0,.sl 4 0 0 0,.sl 5 0 0 0]::.box [.d x1,.sl 6 0 0 k,.sl 7 0 0 z]::.arr cr 1 0::.arr [] 0 0::.arr [] 0 0::.vec (aC 8 d++aH 0) 1 0::.arr cs 1 0::aK d:=by
   have hrf:aS 0 K (aC 8 d)=aC 8 d:=fC hgr;have hnc:∀h:H,aS 0 h (aH 0)=aH 0:=fun _=>rfl;have q3:bB K 3=some g:=by rw[<-hK];rfl
   have q4:bB K 4=some 0:=by rw[<-hK];rfl
   have q5:bB K 5=some 0:=by rw[<-hK];rfl
   have q6:bB K 6=some 0:=by rw[<-hK];rfl
   have q7:bB K 7=some 0:=by rw[<-hK];rfl
   unfold cG;rw[fD]
   conv=>lhs;arg 2;rw[<-hK]
   simp only[Ai,bY,aS,bM,hU,eB,hrf,hnc,fX,q4,q5,q6,q7,Ca,if_false,if_true]
  subst hK;rw[XE hh hids,QD (ord:=ord) (by rw[hids];exact hr),hpk,hcm]
  have hmp:aF (aJ ord) (tidy m s)=tidy m s:=by
   apply fG;rw[hids];intro i hi;simp only[Av,Br,or_false]at hi
   rcases hi with rfl|rfl|rfl|rfl
   ·exact p0
   ·exact p1
   ·exact p2
   ·exact p3
  rw[hmp]
 ·rfl
theorem aQS{m:List Bool}{s:List A}{y1 y2 x0 x1:D}{k z g:Nat}{cr cs:List D}{d:List (List Int)}(hl:d.length<=4294967296):gc 1 m s (.box [.d y1,.d y2]::.box [.d x0,.sl 4 0 0 0,.sl 5 0 0 0]::.box [.d x1,.sl 6 0 0 k,.sl 7 0 0 z]::.arr cr 1 g::.arr [] 0 0::.arr [] 0 0::.vec (aC 8 d++aH 0) 1 0::.arr cs 1 0::aK d)=match box (tidy m s)with
  |.mk s1=>if idsL s1=[0,1,2,3]then(aS 0 (.box [.d y1,.d y2]::.box [.d x0,.sl 4 0 0 0,.sl 5 0 0 0]::.box [.d x1,.sl 6 0 0 k,.sl 7 0 0 z]::.arr cr 1 g::.arr [] 0 0::.arr [] 0 0::.vec (aC 8 d++aH 0) 1 0::.arr cs 1 0::aK d) (s1),.box [.d y1,.d y2]::.box [.d x0,.sl 4 0 0 0,.sl 5 0 0 0]::.box [.d x1,.sl 6 0 0 k,.sl 7 0 0 z]::.arr cr 1 0::.arr [] 0 0::.arr [] 0 0::.vec (aC 8 d++aH 0) 1 0::.arr cs 1 0::aK d)else gcO 1 m s (.box [.d y1,.d y2]::.box [.d x0,.sl 4 0 0 0,.sl 5 0 0 0]::.box [.d x1,.sl 6 0 0 k,.sl 7 0 0 z]::.arr cr 1 g::.arr [] 0 0::.arr [] 0 0::.vec (aC 8 d++aH 0) 1 0::.arr cs 1 0::aK d)
  |.no=>([],[]):=by
 simp only[box]
 split
 ·rename_i hc
  have hb:=hc;have hids:idsL (tidy m s)=[0,1,2,3]:=by exact hb
  obtain⟨h,hh⟩:∃h:H,O.box [.d y1,.d y2]::.box [.d x0,.sl 4 0 0 0,.sl 5 0 0 0]::.box [.d x1,.sl 6 0 0 k,.sl 7 0 0 z]::.arr cr 1 g::.arr [] 0 0::.arr [] 0 0::.vec (aC 8 d++aH 0) 1 0::.arr cs 1 0::aK d=h:=⟨_,rfl⟩
  conv=>lhs;rw[hh]
  have g0:h[0]? =some (.box [.d y1,.d y2]):=by rw[<-hh];rfl
  have g1:h[1]? =some (.box [.d x0,.sl 4 0 0 0,.sl 5 0 0 0]):=by rw[<-hh];rfl
  have g2:h[2]? =some (.box [.d x1,.sl 6 0 0 k,.sl 7 0 0 z]):=by rw[<-hh];rfl
  have g3:h[3]? =some (.arr cr 1 g):=by rw[<-hh];rfl
  have g4:h[4]? =some (.arr [] 0 0):=by rw[<-hh];rfl
  have g5:h[5]? =some (.arr [] 0 0):=by rw[<-hh];rfl
  have g6:h[6]? =some (.vec (aC 8 d++aH 0) 1 0):=by rw[<-hh];rfl
  have g7:h[7]? =some (.arr cs 1 0):=by rw[<-hh];rfl
  have hD:h.drop 8=aK d++[]:=by rw[<-hh];exact(Aj _).symm
  have gr:=hZ 8 hD;have k0:kids h (0)=[]:=by simp[kids,g0,idsL,idsA]
  have k1:kids h (1)=[4,5]:=by simp[kids,g1,idsL,idsA]
  have k2:kids h (2)=[6,7]:=by simp[kids,g2,idsL,idsA]
  have k3:kids h (3)=[]:=bN g3;have k4:kids h (4)=[]:=bN g4;have k5:kids h (5)=[]:=bN g5;have k6:kids h (6)=List.range' 8 d.length:=by simp[kids,g6,bL,bV,c8]
  have leaf:=iR gr;have hr:aE aI h [0,1,2,3] []=[0,1,2,3,4,5,6]++([7]++(List.range' 8 d.length++[])):=fR (by simp[k0,k1,k2,k3,k4,k5,k6]) (by intro q hq;simp only[Ae,Ac]at hq;have:q=0\/q=1\/q=2\/q=3\/q=4\/q=5\/q=6:=om;rcases this with rfl|rfl|rfl|rfl|rfl|rfl|rfl<;>simp[k0,k1,k2,k3,k4,k5]) leaf (by intro i hi;simp at hi;subst hi;exact⟨_,_,_,by assumption⟩) (by intro i hi;simp at hi;rcases hi with rfl|rfl|rfl|rfl|rfl|rfl|rfl<;>exact⟨_,by assumption,by simp⟩) (by simp<;>omega) (by intro i hi;simp at hi;omega) (by simp only[aI,Ae,Ac];omega);generalize hord:[0,1,2,3,4,5,6]++([7]++(List.range' 8 d.length++[]))=ord at hr;have hA:ord=([0,1,2,3,4,5,6]++[7])++(List.range' 8 d.length++[]):=by rw[<-hord,Al]
  have pk:∀i j,ord[j]? =some i->aJ ord i=some j:=fun i j h1=>dE (by rw[<-hr];exact bU aI h _ [] sm) h1;have p0:=pk (0) 0 (by rw[<-hord];rfl);have p1:=pk (1) 1 (by rw[<-hord];rfl);have p2:=pk (2) 2 (by rw[<-hord];rfl);have p3:=pk (3) 3 (by rw[<-hord];rfl);have p4:=pk (4) 4 (by rw[<-hord];rfl);have p5:=pk (5) 5 (by rw[<-hord];rfl);have p6:=pk (6) 6 (by rw[<-hord];rfl);have p7:=pk (7) 7 (by rw[<-hord];rfl);have pr:=iX (C:=8) pk hA rfl;obtain⟨K,hK⟩:∃K:H,O.box [.d y1,.d y2]::.box [.d x0,.sl 4 0 0 0,.sl 5 0 0 0]::.box [.d x1,.sl 6 0 0 k,.sl 7 0 0 z]::.arr cr 1 g::.arr [] 0 0::.arr [] 0 0::.vec (aC 8 d++aH 0) 1 0::.arr cs 1 0::aK d=K:=⟨_,rfl⟩
  have hni:∀f,aF f (aH 0)=aH 0:=fun _=>rfl
  have hpk:pack h ord=K:=by
   have hrf:aF (aJ ord) (aC 8 d)=aC 8 d:=eI (c:=0) pr;rw[kP hA gr,<-hK];simp only[Ax,Ap,Ai,Ar,Aa,g0,g1,g2,g3,g4,g5,g6,g7,Bb,mapO,aF,mapA,cU,hrf,hni,p4,p5,p6,p7,Aj]
  have hKD:K.drop 8=aK d++[]:=by rw[<-hK];exact(Aj _).symm
  have hgr:=nD hKD
  have hcm:cG 0 K=.box [.d y1,.d y2]::.box [.d x0,.sl 4 0 0 0,.sl 5 0 0 0]::.box [.d x1,.sl 6 0 0 k,.sl 7 0 0 z]::.arr cr 1 0::.arr [] 0 0::.arr [] 0 0::.vec (aC 8 d++aH 0) 1 0::.arr cs 1 0::aK d:=by
   have hrf:aS 0 K (aC 8 d)=aC 8 d:=fC hgr;have hnc:∀h:H,aS 0 h (aH 0)=aH 0:=fun _=>rfl;have q3:bB K 3=some g:=by rw[<-hK];rfl
   have q4:bB K 4=some 0:=by rw[<-hK];rfl
   have q5:bB K 5=some 0:=by rw[<-hK];rfl
   have q6:bB K 6=some 0:=by rw[<-hK];rfl
   have q7:bB K 7=some 0:=by rw[<-hK];rfl
   unfold cG;rw[fD]
   conv=>lhs;arg 2;rw[<-hK]
   simp only[Ai,bY,aS,bM,hU,eB,hrf,hnc,fX,q4,q5,q6,q7,Ca,if_false,if_true]
  subst hK;rw[XE hh hids,QD (ord:=ord) (by rw[hids];exact hr),hpk,hcm]
  have hmp:aF (aJ ord) (tidy m s)=tidy m s:=by
   apply fG;rw[hids];intro i hi;simp only[Av,Br,or_false]at hi
   rcases hi with rfl|rfl|rfl|rfl
   ·exact p0
   ·exact p1
   ·exact p2
   ·exact p3
  rw[hmp]
 ·rfl
def MS(n:Nat)(ids:List Nat):Bool:=decide (ids=[0,1,2,n+7])
theorem aKt{n:Nat}{ke0:Nat}(he0:ke0=n+7):MS n [0,1,2,ke0]=true:=by subst he0;simp[MS]
def jC(n i:Nat):Option Nat:=if i=0 then some 0 else if i=1 then some 1 else if i=2 then some 2 else if i=n+7 then some 3 else none
theorem UX{n:Nat}:jC n 0=some (0):=by unfold jC;repeat (first|rfl|rw[if_pos rfl]|rw[if_neg om])
theorem XI{n:Nat}:jC n 1=some (1):=by unfold jC;repeat (first|rfl|rw[if_pos rfl]|rw[if_neg om])
theorem VS{n:Nat}:jC n 2=some (2):=by unfold jC;repeat (first|rfl|rw[if_pos rfl]|rw[if_neg om])
theorem SG{n k:Nat}(h:k=n+7):jC n k=some (3):=by subst h;unfold jC;repeat (first|rfl|rw[if_pos rfl]|rw[if_neg om])
theorem aRX{m:List Bool}{s:List A}{y1 y2 x0 x1:D}{k z:Nat}{cs:List D}{d:List (List Int)}{p:H}(hl:d.length<=4294967296):gc 1 m s (.box [.d y1,.d y2]::.box [.d x0,.sl 3 0 0 0,.sl 4 0 0 0]::.box [.d x1,.sl 5 0 0 k,.sl 6 0 0 z]::.arr [] 0 0::.arr [] 0 0::.vec (aC 7 d++aH 0) 1 0::.arr cs 1 0::(aK d++.arr [] 1 0::p))=match box (tidy m s)with
  |.mk s1=>if MS d.length (idsL s1)=true then(aS 0 (.box [.d y1,.d y2]::.box [.d x0,.sl 4 0 0 0,.sl 5 0 0 0]::.box [.d x1,.sl 6 0 0 k,.sl 7 0 0 z]::.arr [] 1 0::.arr [] 0 0::.arr [] 0 0::.vec (aC 8 d++aH 0) 1 0::.arr cs 1 0::aK d) (aF (jC d.length) s1),.box [.d y1,.d y2]::.box [.d x0,.sl 4 0 0 0,.sl 5 0 0 0]::.box [.d x1,.sl 6 0 0 k,.sl 7 0 0 z]::.arr [] 1 0::.arr [] 0 0::.arr [] 0 0::.vec (aC 8 d++aH 0) 1 0::.arr cs 1 0::aK d)else gcO 1 m s (.box [.d y1,.d y2]::.box [.d x0,.sl 3 0 0 0,.sl 4 0 0 0]::.box [.d x1,.sl 5 0 0 k,.sl 6 0 0 z]::.arr [] 0 0::.arr [] 0 0::.vec (aC 7 d++aH 0) 1 0::.arr cs 1 0::(aK d++.arr [] 1 0::p))
  |.no=>([],[]):=by
 simp only[box]
 split
 ·rename_i hc
  have hb:=hc;have hids:idsL (tidy m s)=[0,1,2,d.length+7]:=by simpa [MS]using hb
  obtain⟨h,hh⟩:∃h:H,O.box [.d y1,.d y2]::.box [.d x0,.sl 3 0 0 0,.sl 4 0 0 0]::.box [.d x1,.sl 5 0 0 k,.sl 6 0 0 z]::.arr [] 0 0::.arr [] 0 0::.vec (aC 7 d++aH 0) 1 0::.arr cs 1 0::(aK d++.arr [] 1 0::p)=h:=⟨_,rfl⟩
  conv=>lhs;rw[hh]
  have g0:h[0]? =some (.box [.d y1,.d y2]):=by rw[<-hh];rfl
  have g1:h[1]? =some (.box [.d x0,.sl 3 0 0 0,.sl 4 0 0 0]):=by rw[<-hh];rfl
  have g2:h[2]? =some (.box [.d x1,.sl 5 0 0 k,.sl 6 0 0 z]):=by rw[<-hh];rfl
  have g3:h[3]? =some (.arr [] 0 0):=by rw[<-hh];rfl
  have g4:h[4]? =some (.arr [] 0 0):=by rw[<-hh];rfl
  have g5:h[5]? =some (.vec (aC 7 d++aH 0) 1 0):=by rw[<-hh];rfl
  have g6:h[6]? =some (.arr cs 1 0):=by rw[<-hh];rfl
  have hD:h.drop 7=aK d++(.arr [] 1 0::p):=by rw[<-hh];rfl
  have gr:=hZ 7 hD;have ge0:h[d.length+7]? =some (.arr [] 1 0):=xV 7 0 hD rfl om;have k0:kids h (0)=[]:=by simp[kids,g0,idsL,idsA]
  have k1:kids h (1)=[3,4]:=by simp[kids,g1,idsL,idsA]
  have k2:kids h (2)=[5,6]:=by simp[kids,g2,idsL,idsA]
  have ke0:kids h (d.length+7)=[]:=bN ge0;have k3:kids h (3)=[]:=bN g3;have k4:kids h (4)=[]:=bN g4;have k5:kids h (5)=List.range' 7 d.length:=by simp[kids,g5,bL,bV,c8]
  have leaf:=iR gr;have hr:aE aI h [0,1,2,d.length+7] []=[0,1,2,d.length+7,3,4,5]++([6]++(List.range' 7 d.length++[])):=fR (by simp[k0,k1,k2,ke0,k3,k4,k5]) (by intro q hq;simp only[Ae,Ac]at hq;have:q=0\/q=1\/q=2\/q=3\/q=4\/q=5\/q=6:=om;rcases this with rfl|rfl|rfl|rfl|rfl|rfl|rfl<;>simp[k0,k1,k2,ke0,k3,k4]) leaf (by intro i hi;simp at hi;subst hi;exact⟨_,_,_,by assumption⟩) (by intro i hi;simp at hi;rcases hi with rfl|rfl|rfl|rfl|rfl|rfl|rfl<;>exact⟨_,by assumption,by simp⟩) (by simp<;>omega) (by intro i hi;simp at hi;omega) (by simp only[aI,Ae,Ac];omega);generalize hord:[0,1,2,d.length+7,3,4,5]++([6]++(List.range' 7 d.length++[]))=ord at hr;have hA:ord=([0,1,2,d.length+7,3,4,5]++[6])++(List.range' 7 d.length++[]):=by rw[<-hord,Al]
  have pk:∀i j,ord[j]? =some i->aJ ord i=some j:=fun i j h1=>dE (by rw[<-hr];exact bU aI h _ [] sm) h1;have p0:=pk (0) 0 (by rw[<-hord];rfl);have p1:=pk (1) 1 (by rw[<-hord];rfl);have p2:=pk (2) 2 (by rw[<-hord];rfl);have pe0:=pk (d.length+7) 3 (by rw[<-hord];rfl);have p3:=pk (3) 4 (by rw[<-hord];rfl);have p4:=pk (4) 5 (by rw[<-hord];rfl);have p5:=pk (5) 6 (by rw[<-hord];rfl);have p6:=pk (6) 7 (by rw[<-hord];rfl);have pr:=iX (C:=8) pk hA rfl;obtain⟨K,hK⟩:∃K:H,O.box [.d y1,.d y2]::.box [.d x0,.sl 4 0 0 0,.sl 5 0 0 0]::.box [.d x1,.sl 6 0 0 k,.sl 7 0 0 z]::.arr [] 1 0::.arr [] 0 0::.arr [] 0 0::.vec (aC 8 d++aH 0) 1 0::.arr cs 1 0::aK d=K:=⟨_,rfl⟩
  have hni:∀f,aF f (aH 0)=aH 0:=fun _=>rfl
  have hpk:pack h ord=K:=by
   have hrf:aF (aJ ord) (aC 7 d)=aC 8 d:=eI (c:=0) pr;rw[kP hA gr,<-hK];simp only[Ax,Ap,Ai,Ar,Aa,g0,g1,g2,ge0,g3,g4,g5,g6,Bb,mapO,aF,mapA,cU,hrf,hni,p3,p4,p5,p6,Aj]
  have hKD:K.drop 8=aK d++[]:=by rw[<-hK];exact(Aj _).symm
  have hgr:=nD hKD
  have hcm:cG 0 K=.box [.d y1,.d y2]::.box [.d x0,.sl 4 0 0 0,.sl 5 0 0 0]::.box [.d x1,.sl 6 0 0 k,.sl 7 0 0 z]::.arr [] 1 0::.arr [] 0 0::.arr [] 0 0::.vec (aC 8 d++aH 0) 1 0::.arr cs 1 0::aK d:=by
   have hrf:aS 0 K (aC 8 d)=aC 8 d:=fC hgr;have hnc:∀h:H,aS 0 h (aH 0)=aH 0:=fun _=>rfl;have q3:bB K 3=some 0:=by rw[<-hK];rfl
   have q4:bB K 4=some 0:=by rw[<-hK];rfl
   have q5:bB K 5=some 0:=by rw[<-hK];rfl
   have q6:bB K 6=some 0:=by rw[<-hK];rfl
   have q7:bB K 7=some 0:=by rw[<-hK];rfl
   unfold cG;rw[fD]
   conv=>lhs;arg 2;rw[<-hK]
   simp only[Ai,bY,aS,bM,hU,eB,hrf,hnc,fX,q4,q5,q6,q7,Ca,if_false,if_true]
  subst hK;rw[XE hh hids,QD (ord:=ord) (by rw[hids];exact hr),hpk,hcm]
  have hmp:aF (aJ ord) (tidy m s)=aF (jC d.length) (tidy m s):=by
   apply kH;rw[hids];intro i hi;simp only[Av,Br,or_false]at hi
   rcases hi with rfl|rfl|rfl|rfl
   ·rw[p0,UX]
   ·rw[p1,XI]
   ·rw[p2,VS]
   ·rw[pe0,SG rfl]
  rw[hmp]
 ·rfl
def xK(n:Nat):List Nat:=[0,5,6]++(List.range' 7 n++[])
def GV(n i:Nat):Option Nat:=if i=0 then some 0 else if i=5 then some 1 else if i=6 then some 2 else none
theorem aFZ{n:Nat}:GV n 5=some (1):=by unfold GV;repeat (first|rfl|rw[if_pos rfl]|rw[if_neg om])
theorem aGO{n:Nat}:GV n 6=some (2):=by unfold GV;repeat (first|rfl|rw[if_pos rfl]|rw[if_neg om])
theorem aPv{y1 y2:D}{x0 x1 o3 o4:O}{cs:List D}{d:List (List Int)}(hl:d.length<=4294967296){ids:List Nat}:dC 1 (.box [.d y1,.d y2]::x0::x1::o3::o4::.vec (aC 7 d++aH 0) 1 0::.arr cs 1 0::aK d) ids=if ids=[5,6]then xK d.length else aRj 1 (.box [.d y1,.d y2]::x0::x1::o3::o4::.vec (aC 7 d++aH 0) 1 0::.arr cs 1 0::aK d) ids:=by
 split
 ·rename_i hc
  subst hc;rw[aJT];obtain⟨h,hh⟩:∃h:H,O.box [.d y1,.d y2]::x0::x1::o3::o4::.vec (aC 7 d++aH 0) 1 0::.arr cs 1 0::aK d=h:=⟨_,rfl⟩
  conv=>lhs;rw[hh]
  have g0:h[0]? =some (.box [.d y1,.d y2]):=by rw[<-hh];rfl
  have g5:h[5]? =some (.vec (aC 7 d++aH 0) 1 0):=by rw[<-hh];rfl
  have g6:h[6]? =some (.arr cs 1 0):=by rw[<-hh];rfl
  have hD:h.drop 7=aK d++[]:=by rw[<-hh];exact(Aj _).symm
  have gr:=hZ 7 hD;have k0:kids h (0)=[]:=by simp[kids,g0,idsL,idsA]
  have k5:kids h (5)=List.range' 7 d.length:=by simp[kids,g5,bL,bV,c8]
  have leaf:=iR gr;have hr:aE (aI+1) h [0,5,6] []=[0,5]++([6]++(List.range' 7 d.length++[])):=fR (by simp[k0,k5]) (by intro q hq;simp only[Ae,Ac]at hq;have:q=0\/q=1:=om;rcases this with rfl|rfl<;>simp[k0]) leaf (by intro i hi;simp at hi;subst hi;exact⟨_,_,_,by assumption⟩) (by intro i hi;simp at hi;rcases hi with rfl|rfl<;>exact⟨_,by assumption,by simp⟩) (by simp<;>omega) (by intro i hi;simp at hi;omega) (by simp only[aI,Ae,Ac];omega);generalize hord:[0,5]++([6]++(List.range' 7 d.length++[]))=ord at hr;rw[hr,<-hord];rfl
 ·rfl
theorem aPA{y1 y2:D}{x0 x1 o3 o4:O}{cs:List D}{d:List (List Int)}(hl:d.length<=4294967296){s:List A}:trim 1 (.box [.d y1,.d y2]::x0::x1::o3::o4::.vec (aC 7 d++aH 0) 1 0::.arr cs 1 0::aK d) (xK d.length) s=if idsL s=[5,6]/\z0As s=true then(aF (GV d.length) s,.box [.d y1,.d y2]::.vec (aC 3 d++aH 0) 1 0::.arr cs 1 0::aK d)else aRH 1 (.box [.d y1,.d y2]::x0::x1::o3::o4::.vec (aC 7 d++aH 0) 1 0::.arr cs 1 0::aK d) (xK d.length) s:=by
 split
 ·rename_i hc
  obtain⟨hids,hz⟩:=hc;rw[show xK d.length=0::(xK d.length).tail from rfl,aEX,show(0::(xK d.length).tail)=xK d.length from rfl];obtain⟨h,hh⟩:∃h:H,O.box [.d y1,.d y2]::x0::x1::o3::o4::.vec (aC 7 d++aH 0) 1 0::.arr cs 1 0::aK d=h:=⟨_,rfl⟩
  conv=>lhs;rw[hh]
  have g0:h[0]? =some (.box [.d y1,.d y2]):=by rw[<-hh];rfl
  have g5:h[5]? =some (.vec (aC 7 d++aH 0) 1 0):=by rw[<-hh];rfl
  have g6:h[6]? =some (.arr cs 1 0):=by rw[<-hh];rfl
  have hD:h.drop 7=aK d++[]:=by rw[<-hh];exact(Aj _).symm
  have gr:=hZ 7 hD;have k0:kids h (0)=[]:=by simp[kids,g0,idsL,idsA]
  have k5:kids h (5)=List.range' 7 d.length:=by simp[kids,g5,bL,bV,c8]
  have leaf:=iR gr;have hr:aE aI h [0,5,6] []=[0,5]++([6]++(List.range' 7 d.length++[])):=fR (by simp[k0,k5]) (by intro q hq;simp only[Ae,Ac]at hq;have:q=0\/q=1:=om;rcases this with rfl|rfl<;>simp[k0]) leaf (by intro i hi;simp at hi;subst hi;exact⟨_,_,_,by assumption⟩) (by intro i hi;simp at hi;rcases hi with rfl|rfl<;>exact⟨_,by assumption,by simp⟩) (by simp<;>omega) (by intro i hi;simp at hi;omega) (by simp only[aI,Ae,Ac];omega);generalize hord:[0,5]++([6]++(List.range' 7 d.length++[]))=ord at hr;have hA:ord=([0,5]++[6])++(List.range' 7 d.length++[]):=by rw[<-hord,Al]
  have pk:∀i j,ord[j]? =some i->aJ ord i=some j:=fun i j h1=>dE (by rw[<-hr];exact bU aI h _ [] sm) h1;have p0:=pk (0) 0 (by rw[<-hord];rfl);have p5:=pk (5) 1 (by rw[<-hord];rfl);have p6:=pk (6) 2 (by rw[<-hord];rfl);have pr:=iX (C:=3) pk hA rfl;obtain⟨K,hK⟩:∃K:H,O.box [.d y1,.d y2]::.vec (aC 3 d++aH 0) 1 0::.arr cs 1 0::aK d=K:=⟨_,rfl⟩
  have hni:∀f,aF f (aH 0)=aH 0:=fun _=>rfl
  have hpk:pack h ord=K:=by
   have hrf:aF (aJ ord) (aC 7 d)=aC 3 d:=eI (c:=0) pr;rw[kP hA gr,<-hK];simp only[Ax,Ap,Ai,Ar,Aa,g0,g5,g6,Bb,mapO,aF,mapA,cU,hrf,hni,Aj]
  have hKD:K.drop 3=aK d++[]:=by rw[<-hK];exact(Aj _).symm
  have hgr:=nD hKD
  have hcm:cG 0 K=.box [.d y1,.d y2]::.vec (aC 3 d++aH 0) 1 0::.arr cs 1 0::aK d:=by
   have hrf:aS 0 K (aC 3 d)=aC 3 d:=fC hgr;have hnc:∀h:H,aS 0 h (aH 0)=aH 0:=fun _=>rfl;have q1:bB K 1=some 0:=by rw[<-hK];rfl
   have q2:bB K 2=some 0:=by rw[<-hK];rfl
   unfold cG;rw[fD]
   conv=>lhs;arg 2;rw[<-hK]
   simp only[Ai,bY,aS,bM,eB,hrf,hnc,fX,Ca,if_false]
  subst hK;have hoo:xK d.length=ord:=by rw[<-hord];rfl
  unfold trim;rw[hoo,hpk,hcm]
  have hz2:aS 0 (O.box [.d y1,.d y2]::.vec (aC 3 d++aH 0) 1 0::.arr cs 1 0::aK d) (aF (aJ ord) s)=aF (aJ ord) s:=by
   exact kE (H4 (by simp[z0O,z0As,z0A,BZ,xZ,xC,G8])) _ (y9 _ hz)
  have hmp:aF (aJ ord) s=aF (GV d.length) s:=by
   apply kH;rw[hids];intro i hi;simp only[Av,Br,or_false]at hi
   rcases hi with rfl|rfl
   ·rw[p5,aFZ]
   ·rw[p6,aGO]
  rw[hz2,hmp]
 ·rfl
end Ev
end Go.Proofs.YtppffbehejpglaaGreat
