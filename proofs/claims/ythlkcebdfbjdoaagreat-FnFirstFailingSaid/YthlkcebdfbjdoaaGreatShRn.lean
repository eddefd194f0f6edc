/-
  Memory of some shapes at the end of a round. Written by a program.
-/
import Derived.Test.YthlkcebdfbjdoaaGreatShSf
set_option linter.unusedSimpArgs false
set_option linter.unusedVariables false
set_option maxRecDepth 4000
namespace Go.Proofs.YthlkcebdfbjdoaaGreat
namespace Ev
theorem aSM{m:List Bool}{s:List A}{y1 y2 x0 x1:D}{k z:Nat}{r:List Int}{cs:List D}{d:List (List Int)}{p:H}(hl:d.length<=4294967296):gc 1 m s (.box [.d y1,.d y2]::.box [.d x0,.sl 4 0 0 0,.sl 5 0 0 0]::.box [.d x1,.sl 6 1 0 k,.sl 7 1 0 z]::.arr (ints r) 1 0::.arr [] 0 0::.arr [] 0 0::.vec (aC 8 d++[.sl 3 0 0 r.length]) 1 1::.arr cs 1 1::(aJ d++p))=match box (tidy m s)with
  |.mk s1=>if idsL s1=[0,1,2]then(aS 0 (.box [.d y1,.d y2]::.box [.d x0,.sl 3 0 0 0,.sl 4 0 0 0]::.box [.d x1,.sl 5 1 0 k,.sl 6 1 0 z]::.arr [] 0 0::.arr [] 0 0::.vec (aC 7 d++[.sl (d.length+7) 0 0 r.length]) 1 1::.arr cs 1 1::(aJ d++[.arr (ints r) 1 0])) (s1),.box [.d y1,.d y2]::.box [.d x0,.sl 3 0 0 0,.sl 4 0 0 0]::.box [.d x1,.sl 5 0 0 k,.sl 6 0 0 z]::.arr [] 0 0::.arr [] 0 0::.vec (aC 7 d++[.sl (d.length+7) 0 0 r.length]) 1 0::.arr cs 1 0::(aJ d++[.arr (ints r) 1 0]))else gcO 1 m s (.box [.d y1,.d y2]::.box [.d x0,.sl 4 0 0 0,.sl 5 0 0 0]::.box [.d x1,.sl 6 1 0 k,.sl 7 1 0 z]::.arr (ints r) 1 0::.arr [] 0 0::.arr [] 0 0::.vec (aC 8 d++[.sl 3 0 0 r.length]) 1 1::.arr cs 1 1::(aJ d++p))
  |.no=>([],[]):=by
 simp only[box]
 split
 ·rename_i hc
  have hb:=hc;have hids:idsL (tidy m s)=[0,1,2]:=by exact hb
  obtain⟨h,hh⟩:∃h:H,O.box [.d y1,.d y2]::.box [.d x0,.sl 4 0 0 0,.sl 5 0 0 0]::.box [.d x1,.sl 6 1 0 k,.sl 7 1 0 z]::.arr (ints r) 1 0::.arr [] 0 0::.arr [] 0 0::.vec (aC 8 d++[.sl 3 0 0 r.length]) 1 1::.arr cs 1 1::(aJ d++p)=h:=⟨_,rfl⟩
  conv=>lhs;rw[hh]
  have g0:h[0]? =some (.box [.d y1,.d y2]):=by rw[<-hh];rfl
  have g1:h[1]? =some (.box [.d x0,.sl 4 0 0 0,.sl 5 0 0 0]):=by rw[<-hh];rfl
  have g2:h[2]? =some (.box [.d x1,.sl 6 1 0 k,.sl 7 1 0 z]):=by rw[<-hh];rfl
  have g3:h[3]? =some (.arr (ints r) 1 0):=by rw[<-hh];rfl
  have g4:h[4]? =some (.arr [] 0 0):=by rw[<-hh];rfl
  have g5:h[5]? =some (.arr [] 0 0):=by rw[<-hh];rfl
  have g6:h[6]? =some (.vec (aC 8 d++[.sl 3 0 0 r.length]) 1 1):=by rw[<-hh];rfl
  have g7:h[7]? =some (.arr cs 1 1):=by rw[<-hh];rfl
  have hD:h.drop 8=aJ d++p:=by rw[<-hh];rfl
  have gr:=iG 8 hD;have k0:kids h (0)=[]:=by simp[kids,g0,idsL,idsA]
  have k1:kids h (1)=[4,5]:=by simp[kids,g1,idsL,idsA]
  have k2:kids h (2)=[6,7]:=by simp[kids,g2,idsL,idsA]
  have k4:kids h (4)=[]:=bN g4;have k5:kids h (5)=[]:=bN g5;have k6:kids h (6)=List.range' 8 d.length++[3]:=by simp[kids,g6,bL,bV,idsL,idsA]
  have leaf:=jB gr;have hr:aE aH h [0,1,2] []=[0,1,2,4,5,6]++([7]++(List.range' 8 d.length++[3])):=fX (by simp[k0,k1,k2,k4,k5,k6]) (by intro q hq;simp only[Ad,Ac]at hq;have:q=0\/q=1\/q=2\/q=3\/q=4\/q=5:=om;rcases this with rfl|rfl|rfl|rfl|rfl|rfl<;>simp[k0,k1,k2,k4,k5]) leaf (by intro i hi;simp at hi;rcases hi with rfl|rfl<;>exact⟨_,_,_,by assumption⟩) (by intro i hi;simp at hi;rcases hi with rfl|rfl|rfl|rfl|rfl|rfl<;>exact⟨_,by assumption,by simp⟩) (by simp<;>omega) (by intro i hi;simp at hi;omega) (by simp only[aH,Ad,Ac];omega);generalize hord:[0,1,2,4,5,6]++([7]++(List.range' 8 d.length++[3]))=ord at hr;have hA:ord=([0,1,2,4,5,6]++[7])++(List.range' 8 d.length++[3]):=by rw[<-hord,Al]
  have pk:∀i j,ord[j]? =some i->aK ord i=some j:=fun i j h1=>dG (by rw[<-hr];exact bT aH h _ [] sm) h1;have p0:=pk (0) 0 (by rw[<-hord];rfl);have p1:=pk (1) 1 (by rw[<-hord];rfl);have p2:=pk (2) 2 (by rw[<-hord];rfl);have p4:=pk (4) 3 (by rw[<-hord];rfl);have p5:=pk (5) 4 (by rw[<-hord];rfl);have p6:=pk (6) 5 (by rw[<-hord];rfl);have p7:=pk (7) 6 (by rw[<-hord];rfl);have pr:=iX (C:=7) pk hA rfl;have p3:=X6 (C:=7) pk hA rfl 0 (i:=3) (j:=d.length+7) rfl om;obtain⟨K,hK⟩:∃K:H,O.box [.d y1,.d y2]::.box [.d x0,.sl 3 0 0 0,.sl 4 0 0 0]::.box [.d x1,.sl 5 1 0 k,.sl 6 1 0 z]::.arr [] 0 0::.arr [] 0 0::.vec (aC 7 d++[.sl (d.length+7) 0 0 r.length]) 1 1::.arr cs 1 1::(aJ d++[.arr (ints r) 1 0])=K:=⟨_,rfl⟩
  have hni:∀f,aF f (aG 0)=aG 0:=fun _=>rfl
  have hpk:pack h ord=K:=by
   have hrf:aF (aK ord) (aC 8 d)=aC 7 d:=eO (c:=0) pr;rw[kQ hA gr,<-hK];simp only[Ax,Ao,Ai,Ar,Aa,g0,g1,g2,g4,g5,g6,g7,g3,Bb,mapO,aF,mapA,cT,hrf,p4,p5,p6,p7,p3]
  have hKD:K.drop 7=aJ d++[.arr (ints r) 1 0]:=by rw[<-hK];rfl
  have hgr:=nV hKD;have hge0:a8 K (d.length+7)=some 0:=by simp only[a8,xI 7 0 hKD rfl (j:=d.length+7) om]
  have hcm:cG 0 K=.box [.d y1,.d y2]::.box [.d x0,.sl 3 0 0 0,.sl 4 0 0 0]::.box [.d x1,.sl 5 0 0 k,.sl 6 0 0 z]::.arr [] 0 0::.arr [] 0 0::.vec (aC 7 d++[.sl (d.length+7) 0 0 r.length]) 1 0::.arr cs 1 0::(aJ d++[.arr (ints r) 1 0]):=by
   have hrf:aS 0 K (aC 7 d)=aC 7 d:=fG hgr;have hnc:∀h:H,aS 0 h (aG 0)=aG 0:=fun _=>rfl;have q3:a8 K 3=some 0:=by rw[<-hK];rfl
   have q4:a8 K 4=some 0:=by rw[<-hK];rfl
   have q5:a8 K 5=some 1:=by rw[<-hK];rfl
   have q6:a8 K 6=some 1:=by rw[<-hK];rfl
   unfold cG;rw[fH]
   conv=>lhs;arg 2;rw[<-hK]
   simp only[Ai,Cv,Ar,bY,aS,bM,hU,eF,hrf,gG,q3,q4,q5,q6,hge0,Bz,if_false,if_true]
  subst hK;rw[V4 hh hids,QE (ord:=ord) (by rw[hids];exact hr),hpk,hcm]
  have hmp:aF (aK ord) (tidy m s)=tidy m s:=by
   apply fF;rw[hids];intro i hi;simp only[Au,Bq,or_false]at hi
   rcases hi with rfl|rfl|rfl
   ·exact p0
   ·exact p1
   ·exact p2
  rw[hmp]
 ·rfl
theorem aS7{m:List Bool}{s:List A}{y1 y2 x0 x1:D}{k z:Nat}{cs:List D}{d:List (List Int)}(hl:d.length<=4294967296):gc 1 m s (.box [.d y1,.d y2]::.box [.d x0,.sl 3 0 0 0,.sl 4 0 0 0]::.box [.d x1,.sl 5 0 0 k,.sl 6 0 0 z]::.arr [] 0 0::.arr [] 0 0::.vec (aC 7 d++aG 0) 1 0::.arr cs 1 0::aJ d)=match box (tidy m s)with
  |.mk s1=>if idsL s1=[0,1,2]then(aS 0 (.box [.d y1,.d y2]::.box [.d x0,.sl 3 0 0 0,.sl 4 0 0 0]::.box [.d x1,.sl 5 0 0 k,.sl 6 0 0 z]::.arr [] 0 0::.arr [] 0 0::.vec (aC 7 d++aG 0) 1 0::.arr cs 1 0::aJ d) (s1),.box [.d y1,.d y2]::.box [.d x0,.sl 3 0 0 0,.sl 4 0 0 0]::.box [.d x1,.sl 5 0 0 k,.sl 6 0 0 z]::.arr [] 0 0::.arr [] 0 0::.vec (aC 7 d++aG 0) 1 0::.arr cs 1 0::aJ d)else gcO 1 m s (.box [.d y1,.d y2]::.box [.d x0,.sl 3 0 0 0,.sl 4 0 0 0]::.box [.d x1,.sl 5 0 0 k,.sl 6 0 0 z]::.arr [] 0 0::.arr [] 0 0::.vec (aC 7 d++aG 0) 1 0::.arr cs 1 0::aJ d)
  |.no=>([],[]):=by
 simp only[box]
 split
 ·rename_i hc
  have hb:=hc;have hids:idsL (tidy m s)=[0,1,2]:=by exact hb
  obtain⟨h,hh⟩:∃h:H,O.box [.d y1,.d y2]::.box [.d x0,.sl 3 0 0 0,.sl 4 0 0 0]::.box [.d x1,.sl 5 0 0 k,.sl 6 0 0 z]::.arr [] 0 0::.arr [] 0 0::.vec (aC 7 d++aG 0) 1 0::.arr cs 1 0::aJ d=h:=⟨_,rfl⟩
  conv=>lhs;rw[hh]
  have g0:h[0]? =some (.box [.d y1,.d y2]):=by rw[<-hh];rfl
  have g1:h[1]? =some (.box [.d x0,.sl 3 0 0 0,.sl 4 0 0 0]):=by rw[<-hh];rfl
  have g2:h[2]? =some (.box [.d x1,.sl 5 0 0 k,.sl 6 0 0 z]):=by rw[<-hh];rfl
  have g3:h[3]? =some (.arr [] 0 0):=by rw[<-hh];rfl
  have g4:h[4]? =some (.arr [] 0 0):=by rw[<-hh];rfl
  have g5:h[5]? =some (.vec (aC 7 d++aG 0) 1 0):=by rw[<-hh];rfl
  have g6:h[6]? =some (.arr cs 1 0):=by rw[<-hh];rfl
  have hD:h.drop 7=aJ d++[]:=by rw[<-hh];exact(Aj _).symm
  have gr:=iG 7 hD;have k0:kids h (0)=[]:=by simp[kids,g0,idsL,idsA]
  have k1:kids h (1)=[3,4]:=by simp[kids,g1,idsL,idsA]
  have k2:kids h (2)=[5,6]:=by simp[kids,g2,idsL,idsA]
  have k3:kids h (3)=[]:=bN g3;have k4:kids h (4)=[]:=bN g4;have k5:kids h (5)=List.range' 7 d.length:=by simp[kids,g5,bL,bV,c7]
  have leaf:=jB gr;have hr:aE aH h [0,1,2] []=[0,1,2,3,4,5]++([6]++(List.range' 7 d.length++[])):=fX (by simp[k0,k1,k2,k3,k4,k5]) (by intro q hq;simp only[Ad,Ac]at hq;have:q=0\/q=1\/q=2\/q=3\/q=4\/q=5:=om;rcases this with rfl|rfl|rfl|rfl|rfl|rfl<;>simp[k0,k1,k2,k3,k4]) leaf (by intro i hi;simp at hi;subst hi;exact⟨_,_,_,by assumption⟩) (by intro i hi;simp at hi;rcases hi with rfl|rfl|rfl|rfl|rfl|rfl<;>exact⟨_,by assumption,by simp⟩) (by simp<;>omega) (by intro i hi;simp at hi;omega) (by simp only[aH,Ad,Ac];omega);generalize hord:[0,1,2,3,4,5]++([6]++(List.range' 7 d.length++[]))=ord at hr;have hA:ord=([0,1,2,3,4,5]++[6])++(List.range' 7 d.length++[]):=by rw[<-hord,Al]
  have pk:∀i j,ord[j]? =some i->aK ord i=some j:=fun i j h1=>dG (by rw[<-hr];exact bT aH h _ [] sm) h1;have p0:=pk (0) 0 (by rw[<-hord];rfl);have p1:=pk (1) 1 (by rw[<-hord];rfl);have p2:=pk (2) 2 (by rw[<-hord];rfl);have p3:=pk (3) 3 (by rw[<-hord];rfl);have p4:=pk (4) 4 (by rw[<-hord];rfl);have p5:=pk (5) 5 (by rw[<-hord];rfl);have p6:=pk (6) 6 (by rw[<-hord];rfl);have pr:=iX (C:=7) pk hA rfl;obtain⟨K,hK⟩:∃K:H,O.box [.d y1,.d y2]::.box [.d x0,.sl 3 0 0 0,.sl 4 0 0 0]::.box [.d x1,.sl 5 0 0 k,.sl 6 0 0 z]::.arr [] 0 0::.arr [] 0 0::.vec (aC 7 d++aG 0) 1 0::.arr cs 1 0::aJ d=K:=⟨_,rfl⟩
  have hni:∀f,aF f (aG 0)=aG 0:=fun _=>rfl
  have hpk:pack h ord=K:=by
   have hrf:aF (aK ord) (aC 7 d)=aC 7 d:=eO (c:=0) pr;rw[kQ hA gr,<-hK];simp only[Ax,Ao,Ai,Ar,Aa,g0,g1,g2,g3,g4,g5,g6,Bb,mapO,aF,mapA,cT,hrf,hni,p3,p4,p5,p6,Aj]
  have hKD:K.drop 7=aJ d++[]:=by rw[<-hK];exact(Aj _).symm
  have hgr:=nV hKD
  have hcm:cG 0 K=.box [.d y1,.d y2]::.box [.d x0,.sl 3 0 0 0,.sl 4 0 0 0]::.box [.d x1,.sl 5 0 0 k,.sl 6 0 0 z]::.arr [] 0 0::.arr [] 0 0::.vec (aC 7 d++aG 0) 1 0::.arr cs 1 0::aJ d:=by
   have hrf:aS 0 K (aC 7 d)=aC 7 d:=fG hgr;have hnc:∀h:H,aS 0 h (aG 0)=aG 0:=fun _=>rfl;have q3:a8 K 3=some 0:=by rw[<-hK];rfl
   have q4:a8 K 4=some 0:=by rw[<-hK];rfl
   have q5:a8 K 5=some 0:=by rw[<-hK];rfl
   have q6:a8 K 6=some 0:=by rw[<-hK];rfl
   unfold cG;rw[fH]
   conv=>lhs;arg 2;rw[<-hK]
   simp only[Ai,bY,aS,bM,hU,eF,hrf,hnc,gG,q3,q4,q5,q6,Bz,if_false,if_true]
  subst hK;rw[V4 hh hids,QE (ord:=ord) (by rw[hids];exact hr),hpk,hcm]
  have hmp:aF (aK ord) (tidy m s)=tidy m s:=by
   apply fF;rw[hids];intro i hi;simp only[Au,Bq,or_false]at hi
   rcases hi with rfl|rfl|rfl
   ·exact p0
   ·exact p1
   ·exact p2
  rw[hmp]
 ·rfl
theorem aTo{m:List Bool}{s:List A}{y1 y2 x0 x1:D}{k z g:Nat}{cr cs:List D}{d:List (List Int)}{p:H}(hl:d.length<=4294967296):gc 1 m s (.box [.d y1,.d y2]::.box [.d x0,.sl 4 0 0 0,.sl 5 0 0 0]::.box [.d x1,.sl 6 0 0 k,.sl 7 0 0 z]::.arr cr 1 g::.arr [] 0 0::.arr [] 0 0::.vec (aC 8 d++aG 0) 1 0::.arr cs 1 0::(aJ d++p))=match box (tidy m s)with
  |.mk s1=>if idsL s1=[0,1,2,3]then(aS 0 (.box [.d y1,.d y2]::.box [.d x0,.sl 4 0 0 0,.sl 5 0 0 0]::.box [.d x1,.sl 6 0 0 k,.sl 7 0 0 z]::.arr cr 1 g::.arr [] 0 0::.arr [] 0 0::.vec (aC 8 d++aG 0) 1 0::.arr cs 1 0::aJ d) (s1),.box [.d y1,.d y2]::.box [.d x0,.sl 4 0 0 0,.sl 5 0 0 0]::.box [.d x1,.sl 6 0 0 k,.sl 7 0 0 z]::.arr cr 1 0::.arr [] 0 0::.arr [] 0 0::.vec (aC 8 d++aG 0) 1 0::.arr cs 1 0::aJ d)else gcO 1 m s (.box [.d y1,.d y2]::.box [.d x0,.sl 4 0 0 0,.sl 5 0 0 0]::.box [.d x1,.sl 6 0 0 k,.sl 7 0 0 z]::.arr cr 1 g::.arr [] 0 0::.arr [] 0 0::.vec (aC 8 d++aG 0) 1 0::.arr cs 1 0::(aJ d++p))
  |.no=>([],[]):=by
 simp only[box]
 split
 ·rename_i hc
  have hb:=hc;have hids:idsL (tidy m s)=[0,1,2,3]:=by exact hb
  obtain⟨h,hh⟩:∃h:H,O.box [.d y1,.d y2]::.box [.d x0,.sl 4 0 0 0,.sl 5 0 0 0]::.box [.d x1,.sl 6 0 0 k,.sl 7 0 0 z]::.arr cr 1 g::.arr [] 0 0::.arr [] 0 0::.vec (aC 8 d++aG 0) 1 0::.arr cs 1 0::(aJ d++p)=h:=⟨_,rfl⟩
  conv=>lhs;rw[hh]
  have g0:h[0]? =some (.box [.d y1,.d y2]):=by rw[<-hh];rfl
  have g1:h[1]? =some (.box [.d x0,.sl 4 0 0 0,.sl 5 0 0 0]):=by rw[<-hh];rfl
  have g2:h[2]? =some (.box [.d x1,.sl 6 0 0 k,.sl 7 0 0 z]):=by rw[<-hh];rfl
  have g3:h[3]? =some (.arr cr 1 g):=by rw[<-hh];rfl
  have g4:h[4]? =some (.arr [] 0 0):=by rw[<-hh];rfl
  have g5:h[5]? =some (.arr [] 0 0):=by rw[<-hh];rfl
  have g6:h[6]? =some (.vec (aC 8 d++aG 0) 1 0):=by rw[<-hh];rfl
  have g7:h[7]? =some (.arr cs 1 0):=by rw[<-hh];rfl
  have hD:h.drop 8=aJ d++p:=by rw[<-hh];rfl
  have gr:=iG 8 hD;have k0:kids h (0)=[]:=by simp[kids,g0,idsL,idsA]
  have k1:kids h (1)=[4,5]:=by simp[kids,g1,idsL,idsA]
  have k2:kids h (2)=[6,7]:=by simp[kids,g2,idsL,idsA]
  have k3:kids h (3)=[]:=bN g3;have k4:kids h (4)=[]:=bN g4;have k5:kids h (5)=[]:=bN g5;have k6:kids h (6)=List.range' 8 d.length:=by simp[kids,g6,bL,bV,c7]
  have leaf:=jB gr;have hr:aE aH h [0,1,2,3] []=[0,1,2,3,4,5,6]++([7]++(List.range' 8 d.length++[])):=fX (by simp[k0,k1,k2,k3,k4,k5,k6]) (by intro q hq;simp only[Ad,Ac]at hq;have:q=0\/q=1\/q=2\/q=3\/q=4\/q=5\/q=6:=om;rcases this with rfl|rfl|rfl|rfl|rfl|rfl|rfl<;>simp[k0,k1,k2,k3,k4,k5]) leaf (by intro i hi;simp at hi;subst hi;exact⟨_,_,_,by assumption⟩) (by intro i hi;simp at hi;rcases hi with rfl|rfl|rfl|rfl|rfl|rfl|rfl<;>exact⟨_,by assumption,by simp⟩) (by simp<;>omega) (by intro i hi;simp at hi;omega) (by simp only[aH,Ad,Ac];omega);generalize hord:[0,1,2,3,4,5,6]++([7]++(List.range' 8 d.length++[]))=ord at hr;have hA:ord=([0,1,2,3,4,5,6]++[7])++(List.range' 8 d.length++[]):=by rw[<-hord,Al]
  have pk:∀i j,ord[j]? =some i->aK ord i=some j:=fun i j h1=>dG (by rw[<-hr];exact bT aH h _ [] sm) h1;have p0:=pk (0) 0 (by rw[<-hord];rfl);have p1:=pk (1) 1 (by rw[<-hord];rfl);have p2:=pk (2) 2 (by rw[<-hord];rfl);have p3:=pk (3) 3 (by rw[<-hord];rfl);have p4:=pk (4) 4 (by rw[<-hord];rfl);have p5:=pk (5) 5 (by rw[<-hord];rfl);have p6:=pk (6) 6 (by rw[<-hord];rfl);have p7:=pk (7) 7 (by rw[<-hord];rfl);have pr:=iX (C:=8) pk hA rfl;obtain⟨K,hK⟩:∃K:H,O.box [.d y1,.d y2]::.box [.d x0,.sl 4 0 0 0,.sl 5 0 0 0]::.box [.d x1,.sl 6 0 0 k,.sl 7 0 0 z]::.arr cr 1 g::.arr [] 0 0::.arr [] 0 0::.vec (aC 8 d++aG 0) 1 0::.arr cs 1 0::aJ d=K:=⟨_,rfl⟩
  have hni:∀f,aF f (aG 0)=aG 0:=fun _=>rfl
  have hpk:pack h ord=K:=by
   have hrf:aF (aK ord) (aC 8 d)=aC 8 d:=eO (c:=0) pr;rw[kQ hA gr,<-hK];simp only[Ax,Ao,Ai,Ar,Aa,g0,g1,g2,g3,g4,g5,g6,g7,Bb,mapO,aF,mapA,cT,hrf,hni,p4,p5,p6,p7,Aj]
  have hKD:K.drop 8=aJ d++[]:=by rw[<-hK];exact(Aj _).symm
  have hgr:=nV hKD
  have hcm:cG 0 K=.box [.d y1,.d y2]::.box [.d x0,.sl 4 0 0 0,.sl 5 0 0 0]::.box [.d x1,.sl 6 0 0 k,.sl 7 0 0 z]::.arr cr 1 0::.arr [] 0 0::.arr [] 0 0::.vec (aC 8 d++aG 0) 1 0::.arr cs 1 0::aJ d:=by
   have hrf:aS 0 K (aC 8 d)=aC 8 d:=fG hgr;have hnc:∀h:H,aS 0 h (aG 0)=aG 0:=fun _=>rfl;have q3:a8 K 3=some g:=by rw[<-hK];rfl
   have q4:a8 K 4=some 0:=by rw[<-hK];rfl
   have q5:a8 K 5=some 0:=by rw[<-hK];rfl
   have q6:a8 K 6=some 0:=by rw[<-hK];rfl
   have q7:a8 K 7=some 0:=by rw[<-hK];rfl
   unfold cG;rw[fH]
   conv=>lhs;arg 2;rw[<-hK]
   simp only[Ai,bY,aS,bM,hU,eF,hrf,hnc,gG,q4,q5,q6,q7,Bz,if_false,if_true]
  subst hK;rw[V4 hh hids,QE (ord:=ord) (by rw[hids];exact hr),hpk,hcm]
  have hmp:aF (aK ord) (tidy m s)=tidy m s:=by
   apply fF;rw[hids];intro i hi;simp only[Au,Bq,or_false]at hi
   rcases hi with rfl|rfl|rfl|rfl
   ·exact p0
   ·exact p1
   ·exact p2
   ·exact p3
  rw[hmp]
 ·rfl
theorem aRa{m:List Bool}{s:List A}{y1 y2 x0 x1:D}{k z g:Nat}{cr cs:List D}{d:List (List Int)}(hl:d.length<=4294967296):gc 1 m s (.box [.d y1,.d y2]::.box [.d x0,.sl 4 0 0 0,.sl 5 0 0 0]::.box [.d x1,.sl 6 0 0 k,.sl 7 0 0 z]::.arr cr 1 g::.arr [] 0 0::.arr [] 0 0::.vec (aC 8 d++aG 0) 1 0::.arr cs 1 0::aJ d)=match box (tidy m s)with
  |.mk s1=>if idsL s1=[0,1,2,3]then(aS 0 (.box [.d y1,.d y2]::.box [.d x0,.sl 4 0 0 0,.sl 5 0 0 0]::.box [.d x1,.sl 6 0 0 k,.sl 7 0 0 z]::.arr cr 1 g::.arr [] 0 0::.arr [] 0 0::.vec (aC 8 d++aG 0) 1 0::.arr cs 1 0::aJ d) (s1),.box [.d y1,.d y2]::.box [.d x0,.sl 4 0 0 0,.sl 5 0 0 0]::.box [.d x1,.sl 6 0 0 k,.sl 7 0 0 z]::.arr cr 1 0::.arr [] 0 0::.arr [] 0 0::.vec (aC 8 d++aG 0) 1 0::.arr cs 1 0::aJ d)else gcO 1 m s (.box [.d y1,.d y2]::.box [.d x0,.sl 4 0 0 0,.sl 5 0 0 0]::.box [.d x1,.sl 6 0 0 k,.sl 7 0 0 z]::.arr cr 1 g::.arr [] 0 0::.arr [] 0 0::.vec (aC 8 d++aG 0) 1 0::.arr cs 1 0::aJ d)
  |.no=>([],[]):=by
 simp only[box]
 split
 ·rename_i hc
  have hb:=hc;have hids:idsL (tidy m s)=[0,1,2,3]:=by exact hb
  obtain⟨h,hh⟩:∃h:H,O.box [.d y1,.d y2]::.box [.d x0,.sl 4 0 0 0,.sl 5 0 0 0]::.box [.d x1,.sl 6 0 0 k,.sl 7 0 0 z]::.arr cr 1 g::.arr [] 0 0::.arr [] 0 0::.vec (aC 8 d++aG 0) 1 0::.arr cs 1 0::aJ d=h:=⟨_,rfl⟩
  conv=>lhs;rw[hh]
  have g0:h[0]? =some (.box [.d y1,.d y2]):=by rw[<-hh];rfl
  have g1:h[1]? =some (.box [.d x0,.sl 4 0 0 0,.sl 5 0 0 0]):=by rw[<-hh];rfl
  have g2:h[2]? =some (.box [.d x1,.sl 6 0 0 k,.sl 7 0 0 z]):=by rw[<-hh];rfl
  have g3:h[3]? =some (.arr cr 1 g):=by rw[<-hh];rfl
  have g4:h[4]? =some (.arr [] 0 0):=by rw[<-hh];rfl
  have g5:h[5]? =some (.arr [] 0 0):=by rw[<-hh];rfl
  have g6:h[6]? =some (.vec (aC 8 d++aG 0) 1 0):=by rw[<-hh];rfl
  have g7:h[7]? =some (.arr cs 1 0):=by rw[<-hh];rfl
  have hD:h.drop 8=aJ d++[]:=by rw[<-hh];exact(Aj _).symm
  have gr:=iG 8 hD;have k0:kids h (0)=[]:=by simp[kids,g0,idsL,idsA]
  have k1:kids h (1)=[4,5]:=by simp[kids,g1,idsL,idsA]
  have k2:kids h (2)=[6,7]:=by simp[kids,g2,idsL,idsA]
  have k3:kids h (3)=[]:=bN g3;have k4:kids h (4)=[]:=bN g4;have k5:kids h (5)=[]:=bN g5;have k6:kids h (6)=List.range' 8 d.length:=by simp[kids,g6,bL,bV,c7]
  have leaf:=jB gr;have hr:aE aH h [0,1,2,3] []=[0,1,2,3,4,5,6]++([7]++(List.range' 8 d.length++[])):=fX (by simp[k0,k1,k2,k3,k4,k5,k6]) (by intro q hq;simp only[Ad,Ac]at hq;have:q=0\/q=1\/q=2\/q=3\/q=4\/q=5\/q=6:=om;rcases this with rfl|rfl|rfl|rfl|rfl|rfl|rfl<;>simp[k0,k1,k2,k3,k4,k5]) leaf (by intro i hi;simp at hi;subst hi;exact⟨_,_,_,by assumption⟩) (by intro i hi;simp at hi;rcases hi with rfl|rfl|rfl|rfl|rfl|rfl|rfl<;>exact⟨_,by assumption,by simp⟩) (by simp<;>omega) (by intro i hi;simp at hi;omega) (by simp only[aH,Ad,Ac];omega);generalize hord:[0,1,2,3,4,5,6]++([7]++(List.range' 8 d.length++[]))=ord at hr;have hA:ord=([0,1,2,3,4,5,6]++[7])++(List.range' 8 d.length++[]):=by rw[<-hord,Al]
  have pk:∀i j,ord[j]? =some i->aK ord i=some j:=fun i j h1=>dG (by rw[<-hr];exact bT aH h _ [] sm) h1;have p0:=pk (0) 0 (by rw[<-hord];rfl);have p1:=pk (1) 1 (by rw[<-hord];rfl);have p2:=pk (2) 2 (by rw[<-hord];rfl);have p3:=pk (3) 3 (by rw[<-hord];rfl);have p4:=pk (4) 4 (by rw[<-hord];rfl);have p5:=pk (5) 5 (by rw[<-hord];rfl);have p6:=pk (6) 6 (by rw[<-hord];rfl);have p7:=pk (7) 7 (by rw[<-hord];rfl);have pr:=iX (C:=8) pk hA rfl;obtain⟨K,hK⟩:∃K:H,O.box [.d y1,.d y2]::.box [.d x0,.sl 4 0 0 0,.sl 5 0 0 0]::.box [.d x1,.sl 6 0 0 k,.sl 7 0 0 z]::.arr cr 1 g::.arr [] 0 0::.arr [] 0 0::.vec (aC 8 d++aG 0) 1 0::.arr cs 1 0::aJ d=K:=⟨_,rfl⟩
  have hni:∀f,aF f (aG 0)=aG 0:=fun _=>rfl
  have hpk:pack h ord=K:=by
   have hrf:aF (aK ord) (aC 8 d)=aC 8 d:=eO (c:=0) pr;rw[kQ hA gr,<-hK];simp only[Ax,Ao,Ai,Ar,Aa,g0,g1,g2,g3,g4,g5,g6,g7,Bb,mapO,aF,mapA,cT,hrf,hni,p4,p5,p6,p7,Aj]
  have hKD:K.drop 8=aJ d++[]:=by rw[<-hK];exact(Aj _).symm
  have hgr:=nV hKD
  have hcm:cG 0 K=.box [.d y1,.d y2]::.box [.d x0,.sl 4 0 0 0,.sl 5 0 0 0]::.box [.d x1,.sl 6 0 0 k,.sl 7 0 0 z]::.arr cr 1 0::.arr [] 0 0::.arr [] 0 0::.vec (aC 8 d++aG 0) 1 0::.arr cs 1 0::aJ d:=by
   have hrf:aS 0 K (aC 8 d)=aC 8 d:=fG hgr;have hnc:∀h:H,aS 0 h (aG 0)=aG 0:=fun _=>rfl;have q3:a8 K 3=some g:=by rw[<-hK];rfl
   have q4:a8 K 4=some 0:=by rw[<-hK];rfl
   have q5:a8 K 5=some 0:=by rw[<-hK];rfl
   have q6:a8 K 6=some 0:=by rw[<-hK];rfl
   have q7:a8 K 7=some 0:=by rw[<-hK];rfl
   unfold cG;rw[fH]
   conv=>lhs;arg 2;rw[<-hK]
   simp only[Ai,bY,aS,bM,hU,eF,hrf,hnc,gG,q4,q5,q6,q7,Bz,if_false,if_true]
  subst hK;rw[V4 hh hids,QE (ord:=ord) (by rw[hids];exact hr),hpk,hcm]
  have hmp:aF (aK ord) (tidy m s)=tidy m s:=by
   apply fF;rw[hids];intro i hi;simp only[Au,Bq,or_false]at hi
   rcases hi with rfl|rfl|rfl|rfl
   ·exact p0
   ·exact p1
   ·exact p2
   ·exact p3
  rw[hmp]
 ·rfl
def KN(n:Nat)(ids:List Nat):Bool:=decide (ids=[0,1,2,n+7])
theorem aJL{n:Nat}{ke0:Nat}(he0:ke0=n+7):KN n [0,1,2,ke0]=true:=by subst he0;simp[KN]
def jF(n i:Nat):Option Nat:=if i=0 then some 0 else if i=1 then some 1 else if i=2 then some 2 else if i=n+7 then some 3 else none
theorem XO{n:Nat}:jF n 0=some (0):=by unfold jF;repeat (first|rfl|rw[if_pos rfl]|rw[if_neg om])
theorem U5{n:Nat}:jF n 1=some (1):=by unfold jF;repeat (first|rfl|rw[if_pos rfl]|rw[if_neg om])
theorem V1{n:Nat}:jF n 2=some (2):=by unfold jF;repeat (first|rfl|rw[if_pos rfl]|rw[if_neg om])
theorem TG{n k:Nat}(h:k=n+7):jF n k=some (3):=by subst h;unfold jF;repeat (first|rfl|rw[if_pos rfl]|rw[if_neg om])
theorem aST{m:List Bool}{s:List A}{y1 y2 x0 x1:D}{k z:Nat}{cs:List D}{d:List (List Int)}{p:H}(hl:d.length<=4294967296):gc 1 m s (.box [.d y1,.d y2]::.box [.d x0,.sl 3 0 0 0,.sl 4 0 0 0]::.box [.d x1,.sl 5 0 0 k,.sl 6 0 0 z]::.arr [] 0 0::.arr [] 0 0::.vec (aC 7 d++aG 0) 1 0::.arr cs 1 0::(aJ d++.arr [] 1 0::p))=match box (tidy m s)with
  |.mk s1=>if KN d.length (idsL s1)=true then(aS 0 (.box [.d y1,.d y2]::.box [.d x0,.sl 4 0 0 0,.sl 5 0 0 0]::.box [.d x1,.sl 6 0 0 k,.sl 7 0 0 z]::.arr [] 1 0::.arr [] 0 0::.arr [] 0 0::.vec (aC 8 d++aG 0) 1 0::.arr cs 1 0::aJ d) (aF (jF d.length) s1),.box [.d y1,.d y2]::.box [.d x0,.sl 4 0 0 0,.sl 5 0 0 0]::.box [.d x1,.sl 6 0 0 k,.sl 7 0 0 z]::.arr [] 1 0::.arr [] 0 0::.arr [] 0 0::.vec (aC 8 d++aG 0) 1 0::.arr cs 1 0::aJ d)else gcO 1 m s (.box [.d y1,.d y2]::.box [.d x0,.sl 3 0 0 0,.sl 4 0 0 0]::.box [.d x1,.sl 5 0 0 k,.sl 6 0 0 z]::.arr [] 0 0::.arr [] 0 0::.vec (aC 7 d++aG 0) 1 0::.arr cs 1 0::(aJ d++.arr [] 1 0::p))
  |.no=>([],[]):=by
 simp only[box]
 split
 ·rename_i hc
  have hb:=hc;have hids:idsL (tidy m s)=[0,1,2,d.length+7]:=by simpa [KN]using hb
  obtain⟨h,hh⟩:∃h:H,O.box [.d y1,.d y2]::.box [.d x0,.sl 3 0 0 0,.sl 4 0 0 0]::.box [.d x1,.sl 5 0 0 k,.sl 6 0 0 z]::.arr [] 0 0::.arr [] 0 0::.vec (aC 7 d++aG 0) 1 0::.arr cs 1 0::(aJ d++.arr [] 1 0::p)=h:=⟨_,rfl⟩
  conv=>lhs;rw[hh]
  have g0:h[0]? =some (.box [.d y1,.d y2]):=by rw[<-hh];rfl
  have g1:h[1]? =some (.box [.d x0,.sl 3 0 0 0,.sl 4 0 0 0]):=by rw[<-hh];rfl
  have g2:h[2]? =some (.box [.d x1,.sl 5 0 0 k,.sl 6 0 0 z]):=by rw[<-hh];rfl
  have g3:h[3]? =some (.arr [] 0 0):=by rw[<-hh];rfl
  have g4:h[4]? =some (.arr [] 0 0):=by rw[<-hh];rfl
  have g5:h[5]? =some (.vec (aC 7 d++aG 0) 1 0):=by rw[<-hh];rfl
  have g6:h[6]? =some (.arr cs 1 0):=by rw[<-hh];rfl
  have hD:h.drop 7=aJ d++(.arr [] 1 0::p):=by rw[<-hh];rfl
  have gr:=iG 7 hD;have ge0:h[d.length+7]? =some (.arr [] 1 0):=xI 7 0 hD rfl om;have k0:kids h (0)=[]:=by simp[kids,g0,idsL,idsA]
  have k1:kids h (1)=[3,4]:=by simp[kids,g1,idsL,idsA]
  have k2:kids h (2)=[5,6]:=by simp[kids,g2,idsL,idsA]
  have ke0:kids h (d.length+7)=[]:=bN ge0;have k3:kids h (3)=[]:=bN g3;have k4:kids h (4)=[]:=bN g4;have k5:kids h (5)=List.range' 7 d.length:=by simp[kids,g5,bL,bV,c7]
  have leaf:=jB gr;have hr:aE aH h [0,1,2,d.length+7] []=[0,1,2,d.length+7,3,4,5]++([6]++(List.range' 7 d.length++[])):=fX (by simp[k0,k1,k2,ke0,k3,k4,k5]) (by intro q hq;simp only[Ad,Ac]at hq;have:q=0\/q=1\/q=2\/q=3\/q=4\/q=5\/q=6:=om;rcases this with rfl|rfl|rfl|rfl|rfl|rfl|rfl<;>simp[k0,k1,k2,ke0,k3,k4]) leaf (by intro i hi;simp at hi;subst hi;exact⟨_,_,_,by assumption⟩) (by intro i hi;simp at hi;rcases hi with rfl|rfl|rfl|rfl|rfl|rfl|rfl<;>exact⟨_,by assumption,by simp⟩) (by simp<;>omega) (by intro i hi;simp at hi;omega) (by simp only[aH,Ad,Ac];omega);generalize hord:[0,1,2,d.length+7,3,4,5]++([6]++(List.range' 7 d.length++[]))=ord at hr;have hA:ord=([0,1,2,d.length+7,3,4,5]++[6])++(List.range' 7 d.length++[]):=by rw[<-hord,Al]
  have pk:∀i j,ord[j]? =some i->aK ord i=some j:=fun i j h1=>dG (by rw[<-hr];exact bT aH h _ [] sm) h1;have p0:=pk (0) 0 (by rw[<-hord];rfl);have p1:=pk (1) 1 (by rw[<-hord];rfl);have p2:=pk (2) 2 (by rw[<-hord];rfl);have pe0:=pk (d.length+7) 3 (by rw[<-hord];rfl);have p3:=pk (3) 4 (by rw[<-hord];rfl);have p4:=pk (4) 5 (by rw[<-hord];rfl);have p5:=pk (5) 6 (by rw[<-hord];rfl);have p6:=pk (6) 7 (by rw[<-hord];rfl);have pr:=iX (C:=8) pk hA rfl;obtain⟨K,hK⟩:∃K:H,O.box [.d y1,.d y2]::.box [.d x0,.sl 4 0 0 0,.sl 5 0 0 0]::.box [.d x1,.sl 6 0 0 k,.sl 7 0 0 z]::.arr [] 1 0::.arr [] 0 0::.arr [] 0 0::.vec (aC 8 d++aG 0) 1 0::.arr cs 1 0::aJ d=K:=⟨_,rfl⟩
  have hni:∀f,aF f (aG 0)=aG 0:=fun _=>rfl
  have hpk:pack h ord=K:=by
   have hrf:aF (aK ord) (aC 7 d)=aC 8 d:=eO (c:=0) pr;rw[kQ hA gr,<-hK];simp only[Ax,Ao,Ai,Ar,Aa,g0,g1,g2,ge0,g3,g4,g5,g6,Bb,mapO,aF,mapA,cT,hrf,hni,p3,p4,p5,p6,Aj]
  have hKD:K.drop 8=aJ d++[]:=by rw[<-hK];exact(Aj _).symm
  have hgr:=nV hKD
  have hcm:cG 0 K=.box [.d y1,.d y2]::.box [.d x0,.sl 4 0 0 0,.sl 5 0 0 0]::.box [.d x1,.sl 6 0 0 k,.sl 7 0 0 z]::.arr [] 1 0::.arr [] 0 0::.arr [] 0 0::.vec (aC 8 d++aG 0) 1 0::.arr cs 1 0::aJ d:=by
   have hrf:aS 0 K (aC 8 d)=aC 8 d:=fG hgr;have hnc:∀h:H,aS 0 h (aG 0)=aG 0:=fun _=>rfl;have q3:a8 K 3=some 0:=by rw[<-hK];rfl
   have q4:a8 K 4=some 0:=by rw[<-hK];rfl
   have q5:a8 K 5=some 0:=by rw[<-hK];rfl
   have q6:a8 K 6=some 0:=by rw[<-hK];rfl
   have q7:a8 K 7=some 0:=by rw[<-hK];rfl
   unfold cG;rw[fH]
   conv=>lhs;arg 2;rw[<-hK]
   simp only[Ai,bY,aS,bM,hU,eF,hrf,hnc,gG,q4,q5,q6,q7,Bz,if_false,if_true]
  subst hK;rw[V4 hh hids,QE (ord:=ord) (by rw[hids];exact hr),hpk,hcm]
  have hmp:aF (aK ord) (tidy m s)=aF (jF d.length) (tidy m s):=by
   apply kL;rw[hids];intro i hi;simp only[Au,Bq,or_false]at hi
   rcases hi with rfl|rfl|rfl|rfl
   ·rw[p0,XO]
   ·rw[p1,U5]
   ·rw[p2,V1]
   ·rw[pe0,TG rfl]
  rw[hmp]
 ·rfl
def xA(n:Nat):List Nat:=[0,5,6]++(List.range' 7 n++[])
def G7(n i:Nat):Option Nat:=if i=0 then some 0 else if i=5 then some 1 else if i=6 then some 2 else none
theorem aGP{n:Nat}:G7 n 5=some (1):=by unfold G7;repeat (first|rfl|rw[if_pos rfl]|rw[if_neg om])
theorem aHq{n:Nat}:G7 n 6=some (2):=by unfold G7;repeat (first|rfl|rw[if_pos rfl]|rw[if_neg om])
theorem aO9{y1 y2:D}{x0 x1 o3 o4:O}{cs:List D}{d:List (List Int)}(hl:d.length<=4294967296){ids:List Nat}:dC 1 (.box [.d y1,.d y2]::x0::x1::o3::o4::.vec (aC 7 d++aG 0) 1 0::.arr cs 1 0::aJ d) ids=if ids=[5,6]then xA d.length else aRT 1 (.box [.d y1,.d y2]::x0::x1::o3::o4::.vec (aC 7 d++aG 0) 1 0::.arr cs 1 0::aJ d) ids:=by
 split
 ·rename_i hc
  subst hc;rw[aJT];obtain⟨h,hh⟩:∃h:H,O.box [.d y1,.d y2]::x0::x1::o3::o4::.vec (aC 7 d++aG 0) 1 0::.arr cs 1 0::aJ d=h:=⟨_,rfl⟩
  conv=>lhs;rw[hh]
  have g0:h[0]? =some (.box [.d y1,.d y2]):=by rw[<-hh];rfl
  have g5:h[5]? =some (.vec (aC 7 d++aG 0) 1 0):=by rw[<-hh];rfl
  have g6:h[6]? =some (.arr cs 1 0):=by rw[<-hh];rfl
  have hD:h.drop 7=aJ d++[]:=by rw[<-hh];exact(Aj _).symm
  have gr:=iG 7 hD;have k0:kids h (0)=[]:=by simp[kids,g0,idsL,idsA]
  have k5:kids h (5)=List.range' 7 d.length:=by simp[kids,g5,bL,bV,c7]
  have leaf:=jB gr;have hr:aE (aH+1) h [0,5,6] []=[0,5]++([6]++(List.range' 7 d.length++[])):=fX (by simp[k0,k5]) (by intro q hq;simp only[Ad,Ac]at hq;have:q=0\/q=1:=om;rcases this with rfl|rfl<;>simp[k0]) leaf (by intro i hi;simp at hi;subst hi;exact⟨_,_,_,by assumption⟩) (by intro i hi;simp at hi;rcases hi with rfl|rfl<;>exact⟨_,by assumption,by simp⟩) (by simp<;>omega) (by intro i hi;simp at hi;omega) (by simp only[aH,Ad,Ac];omega);generalize hord:[0,5]++([6]++(List.range' 7 d.length++[]))=ord at hr;rw[hr,<-hord];rfl
 ·rfl
theorem aPU{y1 y2:D}{x0 x1 o3 o4:O}{cs:List D}{d:List (List Int)}(hl:d.length<=4294967296){s:List A}:trim 1 (.box [.d y1,.d y2]::x0::x1::o3::o4::.vec (aC 7 d++aG 0) 1 0::.arr cs 1 0::aJ d) (xA d.length) s=if idsL s=[5,6]/\z0As s=true then(aF (G7 d.length) s,.box [.d y1,.d y2]::.vec (aC 3 d++aG 0) 1 0::.arr cs 1 0::aJ d)else aSa 1 (.box [.d y1,.d y2]::x0::x1::o3::o4::.vec (aC 7 d++aG 0) 1 0::.arr cs 1 0::aJ d) (xA d.length) s:=by
 split
 ·rename_i hc
  obtain⟨hids,hz⟩:=hc;rw[show xA d.length=0::(xA d.length).tail from rfl,aGi,show(0::(xA d.length).tail)=xA d.length from rfl];obtain⟨h,hh⟩:∃h:H,O.box [.d y1,.d y2]::x0::x1::o3::o4::.vec (aC 7 d++aG 0) 1 0::.arr cs 1 0::aJ d=h:=⟨_,rfl⟩
  conv=>lhs;rw[hh]
  have g0:h[0]? =some (.box [.d y1,.d y2]):=by rw[<-hh];rfl
  have g5:h[5]? =some (.vec (aC 7 d++aG 0) 1 0):=by rw[<-hh];rfl
  have g6:h[6]? =some (.arr cs 1 0):=by rw[<-hh];rfl
  have hD:h.drop 7=aJ d++[]:=by rw[<-hh];exact(Aj _).symm
  have gr:=iG 7 hD;have k0:kids h (0)=[]:=by simp[kids,g0,idsL,idsA]
  have k5:kids h (5)=List.range' 7 d.length:=by simp[kids,g5,bL,bV,c7]
  have leaf:=jB gr;have hr:aE aH h [0,5,6] []=[0,5]++([6]++(List.range' 7 d.length++[])):=fX (by simp[k0,k5]) (by intro q hq;simp only[Ad,Ac]at hq;have:q=0\/q=1:=om;rcases this with rfl|rfl<;>simp[k0]) leaf (by intro i hi;simp at hi;subst hi;exact⟨_,_,_,by assumption⟩) (by intro i hi;simp at hi;rcases hi with rfl|rfl<;>exact⟨_,by assumption,by simp⟩) (by simp<;>omega) (by intro i hi;simp at hi;omega) (by simp only[aH,Ad,Ac];omega);generalize hord:[0,5]++([6]++(List.range' 7 d.length++[]))=ord at hr;have hA:ord=([0,5]++[6])++(List.range' 7 d.length++[]):=by rw[<-hord,Al]
  have pk:∀i j,ord[j]? =some i->aK ord i=some j:=fun i j h1=>dG (by rw[<-hr];exact bT aH h _ [] sm) h1;have p0:=pk (0) 0 (by rw[<-hord];rfl);have p5:=pk (5) 1 (by rw[<-hord];rfl);have p6:=pk (6) 2 (by rw[<-hord];rfl);have pr:=iX (C:=3) pk hA rfl;obtain⟨K,hK⟩:∃K:H,O.box [.d y1,.d y2]::.vec (aC 3 d++aG 0) 1 0::.arr cs 1 0::aJ d=K:=⟨_,rfl⟩
  have hni:∀f,aF f (aG 0)=aG 0:=fun _=>rfl
  have hpk:pack h ord=K:=by
   have hrf:aF (aK ord) (aC 7 d)=aC 3 d:=eO (c:=0) pr;rw[kQ hA gr,<-hK];simp only[Ax,Ao,Ai,Ar,Aa,g0,g5,g6,Bb,mapO,aF,mapA,cT,hrf,hni,Aj]
  have hKD:K.drop 3=aJ d++[]:=by rw[<-hK];exact(Aj _).symm
  have hgr:=nV hKD
  have hcm:cG 0 K=.box [.d y1,.d y2]::.vec (aC 3 d++aG 0) 1 0::.arr cs 1 0::aJ d:=by
   have hrf:aS 0 K (aC 3 d)=aC 3 d:=fG hgr;have hnc:∀h:H,aS 0 h (aG 0)=aG 0:=fun _=>rfl;have q1:a8 K 1=some 0:=by rw[<-hK];rfl
   have q2:a8 K 2=some 0:=by rw[<-hK];rfl
   unfold cG;rw[fH]
   conv=>lhs;arg 2;rw[<-hK]
   simp only[Ai,bY,aS,bM,eF,hrf,hnc,gG,Bz,if_false]
  subst hK;have hoo:xA d.length=ord:=by rw[<-hord];rfl
  unfold trim;rw[hoo,hpk,hcm]
  have hz2:aS 0 (O.box [.d y1,.d y2]::.vec (aC 3 d++aG 0) 1 0::.arr cs 1 0::aJ d) (aF (aK ord) s)=aF (aK ord) s:=by
   exact kB (JQ (by simp[z0O,z0As,z0A,B9,xK,xU,H7])) _ (zV _ hz)
  have hmp:aF (aK ord) s=aF (G7 d.length) s:=by
   apply kL;rw[hids];intro i hi;simp only[Au,Bq,or_false]at hi
   rcases hi with rfl|rfl
   ·rw[p5,aGP]
   ·rw[p6,aHq]
  rw[hz2,hmp]
 ·rfl
end Ev
end Go.Proofs.YthlkcebdfbjdoaaGreat
