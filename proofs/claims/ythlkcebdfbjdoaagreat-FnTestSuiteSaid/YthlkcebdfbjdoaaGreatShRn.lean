/-
  Memory of some shapes at the end of a round. Written by a program.
-/
import Derived.Test.YthlkcebdfbjdoaaGreatShSf
set_option linter.unusedSimpArgs false
set_option linter.unusedVariables false
set_option maxRecDepth 4000
namespace Go.Proofs.YthlkcebdfbjdoaaGreat
namespace Ev
theorem aPP{m:List Bool}{s:List A}{y1 y2 x0 x1:D}{k z:Nat}{r:List Int}{cs:List D}{d:List (List Int)}{p:H}(hl:d.length<=4294967296):gc 1 m s (.box [.d y1,.d y2]::.box [.d x0,.sl 4 0 0 0,.sl 5 0 0 0]::.box [.d x1,.sl 6 1 0 k,.sl 7 1 0 z]::.arr (ints r) 1 0::.arr [] 0 0::.arr [] 0 0::.vec (aC 8 d++[.sl 3 0 0 r.length]) 1 1::.arr cs 1 1::(aH d++p))=match box (tidy m s)with
  |.mk s1=>if idsL s1=[0,1,2]then(aR 0 (.box [.d y1,.d y2]::.box [.d x0,.sl 3 0 0 0,.sl 4 0 0 0]::.box [.d x1,.sl 5 1 0 k,.sl 6 1 0 z]::.arr [] 0 0::.arr [] 0 0::.vec (aC 7 d++[.sl (d.length+7) 0 0 r.length]) 1 1::.arr cs 1 1::(aH d++[.arr (ints r) 1 0])) (s1),.box [.d y1,.d y2]::.box [.d x0,.sl 3 0 0 0,.sl 4 0 0 0]::.box [.d x1,.sl 5 0 0 k,.sl 6 0 0 z]::.arr [] 0 0::.arr [] 0 0::.vec (aC 7 d++[.sl (d.length+7) 0 0 r.length]) 1 0::.arr cs 1 0::(aH d++[.arr (ints r) 1 0]))else gcO 1 m s (.box [.d y1,.d y2]::.box [.d x0,.sl 4 0 0 0,.sl 5 0 0 0]::.box [.d x1,.sl 6 1 0 k,.sl 7 1 0 z]::.arr (ints r) 1 0::.arr [] 0 0::.arr [] 0 0::.vec (aC 8 d++[.sl 3 0 0 r.length]) 1 1::.arr cs 1 1::(aH d++p))
  |.no=>([],[]):=by
 simp only[box]
 split
 ·rename_i hc
  have hb:=hc;have hids:idsL (tidy m s)=[0,1,2]:=by exact hb
  obtain⟨h,hh⟩:∃h:H,O.box [.d y1,.d y2]::.box [.d x0,.sl 4 0 0 0,.sl 5 0 0 0]::.box [.d x1,.sl 6 1 0 k,.sl 7 1 0 z]::.arr (ints r) 1 0::.arr [] 0 0::.arr [] 0 0::.vec (aC 8 d++[.sl 3 0 0 r.length]) 1 1::.arr cs 1 1::(aH d++p)=h:=⟨_,rfl⟩
  conv=>lhs;rw[hh]
  have g0:h[0]? =some (.box [.d y1,.d y2]):=by rw[<-hh];rfl
  have g1:h[1]? =some (.box [.d x0,.sl 4 0 0 0,.sl 5 0 0 0]):=by rw[<-hh];rfl
  have g2:h[2]? =some (.box [.d x1,.sl 6 1 0 k,.sl 7 1 0 z]):=by rw[<-hh];rfl
  have g3:h[3]? =some (.arr (ints r) 1 0):=by rw[<-hh];rfl
  have g4:h[4]? =some (.arr [] 0 0):=by rw[<-hh];rfl
  have g5:h[5]? =some (.arr [] 0 0):=by rw[<-hh];rfl
  have g6:h[6]? =some (.vec (aC 8 d++[.sl 3 0 0 r.length]) 1 1):=by rw[<-hh];rfl
  have g7:h[7]? =some (.arr cs 1 1):=by rw[<-hh];rfl
  have hD:h.drop 8=aH d++p:=by rw[<-hh];rfl
  have gr:=gZ 8 hD;have k0:kids h (0)=[]:=by simp[kids,g0,idsL,idsA]
  have k1:kids h (1)=[4,5]:=by simp[kids,g1,idsL,idsA]
  have k2:kids h (2)=[6,7]:=by simp[kids,g2,idsL,idsA]
  have k4:kids h (4)=[]:=bJ g4;have k5:kids h (5)=[]:=bJ g5;have k6:kids h (6)=List.range' 8 d.length++[3]:=by simp[kids,g6,bH,bQ,idsL,idsA]
  have leaf:=iK gr;have hr:aD aG h [0,1,2] []=[0,1,2,4,5,6]++([7]++(List.range' 8 d.length++[3])):=fH (by simp[k0,k1,k2,k4,k5,k6]) (by intro q hq;simp only[Ad,Ac]at hq;have:q=0\/q=1\/q=2\/q=3\/q=4\/q=5:=om;rcases this with rfl|rfl|rfl|rfl|rfl|rfl<;>simp[k0,k1,k2,k4,k5]) leaf (by intro i hi;simp at hi;rcases hi with rfl|rfl<;>exact⟨_,_,_,by assumption⟩) (by intro i hi;simp at hi;rcases hi with rfl|rfl|rfl|rfl|rfl|rfl<;>exact⟨_,by assumption,by simp⟩) (by simp<;>omega) (by intro i hi;simp at hi;omega) (by simp only[aG,Ad,Ac];omega);generalize hord:[0,1,2,4,5,6]++([7]++(List.range' 8 d.length++[3]))=ord at hr;have hA:ord=([0,1,2,4,5,6]++[7])++(List.range' 8 d.length++[3]):=by rw[<-hord,Am]
  have pk:∀i j,ord[j]? =some i->aI ord i=some j:=fun i j h1=>dC (by rw[<-hr];exact bP aG h _ [] sm) h1;have p0:=pk (0) 0 (by rw[<-hord];rfl);have p1:=pk (1) 1 (by rw[<-hord];rfl);have p2:=pk (2) 2 (by rw[<-hord];rfl);have p4:=pk (4) 3 (by rw[<-hord];rfl);have p5:=pk (5) 4 (by rw[<-hord];rfl);have p6:=pk (6) 5 (by rw[<-hord];rfl);have p7:=pk (7) 6 (by rw[<-hord];rfl);have pr:=iL (C:=7) pk hA rfl;have p3:=Q8 (C:=7) pk hA rfl 0 (i:=3) (j:=d.length+7) rfl om;obtain⟨K,hK⟩:∃K:H,O.box [.d y1,.d y2]::.box [.d x0,.sl 3 0 0 0,.sl 4 0 0 0]::.box [.d x1,.sl 5 1 0 k,.sl 6 1 0 z]::.arr [] 0 0::.arr [] 0 0::.vec (aC 7 d++[.sl (d.length+7) 0 0 r.length]) 1 1::.arr cs 1 1::(aH d++[.arr (ints r) 1 0])=K:=⟨_,rfl⟩
  have hni:∀f,aE f (aF 0)=aF 0:=fun _=>rfl
  have hpk:pack h ord=K:=by
   have hrf:aE (aI ord) (aC 8 d)=aC 7 d:=eB (c:=0) pr;rw[kD hA gr,<-hK];simp only[Av,Ao,Ah,Ap,Aa,g0,g1,g2,g4,g5,g6,g7,g3,Bb,mapO,aE,mapA,cM,hrf,p4,p5,p6,p7,p3]
  have hKD:K.drop 7=aH d++[.arr (ints r) 1 0]:=by rw[<-hK];rfl
  have hgr:=mR hKD;have hge0:aX K (d.length+7)=some 0:=by simp only[aX,vJ 7 0 hKD rfl (j:=d.length+7) om]
  have hcm:cC 0 K=.box [.d y1,.d y2]::.box [.d x0,.sl 3 0 0 0,.sl 4 0 0 0]::.box [.d x1,.sl 5 0 0 k,.sl 6 0 0 z]::.arr [] 0 0::.arr [] 0 0::.vec (aC 7 d++[.sl (d.length+7) 0 0 r.length]) 1 0::.arr cs 1 0::(aH d++[.arr (ints r) 1 0]):=by
   have hrf:aR 0 K (aC 7 d)=aC 7 d:=eW hgr;have hnc:∀h:H,aR 0 h (aF 0)=aF 0:=fun _=>rfl;have q3:aX K 3=some 0:=by rw[<-hK];rfl
   have q4:aX K 4=some 0:=by rw[<-hK];rfl
   have q5:aX K 5=some 1:=by rw[<-hK];rfl
   have q6:aX K 6=some 1:=by rw[<-hK];rfl
   unfold cC;rw[eX]
   conv=>lhs;arg 2;rw[<-hK]
   simp only[Ah,Dk,Ap,bT,aR,bI,gI,dZ,hrf,fM,q3,q4,q5,q6,hge0,Bw,if_false,if_true]
  subst hK;rw[S6 hh hids,OM (ord:=ord) (by rw[hids];exact hr),hpk,hcm]
  have hmp:aE (aI ord) (tidy m s)=tidy m s:=by
   apply eU;rw[hids];intro i hi;simp only[At,Bo,or_false]at hi
   rcases hi with rfl|rfl|rfl
   ·exact p0
   ·exact p1
   ·exact p2
  rw[hmp]
 ·rfl
theorem aPF{m:List Bool}{s:List A}{y1 y2 x0 x1:D}{k z:Nat}{cs:List D}{d:List (List Int)}(hl:d.length<=4294967296):gc 1 m s (.box [.d y1,.d y2]::.box [.d x0,.sl 3 0 0 0,.sl 4 0 0 0]::.box [.d x1,.sl 5 0 0 k,.sl 6 0 0 z]::.arr [] 0 0::.arr [] 0 0::.vec (aC 7 d++aF 0) 1 0::.arr cs 1 0::aH d)=match box (tidy m s)with
  |.mk s1=>if idsL s1=[0,1,2]then(aR 0 (.box [.d y1,.d y2]::.box [.d x0,.sl 3 0 0 0,.sl 4 0 0 0]::.box [.d x1,.sl 5 0 0 k,.sl 6 0 0 z]::.arr [] 0 0::.arr [] 0 0::.vec (aC 7 d++aF 0) 1 0::.arr cs 1 0::aH d) (s1),.box [.d y1,.d y2]::.box [.d x0,.sl 3 0 0 0,.sl 4 0 0 0]::.box [.d x1,.sl 5 0 0 k,.sl 6 0 0 z]::.arr [] 0 0::.arr [] 0 0::.vec (aC 7 d++aF 0) 1 0::.arr cs 1 0::aH d)else gcO 1 m s (.box [.d y1,.d y2]::.box [.d x0,.sl 3 0 0 0,.sl 4 0 0 0]::.box [.d x1,.sl 5 0 0 k,.sl 6 0 0 z]::.arr [] 0 0::.arr [] 0 0::.vec (aC 7 d++aF 0) 1 0::.arr cs 1 0::aH d)
  |.no=>([],[]):=by
 simp only[box]
 split
 ·rename_i hc
  have hb:=hc;have hids:idsL (tidy m s)=[0,1,2]:=by exact hb
  obtain⟨h,hh⟩:∃h:H,O.box [.d y1,.d y2]::.box [.d x0,.sl 3 0 0 0,.sl 4 0 0 0]::.box [.d x1,.sl 5 0 0 k,.sl 6 0 0 z]::.arr [] 0 0::.arr [] 0 0::.vec (aC 7 d++aF 0) 1 0::.arr cs 1 0::aH d=h:=⟨_,rfl⟩
  conv=>lhs;rw[hh]
  have g0:h[0]? =some (.box [.d y1,.d y2]):=by rw[<-hh];rfl
  have g1:h[1]? =some (.box [.d x0,.sl 3 0 0 0,.sl 4 0 0 0]):=by rw[<-hh];rfl
  have g2:h[2]? =some (.box [.d x1,.sl 5 0 0 k,.sl 6 0 0 z]):=by rw[<-hh];rfl
  have g3:h[3]? =some (.arr [] 0 0):=by rw[<-hh];rfl
  have g4:h[4]? =some (.arr [] 0 0):=by rw[<-hh];rfl
  have g5:h[5]? =some (.vec (aC 7 d++aF 0) 1 0):=by rw[<-hh];rfl
  have g6:h[6]? =some (.arr cs 1 0):=by rw[<-hh];rfl
  have hD:h.drop 7=aH d++[]:=by rw[<-hh];exact(Ai _).symm
  have gr:=gZ 7 hD;have k0:kids h (0)=[]:=by simp[kids,g0,idsL,idsA]
  have k1:kids h (1)=[3,4]:=by simp[kids,g1,idsL,idsA]
  have k2:kids h (2)=[5,6]:=by simp[kids,g2,idsL,idsA]
  have k3:kids h (3)=[]:=bJ g3;have k4:kids h (4)=[]:=bJ g4;have k5:kids h (5)=List.range' 7 d.length:=by simp[kids,g5,bH,bQ,cW]
  have leaf:=iK gr;have hr:aD aG h [0,1,2] []=[0,1,2,3,4,5]++([6]++(List.range' 7 d.length++[])):=fH (by simp[k0,k1,k2,k3,k4,k5]) (by intro q hq;simp only[Ad,Ac]at hq;have:q=0\/q=1\/q=2\/q=3\/q=4\/q=5:=om;rcases this with rfl|rfl|rfl|rfl|rfl|rfl<;>simp[k0,k1,k2,k3,k4]) leaf (by intro i hi;simp at hi;subst hi;exact⟨_,_,_,by assumption⟩) (by intro i hi;simp at hi;rcases hi with rfl|rfl|rfl|rfl|rfl|rfl<;>exact⟨_,by assumption,by simp⟩) (by simp<;>omega) (by intro i hi;simp at hi;omega) (by simp only[aG,Ad,Ac];omega);generalize hord:[0,1,2,3,4,5]++([6]++(List.range' 7 d.length++[]))=ord at hr;have hA:ord=([0,1,2,3,4,5]++[6])++(List.range' 7 d.length++[]):=by rw[<-hord,Am]
  have pk:∀i j,ord[j]? =some i->aI ord i=some j:=fun i j h1=>dC (by rw[<-hr];exact bP aG h _ [] sm) h1;have p0:=pk (0) 0 (by rw[<-hord];rfl);have p1:=pk (1) 1 (by rw[<-hord];rfl);have p2:=pk (2) 2 (by rw[<-hord];rfl);have p3:=pk (3) 3 (by rw[<-hord];rfl);have p4:=pk (4) 4 (by rw[<-hord];rfl);have p5:=pk (5) 5 (by rw[<-hord];rfl);have p6:=pk (6) 6 (by rw[<-hord];rfl);have pr:=iL (C:=7) pk hA rfl;obtain⟨K,hK⟩:∃K:H,O.box [.d y1,.d y2]::.box [.d x0,.sl 3 0 0 0,.sl 4 0 0 0]::.box [.d x1,.sl 5 0 0 k,.sl 6 0 0 z]::.arr [] 0 0::.arr [] 0 0::.vec (aC 7 d++aF 0) 1 0::.arr cs 1 0::aH d=K:=⟨_,rfl⟩
  have hni:∀f,aE f (aF 0)=aF 0:=fun _=>rfl
  have hpk:pack h ord=K:=by
   have hrf:aE (aI ord) (aC 7 d)=aC 7 d:=eB (c:=0) pr;rw[kD hA gr,<-hK];simp only[Av,Ao,Ah,Ap,Aa,g0,g1,g2,g3,g4,g5,g6,Bb,mapO,aE,mapA,cM,hrf,hni,p3,p4,p5,p6,Ai]
  have hKD:K.drop 7=aH d++[]:=by rw[<-hK];exact(Ai _).symm
  have hgr:=mR hKD
  have hcm:cC 0 K=.box [.d y1,.d y2]::.box [.d x0,.sl 3 0 0 0,.sl 4 0 0 0]::.box [.d x1,.sl 5 0 0 k,.sl 6 0 0 z]::.arr [] 0 0::.arr [] 0 0::.vec (aC 7 d++aF 0) 1 0::.arr cs 1 0::aH d:=by
   have hrf:aR 0 K (aC 7 d)=aC 7 d:=eW hgr;have hnc:∀h:H,aR 0 h (aF 0)=aF 0:=fun _=>rfl;have q3:aX K 3=some 0:=by rw[<-hK];rfl
   have q4:aX K 4=some 0:=by rw[<-hK];rfl
   have q5:aX K 5=some 0:=by rw[<-hK];rfl
   have q6:aX K 6=some 0:=by rw[<-hK];rfl
   unfold cC;rw[eX]
   conv=>lhs;arg 2;rw[<-hK]
   simp only[Ah,bT,aR,bI,gI,dZ,hrf,hnc,fM,q3,q4,q5,q6,Bw,if_false,if_true]
  subst hK;rw[S6 hh hids,OM (ord:=ord) (by rw[hids];exact hr),hpk,hcm]
  have hmp:aE (aI ord) (tidy m s)=tidy m s:=by
   apply eU;rw[hids];intro i hi;simp only[At,Bo,or_false]at hi
   rcases hi with rfl|rfl|rfl
   ·exact p0
   ·exact p1
   ·exact p2
  rw[hmp]
 ·rfl
theorem aPW{m:List Bool}{s:List A}{y1 y2 x0 x1:D}{k z g:Nat}{cr cs:List D}{d:List (List Int)}{p:H}(hl:d.length<=4294967296):gc 1 m s (.box [.d y1,.d y2]::.box [.d x0,.sl 4 0 0 0,.sl 5 0 0 0]::.box [.d x1,.sl 6 0 0 k,.sl 7 0 0 z]::.arr cr 1 g::.arr [] 0 0::.arr [] 0 0::.vec (aC 8 d++aF 0) 1 0::.arr cs 1 0::(aH d++p))=match box (tidy m s)with
  |.mk s1=>if idsL s1=[0,1,2,3]then(aR 0 (.box [.d y1,.d y2]::.box [.d x0,.sl 4 0 0 0,.sl 5 0 0 0]::.box [.d x1,.sl 6 0 0 k,.sl 7 0 0 z]::.arr cr 1 g::.arr [] 0 0::.arr [] 0 0::.vec (aC 8 d++aF 0) 1 0::.arr cs 1 0::aH d) (s1),.box [.d y1,.d y2]::.box [.d x0,.sl 4 0 0 0,.sl 5 0 0 0]::.box [.d x1,.sl 6 0 0 k,.sl 7 0 0 z]::.arr cr 1 0::.arr [] 0 0::.arr [] 0 0::.vec (aC 8 d++aF 0) 1 0::.arr cs 1 0::aH d)else gcO 1 m s (.box [.d y1,.d y2]::.box [.d x0,.sl 4 0 0 0,.sl 5 0 0 0]::.box [.d x1,.sl 6 0 0 k,.sl 7 0 0 z]::.arr cr 1 g::.arr [] 0 0::.arr [] 0 0::.vec (aC 8 d++aF 0) 1 0::.arr cs 1 0::(aH d++p))
  |.no=>([],[]):=by
 simp only[box]
 split
 ·rename_i hc
  have hb:=hc;have hids:idsL (tidy m s)=[0,1,2,3]:=by exact hb
  obtain⟨h,hh⟩:∃h:H,O.box [.d y1,.d y2]::.box [.d x0,.sl 4 0 0 0,.sl 5 0 0 0]::.box [.d x1,.sl 6 0 0 k,.sl 7 0 0 z]::.arr cr 1 g::.arr [] 0 0::.arr [] 0 0::.vec (aC 8 d++aF 0) 1 0::.arr cs 1 0::(aH d++p)=h:=⟨_,rfl⟩
  conv=>lhs;rw[hh]
  have g0:h[0]? =some (.box [.d y1,.d y2]):=by rw[<-hh];rfl
  have g1:h[1]? =some (.box [.d x0,.sl 4 0 0 0,.sl 5 0 0 0]):=by rw[<-hh];rfl
  have g2:h[2]? =some (.box [.d x1,.sl 6 0 0 k,.sl 7 0 0 z]):=by rw[<-hh];rfl
  have g3:h[3]? =some (.arr cr 1 g):=by rw[<-hh];rfl
  have g4:h[4]? =some (.arr [] 0 0):=by rw[<-hh];rfl
  have g5:h[5]? =some (.arr [] 0 0):=by rw[<-hh];rfl
  have g6:h[6]? =some (.vec (aC 8 d++aF 0) 1 0):=by rw[<-hh];rfl
  have g7:h[7]? =some (.arr cs 1 0):=by rw[<-hh];rfl
  have hD:h.drop 8=aH d++p:=by rw[<-hh];rfl
  have gr:=gZ 8 hD;have k0:kids h (0)=[]:=by simp[kids,g0,idsL,idsA]
  have k1:kids h (1)=[4,5]:=by simp[kids,g1,idsL,idsA]
  have k2:kids h (2)=[6,7]:=by simp[kids,g2,idsL,idsA]
  have k3:kids h (3)=[]:=bJ g3;have k4:kids h (4)=[]:=bJ g4;have k5:kids h (5)=[]:=bJ g5;have k6:kids h (6)=List.range' 8 d.length:=by simp[kids,g6,bH,bQ,cW]
  have leaf:=iK gr;have hr:aD aG h [0,1,2,3] []=[0,1,2,3,4,5,6]++([7]++(List.range' 8 d.length++[])):=fH (by simp[k0,k1,k2,k3,k4,k5,k6]) (by intro q hq;simp only[Ad,Ac]at hq;have:q=0\/q=1\/q=2\/q=3\/q=4\/q=5\/q=6:=om;rcases this with rfl|rfl|rfl|rfl|rfl|rfl|rfl<;>simp[k0,k1,k2,k3,k4,k5]) leaf (by intro i hi;simp at hi;subst hi;exact⟨_,_,_,by assumption⟩) (by intro i hi;simp at hi;rcases hi with rfl|rfl|rfl|rfl|rfl|rfl|rfl<;>exact⟨_,by assumption,by simp⟩) (by simp<;>omega) (by intro i hi;simp at hi;omega) (by simp only[aG,Ad,Ac];omega);generalize hord:[0,1,2,3,4,5,6]++([7]++(List.range' 8 d.length++[]))=ord at hr;have hA:ord=([0,1,2,3,4,5,6]++[7])++(List.range' 8 d.length++[]):=by rw[<-hord,Am]
  have pk:∀i j,ord[j]? =some i->aI ord i=some j:=fun i j h1=>dC (by rw[<-hr];exact bP aG h _ [] sm) h1;have p0:=pk (0) 0 (by rw[<-hord];rfl);have p1:=pk (1) 1 (by rw[<-hord];rfl);have p2:=pk (2) 2 (by rw[<-hord];rfl);have p3:=pk (3) 3 (by rw[<-hord];rfl);have p4:=pk (4) 4 (by rw[<-hord];rfl);have p5:=pk (5) 5 (by rw[<-hord];rfl);have p6:=pk (6) 6 (by rw[<-hord];rfl);have p7:=pk (7) 7 (by rw[<-hord];rfl);have pr:=iL (C:=8) pk hA rfl;obtain⟨K,hK⟩:∃K:H,O.box [.d y1,.d y2]::.box [.d x0,.sl 4 0 0 0,.sl 5 0 0 0]::.box [.d x1,.sl 6 0 0 k,.sl 7 0 0 z]::.arr cr 1 g::.arr [] 0 0::.arr [] 0 0::.vec (aC 8 d++aF 0) 1 0::.arr cs 1 0::aH d=K:=⟨_,rfl⟩
  have hni:∀f,aE f (aF 0)=aF 0:=fun _=>rfl
  have hpk:pack h ord=K:=by
   have hrf:aE (aI ord) (aC 8 d)=aC 8 d:=eB (c:=0) pr;rw[kD hA gr,<-hK];simp only[Av,Ao,Ah,Ap,Aa,g0,g1,g2,g3,g4,g5,g6,g7,Bb,mapO,aE,mapA,cM,hrf,hni,p4,p5,p6,p7,Ai]
  have hKD:K.drop 8=aH d++[]:=by rw[<-hK];exact(Ai _).symm
  have hgr:=mR hKD
  have hcm:cC 0 K=.box [.d y1,.d y2]::.box [.d x0,.sl 4 0 0 0,.sl 5 0 0 0]::.box [.d x1,.sl 6 0 0 k,.sl 7 0 0 z]::.arr cr 1 0::.arr [] 0 0::.arr [] 0 0::.vec (aC 8 d++aF 0) 1 0::.arr cs 1 0::aH d:=by
   have hrf:aR 0 K (aC 8 d)=aC 8 d:=eW hgr;have hnc:∀h:H,aR 0 h (aF 0)=aF 0:=fun _=>rfl;have q3:aX K 3=some g:=by rw[<-hK];rfl
   have q4:aX K 4=some 0:=by rw[<-hK];rfl
   have q5:aX K 5=some 0:=by rw[<-hK];rfl
   have q6:aX K 6=some 0:=by rw[<-hK];rfl
   have q7:aX K 7=some 0:=by rw[<-hK];rfl
   unfold cC;rw[eX]
   conv=>lhs;arg 2;rw[<-hK]
   simp only[Ah,bT,aR,bI,gI,dZ,hrf,hnc,fM,q4,q5,q6,q7,Bw,if_false,if_true]
  subst hK;rw[S6 hh hids,OM (ord:=ord) (by rw[hids];exact hr),hpk,hcm]
  have hmp:aE (aI ord) (tidy m s)=tidy m s:=by
   apply eU;rw[hids];intro i hi;simp only[At,Bo,or_false]at hi
   rcases hi with rfl|rfl|rfl|rfl
   ·exact p0
   ·exact p1
   ·exact p2
   ·exact p3
  rw[hmp]
 ·rfl
theorem aNF{m:List Bool}{s:List A}{y1 y2 x0 x1:D}{k z g:Nat}{cr cs:List D}{d:List (List Int)}(hl:d.length<=4294967296):gc 1 m s (.box [.d y1,.d y2]::.box [.d x0,.sl 4 0 0 0,.sl 5 0 0 0]::.box [.d x1,.sl 6 0 0 k,.sl 7 0 0 z]::.arr cr 1 g::.arr [] 0 0::.arr [] 0 0::.vec (aC 8 d++aF 0) 1 0::.arr cs 1 0::aH d)=match box (tidy m s)with
  |.mk s1=>if idsL s1=[0,1,2,3]then(aR 0 (.box [.d y1,.d y2]::.box [.d x0,.sl 4 0 0 0,.sl 5 0 0 0]::.box [.d x1,.sl 6 0 0 k,.sl 7 0 0 z]::.arr cr 1 g::.arr [] 0 0::.arr [] 0 0::.vec (aC 8 d++aF 0) 1 0::.arr cs 1 0::aH d) (s1),.box [.d y1,.d y2]::.box [.d x0,.sl 4 0 0 0,.sl 5 0 0 0]::.box [.d x1,.sl 6 0 0 k,.sl 7 0 0 z]::.arr cr 1 0::.arr [] 0 0::.arr [] 0 0::.vec (aC 8 d++aF 0) 1 0::.arr cs 1 0::aH d)else gcO 1 m s (.box [.d y1,.d y2]::.box [.d x0,.sl 4 0 0 0,.sl 5 0 0 0]::.box [.d x1,.sl 6 0 0 k,.sl 7 0 0 z]::.arr cr 1 g::.arr [] 0 0::.arr [] 0 0::.vec (aC 8 d++aF 0) 1 0::.arr cs 1 0::aH d)
  |.no=>([],[]):=by
 simp only[box]
 split
 ·rename_i hc
  have hb:=hc;have hids:idsL (tidy m s)=[0,1,2,3]:=by exact hb
  obtain⟨h,hh⟩:∃h:H,O.box [.d y1,.d y2]::.box [.d x0,.sl 4 0 0 0,.sl 5 0 0 0]::.box [.d x1,.sl 6 0 0 k,.sl 7 0 0 z]::.arr cr 1 g::.arr [] 0 0::.arr [] 0 0::.vec (aC 8 d++aF 0) 1 0::.arr cs 1 0::aH d=h:=⟨_,rfl⟩
  conv=>lhs;rw[hh]
  have g0:h[0]? =some (.box [.d y1,.d y2]):=by rw[<-hh];rfl
  have g1:h[1]? =some (.box [.d x0,.sl 4 0 0 0,.sl 5 0 0 0]):=by rw[<-hh];rfl
  have g2:h[2]? =some (.box [.d x1,.sl 6 0 0 k,.sl 7 0 0 z]):=by rw[<-hh];rfl
  have g3:h[3]? =some (.arr cr 1 g):=by rw[<-hh];rfl
  have g4:h[4]? =some (.arr [] 0 0):=by rw[<-hh];rfl
  have g5:h[5]? =some (.arr [] 0 0):=by rw[<-hh];rfl
  have g6:h[6]? =some (.vec (aC 8 d++aF 0) 1 0):=by rw[<-hh];rfl
  have g7:h[7]? =some (.arr cs 1 0):=by rw[<-hh];rfl
  have hD:h.drop 8=aH d++[]:=by rw[<-hh];exact(Ai _).symm
  have gr:=gZ 8 hD;have k0:kids h (0)=[]:=by simp[kids,g0,idsL,idsA]
  have k1:kids h (1)=[4,5]:=by simp[kids,g1,idsL,idsA]
  have k2:kids h (2)=[6,7]:=by simp[kids,g2,idsL,idsA]
  have k3:kids h (3)=[]:=bJ g3;have k4:kids h (4)=[]:=bJ g4;have k5:kids h (5)=[]:=bJ g5;have k6:kids h (6)=List.range' 8 d.length:=by simp[kids,g6,bH,bQ,cW]
  have leaf:=iK gr;have hr:aD aG h [0,1,2,3] []=[0,1,2,3,4,5,6]++([7]++(List.range' 8 d.length++[])):=fH (by simp[k0,k1,k2,k3,k4,k5,k6]) (by intro q hq;simp only[Ad,Ac]at hq;have:q=0\/q=1\/q=2\/q=3\/q=4\/q=5\/q=6:=om;rcases this with rfl|rfl|rfl|rfl|rfl|rfl|rfl<;>simp[k0,k1,k2,k3,k4,k5]) leaf (by intro i hi;simp at hi;subst hi;exact⟨_,_,_,by assumption⟩) (by intro i hi;simp at hi;rcases hi with rfl|rfl|rfl|rfl|rfl|rfl|rfl<;>exact⟨_,by assumption,by simp⟩) (by simp<;>omega) (by intro i hi;simp at hi;omega) (by simp only[aG,Ad,Ac];omega);generalize hord:[0,1,2,3,4,5,6]++([7]++(List.range' 8 d.length++[]))=ord at hr;have hA:ord=([0,1,2,3,4,5,6]++[7])++(List.range' 8 d.length++[]):=by rw[<-hord,Am]
  have pk:∀i j,ord[j]? =some i->aI ord i=some j:=fun i j h1=>dC (by rw[<-hr];exact bP aG h _ [] sm) h1;have p0:=pk (0) 0 (by rw[<-hord];rfl);have p1:=pk (1) 1 (by rw[<-hord];rfl);have p2:=pk (2) 2 (by rw[<-hord];rfl);have p3:=pk (3) 3 (by rw[<-hord];rfl);have p4:=pk (4) 4 (by rw[<-hord];rfl);have p5:=pk (5) 5 (by rw[<-hord];rfl);have p6:=pk (6) 6 (by rw[<-hord];rfl);have p7:=pk (7) 7 (by rw[<-hord];rfl);have pr:=iL (C:=8) pk hA rfl;obtain⟨K,hK⟩:∃K:H,O.box [.d y1,.d y2]::.box [.d x0,.sl 4 0 0 0,.sl 5 0 0 0]::.box [.d x1,.sl 6 0 0 k,.sl 7 0 0 z]::.arr cr 1 g::.arr [] 0 0::.arr [] 0 0::.vec (aC 8 d++aF 0) 1 0::.arr cs 1 0::aH d=K:=⟨_,rfl⟩
  have hni:∀f,aE f (aF 0)=aF 0:=fun _=>rfl
  have hpk:pack h ord=K:=by
   have hrf:aE (aI ord) (aC 8 d)=aC 8 d:=eB (c:=0) pr;rw[kD hA gr,<-hK];simp only[Av,Ao,Ah,Ap,Aa,g0,g1,g2,g3,g4,g5,g6,g7,Bb,mapO,aE,mapA,cM,hrf,hni,p4,p5,p6,p7,Ai]
  have hKD:K.drop 8=aH d++[]:=by rw[<-hK];exact(Ai _).symm
  have hgr:=mR hKD
  have hcm:cC 0 K=.box [.d y1,.d y2]::.box [.d x0,.sl 4 0 0 0,.sl 5 0 0 0]::.box [.d x1,.sl 6 0 0 k,.sl 7 0 0 z]::.arr cr 1 0::.arr [] 0 0::.arr [] 0 0::.vec (aC 8 d++aF 0) 1 0::.arr cs 1 0::aH d:=by
   have hrf:aR 0 K (aC 8 d)=aC 8 d:=eW hgr;have hnc:∀h:H,aR 0 h (aF 0)=aF 0:=fun _=>rfl;have q3:aX K 3=some g:=by rw[<-hK];rfl
   have q4:aX K 4=some 0:=by rw[<-hK];rfl
   have q5:aX K 5=some 0:=by rw[<-hK];rfl
   have q6:aX K 6=some 0:=by rw[<-hK];rfl
   have q7:aX K 7=some 0:=by rw[<-hK];rfl
   unfold cC;rw[eX]
   conv=>lhs;arg 2;rw[<-hK]
   simp only[Ah,bT,aR,bI,gI,dZ,hrf,hnc,fM,q4,q5,q6,q7,Bw,if_false,if_true]
  subst hK;rw[S6 hh hids,OM (ord:=ord) (by rw[hids];exact hr),hpk,hcm]
  have hmp:aE (aI ord) (tidy m s)=tidy m s:=by
   apply eU;rw[hids];intro i hi;simp only[At,Bo,or_false]at hi
   rcases hi with rfl|rfl|rfl|rfl
   ·exact p0
   ·exact p1
   ·exact p2
   ·exact p3
  rw[hmp]
 ·rfl
def IM(n:Nat)(ids:List Nat):Bool:=decide (ids=[0,1,2,n+7])
theorem aHr{n:Nat}{ke0:Nat}(he0:ke0=n+7):IM n [0,1,2,ke0]=true:=by subst he0;simp[IM]
def iV(n i:Nat):Option Nat:=if i=0 then some 0 else if i=1 then some 1 else if i=2 then some 2 else if i=n+7 then some 3 else none
theorem SL{n:Nat}:iV n 0=some (0):=by unfold iV;repeat (first|rfl|rw[if_pos rfl]|rw[if_neg om])
theorem S4{n:Nat}:iV n 1=some (1):=by unfold iV;repeat (first|rfl|rw[if_pos rfl]|rw[if_neg om])
theorem UT{n:Nat}:iV n 2=some (2):=by unfold iV;repeat (first|rfl|rw[if_pos rfl]|rw[if_neg om])
theorem PR{n k:Nat}(h:k=n+7):iV n k=some (3):=by subst h;unfold iV;repeat (first|rfl|rw[if_pos rfl]|rw[if_neg om])
theorem aPs{m:List Bool}{s:List A}{y1 y2 x0 x1:D}{k z:Nat}{cs:List D}{d:List (List Int)}{p:H}(hl:d.length<=4294967296):gc 1 m s (.box [.d y1,.d y2]::.box [.d x0,.sl 3 0 0 0,.sl 4 0 0 0]::.box [.d x1,.sl 5 0 0 k,.sl 6 0 0 z]::.arr [] 0 0::.arr [] 0 0::.vec (aC 7 d++aF 0) 1 0::.arr cs 1 0::(aH d++.arr [] 1 0::p))=match box (tidy m s)with
  |.mk s1=>if IM d.length (idsL s1)=true then(aR 0 (.box [.d y1,.d y2]::.box [.d x0,.sl 4 0 0 0,.sl 5 0 0 0]::.box [.d x1,.sl 6 0 0 k,.sl 7 0 0 z]::.arr [] 1 0::.arr [] 0 0::.arr [] 0 0::.vec (aC 8 d++aF 0) 1 0::.arr cs 1 0::aH d) (aE (iV d.length) s1),.box [.d y1,.d y2]::.box [.d x0,.sl 4 0 0 0,.sl 5 0 0 0]::.box [.d x1,.sl 6 0 0 k,.sl 7 0 0 z]::.arr [] 1 0::.arr [] 0 0::.arr [] 0 0::.vec (aC 8 d++aF 0) 1 0::.arr cs 1 0::aH d)else gcO 1 m s (.box [.d y1,.d y2]::.box [.d x0,.sl 3 0 0 0,.sl 4 0 0 0]::.box [.d x1,.sl 5 0 0 k,.sl 6 0 0 z]::.arr [] 0 0::.arr [] 0 0::.vec (aC 7 d++aF 0) 1 0::.arr cs 1 0::(aH d++.arr [] 1 0::p))
  |.no=>([],[]):=by
 simp only[box]
 split
 ·rename_i hc
  have hb:=hc;have hids:idsL (tidy m s)=[0,1,2,d.length+7]:=by simpa [IM]using hb
  obtain⟨h,hh⟩:∃h:H,O.box [.d y1,.d y2]::.box [.d x0,.sl 3 0 0 0,.sl 4 0 0 0]::.box [.d x1,.sl 5 0 0 k,.sl 6 0 0 z]::.arr [] 0 0::.arr [] 0 0::.vec (aC 7 d++aF 0) 1 0::.arr cs 1 0::(aH d++.arr [] 1 0::p)=h:=⟨_,rfl⟩
  conv=>lhs;rw[hh]
  have g0:h[0]? =some (.box [.d y1,.d y2]):=by rw[<-hh];rfl
  have g1:h[1]? =some (.box [.d x0,.sl 3 0 0 0,.sl 4 0 0 0]):=by rw[<-hh];rfl
  have g2:h[2]? =some (.box [.d x1,.sl 5 0 0 k,.sl 6 0 0 z]):=by rw[<-hh];rfl
  have g3:h[3]? =some (.arr [] 0 0):=by rw[<-hh];rfl
  have g4:h[4]? =some (.arr [] 0 0):=by rw[<-hh];rfl
  have g5:h[5]? =some (.vec (aC 7 d++aF 0) 1 0):=by rw[<-hh];rfl
  have g6:h[6]? =some (.arr cs 1 0):=by rw[<-hh];rfl
  have hD:h.drop 7=aH d++(.arr [] 1 0::p):=by rw[<-hh];rfl
  have gr:=gZ 7 hD;have ge0:h[d.length+7]? =some (.arr [] 1 0):=vJ 7 0 hD rfl om;have k0:kids h (0)=[]:=by simp[kids,g0,idsL,idsA]
  have k1:kids h (1)=[3,4]:=by simp[kids,g1,idsL,idsA]
  have k2:kids h (2)=[5,6]:=by simp[kids,g2,idsL,idsA]
  have ke0:kids h (d.length+7)=[]:=bJ ge0;have k3:kids h (3)=[]:=bJ g3;have k4:kids h (4)=[]:=bJ g4;have k5:kids h (5)=List.range' 7 d.length:=by simp[kids,g5,bH,bQ,cW]
  have leaf:=iK gr;have hr:aD aG h [0,1,2,d.length+7] []=[0,1,2,d.length+7,3,4,5]++([6]++(List.range' 7 d.length++[])):=fH (by simp[k0,k1,k2,ke0,k3,k4,k5]) (by intro q hq;simp only[Ad,Ac]at hq;have:q=0\/q=1\/q=2\/q=3\/q=4\/q=5\/q=6:=om;rcases this with rfl|rfl|rfl|rfl|rfl|rfl|rfl<;>simp[k0,k1,k2,ke0,k3,k4]) leaf (by intro i hi;simp at hi;subst hi;exact⟨_,_,_,by assumption⟩) (by intro i hi;simp at hi;rcases hi with rfl|rfl|rfl|rfl|rfl|rfl|rfl<;>exact⟨_,by assumption,by simp⟩) (by simp<;>omega) (by intro i hi;simp at hi;omega) (by simp only[aG,Ad,Ac];omega);generalize hord:[0,1,2,d.length+7,3,4,5]++([6]++(List.range' 7 d.length++[]))=ord at hr;have hA:ord=([0,1,2,d.length+7,3,4,5]++[6])++(List.range' 7 d.length++[]):=by rw[<-hord,Am]
  have pk:∀i j,ord[j]? =some i->aI ord i=some j:=fun i j h1=>dC (by rw[<-hr];exact bP aG h _ [] sm) h1;have p0:=pk (0) 0 (by rw[<-hord];rfl);have p1:=pk (1) 1 (by rw[<-hord];rfl);have p2:=pk (2) 2 (by rw[<-hord];rfl);have pe0:=pk (d.length+7) 3 (by rw[<-hord];rfl);have p3:=pk (3) 4 (by rw[<-hord];rfl);have p4:=pk (4) 5 (by rw[<-hord];rfl);have p5:=pk (5) 6 (by rw[<-hord];rfl);have p6:=pk (6) 7 (by rw[<-hord];rfl);have pr:=iL (C:=8) pk hA rfl;obtain⟨K,hK⟩:∃K:H,O.box [.d y1,.d y2]::.box [.d x0,.sl 4 0 0 0,.sl 5 0 0 0]::.box [.d x1,.sl 6 0 0 k,.sl 7 0 0 z]::.arr [] 1 0::.arr [] 0 0::.arr [] 0 0::.vec (aC 8 d++aF 0) 1 0::.arr cs 1 0::aH d=K:=⟨_,rfl⟩
  have hni:∀f,aE f (aF 0)=aF 0:=fun _=>rfl
  have hpk:pack h ord=K:=by
   have hrf:aE (aI ord) (aC 7 d)=aC 8 d:=eB (c:=0) pr;rw[kD hA gr,<-hK];simp only[Av,Ao,Ah,Ap,Aa,g0,g1,g2,ge0,g3,g4,g5,g6,Bb,mapO,aE,mapA,cM,hrf,hni,p3,p4,p5,p6,Ai]
  have hKD:K.drop 8=aH d++[]:=by rw[<-hK];exact(Ai _).symm
  have hgr:=mR hKD
  have hcm:cC 0 K=.box [.d y1,.d y2]::.box [.d x0,.sl 4 0 0 0,.sl 5 0 0 0]::.box [.d x1,.sl 6 0 0 k,.sl 7 0 0 z]::.arr [] 1 0::.arr [] 0 0::.arr [] 0 0::.vec (aC 8 d++aF 0) 1 0::.arr cs 1 0::aH d:=by
   have hrf:aR 0 K (aC 8 d)=aC 8 d:=eW hgr;have hnc:∀h:H,aR 0 h (aF 0)=aF 0:=fun _=>rfl;have q3:aX K 3=some 0:=by rw[<-hK];rfl
   have q4:aX K 4=some 0:=by rw[<-hK];rfl
   have q5:aX K 5=some 0:=by rw[<-hK];rfl
   have q6:aX K 6=some 0:=by rw[<-hK];rfl
   have q7:aX K 7=some 0:=by rw[<-hK];rfl
   unfold cC;rw[eX]
   conv=>lhs;arg 2;rw[<-hK]
   simp only[Ah,bT,aR,bI,gI,dZ,hrf,hnc,fM,q4,q5,q6,q7,Bw,if_false,if_true]
  subst hK;rw[S6 hh hids,OM (ord:=ord) (by rw[hids];exact hr),hpk,hcm]
  have hmp:aE (aI ord) (tidy m s)=aE (iV d.length) (tidy m s):=by
   apply j5;rw[hids];intro i hi;simp only[At,Bo,or_false]at hi
   rcases hi with rfl|rfl|rfl|rfl
   ·rw[p0,SL]
   ·rw[p1,S4]
   ·rw[p2,UT]
   ·rw[pe0,PR rfl]
  rw[hmp]
 ·rfl
def vE(n:Nat):List Nat:=[0,5,6]++(List.range' 7 n++[])
def ER(n i:Nat):Option Nat:=if i=0 then some 0 else if i=5 then some 1 else if i=6 then some 2 else none
theorem aEN{n:Nat}:ER n 5=some (1):=by unfold ER;repeat (first|rfl|rw[if_pos rfl]|rw[if_neg om])
theorem aD7{n:Nat}:ER n 6=some (2):=by unfold ER;repeat (first|rfl|rw[if_pos rfl]|rw[if_neg om])
theorem aL9{y1 y2:D}{x0 x1 o3 o4:O}{cs:List D}{d:List (List Int)}(hl:d.length<=4294967296){ids:List Nat}:c7 1 (.box [.d y1,.d y2]::x0::x1::o3::o4::.vec (aC 7 d++aF 0) 1 0::.arr cs 1 0::aH d) ids=if ids=[5,6]then vE d.length else aOD 1 (.box [.d y1,.d y2]::x0::x1::o3::o4::.vec (aC 7 d++aF 0) 1 0::.arr cs 1 0::aH d) ids:=by
 split
 ·rename_i hc
  subst hc;rw[aG1];obtain⟨h,hh⟩:∃h:H,O.box [.d y1,.d y2]::x0::x1::o3::o4::.vec (aC 7 d++aF 0) 1 0::.arr cs 1 0::aH d=h:=⟨_,rfl⟩
  conv=>lhs;rw[hh]
  have g0:h[0]? =some (.box [.d y1,.d y2]):=by rw[<-hh];rfl
  have g5:h[5]? =some (.vec (aC 7 d++aF 0) 1 0):=by rw[<-hh];rfl
  have g6:h[6]? =some (.arr cs 1 0):=by rw[<-hh];rfl
  have hD:h.drop 7=aH d++[]:=by rw[<-hh];exact(Ai _).symm
  have gr:=gZ 7 hD;have k0:kids h (0)=[]:=by simp[kids,g0,idsL,idsA]
  have k5:kids h (5)=List.range' 7 d.length:=by simp[kids,g5,bH,bQ,cW]
  have leaf:=iK gr;have hr:aD (aG+1) h [0,5,6] []=[0,5]++([6]++(List.range' 7 d.length++[])):=fH (by simp[k0,k5]) (by intro q hq;simp only[Ad,Ac]at hq;have:q=0\/q=1:=om;rcases this with rfl|rfl<;>simp[k0]) leaf (by intro i hi;simp at hi;subst hi;exact⟨_,_,_,by assumption⟩) (by intro i hi;simp at hi;rcases hi with rfl|rfl<;>exact⟨_,by assumption,by simp⟩) (by simp<;>omega) (by intro i hi;simp at hi;omega) (by simp only[aG,Ad,Ac];omega);generalize hord:[0,5]++([6]++(List.range' 7 d.length++[]))=ord at hr;rw[hr,<-hord];rfl
 ·rfl
theorem aLn{y1 y2:D}{x0 x1 o3 o4:O}{cs:List D}{d:List (List Int)}(hl:d.length<=4294967296){s:List A}:trim 1 (.box [.d y1,.d y2]::x0::x1::o3::o4::.vec (aC 7 d++aF 0) 1 0::.arr cs 1 0::aH d) (vE d.length) s=if idsL s=[5,6]/\z0As s=true then(aE (ER d.length) s,.box [.d y1,.d y2]::.vec (aC 3 d++aF 0) 1 0::.arr cs 1 0::aH d)else aOF 1 (.box [.d y1,.d y2]::x0::x1::o3::o4::.vec (aC 7 d++aF 0) 1 0::.arr cs 1 0::aH d) (vE d.length) s:=by
 split
 ·rename_i hc
  obtain⟨hids,hz⟩:=hc;rw[show vE d.length=0::(vE d.length).tail from rfl,aDf,show(0::(vE d.length).tail)=vE d.length from rfl];obtain⟨h,hh⟩:∃h:H,O.box [.d y1,.d y2]::x0::x1::o3::o4::.vec (aC 7 d++aF 0) 1 0::.arr cs 1 0::aH d=h:=⟨_,rfl⟩
  conv=>lhs;rw[hh]
  have g0:h[0]? =some (.box [.d y1,.d y2]):=by rw[<-hh];rfl
  have g5:h[5]? =some (.vec (aC 7 d++aF 0) 1 0):=by rw[<-hh];rfl
  have g6:h[6]? =some (.arr cs 1 0):=by rw[<-hh];rfl
  have hD:h.drop 7=aH d++[]:=by rw[<-hh];exact(Ai _).symm
  have gr:=gZ 7 hD;have k0:kids h (0)=[]:=by simp[kids,g0,idsL,idsA]
  have k5:kids h (5)=List.range' 7 d.length:=by simp[kids,g5,bH,bQ,cW]
  have leaf:=iK gr;have hr:aD aG h [0,5,6] []=[0,5]++([6]++(List.range' 7 d.length++[])):=fH (by simp[k0,k5]) (by intro q hq;simp only[Ad,Ac]at hq;have:q=0\/q=1:=om;rcases this with rfl|rfl<;>simp[k0]) leaf (by intro i hi;simp at hi;subst hi;exact⟨_,_,_,by assumption⟩) (by intro i hi;simp at hi;rcases hi with rfl|rfl<;>exact⟨_,by assumption,by simp⟩) (by simp<;>omega) (by intro i hi;simp at hi;omega) (by simp only[aG,Ad,Ac];omega);generalize hord:[0,5]++([6]++(List.range' 7 d.length++[]))=ord at hr;have hA:ord=([0,5]++[6])++(List.range' 7 d.length++[]):=by rw[<-hord,Am]
  have pk:∀i j,ord[j]? =some i->aI ord i=some j:=fun i j h1=>dC (by rw[<-hr];exact bP aG h _ [] sm) h1;have p0:=pk (0) 0 (by rw[<-hord];rfl);have p5:=pk (5) 1 (by rw[<-hord];rfl);have p6:=pk (6) 2 (by rw[<-hord];rfl);have pr:=iL (C:=3) pk hA rfl;obtain⟨K,hK⟩:∃K:H,O.box [.d y1,.d y2]::.vec (aC 3 d++aF 0) 1 0::.arr cs 1 0::aH d=K:=⟨_,rfl⟩
  have hni:∀f,aE f (aF 0)=aF 0:=fun _=>rfl
  have hpk:pack h ord=K:=by
   have hrf:aE (aI ord) (aC 7 d)=aC 3 d:=eB (c:=0) pr;rw[kD hA gr,<-hK];simp only[Av,Ao,Ah,Ap,Aa,g0,g5,g6,Bb,mapO,aE,mapA,cM,hrf,hni,Ai]
  have hKD:K.drop 3=aH d++[]:=by rw[<-hK];exact(Ai _).symm
  have hgr:=mR hKD
  have hcm:cC 0 K=.box [.d y1,.d y2]::.vec (aC 3 d++aF 0) 1 0::.arr cs 1 0::aH d:=by
   have hrf:aR 0 K (aC 3 d)=aC 3 d:=eW hgr;have hnc:∀h:H,aR 0 h (aF 0)=aF 0:=fun _=>rfl;have q1:aX K 1=some 0:=by rw[<-hK];rfl
   have q2:aX K 2=some 0:=by rw[<-hK];rfl
   unfold cC;rw[eX]
   conv=>lhs;arg 2;rw[<-hK]
   simp only[Ah,bT,aR,bI,dZ,hrf,hnc,fM,Bw,if_false]
  subst hK;have hoo:vE d.length=ord:=by rw[<-hord];rfl
  unfold trim;rw[hoo,hpk,hcm]
  have hz2:aR 0 (O.box [.d y1,.d y2]::.vec (aC 3 d++aF 0) 1 0::.arr cs 1 0::aH d) (aE (aI ord) s)=aE (aI ord) s:=by
   exact j3 (HH (by simp[z0O,z0As,z0A,y5,vZ,vV,EY])) _ (wY _ hz)
  have hmp:aE (aI ord) s=aE (ER d.length) s:=by
   apply j5;rw[hids];intro i hi;simp only[At,Bo,or_false]at hi
   rcases hi with rfl|rfl
   ·rw[p5,aEN]
   ·rw[p6,aD7]
  rw[hz2,hmp]
 ·rfl
end Ev
end Go.Proofs.YthlkcebdfbjdoaaGreat
