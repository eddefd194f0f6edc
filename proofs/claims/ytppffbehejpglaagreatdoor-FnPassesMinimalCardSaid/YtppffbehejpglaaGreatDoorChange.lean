/-
  Memory of some shapes at the end of a round. Written by a program.
-/
import Derived.Test.YtppffbehejpglaaGreatDoorShRn
import Derived.Test.YtppffbehejpglaaGreatDoorWrongB
import Derived.Test.YtppffbehejpglaaGreatDoorSafe
set_option linter.unusedSimpArgs false
set_option linter.unusedVariables false
set_option maxRecDepth 8000
set_option maxHeartbeats 4000000
namespace Go.Proofs.YtppffbehejpglaaGreatDoor
namespace Ev
def RD(n:Nat)(ids:List Nat):Bool:=decide (ids=[4,n+9])
theorem aQm{n:Nat}{ke2:Nat}(he2:ke2=n+9):RD n [4,ke2]=true:=by subst he2;simp[RD]
def C6(n i:Nat):Option Nat:=if i=0 then some 0 else if i=4 then some 1 else if i=n+9 then some 2 else none
theorem aIs{n:Nat}:C6 n 4=some (1):=by unfold C6;repeat (first|rfl|rw[if_pos rfl]|rw[if_neg om])
theorem aHb{n k:Nat}(h:k=n+9):C6 n k=some (2):=by subst h;unfold C6;repeat (first|rfl|rw[if_pos rfl]|rw[if_neg om])
theorem aWP{m:List Bool}{s:List A}{y1 y2 x0 x1:D}{o1:O}{k z:Nat}{cs:List D}{d:List (List Int)}(hl:d.length<=4294967296):gc 1 m s (.box [.d y1,.d y2]::o1::.arr [] 0 0::.arr [] 0 0::.box [.d x0,.sl 2 0 0 0,.sl 3 0 0 0]::.vec (aC 7 d++aH 0) 1 0::.arr cs 1 0::(aK d++[.arr [] 0 0,.arr [] 0 0,.box [.d x1,.sl 5 0 0 k,.sl 6 0 0 z]]))=match box (tidy m s)with
  |.mk s1=>if RD d.length (idsL s1)=true/\z0As s1=true then(aG (C6 d.length) s1,.box [.d y1,.d y2]::.box [.d x0,.sl 3 0 0 0,.sl 4 0 0 0]::.box [.d x1,.sl 5 0 0 k,.sl 6 0 0 z]::.arr [] 0 0::.arr [] 0 0::.vec (aC 7 d++aH 0) 1 0::.arr cs 1 0::aK d)else gcO 1 m s (.box [.d y1,.d y2]::o1::.arr [] 0 0::.arr [] 0 0::.box [.d x0,.sl 2 0 0 0,.sl 3 0 0 0]::.vec (aC 7 d++aH 0) 1 0::.arr cs 1 0::(aK d++[.arr [] 0 0,.arr [] 0 0,.box [.d x1,.sl 5 0 0 k,.sl 6 0 0 z]]))
  |.no=>([],[]):=by
 simp only[box]
 split
 ·rename_i hc
  obtain⟨hb,hz⟩:=hc;have hids:idsL (tidy m s)=[4,d.length+9]:=by simpa [RD]using hb
  obtain⟨h,hh⟩:∃h:H,O.box [.d y1,.d y2]::o1::.arr [] 0 0::.arr [] 0 0::.box [.d x0,.sl 2 0 0 0,.sl 3 0 0 0]::.vec (aC 7 d++aH 0) 1 0::.arr cs 1 0::(aK d++[.arr [] 0 0,.arr [] 0 0,.box [.d x1,.sl 5 0 0 k,.sl 6 0 0 z]])=h:=⟨_,rfl⟩
  conv=>lhs;rw[hh]
  have g0:h[0]? =some (.box [.d y1,.d y2]):=by rw[<-hh];rfl
  have g2:h[2]? =some (.arr [] 0 0):=by rw[<-hh];rfl
  have g3:h[3]? =some (.arr [] 0 0):=by rw[<-hh];rfl
  have g4:h[4]? =some (.box [.d x0,.sl 2 0 0 0,.sl 3 0 0 0]):=by rw[<-hh];rfl
  have g5:h[5]? =some (.vec (aC 7 d++aH 0) 1 0):=by rw[<-hh];rfl
  have g6:h[6]? =some (.arr cs 1 0):=by rw[<-hh];rfl
  have hD:h.drop 7=aK d++[.arr [] 0 0,.arr [] 0 0,.box [.d x1,.sl 5 0 0 k,.sl 6 0 0 z]]:=by rw[<-hh];rfl
  have gr:=iL 7 hD;have ge2:h[d.length+9]? =some (.box [.d x1,.sl 5 0 0 k,.sl 6 0 0 z]):=zF 7 2 hD rfl om;have k0:kids h (0)=[]:=by simp[kids,g0,idsL,idsA]
  have k4:kids h (4)=[2,3]:=by simp[kids,g4,idsL,idsA]
  have ke2:kids h (d.length+9)=[5,6]:=by simp[kids,ge2,idsL,idsA]
  have k2:kids h (2)=[]:=bQ g2;have k3:kids h (3)=[]:=bQ g3;have k5:kids h (5)=List.range' 7 d.length:=by simp[kids,g5,bN,bZ,c8]
  have leaf:=jJ gr;have hr:aF (aI+1) h [0,4,d.length+9] []=[0,4,d.length+9,2,3,5]++([6]++(List.range' 7 d.length++[])):=fZ (by simp[k0,k4,ke2,k2,k3,k5]) (by intro q hq;simp only[Ae,Ac]at hq;have:q=0\/q=1\/q=2\/q=3\/q=4\/q=5:=om;rcases this with rfl|rfl|rfl|rfl|rfl|rfl<;>simp[k0,k4,ke2,k2,k3]) leaf (by intro i hi;simp at hi;subst hi;exact⟨_,_,_,by assumption⟩) (by intro i hi;simp at hi;rcases hi with rfl|rfl|rfl|rfl|rfl|rfl<;>exact⟨_,by assumption,by simp⟩) (by simp<;>omega) (by intro i hi;simp at hi;omega) (by simp only[aI,Ae,Ac];omega);generalize hord:[0,4,d.length+9,2,3,5]++([6]++(List.range' 7 d.length++[]))=ord at hr;have hA:ord=([0,4,d.length+9,2,3,5]++[6])++(List.range' 7 d.length++[]):=by rw[<-hord,Ao]
  have pk:∀i j,ord[j]? =some i->aJ ord i=some j:=fun i j h1=>dF (by rw[<-hr];exact bW (aI+1) h _ [] smp) h1;have p0:=pk (0) 0 (by rw[<-hord];rfl);have p4:=pk (4) 1 (by rw[<-hord];rfl);have pe2:=pk (d.length+9) 2 (by rw[<-hord];rfl);have p2:=pk (2) 3 (by rw[<-hord];rfl);have p3:=pk (3) 4 (by rw[<-hord];rfl);have p5:=pk (5) 5 (by rw[<-hord];rfl);have p6:=pk (6) 6 (by rw[<-hord];rfl);have pr:=jB (C:=7) pk hA rfl;obtain⟨K,hK⟩:∃K:H,O.box [.d y1,.d y2]::.box [.d x0,.sl 3 0 0 0,.sl 4 0 0 0]::.box [.d x1,.sl 5 0 0 k,.sl 6 0 0 z]::.arr [] 0 0::.arr [] 0 0::.vec (aC 7 d++aH 0) 1 0::.arr cs 1 0::aK d=K:=⟨_,rfl⟩
  have hni:∀f,aG f (aH 0)=aH 0:=fun _=>rfl
  have hpk:pack h ord=K:=by
   have hrf:aG (aJ ord) (aC 7 d)=aC 7 d:=eL (c:=0) pr;rw[lI hA gr,<-hK];simp only[Ax,Aq,Aj,As,Aa,g0,g4,ge2,g2,g3,g5,g6,Bg,mapO,aG,mapA,cR,hrf,hni,p2,p3,p5,p6,Ai]
  have hKD:K.drop 7=aK d++[]:=by rw[<-hK];exact(Ai _).symm
  have hgr:=oK hKD
  have hcm:cJ 0 K=.box [.d y1,.d y2]::.box [.d x0,.sl 3 0 0 0,.sl 4 0 0 0]::.box [.d x1,.sl 5 0 0 k,.sl 6 0 0 z]::.arr [] 0 0::.arr [] 0 0::.vec (aC 7 d++aH 0) 1 0::.arr cs 1 0::aK d:=by
   have hrf:aV 0 K (aC 7 d)=aC 7 d:=fL hgr;have hnc:∀h:H,aV 0 h (aH 0)=aH 0:=fun _=>rfl;have q3:bC K 3=some 0:=by rw[<-hK];rfl
   have q4:bC K 4=some 0:=by rw[<-hK];rfl
   have q5:bC K 5=some 0:=by rw[<-hK];rfl
   have q6:bC K 6=some 0:=by rw[<-hK];rfl
   unfold cJ;rw[fI]
   conv=>lhs;arg 2;rw[<-hK]
   simp only[Aj,b5,aV,bP,iG,eI,hrf,hnc,f9,q3,q4,q5,q6,Cb,if_false,if_true]
  subst hK;rw[aFa hh hids hr,hpk,hcm]
  have hmp:aG (aJ ord) (tidy m s)=aG (C6 d.length) (tidy m s):=by
   apply kZ;rw[hids];intro i hi;simp only[Au,Bv,or_false]at hi
   rcases hi with rfl|rfl
   ·rw[p4,aIs]
   ·rw[pe2,aHb rfl]
  have hz2:aV 0 (O.box [.d y1,.d y2]::.box [.d x0,.sl 3 0 0 0,.sl 4 0 0 0]::.box [.d x1,.sl 5 0 0 k,.sl 6 0 0 z]::.arr [] 0 0::.arr [] 0 0::.vec (aC 7 d++aH 0) 1 0::.arr cs 1 0::aK d) (aG (aJ ord) (tidy m s))=aG (aJ ord) (tidy m s):=by
   exact kN (LL (by simp[z0O,z0As,z0A,DO,yX,yR,MW])) _ (z7 _ hz)
  rw[hz2,hmp]
 ·rfl
theorem aTk{m:List Bool}{s:List A}{y1 y2 x0 x1:D}{k z:Nat}{r:List Int}{cs:List D}{d:List (List Int)}{p:H}(hl:d.length<=4294967296):gc 1 m s (.box [.d y1,.d y2]::.box [.d x0,.sl 3 0 0 0,.sl 4 0 0 0]::.box [.d x1,.sl 5 1 0 k,.sl 6 1 0 z]::.arr [] 0 0::.arr [] 0 0::.vec (aC 7 d++[.sl (d.length+7) 1 0 r.length]) 1 1::.arr cs 1 1::(aK d++.arr (ints r) 1 1::p))=match box (tidy m s)with
  |.mk s1=>if idsL s1=[1,2]then(aV 0 (.box [.d y1,.d y2]::.box [.d x0,.sl 3 0 0 0,.sl 4 0 0 0]::.box [.d x1,.sl 5 1 0 k,.sl 6 1 0 z]::.arr [] 0 0::.arr [] 0 0::.vec (aC 7 d++[.sl (d.length+7) 1 0 r.length]) 1 1::.arr cs 1 1::(aK d++[.arr (ints r) 1 1])) (s1),.box [.d y1,.d y2]::.box [.d x0,.sl 3 0 0 0,.sl 4 0 0 0]::.box [.d x1,.sl 5 0 0 k,.sl 6 0 0 z]::.arr [] 0 0::.arr [] 0 0::.vec (aC 7 d++[.sl (d.length+7) 0 0 r.length]) 1 0::.arr cs 1 0::(aK d++[.arr (ints r) 1 0]))else gcO 1 m s (.box [.d y1,.d y2]::.box [.d x0,.sl 3 0 0 0,.sl 4 0 0 0]::.box [.d x1,.sl 5 1 0 k,.sl 6 1 0 z]::.arr [] 0 0::.arr [] 0 0::.vec (aC 7 d++[.sl (d.length+7) 1 0 r.length]) 1 1::.arr cs 1 1::(aK d++.arr (ints r) 1 1::p))
  |.no=>([],[]):=by
 simp only[box]
 split
 ·rename_i hc
  have hb:=hc;have hids:idsL (tidy m s)=[1,2]:=by exact hb
  obtain⟨h,hh⟩:∃h:H,O.box [.d y1,.d y2]::.box [.d x0,.sl 3 0 0 0,.sl 4 0 0 0]::.box [.d x1,.sl 5 1 0 k,.sl 6 1 0 z]::.arr [] 0 0::.arr [] 0 0::.vec (aC 7 d++[.sl (d.length+7) 1 0 r.length]) 1 1::.arr cs 1 1::(aK d++.arr (ints r) 1 1::p)=h:=⟨_,rfl⟩
  conv=>lhs;rw[hh]
  have g0:h[0]? =some (.box [.d y1,.d y2]):=by rw[<-hh];rfl
  have g1:h[1]? =some (.box [.d x0,.sl 3 0 0 0,.sl 4 0 0 0]):=by rw[<-hh];rfl
  have g2:h[2]? =some (.box [.d x1,.sl 5 1 0 k,.sl 6 1 0 z]):=by rw[<-hh];rfl
  have g3:h[3]? =some (.arr [] 0 0):=by rw[<-hh];rfl
  have g4:h[4]? =some (.arr [] 0 0):=by rw[<-hh];rfl
  have g5:h[5]? =some (.vec (aC 7 d++[.sl (d.length+7) 1 0 r.length]) 1 1):=by rw[<-hh];rfl
  have g6:h[6]? =some (.arr cs 1 1):=by rw[<-hh];rfl
  have hD:h.drop 7=aK d++(.arr (ints r) 1 1::p):=by rw[<-hh];rfl
  have gr:=iL 7 hD;have ge0:h[d.length+7]? =some (.arr (ints r) 1 1):=zF 7 0 hD rfl om;have k0:kids h (0)=[]:=by simp[kids,g0,idsL,idsA]
  have k1:kids h (1)=[3,4]:=by simp[kids,g1,idsL,idsA]
  have k2:kids h (2)=[5,6]:=by simp[kids,g2,idsL,idsA]
  have k3:kids h (3)=[]:=bQ g3;have k4:kids h (4)=[]:=bQ g4;have k5:kids h (5)=List.range' 7 d.length++[d.length+7]:=by simp[kids,g5,bN,bZ,idsL,idsA]
  have leaf:=jJ gr;have hr:aF (aI+1) h [0,1,2] []=[0,1,2,3,4,5]++([6]++(List.range' 7 d.length++[d.length+7])):=fZ (by simp[k0,k1,k2,k3,k4,k5]) (by intro q hq;simp only[Ae,Ac]at hq;have:q=0\/q=1\/q=2\/q=3\/q=4\/q=5:=om;rcases this with rfl|rfl|rfl|rfl|rfl|rfl<;>simp[k0,k1,k2,k3,k4]) leaf (by intro i hi;simp at hi;rcases hi with rfl|rfl<;>exact⟨_,_,_,by assumption⟩) (by intro i hi;simp at hi;rcases hi with rfl|rfl|rfl|rfl|rfl|rfl<;>exact⟨_,by assumption,by simp⟩) (by simp<;>omega) (by intro i hi;simp at hi;omega) (by simp only[aI,Ae,Ac];omega);generalize hord:[0,1,2,3,4,5]++([6]++(List.range' 7 d.length++[d.length+7]))=ord at hr;have hA:ord=([0,1,2,3,4,5]++[6])++(List.range' 7 d.length++[d.length+7]):=by rw[<-hord,Ao]
  have pk:∀i j,ord[j]? =some i->aJ ord i=some j:=fun i j h1=>dF (by rw[<-hr];exact bW (aI+1) h _ [] smp) h1;have p0:=pk (0) 0 (by rw[<-hord];rfl);have p1:=pk (1) 1 (by rw[<-hord];rfl);have p2:=pk (2) 2 (by rw[<-hord];rfl);have p3:=pk (3) 3 (by rw[<-hord];rfl);have p4:=pk (4) 4 (by rw[<-hord];rfl);have p5:=pk (5) 5 (by rw[<-hord];rfl);have p6:=pk (6) 6 (by rw[<-hord];rfl);have pr:=jB (C:=7) pk hA rfl;have pe0:=XX (C:=7) pk hA rfl 0 (i:=d.length+7) (j:=d.length+7) rfl om;obtain⟨K,hK⟩:∃K:H,O.box [.d y1,.d y2]::.box [.d x0,.sl 3 0 0 0,.sl 4 0 0 0]::.box [.d x1,.sl 5 1 0 k,.sl 6 1 0 z]::.arr [] 0 0::.arr [] 0 0::.vec (aC 7 d++[.sl (d.length+7) 1 0 r.length]) 1 1::.arr cs 1 1::(aK d++[.arr (ints r) 1 1])=K:=⟨_,rfl⟩
  have hni:∀f,aG f (aH 0)=aH 0:=fun _=>rfl
  have hpk:pack h ord=K:=by
   have hrf:aG (aJ ord) (aC 7 d)=aC 7 d:=eL (c:=0) pr;rw[lI hA gr,<-hK];simp only[Ax,Aq,Aj,As,Aa,g0,g1,g2,g3,g4,g5,g6,ge0,Bg,mapO,aG,mapA,cR,hrf,p3,p4,p5,p6,pe0]
  have hKD:K.drop 7=aK d++[.arr (ints r) 1 1]:=by rw[<-hK];rfl
  have hgr:=oK hKD;have hge0:bC K (d.length+7)=some 1:=by simp only[bC,zF 7 0 hKD rfl (j:=d.length+7) om]
  have hcm:cJ 0 K=.box [.d y1,.d y2]::.box [.d x0,.sl 3 0 0 0,.sl 4 0 0 0]::.box [.d x1,.sl 5 0 0 k,.sl 6 0 0 z]::.arr [] 0 0::.arr [] 0 0::.vec (aC 7 d++[.sl (d.length+7) 0 0 r.length]) 1 0::.arr cs 1 0::(aK d++[.arr (ints r) 1 0]):=by
   have hrf:aV 0 K (aC 7 d)=aC 7 d:=fL hgr;have hnc:∀h:H,aV 0 h (aH 0)=aH 0:=fun _=>rfl;have q3:bC K 3=some 0:=by rw[<-hK];rfl
   have q4:bC K 4=some 0:=by rw[<-hK];rfl
   have q5:bC K 5=some 1:=by rw[<-hK];rfl
   have q6:bC K 6=some 1:=by rw[<-hK];rfl
   unfold cJ;rw[fI]
   conv=>lhs;arg 2;rw[<-hK]
   simp only[Aj,Cm,As,b5,aV,bP,iG,eI,hrf,f9,q3,q4,q5,q6,hge0,Cb,if_false,if_true]
  subst hK;rw[aFa hh hids hr,hpk,hcm]
  have hmp:aG (aJ ord) (tidy m s)=tidy m s:=by
   apply fF;rw[hids];intro i hi;simp only[Au,Bv,or_false]at hi
   rcases hi with rfl|rfl
   ·exact p1
   ·exact p2
  rw[hmp]
 ·rfl
theorem aVZ{m:List Bool}{s:List A}{y1 y2 x0 x1:D}{k z:Nat}{r:List Int}{cs:List D}{d:List (List Int)}{p:H}(hl:d.length<=4294967296):gc 1 m s (.box [.d y1,.d y2]::.box [.d x0,.sl 3 0 0 0,.sl 4 0 0 0]::.box [.d x1,.sl 5 1 0 k,.sl 6 1 0 z]::.arr [] 0 0::.arr [] 0 0::.vec (aC 7 d++[.sl (d.length+7) 1 0 r.length]) 1 1::.arr cs 1 1::(aK d++.arr (ints r) 1 1::p))=match box (tidy m s)with
  |.mk s1=>if idsL s1=[1,2]then(s1,.box [.d y1,.d y2]::.box [.d x0,.sl 3 0 0 0,.sl 4 0 0 0]::.box [.d x1,.sl 5 0 0 k,.sl 6 0 0 z]::.arr [] 0 0::.arr [] 0 0::.vec (aC 7 (d++[r])++aH 0) 1 0::.arr cs 1 0::aK (d++[r]))else gcO 1 m s (.box [.d y1,.d y2]::.box [.d x0,.sl 3 0 0 0,.sl 4 0 0 0]::.box [.d x1,.sl 5 1 0 k,.sl 6 1 0 z]::.arr [] 0 0::.arr [] 0 0::.vec (aC 7 d++[.sl (d.length+7) 1 0 r.length]) 1 1::.arr cs 1 1::(aK d++.arr (ints r) 1 1::p))
  |.no=>([],[]):=by
 have hn:aH 0=[]:=rfl;rw[aTk hl,<-P6,IQ,hn,Ai,De 7];have hc:=qG (nf:=0) (h:=.box [.d y1,.d y2]::.box [.d x0,.sl 3 0 0 0,.sl 4 0 0 0]::.box [.d x1,.sl 5 1 0 k,.sl 6 1 0 z]::.arr [] 0 0::.arr [] 0 0::.vec (aC 7 d++[.sl (d.length+7) 1 0 r.length]) 1 1::.arr cs 1 1::(aK d++[.arr (ints r) 1 1])) (tidy m s);simp only[box]
 split
 ·rename_i hid
  rw[hc (by rw[hid];intro i hi;simp at hi;rcases hi with rfl|rfl<;>rfl)]
 ·rfl
theorem aNb{α:Type}{d:List α}{x:α}{j:Nat}:d++[x]++List.replicate j x=d++List.replicate (j+1) x:=by
 rw[Ao,Eh];rfl
theorem aHt{R:Type}{L n:Nat}{y1 y2 x0:D}{al n0:Int}(hn0:0<n0){row:List Int}(hrl:row.length<=4294967290){k:KE R}:∀(j m:Nat) (d:List (List Int)) (ac:List Bool) (len len2:Nat) (hj:d.length+j=13\/j=0/\13<=d.length) (hm:j<m) (hd:d[0]? =some row) (hlen:len=d.length) (hlen2:len2=ac.length) (ha:ac.length+j<=4294967290) (hdl:d.length<=4294967290),
  aT env (aA env L n) L 1 (W32 (W32 (W16 (W2 (W1 [1002,0,0,0,0,0,0,0,0,0,0,0,0,0,0,0,0,0,0,0,0,0,1002]))))) Bz22 (AD 0) Bz44 m (Y4 (.ptr 1 0 0::.ptr 2 0 0::nI n0::Y32 (Y32 (Y32 (Y8 (Y2 (Y1 ([])))))))) (.box [.d y1,.d y2]::.box [.d x0,.sl 3 0 0 0,.sl 4 0 0 0]::.box [nI al,.sl 5 0 0 len,.sl 6 0 0 len2]::.arr [] 0 0::.arr [] 0 0::.vec (aC 7 d++aH 0) 1 0::.arr (aD ac) 1 0::aK d) k
  =k (.exit 1) (Y4 (.ptr 1 0 0::.ptr 2 0 0::nI n0::Y32 (Y32 (Y32 (Y8 (Y2 (Y1 ([])))))))) (.box [.d y1,.d y2]::.box [.d x0,.sl 3 0 0 0,.sl 4 0 0 0]::.box [nI al,.sl 5 0 0 (d.length+j),.sl 6 0 0 (ac.length+j)]::.arr [] 0 0::.arr [] 0 0::.vec (aC 7 (d++List.replicate j row)++aH 0) 1 0::.arr (aD (ac++List.replicate j false)) 1 0::aK (d++List.replicate j row)):=by
 intro j
 induction j with
 |zero=>
  intro m d ac len len2 hj hm hd hlen hlen2 ha hdl;obtain _|m:=m;omega;have hc:¬((d.length:Int)<=12):=om;have hdl2:d.length<=4294967296:=om;subst hlen;subst hlen2;simp only[List.replicate_zero,Ai,By]
  simp-implicitDefEqProofs (maxSteps:=9^7) (disch:=try exact Dz) only[↓DN,↓kRet,UP,simprocAttr,hn0,hc,↓JF,z0As,z0A,eq_self,s5,tX,yF,xU,Tryz.f57]
 |succ j ih=>
  intro m d ac len len2 hj hm hd hlen hlen2 ha hdl;obtain _|m:=m;omega;have hc:(d.length:Int)<=12:=om;subst hlen;subst hlen2;have hpos:0<d.length:=(Aw.1 hd).1;have ih':=ih m (d++[row]) (ac++[false]) (d.length+1) (ac.length+1) (by simp;omega) om (by rw[Be hpos];exact hd) smp smp (by simp;omega) (by simp;omega);rw[aNb,aNb]at ih';simp only[Af,Ae,Ac,Ag]at ih';rw[show d.length+1+j=d.length+(j+1) by omega,show ac.length+1+j=ac.length+(j+1) by omega]at ih';clear ih
  have hh0:(aC 7 d++aH 0).head? =some (.sl 7 0 0 row.length):=by
   cases d with
   |nil=>simp at hd
   |cons r d=>simp at hd;subst hd;rfl
  have hlv:(aC 7 d++aH 0).length=d.length:=by rw[Af,gA];rfl
  have ht:(aC 7 d++aH 0).take d.length=aC 7 d:=IM rfl;obtain⟨T0,e0⟩:∃T:H,T=(.box [.d x0,.sl 3 0 0 0,.sl 4 0 0 0]::.box [nI al,.sl 5 0 0 d.length,.sl 6 0 0 ac.length]::.arr [] 0 0::.arr [] 0 0::.vec (aC 7 d++aH 0) 1 0::.arr (aD ac) 1 0::aK d):=⟨_,rfl⟩
  have l0:T0.length=d.length+6:=by rw[e0];simp[cG]
  have t01:T0[1]? =some (.box [nI al,.sl 5 0 0 d.length,.sl 6 0 0 ac.length]):=by rw[e0];rfl
  have t04:T0[4]? =some (.vec (aC 7 d++aH 0) 1 0):=by rw[e0];rfl
  have t05:T0[5]? =some (.arr (aD ac) 1 0):=by rw[e0];rfl
  have t0r:∀(i:Nat) (r:List Int),d[i]? =some r->T0[i+6]? =some (.arr (ints r) 1 0):=by
   intro i r hr;rw[e0];simp only[Ay];have:=I9 (p:=[]) hr
   rwa [Ai]at this
  have w0:wgt T0<=d.length+4:=by
   rw[e0];simp only[mH,J7,dV,idsL,idsA,bN,bZ,c8,Af,Ee,Ae,Ac,Ai];omega
  obtain⟨T1,h1⟩:∃T,T0++[.arr [] 1 0]=T:=⟨_,rfl⟩
  obtain⟨l1,g1,k1⟩:=j3 h1;rw[l0]at l1 g1 k1;have w1:wgt T1=wgt T0:=by rw[<-h1,CX];simp[dV]
  obtain⟨T2,h2⟩:∃T,T1.set (d.length+6) (.arr (ints row) 1 1)=T:=⟨_,rfl⟩
  obtain⟨l2,g2,k2⟩:=cF h2 om;have w2:wgt T2<=wgt T1:=by rw[<-h2];have:=jT (h:=T1) (i:=d.length+6) (o:=.arr (ints row) 1 1);simpa [dV]using this
  obtain⟨T3,h3⟩:∃T,T2++[.vec [.sl (d.length+7) 1 0 row.length] 1 0]=T:=⟨_,rfl⟩
  obtain⟨l3,g3,k3⟩:=j3 h3;rw[l2,l1]at l3 g3 k3;have w3:wgt T3=wgt T2+1:=by rw[<-h3,CX];simp[dV,idsL,idsA]
  obtain⟨T4,h4⟩:∃T,T3.set 4 (.vec (aC 7 d++[.sl (d.length+7) 1 0 row.length]) 1 1)=T:=⟨_,rfl⟩
  obtain⟨l4,g4,k4⟩:=cF h4 om
  have w4:wgt T4<=wgt T3+d.length+1:=by
   rw[<-h4];have:=jT (h:=T3) (i:=4) (o:=.vec (aC 7 d++[.sl (d.length+7) 1 0 row.length]) 1 1);simp only[dV,bN,bZ,idsL,idsA,Af,Ee,Ae,Ac]at this;omega
  obtain⟨T5,h5⟩:∃T,T4.set 1 (.box [nI al,.sl 5 1 0 (d.length+1),.sl 6 0 0 ac.length])=T:=⟨_,rfl⟩
  obtain⟨l5,g5,k5⟩:=cF h5 om;obtain⟨T6,h6⟩:∃T,T5++[.arr [.bool false] 1 0]=T:=⟨_,rfl⟩
  obtain⟨l6,g6,k6⟩:=j3 h6;rw[l5,l4,l3]at l6 g6 k6;obtain⟨T7,h7⟩:∃T,T6.set 5 (.arr (aD (ac++[false])) 1 1)=T:=⟨_,rfl⟩
  obtain⟨l7,g7,k7⟩:=cF h7 om;obtain⟨T8,h8⟩:∃T,T7.set 1 (.box [nI al,.sl 5 1 0 (d.length+1),.sl 6 1 0 (ac.length+1)])=T:=⟨_,rfl⟩
  have e8:T8=.box [.d x0,.sl 3 0 0 0,.sl 4 0 0 0]::.box [nI al,.sl 5 1 0 (d.length+1),.sl 6 1 0 (ac.length+1)]::.arr [] 0 0::.arr [] 0 0::.vec (aC 7 d++[.sl (d.length+7) 1 0 row.length]) 1 1::.arr (aD (ac++[false])) 1 1::(aK d++.arr (ints row) 1 1::.vec [.sl (d.length+7) 1 0 row.length] 1 0::[.arr [.bool false] 1 0]):=by
   rw[<-h8,<-h7,<-h6,<-h5,<-h4,<-h3,<-h2,<-h1,e0];simp only[Ax,Ao,Aq,Bt,Cj];rw[aCV rfl];simp only[Ax,Ao,Aq]
  have st_gc:∀ {mk:List Bool} {s:List A},gc 1 mk s (.box [.d y1,.d y2]::T8)=match box (tidy mk s)with
    |.mk s1=>if idsL s1=[1,2]then(s1,.box [.d y1,.d y2]::.box [.d x0,.sl 3 0 0 0,.sl 4 0 0 0]::.box [nI al,.sl 5 0 0 (d.length+1),.sl 6 0 0 (ac.length+1)]::.arr [] 0 0::.arr [] 0 0::.vec (aC 7 (d++[row])++aH 0) 1 0::.arr (aD (ac++[false])) 1 0::aK (d++[row]))else gcO 1 mk s (.box [.d y1,.d y2]::T8)
    |.no=>([],[]):=by
   intro mk s;rw[e8];exact aVZ om
  have st_app1:∀ {call:aZ} {thaw:List Nat} {dst:Option Tmp} {args:Array Operand},memD env call thaw dst (.call ⟨.builtin .append,args,#[58,58]⟩) (.box [.d y1,.d y2]::T1) [.sl (d.length+6+1) 0 0 0,.sl 7 0 0 row.length]=some (.sl (d.length+7) 1 0 row.length,.box [.d y1,.d y2]::T2,{ ids:=[d.length+7,7],ro:=false,wr:=[d.length+7]}):=by
   intro call thaw dst args;have h7r:T1[6]? =some (.arr (ints row) 1 0):=by rw[k1 _ om];exact t0r 0 row hd
   rw[M3 (e:=3) (e0:=1) (n2:=row.length) (len:=0) (cs:=[]) (src:=ints row) rfl OS kr (by rw[Ay];exact g1) (.inr rfl) (by rw[Ay];exact h7r) (by simp[ints]) smp (by unfold bI;omega) om];rw[Bt,<-h2];simp
  have st_vec:∀ {call:aZ} {thaw:List Nat} {dst:Option Tmp} {x:Operand},Shut ((keeps thaw dst&& !logs thaw dst)=true)->memD env call thaw dst (.buildSlice 23 1 #[(0,x)]) (.box [.d y1,.d y2]::T2) [.sl (d.length+7) 1 0 row.length]=some (.sl (d.length+8) 0 0 1,.box [.d y1,.d y2]::T3,{ ids:=[d.length+7,d.length+8],ro:=false}):=by
   intro call thaw dst x hk;rw[aIB (e:=58) (cs:=ints row) (es:=1) hk.it rfl kr YX kr (by rw[show d.length+7=d.length+6+1 by omega,Ay];exact g2)];rw[Ax,h3,Ae,l2,l1]
  have ok_row:∀(T:H) (i:Nat) (r:List Int) (g:Nat),T[i+6]? =some (.arr (ints r) 1 g)->Okay (.box [.d y1,.d y2]::T) (i+7):=by
   intro T i r g hr;have hg:(O.box [.d y1,.d y2]::T)[i+7]? =some (.arr (ints r) 1 g):=by rw[show i+7=i+6+1 by omega,Ay];exact hr
   exact .mk _ _ hg smp (by rw[bQ hg];simp)
  have t3r:∀(i:Nat) (r:List Int),d[i]? =some r->T3[i+6]? =some (.arr (ints r) 1 0):=by
   intro i r hr;have hi:i<d.length:=(Aw.1 hr).1;rw[k3 _ om,k2 _ om,k1 _ om];exact t0r i r hr
  have t3e:T3[d.length+6]? =some (.arr (ints row) 1 1):=by rw[k3 _ om];exact g2
  have t34:T3[4]? =some (.vec (aC 7 d++aH 0) 1 0):=by rw[k3 _ om,k2 _ om,k1 _ om,t04]
  have g3':T3[d.length+7]? =some (.vec [.sl (d.length+7) 1 0 row.length] 1 0):=g3
  have ok35:Okay (.box [.d y1,.d y2]::T3) 5:=by
   have hg:(O.box [.d y1,.d y2]::T3)[5]? =some (.vec (aC 7 d++aH 0) 1 0):=t34;refine .mk _ _ hg smp ?_;intro q hq;have:kids (.box [.d y1,.d y2]::T3) 5=List.range' 7 d.length:=by simp only[kids,hg,bN,bZ,c8,Ai]
   rw[this,Cy]at hq;obtain⟨z,rfl⟩:∃z,q=z+7:=⟨q-7,by omega⟩
   exact ok_row T3 z (d[z]'om) 0 (t3r _ _ (Ad _))
  have ok3e:Okay (.box [.d y1,.d y2]::T3) (d.length+8):=by
   have hg:(O.box [.d y1,.d y2]::T3)[d.length+8]? =some (.vec [.sl (d.length+7) 1 0 row.length] 1 0):=g3';refine .mk _ _ hg smp ?_;intro q hq;have:kids (.box [.d y1,.d y2]::T3) (d.length+8)=[d.length+7]:=by simp[kids,hg,idsL,idsA]
   rw[this]at hq;simp at hq;subst hq;exact ok_row T3 d.length row 1 t3e
  obtain⟨o1,ho1⟩:∃o,o=aF aI (.box [.d y1,.d y2]::T3) [5,d.length+8] []:=⟨_,rfl⟩
  have st_app2:∀ {call:aZ} {thaw:List Nat} {dst:Option Tmp} {args:Array Operand},memD env call thaw dst (.call ⟨.builtin .append,args,#[23,23]⟩) (.box [.d y1,.d y2]::T3) [.sl 5 0 0 d.length,.sl (d.length+8) 0 0 1]=some (.sl 5 1 0 (d.length+1),.box [.d y1,.d y2]::T4,{ ids:=o1,ro:=false,wr:=[5]}):=by
   intro call thaw dst args;rw[YV (e:=58) rfl YX kr (id:=5) (id2:=d.length+8) (g:=0) (g2:=0) (len:=d.length) (cs:=aC 7 d++aH 0) (c:=.sl (d.length+7) 1 0 row.length) t34 g3' om (by unfold bI;omega) ok35 ok3e (by rw[mH];simp only[dV,idsL,idsA,Aq,Ac];omega),<-ho1,ht];rw[Bt,h4]
  have t41:T4[1]? =some (.box [nI al,.sl 5 0 0 d.length,.sl 6 0 0 ac.length]):=by rw[k4 _ om,k3 _ om,k2 _ om,k1 _ om,t01]
  have t45:T4[5]? =some (.arr (aD ac) 1 0):=by rw[k4 _ om,k3 _ om,k2 _ om,k1 _ om,t05]
  have ok45:Okay (.box [.d y1,.d y2]::T4) 5:=by
   have hg:(O.box [.d y1,.d y2]::T4)[5]? =some (.vec (aC 7 d++[.sl (d.length+7) 1 0 row.length]) 1 1):=g4;refine .mk _ _ hg smp ?_;intro q hq;have:kids (.box [.d y1,.d y2]::T4) 5=List.range' 7 d.length++[d.length+7]:=by simp only[kids,hg,bN,bZ,idsL,idsA,Ai]
   rw[this,Ak,Cy]at hq
   rcases hq with hq|hq
   ·obtain⟨z,rfl⟩:∃z,q=z+7:=⟨q-7,by omega⟩
    exact ok_row T4 z (d[z]'om) 0 (by rw[k4 _ om];exact t3r _ _ (Ad _))
   ·simp at hq;subst hq;exact ok_row T4 d.length row 1 (by rw[k4 _ om];exact t3e)
  have ok46:Okay (.box [.d y1,.d y2]::T4) 6:=by
   have hg:(O.box [.d y1,.d y2]::T4)[6]? =some (.arr (aD ac) 1 0):=t45;exact .mk _ _ hg smp (by rw[bQ hg];simp)
  have ok42:Okay (.box [.d y1,.d y2]::T4) 2:=by
   have hg:(O.box [.d y1,.d y2]::T4)[2]? =some (.box [nI al,.sl 5 0 0 d.length,.sl 6 0 0 ac.length]):=t41;refine .mk _ _ hg smp ?_;intro q hq;have:kids (.box [.d y1,.d y2]::T4) 2=[5,6]:=by simp[kids,hg,idsL,idsA]
   rw[this]at hq;simp at hq
   rcases hq with rfl|rfl
   ·exact ok45
   ·exact ok46
  obtain⟨o2,ho2⟩:∃o,o=aF aI (.box [.d y1,.d y2]::T4) [2,5] []:=⟨_,rfl⟩
  have st_sto:∀ {call:aZ} {thaw:List Nat} {dst:Option Tmp} {x y:Operand},memD env call thaw dst (.store 23 x y) (.box [.d y1,.d y2]::T4) [.ptr 2 0 1,.sl 5 1 0 (d.length+1)]=some (.d .undef,.box [.d y1,.d y2]::T5,{ ids:=o2,ro:=false,wr:=o2}):=by
   intro call thaw dst x y;rw[xG kr kr (h:=.box [.d y1,.d y2]::T4) (id:=2) (id2:=5) (off:=1) (cs:=[nI al,.sl 5 0 0 d.length,.sl 6 0 0 ac.length]) t41 smp ok42 ok45 (by rw[mH];simp only[dV,idsL,idsA,Aq,Ac];omega),<-ho2];rw[Bt];unfold bK;rw[<-h5];rfl
  have hclash:∀(ops:List Oper),pR [(1,2),(2,4),(2,5),(2,6),(1,7),(1,8)] ops [{},{ ids:=[2],ro:=true},{ ids:=[d.length+6+1],ro:=false},{},{ ids:=[2],ro:=true},{ ids:=[5],ro:=true},{ ids:=[5],ro:=true},{ ids:=[d.length+7,7],ro:=false,wr:=[d.length+7]},{ ids:=[d.length+7,d.length+8],ro:=false},{ ids:=o1,ro:=false,wr:=[5]},{},{ ids:=o2,ro:=false,wr:=o2}]=true->eE ops [{},{ ids:=[2],ro:=true},{ ids:=[d.length+6+1],ro:=false},{},{ ids:=[2],ro:=true},{ ids:=[5],ro:=true},{ ids:=[5],ro:=true},{ ids:=[d.length+7,7],ro:=false,wr:=[d.length+7]},{ ids:=[d.length+7,d.length+8],ro:=false},{ ids:=o1,ro:=false,wr:=[5]},{},{ ids:=o2,ro:=false,wr:=o2}]=true:=by
   intro ops hm;refine AM _ hm ?_;intro q hq;simp only[Au,Bv,or_false]at hq
   rcases hq with rfl|rfl|rfl|rfl|rfl|rfl<;>simp[kU]<;>omega
  have t5b:T5[5]? =some (.arr (aD ac) 1 0):=by rw[k5 _ om,t45]
  have t65:T6[5]? =some (.arr (aD ac) 1 0):=by rw[k6 _ om,t5b]
  have t71:T7[1]? =some (.box [nI al,.sl 5 1 0 (d.length+1),.sl 6 0 0 ac.length]):=by rw[k7 _ om,k6 _ om,g5]
  have t61:T6[1]? =some (.box [nI al,.sl 5 1 0 (d.length+1),.sl 6 0 0 ac.length]):=by rw[k6 _ om,g5]
  have hp0:(0:Int)<d.length:=om;have t11:T1[1]? =some (.box [nI al,.sl 5 0 0 d.length,.sl 6 0 0 ac.length]):=by rw[k1 _ om,t01]
  have t14:T1[4]? =some (.vec (aC 7 d++aH 0) 1 0):=by rw[k1 _ om,t04]
  have l5':T5.length=d.length+8:=om;rw[<-e0];clear k1 k2 k3 k4 k5 k6 k7 w0 w1 w2 w3 w4 ok35 ok3e ok45 ok46 ok42 ok_row t3r t3e ho1 ho2 e0 e8 l1 l2 l3 l4 l5 l6 l7 hlv ht hd hpos t0r g3 g3'
  simp-implicitDefEqProofs (maxSteps:=9^7) (disch:=try exact Dz) only[↓DN,↓kRet,UP,simprocAttr,LA,hn0,hc,hp0,l0,t01,h1,t11,t14,hh0,↓st_app1,↓st_vec,↓st_app2,↓st_sto,g5,l5',h6,g6,t65,h7,t71,h8,xD,↓st_gc,↓ih',yF,xU,Tryz.f57]
theorem aOr{c:List UInt8}(hc:c.length<=2000)(al:Int)(nx:List (List Int))(ac:List Bool)(hs:aW nx)(h1:1<=nx.length)(ha:ac.length<=4294967000)(hnl2:nx.length<=4294967000)(p t:Int){row:List Int}(hrow:nx[0]? =some row)(hrl:row.length<=4294967290)(j:Nat)(hj:nx.length+j=13\/j=0/\13<=nx.length)
  (kd1:(Dw 1 30 [nI (nx.length)] (nI t) c p (p+1)))
  (kd2:(Dw 1 30 [nI 30] (nI 5) c (p+1) (p+1+1))):(Dw 4 57 [autD al nx ac] (autD al (nx++List.replicate j row) (ac++List.replicate j false)) c p (p+1+1)):=by
 intro R L n hq k hn hL;refine b7 jZ (by simp[autD,idsA,idsL]) (by simp[autD,idsA,idsL]) ?_;have hnl:=hs.1;obtain⟨N,T1,T2,T3,w⟩:=lC (.box [nI al,.d (.ivs nx.length (aE nx)),.d (.ivs ac.length (aD ac))]) (.box [nI 0,.sl 2 0 0 0,.sl 3 0 0 0]) al nx ac;have kd3:=fun {R:Type} {n:Nat} {o1:O} {k:KA R} (hn:2<=n)=>nB (R:=R) (L:=L) (n:=n) (o1:=o1) (al:=al) (k:=k) w.h1 hs h1 om hn hL;obtain⟨hN,hT1,l1,h2,b2,h3,l3,t3,t4,t5,tr,tb,e3,wg⟩:=w;clear hT1
 have st_gc:∀ {y1 y2:D} {mk:List Bool} {s:List A},gc 1 mk s (.box [.d y1,.d y2]::T3)=match box (tidy mk s)with
   |.mk s1=>if RD nx.length (idsL s1)=true/\z0As s1=true then(aG (C6 nx.length) s1,.box [.d y1,.d y2]::.box [nI 0,.sl 3 0 0 0,.sl 4 0 0 0]::.box [nI al,.sl 5 0 0 nx.length,.sl 6 0 0 ac.length]::.arr [] 0 0::.arr [] 0 0::.vec (aC 7 nx++aH 0) 1 0::.arr (aD ac) 1 0::aK nx)else gcO 1 mk s (.box [.d y1,.d y2]::T3)
   |.no=>([],[]):=by
  intro y1 y2 mk s;rw[e3];exact aWP om
 have loop_a:=fun {R:Type} {n:Nat} {y1 y2 x0:D} {k:KE R}=>aHt (R:=R) (L:=L) (n:=n) (y1:=y1) (y2:=y2) (x0:=x0) (al:=al) (n0:=nx.length) (k:=k) om hrl j L nx ac nx.length ac.length hj om hrow rfl rfl om om;have hl1:(nx++List.replicate j row).length=nx.length+j:=smp;have hl2:(ac++List.replicate j false).length=ac.length+j:=smp;generalize nx++List.replicate j row=nx2 at *;generalize ac++List.replicate j false=ac2 at *;obtain⟨T9,e9⟩:∃T:H,.box [nI al,.sl 5 0 0 (nx.length+j),.sl 6 0 0 (ac.length+j)]::.box [nI al,.sl 5 0 0 (nx.length+j),.sl 6 0 0 (ac.length+j)]::.arr [] 0 0::.arr [] 0 0::.vec (aC 7 nx2++aH 0) 1 0::.arr (aD ac2) 1 0::aK nx2=T:=⟨_,rfl⟩
 have g9:T9[0]? =some (.box [nI al,.sl 5 0 0 (nx.length+j),.sl 6 0 0 (ac.length+j)]):=by rw[<-e9];rfl
 have hv:rd1 (rdO c (p+1+1)::T9) (.sl 5 0 0 (nx.length+j))=some (.ivs nx2.length (aE nx2)):=by
  refine y9 (cs:=aC 7 nx2++aH 0) (by rw[<-e9];rfl) (MT fun i r hr=> ?_) hl1.symm;rw[<-e9];simp only[Ay];have:=I9 (p:=[]) hr
  rwa [Ai]at this
 have hw:rd1 (rdO c (p+1+1)::T9) (.sl 6 0 0 (ac.length+j))=some (.ivs ac2.length (aD ac2)):=pL (by rw[<-e9];rfl) hl2.symm;obtain⟨h2',st_out,st_keep,st_trim⟩:=tC (al:=al) hv hw om om;unfold autD at st_out|-;have hke:N+1+1+1=nx.length+9:=om;clear hv hw tr h1 wg e3 hrow;obtain _|n:=n;omega
 simp-implicitDefEqProofs (maxSteps:=9^7) (disch:=try exact Dz) only[↓DN,↓kRet,UP,simprocAttr,↓kd1,↓kd2,↓kd3,l1,h2,b2,h3,tb,↓st_gc,aQm,aIs,aHb,z0As,z0A,eq_self,↓loop_a,e9,g9,↓st_out,↓st_keep,↓st_trim,Ao,cV,c9,Tryz.f57]
def src(c:List UInt8):List UInt8:=if 2000<c.length then c.take 2000 else c
theorem aWQ(c:List UInt8):(src c).length<=2000:=by
 unfold src;split
 ·rw[Bi];omega
 ·omega
theorem aSd:(env.hint 27).mode=2:=kr
theorem aWq{L n:Nat}(hn:1<=n)(c0:List UInt8)(hc:c0.length<=4294967296):aA env L n 27 [.d (.ivs c0.length (bM c0))] []=some (.ptr 0 0 0,[O.box [A.d (D.ivs (src c0).length (bM (src c0))),A.d (D.int .i64 0)]]):=by
 unfold src
 by_cases h:(2000:Int)<c0.length
 ·have h':2000<c0.length:=om;obtain _|n:=n;omega
  simp-implicitDefEqProofs (maxSteps:=9^7) (disch:=try exact Dz) only[↓DN,↓kAsg,↓kRet,UP,simprocAttr,h,h',Z0,QA,Tryz.f27]
 ·have h':¬2000<c0.length:=om;obtain _|n:=n;omega
  simp-implicitDefEqProofs (maxSteps:=9^7) (disch:=try exact Dz) only[↓DN,↓kAsg,↓kRet,UP,simprocAttr,h,h',Z0,QA,Tryz.f27]
mutual
theorem aIP{f g:Nat->Option Nat}(hfg:∀k,f k=none->g k=none):∀a:A,idsA (mapA f a)=[]->mapA g a=mapA f a
 |.d x,_=>by simp only[mapA]
 |.sl id gen off len,h=>by
  simp only[mapA]at h|-
  cases hf:f id with
  |none=>rw[hfg id hf]
  |some m=>rw[hf]at h;simp[idsA]at h
 |.ptr id gen off,h=>by
  simp only[mapA]at h|-
  cases hf:f id with
  |none=>rw[hfg id hf]
  |some m=>rw[hf]at h;simp[idsA]at h
 |.mp id,h=>by
  simp only[mapA]at h|-
  cases hf:f id with
  |none=>rw[hfg id hf]
  |some m=>rw[hf]at h;simp[idsA]at h
 |.clo c caps,h=>by simp only[mapA,idsA]at h|-;rw[IJ hfg caps h]
 |.agg cs,h=>by simp only[mapA,idsA]at h|-;rw[IJ hfg cs h]
 |.tup cs,h=>by simp only[mapA,idsA]at h|-;rw[IJ hfg cs h]
 |.junk,_=>by simp only[mapA]
theorem IJ{f g:Nat->Option Nat}(hfg:∀k,f k=none->g k=none):∀l:List A,idsL (aG f l)=[]->aG g l=aG f l
 | [],_=>by simp only[aG]
 |a::l,h=>by
  simp only[aG,idsL,List.append_eq_nil_iff]at h;simp only[aG];rw[aIP hfg a h.1,IJ hfg l h.2]
end
theorem aSp{f:Nat->Option Nat}{a:A}{x:D}(h:mapA f a=.d x):a=.d x:=by
 cases a with
 |d y=>simpa [mapA]using h
 |sl id gen off len=>simp only[mapA]at h;split at h<;>cases h
 |ptr id gen off=>simp only[mapA]at h;split at h<;>cases h
 |mp id=>simp only[mapA]at h;split at h<;>cases h
 |clo c caps=>simp[mapA]at h
 |agg cs=>simp[mapA]at h
 |tup cs=>simp[mapA]at h
 |junk=>simp[mapA]at h
theorem aWK{f:Nat->Option Nat}{o:O}{c:List UInt8}{q:Int}(h:mapO f o=rdO c q):o=rdO c q:=by
 cases o with
 |box cs=>
  simp only[mapO,O.box.injEq]at h
  match cs,h with
  | [a,b],h=>
   simp only[aG,List.cons.injEq,and_true]at h;rw[aSp h.1,aSp h.2]
  | [],h=>simp[aG]at h
  | [_],h=>simp[aG]at h
  |_::_::_::_,h=>simp[aG]at h
 |_=>simp[mapO]at h
theorem wX{L n m:Nat}{f:FuncId}{args:List A}{c:List UInt8}{p q:Int}{r:A}(ha:idsL args=[])(hr:idsA r=[])
  (kd:∀(R:Type) (L n:Nat) (hq:H) (k:KA R),m<=n->2^60<=L->aX env (aA env L n) (rdO c p::hq) f (.ptr 0 0 0::args) k=k r (rdO c q::hq))
  {R:Type} {hq:H} {k:KA R} {i:Nat} (hn:m<=n) (hL:2^60<=L) (hi:hq[i]? =some (rdO c p)):
  aX env (aA env L n) hq f (.ptr i 0 0::args) k=k r (hq.set i (rdO c q)):=by
 have h0:=kd (A×H) L n [] (fun a h=>some (a,h)) hn hL;generalize aA env L n=call at h0|-;have hid:∀j,idsL (A.ptr j 0 0::args)=[j]:=fun j=>by simp[idsL,idsA,ha]
 have hre:∀(h:H) (j:Nat),h[j]? =some (rdO c p)->aF aI h [j] []=[j]:=by
  intro h j hj
  have e1:aF aI h [j] []=match h[j]? with
   |some (.box cs)=>aF (aI-1) h ([]++idsL cs) ([]++[j])
   |some (.vec cs _ _)=>aF (aI-1) h ([]++idsL cs) ([]++[j])
   |some .void=>aF (aI-1) h [] []
   |some _=>aF (aI-1) h [] ([]++[j])
   |none=>aF (aI-1) h [] []:=rfl
  rw[e1,hj];rfl
 have hpk:∀(h:H) (j:Nat),h[j]? =some (rdO c p)->pack h [j]=[rdO c p]:=by
  intro h j hj;simp only[pack,Aj,As,Aa,hj]<;>rfl
 have hma:∀j,aG (aJ [j]) (A.ptr j 0 0::args)=A.ptr 0 0 0::args:=by
  intro j;simp only[aG,fU _ ha];simp[mapA,aJ]
 have hcl:∀(h:H) (j:Nat),h[j]? =some (rdO c p)->closed h [j] [j]=true:=by
  intro h j hj;simp only[closed,Bx,Cd,hj];simp[idsL,idsA]
 unfold aX at h0|-;rw[hid,hre hq i hi,hpk hq i hi,hma];rw[hid,hre [rdO c p] 0 rfl,hpk [rdO c p] 0 rfl,hma]at h0
 cases hc:bY call env.hint [rdO c p] f (A.ptr 0 0 0::args)with
 |none=>rw[hc]at h0;simp at h0
 |some y=>
  obtain⟨a,h1⟩:=y;rw[hc]at h0;simp only[hcl [rdO c p] 0 rfl,hcl hq i hi,and_true,Ae,Ac]at h0|-
  split at h0
  ·rename_i hlen
   rw[if_pos hlen];simp only[Option.some.injEq,Prod.mk.injEq]at h0;obtain⟨g1,g2⟩:=h0
   match h1,hlen,g1,g2 with
   |o::rest,hlen,g1,g2=>
    simp only[bJ,Cj,Ax,Aq,List.cons.injEq,List.map_eq_nil_iff]at g2;obtain⟨g2,rfl⟩:=g2;have ho:=aWK g2;subst ho
    have ga:mapA (back [i] hq.length 1) a=r:=by
     rw[aIP (f:=back [0] 1 1) (g:=back [i] hq.length 1) ?_ a (by have:=g1;simp only[Ae,Ac,Ag]at this;rw[this];exact hr)]
     ·simpa using g1
     ·intro j hj;unfold back at hj|-
      by_cases h0:j< [i].length
      ·have:j=0:=by simp at h0;exact h0
       subst this;simp at hj
      ·have h0':¬j< [0].length:=by simpa using h0
       rw[if_neg h0']at hj;rw[if_neg h0]
       split at hj
       ·cases hj
       ·rename_i h2;rw[if_neg h2]
    simp only[Ae,Ac,Ag];rw[ga]
    congr 1
    simp[bJ,mapO,aG,mapA]
  ·simp at h0
theorem J5{R:Type}{L n:Nat}{hq:H}{k:KA R}(c0:List UInt8)(hn:1<=n)(hc:c0.length<=4294967296):aX env (aA env L n) hq 27 [.d (.ivs c0.length (bM c0))] k=k (.ptr hq.length 0 0) (hq++[O.box [A.d (D.ivs (src c0).length (bM (src c0))),A.d (D.int .i64 0)]]):=by
 have he:=aWq (L:=L) hn c0 hc;unfold aX;have h1:aF aI hq (idsL [A.d (D.ivs c0.length (bM c0))]) []=[]:=rfl;have h2:pack hq []=[]:=rfl;have h3:aG (aJ []) [A.d (D.ivs c0.length (bM c0))]=[A.d (D.ivs c0.length (bM c0))]:=rfl;rw[h1,h2,h3]
 have h4:bY (aA env L n) env.hint [] 27 [A.d (D.ivs c0.length (bM c0))]=some (.ptr 0 0 0,[O.box [A.d (D.ivs (src c0).length (bM (src c0))),A.d (D.int .i64 0)]]):=by
  unfold bY;rw[aSd];have h5:d8 ([]:H) [A.d (D.ivs c0.length (bM c0))]=some ([A.d (D.ivs c0.length (bM c0))],[]):=rfl;simp only[h5,he]<;>rfl
 rw[h4];have hcl:closed hq [] (idsL [A.d (D.ivs c0.length (bM c0))])=true:=rfl;simp only[hcl,Ac,Nat.zero_le,and_self,if_true]
 congr 1
structure AutB(B:Nat)(nx:List (List Int))(ac:List Bool):Prop where
 n:nx.length<=B
 a:ac.length<=B
 r:∀r∈nx,r.length<=B
theorem AutB.short{B:Nat}{nx:List (List Int)}{ac:List Bool}(h:AutB B nx ac)(hB:B<=4294967000):aW nx:=⟨by have:=h.n;omega,fun r hr=>by have:=h.r r hr;omega⟩
theorem AutB.mono{B C:Nat}{nx:List (List Int)}{ac:List Bool}(h:AutB B nx ac)(hB:B<=C):AutB C nx ac:=⟨by have:=h.n;omega,by have:=h.a;omega,fun r hr=>by have:=h.r r hr;omega⟩
theorem AutB.at{B:Nat}{nx:List (List Int)}{ac:List Bool}(h:AutB B nx ac)(i:Nat):(nx.getD i []).length<=B:=by
 rw[Aa]
 cases hg:nx[i]? with
 |none=>simp
 |some r=>simpa using h.r r (Br hg)
theorem aJd{c:List UInt8}(hc:c.length<=2000){B:Nat}(hB:B<=4294966000)(al:Int)(nx:List (List Int))(ac:List Bool)(hb:AutB B nx ac)(h1:1<=nx.length)(p:Int)(hp:0<=p)(hp2:p<=890000000):
  ∃(al2:Int) (nx2:List (List Int)) (ac2:List Bool) (q:Int),AutB (B+13) nx2 ac2/\(1<=nx2.length\/nx2=[]/\ac2=[])/\p<=q/\q<=p+4/\(Dw 4 57 [autD al nx ac] (autD al2 nx2 ac2) c p q):=by
 have hs:=hb.short om;have hn:=hb.n;have hba:=hb.a;obtain⟨k,k0,k1,_,kd1⟩:=eC hc p nx.length hp om;obtain⟨u,u0,u1,_,kd2⟩:=eC hc (p+1) 30 om om;have k1:=k1 om;obtain⟨t,rfl⟩:∃t:Nat,k=t:=⟨k.toNat,by omega⟩
 have ht:t<nx.length:=om;have hrt:=hb.at t
 by_cases hu0:u=0
 ·subst hu0;obtain⟨al2,kd⟩:=aQE hc al nx ac hs h1 om p t hp om kd1 kd2;exact⟨al2,nx,ac,_,hb.mono om,.inl h1,by omega,by omega,kd⟩
 by_cases hu1:u=1
 ·subst hu1;refine⟨al,nx,ac++[true],_,⟨by omega,by simp;omega,fun r hr=> ?_⟩,.inl h1,by omega,by omega,aQ5 hc al nx ac hs h1 om p t kd1 kd2⟩;have:=hb.r r hr;omega
 by_cases hu2:u=2
 ·subst hu2;refine⟨al,_,ac,_,⟨by rw[Bs];omega,by omega,fun r hr=> ?_⟩,.inl (by rw[Bs];exact h1),by omega,by omega,aNQ hc al nx ac hs h1 om p t ht om kd1 kd2⟩
  rcases Dy hr with h|h
  ·have:=hb.r r h;omega
  ·rw[h,Af,Ae,Ac];omega
 by_cases hu3:u=3
 ·subst hu3
  by_cases h0:(nx.getD t []).length=0
  ·exact⟨al,nx,ac,_,hb.mono om,.inl h1,by omega,by omega,aPR hc al nx ac hs h1 om p t ht h0 kd1 kd2⟩
  ·obtain⟨v,v0,v1,_,kd4⟩:=eC hc (p+1+1) (nx.getD t []).length om om;have v1:=v1 om;obtain⟨j,rfl⟩:∃j:Nat,v=j:=⟨v.toNat,by omega⟩
   obtain⟨w,kd⟩:=aOx hc al nx ac hs h1 om p hp om t ht j om kd1 kd2 kd4;refine⟨al,_,ac,_,⟨by rw[Bs];omega,by omega,fun r hr=> ?_⟩,.inl (by rw[Bs];exact h1),by omega,by omega,kd⟩
   rcases Dy hr with h|h
   ·have:=hb.r r h;omega
   ·rw[h,Bs];omega
 by_cases hu4:u=4
 ·subst hu4;exact⟨al,[],[],_,⟨by simp,by simp,by simp⟩,.inr ⟨rfl,rfl⟩,by omega,by omega,aLS hc al nx ac hs h1 om p t kd1 kd2⟩
 by_cases hu5:u=5
 ·subst hu5;have h0:nx[0]? =some (nx[0]'om):=Ad _;have hr0:=hb.r _ (At (by omega:0<nx.length));refine⟨al,_,_,_,⟨?_,?_,fun r hr=> ?_⟩,.inl (by rw[Af];omega),by omega,by omega,aOr hc al nx ac hs h1 om om p t h0 om (13-nx.length) om kd1 kd2⟩
  ·simp;omega
  ·simp;omega
  ·rcases Ak.1 hr with h|h
   ·have:=hb.r r h;omega
   ·obtain⟨_,rfl⟩:=List.mem_replicate.1 h;omega
 exact⟨al,nx,ac,_,hb.mono om,.inl h1,by omega,by omega,aNz hc al nx ac hs h1 om p t u hu0 hu1 hu2 hu3 hu4 hu5 kd1 kd2⟩
theorem aQf{c:List UInt8}(hc:c.length<=2000){B:Nat}(hB:B<=4294966000)(al:Int)(nx:List (List Int))(ac:List Bool)(hb:AutB B nx ac)(h1:1<=nx.length)(p:Int)(hp:0<=p)(hp2:p<=890000000):
  ∃(al2:Int) (nx2:List (List Int)) (ac2:List Bool) (q:Int),AutB (B+13) nx2 ac2/\p<=q/\q<=p+4/\(Dw 4 57 [autD al nx ac] (autD al2 nx2 ac2) c p q):=by
 obtain⟨al2,nx2,ac2,q,a,_,b⟩:=aJd hc hB al nx ac hb h1 p hp hp2;exact⟨al2,nx2,ac2,q,a,b⟩
theorem aVV:(env.hint 58).mode=0:=kr
theorem aUa{c:List UInt8}(hc:c.length<=2000)(p:Int)(hp:0<=p)(hp2:p<=900000000):∃(nx:List (List Int)) (ac:List Bool) (q:Int),nx.length=12/\ac.length=12/\(∀r∈nx,r.length=(aB 3).length)/\p<=q/\q<=p+40/\(Dw 3 58 [] (autD 3 nx ac) c p q):=by
 obtain⟨nx,ac,q,g1,g2,g3,g4,g5,he⟩:=aQn hc p hp hp2;exact⟨nx,ac,q,g1,g2,g3,g4,g5,fun R L n hq k hn hL=>b7 aVV (by simp[idsL]) (by simp[autD,idsA,idsL]) (he L n hn hL)⟩
theorem BU:(env.hint 29).mode=0:=kr
theorem aEL{c:List UInt8}{p:Int}{al:Int}{nx:List (List Int)}{ac:List Bool}{T3:H}{z:O}(hz:T3[3]? =some z)(t4:T3[4]? =some (.vec (aC 7 nx++aH 0) 1 0))(t5:T3[5]? =some (.arr (aD ac) 1 0))(tr:∀(i:Nat) (r:List Int),nx[i]? =some r->T3[i+6]? =some (.arr (ints r) 1 0)):
  ∃(T7:H) (h2':H),T3.set 3 (.box [nI al,.sl 5 0 0 nx.length,.sl 6 0 0 ac.length])=T7/\T7[3]? =some (.box [nI al,.sl 5 0 0 nx.length,.sl 6 0 0 ac.length])/\p9 1 false (rdO c p::T7) [.agg [nI al,.sl 5 0 0 nx.length,.sl 6 0 0 ac.length]]=some ([autD al nx ac],h2')/\aF 1099511627776 h2' (eM (List.take 1 h2')) [0]=[0]/\List.getD h2' 0 default=rdO c p:=by
 obtain⟨T7,h7⟩:∃T,T3.set 3 (.box [nI al,.sl 5 0 0 nx.length,.sl 6 0 0 ac.length])=T:=⟨_,rfl⟩
 obtain⟨l7,g7,k7⟩:=cF h7 (Aw.1 hz).1
 have hv:rd1 (rdO c p::T7) (.sl 5 0 0 nx.length)=some (.ivs nx.length (aE nx)):=by
  refine y9 (cs:=aC 7 nx++aH 0) ?_ (MT fun i r hr=> ?_) rfl
  ·rw[Ay,k7 _ om,t4]
  ·rw[show i+7=i+6+1 by omega,Ay,k7 _ om];exact tr i r hr
 have hw:rd1 (rdO c p::T7) (.sl 6 0 0 ac.length)=some (.ivs ac.length (aD ac)):=by
  refine pL ?_ rfl;rw[Ay,k7 _ om,t5]
 obtain⟨h2',a1,a2,a3⟩:=tC (al:=al) hv hw om om;exact⟨T7,h2',h7,g7,a1,a2,a3⟩
theorem aKM{c:List UInt8}(hc:c.length<=2000)(al:Int)(nx:List (List Int))(ac:List Bool)(hs:aW nx)(h1:1<=nx.length)(ha:ac.length<=4294967290)(p u:Int)(t:Nat)(ht:t<nx.length)
  (hcase:u=0/\ac.length<=t\/u=1/\(nx.getD t []).length=0\/u=2/\(12<=nx.length\/ac.length<=t\/(nx.getD t []).length=0)\/¬u=0/\¬u=1/\¬u=2)
  (kd1:(Dw 1 30 [nI (nx.length)] (nI t) c p (p+1)))
  (kd2:(Dw 1 30 [nI 4] (nI u) c (p+1) (p+1+1))):(Dw 4 29 [autD al nx ac] (autD al nx ac) c p (p+1+1)):=by
 intro R L n hq k hn hL;refine b7 BU (by simp[autD,idsA,idsL]) (by simp[autD,idsA,idsL]) ?_;have hnl:=hs.1;have hrl:=pX hs ht;obtain⟨N,T1,T2,T3,w⟩:=lC (.box [nI al,.d (.ivs nx.length (aE nx)),.d (.ivs ac.length (aD ac))]) (.box [nI 0,.sl 2 0 0 0,.sl 3 0 0 0]) al nx ac;have kd3:=fun {R:Type} {n:Nat} {o1:O} {k:KA R} (hn:2<=n)=>nB (R:=R) (L:=L) (n:=n) (o1:=o1) (al:=al) (k:=k) w.h1 hs h1 om hn hL;obtain⟨hN,hT1,l1,h2,b2,h3,l3,t3,t4,t5,tr,tb,e3,wg⟩:=w;clear e3;clear hT1;have hd7:((aC 7 nx++aH 0).drop t).head? =some (.sl (t+7) 0 0 (nx.getD t []).length):=kO ht;obtain⟨T7,h2',h7,g7,st_out,st_keep,st_trim⟩:=aEL (c:=c) (p:=p+1+1) (al:=al) t3 t4 t5 tr;unfold autD at st_out|-;have hti:(t:Int)<nx.length:=om;have ht0:(0:Int)<=t:=om;have hn0:¬((nx.length:Int)=0):=om;generalize(nx.getD t []).length=rl at *;clear tr h1 wg
 rcases hcase with⟨rfl,hx⟩|⟨rfl,rfl⟩|⟨rfl,hx⟩|⟨u0,u1,u2⟩
 ·have hx2:¬((t:Int)<ac.length):=om;obtain _|n:=n;omega
  simp-implicitDefEqProofs (maxSteps:=9^7) (disch:=try exact Dz) only[↓DN,↓kRet,UP,simprocAttr,↓kd1,↓kd2,↓kd3,l1,h2,b2,h3,t3,tb,hn0,hx2,h7,g7,↓st_out,↓st_keep,↓st_trim,Ao,eT,eS,Tryz.f29]
 ·obtain _|n:=n;omega
  simp-implicitDefEqProofs (maxSteps:=9^7) (disch:=try exact Dz) only[↓DN,↓kRet,UP,simprocAttr,↓kd1,↓kd2,↓kd3,l1,h2,b2,h3,t3,t4,tb,hti,ht0,hn0,hd7,h7,g7,↓st_out,↓st_keep,↓st_trim,Ao,eT,eS,Tryz.f29]
 ·by_cases hy:(nx.length:Int)<12
  ·by_cases hy2:(t:Int)<ac.length
   ·obtain rfl:rl=0:=om;obtain _|n:=n;omega
    simp-implicitDefEqProofs (maxSteps:=9^7) (disch:=try exact Dz) only[↓DN,↓kRet,UP,simprocAttr,↓kd1,↓kd2,↓kd3,l1,h2,b2,h3,t3,t4,tb,hti,ht0,hn0,hy,hy2,hd7,h7,g7,↓st_out,↓st_keep,↓st_trim,Ao,eT,eS,Tryz.f29]
   ·obtain _|n:=n;omega
    simp-implicitDefEqProofs (maxSteps:=9^7) (disch:=try exact Dz) only[↓DN,↓kRet,UP,simprocAttr,↓kd1,↓kd2,↓kd3,l1,h2,b2,h3,t3,tb,hn0,hy,hy2,h7,g7,↓st_out,↓st_keep,↓st_trim,Ao,eT,eS,Tryz.f29]
  ·obtain _|n:=n;omega
   simp-implicitDefEqProofs (maxSteps:=9^7) (disch:=try exact Dz) only[↓DN,↓kRet,UP,simprocAttr,↓kd1,↓kd2,↓kd3,l1,h2,b2,h3,t3,tb,hn0,hy,h7,g7,↓st_out,↓st_keep,↓st_trim,Ao,eT,eS,Tryz.f29]
 ·obtain _|n:=n;omega
  simp-implicitDefEqProofs (maxSteps:=9^7) (disch:=try exact Dz) only[↓DN,↓kRet,UP,simprocAttr,↓kd1,↓kd2,↓kd3,l1,h2,b2,h3,t3,tb,hn0,u0,u1,u2,h7,g7,↓st_out,↓st_keep,↓st_trim,Ao,eT,eS,Tryz.f29]
theorem aNV{c:List UInt8}(hc:c.length<=2000)(al:Int)(nx:List (List Int))(ac:List Bool)(hs:aW nx)(h1:1<=nx.length)(ha:ac.length<=4294967290)(p:Int)(t:Nat)(hta:t<ac.length)
  (kd1:(Dw 1 30 [nI (nx.length)] (nI t) c p (p+1)))
  (kd2:(Dw 1 30 [nI 4] (nI 0) c (p+1) (p+1+1))):(Dw 4 29 [autD al nx ac] (autD al nx (ac.set t (!(ac.getD t false)))) c p (p+1+1)):=by
 intro R L n hq k hn hL;refine b7 BU (by simp[autD,idsA,idsL]) (by simp[autD,idsA,idsL]) ?_;have hnl:=hs.1;obtain⟨N,T1,T2,T3,w⟩:=lC (.box [nI al,.d (.ivs nx.length (aE nx)),.d (.ivs ac.length (aD ac))]) (.box [nI 0,.sl 2 0 0 0,.sl 3 0 0 0]) al nx ac;have kd3:=fun {R:Type} {n:Nat} {o1:O} {k:KA R} (hn:2<=n)=>nB (R:=R) (L:=L) (n:=n) (o1:=o1) (al:=al) (k:=k) w.h1 hs h1 om hn hL;obtain⟨hN,hT1,l1,h2,b2,h3,l3,t3,t4,t5,tr,tb,e3,wg⟩:=w;clear e3;clear hT1;obtain⟨T4,h4⟩:∃T,T3.set 5 (.arr (aD (ac.set t (!(ac.getD t false)))) 1 0)=T:=⟨_,rfl⟩
 obtain⟨l4,g4,k4⟩:=cF h4 om;have t43:T4[3]? =some (.box [nI 0,.sl 2 0 0 0,.sl 3 0 0 0]):=by rw[k4 _ om,t3]
 have t4b:T4[N+1+1]? =some (.box [nI al,.sl 5 0 0 nx.length,.sl 6 0 0 ac.length]):=by rw[k4 _ om,tb]
 have hset:bK (aD ac) t [.bool (!(ac.getD t false))]=aD (ac.set t (!(ac.getD t false))):=aJy hta
 have st_sto:∀ {call:aZ} {thaw:List Nat} {dst:Option Tmp} {x y:Operand},memD env call thaw dst (.store 4 x y) (rdO c (p+1+1)::T3) [.ptr 6 0 t,.d (.bool (!(ac.getD t false)))]=some (.d .undef,rdO c (p+1+1)::T4,{ ids:=[6],ro:=false,wr:=[6]}):=by
  intro call thaw dst x y;rw[PU kr kr rfl (h:=rdO c (p+1+1)::T3) (id:=6) (cs:=aD ac) (esz:=1) t5 (by rw[cU];omega)];rw[Bt,hset,h4]
 have hl2:(ac.set t (!(ac.getD t false))).length=ac.length:=smp;obtain⟨T7,h2',h7,g7,st_out,st_keep,st_trim⟩:=aEL (c:=c) (p:=p+1+1) (al:=al) (nx:=nx) (ac:=ac.set t (!(ac.getD t false))) t43 (by rw[k4 _ om,t4]) g4 (fun i r hr=>by rw[k4 _ om];exact tr i r hr);unfold autD at st_out|-;rw[hl2]at st_out h7 g7|-;have hbh:=H7 hta;have hti:(t:Int)<ac.length:=om;have ht0:(0:Int)<=t:=om;have hn0:¬((nx.length:Int)=0):=om;clear tr h1 wg k4 l4 hset hta;obtain _|n:=n;omega
 simp-implicitDefEqProofs (maxSteps:=9^7) (disch:=try exact Dz) only[↓DN,↓kRet,UP,simprocAttr,↓kd1,↓kd2,↓kd3,l1,h2,b2,h3,t5,tb,hti,ht0,hn0,hbh,↓st_sto,t4b,t43,h7,g7,↓st_out,↓st_keep,↓st_trim,Ao,eT,eS,Tryz.f29]
theorem aLI{c:List UInt8}(hc:c.length<=2000)(al:Int)(nx:List (List Int))(ac:List Bool)(hs:aW nx)(h1:1<=nx.length)(ha:ac.length<=4294967290)(p v:Int)(t j:Nat)(ht:t<nx.length)(hj:j<(nx.getD t []).length)
  (kd1:(Dw 1 30 [nI (nx.length)] (nI t) c p (p+1)))
  (kd2:(Dw 1 30 [nI 4] (nI 1) c (p+1) (p+1+1)))
  (kd4:(Dw 1 30 [nI ((nx.getD t []).length:Int)] (nI j) c (p+1+1) (p+1+1+1)))
  (kd5:(Dw 1 30 [nI (nx.length)] (nI v) c (p+1+1+1) (p+1+1+1+1))):(Dw 4 29 [autD al nx ac] (autD al (nx.set t ((nx.getD t []).set j v)) ac) c p (p+1+1+1+1)):=by
 intro R L n hq k hn hL;refine b7 BU (by simp[autD,idsA,idsL]) (by simp[autD,idsA,idsL]) ?_;have hnl:=hs.1;obtain⟨N,T1,T2,T3,w⟩:=lC (.box [nI al,.d (.ivs nx.length (aE nx)),.d (.ivs ac.length (aD ac))]) (.box [nI 0,.sl 2 0 0 0,.sl 3 0 0 0]) al nx ac;have kd3:=fun {R:Type} {n:Nat} {o1:O} {k:KA R} (hn:2<=n)=>nB (R:=R) (L:=L) (n:=n) (o1:=o1) (al:=al) (k:=k) w.h1 hs h1 om hn hL;obtain⟨hN,hT1,l1,h2,b2,h3,l3,t3,t4,t5,tr,tb,e3,wg⟩:=w;clear e3;clear hT1;have hrow:nx[t]? =some (nx.getD t []):=by rw[Aa,Ad ht];rfl
 have hrl:=pX hs ht;generalize hrw:nx.getD t []=row at *;have hd7:((aC 7 nx++aH 0).drop t).head? =some (.sl (t+7) 0 0 row.length):=by rw[kO ht,hrw]
 have t3r:T3[t+6]? =some (.arr (ints row) 1 0):=tr _ _ hrow;obtain⟨T4,h4⟩:∃T,T3.set (t+6) (.arr (ints (row.set j v)) 1 0)=T:=⟨_,rfl⟩
 obtain⟨l4,g4,k4⟩:=cF h4 om;have t43:T4[3]? =some (.box [nI 0,.sl 2 0 0 0,.sl 3 0 0 0]):=by rw[k4 _ om,t3]
 have t4b:T4[N+1+1]? =some (.box [nI al,.sl 5 0 0 nx.length,.sl 6 0 0 ac.length]):=by rw[k4 _ om,tb]
 have hset:bK (ints row) j [.int .i64 v]=ints (row.set j v):=by
  unfold bK;exact aEG hj
 have st_sto:∀ {call:aZ} {thaw:List Nat} {dst:Option Tmp} {x y:Operand},memD env call thaw dst (.store 3 x y) (rdO c (p+1+1+1+1)::T3) [.ptr (t+7) 0 j,nI v]=some (.d .undef,rdO c (p+1+1+1+1)::T4,{ ids:=[t+7],ro:=false,wr:=[t+7]}):=by
  intro call thaw dst x y;rw[PU kr kr rfl (h:=rdO c (p+1+1+1+1)::T3) (id:=t+7) (cs:=ints row) (esz:=1) (by rw[show t+7=t+6+1 by omega,Ay];exact t3r) (by simp[ints];omega)];rw[show t+7=t+6+1 by omega,Bt,hset,h4]
 have hrefs:aC 7 (nx.set t (row.set j v))=aC 7 nx:=FJ (by rw[hrw];simp);have hlen:(nx.set t (row.set j v)).length=nx.length:=smp
 obtain⟨T7,h2',h7,g7,st_out,st_keep,st_trim⟩:=aEL (c:=c) (p:=p+1+1+1+1) (al:=al) (nx:=nx.set t (row.set j v)) (ac:=ac) t43 (by rw[hrefs,k4 _ om,t4]) (by rw[k4 _ om,t5]) (fun i r hr=>by
  rw[Cp]at hr
  by_cases e:t=i
  ·subst e;rw[if_pos rfl,if_pos ht]at hr;cases hr;exact g4
  ·rw[if_neg e]at hr;rw[k4 _ om];exact tr i r hr)
 unfold autD at st_out|-;rw[hlen]at st_out h7 g7|-;have hti:(t:Int)<nx.length:=om;have ht0:(0:Int)<=t:=om;have hn0:¬((nx.length:Int)=0):=om;have hji:(j:Int)<row.length:=om;have hj0:(0:Int)<=j:=om;have hr0:(0:Int)<row.length:=om;clear tr h1 wg k4 l4 hset hrow hrefs;obtain _|n:=n;omega
 simp-implicitDefEqProofs (maxSteps:=9^7) (disch:=try exact Dz) only[↓DN,↓kRet,UP,simprocAttr,↓kd1,↓kd2,↓kd3,↓kd4,↓kd5,l1,h2,b2,h3,l3,t4,tb,t3r,hti,ht0,hn0,hji,hj0,hr0,hd7,↓st_sto,t4b,t43,h7,g7,↓st_out,↓st_keep,↓st_trim,Bj,Ao,eT,eS,Tryz.f29]
end Ev
end Go.Proofs.YtppffbehejpglaaGreatDoor
