/-
  Memory of some shapes at the end of a round. Written by a program.
-/
import Derived.Test.YtppffbehejpglaaGreatShSf
import Derived.Test.YtppffbehejpglaaGreatWrongB
set_option linter.unusedSimpArgs false
set_option linter.unusedVariables false
set_option maxRecDepth 8000
set_option maxHeartbeats 4000000
namespace Go.Proofs.YtppffbehejpglaaGreat
namespace Ev
def N5(n:Nat)(ids:List Nat):Bool:=decide (ids=[4,n+9])
theorem aMO{n:Nat}{ke2:Nat}(he2:ke2=n+9):N5 n [4,ke2]=true:=by subst he2;simp[N5]
def A1(n i:Nat):Option Nat:=if i=0 then some 0 else if i=4 then some 1 else if i=n+9 then some 2 else none
theorem aHh{n:Nat}:A1 n 4=some (1):=by unfold A1;repeat (first|rfl|rw[if_pos rfl]|rw[if_neg om])
theorem aEp{n k:Nat}(h:k=n+9):A1 n k=some (2):=by subst h;unfold A1;repeat (first|rfl|rw[if_pos rfl]|rw[if_neg om])
theorem aR6{m:List Bool}{s:List A}{y1 y2 x0 x1:D}{o1:O}{k z:Nat}{cs:List D}{d:List (List Int)}(hl:d.length<=4294967296):gc 1 m s (.box [.d y1,.d y2]::o1::.arr [] 0 0::.arr [] 0 0::.box [.d x0,.sl 2 0 0 0,.sl 3 0 0 0]::.vec (aC 7 d++aH 0) 1 0::.arr cs 1 0::(aK d++[.arr [] 0 0,.arr [] 0 0,.box [.d x1,.sl 5 0 0 k,.sl 6 0 0 z]]))=match box (tidy m s)with
  |.mk s1=>if N5 d.length (idsL s1)=true/\z0As s1=true then(aF (A1 d.length) s1,.box [.d y1,.d y2]::.box [.d x0,.sl 3 0 0 0,.sl 4 0 0 0]::.box [.d x1,.sl 5 0 0 k,.sl 6 0 0 z]::.arr [] 0 0::.arr [] 0 0::.vec (aC 7 d++aH 0) 1 0::.arr cs 1 0::aK d)else gcO 1 m s (.box [.d y1,.d y2]::o1::.arr [] 0 0::.arr [] 0 0::.box [.d x0,.sl 2 0 0 0,.sl 3 0 0 0]::.vec (aC 7 d++aH 0) 1 0::.arr cs 1 0::(aK d++[.arr [] 0 0,.arr [] 0 0,.box [.d x1,.sl 5 0 0 k,.sl 6 0 0 z]]))
  |.no=>([],[]):=by
 simp only[box]
 split
 ·rename_i hc
  obtain⟨hb,hz⟩:=hc;have hids:idsL (tidy m s)=[4,d.length+9]:=by simpa [N5]using hb
  obtain⟨h,hh⟩:∃h:H,O.box [.d y1,.d y2]::o1::.arr [] 0 0::.arr [] 0 0::.box [.d x0,.sl 2 0 0 0,.sl 3 0 0 0]::.vec (aC 7 d++aH 0) 1 0::.arr cs 1 0::(aK d++[.arr [] 0 0,.arr [] 0 0,.box [.d x1,.sl 5 0 0 k,.sl 6 0 0 z]])=h:=⟨_,rfl⟩
  conv=>lhs;rw[hh]
  have g0:h[0]? =some (.box [.d y1,.d y2]):=by rw[<-hh];rfl
  have g2:h[2]? =some (.arr [] 0 0):=by rw[<-hh];rfl
  have g3:h[3]? =some (.arr [] 0 0):=by rw[<-hh];rfl
  have g4:h[4]? =some (.box [.d x0,.sl 2 0 0 0,.sl 3 0 0 0]):=by rw[<-hh];rfl
  have g5:h[5]? =some (.vec (aC 7 d++aH 0) 1 0):=by rw[<-hh];rfl
  have g6:h[6]? =some (.arr cs 1 0):=by rw[<-hh];rfl
  have hD:h.drop 7=aK d++[.arr [] 0 0,.arr [] 0 0,.box [.d x1,.sl 5 0 0 k,.sl 6 0 0 z]]:=by rw[<-hh];rfl
  have gr:=hZ 7 hD;have ge2:h[d.length+9]? =some (.box [.d x1,.sl 5 0 0 k,.sl 6 0 0 z]):=xV 7 2 hD rfl om;have k0:kids h (0)=[]:=by simp[kids,g0,idsL,idsA]
  have k4:kids h (4)=[2,3]:=by simp[kids,g4,idsL,idsA]
  have ke2:kids h (d.length+9)=[5,6]:=by simp[kids,ge2,idsL,idsA]
  have k2:kids h (2)=[]:=bN g2;have k3:kids h (3)=[]:=bN g3;have k5:kids h (5)=List.range' 7 d.length:=by simp[kids,g5,bL,bV,c8]
  have leaf:=iR gr;have hr:aE (aI+1) h [0,4,d.length+9] []=[0,4,d.length+9,2,3,5]++([6]++(List.range' 7 d.length++[])):=fR (by simp[k0,k4,ke2,k2,k3,k5]) (by intro q hq;simp only[Ae,Ac]at hq;have:q=0\/q=1\/q=2\/q=3\/q=4\/q=5:=om;rcases this with rfl|rfl|rfl|rfl|rfl|rfl<;>simp[k0,k4,ke2,k2,k3]) leaf (by intro i hi;simp at hi;subst hi;exact⟨_,_,_,by assumption⟩) (by intro i hi;simp at hi;rcases hi with rfl|rfl|rfl|rfl|rfl|rfl<;>exact⟨_,by assumption,by simp⟩) (by simp<;>omega) (by intro i hi;simp at hi;omega) (by simp only[aI,Ae,Ac];omega);generalize hord:[0,4,d.length+9,2,3,5]++([6]++(List.range' 7 d.length++[]))=ord at hr;have hA:ord=([0,4,d.length+9,2,3,5]++[6])++(List.range' 7 d.length++[]):=by rw[<-hord,Al]
  have pk:∀i j,ord[j]? =some i->aJ ord i=some j:=fun i j h1=>dE (by rw[<-hr];exact bU (aI+1) h _ [] sm) h1;have p0:=pk (0) 0 (by rw[<-hord];rfl);have p4:=pk (4) 1 (by rw[<-hord];rfl);have pe2:=pk (d.length+9) 2 (by rw[<-hord];rfl);have p2:=pk (2) 3 (by rw[<-hord];rfl);have p3:=pk (3) 4 (by rw[<-hord];rfl);have p5:=pk (5) 5 (by rw[<-hord];rfl);have p6:=pk (6) 6 (by rw[<-hord];rfl);have pr:=iX (C:=7) pk hA rfl;obtain⟨K,hK⟩:∃K:H,O.box [.d y1,.d y2]::.box [.d x0,.sl 3 0 0 0,.sl 4 0 0 0]::.box [.d x1,.sl 5 0 0 k,.sl 6 0 0 z]::.arr [] 0 0::.arr [] 0 0::.vec (aC 7 d++aH 0) 1 0::.arr cs 1 0::aK d=K:=⟨_,rfl⟩
  have hni:∀f,aF f (aH 0)=aH 0:=fun _=>rfl
  have hpk:pack h ord=K:=by
   have hrf:aF (aJ ord) (aC 7 d)=aC 7 d:=eI (c:=0) pr;rw[kP hA gr,<-hK];simp only[Ax,Ap,Ai,Ar,Aa,g0,g4,ge2,g2,g3,g5,g6,Bb,mapO,aF,mapA,cU,hrf,hni,p2,p3,p5,p6,Aj]
  have hKD:K.drop 7=aK d++[]:=by rw[<-hK];exact(Aj _).symm
  have hgr:=nD hKD
  have hcm:cG 0 K=.box [.d y1,.d y2]::.box [.d x0,.sl 3 0 0 0,.sl 4 0 0 0]::.box [.d x1,.sl 5 0 0 k,.sl 6 0 0 z]::.arr [] 0 0::.arr [] 0 0::.vec (aC 7 d++aH 0) 1 0::.arr cs 1 0::aK d:=by
   have hrf:aS 0 K (aC 7 d)=aC 7 d:=fC hgr;have hnc:∀h:H,aS 0 h (aH 0)=aH 0:=fun _=>rfl;have q3:bB K 3=some 0:=by rw[<-hK];rfl
   have q4:bB K 4=some 0:=by rw[<-hK];rfl
   have q5:bB K 5=some 0:=by rw[<-hK];rfl
   have q6:bB K 6=some 0:=by rw[<-hK];rfl
   unfold cG;rw[fD]
   conv=>lhs;arg 2;rw[<-hK]
   simp only[Ai,bY,aS,bM,hU,eB,hrf,hnc,fX,q3,q4,q5,q6,Ca,if_false,if_true]
  subst hK;rw[aEl hh hids hr,hpk,hcm]
  have hmp:aF (aJ ord) (tidy m s)=aF (A1 d.length) (tidy m s):=by
   apply kH;rw[hids];intro i hi;simp only[Av,Br,or_false]at hi
   rcases hi with rfl|rfl
   ·rw[p4,aHh]
   ·rw[pe2,aEp rfl]
  have hz2:aS 0 (O.box [.d y1,.d y2]::.box [.d x0,.sl 3 0 0 0,.sl 4 0 0 0]::.box [.d x1,.sl 5 0 0 k,.sl 6 0 0 z]::.arr [] 0 0::.arr [] 0 0::.vec (aC 7 d++aH 0) 1 0::.arr cs 1 0::aK d) (aF (aJ ord) (tidy m s))=aF (aJ ord) (tidy m s):=by
   exact kE (H4 (by simp[z0O,z0As,z0A,BZ,xZ,xC,G8])) _ (y9 _ hz)
  rw[hz2,hmp]
 ·rfl
theorem aRh{m:List Bool}{s:List A}{y1 y2 x0 x1:D}{k z:Nat}{r:List Int}{cs:List D}{d:List (List Int)}{p:H}(hl:d.length<=4294967296):gc 1 m s (.box [.d y1,.d y2]::.box [.d x0,.sl 3 0 0 0,.sl 4 0 0 0]::.box [.d x1,.sl 5 1 0 k,.sl 6 1 0 z]::.arr [] 0 0::.arr [] 0 0::.vec (aC 7 d++[.sl (d.length+7) 1 0 r.length]) 1 1::.arr cs 1 1::(aK d++.arr (ints r) 1 1::p))=match box (tidy m s)with
  |.mk s1=>if idsL s1=[1,2]then(aS 0 (.box [.d y1,.d y2]::.box [.d x0,.sl 3 0 0 0,.sl 4 0 0 0]::.box [.d x1,.sl 5 1 0 k,.sl 6 1 0 z]::.arr [] 0 0::.arr [] 0 0::.vec (aC 7 d++[.sl (d.length+7) 1 0 r.length]) 1 1::.arr cs 1 1::(aK d++[.arr (ints r) 1 1])) (s1),.box [.d y1,.d y2]::.box [.d x0,.sl 3 0 0 0,.sl 4 0 0 0]::.box [.d x1,.sl 5 0 0 k,.sl 6 0 0 z]::.arr [] 0 0::.arr [] 0 0::.vec (aC 7 d++[.sl (d.length+7) 0 0 r.length]) 1 0::.arr cs 1 0::(aK d++[.arr (ints r) 1 0]))else gcO 1 m s (.box [.d y1,.d y2]::.box [.d x0,.sl 3 0 0 0,.sl 4 0 0 0]::.box [.d x1,.sl 5 1 0 k,.sl 6 1 0 z]::.arr [] 0 0::.arr [] 0 0::.vec (aC 7 d++[.sl (d.length+7) 1 0 r.length]) 1 1::.arr cs 1 1::(aK d++.arr (ints r) 1 1::p))
  |.no=>([],[]):=by
 simp only[box]
 split
 ·rename_i hc
  have hb:=hc;have hids:idsL (tidy m s)=[1,2]:=by exact hb
  obtain⟨h,hh⟩:∃h:H,O.box [.d y1,.d y2]::.box [.d x0,.sl 3 0 0 0,.sl 4 0 0 0]::.box [.d x1,.sl 5 1 0 k,.sl 6 1 0 z]::.arr [] 0 0::.arr [] 0 0::.vec (aC 7 d++[.sl (d.length+7) 1 0 r.length]) 1 1::.arr cs 1 1::(aK d++.arr (ints r) 1 1::p)=h:=⟨_,rfl⟩
  conv=>lhs;rw[hh]
  have g0:h[0]? =some (.box [.d y1,.d y2]):=by rw[<-hh];rfl
  have g1:h[1]? =some (.box [.d x0,.sl 3 0 0 0,.sl 4 0 0 0]):=by rw[<-hh];rfl
  have g2:h[2]? =some (.box [.d x1,.sl 5 1 0 k,.sl 6 1 0 z]):=by rw[<-hh];rfl
  have g3:h[3]? =some (.arr [] 0 0):=by rw[<-hh];rfl
  have g4:h[4]? =some (.arr [] 0 0):=by rw[<-hh];rfl
  have g5:h[5]? =some (.vec (aC 7 d++[.sl (d.length+7) 1 0 r.length]) 1 1):=by rw[<-hh];rfl
  have g6:h[6]? =some (.arr cs 1 1):=by rw[<-hh];rfl
  have hD:h.drop 7=aK d++(.arr (ints r) 1 1::p):=by rw[<-hh];rfl
  have gr:=hZ 7 hD;have ge0:h[d.length+7]? =some (.arr (ints r) 1 1):=xV 7 0 hD rfl om;have k0:kids h (0)=[]:=by simp[kids,g0,idsL,idsA]
  have k1:kids h (1)=[3,4]:=by simp[kids,g1,idsL,idsA]
  have k2:kids h (2)=[5,6]:=by simp[kids,g2,idsL,idsA]
  have k3:kids h (3)=[]:=bN g3;have k4:kids h (4)=[]:=bN g4;have k5:kids h (5)=List.range' 7 d.length++[d.length+7]:=by simp[kids,g5,bL,bV,idsL,idsA]
  have leaf:=iR gr;have hr:aE (aI+1) h [0,1,2] []=[0,1,2,3,4,5]++([6]++(List.range' 7 d.length++[d.length+7])):=fR (by simp[k0,k1,k2,k3,k4,k5]) (by intro q hq;simp only[Ae,Ac]at hq;have:q=0\/q=1\/q=2\/q=3\/q=4\/q=5:=om;rcases this with rfl|rfl|rfl|rfl|rfl|rfl<;>simp[k0,k1,k2,k3,k4]) leaf (by intro i hi;simp at hi;rcases hi with rfl|rfl<;>exact⟨_,_,_,by assumption⟩) (by intro i hi;simp at hi;rcases hi with rfl|rfl|rfl|rfl|rfl|rfl<;>exact⟨_,by assumption,by simp⟩) (by simp<;>omega) (by intro i hi;simp at hi;omega) (by simp only[aI,Ae,Ac];omega);generalize hord:[0,1,2,3,4,5]++([6]++(List.range' 7 d.length++[d.length+7]))=ord at hr;have hA:ord=([0,1,2,3,4,5]++[6])++(List.range' 7 d.length++[d.length+7]):=by rw[<-hord,Al]
  have pk:∀i j,ord[j]? =some i->aJ ord i=some j:=fun i j h1=>dE (by rw[<-hr];exact bU (aI+1) h _ [] sm) h1;have p0:=pk (0) 0 (by rw[<-hord];rfl);have p1:=pk (1) 1 (by rw[<-hord];rfl);have p2:=pk (2) 2 (by rw[<-hord];rfl);have p3:=pk (3) 3 (by rw[<-hord];rfl);have p4:=pk (4) 4 (by rw[<-hord];rfl);have p5:=pk (5) 5 (by rw[<-hord];rfl);have p6:=pk (6) 6 (by rw[<-hord];rfl);have pr:=iX (C:=7) pk hA rfl;have pe0:=X0 (C:=7) pk hA rfl 0 (i:=d.length+7) (j:=d.length+7) rfl om;obtain⟨K,hK⟩:∃K:H,O.box [.d y1,.d y2]::.box [.d x0,.sl 3 0 0 0,.sl 4 0 0 0]::.box [.d x1,.sl 5 1 0 k,.sl 6 1 0 z]::.arr [] 0 0::.arr [] 0 0::.vec (aC 7 d++[.sl (d.length+7) 1 0 r.length]) 1 1::.arr cs 1 1::(aK d++[.arr (ints r) 1 1])=K:=⟨_,rfl⟩
  have hni:∀f,aF f (aH 0)=aH 0:=fun _=>rfl
  have hpk:pack h ord=K:=by
   have hrf:aF (aJ ord) (aC 7 d)=aC 7 d:=eI (c:=0) pr;rw[kP hA gr,<-hK];simp only[Ax,Ap,Ai,Ar,Aa,g0,g1,g2,g3,g4,g5,g6,ge0,Bb,mapO,aF,mapA,cU,hrf,p3,p4,p5,p6,pe0]
  have hKD:K.drop 7=aK d++[.arr (ints r) 1 1]:=by rw[<-hK];rfl
  have hgr:=nD hKD;have hge0:bB K (d.length+7)=some 1:=by simp only[bB,xV 7 0 hKD rfl (j:=d.length+7) om]
  have hcm:cG 0 K=.box [.d y1,.d y2]::.box [.d x0,.sl 3 0 0 0,.sl 4 0 0 0]::.box [.d x1,.sl 5 0 0 k,.sl 6 0 0 z]::.arr [] 0 0::.arr [] 0 0::.vec (aC 7 d++[.sl (d.length+7) 0 0 r.length]) 1 0::.arr cs 1 0::(aK d++[.arr (ints r) 1 0]):=by
   have hrf:aS 0 K (aC 7 d)=aC 7 d:=fC hgr;have hnc:∀h:H,aS 0 h (aH 0)=aH 0:=fun _=>rfl;have q3:bB K 3=some 0:=by rw[<-hK];rfl
   have q4:bB K 4=some 0:=by rw[<-hK];rfl
   have q5:bB K 5=some 1:=by rw[<-hK];rfl
   have q6:bB K 6=some 1:=by rw[<-hK];rfl
   unfold cG;rw[fD]
   conv=>lhs;arg 2;rw[<-hK]
   simp only[Ai,Cw,Ar,bY,aS,bM,hU,eB,hrf,fX,q3,q4,q5,q6,hge0,Ca,if_false,if_true]
  subst hK;rw[aEl hh hids hr,hpk,hcm]
  have hmp:aF (aJ ord) (tidy m s)=tidy m s:=by
   apply fG;rw[hids];intro i hi;simp only[Av,Br,or_false]at hi
   rcases hi with rfl|rfl
   ·exact p1
   ·exact p2
  rw[hmp]
 ·rfl
theorem aSJ{m:List Bool}{s:List A}{y1 y2 x0 x1:D}{k z:Nat}{r:List Int}{cs:List D}{d:List (List Int)}{p:H}(hl:d.length<=4294967296):gc 1 m s (.box [.d y1,.d y2]::.box [.d x0,.sl 3 0 0 0,.sl 4 0 0 0]::.box [.d x1,.sl 5 1 0 k,.sl 6 1 0 z]::.arr [] 0 0::.arr [] 0 0::.vec (aC 7 d++[.sl (d.length+7) 1 0 r.length]) 1 1::.arr cs 1 1::(aK d++.arr (ints r) 1 1::p))=match box (tidy m s)with
  |.mk s1=>if idsL s1=[1,2]then(s1,.box [.d y1,.d y2]::.box [.d x0,.sl 3 0 0 0,.sl 4 0 0 0]::.box [.d x1,.sl 5 0 0 k,.sl 6 0 0 z]::.arr [] 0 0::.arr [] 0 0::.vec (aC 7 (d++[r])++aH 0) 1 0::.arr cs 1 0::aK (d++[r]))else gcO 1 m s (.box [.d y1,.d y2]::.box [.d x0,.sl 3 0 0 0,.sl 4 0 0 0]::.box [.d x1,.sl 5 1 0 k,.sl 6 1 0 z]::.arr [] 0 0::.arr [] 0 0::.vec (aC 7 d++[.sl (d.length+7) 1 0 r.length]) 1 1::.arr cs 1 1::(aK d++.arr (ints r) 1 1::p))
  |.no=>([],[]):=by
 have hn:aH 0=[]:=rfl;rw[aRh hl,<-NR,GL,hn,Aj,Nat.add_comm 7];have hc:=pC (nf:=0) (h:=.box [.d y1,.d y2]::.box [.d x0,.sl 3 0 0 0,.sl 4 0 0 0]::.box [.d x1,.sl 5 1 0 k,.sl 6 1 0 z]::.arr [] 0 0::.arr [] 0 0::.vec (aC 7 d++[.sl (d.length+7) 1 0 r.length]) 1 1::.arr cs 1 1::(aK d++[.arr (ints r) 1 1])) (tidy m s);simp only[box]
 split
 ·rename_i hid
  rw[hc (by rw[hid];intro i hi;simp at hi;rcases hi with rfl|rfl<;>rfl)]
 ·rfl
theorem aJz{α:Type}{d:List α}{x:α}{j:Nat}:d++[x]++List.replicate j x=d++List.replicate (j+1) x:=by
 rw[Al,List.replicate_succ];rfl
theorem aFI{R:Type}{L n:Nat}{y1 y2 x0:D}{al n0:Int}(hn0:0<n0){row:List Int}(hrl:row.length<=4294967290){k:KE R}:∀(j m:Nat) (d:List (List Int)) (ac:List Bool) (len len2:Nat) (hj:d.length+j=13\/j=0/\13<=d.length) (hm:j<m) (hd:d[0]? =some row) (hlen:len=d.length) (hlen2:len2=ac.length) (ha:ac.length+j<=4294967290) (hdl:d.length<=4294967290),
  aR env (aA env L n) L 1 (W32 (W32 (W16 (W2 (W1 [1002,0,0,0,0,0,0,0,0,0,0,0,0,0,0,0,0,0,0,0,0,0,1002]))))) Bz19 (yB 0) Bz39 m (Y4 (.ptr 1 0 0::.ptr 2 0 0::nI n0::Y32 (Y32 (Y32 (Y8 (Y2 (Y1 ([])))))))) (.box [.d y1,.d y2]::.box [.d x0,.sl 3 0 0 0,.sl 4 0 0 0]::.box [nI al,.sl 5 0 0 len,.sl 6 0 0 len2]::.arr [] 0 0::.arr [] 0 0::.vec (aC 7 d++aH 0) 1 0::.arr (aD ac) 1 0::aK d) k
  =k (.exit 1) (Y4 (.ptr 1 0 0::.ptr 2 0 0::nI n0::Y32 (Y32 (Y32 (Y8 (Y2 (Y1 ([])))))))) (.box [.d y1,.d y2]::.box [.d x0,.sl 3 0 0 0,.sl 4 0 0 0]::.box [nI al,.sl 5 0 0 (d.length+j),.sl 6 0 0 (ac.length+j)]::.arr [] 0 0::.arr [] 0 0::.vec (aC 7 (d++List.replicate j row)++aH 0) 1 0::.arr (aD (ac++List.replicate j false)) 1 0::aK (d++List.replicate j row)):=by
 intro j
 induction j with
 |zero=>
  intro m d ac len len2 hj hm hd hlen hlen2 ha hdl;obtain _|m:=m;omega;have hc:¬((d.length:Int)<=12):=om;have hdl2:d.length<=4294967296:=om;subst hlen;subst hlen2;simp only[List.replicate_zero,Aj,Bv]
  simp-implicitDefEqProofs (maxSteps:=9^7) (disch:=try exact Dz) only[↓DN,↓kRet,UP,simprocAttr,hn0,hc,↓GZ,z0As,z0A,eq_self,sN,r9,wZ,wE,Tryz.f29]
 |succ j ih=>
  intro m d ac len len2 hj hm hd hlen hlen2 ha hdl;obtain _|m:=m;omega;have hc:(d.length:Int)<=12:=om;subst hlen;subst hlen2;have hpos:0<d.length:=(Au.1 hd).1;have ih':=ih m (d++[row]) (ac++[false]) (d.length+1) (ac.length+1) (by simp;omega) om (by rw[Bc hpos];exact hd) sm sm (by simp;omega) (by simp;omega);rw[aJz,aJz]at ih';simp only[Af,Ae,Ac,Ag]at ih';rw[show d.length+1+j=d.length+(j+1) by omega,show ac.length+1+j=ac.length+(j+1) by omega]at ih';clear ih
  have hh0:(aC 7 d++aH 0).head? =some (.sl 7 0 0 row.length):=by
   cases d with
   |nil=>simp at hd
   |cons r d=>simp at hd;subst hd;rfl
  have hlv:(aC 7 d++aH 0).length=d.length:=by rw[Af,gB];rfl
  have ht:(aC 7 d++aH 0).take d.length=aC 7 d:=F2 rfl;obtain⟨T0,e0⟩:∃T:H,T=(.box [.d x0,.sl 3 0 0 0,.sl 4 0 0 0]::.box [nI al,.sl 5 0 0 d.length,.sl 6 0 0 ac.length]::.arr [] 0 0::.arr [] 0 0::.vec (aC 7 d++aH 0) 1 0::.arr (aD ac) 1 0::aK d):=⟨_,rfl⟩
  have l0:T0.length=d.length+6:=by rw[e0];simp[cD]
  have t01:T0[1]? =some (.box [nI al,.sl 5 0 0 d.length,.sl 6 0 0 ac.length]):=by rw[e0];rfl
  have t04:T0[4]? =some (.vec (aC 7 d++aH 0) 1 0):=by rw[e0];rfl
  have t05:T0[5]? =some (.arr (aD ac) 1 0):=by rw[e0];rfl
  have t0r:∀(i:Nat) (r:List Int),d[i]? =some r->T0[i+6]? =some (.arr (ints r) 1 0):=by
   intro i r hr;rw[e0];simp only[Aw];have:=G0 (p:=[]) hr
   rwa [Aj]at this
  have w0:wgt T0<=d.length+4:=by
   rw[e0];simp only[lO,IP,dR,idsL,idsA,bL,bV,c8,Af,Dx,Ae,Ac,Aj];omega
  obtain⟨T1,h1⟩:∃T,T0++[.arr [] 1 0]=T:=⟨_,rfl⟩
  obtain⟨l1,g1,k1⟩:=jF h1;rw[l0]at l1 g1 k1;have w1:wgt T1=wgt T0:=by rw[<-h1,B2];simp[dR]
  obtain⟨T2,h2⟩:∃T,T1.set (d.length+6) (.arr (ints row) 1 1)=T:=⟨_,rfl⟩
  obtain⟨l2,g2,k2⟩:=cC h2 om;have w2:wgt T2<=wgt T1:=by rw[<-h2];have:=jO (h:=T1) (i:=d.length+6) (o:=.arr (ints row) 1 1);simpa [dR]using this
  obtain⟨T3,h3⟩:∃T,T2++[.vec [.sl (d.length+7) 1 0 row.length] 1 0]=T:=⟨_,rfl⟩
  obtain⟨l3,g3,k3⟩:=jF h3;rw[l2,l1]at l3 g3 k3;have w3:wgt T3=wgt T2+1:=by rw[<-h3,B2];simp[dR,idsL,idsA]
  obtain⟨T4,h4⟩:∃T,T3.set 4 (.vec (aC 7 d++[.sl (d.length+7) 1 0 row.length]) 1 1)=T:=⟨_,rfl⟩
  obtain⟨l4,g4,k4⟩:=cC h4 om
  have w4:wgt T4<=wgt T3+d.length+1:=by
   rw[<-h4];have:=jO (h:=T3) (i:=4) (o:=.vec (aC 7 d++[.sl (d.length+7) 1 0 row.length]) 1 1);simp only[dR,bL,bV,idsL,idsA,Af,Dx,Ae,Ac]at this;omega
  obtain⟨T5,h5⟩:∃T,T4.set 1 (.box [nI al,.sl 5 1 0 (d.length+1),.sl 6 0 0 ac.length])=T:=⟨_,rfl⟩
  obtain⟨l5,g5,k5⟩:=cC h5 om;obtain⟨T6,h6⟩:∃T,T5++[.arr [.bool false] 1 0]=T:=⟨_,rfl⟩
  obtain⟨l6,g6,k6⟩:=jF h6;rw[l5,l4,l3]at l6 g6 k6;obtain⟨T7,h7⟩:∃T,T6.set 5 (.arr (aD (ac++[false])) 1 1)=T:=⟨_,rfl⟩
  obtain⟨l7,g7,k7⟩:=cC h7 om;obtain⟨T8,h8⟩:∃T,T7.set 1 (.box [nI al,.sl 5 1 0 (d.length+1),.sl 6 1 0 (ac.length+1)])=T:=⟨_,rfl⟩
  have e8:T8=.box [.d x0,.sl 3 0 0 0,.sl 4 0 0 0]::.box [nI al,.sl 5 1 0 (d.length+1),.sl 6 1 0 (ac.length+1)]::.arr [] 0 0::.arr [] 0 0::.vec (aC 7 d++[.sl (d.length+7) 1 0 row.length]) 1 1::.arr (aD (ac++[false])) 1 1::(aK d++.arr (ints row) 1 1::.vec [.sl (d.length+7) 1 0 row.length] 1 0::[.arr [.bool false] 1 0]):=by
   rw[<-h8,<-h7,<-h6,<-h5,<-h4,<-h3,<-h2,<-h1,e0];simp only[Ax,Al,Ap,Bq,Ci];rw[aA7 rfl];simp only[Ax,Al,Ap]
  have st_gc:∀ {mk:List Bool} {s:List A},gc 1 mk s (.box [.d y1,.d y2]::T8)=match box (tidy mk s)with
    |.mk s1=>if idsL s1=[1,2]then(s1,.box [.d y1,.d y2]::.box [.d x0,.sl 3 0 0 0,.sl 4 0 0 0]::.box [nI al,.sl 5 0 0 (d.length+1),.sl 6 0 0 (ac.length+1)]::.arr [] 0 0::.arr [] 0 0::.vec (aC 7 (d++[row])++aH 0) 1 0::.arr (aD (ac++[false])) 1 0::aK (d++[row]))else gcO 1 mk s (.box [.d y1,.d y2]::T8)
    |.no=>([],[]):=by
   intro mk s;rw[e8];exact aSJ om
  have st_app1:∀ {call:aX} {thaw:List Nat} {dst:Option Tmp} {args:Array Operand},memD env call thaw dst (.call ⟨.builtin .append,args,#[58,58]⟩) (.box [.d y1,.d y2]::T1) [.sl (d.length+6+1) 0 0 0,.sl 7 0 0 row.length]=some (.sl (d.length+7) 1 0 row.length,.box [.d y1,.d y2]::T2,{ ids:=[d.length+7,7],ro:=false,wr:=[d.length+7]}):=by
   intro call thaw dst args;have h7r:T1[6]? =some (.arr (ints row) 1 0):=by rw[k1 _ om];exact t0r 0 row hd
   rw[MI (e:=3) (e0:=1) (n2:=row.length) (len:=0) (cs:=[]) (src:=ints row) rfl YB kr (by rw[Aw];exact g1) (.inr rfl) (by rw[Aw];exact h7r) (by simp[ints]) sm (by unfold bH;omega) om];rw[Bq,<-h2];simp
  have st_vec:∀ {call:aX} {thaw:List Nat} {dst:Option Tmp} {x:Operand},Shut ((keeps thaw dst&& !logs thaw dst)=true)->memD env call thaw dst (.buildSlice 23 1 #[(0,x)]) (.box [.d y1,.d y2]::T2) [.sl (d.length+7) 1 0 row.length]=some (.sl (d.length+8) 0 0 1,.box [.d y1,.d y2]::T3,{ ids:=[d.length+7,d.length+8],ro:=false}):=by
   intro call thaw dst x hk;rw[aG5 (e:=58) (cs:=ints row) (es:=1) hk.it rfl kr VB kr (by rw[show d.length+7=d.length+6+1 by omega,Aw];exact g2)];rw[Ax,h3,Ae,l2,l1]
  have ok_row:∀(T:H) (i:Nat) (r:List Int) (g:Nat),T[i+6]? =some (.arr (ints r) 1 g)->Okay (.box [.d y1,.d y2]::T) (i+7):=by
   intro T i r g hr;have hg:(O.box [.d y1,.d y2]::T)[i+7]? =some (.arr (ints r) 1 g):=by rw[show i+7=i+6+1 by omega,Aw];exact hr
   exact .mk _ _ hg sm (by rw[bN hg];simp)
  have t3r:∀(i:Nat) (r:List Int),d[i]? =some r->T3[i+6]? =some (.arr (ints r) 1 0):=by
   intro i r hr;have hi:i<d.length:=(Au.1 hr).1;rw[k3 _ om,k2 _ om,k1 _ om];exact t0r i r hr
  have t3e:T3[d.length+6]? =some (.arr (ints row) 1 1):=by rw[k3 _ om];exact g2
  have t34:T3[4]? =some (.vec (aC 7 d++aH 0) 1 0):=by rw[k3 _ om,k2 _ om,k1 _ om,t04]
  have g3':T3[d.length+7]? =some (.vec [.sl (d.length+7) 1 0 row.length] 1 0):=g3
  have ok35:Okay (.box [.d y1,.d y2]::T3) 5:=by
   have hg:(O.box [.d y1,.d y2]::T3)[5]? =some (.vec (aC 7 d++aH 0) 1 0):=t34;refine .mk _ _ hg sm ?_;intro q hq;have:kids (.box [.d y1,.d y2]::T3) 5=List.range' 7 d.length:=by simp only[kids,hg,bL,bV,c8,Aj]
   rw[this,Ct]at hq;obtain⟨z,rfl⟩:∃z,q=z+7:=⟨q-7,by omega⟩
   exact ok_row T3 z (d[z]'om) 0 (t3r _ _ (Ad _))
  have ok3e:Okay (.box [.d y1,.d y2]::T3) (d.length+8):=by
   have hg:(O.box [.d y1,.d y2]::T3)[d.length+8]? =some (.vec [.sl (d.length+7) 1 0 row.length] 1 0):=g3';refine .mk _ _ hg sm ?_;intro q hq;have:kids (.box [.d y1,.d y2]::T3) (d.length+8)=[d.length+7]:=by simp[kids,hg,idsL,idsA]
   rw[this]at hq;simp at hq;subst hq;exact ok_row T3 d.length row 1 t3e
  obtain⟨o1,ho1⟩:∃o,o=aE aI (.box [.d y1,.d y2]::T3) [5,d.length+8] []:=⟨_,rfl⟩
  have st_app2:∀ {call:aX} {thaw:List Nat} {dst:Option Tmp} {args:Array Operand},memD env call thaw dst (.call ⟨.builtin .append,args,#[23,23]⟩) (.box [.d y1,.d y2]::T3) [.sl 5 0 0 d.length,.sl (d.length+8) 0 0 1]=some (.sl 5 1 0 (d.length+1),.box [.d y1,.d y2]::T4,{ ids:=o1,ro:=false,wr:=[5]}):=by
   intro call thaw dst args;rw[UK (e:=58) rfl VB kr (id:=5) (id2:=d.length+8) (g:=0) (g2:=0) (len:=d.length) (cs:=aC 7 d++aH 0) (c:=.sl (d.length+7) 1 0 row.length) t34 g3' om (by unfold bH;omega) ok35 ok3e (by rw[lO];simp only[dR,idsL,idsA,Ap,Ac];omega),<-ho1,ht];rw[Bq,h4]
  have t41:T4[1]? =some (.box [nI al,.sl 5 0 0 d.length,.sl 6 0 0 ac.length]):=by rw[k4 _ om,k3 _ om,k2 _ om,k1 _ om,t01]
  have t45:T4[5]? =some (.arr (aD ac) 1 0):=by rw[k4 _ om,k3 _ om,k2 _ om,k1 _ om,t05]
  have ok45:Okay (.box [.d y1,.d y2]::T4) 5:=by
   have hg:(O.box [.d y1,.d y2]::T4)[5]? =some (.vec (aC 7 d++[.sl (d.length+7) 1 0 row.length]) 1 1):=g4;refine .mk _ _ hg sm ?_;intro q hq;have:kids (.box [.d y1,.d y2]::T4) 5=List.range' 7 d.length++[d.length+7]:=by simp only[kids,hg,bL,bV,idsL,idsA,Aj]
   rw[this,Am,Ct]at hq
   rcases hq with hq|hq
   ·obtain⟨z,rfl⟩:∃z,q=z+7:=⟨q-7,by omega⟩
    exact ok_row T4 z (d[z]'om) 0 (by rw[k4 _ om];exact t3r _ _ (Ad _))
   ·simp at hq;subst hq;exact ok_row T4 d.length row 1 (by rw[k4 _ om];exact t3e)
  have ok46:Okay (.box [.d y1,.d y2]::T4) 6:=by
   have hg:(O.box [.d y1,.d y2]::T4)[6]? =some (.arr (aD ac) 1 0):=t45;exact .mk _ _ hg sm (by rw[bN hg];simp)
  have ok42:Okay (.box [.d y1,.d y2]::T4) 2:=by
   have hg:(O.box [.d y1,.d y2]::T4)[2]? =some (.box [nI al,.sl 5 0 0 d.length,.sl 6 0 0 ac.length]):=t41;refine .mk _ _ hg sm ?_;intro q hq;have:kids (.box [.d y1,.d y2]::T4) 2=[5,6]:=by simp[kids,hg,idsL,idsA]
   rw[this]at hq;simp at hq
   rcases hq with rfl|rfl
   ·exact ok45
   ·exact ok46
  obtain⟨o2,ho2⟩:∃o,o=aE aI (.box [.d y1,.d y2]::T4) [2,5] []:=⟨_,rfl⟩
  have st_sto:∀ {call:aX} {thaw:List Nat} {dst:Option Tmp} {x y:Operand},memD env call thaw dst (.store 23 x y) (.box [.d y1,.d y2]::T4) [.ptr 2 0 1,.sl 5 1 0 (d.length+1)]=some (.d .undef,.box [.d y1,.d y2]::T5,{ ids:=o2,ro:=false,wr:=o2}):=by
   intro call thaw dst x y;rw[u5 kr kr (h:=.box [.d y1,.d y2]::T4) (id:=2) (id2:=5) (off:=1) (cs:=[nI al,.sl 5 0 0 d.length,.sl 6 0 0 ac.length]) t41 sm ok42 ok45 (by rw[lO];simp only[dR,idsL,idsA,Ap,Ac];omega),<-ho2];rw[Bq];unfold bI;rw[<-h5];rfl
  have hclash:∀(ops:List Oper),oO [(1,2),(2,4),(2,5),(2,6),(1,7),(1,8)] ops [{},{ ids:=[2],ro:=true},{ ids:=[d.length+6+1],ro:=false},{},{ ids:=[2],ro:=true},{ ids:=[5],ro:=true},{ ids:=[5],ro:=true},{ ids:=[d.length+7,7],ro:=false,wr:=[d.length+7]},{ ids:=[d.length+7,d.length+8],ro:=false},{ ids:=o1,ro:=false,wr:=[5]},{},{ ids:=o2,ro:=false,wr:=o2}]=true->eG ops [{},{ ids:=[2],ro:=true},{ ids:=[d.length+6+1],ro:=false},{},{ ids:=[2],ro:=true},{ ids:=[5],ro:=true},{ ids:=[5],ro:=true},{ ids:=[d.length+7,7],ro:=false,wr:=[d.length+7]},{ ids:=[d.length+7,d.length+8],ro:=false},{ ids:=o1,ro:=false,wr:=[5]},{},{ ids:=o2,ro:=false,wr:=o2}]=true:=by
   intro ops hm;refine zA _ hm ?_;intro q hq;simp only[Av,Br,or_false]at hq
   rcases hq with rfl|rfl|rfl|rfl|rfl|rfl<;>simp[j8]<;>omega
  have t5b:T5[5]? =some (.arr (aD ac) 1 0):=by rw[k5 _ om,t45]
  have t65:T6[5]? =some (.arr (aD ac) 1 0):=by rw[k6 _ om,t5b]
  have t71:T7[1]? =some (.box [nI al,.sl 5 1 0 (d.length+1),.sl 6 0 0 ac.length]):=by rw[k7 _ om,k6 _ om,g5]
  have t61:T6[1]? =some (.box [nI al,.sl 5 1 0 (d.length+1),.sl 6 0 0 ac.length]):=by rw[k6 _ om,g5]
  have hp0:(0:Int)<d.length:=om;have t11:T1[1]? =some (.box [nI al,.sl 5 0 0 d.length,.sl 6 0 0 ac.length]):=by rw[k1 _ om,t01]
  have t14:T1[4]? =some (.vec (aC 7 d++aH 0) 1 0):=by rw[k1 _ om,t04]
  have l5':T5.length=d.length+8:=om;rw[<-e0];clear k1 k2 k3 k4 k5 k6 k7 w0 w1 w2 w3 w4 ok35 ok3e ok45 ok46 ok42 ok_row t3r t3e ho1 ho2 e0 e8 l1 l2 l3 l4 l5 l6 l7 hlv ht hd hpos t0r g3 g3'
  simp-implicitDefEqProofs (maxSteps:=9^7) (disch:=try exact Dz) only[↓DN,↓kRet,UP,simprocAttr,LA,hn0,hc,hp0,l0,t01,h1,t11,t14,hh0,↓st_app1,↓st_vec,↓st_app2,↓st_sto,g5,l5',h6,g6,t65,h7,t71,h8,vP,↓st_gc,↓ih',wZ,wE,Tryz.f29]
theorem aLp{c:List UInt8}(hc:c.length<=2000)(al:Int)(nx:List (List Int))(ac:List Bool)(hs:aY nx)(h1:1<=nx.length)(ha:ac.length<=4294967000)(hnl2:nx.length<=4294967000)(p t:Int){row:List Int}(hrow:nx[0]? =some row)(hrl:row.length<=4294967290)(j:Nat)(hj:nx.length+j=13\/j=0/\13<=nx.length)
  (kd1:(Dw 1 12 [nI (nx.length)] (nI t) c p (p+1)))
  (kd2:(Dw 1 12 [nI 30] (nI 5) c (p+1) (p+1+1))):(Dw 4 29 [autD al nx ac] (autD al (nx++List.replicate j row) (ac++List.replicate j false)) c p (p+1+1)):=by
 intro R L n hq k hn hL;refine b5 jG (by simp[autD,idsA,idsL]) (by simp[autD,idsA,idsL]) ?_;have hnl:=hs.1;obtain⟨N,T1,T2,T3,w⟩:=kO (.box [nI al,.d (.ivs nx.length (aG nx)),.d (.ivs ac.length (aD ac))]) (.box [nI 0,.sl 2 0 0 0,.sl 3 0 0 0]) al nx ac;have kd3:=fun {R:Type} {n:Nat} {o1:O} {k:KA R} (hn:2<=n)=>mQ (R:=R) (L:=L) (n:=n) (o1:=o1) (al:=al) (k:=k) w.h1 hs h1 om hn hL;obtain⟨hN,hT1,l1,h2,b2,h3,l3,t3,t4,t5,tr,tb,e3,wg⟩:=w;clear hT1
 have st_gc:∀ {y1 y2:D} {mk:List Bool} {s:List A},gc 1 mk s (.box [.d y1,.d y2]::T3)=match box (tidy mk s)with
   |.mk s1=>if N5 nx.length (idsL s1)=true/\z0As s1=true then(aF (A1 nx.length) s1,.box [.d y1,.d y2]::.box [nI 0,.sl 3 0 0 0,.sl 4 0 0 0]::.box [nI al,.sl 5 0 0 nx.length,.sl 6 0 0 ac.length]::.arr [] 0 0::.arr [] 0 0::.vec (aC 7 nx++aH 0) 1 0::.arr (aD ac) 1 0::aK nx)else gcO 1 mk s (.box [.d y1,.d y2]::T3)
   |.no=>([],[]):=by
  intro y1 y2 mk s;rw[e3];exact aR6 om
 have loop_a:=fun {R:Type} {n:Nat} {y1 y2 x0:D} {k:KE R}=>aFI (R:=R) (L:=L) (n:=n) (y1:=y1) (y2:=y2) (x0:=x0) (al:=al) (n0:=nx.length) (k:=k) om hrl j L nx ac nx.length ac.length hj om hrow rfl rfl om om;have hl1:(nx++List.replicate j row).length=nx.length+j:=sm;have hl2:(ac++List.replicate j false).length=ac.length+j:=sm;generalize nx++List.replicate j row=nx2 at *;generalize ac++List.replicate j false=ac2 at *;obtain⟨T9,e9⟩:∃T:H,.box [nI al,.sl 5 0 0 (nx.length+j),.sl 6 0 0 (ac.length+j)]::.box [nI al,.sl 5 0 0 (nx.length+j),.sl 6 0 0 (ac.length+j)]::.arr [] 0 0::.arr [] 0 0::.vec (aC 7 nx2++aH 0) 1 0::.arr (aD ac2) 1 0::aK nx2=T:=⟨_,rfl⟩
 have g9:T9[0]? =some (.box [nI al,.sl 5 0 0 (nx.length+j),.sl 6 0 0 (ac.length+j)]):=by rw[<-e9];rfl
 have hv:rd1 (rdO c (p+1+1)::T9) (.sl 5 0 0 (nx.length+j))=some (.ivs nx2.length (aG nx2)):=by
  refine xD (cs:=aC 7 nx2++aH 0) (by rw[<-e9];rfl) (HM fun i r hr=> ?_) hl1.symm;rw[<-e9];simp only[Aw];have:=G0 (p:=[]) hr
  rwa [Aj]at this
 have hw:rd1 (rdO c (p+1+1)::T9) (.sl 6 0 0 (ac.length+j))=some (.ivs ac2.length (aD ac2)):=oD (by rw[<-e9];rfl) hl2.symm;obtain⟨h2',st_out,st_keep,st_trim⟩:=sR (al:=al) hv hw om om;unfold autD at st_out|-;have hke:N+1+1+1=nx.length+9:=om;clear hv hw tr h1 wg e3 hrow;obtain _|n:=n;omega
 simp-implicitDefEqProofs (maxSteps:=9^7) (disch:=try exact Dz) only[↓DN,↓kRet,UP,simprocAttr,↓kd1,↓kd2,↓kd3,l1,h2,b2,h3,tb,↓st_gc,aMO,aHh,aEp,z0As,z0A,eq_self,↓loop_a,e9,g9,↓st_out,↓st_keep,↓st_trim,Al,cY,c9,Tryz.f29]
end Ev
end Go.Proofs.YtppffbehejpglaaGreat
