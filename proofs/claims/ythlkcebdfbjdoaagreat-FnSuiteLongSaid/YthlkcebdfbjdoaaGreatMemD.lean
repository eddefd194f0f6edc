/-
  The exact laws' own functions, at automata: sizes, marks, what is held, copies.
-/
import Derived.Test.YthlkcebdfbjdoaaGreatBlock
set_option linter.unusedSimpArgs false
set_option linter.unusedVariables false
set_option maxRecDepth 8000
set_option maxHeartbeats 4000000
namespace Go.Proofs.YthlkcebdfbjdoaaGreat
namespace Ev
def aO:List (List Int)->Nat
 | []=>0
 |r::rs=>r.length+aO rs
section
section
variable{h h2:H}{nf:Nat}(hn:nf=h.length)(hk:∀o∈h,∀j∈d5 o,j<nf)
include hn hk
end
theorem aBE{b k:Nat}:∀ {rs:List (List Int)} {b k:Nat},k<rs.length->((aC b rs++aF 0).drop k).head? =some (.sl (b+k) 0 0 (rs.getD k []).length)
 | [],b,k,h=>by simp at h
 |r::rs,b,0,h=>by simp[aC]
 |r::rs,b,k+1,h=>by
  simp only[aC,Av,Dg];rw[aBE (b:=b) (k:=k) (by simpa using h)];simp only[List.getD_cons_succ]
  congr 2
  omega
theorem aFI{d:List (List Int)}{k:Nat}(h:k<d.length):(aH d)[k]? =some (.arr (ints (d.getD k [])) 1 0):=by
 rw[Aa,Ae h];exact OO (Ae h)
theorem aJv{d:List (List Int)}{k:Nat}{r:List Int}:(aH d).set k (.arr (ints r) 1 0)=aH (d.set k r):=by
 unfold aH;rw[List.map_set];rfl
end
section
theorem KK{m:List Bool}{s:List A}{h:H}{ord:List Nat}(hr:aD aG h (idsL (tidy m s)) []=ord):gc 0 m s h=(aU 0 (pack h ord) (aE (aI ord) (tidy m s)),cE 0 (pack h ord)):=by
 unfold gc trim;rw[NV];unfold aG at hr;rw[hr]
theorem fA{h:H}:∀(os:H) (i:Nat),dS 0 h i os=os.map (bW 0 h 0)
 | [],_=>rfl
 |o::os,i=>by
  simp only[dS,Ah,fA os (i+1)]
  cases o<;>simp[bW]
theorem fT{h:H}{rs:List (List Int)}:(aH rs).map (bW 0 h 0)=aH rs:=by
 simp[aH,bW]
theorem eG{nf:Nat}{h:H}:∀(xs ys:List A),aU nf h (xs++ys)=aU nf h xs++aU nf h ys
 | [],ys=>by simp[aU]
 |x::xs,ys=>by simp[aU,eG xs ys]
theorem fB{h:H}:∀ {rs:List (List Int)} {b:Nat},(∀i,i<rs.length->a6 h (b+i)=some 0)->aU 0 h (aC b rs)=aC b rs
 | [],b,_=>by simp[aC,aU]
 |r::rs,b,hh=>by
  have h0:=hh 0 (by simp);simp only[Br]at h0;simp only[aC,aU,bM,gC,Bv,if_false,h0,if_true]
  rw[fB (rs:=rs) (b:=b+1) fun i hi=>by
   rw[show b+1+i=b+(i+1) by omega];exact hh (i+1) (by simp;omega)]
theorem aKJ{f:Nat->Option Nat}{h:H}{b:Nat}{rs:List (List Int)}(hh:∀(i:Nat) (r:List Int),rs[i]? =some r->h[b+i]? =some (.arr (ints r) 1 0)):(List.range' b rs.length).map (fun i=>mapO f (h.getD i default))=aH rs:=aA5 hh
theorem B3{rs:List (List Int)}{p:H}{i:Nat}{r:List Int}(h:rs[i]? =some r):(aH rs++p)[i]? =some (.arr (ints r) 1 0):=by
 rw[Ba (by rw[cA];exact pT h)];exact OO h
theorem BE{b k:Nat}{rs:List (List Int)}(h:k=rs.length):(aC b rs++aF 0).take k=aC b rs:=by
 have hn:aF 0=[]:=rfl;rw[hn,Ai,Cf (by rw[fQ];omega)]
section
variable{x0 x1:D}{k z:Nat}{cs cr:List D}{d:List (List Int)}{p:H}
theorem bN{h:H}{i:Nat}{r:List D}{e g:Nat}(hr:h[i]? =some (.arr r e g)):kids h i=[]:=by simp only[kids,hr]
mutual
theorem aLe{f g:Nat->Option Nat}:∀a:A,(∀i∈idsA a,f i=g i)->mapA f a=mapA g a
 |.d x,_=>by simp only[mapA]
 |.sl id gen off len,hi=>by simp only[mapA,hi id (by simp[idsA])]
 |.ptr id gen off,hi=>by simp only[mapA,hi id (by simp[idsA])]
 |.mp id,hi=>by simp only[mapA,hi id (by simp[idsA])]
 |.clo q caps,hi=>by simp only[mapA];rw[jW caps (by simpa only[idsA]using hi)]
 |.agg cs,hi=>by simp only[mapA];rw[jW cs (by simpa only[idsA]using hi)]
 |.tup cs,hi=>by simp only[mapA];rw[jW cs (by simpa only[idsA]using hi)]
 |.junk,_=>by simp only[mapA]
theorem jW{f g:Nat->Option Nat}:∀xs:List A,(∀i∈idsL xs,f i=g i)->aE f xs=aE g xs
 | [],_=>by simp only[aE]
 |a::xs,hi=>by
  simp only[idsL,Al]at hi;simp only[aE];rw[aLe a fun i h=>hi i (.inl h),jW xs fun i h=>hi i (.inr h)]
end
mutual
theorem aMG{f:Nat->Option Nat}:∀a:A,z0A a=true->z0A (mapA f a)=true
 |.d x,_=>by simp only[mapA,z0A]
 |.sl id gen off len,hz=>by simp only[mapA];cases f id<;>first|rfl|exact hz
 |.ptr id gen off,hz=>by simp only[mapA];cases f id<;>first|rfl|exact hz
 |.mp id,hz=>by simp only[mapA];cases f id<;>first|rfl|exact hz
 |.clo q caps,hz=>by simp only[mapA,z0A]at hz|-;exact vZ caps hz
 |.agg cs,hz=>by simp only[mapA,z0A]at hz|-;exact vZ cs hz
 |.tup cs,hz=>by simp only[mapA,z0A]at hz|-;exact vZ cs hz
 |.junk,_=>by simp only[mapA,z0A]
theorem vZ{f:Nat->Option Nat}:∀xs:List A,z0As xs=true->z0As (aE f xs)=true
 | [],_=>by simp only[aE,z0As]
 |a::xs,hz=>by
  simp only[z0As,Aq]at hz;simp only[aE,z0As,Aq];exact⟨aMG a hz.1,vZ xs hz.2⟩
end
end
theorem hJ{h p:H}{d:List (List Int)}(B:Nat)(hd:h.drop B=aH d++p):∀(i:Nat) (r:List Int),d[i]? =some r->h[B+i]? =some (.arr (ints r) 1 0):=by
 intro i r hr;rw[<-List.getElem?_drop,hd];exact B3 hr
theorem t8{h p:H}{d:List (List Int)}(B q:Nat)(hd:h.drop B=aH d++p){o:O}(ho:p[q]? =some o){j:Nat}(hj:j=d.length+(B+q)):h[j]? =some o:=by
 subst hj;rw[show d.length+(B+q)=B+(d.length+q) by omega,<-List.getElem?_drop,hd,Bh (by rw[cA];omega),cA,Do];exact ho
theorem iG{h:H}{d:List (List Int)}{B:Nat}(gr:∀(i:Nat) (r:List Int),d[i]? =some r->h[B+i]? =some (.arr (ints r) 1 0)):∀i∈List.range' B d.length,∃r:List Int,h[i]? =some (.arr (ints r) 1 0):=by
 intro i hi;rw[Cp]at hi;obtain⟨j,rfl⟩:∃j,i=B+j:=⟨i-B,by omega⟩
 exact⟨d[j]'(by omega),gr j _ (Ae (by omega))⟩
theorem fN{h:H}{ids P T L:List Nat}{B n N:Nat}(hfix:P++(T++(List.range' B n++L))=ids++P.flatMap (kids h))(hprog:∀k,k<P.length->k<ids.length+((P.take k).flatMap (kids h)).length)
  (leaf:∀i∈List.range' B n,∃r:List Int,h[i]? =some (.arr (ints r) 1 0)) (hT:∀i∈T++L,∃cs e g,h[i]? =some (.arr cs e g)) (hP:∀i∈P,∃o,h[i]? =some o/\o≠.void)
  (hnd:(P++(T++L)).Nodup) (hout:∀i∈P++(T++L),i<B\/B+n<=i) (hf:P.length+T.length+n+L.length<=N):aD N h ids []=P++(T++(List.range' B n++L)):=by
 refine aKE hfix ?_ hprog ?_ ?_ ?_
 ·intro i hi
  rcases Al.1 hi with h1|h1
  ·obtain⟨cs,e,g,h2⟩:=hT i (Al.2 (.inl h1));exact bN h2
  ·rcases Al.1 h1 with h2|h2
   ·obtain⟨r,hr⟩:=leaf i h2;exact bN hr
   ·obtain⟨cs,e,g,h3⟩:=hT i (Al.2 (.inr h2));exact bN h3
 ·have hp:(P++(T++(List.range' B n++L))).Perm (List.range' B n++(P++(T++L))):=by
   have e1:(T++(List.range' B n++L)).Perm (List.range' B n++(T++L)):=by
    rw[<-Am T _ L,<-Am _ T L];exact List.Perm.append_right L List.perm_append_comm
   refine(List.Perm.append_left P e1).trans ?_;rw[<-Am P _ (T++L),<-Am _ P (T++L)];exact List.Perm.append_right (T++L) List.perm_append_comm
  rw[hp.nodup_iff,Dr];refine⟨List.nodup_range',hnd,fun a ha b hb e=> ?_⟩;subst e;rw[Cp]at ha;have:=hout a hb;omega
 ·intro i hi
  rcases Al.1 hi with h1|h1
  ·exact hP i h1
  ·rcases Al.1 h1 with h1|h1
   ·obtain⟨cs,e,g,h2⟩:=hT i (Al.2 (.inl h1));exact⟨_,h2,by simp⟩
   ·rcases Al.1 h1 with h2|h2
    ·obtain⟨r,hr⟩:=leaf i h2;exact⟨_,hr,by simp⟩
    ·obtain⟨cs,e,g,h3⟩:=hT i (Al.2 (.inr h2));exact⟨_,h3,by simp⟩
 ·simp only[Af,Dp];omega
theorem iK{ord A L:List Nat}{B C n:Nat}(pk:∀i j,ord[j]? =some i->aI ord i=some j)(ho:ord=A++(List.range' B n++L))(hA:A.length=C):∀i,i<n->aI ord (B+i)=some (C+i):=by
 intro i hi;refine pk _ _ ?_;rw[ho,Bh (by omega),hA,Do,Ba (by simpa using hi),List.getElem?_range' hi];simp
theorem PJ{ord A L:List Nat}{B C n:Nat}(pk:∀i j,ord[j]? =some i->aI ord i=some j)(ho:ord=A++(List.range' B n++L))(hA:A.length=C)(q:Nat){i j:Nat}(hq:L[q]? =some i)(hj:j=n+(C+q)):aI ord i=some j:=by
 subst hj;refine pk _ _ ?_;rw[ho,Bh (by omega),hA,show n+(C+q)-C=n+q by omega,Bh (by simp),Dp,Do];exact hq
theorem mI{K p:H}{d:List (List Int)}{C:Nat}(hd:K.drop C=aH d++p):∀i,i<d.length->a6 K (C+i)=some 0:=by
 intro i hi;have:=hJ C hd i _ (Ae hi);simp only[a6,this]
theorem j3{h:H}{ord A L:List Nat}{d:List (List Int)}{B:Nat}(ho:ord=A++(List.range' B d.length++L))(gr:∀(i:Nat) (r:List Int),d[i]? =some r->h[B+i]? =some (.arr (ints r) 1 0)):pack h ord=A.map (fun i=>mapO (aI ord) (h.getD i default))++(aH d++L.map (fun i=>mapO (aI ord) (h.getD i default))):=by
 unfold pack
 conv=>lhs;arg 2;rw[ho]
 rw[Di,Di,aKJ gr]
end
mutual
theorem aLC{p:H}(h0:a6 p 0=none):∀a:A,bM 1 p a=bM 0 p a
 |.d x=>by simp only[bM]
 |.sl id gen off len=>by
  simp only[bM,gC,Bv,if_false]
  by_cases hi:id<1
  ·obtain rfl:id=0:=by omega
   simp[h0]
  ·rw[if_neg hi]
 |.ptr id gen off=>by
  simp only[bM,B5,Bv,if_false]
  by_cases hi:id<1
  ·obtain rfl:id=0:=by omega
   simp[h0]
  ·rw[if_neg hi]
 |.mp id=>by simp only[bM]
 |.clo g cs=>by simp only[bM];rw[tZ h0 cs]
 |.agg cs=>by simp only[bM];rw[tZ h0 cs]
 |.tup cs=>by simp only[bM];rw[tZ h0 cs]
 |.junk=>by simp only[bM]
theorem tZ{p:H}(h0:a6 p 0=none):∀xs:List A,aU 1 p xs=aU 0 p xs
 | []=>by simp only[aU]
 |x::xs=>by simp only[aU];rw[aLC h0 x,tZ h0 xs]
end
theorem aLV{p:H}(h0:a6 p 0=none){i:Nat}(hi:1<=i)(o:O):bW 1 p i o=bW 0 p i o:=by
 cases o<;>simp only[bW,Bv,if_false,tZ h0,if_neg (show ¬i<1 by omega)]
theorem RU{p:H}(h0:a6 p 0=none):∀(os:H) (i:Nat),1<=i->dS 1 p i os=dS 0 p i os
 | [],i,_=>rfl
 |o::os,i,hi=>by simp only[dS];rw[aLV h0 hi,RU h0 os (i+1) (by omega)]
theorem aAB{x y:D}{t:H}{l:List Nat}{s:List A}:trim 1 (.box [.d x,.d y]::t) (0::l) s=trim 0 (.box [.d x,.d y]::t) (0::l) s:=by
 have hp:pack (.box [.d x,.d y]::t) (0::l)=.box [.d x,.d y]::l.map fun i=>mapO (aI (0::l)) ((O.box [.d x,.d y]::t).getD i default):=by
  simp[pack,mapO,aE,mapA]
 have h0:a6 (pack (.box [.d x,.d y]::t) (0::l)) 0=none:=by rw[hp];rfl
 unfold trim;rw[tZ h0]
 congr 1
 unfold cE;generalize hq:pack (.box [.d x,.d y]::t) (0::l)=p at *;obtain⟨os,hos⟩:∃os,p=.box [.d x,.d y]::os:=⟨_,hp⟩
 have key:∀w:H,w=.box [.d x,.d y]::os->dS 1 p 0 w=dS 0 p 0 w:=by
  intro w hw;subst hw;simp only[dS];rw[RU h0 _ (0+1) (Ab _)];simp only[bW,aU,bM]
 exact key p hos
theorem aLq{x y:D}{t:H}{n:Nat}{l:List Nat}:aD (n+1) (.box [.d x,.d y]::t) (0::l) [0]=aD n (.box [.d x,.d y]::t) l [0]:=by
 simp[aD]
theorem J9{x y:D}{t:H}{n:Nat}{l:List Nat}:aD (n+1) (.box [.d x,.d y]::t) (0::l) []=aD n (.box [.d x,.d y]::t) l [0]:=by
 simp[aD,idsL,idsA]
theorem jT:∀(n:Nat) (h:H) (todo acc:List Nat),∃q,aD n h todo acc=acc++q
 |0,h,todo,acc=>⟨[],by simp[aD]⟩
 |n+1,h,[],acc=>⟨[],by simp[aD]⟩
 |n+1,h,i::todo,acc=>by
  unfold aD
  split
  ·exact jT n h todo acc
  ·split
   ·obtain⟨q,hq⟩:=jT n h (todo++idsL _) (acc++[i]);exact⟨i::q,by rw[hq];simp⟩
   ·obtain⟨q,hq⟩:=jT n h (todo++idsL _) (acc++[i]);exact⟨i::q,by rw[hq];simp⟩
   ·exact jT n h todo acc
   ·obtain⟨q,hq⟩:=jT n h todo (acc++[i]);exact⟨i::q,by rw[hq];simp⟩
   ·exact jT n h todo acc
theorem aM0{x y:D}{t:H}{l:List Nat}:dG 1 (.box [.d x,.d y]::t) (0::l)=dG 0 (.box [.d x,.d y]::t) (0::l):=by
 rw[rA,rA];have e1:eO (List.take 1 (O.box [.d x,.d y]::t))++0::l=0::l:=by simp[eO,idsL,idsA]
 have e2:eO (List.take 0 (O.box [.d x,.d y]::t))++0::l=0::l:=by simp[eO]
 have e3:List.range 1=[0]:=rfl;have e4:List.range 0=([]:List Nat):=rfl;rw[e1,e2,e3,e4,show(1099511627776:Nat)=1099511627775+1 from rfl,aLq,J9]
theorem aFu{x y:D}{t:H}{l:List Nat}:dG 1 (.box [.d x,.d y]::t) l=aD (aG+1) (.box [.d x,.d y]::t) (0::l) []:=by
 rw[rA,J9];have e1:eO (List.take 1 (O.box [.d x,.d y]::t))++l=l:=by simp[eO,idsL,idsA]
 have e3:List.range 1=[0]:=rfl;rw[e1,e3];rfl
theorem aOc{m:List Bool}{s:List A}{x y:D}{t:H}{l:List Nat}(hid:idsL (tidy m s)=0::l):gc 1 m s (.box [.d x,.d y]::t)=gc 0 m s (.box [.d x,.d y]::t):=by
 unfold gc;rw[hid,aM0];obtain⟨q,hq⟩:=jT 1099511627775 (.box [.d x,.d y]::t) l [0]
 have:dG 0 (.box [.d x,.d y]::t) (0::l)=0::q:=by
  rw[rA];have e2:eO (List.take 0 (O.box [.d x,.d y]::t))++0::l=0::l:=by simp[eO]
  have e4:List.range 0=([]:List Nat):=rfl;rw[e2,e4,show(1099511627776:Nat)=1099511627775+1 from rfl,J9,hq];rfl
 rw[this,aAB]
theorem OX{m:List Bool}{s:List A}{x y:D}{t h:H}{l:List Nat}(hh:O.box [.d x,.d y]::t=h)(hid:idsL (tidy m s)=0::l):gc 1 m s h=gc 0 m s h:=by
 subst hh;exact aOc hid
theorem WA{m:List Bool}{s:List A}{x y:D}{t h:H}{l ord:List Nat}(hh:O.box [.d x,.d y]::t=h)(hi:idsL (tidy m s)=l)(hr:aD (aG+1) h (0::l) []=ord):gc 1 m s h=(aU 0 (pack h ord) (aE (aI ord) (tidy m s)),cE 0 (pack h ord)):=by
 subst hh;unfold gc;rw[hi,aFu,hr];obtain⟨q,hq⟩:=jT aG (.box [.d x,.d y]::t) l [0]
 have e:ord=0::q:=by
  rw[<-hr,J9,hq];rfl
 rw[e,aAB];rfl
def QP(n:Nat)(ids:List Nat):Bool:=decide (ids=[3,n+8])
theorem aIu{n:Nat}{ke2:Nat}(he2:ke2=n+8):QP n [3,ke2]=true:=by subst he2;simp[QP]
def BU(n i:Nat):Option Nat:=if i=0 then some 0 else if i=3 then some 1 else if i=n+8 then some 2 else none
theorem aBu{n:Nat}:BU n 3=some (1):=by unfold BU;repeat (first|rfl|rw[if_pos rfl]|rw[if_neg (by omega)])
theorem V9{n k:Nat}(h:k=n+8):BU n k=some (2):=by subst h;unfold BU;repeat (first|rfl|rw[if_pos rfl]|rw[if_neg (by omega)])
theorem aNv{m:List Bool}{s:List A}{y1 y2 x0 x1:D}{k z:Nat}{cs:List D}{d:List (List Int)}(hl:d.length<=4294967296):gc 1 m s (.box [.d y1,.d y2]::.arr [] 0 0::.arr [] 0 0::.box [.d x0,.sl 1 0 0 0,.sl 2 0 0 0]::.vec (aC 6 d++aF 0) 1 0::.arr cs 1 0::(aH d++[.arr [] 0 0,.arr [] 0 0,.box [.d x1,.sl 4 0 0 k,.sl 5 0 0 z]]))=match box (tidy m s)with
  |.mk s1=>if QP d.length (idsL s1)=true/\z0As s1=true then(aE (BU d.length) s1,.box [.d y1,.d y2]::.box [.d x0,.sl 3 0 0 0,.sl 4 0 0 0]::.box [.d x1,.sl 5 0 0 k,.sl 6 0 0 z]::.arr [] 0 0::.arr [] 0 0::.vec (aC 7 d++aF 0) 1 0::.arr cs 1 0::aH d)else gcO 1 m s (.box [.d y1,.d y2]::.arr [] 0 0::.arr [] 0 0::.box [.d x0,.sl 1 0 0 0,.sl 2 0 0 0]::.vec (aC 6 d++aF 0) 1 0::.arr cs 1 0::(aH d++[.arr [] 0 0,.arr [] 0 0,.box [.d x1,.sl 4 0 0 k,.sl 5 0 0 z]]))
  |.no=>([],[]):=by
 simp only[box]
 split
 ·rename_i hc
  obtain⟨hb,hz⟩:=hc;have hids:idsL (tidy m s)=[3,d.length+8]:=by simpa [QP]using hb
  obtain⟨h,hh⟩:∃h:H,O.box [.d y1,.d y2]::.arr [] 0 0::.arr [] 0 0::.box [.d x0,.sl 1 0 0 0,.sl 2 0 0 0]::.vec (aC 6 d++aF 0) 1 0::.arr cs 1 0::(aH d++[.arr [] 0 0,.arr [] 0 0,.box [.d x1,.sl 4 0 0 k,.sl 5 0 0 z]])=h:=⟨_,rfl⟩
  conv=>lhs;rw[hh]
  have g0:h[0]? =some (.box [.d y1,.d y2]):=by rw[<-hh];rfl
  have g1:h[1]? =some (.arr [] 0 0):=by rw[<-hh];rfl
  have g2:h[2]? =some (.arr [] 0 0):=by rw[<-hh];rfl
  have g3:h[3]? =some (.box [.d x0,.sl 1 0 0 0,.sl 2 0 0 0]):=by rw[<-hh];rfl
  have g4:h[4]? =some (.vec (aC 6 d++aF 0) 1 0):=by rw[<-hh];rfl
  have g5:h[5]? =some (.arr cs 1 0):=by rw[<-hh];rfl
  have hD:h.drop 6=aH d++[.arr [] 0 0,.arr [] 0 0,.box [.d x1,.sl 4 0 0 k,.sl 5 0 0 z]]:=by rw[<-hh];rfl
  have gr:=hJ 6 hD;have ge2:h[d.length+8]? =some (.box [.d x1,.sl 4 0 0 k,.sl 5 0 0 z]):=t8 6 2 hD rfl (by omega);have k0:kids h (0)=[]:=by simp[kids,g0,idsL,idsA]
  have k3:kids h (3)=[1,2]:=by simp[kids,g3,idsL,idsA]
  have ke2:kids h (d.length+8)=[4,5]:=by simp[kids,ge2,idsL,idsA]
  have k1:kids h (1)=[]:=bN g1;have k2:kids h (2)=[]:=bN g2;have k4:kids h (4)=List.range' 6 d.length:=by simp[kids,g4,bL,bU,dB]
  have leaf:=iG gr;have hr:aD (aG+1) h [0,3,d.length+8] []=[0,3,d.length+8,1,2,4]++([5]++(List.range' 6 d.length++[])):=fN (by simp[k0,k3,ke2,k1,k2,k4]) (by intro q hq;simp only[Ad,Ac]at hq;have:q=0\/q=1\/q=2\/q=3\/q=4\/q=5:=(by omega);rcases this with rfl|rfl|rfl|rfl|rfl|rfl<;>simp[k0,k3,ke2,k1,k2]) leaf (by intro i hi;simp at hi;subst hi;exact⟨_,_,_,by assumption⟩) (by intro i hi;simp at hi;rcases hi with rfl|rfl|rfl|rfl|rfl|rfl<;>exact⟨_,by assumption,by simp⟩) (by simp<;>omega) (by intro i hi;simp at hi;omega) (by simp only[aG,Ad,Ac];omega);generalize hord:[0,3,d.length+8,1,2,4]++([5]++(List.range' 6 d.length++[]))=ord at hr;have hA:ord=([0,3,d.length+8,1,2,4]++[5])++(List.range' 6 d.length++[]):=by rw[<-hord,Am]
  have pk:∀i j,ord[j]? =some i->aI ord i=some j:=fun i j h1=>dJ (by rw[<-hr];exact bT (aG+1) h _ [] (by simp)) h1;have p0:=pk (0) 0 (by rw[<-hord];rfl);have p3:=pk (3) 1 (by rw[<-hord];rfl);have pe2:=pk (d.length+8) 2 (by rw[<-hord];rfl);have p1:=pk (1) 3 (by rw[<-hord];rfl);have p2:=pk (2) 4 (by rw[<-hord];rfl);have p4:=pk (4) 5 (by rw[<-hord];rfl);have p5:=pk (5) 6 (by rw[<-hord];rfl);have pr:=iK (C:=7) pk hA rfl;obtain⟨K,hK⟩:∃K:H,O.box [.d y1,.d y2]::.box [.d x0,.sl 3 0 0 0,.sl 4 0 0 0]::.box [.d x1,.sl 5 0 0 k,.sl 6 0 0 z]::.arr [] 0 0::.arr [] 0 0::.vec (aC 7 d++aF 0) 1 0::.arr cs 1 0::aH d=K:=⟨_,rfl⟩
  have hni:∀f,aE f (aF 0)=aF 0:=fun _=>rfl
  have hpk:pack h ord=K:=by
   have hrf:aE (aI ord) (aC 6 d)=aC 7 d:=eP (c:=0) pr;rw[j3 hA gr,<-hK];simp only[Av,Ao,Ah,Ap,Aa,g0,g3,ge2,g1,g2,g4,g5,Bb,mapO,aE,mapA,cQ,hrf,hni,p1,p2,p4,p5,Ai]
  have hKD:K.drop 7=aH d++[]:=by rw[<-hK];exact(Ai _).symm
  have hgr:=mI hKD
  have hcm:cE 0 K=.box [.d y1,.d y2]::.box [.d x0,.sl 3 0 0 0,.sl 4 0 0 0]::.box [.d x1,.sl 5 0 0 k,.sl 6 0 0 z]::.arr [] 0 0::.arr [] 0 0::.vec (aC 7 d++aF 0) 1 0::.arr cs 1 0::aH d:=by
   have hrf:aU 0 K (aC 7 d)=aC 7 d:=fB hgr;have hnc:∀h:H,aU 0 h (aF 0)=aF 0:=fun _=>rfl;have q3:a6 K 3=some 0:=by rw[<-hK];rfl
   have q4:a6 K 4=some 0:=by rw[<-hK];rfl
   have q5:a6 K 5=some 0:=by rw[<-hK];rfl
   have q6:a6 K 6=some 0:=by rw[<-hK];rfl
   unfold cE;rw[fA]
   conv=>lhs;arg 2;rw[<-hK]
   simp only[Ah,bW,aU,bM,gC,eG,hrf,hnc,fT,q3,q4,q5,q6,Bv,if_false,if_true]
  subst hK;rw[WA hh hids hr,hpk,hcm]
  have hmp:aE (aI ord) (tidy m s)=aE (BU d.length) (tidy m s):=by
   apply jW;rw[hids];intro i hi;simp only[At,Bn,or_false]at hi
   rcases hi with rfl|rfl
   ·rw[p3,aBu]
   ·rw[pe2,V9 rfl]
  have hz2:aU 0 (O.box [.d y1,.d y2]::.box [.d x0,.sl 3 0 0 0,.sl 4 0 0 0]::.box [.d x1,.sl 5 0 0 k,.sl 6 0 0 z]::.arr [] 0 0::.arr [] 0 0::.vec (aC 7 d++aF 0) 1 0::.arr cs 1 0::aH d) (aE (aI ord) (tidy m s))=aE (aI ord) (tidy m s):=by
   exact jL (DF (by simp[z0O,z0As,z0A,x5,uE,uJ,CW])) _ (vZ _ hz)
  rw[hz2,hmp]
 ·rfl
def x8(n i:Nat):Option Nat:=if i=0 then some 0 else if i=1 then some 1 else if i=2 then some 2 else none
theorem pP{n:Nat}:x8 n 1=some (1):=by unfold x8;repeat (first|rfl|rw[if_pos rfl]|rw[if_neg (by omega)])
theorem p8{n:Nat}:x8 n 2=some (2):=by unfold x8;repeat (first|rfl|rw[if_pos rfl]|rw[if_neg (by omega)])
theorem BS{m:List Bool}{s:List A}{y1 y2 x0 x1:D}{k z:Nat}{cs:List D}{d:List (List Int)}(hl:d.length<=4294967296):gc 1 m s (.box [.d y1,.d y2]::.box [.d x0,.sl 3 0 0 0,.sl 4 0 0 0]::.box [.d x1,.sl 5 0 0 k,.sl 6 0 0 z]::.arr [] 0 0::.arr [] 0 0::.vec (aC 7 d++aF 0) 1 0::.arr cs 1 0::aH d)=match box (tidy m s)with
  |.mk s1=>if idsL s1=[1,2]/\z0As s1=true then(aE (x8 d.length) s1,.box [.d y1,.d y2]::.box [.d x0,.sl 3 0 0 0,.sl 4 0 0 0]::.box [.d x1,.sl 5 0 0 k,.sl 6 0 0 z]::.arr [] 0 0::.arr [] 0 0::.vec (aC 7 d++aF 0) 1 0::.arr cs 1 0::aH d)else gcO 1 m s (.box [.d y1,.d y2]::.box [.d x0,.sl 3 0 0 0,.sl 4 0 0 0]::.box [.d x1,.sl 5 0 0 k,.sl 6 0 0 z]::.arr [] 0 0::.arr [] 0 0::.vec (aC 7 d++aF 0) 1 0::.arr cs 1 0::aH d)
  |.no=>([],[]):=by
 simp only[box]
 split
 ·rename_i hc
  obtain⟨hb,hz⟩:=hc;have hids:idsL (tidy m s)=[1,2]:=by exact hb
  obtain⟨h,hh⟩:∃h:H,O.box [.d y1,.d y2]::.box [.d x0,.sl 3 0 0 0,.sl 4 0 0 0]::.box [.d x1,.sl 5 0 0 k,.sl 6 0 0 z]::.arr [] 0 0::.arr [] 0 0::.vec (aC 7 d++aF 0) 1 0::.arr cs 1 0::aH d=h:=⟨_,rfl⟩
  conv=>lhs;rw[hh]
  have g0:h[0]? =some (.box [.d y1,.d y2]):=by rw[<-hh];rfl
  have g1:h[1]? =some (.box [.d x0,.sl 3 0 0 0,.sl 4 0 0 0]):=by rw[<-hh];rfl
  have g2:h[2]? =some (.box [.d x1,.sl 5 0 0 k,.sl 6 0 0 z]):=by rw[<-hh];rfl
  have g3:h[3]? =some (.arr [] 0 0):=by rw[<-hh];rfl
  have g4:h[4]? =some (.arr [] 0 0):=by rw[<-hh];rfl
  have g5:h[5]? =some (.vec (aC 7 d++aF 0) 1 0):=by rw[<-hh];rfl
  have g6:h[6]? =some (.arr cs 1 0):=by rw[<-hh];rfl
  have hD:h.drop 7=aH d++[]:=by rw[<-hh];exact(Ai _).symm
  have gr:=hJ 7 hD;have k0:kids h (0)=[]:=by simp[kids,g0,idsL,idsA]
  have k1:kids h (1)=[3,4]:=by simp[kids,g1,idsL,idsA]
  have k2:kids h (2)=[5,6]:=by simp[kids,g2,idsL,idsA]
  have k3:kids h (3)=[]:=bN g3;have k4:kids h (4)=[]:=bN g4;have k5:kids h (5)=List.range' 7 d.length:=by simp[kids,g5,bL,bU,dB]
  have leaf:=iG gr;have hr:aD (aG+1) h [0,1,2] []=[0,1,2,3,4,5]++([6]++(List.range' 7 d.length++[])):=fN (by simp[k0,k1,k2,k3,k4,k5]) (by intro q hq;simp only[Ad,Ac]at hq;have:q=0\/q=1\/q=2\/q=3\/q=4\/q=5:=(by omega);rcases this with rfl|rfl|rfl|rfl|rfl|rfl<;>simp[k0,k1,k2,k3,k4]) leaf (by intro i hi;simp at hi;subst hi;exact⟨_,_,_,by assumption⟩) (by intro i hi;simp at hi;rcases hi with rfl|rfl|rfl|rfl|rfl|rfl<;>exact⟨_,by assumption,by simp⟩) (by simp<;>omega) (by intro i hi;simp at hi;omega) (by simp only[aG,Ad,Ac];omega);generalize hord:[0,1,2,3,4,5]++([6]++(List.range' 7 d.length++[]))=ord at hr;have hA:ord=([0,1,2,3,4,5]++[6])++(List.range' 7 d.length++[]):=by rw[<-hord,Am]
  have pk:∀i j,ord[j]? =some i->aI ord i=some j:=fun i j h1=>dJ (by rw[<-hr];exact bT (aG+1) h _ [] (by simp)) h1;have p0:=pk (0) 0 (by rw[<-hord];rfl);have p1:=pk (1) 1 (by rw[<-hord];rfl);have p2:=pk (2) 2 (by rw[<-hord];rfl);have p3:=pk (3) 3 (by rw[<-hord];rfl);have p4:=pk (4) 4 (by rw[<-hord];rfl);have p5:=pk (5) 5 (by rw[<-hord];rfl);have p6:=pk (6) 6 (by rw[<-hord];rfl);have pr:=iK (C:=7) pk hA rfl;obtain⟨K,hK⟩:∃K:H,O.box [.d y1,.d y2]::.box [.d x0,.sl 3 0 0 0,.sl 4 0 0 0]::.box [.d x1,.sl 5 0 0 k,.sl 6 0 0 z]::.arr [] 0 0::.arr [] 0 0::.vec (aC 7 d++aF 0) 1 0::.arr cs 1 0::aH d=K:=⟨_,rfl⟩
  have hni:∀f,aE f (aF 0)=aF 0:=fun _=>rfl
  have hpk:pack h ord=K:=by
   have hrf:aE (aI ord) (aC 7 d)=aC 7 d:=eP (c:=0) pr;rw[j3 hA gr,<-hK];simp only[Av,Ao,Ah,Ap,Aa,g0,g1,g2,g3,g4,g5,g6,Bb,mapO,aE,mapA,cQ,hrf,hni,p3,p4,p5,p6,Ai]
  have hKD:K.drop 7=aH d++[]:=by rw[<-hK];exact(Ai _).symm
  have hgr:=mI hKD
  have hcm:cE 0 K=.box [.d y1,.d y2]::.box [.d x0,.sl 3 0 0 0,.sl 4 0 0 0]::.box [.d x1,.sl 5 0 0 k,.sl 6 0 0 z]::.arr [] 0 0::.arr [] 0 0::.vec (aC 7 d++aF 0) 1 0::.arr cs 1 0::aH d:=by
   have hrf:aU 0 K (aC 7 d)=aC 7 d:=fB hgr;have hnc:∀h:H,aU 0 h (aF 0)=aF 0:=fun _=>rfl;have q3:a6 K 3=some 0:=by rw[<-hK];rfl
   have q4:a6 K 4=some 0:=by rw[<-hK];rfl
   have q5:a6 K 5=some 0:=by rw[<-hK];rfl
   have q6:a6 K 6=some 0:=by rw[<-hK];rfl
   unfold cE;rw[fA]
   conv=>lhs;arg 2;rw[<-hK]
   simp only[Ah,bW,aU,bM,gC,eG,hrf,hnc,fT,q3,q4,q5,q6,Bv,if_false,if_true]
  subst hK;rw[WA hh hids hr,hpk,hcm]
  have hmp:aE (aI ord) (tidy m s)=aE (x8 d.length) (tidy m s):=by
   apply jW;rw[hids];intro i hi;simp only[At,Bn,or_false]at hi
   rcases hi with rfl|rfl
   ·rw[p1,pP]
   ·rw[p2,p8]
  have hz2:aU 0 (O.box [.d y1,.d y2]::.box [.d x0,.sl 3 0 0 0,.sl 4 0 0 0]::.box [.d x1,.sl 5 0 0 k,.sl 6 0 0 z]::.arr [] 0 0::.arr [] 0 0::.vec (aC 7 d++aF 0) 1 0::.arr cs 1 0::aH d) (aE (aI ord) (tidy m s))=aE (aI ord) (tidy m s):=by
   exact jL (DF (by simp[z0O,z0As,z0A,x5,uE,uJ,CW])) _ (vZ _ hz)
  rw[hz2,hmp]
 ·rfl
theorem aMN{m:List Bool}{s:List A}{y1 y2 x0 x1:D}{k z:Nat}{r:List Int}{cs:List D}{d:List (List Int)}{p:H}(hl:d.length<=4294967296):gc 1 m s (.box [.d y1,.d y2]::.box [.d x0,.sl 4 0 0 0,.sl 5 0 0 0]::.box [.d x1,.sl 6 1 0 k,.sl 7 1 0 z]::.arr (ints r) 1 0::.arr [] 0 0::.arr [] 0 0::.vec (aC 8 d++[.sl 3 0 0 r.length]) 1 1::.arr cs 1 1::(aH d++p))=match box (tidy m s)with
  |.mk s1=>if idsL s1=[0,1,2]then(aU 0 (.box [.d y1,.d y2]::.box [.d x0,.sl 3 0 0 0,.sl 4 0 0 0]::.box [.d x1,.sl 5 1 0 k,.sl 6 1 0 z]::.arr [] 0 0::.arr [] 0 0::.vec (aC 7 d++[.sl (d.length+7) 0 0 r.length]) 1 1::.arr cs 1 1::(aH d++[.arr (ints r) 1 0])) (s1),.box [.d y1,.d y2]::.box [.d x0,.sl 3 0 0 0,.sl 4 0 0 0]::.box [.d x1,.sl 5 0 0 k,.sl 6 0 0 z]::.arr [] 0 0::.arr [] 0 0::.vec (aC 7 d++[.sl (d.length+7) 0 0 r.length]) 1 0::.arr cs 1 0::(aH d++[.arr (ints r) 1 0]))else gcO 1 m s (.box [.d y1,.d y2]::.box [.d x0,.sl 4 0 0 0,.sl 5 0 0 0]::.box [.d x1,.sl 6 1 0 k,.sl 7 1 0 z]::.arr (ints r) 1 0::.arr [] 0 0::.arr [] 0 0::.vec (aC 8 d++[.sl 3 0 0 r.length]) 1 1::.arr cs 1 1::(aH d++p))
  |.no=>([],[]):=by
 simp only[box]
 split
 ·rename_i hc
  have hb:=hc;have hids:idsL (tidy m s)=[0,1,2]:=by exact hb
  obtain⟨h,hh⟩:∃h:H,O.box [.d y1,.d y2]::.box [.d x0,.sl 4 0 0 0,.sl 5 0 0 0]::.box [.d x1,.sl 6 1 0 k,.sl 7 1 0 z]::.arr (ints r) 1 0::.arr [] 0 0::.arr [] 0 0::.vec (aC 8 d++[.sl 3 0 0 r.length]) 1 1::.arr cs 1 1::(aH d++p)=h:=⟨_,rfl⟩
  conv=>lhs;rw[hh]
  have g0:h[0]? =some (.box [.d y1,.d y2]):=by rw[<-hh];rfl
  have g1:h[1]? =some (.box [.d x0,.sl 4 0 0 0,.sl 5 0 0 0]):=by rw[<-hh];rfl
  have g2:h[2]? =some (.box [.d x1,.sl 6 1 0 k,.sl 7 1 0 z]):=by rw[<-hh];rfl
  have g3:h[3]? =some (.arr (ints r) 1 0):=by rw[<-hh];rfl
  have g4:h[4]? =some (.arr [] 0 0):=by rw[<-hh];rfl
  have g5:h[5]? =some (.arr [] 0 0):=by rw[<-hh];rfl
  have g6:h[6]? =some (.vec (aC 8 d++[.sl 3 0 0 r.length]) 1 1):=by rw[<-hh];rfl
  have g7:h[7]? =some (.arr cs 1 1):=by rw[<-hh];rfl
  have hD:h.drop 8=aH d++p:=by rw[<-hh];rfl
  have gr:=hJ 8 hD;have k0:kids h (0)=[]:=by simp[kids,g0,idsL,idsA]
  have k1:kids h (1)=[4,5]:=by simp[kids,g1,idsL,idsA]
  have k2:kids h (2)=[6,7]:=by simp[kids,g2,idsL,idsA]
  have k4:kids h (4)=[]:=bN g4;have k5:kids h (5)=[]:=bN g5;have k6:kids h (6)=List.range' 8 d.length++[3]:=by simp[kids,g6,bL,bU,idsL,idsA]
  have leaf:=iG gr;have hr:aD aG h [0,1,2] []=[0,1,2,4,5,6]++([7]++(List.range' 8 d.length++[3])):=fN (by simp[k0,k1,k2,k4,k5,k6]) (by intro q hq;simp only[Ad,Ac]at hq;have:q=0\/q=1\/q=2\/q=3\/q=4\/q=5:=(by omega);rcases this with rfl|rfl|rfl|rfl|rfl|rfl<;>simp[k0,k1,k2,k4,k5]) leaf (by intro i hi;simp at hi;rcases hi with rfl|rfl<;>exact⟨_,_,_,by assumption⟩) (by intro i hi;simp at hi;rcases hi with rfl|rfl|rfl|rfl|rfl|rfl<;>exact⟨_,by assumption,by simp⟩) (by simp<;>omega) (by intro i hi;simp at hi;omega) (by simp only[aG,Ad,Ac];omega);generalize hord:[0,1,2,4,5,6]++([7]++(List.range' 8 d.length++[3]))=ord at hr;have hA:ord=([0,1,2,4,5,6]++[7])++(List.range' 8 d.length++[3]):=by rw[<-hord,Am]
  have pk:∀i j,ord[j]? =some i->aI ord i=some j:=fun i j h1=>dJ (by rw[<-hr];exact bT aG h _ [] (by simp)) h1;have p0:=pk (0) 0 (by rw[<-hord];rfl);have p1:=pk (1) 1 (by rw[<-hord];rfl);have p2:=pk (2) 2 (by rw[<-hord];rfl);have p4:=pk (4) 3 (by rw[<-hord];rfl);have p5:=pk (5) 4 (by rw[<-hord];rfl);have p6:=pk (6) 5 (by rw[<-hord];rfl);have p7:=pk (7) 6 (by rw[<-hord];rfl);have pr:=iK (C:=7) pk hA rfl;have p3:=PJ (C:=7) pk hA rfl 0 (i:=3) (j:=d.length+7) rfl (by omega);obtain⟨K,hK⟩:∃K:H,O.box [.d y1,.d y2]::.box [.d x0,.sl 3 0 0 0,.sl 4 0 0 0]::.box [.d x1,.sl 5 1 0 k,.sl 6 1 0 z]::.arr [] 0 0::.arr [] 0 0::.vec (aC 7 d++[.sl (d.length+7) 0 0 r.length]) 1 1::.arr cs 1 1::(aH d++[.arr (ints r) 1 0])=K:=⟨_,rfl⟩
  have hni:∀f,aE f (aF 0)=aF 0:=fun _=>rfl
  have hpk:pack h ord=K:=by
   have hrf:aE (aI ord) (aC 8 d)=aC 7 d:=eP (c:=0) pr;rw[j3 hA gr,<-hK];simp only[Av,Ao,Ah,Ap,Aa,g0,g1,g2,g4,g5,g6,g7,g3,Bb,mapO,aE,mapA,cQ,hrf,p4,p5,p6,p7,p3]
  have hKD:K.drop 7=aH d++[.arr (ints r) 1 0]:=by rw[<-hK];rfl
  have hgr:=mI hKD;have hge0:a6 K (d.length+7)=some 0:=by simp only[a6,t8 7 0 hKD rfl (j:=d.length+7) (by omega)]
  have hcm:cE 0 K=.box [.d y1,.d y2]::.box [.d x0,.sl 3 0 0 0,.sl 4 0 0 0]::.box [.d x1,.sl 5 0 0 k,.sl 6 0 0 z]::.arr [] 0 0::.arr [] 0 0::.vec (aC 7 d++[.sl (d.length+7) 0 0 r.length]) 1 0::.arr cs 1 0::(aH d++[.arr (ints r) 1 0]):=by
   have hrf:aU 0 K (aC 7 d)=aC 7 d:=fB hgr;have hnc:∀h:H,aU 0 h (aF 0)=aF 0:=fun _=>rfl;have q3:a6 K 3=some 0:=by rw[<-hK];rfl
   have q4:a6 K 4=some 0:=by rw[<-hK];rfl
   have q5:a6 K 5=some 1:=by rw[<-hK];rfl
   have q6:a6 K 6=some 1:=by rw[<-hK];rfl
   unfold cE;rw[fA]
   conv=>lhs;arg 2;rw[<-hK]
   simp only[Ah,Di,Ap,bW,aU,bM,gC,eG,hrf,fT,q3,q4,q5,q6,hge0,Bv,if_false,if_true]
  subst hK;rw[OX hh hids,KK (ord:=ord) (by rw[hids];exact hr),hpk,hcm]
  have hmp:aE (aI ord) (tidy m s)=tidy m s:=by
   apply e6;rw[hids];intro i hi;simp only[At,Bn,or_false]at hi
   rcases hi with rfl|rfl|rfl
   ·exact p0
   ·exact p1
   ·exact p2
  rw[hmp]
 ·rfl
theorem aNa{m:List Bool}{s:List A}{y1 y2 x0 x1:D}{k z:Nat}{cs:List D}{d:List (List Int)}(hl:d.length<=4294967296):gc 1 m s (.box [.d y1,.d y2]::.box [.d x0,.sl 3 0 0 0,.sl 4 0 0 0]::.box [.d x1,.sl 5 0 0 k,.sl 6 0 0 z]::.arr [] 0 0::.arr [] 0 0::.vec (aC 7 d++aF 0) 1 0::.arr cs 1 0::aH d)=match box (tidy m s)with
  |.mk s1=>if idsL s1=[0,1,2]then(aU 0 (.box [.d y1,.d y2]::.box [.d x0,.sl 3 0 0 0,.sl 4 0 0 0]::.box [.d x1,.sl 5 0 0 k,.sl 6 0 0 z]::.arr [] 0 0::.arr [] 0 0::.vec (aC 7 d++aF 0) 1 0::.arr cs 1 0::aH d) (s1),.box [.d y1,.d y2]::.box [.d x0,.sl 3 0 0 0,.sl 4 0 0 0]::.box [.d x1,.sl 5 0 0 k,.sl 6 0 0 z]::.arr [] 0 0::.arr [] 0 0::.vec (aC 7 d++aF 0) 1 0::.arr cs 1 0::aH d)else gcO 1 m s (.box [.d y1,.d y2]::.box [.d x0,.sl 3 0 0 0,.sl 4 0 0 0]::.box [.d x1,.sl 5 0 0 k,.sl 6 0 0 z]::.arr [] 0 0::.arr [] 0 0::.vec (aC 7 d++aF 0) 1 0::.arr cs 1 0::aH d)
  |.no=>([],[]):=by
 simp only[box]
 split
 ·rename_i hc
  have hb:=hc;have hids:idsL (tidy m s)=[0,1,2]:=by exact hb
  obtain⟨h,hh⟩:∃h:H,O.box [.d y1,.d y2]::.box [.d x0,.sl 3 0 0 0,.sl 4 0 0 0]::.box [.d x1,.sl 5 0 0 k,.sl 6 0 0 z]::.arr [] 0 0::.arr [] 0 0::.vec (aC 7 d++aF 0) 1 0::.arr cs 1 0::aH d=h:=⟨_,rfl⟩
  conv=>lhs;rw[hh]
  have g0:h[0]? =some (.box [.d y1,.d y2]):=by rw[<-hh];rfl
  have g1:h[1]? =some (.box [.d x0,.sl 3 0 0 0,.sl 4 0 0 0]):=by rw[<-hh];rfl
  have g2:h[2]? =some (.box [.d x1,.sl 5 0 0 k,.sl 6 0 0 z]):=by rw[<-hh];rfl
  have g3:h[3]? =some (.arr [] 0 0):=by rw[<-hh];rfl
  have g4:h[4]? =some (.arr [] 0 0):=by rw[<-hh];rfl
  have g5:h[5]? =some (.vec (aC 7 d++aF 0) 1 0):=by rw[<-hh];rfl
  have g6:h[6]? =some (.arr cs 1 0):=by rw[<-hh];rfl
  have hD:h.drop 7=aH d++[]:=by rw[<-hh];exact(Ai _).symm
  have gr:=hJ 7 hD;have k0:kids h (0)=[]:=by simp[kids,g0,idsL,idsA]
  have k1:kids h (1)=[3,4]:=by simp[kids,g1,idsL,idsA]
  have k2:kids h (2)=[5,6]:=by simp[kids,g2,idsL,idsA]
  have k3:kids h (3)=[]:=bN g3;have k4:kids h (4)=[]:=bN g4;have k5:kids h (5)=List.range' 7 d.length:=by simp[kids,g5,bL,bU,dB]
  have leaf:=iG gr;have hr:aD aG h [0,1,2] []=[0,1,2,3,4,5]++([6]++(List.range' 7 d.length++[])):=fN (by simp[k0,k1,k2,k3,k4,k5]) (by intro q hq;simp only[Ad,Ac]at hq;have:q=0\/q=1\/q=2\/q=3\/q=4\/q=5:=(by omega);rcases this with rfl|rfl|rfl|rfl|rfl|rfl<;>simp[k0,k1,k2,k3,k4]) leaf (by intro i hi;simp at hi;subst hi;exact⟨_,_,_,by assumption⟩) (by intro i hi;simp at hi;rcases hi with rfl|rfl|rfl|rfl|rfl|rfl<;>exact⟨_,by assumption,by simp⟩) (by simp<;>omega) (by intro i hi;simp at hi;omega) (by simp only[aG,Ad,Ac];omega);generalize hord:[0,1,2,3,4,5]++([6]++(List.range' 7 d.length++[]))=ord at hr;have hA:ord=([0,1,2,3,4,5]++[6])++(List.range' 7 d.length++[]):=by rw[<-hord,Am]
  have pk:∀i j,ord[j]? =some i->aI ord i=some j:=fun i j h1=>dJ (by rw[<-hr];exact bT aG h _ [] (by simp)) h1;have p0:=pk (0) 0 (by rw[<-hord];rfl);have p1:=pk (1) 1 (by rw[<-hord];rfl);have p2:=pk (2) 2 (by rw[<-hord];rfl);have p3:=pk (3) 3 (by rw[<-hord];rfl);have p4:=pk (4) 4 (by rw[<-hord];rfl);have p5:=pk (5) 5 (by rw[<-hord];rfl);have p6:=pk (6) 6 (by rw[<-hord];rfl);have pr:=iK (C:=7) pk hA rfl;obtain⟨K,hK⟩:∃K:H,O.box [.d y1,.d y2]::.box [.d x0,.sl 3 0 0 0,.sl 4 0 0 0]::.box [.d x1,.sl 5 0 0 k,.sl 6 0 0 z]::.arr [] 0 0::.arr [] 0 0::.vec (aC 7 d++aF 0) 1 0::.arr cs 1 0::aH d=K:=⟨_,rfl⟩
  have hni:∀f,aE f (aF 0)=aF 0:=fun _=>rfl
  have hpk:pack h ord=K:=by
   have hrf:aE (aI ord) (aC 7 d)=aC 7 d:=eP (c:=0) pr;rw[j3 hA gr,<-hK];simp only[Av,Ao,Ah,Ap,Aa,g0,g1,g2,g3,g4,g5,g6,Bb,mapO,aE,mapA,cQ,hrf,hni,p3,p4,p5,p6,Ai]
  have hKD:K.drop 7=aH d++[]:=by rw[<-hK];exact(Ai _).symm
  have hgr:=mI hKD
  have hcm:cE 0 K=.box [.d y1,.d y2]::.box [.d x0,.sl 3 0 0 0,.sl 4 0 0 0]::.box [.d x1,.sl 5 0 0 k,.sl 6 0 0 z]::.arr [] 0 0::.arr [] 0 0::.vec (aC 7 d++aF 0) 1 0::.arr cs 1 0::aH d:=by
   have hrf:aU 0 K (aC 7 d)=aC 7 d:=fB hgr;have hnc:∀h:H,aU 0 h (aF 0)=aF 0:=fun _=>rfl;have q3:a6 K 3=some 0:=by rw[<-hK];rfl
   have q4:a6 K 4=some 0:=by rw[<-hK];rfl
   have q5:a6 K 5=some 0:=by rw[<-hK];rfl
   have q6:a6 K 6=some 0:=by rw[<-hK];rfl
   unfold cE;rw[fA]
   conv=>lhs;arg 2;rw[<-hK]
   simp only[Ah,bW,aU,bM,gC,eG,hrf,hnc,fT,q3,q4,q5,q6,Bv,if_false,if_true]
  subst hK;rw[OX hh hids,KK (ord:=ord) (by rw[hids];exact hr),hpk,hcm]
  have hmp:aE (aI ord) (tidy m s)=tidy m s:=by
   apply e6;rw[hids];intro i hi;simp only[At,Bn,or_false]at hi
   rcases hi with rfl|rfl|rfl
   ·exact p0
   ·exact p1
   ·exact p2
  rw[hmp]
 ·rfl
theorem aMD{m:List Bool}{s:List A}{y1 y2 x0 x1:D}{k z g:Nat}{cr cs:List D}{d:List (List Int)}{p:H}(hl:d.length<=4294967296):gc 1 m s (.box [.d y1,.d y2]::.box [.d x0,.sl 4 0 0 0,.sl 5 0 0 0]::.box [.d x1,.sl 6 0 0 k,.sl 7 0 0 z]::.arr cr 1 g::.arr [] 0 0::.arr [] 0 0::.vec (aC 8 d++aF 0) 1 0::.arr cs 1 0::(aH d++p))=match box (tidy m s)with
  |.mk s1=>if idsL s1=[0,1,2,3]then(aU 0 (.box [.d y1,.d y2]::.box [.d x0,.sl 4 0 0 0,.sl 5 0 0 0]::.box [.d x1,.sl 6 0 0 k,.sl 7 0 0 z]::.arr cr 1 g::.arr [] 0 0::.arr [] 0 0::.vec (aC 8 d++aF 0) 1 0::.arr cs 1 0::aH d) (s1),.box [.d y1,.d y2]::.box [.d x0,.sl 4 0 0 0,.sl 5 0 0 0]::.box [.d x1,.sl 6 0 0 k,.sl 7 0 0 z]::.arr cr 1 0::.arr [] 0 0::.arr [] 0 0::.vec (aC 8 d++aF 0) 1 0::.arr cs 1 0::aH d)else gcO 1 m s (.box [.d y1,.d y2]::.box [.d x0,.sl 4 0 0 0,.sl 5 0 0 0]::.box [.d x1,.sl 6 0 0 k,.sl 7 0 0 z]::.arr cr 1 g::.arr [] 0 0::.arr [] 0 0::.vec (aC 8 d++aF 0) 1 0::.arr cs 1 0::(aH d++p))
  |.no=>([],[]):=by
 simp only[box]
 split
 ·rename_i hc
  have hb:=hc;have hids:idsL (tidy m s)=[0,1,2,3]:=by exact hb
  obtain⟨h,hh⟩:∃h:H,O.box [.d y1,.d y2]::.box [.d x0,.sl 4 0 0 0,.sl 5 0 0 0]::.box [.d x1,.sl 6 0 0 k,.sl 7 0 0 z]::.arr cr 1 g::.arr [] 0 0::.arr [] 0 0::.vec (aC 8 d++aF 0) 1 0::.arr cs 1 0::(aH d++p)=h:=⟨_,rfl⟩
  conv=>lhs;rw[hh]
  have g0:h[0]? =some (.box [.d y1,.d y2]):=by rw[<-hh];rfl
  have g1:h[1]? =some (.box [.d x0,.sl 4 0 0 0,.sl 5 0 0 0]):=by rw[<-hh];rfl
  have g2:h[2]? =some (.box [.d x1,.sl 6 0 0 k,.sl 7 0 0 z]):=by rw[<-hh];rfl
  have g3:h[3]? =some (.arr cr 1 g):=by rw[<-hh];rfl
  have g4:h[4]? =some (.arr [] 0 0):=by rw[<-hh];rfl
  have g5:h[5]? =some (.arr [] 0 0):=by rw[<-hh];rfl
  have g6:h[6]? =some (.vec (aC 8 d++aF 0) 1 0):=by rw[<-hh];rfl
  have g7:h[7]? =some (.arr cs 1 0):=by rw[<-hh];rfl
  have hD:h.drop 8=aH d++p:=by rw[<-hh];rfl
  have gr:=hJ 8 hD;have k0:kids h (0)=[]:=by simp[kids,g0,idsL,idsA]
  have k1:kids h (1)=[4,5]:=by simp[kids,g1,idsL,idsA]
  have k2:kids h (2)=[6,7]:=by simp[kids,g2,idsL,idsA]
  have k3:kids h (3)=[]:=bN g3;have k4:kids h (4)=[]:=bN g4;have k5:kids h (5)=[]:=bN g5;have k6:kids h (6)=List.range' 8 d.length:=by simp[kids,g6,bL,bU,dB]
  have leaf:=iG gr;have hr:aD aG h [0,1,2,3] []=[0,1,2,3,4,5,6]++([7]++(List.range' 8 d.length++[])):=fN (by simp[k0,k1,k2,k3,k4,k5,k6]) (by intro q hq;simp only[Ad,Ac]at hq;have:q=0\/q=1\/q=2\/q=3\/q=4\/q=5\/q=6:=(by omega);rcases this with rfl|rfl|rfl|rfl|rfl|rfl|rfl<;>simp[k0,k1,k2,k3,k4,k5]) leaf (by intro i hi;simp at hi;subst hi;exact⟨_,_,_,by assumption⟩) (by intro i hi;simp at hi;rcases hi with rfl|rfl|rfl|rfl|rfl|rfl|rfl<;>exact⟨_,by assumption,by simp⟩) (by simp<;>omega) (by intro i hi;simp at hi;omega) (by simp only[aG,Ad,Ac];omega);generalize hord:[0,1,2,3,4,5,6]++([7]++(List.range' 8 d.length++[]))=ord at hr;have hA:ord=([0,1,2,3,4,5,6]++[7])++(List.range' 8 d.length++[]):=by rw[<-hord,Am]
  have pk:∀i j,ord[j]? =some i->aI ord i=some j:=fun i j h1=>dJ (by rw[<-hr];exact bT aG h _ [] (by simp)) h1;have p0:=pk (0) 0 (by rw[<-hord];rfl);have p1:=pk (1) 1 (by rw[<-hord];rfl);have p2:=pk (2) 2 (by rw[<-hord];rfl);have p3:=pk (3) 3 (by rw[<-hord];rfl);have p4:=pk (4) 4 (by rw[<-hord];rfl);have p5:=pk (5) 5 (by rw[<-hord];rfl);have p6:=pk (6) 6 (by rw[<-hord];rfl);have p7:=pk (7) 7 (by rw[<-hord];rfl);have pr:=iK (C:=8) pk hA rfl;obtain⟨K,hK⟩:∃K:H,O.box [.d y1,.d y2]::.box [.d x0,.sl 4 0 0 0,.sl 5 0 0 0]::.box [.d x1,.sl 6 0 0 k,.sl 7 0 0 z]::.arr cr 1 g::.arr [] 0 0::.arr [] 0 0::.vec (aC 8 d++aF 0) 1 0::.arr cs 1 0::aH d=K:=⟨_,rfl⟩
  have hni:∀f,aE f (aF 0)=aF 0:=fun _=>rfl
  have hpk:pack h ord=K:=by
   have hrf:aE (aI ord) (aC 8 d)=aC 8 d:=eP (c:=0) pr;rw[j3 hA gr,<-hK];simp only[Av,Ao,Ah,Ap,Aa,g0,g1,g2,g3,g4,g5,g6,g7,Bb,mapO,aE,mapA,cQ,hrf,hni,p4,p5,p6,p7,Ai]
  have hKD:K.drop 8=aH d++[]:=by rw[<-hK];exact(Ai _).symm
  have hgr:=mI hKD
  have hcm:cE 0 K=.box [.d y1,.d y2]::.box [.d x0,.sl 4 0 0 0,.sl 5 0 0 0]::.box [.d x1,.sl 6 0 0 k,.sl 7 0 0 z]::.arr cr 1 0::.arr [] 0 0::.arr [] 0 0::.vec (aC 8 d++aF 0) 1 0::.arr cs 1 0::aH d:=by
   have hrf:aU 0 K (aC 8 d)=aC 8 d:=fB hgr;have hnc:∀h:H,aU 0 h (aF 0)=aF 0:=fun _=>rfl;have q3:a6 K 3=some g:=by rw[<-hK];rfl
   have q4:a6 K 4=some 0:=by rw[<-hK];rfl
   have q5:a6 K 5=some 0:=by rw[<-hK];rfl
   have q6:a6 K 6=some 0:=by rw[<-hK];rfl
   have q7:a6 K 7=some 0:=by rw[<-hK];rfl
   unfold cE;rw[fA]
   conv=>lhs;arg 2;rw[<-hK]
   simp only[Ah,bW,aU,bM,gC,eG,hrf,hnc,fT,q4,q5,q6,q7,Bv,if_false,if_true]
  subst hK;rw[OX hh hids,KK (ord:=ord) (by rw[hids];exact hr),hpk,hcm]
  have hmp:aE (aI ord) (tidy m s)=tidy m s:=by
   apply e6;rw[hids];intro i hi;simp only[At,Bn,or_false]at hi
   rcases hi with rfl|rfl|rfl|rfl
   ·exact p0
   ·exact p1
   ·exact p2
   ·exact p3
  rw[hmp]
 ·rfl
theorem aLk{m:List Bool}{s:List A}{y1 y2 x0 x1:D}{k z g:Nat}{cr cs:List D}{d:List (List Int)}(hl:d.length<=4294967296):gc 1 m s (.box [.d y1,.d y2]::.box [.d x0,.sl 4 0 0 0,.sl 5 0 0 0]::.box [.d x1,.sl 6 0 0 k,.sl 7 0 0 z]::.arr cr 1 g::.arr [] 0 0::.arr [] 0 0::.vec (aC 8 d++aF 0) 1 0::.arr cs 1 0::aH d)=match box (tidy m s)with
  |.mk s1=>if idsL s1=[0,1,2,3]then(aU 0 (.box [.d y1,.d y2]::.box [.d x0,.sl 4 0 0 0,.sl 5 0 0 0]::.box [.d x1,.sl 6 0 0 k,.sl 7 0 0 z]::.arr cr 1 g::.arr [] 0 0::.arr [] 0 0::.vec (aC 8 d++aF 0) 1 0::.arr cs 1 0::aH d) (s1),.box [.d y1,.d y2]::.box [.d x0,.sl 4 0 0 0,.sl 5 0 0 0]::.box [.d x1,.sl 6 0 0 k,.sl 7 0 0 z]::.arr cr 1 0::.arr [] 0 0::.arr [] 0 0::.vec (aC 8 d++aF 0) 1 0::.arr cs 1 0::aH d)else gcO 1 m s (.box [.d y1,.d y2]::.box [.d x0,.sl 4 0 0 0,.sl 5 0 0 0]::.box [.d x1,.sl 6 0 0 k,.sl 7 0 0 z]::.arr cr 1 g::.arr [] 0 0::.arr [] 0 0::.vec (aC 8 d++aF 0) 1 0::.arr cs 1 0::aH d)
  |.no=>([],[]):=by
 simp only[box]
 split
 ·rename_i hc
  have hb:=hc;have hids:idsL (tidy m s)=[0,1,2,3]:=by exact hb
  obtain⟨h,hh⟩:∃h:H,O.box [.d y1,.d y2]::.box [.d x0,.sl 4 0 0 0,.sl 5 0 0 0]::.box [.d x1,.sl 6 0 0 k,.sl 7 0 0 z]::.arr cr 1 g::.arr [] 0 0::.arr [] 0 0::.vec (aC 8 d++aF 0) 1 0::.arr cs 1 0::aH d=h:=⟨_,rfl⟩
  conv=>lhs;rw[hh]
  have g0:h[0]? =some (.box [.d y1,.d y2]):=by rw[<-hh];rfl
  have g1:h[1]? =some (.box [.d x0,.sl 4 0 0 0,.sl 5 0 0 0]):=by rw[<-hh];rfl
  have g2:h[2]? =some (.box [.d x1,.sl 6 0 0 k,.sl 7 0 0 z]):=by rw[<-hh];rfl
  have g3:h[3]? =some (.arr cr 1 g):=by rw[<-hh];rfl
  have g4:h[4]? =some (.arr [] 0 0):=by rw[<-hh];rfl
  have g5:h[5]? =some (.arr [] 0 0):=by rw[<-hh];rfl
  have g6:h[6]? =some (.vec (aC 8 d++aF 0) 1 0):=by rw[<-hh];rfl
  have g7:h[7]? =some (.arr cs 1 0):=by rw[<-hh];rfl
  have hD:h.drop 8=aH d++[]:=by rw[<-hh];exact(Ai _).symm
  have gr:=hJ 8 hD;have k0:kids h (0)=[]:=by simp[kids,g0,idsL,idsA]
  have k1:kids h (1)=[4,5]:=by simp[kids,g1,idsL,idsA]
  have k2:kids h (2)=[6,7]:=by simp[kids,g2,idsL,idsA]
  have k3:kids h (3)=[]:=bN g3;have k4:kids h (4)=[]:=bN g4;have k5:kids h (5)=[]:=bN g5;have k6:kids h (6)=List.range' 8 d.length:=by simp[kids,g6,bL,bU,dB]
  have leaf:=iG gr;have hr:aD aG h [0,1,2,3] []=[0,1,2,3,4,5,6]++([7]++(List.range' 8 d.length++[])):=fN (by simp[k0,k1,k2,k3,k4,k5,k6]) (by intro q hq;simp only[Ad,Ac]at hq;have:q=0\/q=1\/q=2\/q=3\/q=4\/q=5\/q=6:=(by omega);rcases this with rfl|rfl|rfl|rfl|rfl|rfl|rfl<;>simp[k0,k1,k2,k3,k4,k5]) leaf (by intro i hi;simp at hi;subst hi;exact⟨_,_,_,by assumption⟩) (by intro i hi;simp at hi;rcases hi with rfl|rfl|rfl|rfl|rfl|rfl|rfl<;>exact⟨_,by assumption,by simp⟩) (by simp<;>omega) (by intro i hi;simp at hi;omega) (by simp only[aG,Ad,Ac];omega);generalize hord:[0,1,2,3,4,5,6]++([7]++(List.range' 8 d.length++[]))=ord at hr;have hA:ord=([0,1,2,3,4,5,6]++[7])++(List.range' 8 d.length++[]):=by rw[<-hord,Am]
  have pk:∀i j,ord[j]? =some i->aI ord i=some j:=fun i j h1=>dJ (by rw[<-hr];exact bT aG h _ [] (by simp)) h1;have p0:=pk (0) 0 (by rw[<-hord];rfl);have p1:=pk (1) 1 (by rw[<-hord];rfl);have p2:=pk (2) 2 (by rw[<-hord];rfl);have p3:=pk (3) 3 (by rw[<-hord];rfl);have p4:=pk (4) 4 (by rw[<-hord];rfl);have p5:=pk (5) 5 (by rw[<-hord];rfl);have p6:=pk (6) 6 (by rw[<-hord];rfl);have p7:=pk (7) 7 (by rw[<-hord];rfl);have pr:=iK (C:=8) pk hA rfl;obtain⟨K,hK⟩:∃K:H,O.box [.d y1,.d y2]::.box [.d x0,.sl 4 0 0 0,.sl 5 0 0 0]::.box [.d x1,.sl 6 0 0 k,.sl 7 0 0 z]::.arr cr 1 g::.arr [] 0 0::.arr [] 0 0::.vec (aC 8 d++aF 0) 1 0::.arr cs 1 0::aH d=K:=⟨_,rfl⟩
  have hni:∀f,aE f (aF 0)=aF 0:=fun _=>rfl
  have hpk:pack h ord=K:=by
   have hrf:aE (aI ord) (aC 8 d)=aC 8 d:=eP (c:=0) pr;rw[j3 hA gr,<-hK];simp only[Av,Ao,Ah,Ap,Aa,g0,g1,g2,g3,g4,g5,g6,g7,Bb,mapO,aE,mapA,cQ,hrf,hni,p4,p5,p6,p7,Ai]
  have hKD:K.drop 8=aH d++[]:=by rw[<-hK];exact(Ai _).symm
  have hgr:=mI hKD
  have hcm:cE 0 K=.box [.d y1,.d y2]::.box [.d x0,.sl 4 0 0 0,.sl 5 0 0 0]::.box [.d x1,.sl 6 0 0 k,.sl 7 0 0 z]::.arr cr 1 0::.arr [] 0 0::.arr [] 0 0::.vec (aC 8 d++aF 0) 1 0::.arr cs 1 0::aH d:=by
   have hrf:aU 0 K (aC 8 d)=aC 8 d:=fB hgr;have hnc:∀h:H,aU 0 h (aF 0)=aF 0:=fun _=>rfl;have q3:a6 K 3=some g:=by rw[<-hK];rfl
   have q4:a6 K 4=some 0:=by rw[<-hK];rfl
   have q5:a6 K 5=some 0:=by rw[<-hK];rfl
   have q6:a6 K 6=some 0:=by rw[<-hK];rfl
   have q7:a6 K 7=some 0:=by rw[<-hK];rfl
   unfold cE;rw[fA]
   conv=>lhs;arg 2;rw[<-hK]
   simp only[Ah,bW,aU,bM,gC,eG,hrf,hnc,fT,q4,q5,q6,q7,Bv,if_false,if_true]
  subst hK;rw[OX hh hids,KK (ord:=ord) (by rw[hids];exact hr),hpk,hcm]
  have hmp:aE (aI ord) (tidy m s)=tidy m s:=by
   apply e6;rw[hids];intro i hi;simp only[At,Bn,or_false]at hi
   rcases hi with rfl|rfl|rfl|rfl
   ·exact p0
   ·exact p1
   ·exact p2
   ·exact p3
  rw[hmp]
 ·rfl
def FE(n:Nat)(ids:List Nat):Bool:=decide (ids=[0,1,2,n+7])
theorem aDV{n:Nat}{ke0:Nat}(he0:ke0=n+7):FE n [0,1,2,ke0]=true:=by subst he0;simp[FE]
def iP(n i:Nat):Option Nat:=if i=0 then some 0 else if i=1 then some 1 else if i=2 then some 2 else if i=n+7 then some 3 else none
theorem OM{n:Nat}:iP n 0=some (0):=by unfold iP;repeat (first|rfl|rw[if_pos rfl]|rw[if_neg (by omega)])
theorem NC{n:Nat}:iP n 1=some (1):=by unfold iP;repeat (first|rfl|rw[if_pos rfl]|rw[if_neg (by omega)])
theorem M7{n:Nat}:iP n 2=some (2):=by unfold iP;repeat (first|rfl|rw[if_pos rfl]|rw[if_neg (by omega)])
theorem LU{n k:Nat}(h:k=n+7):iP n k=some (3):=by subst h;unfold iP;repeat (first|rfl|rw[if_pos rfl]|rw[if_neg (by omega)])
theorem aM9{m:List Bool}{s:List A}{y1 y2 x0 x1:D}{k z:Nat}{cs:List D}{d:List (List Int)}{p:H}(hl:d.length<=4294967296):gc 1 m s (.box [.d y1,.d y2]::.box [.d x0,.sl 3 0 0 0,.sl 4 0 0 0]::.box [.d x1,.sl 5 0 0 k,.sl 6 0 0 z]::.arr [] 0 0::.arr [] 0 0::.vec (aC 7 d++aF 0) 1 0::.arr cs 1 0::(aH d++.arr [] 1 0::p))=match box (tidy m s)with
  |.mk s1=>if FE d.length (idsL s1)=true then(aU 0 (.box [.d y1,.d y2]::.box [.d x0,.sl 4 0 0 0,.sl 5 0 0 0]::.box [.d x1,.sl 6 0 0 k,.sl 7 0 0 z]::.arr [] 1 0::.arr [] 0 0::.arr [] 0 0::.vec (aC 8 d++aF 0) 1 0::.arr cs 1 0::aH d) (aE (iP d.length) s1),.box [.d y1,.d y2]::.box [.d x0,.sl 4 0 0 0,.sl 5 0 0 0]::.box [.d x1,.sl 6 0 0 k,.sl 7 0 0 z]::.arr [] 1 0::.arr [] 0 0::.arr [] 0 0::.vec (aC 8 d++aF 0) 1 0::.arr cs 1 0::aH d)else gcO 1 m s (.box [.d y1,.d y2]::.box [.d x0,.sl 3 0 0 0,.sl 4 0 0 0]::.box [.d x1,.sl 5 0 0 k,.sl 6 0 0 z]::.arr [] 0 0::.arr [] 0 0::.vec (aC 7 d++aF 0) 1 0::.arr cs 1 0::(aH d++.arr [] 1 0::p))
  |.no=>([],[]):=by
 simp only[box]
 split
 ·rename_i hc
  have hb:=hc;have hids:idsL (tidy m s)=[0,1,2,d.length+7]:=by simpa [FE]using hb
  obtain⟨h,hh⟩:∃h:H,O.box [.d y1,.d y2]::.box [.d x0,.sl 3 0 0 0,.sl 4 0 0 0]::.box [.d x1,.sl 5 0 0 k,.sl 6 0 0 z]::.arr [] 0 0::.arr [] 0 0::.vec (aC 7 d++aF 0) 1 0::.arr cs 1 0::(aH d++.arr [] 1 0::p)=h:=⟨_,rfl⟩
  conv=>lhs;rw[hh]
  have g0:h[0]? =some (.box [.d y1,.d y2]):=by rw[<-hh];rfl
  have g1:h[1]? =some (.box [.d x0,.sl 3 0 0 0,.sl 4 0 0 0]):=by rw[<-hh];rfl
  have g2:h[2]? =some (.box [.d x1,.sl 5 0 0 k,.sl 6 0 0 z]):=by rw[<-hh];rfl
  have g3:h[3]? =some (.arr [] 0 0):=by rw[<-hh];rfl
  have g4:h[4]? =some (.arr [] 0 0):=by rw[<-hh];rfl
  have g5:h[5]? =some (.vec (aC 7 d++aF 0) 1 0):=by rw[<-hh];rfl
  have g6:h[6]? =some (.arr cs 1 0):=by rw[<-hh];rfl
  have hD:h.drop 7=aH d++(.arr [] 1 0::p):=by rw[<-hh];rfl
  have gr:=hJ 7 hD;have ge0:h[d.length+7]? =some (.arr [] 1 0):=t8 7 0 hD rfl (by omega);have k0:kids h (0)=[]:=by simp[kids,g0,idsL,idsA]
  have k1:kids h (1)=[3,4]:=by simp[kids,g1,idsL,idsA]
  have k2:kids h (2)=[5,6]:=by simp[kids,g2,idsL,idsA]
  have ke0:kids h (d.length+7)=[]:=bN ge0;have k3:kids h (3)=[]:=bN g3;have k4:kids h (4)=[]:=bN g4;have k5:kids h (5)=List.range' 7 d.length:=by simp[kids,g5,bL,bU,dB]
  have leaf:=iG gr;have hr:aD aG h [0,1,2,d.length+7] []=[0,1,2,d.length+7,3,4,5]++([6]++(List.range' 7 d.length++[])):=fN (by simp[k0,k1,k2,ke0,k3,k4,k5]) (by intro q hq;simp only[Ad,Ac]at hq;have:q=0\/q=1\/q=2\/q=3\/q=4\/q=5\/q=6:=(by omega);rcases this with rfl|rfl|rfl|rfl|rfl|rfl|rfl<;>simp[k0,k1,k2,ke0,k3,k4]) leaf (by intro i hi;simp at hi;subst hi;exact⟨_,_,_,by assumption⟩) (by intro i hi;simp at hi;rcases hi with rfl|rfl|rfl|rfl|rfl|rfl|rfl<;>exact⟨_,by assumption,by simp⟩) (by simp<;>omega) (by intro i hi;simp at hi;omega) (by simp only[aG,Ad,Ac];omega);generalize hord:[0,1,2,d.length+7,3,4,5]++([6]++(List.range' 7 d.length++[]))=ord at hr;have hA:ord=([0,1,2,d.length+7,3,4,5]++[6])++(List.range' 7 d.length++[]):=by rw[<-hord,Am]
  have pk:∀i j,ord[j]? =some i->aI ord i=some j:=fun i j h1=>dJ (by rw[<-hr];exact bT aG h _ [] (by simp)) h1;have p0:=pk (0) 0 (by rw[<-hord];rfl);have p1:=pk (1) 1 (by rw[<-hord];rfl);have p2:=pk (2) 2 (by rw[<-hord];rfl);have pe0:=pk (d.length+7) 3 (by rw[<-hord];rfl);have p3:=pk (3) 4 (by rw[<-hord];rfl);have p4:=pk (4) 5 (by rw[<-hord];rfl);have p5:=pk (5) 6 (by rw[<-hord];rfl);have p6:=pk (6) 7 (by rw[<-hord];rfl);have pr:=iK (C:=8) pk hA rfl;obtain⟨K,hK⟩:∃K:H,O.box [.d y1,.d y2]::.box [.d x0,.sl 4 0 0 0,.sl 5 0 0 0]::.box [.d x1,.sl 6 0 0 k,.sl 7 0 0 z]::.arr [] 1 0::.arr [] 0 0::.arr [] 0 0::.vec (aC 8 d++aF 0) 1 0::.arr cs 1 0::aH d=K:=⟨_,rfl⟩
  have hni:∀f,aE f (aF 0)=aF 0:=fun _=>rfl
  have hpk:pack h ord=K:=by
   have hrf:aE (aI ord) (aC 7 d)=aC 8 d:=eP (c:=0) pr;rw[j3 hA gr,<-hK];simp only[Av,Ao,Ah,Ap,Aa,g0,g1,g2,ge0,g3,g4,g5,g6,Bb,mapO,aE,mapA,cQ,hrf,hni,p3,p4,p5,p6,Ai]
  have hKD:K.drop 8=aH d++[]:=by rw[<-hK];exact(Ai _).symm
  have hgr:=mI hKD
  have hcm:cE 0 K=.box [.d y1,.d y2]::.box [.d x0,.sl 4 0 0 0,.sl 5 0 0 0]::.box [.d x1,.sl 6 0 0 k,.sl 7 0 0 z]::.arr [] 1 0::.arr [] 0 0::.arr [] 0 0::.vec (aC 8 d++aF 0) 1 0::.arr cs 1 0::aH d:=by
   have hrf:aU 0 K (aC 8 d)=aC 8 d:=fB hgr;have hnc:∀h:H,aU 0 h (aF 0)=aF 0:=fun _=>rfl;have q3:a6 K 3=some 0:=by rw[<-hK];rfl
   have q4:a6 K 4=some 0:=by rw[<-hK];rfl
   have q5:a6 K 5=some 0:=by rw[<-hK];rfl
   have q6:a6 K 6=some 0:=by rw[<-hK];rfl
   have q7:a6 K 7=some 0:=by rw[<-hK];rfl
   unfold cE;rw[fA]
   conv=>lhs;arg 2;rw[<-hK]
   simp only[Ah,bW,aU,bM,gC,eG,hrf,hnc,fT,q4,q5,q6,q7,Bv,if_false,if_true]
  subst hK;rw[OX hh hids,KK (ord:=ord) (by rw[hids];exact hr),hpk,hcm]
  have hmp:aE (aI ord) (tidy m s)=aE (iP d.length) (tidy m s):=by
   apply jW;rw[hids];intro i hi;simp only[At,Bn,or_false]at hi
   rcases hi with rfl|rfl|rfl|rfl
   ·rw[p0,OM]
   ·rw[p1,NC]
   ·rw[p2,M7]
   ·rw[pe0,LU rfl]
  rw[hmp]
 ·rfl
def uF(n:Nat):List Nat:=[0,5,6]++(List.range' 7 n++[])
def BV(n i:Nat):Option Nat:=if i=0 then some 0 else if i=5 then some 1 else if i=6 then some 2 else none
theorem aBx{n:Nat}:BV n 5=some (1):=by unfold BV;repeat (first|rfl|rw[if_pos rfl]|rw[if_neg (by omega)])
theorem aBJ{n:Nat}:BV n 6=some (2):=by unfold BV;repeat (first|rfl|rw[if_pos rfl]|rw[if_neg (by omega)])
theorem aJ6{y1 y2:D}{x0 x1 o3 o4:O}{cs:List D}{d:List (List Int)}(hl:d.length<=4294967296){ids:List Nat}:dG 1 (.box [.d y1,.d y2]::x0::x1::o3::o4::.vec (aC 7 d++aF 0) 1 0::.arr cs 1 0::aH d) ids=if ids=[5,6]then uF d.length else aMc 1 (.box [.d y1,.d y2]::x0::x1::o3::o4::.vec (aC 7 d++aF 0) 1 0::.arr cs 1 0::aH d) ids:=by
 split
 ·rename_i hc
  subst hc;rw[aFu];obtain⟨h,hh⟩:∃h:H,O.box [.d y1,.d y2]::x0::x1::o3::o4::.vec (aC 7 d++aF 0) 1 0::.arr cs 1 0::aH d=h:=⟨_,rfl⟩
  conv=>lhs;rw[hh]
  have g0:h[0]? =some (.box [.d y1,.d y2]):=by rw[<-hh];rfl
  have g5:h[5]? =some (.vec (aC 7 d++aF 0) 1 0):=by rw[<-hh];rfl
  have g6:h[6]? =some (.arr cs 1 0):=by rw[<-hh];rfl
  have hD:h.drop 7=aH d++[]:=by rw[<-hh];exact(Ai _).symm
  have gr:=hJ 7 hD;have k0:kids h (0)=[]:=by simp[kids,g0,idsL,idsA]
  have k5:kids h (5)=List.range' 7 d.length:=by simp[kids,g5,bL,bU,dB]
  have leaf:=iG gr;have hr:aD (aG+1) h [0,5,6] []=[0,5]++([6]++(List.range' 7 d.length++[])):=fN (by simp[k0,k5]) (by intro q hq;simp only[Ad,Ac]at hq;have:q=0\/q=1:=(by omega);rcases this with rfl|rfl<;>simp[k0]) leaf (by intro i hi;simp at hi;subst hi;exact⟨_,_,_,by assumption⟩) (by intro i hi;simp at hi;rcases hi with rfl|rfl<;>exact⟨_,by assumption,by simp⟩) (by simp<;>omega) (by intro i hi;simp at hi;omega) (by simp only[aG,Ad,Ac];omega);generalize hord:[0,5]++([6]++(List.range' 7 d.length++[]))=ord at hr;rw[hr,<-hord];rfl
 ·rfl
theorem aKa{y1 y2:D}{x0 x1 o3 o4:O}{cs:List D}{d:List (List Int)}(hl:d.length<=4294967296){s:List A}:trim 1 (.box [.d y1,.d y2]::x0::x1::o3::o4::.vec (aC 7 d++aF 0) 1 0::.arr cs 1 0::aH d) (uF d.length) s=if idsL s=[5,6]/\z0As s=true then(aE (BV d.length) s,.box [.d y1,.d y2]::.vec (aC 3 d++aF 0) 1 0::.arr cs 1 0::aH d)else aMh 1 (.box [.d y1,.d y2]::x0::x1::o3::o4::.vec (aC 7 d++aF 0) 1 0::.arr cs 1 0::aH d) (uF d.length) s:=by
 split
 ·rename_i hc
  obtain⟨hids,hz⟩:=hc;rw[show uF d.length=0::(uF d.length).tail from rfl,aAB,show(0::(uF d.length).tail)=uF d.length from rfl];obtain⟨h,hh⟩:∃h:H,O.box [.d y1,.d y2]::x0::x1::o3::o4::.vec (aC 7 d++aF 0) 1 0::.arr cs 1 0::aH d=h:=⟨_,rfl⟩
  conv=>lhs;rw[hh]
  have g0:h[0]? =some (.box [.d y1,.d y2]):=by rw[<-hh];rfl
  have g5:h[5]? =some (.vec (aC 7 d++aF 0) 1 0):=by rw[<-hh];rfl
  have g6:h[6]? =some (.arr cs 1 0):=by rw[<-hh];rfl
  have hD:h.drop 7=aH d++[]:=by rw[<-hh];exact(Ai _).symm
  have gr:=hJ 7 hD;have k0:kids h (0)=[]:=by simp[kids,g0,idsL,idsA]
  have k5:kids h (5)=List.range' 7 d.length:=by simp[kids,g5,bL,bU,dB]
  have leaf:=iG gr;have hr:aD aG h [0,5,6] []=[0,5]++([6]++(List.range' 7 d.length++[])):=fN (by simp[k0,k5]) (by intro q hq;simp only[Ad,Ac]at hq;have:q=0\/q=1:=(by omega);rcases this with rfl|rfl<;>simp[k0]) leaf (by intro i hi;simp at hi;subst hi;exact⟨_,_,_,by assumption⟩) (by intro i hi;simp at hi;rcases hi with rfl|rfl<;>exact⟨_,by assumption,by simp⟩) (by simp<;>omega) (by intro i hi;simp at hi;omega) (by simp only[aG,Ad,Ac];omega);generalize hord:[0,5]++([6]++(List.range' 7 d.length++[]))=ord at hr;have hA:ord=([0,5]++[6])++(List.range' 7 d.length++[]):=by rw[<-hord,Am]
  have pk:∀i j,ord[j]? =some i->aI ord i=some j:=fun i j h1=>dJ (by rw[<-hr];exact bT aG h _ [] (by simp)) h1;have p0:=pk (0) 0 (by rw[<-hord];rfl);have p5:=pk (5) 1 (by rw[<-hord];rfl);have p6:=pk (6) 2 (by rw[<-hord];rfl);have pr:=iK (C:=3) pk hA rfl;obtain⟨K,hK⟩:∃K:H,O.box [.d y1,.d y2]::.vec (aC 3 d++aF 0) 1 0::.arr cs 1 0::aH d=K:=⟨_,rfl⟩
  have hni:∀f,aE f (aF 0)=aF 0:=fun _=>rfl
  have hpk:pack h ord=K:=by
   have hrf:aE (aI ord) (aC 7 d)=aC 3 d:=eP (c:=0) pr;rw[j3 hA gr,<-hK];simp only[Av,Ao,Ah,Ap,Aa,g0,g5,g6,Bb,mapO,aE,mapA,cQ,hrf,hni,Ai]
  have hKD:K.drop 3=aH d++[]:=by rw[<-hK];exact(Ai _).symm
  have hgr:=mI hKD
  have hcm:cE 0 K=.box [.d y1,.d y2]::.vec (aC 3 d++aF 0) 1 0::.arr cs 1 0::aH d:=by
   have hrf:aU 0 K (aC 3 d)=aC 3 d:=fB hgr;have hnc:∀h:H,aU 0 h (aF 0)=aF 0:=fun _=>rfl;have q1:a6 K 1=some 0:=by rw[<-hK];rfl
   have q2:a6 K 2=some 0:=by rw[<-hK];rfl
   unfold cE;rw[fA]
   conv=>lhs;arg 2;rw[<-hK]
   simp only[Ah,bW,aU,bM,eG,hrf,hnc,fT,Bv,if_false]
  subst hK;have hoo:uF d.length=ord:=by rw[<-hord];rfl
  unfold trim;rw[hoo,hpk,hcm]
  have hz2:aU 0 (O.box [.d y1,.d y2]::.vec (aC 3 d++aF 0) 1 0::.arr cs 1 0::aH d) (aE (aI ord) s)=aE (aI ord) s:=by
   exact jL (DF (by simp[z0O,z0As,z0A,x5,uE,uJ,CW])) _ (vZ _ hz)
  have hmp:aE (aI ord) s=aE (BV d.length) s:=by
   apply jW;rw[hids];intro i hi;simp only[At,Bn,or_false]at hi
   rcases hi with rfl|rfl
   ·rw[p5,aBx]
   ·rw[p6,aBJ]
  rw[hz2,hmp]
 ·rfl
theorem aNz{m:List Bool}{s:List A}{a1 a2 a3 x0 x1:D}{k z:Nat}{r:List Int}{cs:List D}{d:List (List Int)}{p:H}(hl:d.length<=4294967296):gc 0 m s (.box [.d a1,.d a2,.d a3]::.box [.d x0,.sl 3 0 0 0,.sl 4 0 0 0]::.box [.d x1,.sl 5 1 0 k,.sl 6 0 0 z]::.arr [] 0 0::.arr [] 0 0::.vec (aC 7 d++[.sl (d.length+7) 1 0 r.length]) 1 1::.arr cs 1 0::(aH d++.arr (ints r) 1 1::p))=match box (tidy m s)with
  |.mk s1=>if idsL s1=[0,1,2]then(aU 0 (.box [.d a1,.d a2,.d a3]::.box [.d x0,.sl 3 0 0 0,.sl 4 0 0 0]::.box [.d x1,.sl 5 1 0 k,.sl 6 0 0 z]::.arr [] 0 0::.arr [] 0 0::.vec (aC 7 d++[.sl (d.length+7) 1 0 r.length]) 1 1::.arr cs 1 0::(aH d++[.arr (ints r) 1 1])) (s1),.box [.d a1,.d a2,.d a3]::.box [.d x0,.sl 3 0 0 0,.sl 4 0 0 0]::.box [.d x1,.sl 5 0 0 k,.sl 6 0 0 z]::.arr [] 0 0::.arr [] 0 0::.vec (aC 7 d++[.sl (d.length+7) 0 0 r.length]) 1 0::.arr cs 1 0::(aH d++[.arr (ints r) 1 0]))else gcO 0 m s (.box [.d a1,.d a2,.d a3]::.box [.d x0,.sl 3 0 0 0,.sl 4 0 0 0]::.box [.d x1,.sl 5 1 0 k,.sl 6 0 0 z]::.arr [] 0 0::.arr [] 0 0::.vec (aC 7 d++[.sl (d.length+7) 1 0 r.length]) 1 1::.arr cs 1 0::(aH d++.arr (ints r) 1 1::p))
  |.no=>([],[]):=by
 simp only[box]
 split
 ·rename_i hc
  have hb:=hc;have hids:idsL (tidy m s)=[0,1,2]:=by exact hb
  obtain⟨h,hh⟩:∃h:H,O.box [.d a1,.d a2,.d a3]::.box [.d x0,.sl 3 0 0 0,.sl 4 0 0 0]::.box [.d x1,.sl 5 1 0 k,.sl 6 0 0 z]::.arr [] 0 0::.arr [] 0 0::.vec (aC 7 d++[.sl (d.length+7) 1 0 r.length]) 1 1::.arr cs 1 0::(aH d++.arr (ints r) 1 1::p)=h:=⟨_,rfl⟩
  conv=>lhs;rw[hh]
  have g0:h[0]? =some (.box [.d a1,.d a2,.d a3]):=by rw[<-hh];rfl
  have g1:h[1]? =some (.box [.d x0,.sl 3 0 0 0,.sl 4 0 0 0]):=by rw[<-hh];rfl
  have g2:h[2]? =some (.box [.d x1,.sl 5 1 0 k,.sl 6 0 0 z]):=by rw[<-hh];rfl
  have g3:h[3]? =some (.arr [] 0 0):=by rw[<-hh];rfl
  have g4:h[4]? =some (.arr [] 0 0):=by rw[<-hh];rfl
  have g5:h[5]? =some (.vec (aC 7 d++[.sl (d.length+7) 1 0 r.length]) 1 1):=by rw[<-hh];rfl
  have g6:h[6]? =some (.arr cs 1 0):=by rw[<-hh];rfl
  have hD:h.drop 7=aH d++(.arr (ints r) 1 1::p):=by rw[<-hh];rfl
  have gr:=hJ 7 hD;have ge0:h[d.length+7]? =some (.arr (ints r) 1 1):=t8 7 0 hD rfl (by omega);have k0:kids h (0)=[]:=by simp[kids,g0,idsL,idsA]
  have k1:kids h (1)=[3,4]:=by simp[kids,g1,idsL,idsA]
  have k2:kids h (2)=[5,6]:=by simp[kids,g2,idsL,idsA]
  have k3:kids h (3)=[]:=bN g3;have k4:kids h (4)=[]:=bN g4;have k5:kids h (5)=List.range' 7 d.length++[d.length+7]:=by simp[kids,g5,bL,bU,idsL,idsA]
  have leaf:=iG gr;have hr:aD aG h [0,1,2] []=[0,1,2,3,4,5]++([6]++(List.range' 7 d.length++[d.length+7])):=fN (by simp[k0,k1,k2,k3,k4,k5]) (by intro q hq;simp only[Ad,Ac]at hq;have:q=0\/q=1\/q=2\/q=3\/q=4\/q=5:=(by omega);rcases this with rfl|rfl|rfl|rfl|rfl|rfl<;>simp[k0,k1,k2,k3,k4]) leaf (by intro i hi;simp at hi;rcases hi with rfl|rfl<;>exact⟨_,_,_,by assumption⟩) (by intro i hi;simp at hi;rcases hi with rfl|rfl|rfl|rfl|rfl|rfl<;>exact⟨_,by assumption,by simp⟩) (by simp<;>omega) (by intro i hi;simp at hi;omega) (by simp only[aG,Ad,Ac];omega);generalize hord:[0,1,2,3,4,5]++([6]++(List.range' 7 d.length++[d.length+7]))=ord at hr;have hA:ord=([0,1,2,3,4,5]++[6])++(List.range' 7 d.length++[d.length+7]):=by rw[<-hord,Am]
  have pk:∀i j,ord[j]? =some i->aI ord i=some j:=fun i j h1=>dJ (by rw[<-hr];exact bT aG h _ [] (by simp)) h1;have p0:=pk (0) 0 (by rw[<-hord];rfl);have p1:=pk (1) 1 (by rw[<-hord];rfl);have p2:=pk (2) 2 (by rw[<-hord];rfl);have p3:=pk (3) 3 (by rw[<-hord];rfl);have p4:=pk (4) 4 (by rw[<-hord];rfl);have p5:=pk (5) 5 (by rw[<-hord];rfl);have p6:=pk (6) 6 (by rw[<-hord];rfl);have pr:=iK (C:=7) pk hA rfl;have pe0:=PJ (C:=7) pk hA rfl 0 (i:=d.length+7) (j:=d.length+7) rfl (by omega);obtain⟨K,hK⟩:∃K:H,O.box [.d a1,.d a2,.d a3]::.box [.d x0,.sl 3 0 0 0,.sl 4 0 0 0]::.box [.d x1,.sl 5 1 0 k,.sl 6 0 0 z]::.arr [] 0 0::.arr [] 0 0::.vec (aC 7 d++[.sl (d.length+7) 1 0 r.length]) 1 1::.arr cs 1 0::(aH d++[.arr (ints r) 1 1])=K:=⟨_,rfl⟩
  have hni:∀f,aE f (aF 0)=aF 0:=fun _=>rfl
  have hpk:pack h ord=K:=by
   have hrf:aE (aI ord) (aC 7 d)=aC 7 d:=eP (c:=0) pr;rw[j3 hA gr,<-hK];simp only[Av,Ao,Ah,Ap,Aa,g0,g1,g2,g3,g4,g5,g6,ge0,Bb,mapO,aE,mapA,cQ,hrf,p3,p4,p5,p6,pe0]
  have hKD:K.drop 7=aH d++[.arr (ints r) 1 1]:=by rw[<-hK];rfl
  have hgr:=mI hKD;have hge0:a6 K (d.length+7)=some 1:=by simp only[a6,t8 7 0 hKD rfl (j:=d.length+7) (by omega)]
  have hcm:cE 0 K=.box [.d a1,.d a2,.d a3]::.box [.d x0,.sl 3 0 0 0,.sl 4 0 0 0]::.box [.d x1,.sl 5 0 0 k,.sl 6 0 0 z]::.arr [] 0 0::.arr [] 0 0::.vec (aC 7 d++[.sl (d.length+7) 0 0 r.length]) 1 0::.arr cs 1 0::(aH d++[.arr (ints r) 1 0]):=by
   have hrf:aU 0 K (aC 7 d)=aC 7 d:=fB hgr;have hnc:∀h:H,aU 0 h (aF 0)=aF 0:=fun _=>rfl;have q3:a6 K 3=some 0:=by rw[<-hK];rfl
   have q4:a6 K 4=some 0:=by rw[<-hK];rfl
   have q5:a6 K 5=some 1:=by rw[<-hK];rfl
   have q6:a6 K 6=some 0:=by rw[<-hK];rfl
   unfold cE;rw[fA]
   conv=>lhs;arg 2;rw[<-hK]
   simp only[Ah,Di,Ap,bW,aU,bM,gC,eG,hrf,fT,q3,q4,q5,q6,hge0,Bv,if_false,if_true]
  subst hK;rw[KK (ord:=ord) (by rw[hids];exact hr),hpk,hcm]
  have hmp:aE (aI ord) (tidy m s)=tidy m s:=by
   apply e6;rw[hids];intro i hi;simp only[At,Bn,or_false]at hi
   rcases hi with rfl|rfl|rfl
   ·exact p0
   ·exact p1
   ·exact p2
  rw[hmp]
 ·rfl
theorem aN0{m:List Bool}{s:List A}{a1 a2 a3 x0 x1:D}{k z:Nat}{cs:List D}{d:List (List Int)}(hl:d.length<=4294967296):gc 0 m s (.box [.d a1,.d a2,.d a3]::.box [.d x0,.sl 3 0 0 0,.sl 4 0 0 0]::.box [.d x1,.sl 5 0 0 k,.sl 6 0 0 z]::.arr [] 0 0::.arr [] 0 0::.vec (aC 7 d++aF 0) 1 0::.arr cs 1 0::aH d)=match box (tidy m s)with
  |.mk s1=>if idsL s1=[0,1,2]then(aU 0 (.box [.d a1,.d a2,.d a3]::.box [.d x0,.sl 3 0 0 0,.sl 4 0 0 0]::.box [.d x1,.sl 5 0 0 k,.sl 6 0 0 z]::.arr [] 0 0::.arr [] 0 0::.vec (aC 7 d++aF 0) 1 0::.arr cs 1 0::aH d) (s1),.box [.d a1,.d a2,.d a3]::.box [.d x0,.sl 3 0 0 0,.sl 4 0 0 0]::.box [.d x1,.sl 5 0 0 k,.sl 6 0 0 z]::.arr [] 0 0::.arr [] 0 0::.vec (aC 7 d++aF 0) 1 0::.arr cs 1 0::aH d)else gcO 0 m s (.box [.d a1,.d a2,.d a3]::.box [.d x0,.sl 3 0 0 0,.sl 4 0 0 0]::.box [.d x1,.sl 5 0 0 k,.sl 6 0 0 z]::.arr [] 0 0::.arr [] 0 0::.vec (aC 7 d++aF 0) 1 0::.arr cs 1 0::aH d)
  |.no=>([],[]):=by
 simp only[box]
 split
 ·rename_i hc
  have hb:=hc;have hids:idsL (tidy m s)=[0,1,2]:=by exact hb
  obtain⟨h,hh⟩:∃h:H,O.box [.d a1,.d a2,.d a3]::.box [.d x0,.sl 3 0 0 0,.sl 4 0 0 0]::.box [.d x1,.sl 5 0 0 k,.sl 6 0 0 z]::.arr [] 0 0::.arr [] 0 0::.vec (aC 7 d++aF 0) 1 0::.arr cs 1 0::aH d=h:=⟨_,rfl⟩
  conv=>lhs;rw[hh]
  have g0:h[0]? =some (.box [.d a1,.d a2,.d a3]):=by rw[<-hh];rfl
  have g1:h[1]? =some (.box [.d x0,.sl 3 0 0 0,.sl 4 0 0 0]):=by rw[<-hh];rfl
  have g2:h[2]? =some (.box [.d x1,.sl 5 0 0 k,.sl 6 0 0 z]):=by rw[<-hh];rfl
  have g3:h[3]? =some (.arr [] 0 0):=by rw[<-hh];rfl
  have g4:h[4]? =some (.arr [] 0 0):=by rw[<-hh];rfl
  have g5:h[5]? =some (.vec (aC 7 d++aF 0) 1 0):=by rw[<-hh];rfl
  have g6:h[6]? =some (.arr cs 1 0):=by rw[<-hh];rfl
  have hD:h.drop 7=aH d++[]:=by rw[<-hh];exact(Ai _).symm
  have gr:=hJ 7 hD;have k0:kids h (0)=[]:=by simp[kids,g0,idsL,idsA]
  have k1:kids h (1)=[3,4]:=by simp[kids,g1,idsL,idsA]
  have k2:kids h (2)=[5,6]:=by simp[kids,g2,idsL,idsA]
  have k3:kids h (3)=[]:=bN g3;have k4:kids h (4)=[]:=bN g4;have k5:kids h (5)=List.range' 7 d.length:=by simp[kids,g5,bL,bU,dB]
  have leaf:=iG gr;have hr:aD aG h [0,1,2] []=[0,1,2,3,4,5]++([6]++(List.range' 7 d.length++[])):=fN (by simp[k0,k1,k2,k3,k4,k5]) (by intro q hq;simp only[Ad,Ac]at hq;have:q=0\/q=1\/q=2\/q=3\/q=4\/q=5:=(by omega);rcases this with rfl|rfl|rfl|rfl|rfl|rfl<;>simp[k0,k1,k2,k3,k4]) leaf (by intro i hi;simp at hi;subst hi;exact⟨_,_,_,by assumption⟩) (by intro i hi;simp at hi;rcases hi with rfl|rfl|rfl|rfl|rfl|rfl<;>exact⟨_,by assumption,by simp⟩) (by simp<;>omega) (by intro i hi;simp at hi;omega) (by simp only[aG,Ad,Ac];omega);generalize hord:[0,1,2,3,4,5]++([6]++(List.range' 7 d.length++[]))=ord at hr;have hA:ord=([0,1,2,3,4,5]++[6])++(List.range' 7 d.length++[]):=by rw[<-hord,Am]
  have pk:∀i j,ord[j]? =some i->aI ord i=some j:=fun i j h1=>dJ (by rw[<-hr];exact bT aG h _ [] (by simp)) h1;have p0:=pk (0) 0 (by rw[<-hord];rfl);have p1:=pk (1) 1 (by rw[<-hord];rfl);have p2:=pk (2) 2 (by rw[<-hord];rfl);have p3:=pk (3) 3 (by rw[<-hord];rfl);have p4:=pk (4) 4 (by rw[<-hord];rfl);have p5:=pk (5) 5 (by rw[<-hord];rfl);have p6:=pk (6) 6 (by rw[<-hord];rfl);have pr:=iK (C:=7) pk hA rfl;obtain⟨K,hK⟩:∃K:H,O.box [.d a1,.d a2,.d a3]::.box [.d x0,.sl 3 0 0 0,.sl 4 0 0 0]::.box [.d x1,.sl 5 0 0 k,.sl 6 0 0 z]::.arr [] 0 0::.arr [] 0 0::.vec (aC 7 d++aF 0) 1 0::.arr cs 1 0::aH d=K:=⟨_,rfl⟩
  have hni:∀f,aE f (aF 0)=aF 0:=fun _=>rfl
  have hpk:pack h ord=K:=by
   have hrf:aE (aI ord) (aC 7 d)=aC 7 d:=eP (c:=0) pr;rw[j3 hA gr,<-hK];simp only[Av,Ao,Ah,Ap,Aa,g0,g1,g2,g3,g4,g5,g6,Bb,mapO,aE,mapA,cQ,hrf,hni,p3,p4,p5,p6,Ai]
  have hKD:K.drop 7=aH d++[]:=by rw[<-hK];exact(Ai _).symm
  have hgr:=mI hKD
  have hcm:cE 0 K=.box [.d a1,.d a2,.d a3]::.box [.d x0,.sl 3 0 0 0,.sl 4 0 0 0]::.box [.d x1,.sl 5 0 0 k,.sl 6 0 0 z]::.arr [] 0 0::.arr [] 0 0::.vec (aC 7 d++aF 0) 1 0::.arr cs 1 0::aH d:=by
   have hrf:aU 0 K (aC 7 d)=aC 7 d:=fB hgr;have hnc:∀h:H,aU 0 h (aF 0)=aF 0:=fun _=>rfl;have q3:a6 K 3=some 0:=by rw[<-hK];rfl
   have q4:a6 K 4=some 0:=by rw[<-hK];rfl
   have q5:a6 K 5=some 0:=by rw[<-hK];rfl
   have q6:a6 K 6=some 0:=by rw[<-hK];rfl
   unfold cE;rw[fA]
   conv=>lhs;arg 2;rw[<-hK]
   simp only[Ah,bW,aU,bM,gC,eG,hrf,hnc,fT,q3,q4,q5,q6,Bv,if_false,if_true]
  subst hK;rw[KK (ord:=ord) (by rw[hids];exact hr),hpk,hcm]
  have hmp:aE (aI ord) (tidy m s)=tidy m s:=by
   apply e6;rw[hids];intro i hi;simp only[At,Bn,or_false]at hi
   rcases hi with rfl|rfl|rfl
   ·exact p0
   ·exact p1
   ·exact p2
  rw[hmp]
 ·rfl
def QJ(n:Nat):List Nat:=[5,6]++(List.range' 7 n++[])
def BW(n i:Nat):Option Nat:=if i=5 then some 0 else if i=6 then some 1 else none
theorem aCy{n:Nat}:BW n 5=some (0):=by unfold BW;repeat (first|rfl|rw[if_pos rfl]|rw[if_neg (by omega)])
theorem aB5{n:Nat}:BW n 6=some (1):=by unfold BW;repeat (first|rfl|rw[if_pos rfl]|rw[if_neg (by omega)])
theorem aK6{o0 x0 x1:O}{o3 o4:O}{cs:List D}{d:List (List Int)}(hl:d.length<=4294967296){ids:List Nat}:dG 0 (o0::x0::x1::o3::o4::.vec (aC 7 d++aF 0) 1 0::.arr cs 1 0::aH d) ids=if ids=[5,6]then QJ d.length else aMc 0 (o0::x0::x1::o3::o4::.vec (aC 7 d++aF 0) 1 0::.arr cs 1 0::aH d) ids:=by
 split
 ·rename_i hc
  subst hc;obtain⟨h,hh⟩:∃h:H,o0::x0::x1::o3::o4::.vec (aC 7 d++aF 0) 1 0::.arr cs 1 0::aH d=h:=⟨_,rfl⟩
  conv=>lhs;rw[hh]
  have g5:h[5]? =some (.vec (aC 7 d++aF 0) 1 0):=by rw[<-hh];rfl
  have g6:h[6]? =some (.arr cs 1 0):=by rw[<-hh];rfl
  have hD:h.drop 7=aH d++[]:=by rw[<-hh];exact(Ai _).symm
  have gr:=hJ 7 hD;have k5:kids h (5)=List.range' 7 d.length:=by simp[kids,g5,bL,bU,dB]
  have leaf:=iG gr;have hr:aD aG h [5,6] []=[5]++([6]++(List.range' 7 d.length++[])):=fN (by simp[k5]) (by intro q hq;simp only[Ad,Ac]at hq;have:q=0:=(by omega);rcases this with rfl<;>simp[]) leaf (by intro i hi;simp at hi;subst hi;exact⟨_,_,_,by assumption⟩) (by intro i hi;simp at hi;subst hi;exact⟨_,by assumption,by simp⟩) (by simp<;>omega) (by intro i hi;simp at hi;omega) (by simp only[aG,Ad,Ac];omega);generalize hord:[5]++([6]++(List.range' 7 d.length++[]))=ord at hr;rw[NV];unfold aG at hr;rw[hr,<-hord];rfl
 ·rfl
theorem aK2{o0 x0 x1:O}{o3 o4:O}{cs:List D}{d:List (List Int)}(hl:d.length<=4294967296){s:List A}:trim 0 (o0::x0::x1::o3::o4::.vec (aC 7 d++aF 0) 1 0::.arr cs 1 0::aH d) (QJ d.length) s=if idsL s=[5,6]/\z0As s=true then(aE (BW d.length) s,.vec (aC 2 d++aF 0) 1 0::.arr cs 1 0::aH d)else aMh 0 (o0::x0::x1::o3::o4::.vec (aC 7 d++aF 0) 1 0::.arr cs 1 0::aH d) (QJ d.length) s:=by
 split
 ·rename_i hc
  obtain⟨hids,hz⟩:=hc;obtain⟨h,hh⟩:∃h:H,o0::x0::x1::o3::o4::.vec (aC 7 d++aF 0) 1 0::.arr cs 1 0::aH d=h:=⟨_,rfl⟩
  conv=>lhs;rw[hh]
  have g5:h[5]? =some (.vec (aC 7 d++aF 0) 1 0):=by rw[<-hh];rfl
  have g6:h[6]? =some (.arr cs 1 0):=by rw[<-hh];rfl
  have hD:h.drop 7=aH d++[]:=by rw[<-hh];exact(Ai _).symm
  have gr:=hJ 7 hD;have k5:kids h (5)=List.range' 7 d.length:=by simp[kids,g5,bL,bU,dB]
  have leaf:=iG gr;have hr:aD aG h [5,6] []=[5]++([6]++(List.range' 7 d.length++[])):=fN (by simp[k5]) (by intro q hq;simp only[Ad,Ac]at hq;have:q=0:=(by omega);rcases this with rfl<;>simp[]) leaf (by intro i hi;simp at hi;subst hi;exact⟨_,_,_,by assumption⟩) (by intro i hi;simp at hi;subst hi;exact⟨_,by assumption,by simp⟩) (by simp<;>omega) (by intro i hi;simp at hi;omega) (by simp only[aG,Ad,Ac];omega);generalize hord:[5]++([6]++(List.range' 7 d.length++[]))=ord at hr;have hA:ord=([5]++[6])++(List.range' 7 d.length++[]):=by rw[<-hord,Am]
  have pk:∀i j,ord[j]? =some i->aI ord i=some j:=fun i j h1=>dJ (by rw[<-hr];exact bT aG h _ [] (by simp)) h1;have p5:=pk (5) 0 (by rw[<-hord];rfl);have p6:=pk (6) 1 (by rw[<-hord];rfl);have pr:=iK (C:=2) pk hA rfl;obtain⟨K,hK⟩:∃K:H,O.vec (aC 2 d++aF 0) 1 0::.arr cs 1 0::aH d=K:=⟨_,rfl⟩
  have hni:∀f,aE f (aF 0)=aF 0:=fun _=>rfl
  have hpk:pack h ord=K:=by
   have hrf:aE (aI ord) (aC 7 d)=aC 2 d:=eP (c:=0) pr;rw[j3 hA gr,<-hK];simp only[Av,Ao,Ah,Ap,Aa,g5,g6,Bb,mapO,cQ,hrf,hni,Ai]
  have hKD:K.drop 2=aH d++[]:=by rw[<-hK];exact(Ai _).symm
  have hgr:=mI hKD
  have hcm:cE 0 K=.vec (aC 2 d++aF 0) 1 0::.arr cs 1 0::aH d:=by
   have hrf:aU 0 K (aC 2 d)=aC 2 d:=fB hgr;have hnc:∀h:H,aU 0 h (aF 0)=aF 0:=fun _=>rfl;have q0:a6 K 0=some 0:=by rw[<-hK];rfl
   have q1:a6 K 1=some 0:=by rw[<-hK];rfl
   unfold cE;rw[fA]
   conv=>lhs;arg 2;rw[<-hK]
   simp only[Ah,bW,eG,hrf,hnc,fT,Bv,if_false]
  subst hK;have hoo:QJ d.length=ord:=by rw[<-hord];rfl
  unfold trim;rw[hoo,hpk,hcm]
  have hz2:aU 0 (O.vec (aC 2 d++aF 0) 1 0::.arr cs 1 0::aH d) (aE (aI ord) s)=aE (aI ord) s:=by
   exact jL (DF (by simp[z0O,x5,uE,uJ,CW])) _ (vZ _ hz)
  have hmp:aE (aI ord) s=aE (BW d.length) s:=by
   apply jW;rw[hids];intro i hi;simp only[At,Bn,or_false]at hi
   rcases hi with rfl|rfl
   ·rw[p5,aCy]
   ·rw[p6,aB5]
  rw[hz2,hmp]
 ·rfl


section
section
variable{h:H}{a b c d:O}
theorem aLr:(h++[a,b,c])[h.length+1+1]? =some c:=by
 rw[Bh (by omega),show h.length+1+1-h.length=2 by omega];rfl
theorem aKN:(h++[a,b,c]).set (h.length+1+1) d=h++[a,b,d]:=by
 rw[Dm _ _ (by omega),show h.length+1+1-h.length=2 by omega];rfl
end
theorem aLm{a b:Foot}(ha:a.ro=true)(hb:b.ro=true):jM a b=false:=by
 unfold jM;rw[ha,hb];rfl
section
variable{L n:Nat}{h:H}{al:Int}{rs:List (List Int)}{ac:List Bool}
end
end
theorem BI{f:Nat->Option Nat}:∀(k:Nat) (cs:List A),(aE f cs).take k=aE f (cs.take k)
 |0,cs=>by simp[aE]
 |k+1,[]=>by simp[aE]
 |k+1,c::cs=>by simp only[aE,List.take_succ_cons,BI k cs]
theorem J8{f:Nat->Option Nat}:∀(k:Nat) (cs:List A),(aE f cs).drop k=aE f (cs.drop k)
 |0,cs=>rfl
 |k+1,[]=>by simp[aE]
 |k+1,c::cs=>by simp only[aE,Dg,J8 k cs]
theorem aGt{h:H}{ord ids:List Nat}{id k:Nat}{o:O}(hc:closed h ord ids=true)(hn:ord.Nodup)(hl:∀i∈ord,i<h.length)(hk:aI ord id=some k):
  bJ (fun(k:Nat)=>ord[k]?) h ord ((pack h ord).set k o)=h.set id (mapO (fun(k:Nat)=>ord[k]?) o):=by
 have hpl:(pack h ord).length=ord.length:=by simp[pack]
 have hid:=hl id (GH hk);apply Cl;intro i;rw[yJ _ ord h _ i hn hl (by simp[pack])]
 cases hp:aI ord i with
 |none=>
  have hne:id≠i:=fun e=>by rw[e,hp]at hk;cases hk
  rw[Dd hne];simp only[]
  split
  ·rfl
  ·rename_i hge
   rw[Cj (by simp[pack]),Cj (by omega)];rfl
 |some q=>
  simp only[]
  by_cases hqk:q=k
  ·subst hqk;have h1:=bC hp;have h2:=bC hk;rw[h1]at h2;obtain rfl:i=id:=Option.some.inj h2;rw[Dv (by rw[hpl];exact xW hp),Dv hid];rfl
  ·have hne:id≠i:=fun e=>by rw[e,hp]at hk;exact hqk (Option.some.inj hk)
   rw[Dd (fun e=>hqk e.symm),Dd hne];have hm:=GH hp;obtain⟨x,hx⟩:∃x,h[i]? =some x:=⟨h[i]'(hl i hm),Ae _⟩
   rw[gZ (bC hp) hx,hx,Ax,OW hc hm hx]
theorem CY{E:Env}{call:aX}{thaw:List Nat}{dst:Option Tmp}{op:Op}{h:H}{vs:List A}{a a2:A}{o o2:O}{id k:Nat}{ord:List Nat}(hord:aD aG h (idsL vs) []=ord)(hc:closed h ord (idsL vs)=true)(hk:aI ord id=some k)(hro:iS E op vs=false)
  (hev:evOp E call thaw (pack h ord) (dX dst op) (aE (aI ord) vs)=some (a,(pack h ord).set k o)) (ha:mapA (fun(k:Nat)=>ord[k]?) a=a2) (ho:mapO (fun(k:Nat)=>ord[k]?) o=o2):
  memD E call thaw dst op h vs=some (a2,h.set id o2,{ ids:=ord,ro:=false,wr:=wrOf E op vs ord}):=by
 have hn:ord.Nodup:=by rw[<-hord];exact bT aG h (idsL vs) [] (by simp)
 have hl:∀i∈ord,i<h.length:=by rw[<-hord];exact jD aG h (idsL vs) [] (by simp)
 have hpl:((pack h ord).set k o).length=ord.length:=by simp[pack]
 unfold memD;rw[hord];simp only[box,hev,hpl,Ab,hc,and_self,if_true,hro,Cu,Ak,if_false,aBA,By];rw[aGt hc hn hl hk,ha,ho];simp
theorem M3{E:Env}{call:aX}{thaw:List Nat}{dst:Option Tmp}{args:Array Operand}{t e:TypeId}{h:H}{id id2 g g2 len:Nat}{cs:List A}{c:A}(he:c8 E.P t=some e)(hce:E.P.cellsOf e=1)(hel:eX E.P e=true)
  (h1:h[id]? =some (.vec cs 1 g)) (h2:h[id2]? =some (.vec [c] 1 g2)) (hlen:len<=cs.length) (hmax:len+1<=bK) (ok1:Okay h id) (ok2:Okay h id2) (hw:2+wgt h<=1099511627776):
  memD E call thaw dst (.call ⟨.builtin .append,args,#[t,t]⟩) h [.sl id g 0 len,.sl id2 g2 0 1]=some (.sl id (g+1) 0 (len+1),h.set id (.vec (cs.take len++[c]) 1 (g+1)),{ ids:=aD aG h [id,id2] [],ro:=false,wr:=[id]}):=by
 have hids:idsL [A.sl id g 0 len,A.sl id2 g2 0 1]=[id,id2]:=rfl;obtain⟨c1,c2,c3⟩:=QF (h:=h) (ids:=[id,id2]) (by intro i hi;simp at hi;rcases hi with rfl|rfl;exact ok1;exact ok2) (by simpa using hw);obtain⟨ord,hord⟩:∃ord,aD aG h [id,id2] []=ord:=⟨_,rfl⟩
 rw[hord]at c1 c2 c3;obtain⟨k,hk⟩:=bZ (c2 id (by simp));obtain⟨k2,hk2⟩:=bZ (c2 id2 (by simp));have p1:=gZ (h:=h) (bC hk) h1;have p2:=gZ (h:=h) (bC hk2) h2;have kid:∀i,i∈ord->∀q∈kids h i,∃j,aI ord q=some j:=fun i hi q hq=>bZ (c3 i hi q hq)
 have bk:∀xs:List A,(∀i∈idsL xs,i∈ord)->aE (fun(k:Nat)=>ord[k]?) (aE (aI ord) xs)=xs:=by
  intro xs hx;rw[jV (q:=fun i=>(aI ord i).bind fun k=>ord[k]?) (fun _=>rfl)];apply e6;intro i hi;obtain⟨j,hj⟩:=bZ (hx i hi);simp only[hj,Cz];exact bC hj
 have hcs:∀i∈idsL cs,i∈ord:=by
  have:=c3 id (c2 id (by simp))
  simpa only[kids,h1]using this
 have hcc:∀i∈idsL [c],i∈ord:=by
  have:=c3 id2 (c2 id2 (by simp))
  simpa only[kids,h2]using this
 have hnew:∀i∈idsL (cs.take len++[c]),i∈ord:=by
  intro i hi;rw[bL,Al]at hi
  rcases hi with hi|hi
  ·refine hcs i ?_;have:=List.take_append_drop len cs;rw[<-this,bL,Al];exact .inl hi
  ·exact hcc i hi
 have hmt:(aE (aI ord) cs).take len=aE (aI ord) (cs.take len):=BI len cs;have key:=CY (E:=E) (call:=call) (thaw:=thaw) (dst:=dst) (op:=.call ⟨.builtin .append,args,#[t,t]⟩) (h:=h) (vs:=[A.sl id g 0 len,A.sl id2 g2 0 1]) (a:=.sl k (g+1) 0 (len+1)) (a2:=.sl id (g+1) 0 (len+1)) (o:=.vec (aE (aI ord) (cs.take len++[c])) 1 (g+1)) (o2:=.vec (cs.take len++[c]) 1 (g+1)) (id:=id) (k:=k) (ord:=ord) (by rw[hids];exact hord) (by rw[hids];exact c1) hk rfl ?_ (by simp only[mapA,bC hk]) (by simp only[mapO,bk _ hnew])
 ·rw[key,hord];rfl
 ·have hu:E.P.underlying t=some (.slice e):=by
   unfold c8 at he
   split at he
   ·rename_i hq;cases he;exact hq
   ·cases he
  have hv:A6 (pack h ord) k=true:=by simp only[A6,p1,mapO]
  have hs:oD (pack h ord) 1 (.sl k2 g2 0 1)=some (1,aE (aI ord) [c]):=by
   simp[oD,p2,mapO,aE]
  simp only[aE,mapA,hk,hk2,evOp,dX,eQ,cC,oG,hv,if_true,nK,he,hel,hce,hs,p1,mapO,true_and,or_true,Cb,yR,hlen,hmax,and_self,hmt,cQ,hu]
theorem sR{E:Env}{call:aX}{thaw:List Nat}{dst:Option Tmp}{x y:Operand}{t:TypeId}{h:H}{id id2 off g o len:Nat}{cs:List A}(ht:E.P.cellsOf t=1)(hi:(E.P.info? t).isSome=true)
  (h1:h[id]? =some (.box cs)) (hoff:off+1<=cs.length) (ok1:Okay h id) (ok2:Okay h id2) (hw:2+wgt h<=1099511627776):
  memD E call thaw dst (.store t x y) h [.ptr id 0 off,.sl id2 g o len]=some (.d .undef,h.set id (.box (bG cs off [.sl id2 g o len])),{ ids:=aD aG h [id,id2] [],ro:=false,wr:=aD aG h [id,id2] []}):=by
 have hids:idsL [A.ptr id 0 off,A.sl id2 g o len]=[id,id2]:=rfl;obtain⟨c1,c2,c3⟩:=QF (h:=h) (ids:=[id,id2]) (by intro i hi;simp at hi;rcases hi with rfl|rfl;exact ok1;exact ok2) (by simpa using hw);obtain⟨ord,hord⟩:∃ord,aD aG h [id,id2] []=ord:=⟨_,rfl⟩
 rw[hord]at c1 c2 c3|-;obtain⟨k,hk⟩:=bZ (c2 id (by simp));obtain⟨k2,hk2⟩:=bZ (c2 id2 (by simp));have p1:=gZ (h:=h) (bC hk) h1
 have bk:∀xs:List A,(∀i∈idsL xs,i∈ord)->aE (fun(k:Nat)=>ord[k]?) (aE (aI ord) xs)=xs:=by
  intro xs hx;rw[jV (q:=fun i=>(aI ord i).bind fun k=>ord[k]?) (fun _=>rfl)];apply e6;intro i hi;obtain⟨j,hj⟩:=bZ (hx i hi);simp only[hj,Cz];exact bC hj
 have hcs:∀i∈idsL cs,i∈ord:=by
  have:=c3 id (c2 id (by simp))
  simpa only[kids,h1]using this
 have split_cs:∀q:Nat,(∀i∈idsL (cs.take q),i∈ord)/\(∀i∈idsL (cs.drop q),i∈ord):=by
  intro q;have:=List.take_append_drop q cs
  constructor
  ·intro i hi;refine hcs i ?_;rw[<-this,bL,Al];exact .inl hi
  ·intro i hi;refine hcs i ?_;rw[<-this,bL,Al];exact .inr hi
 have hnew:∀i∈idsL (bG cs off [.sl id2 g o len]),i∈ord:=by
  intro i hi;unfold bG at hi;rw[bL,bL,Al,Al]at hi
  rcases hi with(hi|hi)|hi
  ·exact(split_cs _).1 i hi
  ·simp[idsL,idsA]at hi;subst hi;exact c2 i (by simp)
  ·exact(split_cs _).2 i hi
 have hmr:bG (aE (aI ord) cs) off [.sl k2 g o len]=aE (aI ord) (bG cs off [.sl id2 g o len]):=by
  unfold bG;rw[cQ,cQ,BI,J8];simp only[aE,mapA,hk2,Ad,Ac]
 have key:=CY (E:=E) (call:=call) (thaw:=thaw) (dst:=dst) (op:=.store t x y) (h:=h) (vs:=[A.ptr id 0 off,A.sl id2 g o len]) (a:=.d .undef) (a2:=.d .undef) (o:=.box (aE (aI ord) (bG cs off [.sl id2 g o len]))) (o2:=.box (bG cs off [.sl id2 g o len])) (id:=id) (k:=k) (ord:=ord) (by rw[hids];exact hord) (by rw[hids];exact c1) hk rfl ?_ (by simp only[mapA]) (by simp only[mapO,bk _ hnew])
 ·rw[key];rfl
 ·have hoff2:off+1<=(aE (aI ord) cs).length:=by rw[yR];exact hoff
  simp only[aE,mapA,hk,hk2,evOp,dX,two,iR,aW,Ad,Ac,Ag,ht,hi,Bp,Bz,dV,Bu,and_self,if_true,p1,mapO,hoff2,a8,hmr,Ax]
end Ev
end Go.Proofs.YthlkcebdfbjdoaaGreat
