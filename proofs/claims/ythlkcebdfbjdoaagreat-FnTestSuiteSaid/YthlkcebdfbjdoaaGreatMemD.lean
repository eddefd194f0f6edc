/-
  The exact laws' own functions, at automata: sizes, marks, what is held, copies.
-/
import Derived.Test.YthlkcebdfbjdoaaGreatBlock
set_option linter.unusedSimpArgs false
set_option linter.unusedVariables false
set_option maxRecDepth 8000
set_option maxHeartbeats 4000000
namespace Go.Proofs.YthlkcebdfbjdoaaGreat
namespace Ev
def aO:List (List Int)->Nat
 | []=>0
 |r::rs=>r.length+aO rs
section
section
variable{h h2:H}{nf:Nat}(hn:nf=h.length)(hk:∀o∈h,∀j∈eJ o,j<nf)
include hn hk
end
theorem aEh{b k:Nat}:∀ {rs:List (List Int)} {b k:Nat},k<rs.length->((aC b rs++aF 0).drop k).head? =some (.sl (b+k) 0 0 (rs.getD k []).length)
 | [],b,k,h=>by simp at h
 |r::rs,b,0,h=>by simp[aC]
 |r::rs,b,k+1,h=>by
  simp only[aC,Av,Dh];rw[aEh (b:=b) (k:=k) (by simpa using h)];simp only[Ed]
  congr 2
  omega
theorem aHi{d:List (List Int)}{k:Nat}(h:k<d.length):(aI d)[k]? =some (.arr (ints (d.getD k [])) 1 0):=by
 rw[Aa,Ae h];exact S2 (Ae h)
theorem aM8{d:List (List Int)}{k:Nat}{r:List Int}:(aI d).set k (.arr (ints r) 1 0)=aI (d.set k r):=by
 unfold aI;rw[List.map_set];rfl
end
section
theorem PQ{m:List Bool}{s:List A}{h:H}{ord:List Nat}(hr:aD aG h (idsL (tidy m s)) []=ord):gc 0 m s h=(aV 0 (pack h ord) (aE (aH ord) (tidy m s)),cO 0 (pack h ord)):=by
 unfold gc trim;rw[zG];unfold aG at hr;rw[hr]
theorem fW{h:H}:∀(os:H) (i:Nat),eG 0 h i os=os.map (bZ 0 h 0)
 | [],_=>rfl
 |o::os,i=>by
  simp only[eG,Ai,fW os (i+1)]
  cases o<;>simp[bZ]
theorem gT{h:H}{rs:List (List Int)}:(aI rs).map (bZ 0 h 0)=aI rs:=by
 simp[aI,bZ]
theorem eU{nf:Nat}{h:H}:∀(xs ys:List A),aV nf h (xs++ys)=aV nf h xs++aV nf h ys
 | [],ys=>by simp[aV]
 |x::xs,ys=>by simp[aV,eU xs ys]
theorem fT{h:H}:∀ {rs:List (List Int)} {b:Nat},(∀i,i<rs.length->a8 h (b+i)=some 0)->aV 0 h (aC b rs)=aC b rs
 | [],b,_=>by simp[aC,aV]
 |r::rs,b,hh=>by
  have h0:=hh 0 (by simp);simp only[Bp]at h0;simp only[aC,aV,bL,hY,Bw,if_false,h0,if_true]
  rw[fT (rs:=rs) (b:=b+1) fun i hi=>by
   rw[show b+1+i=b+(i+1) by omega];exact hh (i+1) (by simp;omega)]
theorem aQV{f:Nat->Option Nat}{h:H}{b:Nat}{rs:List (List Int)}(hh:∀(i:Nat) (r:List Int),rs[i]? =some r->h[b+i]? =some (.arr (ints r) 1 0)):(List.range' b rs.length).map (fun i=>mapO f (h.getD i default))=aI rs:=aFW hh
theorem F1{rs:List (List Int)}{p:H}{i:Nat}{r:List Int}(h:rs[i]? =some r):(aI rs++p)[i]? =some (.arr (ints r) 1 0):=by
 rw[Ba (by rw[cJ];exact sB h)];exact S2 h
theorem FA{b k:Nat}{rs:List (List Int)}(h:k=rs.length):(aC b rs++aF 0).take k=aC b rs:=by
 have hn:aF 0=[]:=rfl;rw[hn,Ah,Bz (by rw[gR];omega)]
section
variable{x0 x1:D}{k z:Nat}{cs cr:List D}{d:List (List Int)}{p:H}
theorem bO{h:H}{i:Nat}{r:List D}{e g:Nat}(hr:h[i]? =some (.arr r e g)):kids h i=[]:=by simp only[kids,hr]
mutual
theorem aQx{f g:Nat->Option Nat}:∀a:A,(∀i∈idsA a,f i=g i)->mapA f a=mapA g a
 |.d x,_=>by simp only[mapA]
 |.sl id gen off len,hi=>by simp only[mapA,hi id (by simp[idsA])]
 |.ptr id gen off,hi=>by simp only[mapA,hi id (by simp[idsA])]
 |.mp id,hi=>by simp only[mapA,hi id (by simp[idsA])]
 |.clo q caps,hi=>by simp only[mapA];rw[kV caps (by simpa only[idsA]using hi)]
 |.agg cs,hi=>by simp only[mapA];rw[kV cs (by simpa only[idsA]using hi)]
 |.tup cs,hi=>by simp only[mapA];rw[kV cs (by simpa only[idsA]using hi)]
 |.junk,_=>by simp only[mapA]
theorem kV{f g:Nat->Option Nat}:∀xs:List A,(∀i∈idsL xs,f i=g i)->aE f xs=aE g xs
 | [],_=>by simp only[aE]
 |a::xs,hi=>by
  simp only[idsL,Al]at hi;simp only[aE];rw[aQx a fun i h=>hi i (.inl h),kV xs fun i h=>hi i (.inr h)]
end
mutual
theorem aTz{f:Nat->Option Nat}:∀a:A,z0A a=true->z0A (mapA f a)=true
 |.d x,_=>by simp only[mapA,z0A]
 |.sl id gen off len,hz=>by simp only[mapA];cases f id<;>first|rfl|exact hz
 |.ptr id gen off,hz=>by simp only[mapA];cases f id<;>first|rfl|exact hz
 |.mp id,hz=>by simp only[mapA];cases f id<;>first|rfl|exact hz
 |.clo q caps,hz=>by simp only[mapA,z0A]at hz|-;exact x9 caps hz
 |.agg cs,hz=>by simp only[mapA,z0A]at hz|-;exact x9 cs hz
 |.tup cs,hz=>by simp only[mapA,z0A]at hz|-;exact x9 cs hz
 |.junk,_=>by simp only[mapA,z0A]
theorem x9{f:Nat->Option Nat}:∀xs:List A,z0As xs=true->z0As (aE f xs)=true
 | [],_=>by simp only[aE,z0As]
 |a::xs,hz=>by
  simp only[z0As,Ar]at hz;simp only[aE,z0As,Ar];exact⟨aTz a hz.1,x9 xs hz.2⟩
end
end
theorem iX{h p:H}{d:List (List Int)}(B:Nat)(hd:h.drop B=aI d++p):∀(i:Nat) (r:List Int),d[i]? =some r->h[B+i]? =some (.arr (ints r) 1 0):=by
 intro i r hr;rw[<-List.getElem?_drop,hd];exact F1 hr
theorem wN{h p:H}{d:List (List Int)}(B q:Nat)(hd:h.drop B=aI d++p){o:O}(ho:p[q]? =some o){j:Nat}(hj:j=d.length+(B+q)):h[j]? =some o:=by
 subst hj;rw[show d.length+(B+q)=B+(d.length+q) by omega,<-List.getElem?_drop,hd,Bh (by rw[cJ];omega),cJ,Dr];exact ho
theorem jP{h:H}{d:List (List Int)}{B:Nat}(gr:∀(i:Nat) (r:List Int),d[i]? =some r->h[B+i]? =some (.arr (ints r) 1 0)):∀i∈List.range' B d.length,∃r:List Int,h[i]? =some (.arr (ints r) 1 0):=by
 intro i hi;rw[Cu]at hi;obtain⟨j,rfl⟩:∃j,i=B+j:=⟨i-B,by omega⟩
 exact⟨d[j]'(by omega),gr j _ (Ae (by omega))⟩
theorem gJ{h:H}{ids P T L:List Nat}{B n N:Nat}(hfix:P++(T++(List.range' B n++L))=ids++P.flatMap (kids h))(hprog:∀k,k<P.length->k<ids.length+((P.take k).flatMap (kids h)).length)
  (leaf:∀i∈List.range' B n,∃r:List Int,h[i]? =some (.arr (ints r) 1 0)) (hT:∀i∈T++L,∃cs e g,h[i]? =some (.arr cs e g)) (hP:∀i∈P,∃o,h[i]? =some o/\o≠.void)
  (hnd:(P++(T++L)).Nodup) (hout:∀i∈P++(T++L),i<B\/B+n<=i) (hf:P.length+T.length+n+L.length<=N):aD N h ids []=P++(T++(List.range' B n++L)):=by
 refine aOI hfix ?_ hprog ?_ ?_ ?_
 ·intro i hi
  rcases Al.1 hi with h1|h1
  ·obtain⟨cs,e,g,h2⟩:=hT i (Al.2 (.inl h1));exact bO h2
  ·rcases Al.1 h1 with h2|h2
   ·obtain⟨r,hr⟩:=leaf i h2;exact bO hr
   ·obtain⟨cs,e,g,h3⟩:=hT i (Al.2 (.inr h2));exact bO h3
 ·have hp:(P++(T++(List.range' B n++L))).Perm (List.range' B n++(P++(T++L))):=by
   have e1:(T++(List.range' B n++L)).Perm (List.range' B n++(T++L)):=by
    rw[<-Ao T _ L,<-Ao _ T L];exact List.Perm.append_right L List.perm_append_comm
   refine(List.Perm.append_left P e1).trans ?_;rw[<-Ao P _ (T++L),<-Ao _ P (T++L)];exact List.Perm.append_right (T++L) List.perm_append_comm
  rw[hp.nodup_iff,Dt];refine⟨List.nodup_range',hnd,fun a ha b hb e=> ?_⟩;subst e;rw[Cu]at ha;have:=hout a hb;omega
 ·intro i hi
  rcases Al.1 hi with h1|h1
  ·exact hP i h1
  ·rcases Al.1 h1 with h1|h1
   ·obtain⟨cs,e,g,h2⟩:=hT i (Al.2 (.inl h1));exact⟨_,h2,by simp⟩
   ·rcases Al.1 h1 with h2|h2
    ·obtain⟨r,hr⟩:=leaf i h2;exact⟨_,hr,by simp⟩
    ·obtain⟨cs,e,g,h3⟩:=hT i (Al.2 (.inr h2));exact⟨_,h3,by simp⟩
 ·simp only[Af,Ds];omega
theorem jN{ord A L:List Nat}{B C n:Nat}(pk:∀i j,ord[j]? =some i->aH ord i=some j)(ho:ord=A++(List.range' B n++L))(hA:A.length=C):∀i,i<n->aH ord (B+i)=some (C+i):=by
 intro i hi;refine pk _ _ ?_;rw[ho,Bh (by omega),hA,Dr,Ba (by simpa using hi),List.getElem?_range' hi];simp
theorem U3{ord A L:List Nat}{B C n:Nat}(pk:∀i j,ord[j]? =some i->aH ord i=some j)(ho:ord=A++(List.range' B n++L))(hA:A.length=C)(q:Nat){i j:Nat}(hq:L[q]? =some i)(hj:j=n+(C+q)):aH ord i=some j:=by
 subst hj;refine pk _ _ ?_;rw[ho,Bh (by omega),hA,show n+(C+q)-C=n+q by omega,Bh (by simp),Ds,Dr];exact hq
theorem nU{K p:H}{d:List (List Int)}{C:Nat}(hd:K.drop C=aI d++p):∀i,i<d.length->a8 K (C+i)=some 0:=by
 intro i hi;have:=iX C hd i _ (Ae hi);simp only[a8,this]
theorem lC{h:H}{ord A L:List Nat}{d:List (List Int)}{B:Nat}(ho:ord=A++(List.range' B d.length++L))(gr:∀(i:Nat) (r:List Int),d[i]? =some r->h[B+i]? =some (.arr (ints r) 1 0)):pack h ord=A.map (fun i=>mapO (aH ord) (h.getD i default))++(aI d++L.map (fun i=>mapO (aH ord) (h.getD i default))):=by
 unfold pack
 conv=>lhs;arg 2;rw[ho]
 rw[Dl,Dl,aQV gr]
end
mutual
theorem aRu{p:H}(h0:a8 p 0=none):∀a:A,bL 1 p a=bL 0 p a
 |.d x=>by simp only[bL]
 |.sl id gen off len=>by
  simp only[bL,hY,Bw,if_false]
  by_cases hi:id<1
  ·obtain rfl:id=0:=by omega
   simp[h0]
  ·rw[if_neg hi]
 |.ptr id gen off=>by
  simp only[bL,H9,Bw,if_false]
  by_cases hi:id<1
  ·obtain rfl:id=0:=by omega
   simp[h0]
  ·rw[if_neg hi]
 |.mp id=>by simp only[bL]
 |.clo g cs=>by simp only[bL];rw[wJ h0 cs]
 |.agg cs=>by simp only[bL];rw[wJ h0 cs]
 |.tup cs=>by simp only[bL];rw[wJ h0 cs]
 |.junk=>by simp only[bL]
theorem wJ{p:H}(h0:a8 p 0=none):∀xs:List A,aV 1 p xs=aV 0 p xs
 | []=>by simp only[aV]
 |x::xs=>by simp only[aV];rw[aRu h0 x,wJ h0 xs]
end
theorem aQN{p:H}(h0:a8 p 0=none){i:Nat}(hi:1<=i)(o:O):bZ 1 p i o=bZ 0 p i o:=by
 cases o<;>simp only[bZ,Bw,if_false,wJ h0,if_neg (show ¬i<1 by omega)]
theorem X2{p:H}(h0:a8 p 0=none):∀(os:H) (i:Nat),1<=i->eG 1 p i os=eG 0 p i os
 | [],i,_=>rfl
 |o::os,i,hi=>by simp only[eG];rw[aQN h0 hi,X2 h0 os (i+1) (by omega)]
theorem aD8{x y:D}{t:H}{l:List Nat}{s:List A}:trim 1 (.box [.d x,.d y]::t) (0::l) s=trim 0 (.box [.d x,.d y]::t) (0::l) s:=by
 have hp:pack (.box [.d x,.d y]::t) (0::l)=.box [.d x,.d y]::l.map fun i=>mapO (aH (0::l)) ((O.box [.d x,.d y]::t).getD i default):=by
  simp[pack,mapO,aE,mapA]
 have h0:a8 (pack (.box [.d x,.d y]::t) (0::l)) 0=none:=by rw[hp];rfl
 unfold trim;rw[wJ h0]
 congr 1
 unfold cO;generalize hq:pack (.box [.d x,.d y]::t) (0::l)=p at *;obtain⟨os,hos⟩:∃os,p=.box [.d x,.d y]::os:=⟨_,hp⟩
 have key:∀w:H,w=.box [.d x,.d y]::os->eG 1 p 0 w=eG 0 p 0 w:=by
  intro w hw;subst hw;simp only[eG];rw[X2 h0 _ (0+1) (Ab _)];simp only[bZ,aV,bL]
 exact key p hos
theorem aQD{x y:D}{t:H}{n:Nat}{l:List Nat}:aD (n+1) (.box [.d x,.d y]::t) (0::l) [0]=aD n (.box [.d x,.d y]::t) l [0]:=by
 simp[aD]
theorem PN{x y:D}{t:H}{n:Nat}{l:List Nat}:aD (n+1) (.box [.d x,.d y]::t) (0::l) []=aD n (.box [.d x,.d y]::t) l [0]:=by
 simp[aD,idsL,idsA]
theorem lB:∀(n:Nat) (h:H) (todo acc:List Nat),∃q,aD n h todo acc=acc++q
 |0,h,todo,acc=>⟨[],by simp[aD]⟩
 |n+1,h,[],acc=>⟨[],by simp[aD]⟩
 |n+1,h,i::todo,acc=>by
  unfold aD
  split
  ·exact lB n h todo acc
  ·split
   ·obtain⟨q,hq⟩:=lB n h (todo++idsL _) (acc++[i]);exact⟨i::q,by rw[hq];simp⟩
   ·obtain⟨q,hq⟩:=lB n h (todo++idsL _) (acc++[i]);exact⟨i::q,by rw[hq];simp⟩
   ·exact lB n h todo acc
   ·obtain⟨q,hq⟩:=lB n h todo (acc++[i]);exact⟨i::q,by rw[hq];simp⟩
   ·exact lB n h todo acc
theorem aTs{x y:D}{t:H}{l:List Nat}:dR 1 (.box [.d x,.d y]::t) (0::l)=dR 0 (.box [.d x,.d y]::t) (0::l):=by
 rw[tF,tF];have e1:d6 (List.take 1 (O.box [.d x,.d y]::t))++0::l=0::l:=by simp[d6,idsL,idsA]
 have e2:d6 (List.take 0 (O.box [.d x,.d y]::t))++0::l=0::l:=by simp[d6]
 have e3:List.range 1=[0]:=rfl;have e4:List.range 0=([]:List Nat):=rfl;rw[e1,e2,e3,e4,show(1099511627776:Nat)=1099511627775+1 from rfl,aQD,PN]
theorem aHe{x y:D}{t:H}{l:List Nat}:dR 1 (.box [.d x,.d y]::t) l=aD (aG+1) (.box [.d x,.d y]::t) (0::l) []:=by
 rw[tF,PN];have e1:d6 (List.take 1 (O.box [.d x,.d y]::t))++l=l:=by simp[d6,idsL,idsA]
 have e3:List.range 1=[0]:=rfl;rw[e1,e3];rfl
theorem aVf{m:List Bool}{s:List A}{x y:D}{t:H}{l:List Nat}(hid:idsL (tidy m s)=0::l):gc 1 m s (.box [.d x,.d y]::t)=gc 0 m s (.box [.d x,.d y]::t):=by
 unfold gc;rw[hid,aTs];obtain⟨q,hq⟩:=lB 1099511627775 (.box [.d x,.d y]::t) l [0]
 have:dR 0 (.box [.d x,.d y]::t) (0::l)=0::q:=by
  rw[tF];have e2:d6 (List.take 0 (O.box [.d x,.d y]::t))++0::l=0::l:=by simp[d6]
  have e4:List.range 0=([]:List Nat):=rfl;rw[e2,e4,show(1099511627776:Nat)=1099511627775+1 from rfl,PN,hq];rfl
 rw[this,aD8]
theorem VR{m:List Bool}{s:List A}{x y:D}{t h:H}{l:List Nat}(hh:O.box [.d x,.d y]::t=h)(hid:idsL (tidy m s)=0::l):gc 1 m s h=gc 0 m s h:=by
 subst hh;exact aVf hid
theorem aCA{m:List Bool}{s:List A}{x y:D}{t h:H}{l ord:List Nat}(hh:O.box [.d x,.d y]::t=h)(hi:idsL (tidy m s)=l)(hr:aD (aG+1) h (0::l) []=ord):gc 1 m s h=(aV 0 (pack h ord) (aE (aH ord) (tidy m s)),cO 0 (pack h ord)):=by
 subst hh;unfold gc;rw[hi,aHe,hr];obtain⟨q,hq⟩:=lB aG (.box [.d x,.d y]::t) l [0]
 have e:ord=0::q:=by
  rw[<-hr,PN,hq];rfl
 rw[e,aD8];rfl
def WC(n:Nat)(ids:List Nat):Bool:=decide (ids=[3,n+8])
theorem aL8{n:Nat}{ke2:Nat}(he2:ke2=n+8):WC n [3,ke2]=true:=by subst he2;simp[WC]
def F2(n i:Nat):Option Nat:=if i=0 then some 0 else if i=3 then some 1 else if i=n+8 then some 2 else none
theorem aFG{n:Nat}:F2 n 3=some (1):=by unfold F2;repeat (first|rfl|rw[if_pos rfl]|rw[if_neg (by omega)])
theorem aCg{n k:Nat}(h:k=n+8):F2 n k=some (2):=by subst h;unfold F2;repeat (first|rfl|rw[if_pos rfl]|rw[if_neg (by omega)])
theorem aT2{m:List Bool}{s:List A}{y1 y2 x0 x1:D}{k z:Nat}{cs:List D}{d:List (List Int)}(hl:d.length<=4294967296):gc 1 m s (.box [.d y1,.d y2]::.arr [] 0 0::.arr [] 0 0::.box [.d x0,.sl 1 0 0 0,.sl 2 0 0 0]::.vec (aC 6 d++aF 0) 1 0::.arr cs 1 0::(aI d++[.arr [] 0 0,.arr [] 0 0,.box [.d x1,.sl 4 0 0 k,.sl 5 0 0 z]]))=match box (tidy m s)with
  |.mk s1=>if WC d.length (idsL s1)=true/\z0As s1=true then(aE (F2 d.length) s1,.box [.d y1,.d y2]::.box [.d x0,.sl 3 0 0 0,.sl 4 0 0 0]::.box [.d x1,.sl 5 0 0 k,.sl 6 0 0 z]::.arr [] 0 0::.arr [] 0 0::.vec (aC 7 d++aF 0) 1 0::.arr cs 1 0::aI d)else gcO 1 m s (.box [.d y1,.d y2]::.arr [] 0 0::.arr [] 0 0::.box [.d x0,.sl 1 0 0 0,.sl 2 0 0 0]::.vec (aC 6 d++aF 0) 1 0::.arr cs 1 0::(aI d++[.arr [] 0 0,.arr [] 0 0,.box [.d x1,.sl 4 0 0 k,.sl 5 0 0 z]]))
  |.no=>([],[]):=by
 simp only[box]
 split
 ·rename_i hc
  obtain⟨hb,hz⟩:=hc;have hids:idsL (tidy m s)=[3,d.length+8]:=by simpa [WC]using hb
  obtain⟨h,hh⟩:∃h:H,O.box [.d y1,.d y2]::.arr [] 0 0::.arr [] 0 0::.box [.d x0,.sl 1 0 0 0,.sl 2 0 0 0]::.vec (aC 6 d++aF 0) 1 0::.arr cs 1 0::(aI d++[.arr [] 0 0,.arr [] 0 0,.box [.d x1,.sl 4 0 0 k,.sl 5 0 0 z]])=h:=⟨_,rfl⟩
  conv=>lhs;rw[hh]
  have g0:h[0]? =some (.box [.d y1,.d y2]):=by rw[<-hh];rfl
  have g1:h[1]? =some (.arr [] 0 0):=by rw[<-hh];rfl
  have g2:h[2]? =some (.arr [] 0 0):=by rw[<-hh];rfl
  have g3:h[3]? =some (.box [.d x0,.sl 1 0 0 0,.sl 2 0 0 0]):=by rw[<-hh];rfl
  have g4:h[4]? =some (.vec (aC 6 d++aF 0) 1 0):=by rw[<-hh];rfl
  have g5:h[5]? =some (.arr cs 1 0):=by rw[<-hh];rfl
  have hD:h.drop 6=aI d++[.arr [] 0 0,.arr [] 0 0,.box [.d x1,.sl 4 0 0 k,.sl 5 0 0 z]]:=by rw[<-hh];rfl
  have gr:=iX 6 hD;have ge2:h[d.length+8]? =some (.box [.d x1,.sl 4 0 0 k,.sl 5 0 0 z]):=wN 6 2 hD rfl (by omega);have k0:kids h (0)=[]:=by simp[kids,g0,idsL,idsA]
  have k3:kids h (3)=[1,2]:=by simp[kids,g3,idsL,idsA]
  have ke2:kids h (d.length+8)=[4,5]:=by simp[kids,ge2,idsL,idsA]
  have k1:kids h (1)=[]:=bO g1;have k2:kids h (2)=[]:=bO g2;have k4:kids h (4)=List.range' 6 d.length:=by simp[kids,g4,bM,bY,dM]
  have leaf:=jP gr;have hr:aD (aG+1) h [0,3,d.length+8] []=[0,3,d.length+8,1,2,4]++([5]++(List.range' 6 d.length++[])):=gJ (by simp[k0,k3,ke2,k1,k2,k4]) (by intro q hq;simp only[Ad,Ac]at hq;have:q=0\/q=1\/q=2\/q=3\/q=4\/q=5:=(by omega);rcases this with rfl|rfl|rfl|rfl|rfl|rfl<;>simp[k0,k3,ke2,k1,k2]) leaf (by intro i hi;simp at hi;subst hi;exact⟨_,_,_,by assumption⟩) (by intro i hi;simp at hi;rcases hi with rfl|rfl|rfl|rfl|rfl|rfl<;>exact⟨_,by assumption,by simp⟩) (by simp<;>omega) (by intro i hi;simp at hi;omega) (by simp only[aG,Ad,Ac];omega);generalize hord:[0,3,d.length+8,1,2,4]++([5]++(List.range' 6 d.length++[]))=ord at hr;have hA:ord=([0,3,d.length+8,1,2,4]++[5])++(List.range' 6 d.length++[]):=by rw[<-hord,Ao]
  have pk:∀i j,ord[j]? =some i->aH ord i=some j:=fun i j h1=>dW (by rw[<-hr];exact bW (aG+1) h _ [] (by simp)) h1;have p0:=pk (0) 0 (by rw[<-hord];rfl);have p3:=pk (3) 1 (by rw[<-hord];rfl);have pe2:=pk (d.length+8) 2 (by rw[<-hord];rfl);have p1:=pk (1) 3 (by rw[<-hord];rfl);have p2:=pk (2) 4 (by rw[<-hord];rfl);have p4:=pk (4) 5 (by rw[<-hord];rfl);have p5:=pk (5) 6 (by rw[<-hord];rfl);have pr:=jN (C:=7) pk hA rfl;obtain⟨K,hK⟩:∃K:H,O.box [.d y1,.d y2]::.box [.d x0,.sl 3 0 0 0,.sl 4 0 0 0]::.box [.d x1,.sl 5 0 0 k,.sl 6 0 0 z]::.arr [] 0 0::.arr [] 0 0::.vec (aC 7 d++aF 0) 1 0::.arr cs 1 0::aI d=K:=⟨_,rfl⟩
  have hni:∀f,aE f (aF 0)=aF 0:=fun _=>rfl
  have hpk:pack h ord=K:=by
   have hrf:aE (aH ord) (aC 6 d)=aC 7 d:=fF (c:=0) pr;rw[lC hA gr,<-hK];simp only[Av,Am,Ai,Ap,Aa,g0,g3,ge2,g1,g2,g4,g5,Bb,mapO,aE,mapA,c9,hrf,hni,p1,p2,p4,p5,Ah]
  have hKD:K.drop 7=aI d++[]:=by rw[<-hK];exact(Ah _).symm
  have hgr:=nU hKD
  have hcm:cO 0 K=.box [.d y1,.d y2]::.box [.d x0,.sl 3 0 0 0,.sl 4 0 0 0]::.box [.d x1,.sl 5 0 0 k,.sl 6 0 0 z]::.arr [] 0 0::.arr [] 0 0::.vec (aC 7 d++aF 0) 1 0::.arr cs 1 0::aI d:=by
   have hrf:aV 0 K (aC 7 d)=aC 7 d:=fT hgr;have hnc:∀h:H,aV 0 h (aF 0)=aF 0:=fun _=>rfl;have q3:a8 K 3=some 0:=by rw[<-hK];rfl
   have q4:a8 K 4=some 0:=by rw[<-hK];rfl
   have q5:a8 K 5=some 0:=by rw[<-hK];rfl
   have q6:a8 K 6=some 0:=by rw[<-hK];rfl
   unfold cO;rw[fW]
   conv=>lhs;arg 2;rw[<-hK]
   simp only[Ai,bZ,aV,bL,hY,eU,hrf,hnc,gT,q3,q4,q5,q6,Bw,if_false,if_true]
  subst hK;rw[aCA hh hids hr,hpk,hcm]
  have hmp:aE (aH ord) (tidy m s)=aE (F2 d.length) (tidy m s):=by
   apply kV;rw[hids];intro i hi;simp only[Au,Bo,or_false]at hi
   rcases hi with rfl|rfl
   ·rw[p3,aFG]
   ·rw[pe2,aCg rfl]
  have hz2:aV 0 (O.box [.d y1,.d y2]::.box [.d x0,.sl 3 0 0 0,.sl 4 0 0 0]::.box [.d x1,.sl 5 0 0 k,.sl 6 0 0 z]::.arr [] 0 0::.arr [] 0 0::.vec (aC 7 d++aF 0) 1 0::.arr cs 1 0::aI d) (aE (aH ord) (tidy m s))=aE (aH ord) (tidy m s):=by
   exact kQ (HM (by simp[z0O,z0As,z0A,BF,wL,wV,G3])) _ (x9 _ hz)
  rw[hz2,hmp]
 ·rfl
def A1(n i:Nat):Option Nat:=if i=0 then some 0 else if i=1 then some 1 else if i=2 then some 2 else none
theorem sH{n:Nat}:A1 n 1=some (1):=by unfold A1;repeat (first|rfl|rw[if_pos rfl]|rw[if_neg (by omega)])
theorem r6{n:Nat}:A1 n 2=some (2):=by unfold A1;repeat (first|rfl|rw[if_pos rfl]|rw[if_neg (by omega)])
theorem FU{m:List Bool}{s:List A}{y1 y2 x0 x1:D}{k z:Nat}{cs:List D}{d:List (List Int)}(hl:d.length<=4294967296):gc 1 m s (.box [.d y1,.d y2]::.box [.d x0,.sl 3 0 0 0,.sl 4 0 0 0]::.box [.d x1,.sl 5 0 0 k,.sl 6 0 0 z]::.arr [] 0 0::.arr [] 0 0::.vec (aC 7 d++aF 0) 1 0::.arr cs 1 0::aI d)=match box (tidy m s)with
  |.mk s1=>if idsL s1=[1,2]/\z0As s1=true then(aE (A1 d.length) s1,.box [.d y1,.d y2]::.box [.d x0,.sl 3 0 0 0,.sl 4 0 0 0]::.box [.d x1,.sl 5 0 0 k,.sl 6 0 0 z]::.arr [] 0 0::.arr [] 0 0::.vec (aC 7 d++aF 0) 1 0::.arr cs 1 0::aI d)else gcO 1 m s (.box [.d y1,.d y2]::.box [.d x0,.sl 3 0 0 0,.sl 4 0 0 0]::.box [.d x1,.sl 5 0 0 k,.sl 6 0 0 z]::.arr [] 0 0::.arr [] 0 0::.vec (aC 7 d++aF 0) 1 0::.arr cs 1 0::aI d)
  |.no=>([],[]):=by
 simp only[box]
 split
 ·rename_i hc
  obtain⟨hb,hz⟩:=hc;have hids:idsL (tidy m s)=[1,2]:=by exact hb
  obtain⟨h,hh⟩:∃h:H,O.box [.d y1,.d y2]::.box [.d x0,.sl 3 0 0 0,.sl 4 0 0 0]::.box [.d x1,.sl 5 0 0 k,.sl 6 0 0 z]::.arr [] 0 0::.arr [] 0 0::.vec (aC 7 d++aF 0) 1 0::.arr cs 1 0::aI d=h:=⟨_,rfl⟩
  conv=>lhs;rw[hh]
  have g0:h[0]? =some (.box [.d y1,.d y2]):=by rw[<-hh];rfl
  have g1:h[1]? =some (.box [.d x0,.sl 3 0 0 0,.sl 4 0 0 0]):=by rw[<-hh];rfl
  have g2:h[2]? =some (.box [.d x1,.sl 5 0 0 k,.sl 6 0 0 z]):=by rw[<-hh];rfl
  have g3:h[3]? =some (.arr [] 0 0):=by rw[<-hh];rfl
  have g4:h[4]? =some (.arr [] 0 0):=by rw[<-hh];rfl
  have g5:h[5]? =some (.vec (aC 7 d++aF 0) 1 0):=by rw[<-hh];rfl
  have g6:h[6]? =some (.arr cs 1 0):=by rw[<-hh];rfl
  have hD:h.drop 7=aI d++[]:=by rw[<-hh];exact(Ah _).symm
  have gr:=iX 7 hD;have k0:kids h (0)=[]:=by simp[kids,g0,idsL,idsA]
  have k1:kids h (1)=[3,4]:=by simp[kids,g1,idsL,idsA]
  have k2:kids h (2)=[5,6]:=by simp[kids,g2,idsL,idsA]
  have k3:kids h (3)=[]:=bO g3;have k4:kids h (4)=[]:=bO g4;have k5:kids h (5)=List.range' 7 d.length:=by simp[kids,g5,bM,bY,dM]
  have leaf:=jP gr;have hr:aD (aG+1) h [0,1,2] []=[0,1,2,3,4,5]++([6]++(List.range' 7 d.length++[])):=gJ (by simp[k0,k1,k2,k3,k4,k5]) (by intro q hq;simp only[Ad,Ac]at hq;have:q=0\/q=1\/q=2\/q=3\/q=4\/q=5:=(by omega);rcases this with rfl|rfl|rfl|rfl|rfl|rfl<;>simp[k0,k1,k2,k3,k4]) leaf (by intro i hi;simp at hi;subst hi;exact⟨_,_,_,by assumption⟩) (by intro i hi;simp at hi;rcases hi with rfl|rfl|rfl|rfl|rfl|rfl<;>exact⟨_,by assumption,by simp⟩) (by simp<;>omega) (by intro i hi;simp at hi;omega) (by simp only[aG,Ad,Ac];omega);generalize hord:[0,1,2,3,4,5]++([6]++(List.range' 7 d.length++[]))=ord at hr;have hA:ord=([0,1,2,3,4,5]++[6])++(List.range' 7 d.length++[]):=by rw[<-hord,Ao]
  have pk:∀i j,ord[j]? =some i->aH ord i=some j:=fun i j h1=>dW (by rw[<-hr];exact bW (aG+1) h _ [] (by simp)) h1;have p0:=pk (0) 0 (by rw[<-hord];rfl);have p1:=pk (1) 1 (by rw[<-hord];rfl);have p2:=pk (2) 2 (by rw[<-hord];rfl);have p3:=pk (3) 3 (by rw[<-hord];rfl);have p4:=pk (4) 4 (by rw[<-hord];rfl);have p5:=pk (5) 5 (by rw[<-hord];rfl);have p6:=pk (6) 6 (by rw[<-hord];rfl);have pr:=jN (C:=7) pk hA rfl;obtain⟨K,hK⟩:∃K:H,O.box [.d y1,.d y2]::.box [.d x0,.sl 3 0 0 0,.sl 4 0 0 0]::.box [.d x1,.sl 5 0 0 k,.sl 6 0 0 z]::.arr [] 0 0::.arr [] 0 0::.vec (aC 7 d++aF 0) 1 0::.arr cs 1 0::aI d=K:=⟨_,rfl⟩
  have hni:∀f,aE f (aF 0)=aF 0:=fun _=>rfl
  have hpk:pack h ord=K:=by
   have hrf:aE (aH ord) (aC 7 d)=aC 7 d:=fF (c:=0) pr;rw[lC hA gr,<-hK];simp only[Av,Am,Ai,Ap,Aa,g0,g1,g2,g3,g4,g5,g6,Bb,mapO,aE,mapA,c9,hrf,hni,p3,p4,p5,p6,Ah]
  have hKD:K.drop 7=aI d++[]:=by rw[<-hK];exact(Ah _).symm
  have hgr:=nU hKD
  have hcm:cO 0 K=.box [.d y1,.d y2]::.box [.d x0,.sl 3 0 0 0,.sl 4 0 0 0]::.box [.d x1,.sl 5 0 0 k,.sl 6 0 0 z]::.arr [] 0 0::.arr [] 0 0::.vec (aC 7 d++aF 0) 1 0::.arr cs 1 0::aI d:=by
   have hrf:aV 0 K (aC 7 d)=aC 7 d:=fT hgr;have hnc:∀h:H,aV 0 h (aF 0)=aF 0:=fun _=>rfl;have q3:a8 K 3=some 0:=by rw[<-hK];rfl
   have q4:a8 K 4=some 0:=by rw[<-hK];rfl
   have q5:a8 K 5=some 0:=by rw[<-hK];rfl
   have q6:a8 K 6=some 0:=by rw[<-hK];rfl
   unfold cO;rw[fW]
   conv=>lhs;arg 2;rw[<-hK]
   simp only[Ai,bZ,aV,bL,hY,eU,hrf,hnc,gT,q3,q4,q5,q6,Bw,if_false,if_true]
  subst hK;rw[aCA hh hids hr,hpk,hcm]
  have hmp:aE (aH ord) (tidy m s)=aE (A1 d.length) (tidy m s):=by
   apply kV;rw[hids];intro i hi;simp only[Au,Bo,or_false]at hi
   rcases hi with rfl|rfl
   ·rw[p1,sH]
   ·rw[p2,r6]
  have hz2:aV 0 (O.box [.d y1,.d y2]::.box [.d x0,.sl 3 0 0 0,.sl 4 0 0 0]::.box [.d x1,.sl 5 0 0 k,.sl 6 0 0 z]::.arr [] 0 0::.arr [] 0 0::.vec (aC 7 d++aF 0) 1 0::.arr cs 1 0::aI d) (aE (aH ord) (tidy m s))=aE (aH ord) (tidy m s):=by
   exact kQ (HM (by simp[z0O,z0As,z0A,BF,wL,wV,G3])) _ (x9 _ hz)
  rw[hz2,hmp]
 ·rfl
theorem aUf{m:List Bool}{s:List A}{y1 y2 x0 x1:D}{k z:Nat}{r:List Int}{cs:List D}{d:List (List Int)}{p:H}(hl:d.length<=4294967296):gc 1 m s (.box [.d y1,.d y2]::.box [.d x0,.sl 4 0 0 0,.sl 5 0 0 0]::.box [.d x1,.sl 6 1 0 k,.sl 7 1 0 z]::.arr (ints r) 1 0::.arr [] 0 0::.arr [] 0 0::.vec (aC 8 d++[.sl 3 0 0 r.length]) 1 1::.arr cs 1 1::(aI d++p))=match box (tidy m s)with
  |.mk s1=>if idsL s1=[0,1,2]then(aV 0 (.box [.d y1,.d y2]::.box [.d x0,.sl 3 0 0 0,.sl 4 0 0 0]::.box [.d x1,.sl 5 1 0 k,.sl 6 1 0 z]::.arr [] 0 0::.arr [] 0 0::.vec (aC 7 d++[.sl (d.length+7) 0 0 r.length]) 1 1::.arr cs 1 1::(aI d++[.arr (ints r) 1 0])) (s1),.box [.d y1,.d y2]::.box [.d x0,.sl 3 0 0 0,.sl 4 0 0 0]::.box [.d x1,.sl 5 0 0 k,.sl 6 0 0 z]::.arr [] 0 0::.arr [] 0 0::.vec (aC 7 d++[.sl (d.length+7) 0 0 r.length]) 1 0::.arr cs 1 0::(aI d++[.arr (ints r) 1 0]))else gcO 1 m s (.box [.d y1,.d y2]::.box [.d x0,.sl 4 0 0 0,.sl 5 0 0 0]::.box [.d x1,.sl 6 1 0 k,.sl 7 1 0 z]::.arr (ints r) 1 0::.arr [] 0 0::.arr [] 0 0::.vec (aC 8 d++[.sl 3 0 0 r.length]) 1 1::.arr cs 1 1::(aI d++p))
  |.no=>([],[]):=by
 simp only[box]
 split
 ·rename_i hc
  have hb:=hc;have hids:idsL (tidy m s)=[0,1,2]:=by exact hb
  obtain⟨h,hh⟩:∃h:H,O.box [.d y1,.d y2]::.box [.d x0,.sl 4 0 0 0,.sl 5 0 0 0]::.box [.d x1,.sl 6 1 0 k,.sl 7 1 0 z]::.arr (ints r) 1 0::.arr [] 0 0::.arr [] 0 0::.vec (aC 8 d++[.sl 3 0 0 r.length]) 1 1::.arr cs 1 1::(aI d++p)=h:=⟨_,rfl⟩
  conv=>lhs;rw[hh]
  have g0:h[0]? =some (.box [.d y1,.d y2]):=by rw[<-hh];rfl
  have g1:h[1]? =some (.box [.d x0,.sl 4 0 0 0,.sl 5 0 0 0]):=by rw[<-hh];rfl
  have g2:h[2]? =some (.box [.d x1,.sl 6 1 0 k,.sl 7 1 0 z]):=by rw[<-hh];rfl
  have g3:h[3]? =some (.arr (ints r) 1 0):=by rw[<-hh];rfl
  have g4:h[4]? =some (.arr [] 0 0):=by rw[<-hh];rfl
  have g5:h[5]? =some (.arr [] 0 0):=by rw[<-hh];rfl
  have g6:h[6]? =some (.vec (aC 8 d++[.sl 3 0 0 r.length]) 1 1):=by rw[<-hh];rfl
  have g7:h[7]? =some (.arr cs 1 1):=by rw[<-hh];rfl
  have hD:h.drop 8=aI d++p:=by rw[<-hh];rfl
  have gr:=iX 8 hD;have k0:kids h (0)=[]:=by simp[kids,g0,idsL,idsA]
  have k1:kids h (1)=[4,5]:=by simp[kids,g1,idsL,idsA]
  have k2:kids h (2)=[6,7]:=by simp[kids,g2,idsL,idsA]
  have k4:kids h (4)=[]:=bO g4;have k5:kids h (5)=[]:=bO g5;have k6:kids h (6)=List.range' 8 d.length++[3]:=by simp[kids,g6,bM,bY,idsL,idsA]
  have leaf:=jP gr;have hr:aD aG h [0,1,2] []=[0,1,2,4,5,6]++([7]++(List.range' 8 d.length++[3])):=gJ (by simp[k0,k1,k2,k4,k5,k6]) (by intro q hq;simp only[Ad,Ac]at hq;have:q=0\/q=1\/q=2\/q=3\/q=4\/q=5:=(by omega);rcases this with rfl|rfl|rfl|rfl|rfl|rfl<;>simp[k0,k1,k2,k4,k5]) leaf (by intro i hi;simp at hi;rcases hi with rfl|rfl<;>exact⟨_,_,_,by assumption⟩) (by intro i hi;simp at hi;rcases hi with rfl|rfl|rfl|rfl|rfl|rfl<;>exact⟨_,by assumption,by simp⟩) (by simp<;>omega) (by intro i hi;simp at hi;omega) (by simp only[aG,Ad,Ac];omega);generalize hord:[0,1,2,4,5,6]++([7]++(List.range' 8 d.length++[3]))=ord at hr;have hA:ord=([0,1,2,4,5,6]++[7])++(List.range' 8 d.length++[3]):=by rw[<-hord,Ao]
  have pk:∀i j,ord[j]? =some i->aH ord i=some j:=fun i j h1=>dW (by rw[<-hr];exact bW aG h _ [] (by simp)) h1;have p0:=pk (0) 0 (by rw[<-hord];rfl);have p1:=pk (1) 1 (by rw[<-hord];rfl);have p2:=pk (2) 2 (by rw[<-hord];rfl);have p4:=pk (4) 3 (by rw[<-hord];rfl);have p5:=pk (5) 4 (by rw[<-hord];rfl);have p6:=pk (6) 5 (by rw[<-hord];rfl);have p7:=pk (7) 6 (by rw[<-hord];rfl);have pr:=jN (C:=7) pk hA rfl;have p3:=U3 (C:=7) pk hA rfl 0 (i:=3) (j:=d.length+7) rfl (by omega);obtain⟨K,hK⟩:∃K:H,O.box [.d y1,.d y2]::.box [.d x0,.sl 3 0 0 0,.sl 4 0 0 0]::.box [.d x1,.sl 5 1 0 k,.sl 6 1 0 z]::.arr [] 0 0::.arr [] 0 0::.vec (aC 7 d++[.sl (d.length+7) 0 0 r.length]) 1 1::.arr cs 1 1::(aI d++[.arr (ints r) 1 0])=K:=⟨_,rfl⟩
  have hni:∀f,aE f (aF 0)=aF 0:=fun _=>rfl
  have hpk:pack h ord=K:=by
   have hrf:aE (aH ord) (aC 8 d)=aC 7 d:=fF (c:=0) pr;rw[lC hA gr,<-hK];simp only[Av,Am,Ai,Ap,Aa,g0,g1,g2,g4,g5,g6,g7,g3,Bb,mapO,aE,mapA,c9,hrf,p4,p5,p6,p7,p3]
  have hKD:K.drop 7=aI d++[.arr (ints r) 1 0]:=by rw[<-hK];rfl
  have hgr:=nU hKD;have hge0:a8 K (d.length+7)=some 0:=by simp only[a8,wN 7 0 hKD rfl (j:=d.length+7) (by omega)]
  have hcm:cO 0 K=.box [.d y1,.d y2]::.box [.d x0,.sl 3 0 0 0,.sl 4 0 0 0]::.box [.d x1,.sl 5 0 0 k,.sl 6 0 0 z]::.arr [] 0 0::.arr [] 0 0::.vec (aC 7 d++[.sl (d.length+7) 0 0 r.length]) 1 0::.arr cs 1 0::(aI d++[.arr (ints r) 1 0]):=by
   have hrf:aV 0 K (aC 7 d)=aC 7 d:=fT hgr;have hnc:∀h:H,aV 0 h (aF 0)=aF 0:=fun _=>rfl;have q3:a8 K 3=some 0:=by rw[<-hK];rfl
   have q4:a8 K 4=some 0:=by rw[<-hK];rfl
   have q5:a8 K 5=some 1:=by rw[<-hK];rfl
   have q6:a8 K 6=some 1:=by rw[<-hK];rfl
   unfold cO;rw[fW]
   conv=>lhs;arg 2;rw[<-hK]
   simp only[Ai,Dl,Ap,bZ,aV,bL,hY,eU,hrf,gT,q3,q4,q5,q6,hge0,Bw,if_false,if_true]
  subst hK;rw[VR hh hids,PQ (ord:=ord) (by rw[hids];exact hr),hpk,hcm]
  have hmp:aE (aH ord) (tidy m s)=tidy m s:=by
   apply fU;rw[hids];intro i hi;simp only[Au,Bo,or_false]at hi
   rcases hi with rfl|rfl|rfl
   ·exact p0
   ·exact p1
   ·exact p2
  rw[hmp]
 ·rfl
theorem aTA{m:List Bool}{s:List A}{y1 y2 x0 x1:D}{k z:Nat}{cs:List D}{d:List (List Int)}(hl:d.length<=4294967296):gc 1 m s (.box [.d y1,.d y2]::.box [.d x0,.sl 3 0 0 0,.sl 4 0 0 0]::.box [.d x1,.sl 5 0 0 k,.sl 6 0 0 z]::.arr [] 0 0::.arr [] 0 0::.vec (aC 7 d++aF 0) 1 0::.arr cs 1 0::aI d)=match box (tidy m s)with
  |.mk s1=>if idsL s1=[0,1,2]then(aV 0 (.box [.d y1,.d y2]::.box [.d x0,.sl 3 0 0 0,.sl 4 0 0 0]::.box [.d x1,.sl 5 0 0 k,.sl 6 0 0 z]::.arr [] 0 0::.arr [] 0 0::.vec (aC 7 d++aF 0) 1 0::.arr cs 1 0::aI d) (s1),.box [.d y1,.d y2]::.box [.d x0,.sl 3 0 0 0,.sl 4 0 0 0]::.box [.d x1,.sl 5 0 0 k,.sl 6 0 0 z]::.arr [] 0 0::.arr [] 0 0::.vec (aC 7 d++aF 0) 1 0::.arr cs 1 0::aI d)else gcO 1 m s (.box [.d y1,.d y2]::.box [.d x0,.sl 3 0 0 0,.sl 4 0 0 0]::.box [.d x1,.sl 5 0 0 k,.sl 6 0 0 z]::.arr [] 0 0::.arr [] 0 0::.vec (aC 7 d++aF 0) 1 0::.arr cs 1 0::aI d)
  |.no=>([],[]):=by
 simp only[box]
 split
 ·rename_i hc
  have hb:=hc;have hids:idsL (tidy m s)=[0,1,2]:=by exact hb
  obtain⟨h,hh⟩:∃h:H,O.box [.d y1,.d y2]::.box [.d x0,.sl 3 0 0 0,.sl 4 0 0 0]::.box [.d x1,.sl 5 0 0 k,.sl 6 0 0 z]::.arr [] 0 0::.arr [] 0 0::.vec (aC 7 d++aF 0) 1 0::.arr cs 1 0::aI d=h:=⟨_,rfl⟩
  conv=>lhs;rw[hh]
  have g0:h[0]? =some (.box [.d y1,.d y2]):=by rw[<-hh];rfl
  have g1:h[1]? =some (.box [.d x0,.sl 3 0 0 0,.sl 4 0 0 0]):=by rw[<-hh];rfl
  have g2:h[2]? =some (.box [.d x1,.sl 5 0 0 k,.sl 6 0 0 z]):=by rw[<-hh];rfl
  have g3:h[3]? =some (.arr [] 0 0):=by rw[<-hh];rfl
  have g4:h[4]? =some (.arr [] 0 0):=by rw[<-hh];rfl
  have g5:h[5]? =some (.vec (aC 7 d++aF 0) 1 0):=by rw[<-hh];rfl
  have g6:h[6]? =some (.arr cs 1 0):=by rw[<-hh];rfl
  have hD:h.drop 7=aI d++[]:=by rw[<-hh];exact(Ah _).symm
  have gr:=iX 7 hD;have k0:kids h (0)=[]:=by simp[kids,g0,idsL,idsA]
  have k1:kids h (1)=[3,4]:=by simp[kids,g1,idsL,idsA]
  have k2:kids h (2)=[5,6]:=by simp[kids,g2,idsL,idsA]
  have k3:kids h (3)=[]:=bO g3;have k4:kids h (4)=[]:=bO g4;have k5:kids h (5)=List.range' 7 d.length:=by simp[kids,g5,bM,bY,dM]
  have leaf:=jP gr;have hr:aD aG h [0,1,2] []=[0,1,2,3,4,5]++([6]++(List.range' 7 d.length++[])):=gJ (by simp[k0,k1,k2,k3,k4,k5]) (by intro q hq;simp only[Ad,Ac]at hq;have:q=0\/q=1\/q=2\/q=3\/q=4\/q=5:=(by omega);rcases this with rfl|rfl|rfl|rfl|rfl|rfl<;>simp[k0,k1,k2,k3,k4]) leaf (by intro i hi;simp at hi;subst hi;exact⟨_,_,_,by assumption⟩) (by intro i hi;simp at hi;rcases hi with rfl|rfl|rfl|rfl|rfl|rfl<;>exact⟨_,by assumption,by simp⟩) (by simp<;>omega) (by intro i hi;simp at hi;omega) (by simp only[aG,Ad,Ac];omega);generalize hord:[0,1,2,3,4,5]++([6]++(List.range' 7 d.length++[]))=ord at hr;have hA:ord=([0,1,2,3,4,5]++[6])++(List.range' 7 d.length++[]):=by rw[<-hord,Ao]
  have pk:∀i j,ord[j]? =some i->aH ord i=some j:=fun i j h1=>dW (by rw[<-hr];exact bW aG h _ [] (by simp)) h1;have p0:=pk (0) 0 (by rw[<-hord];rfl);have p1:=pk (1) 1 (by rw[<-hord];rfl);have p2:=pk (2) 2 (by rw[<-hord];rfl);have p3:=pk (3) 3 (by rw[<-hord];rfl);have p4:=pk (4) 4 (by rw[<-hord];rfl);have p5:=pk (5) 5 (by rw[<-hord];rfl);have p6:=pk (6) 6 (by rw[<-hord];rfl);have pr:=jN (C:=7) pk hA rfl;obtain⟨K,hK⟩:∃K:H,O.box [.d y1,.d y2]::.box [.d x0,.sl 3 0 0 0,.sl 4 0 0 0]::.box [.d x1,.sl 5 0 0 k,.sl 6 0 0 z]::.arr [] 0 0::.arr [] 0 0::.vec (aC 7 d++aF 0) 1 0::.arr cs 1 0::aI d=K:=⟨_,rfl⟩
  have hni:∀f,aE f (aF 0)=aF 0:=fun _=>rfl
  have hpk:pack h ord=K:=by
   have hrf:aE (aH ord) (aC 7 d)=aC 7 d:=fF (c:=0) pr;rw[lC hA gr,<-hK];simp only[Av,Am,Ai,Ap,Aa,g0,g1,g2,g3,g4,g5,g6,Bb,mapO,aE,mapA,c9,hrf,hni,p3,p4,p5,p6,Ah]
  have hKD:K.drop 7=aI d++[]:=by rw[<-hK];exact(Ah _).symm
  have hgr:=nU hKD
  have hcm:cO 0 K=.box [.d y1,.d y2]::.box [.d x0,.sl 3 0 0 0,.sl 4 0 0 0]::.box [.d x1,.sl 5 0 0 k,.sl 6 0 0 z]::.arr [] 0 0::.arr [] 0 0::.vec (aC 7 d++aF 0) 1 0::.arr cs 1 0::aI d:=by
   have hrf:aV 0 K (aC 7 d)=aC 7 d:=fT hgr;have hnc:∀h:H,aV 0 h (aF 0)=aF 0:=fun _=>rfl;have q3:a8 K 3=some 0:=by rw[<-hK];rfl
   have q4:a8 K 4=some 0:=by rw[<-hK];rfl
   have q5:a8 K 5=some 0:=by rw[<-hK];rfl
   have q6:a8 K 6=some 0:=by rw[<-hK];rfl
   unfold cO;rw[fW]
   conv=>lhs;arg 2;rw[<-hK]
   simp only[Ai,bZ,aV,bL,hY,eU,hrf,hnc,gT,q3,q4,q5,q6,Bw,if_false,if_true]
  subst hK;rw[VR hh hids,PQ (ord:=ord) (by rw[hids];exact hr),hpk,hcm]
  have hmp:aE (aH ord) (tidy m s)=tidy m s:=by
   apply fU;rw[hids];intro i hi;simp only[Au,Bo,or_false]at hi
   rcases hi with rfl|rfl|rfl
   ·exact p0
   ·exact p1
   ·exact p2
  rw[hmp]
 ·rfl
theorem aT0{m:List Bool}{s:List A}{y1 y2 x0 x1:D}{k z g:Nat}{cr cs:List D}{d:List (List Int)}{p:H}(hl:d.length<=4294967296):gc 1 m s (.box [.d y1,.d y2]::.box [.d x0,.sl 4 0 0 0,.sl 5 0 0 0]::.box [.d x1,.sl 6 0 0 k,.sl 7 0 0 z]::.arr cr 1 g::.arr [] 0 0::.arr [] 0 0::.vec (aC 8 d++aF 0) 1 0::.arr cs 1 0::(aI d++p))=match box (tidy m s)with
  |.mk s1=>if idsL s1=[0,1,2,3]then(aV 0 (.box [.d y1,.d y2]::.box [.d x0,.sl 4 0 0 0,.sl 5 0 0 0]::.box [.d x1,.sl 6 0 0 k,.sl 7 0 0 z]::.arr cr 1 g::.arr [] 0 0::.arr [] 0 0::.vec (aC 8 d++aF 0) 1 0::.arr cs 1 0::aI d) (s1),.box [.d y1,.d y2]::.box [.d x0,.sl 4 0 0 0,.sl 5 0 0 0]::.box [.d x1,.sl 6 0 0 k,.sl 7 0 0 z]::.arr cr 1 0::.arr [] 0 0::.arr [] 0 0::.vec (aC 8 d++aF 0) 1 0::.arr cs 1 0::aI d)else gcO 1 m s (.box [.d y1,.d y2]::.box [.d x0,.sl 4 0 0 0,.sl 5 0 0 0]::.box [.d x1,.sl 6 0 0 k,.sl 7 0 0 z]::.arr cr 1 g::.arr [] 0 0::.arr [] 0 0::.vec (aC 8 d++aF 0) 1 0::.arr cs 1 0::(aI d++p))
  |.no=>([],[]):=by
 simp only[box]
 split
 ·rename_i hc
  have hb:=hc;have hids:idsL (tidy m s)=[0,1,2,3]:=by exact hb
  obtain⟨h,hh⟩:∃h:H,O.box [.d y1,.d y2]::.box [.d x0,.sl 4 0 0 0,.sl 5 0 0 0]::.box [.d x1,.sl 6 0 0 k,.sl 7 0 0 z]::.arr cr 1 g::.arr [] 0 0::.arr [] 0 0::.vec (aC 8 d++aF 0) 1 0::.arr cs 1 0::(aI d++p)=h:=⟨_,rfl⟩
  conv=>lhs;rw[hh]
  have g0:h[0]? =some (.box [.d y1,.d y2]):=by rw[<-hh];rfl
  have g1:h[1]? =some (.box [.d x0,.sl 4 0 0 0,.sl 5 0 0 0]):=by rw[<-hh];rfl
  have g2:h[2]? =some (.box [.d x1,.sl 6 0 0 k,.sl 7 0 0 z]):=by rw[<-hh];rfl
  have g3:h[3]? =some (.arr cr 1 g):=by rw[<-hh];rfl
  have g4:h[4]? =some (.arr [] 0 0):=by rw[<-hh];rfl
  have g5:h[5]? =some (.arr [] 0 0):=by rw[<-hh];rfl
  have g6:h[6]? =some (.vec (aC 8 d++aF 0) 1 0):=by rw[<-hh];rfl
  have g7:h[7]? =some (.arr cs 1 0):=by rw[<-hh];rfl
  have hD:h.drop 8=aI d++p:=by rw[<-hh];rfl
  have gr:=iX 8 hD;have k0:kids h (0)=[]:=by simp[kids,g0,idsL,idsA]
  have k1:kids h (1)=[4,5]:=by simp[kids,g1,idsL,idsA]
  have k2:kids h (2)=[6,7]:=by simp[kids,g2,idsL,idsA]
  have k3:kids h (3)=[]:=bO g3;have k4:kids h (4)=[]:=bO g4;have k5:kids h (5)=[]:=bO g5;have k6:kids h (6)=List.range' 8 d.length:=by simp[kids,g6,bM,bY,dM]
  have leaf:=jP gr;have hr:aD aG h [0,1,2,3] []=[0,1,2,3,4,5,6]++([7]++(List.range' 8 d.length++[])):=gJ (by simp[k0,k1,k2,k3,k4,k5,k6]) (by intro q hq;simp only[Ad,Ac]at hq;have:q=0\/q=1\/q=2\/q=3\/q=4\/q=5\/q=6:=(by omega);rcases this with rfl|rfl|rfl|rfl|rfl|rfl|rfl<;>simp[k0,k1,k2,k3,k4,k5]) leaf (by intro i hi;simp at hi;subst hi;exact⟨_,_,_,by assumption⟩) (by intro i hi;simp at hi;rcases hi with rfl|rfl|rfl|rfl|rfl|rfl|rfl<;>exact⟨_,by assumption,by simp⟩) (by simp<;>omega) (by intro i hi;simp at hi;omega) (by simp only[aG,Ad,Ac];omega);generalize hord:[0,1,2,3,4,5,6]++([7]++(List.range' 8 d.length++[]))=ord at hr;have hA:ord=([0,1,2,3,4,5,6]++[7])++(List.range' 8 d.length++[]):=by rw[<-hord,Ao]
  have pk:∀i j,ord[j]? =some i->aH ord i=some j:=fun i j h1=>dW (by rw[<-hr];exact bW aG h _ [] (by simp)) h1;have p0:=pk (0) 0 (by rw[<-hord];rfl);have p1:=pk (1) 1 (by rw[<-hord];rfl);have p2:=pk (2) 2 (by rw[<-hord];rfl);have p3:=pk (3) 3 (by rw[<-hord];rfl);have p4:=pk (4) 4 (by rw[<-hord];rfl);have p5:=pk (5) 5 (by rw[<-hord];rfl);have p6:=pk (6) 6 (by rw[<-hord];rfl);have p7:=pk (7) 7 (by rw[<-hord];rfl);have pr:=jN (C:=8) pk hA rfl;obtain⟨K,hK⟩:∃K:H,O.box [.d y1,.d y2]::.box [.d x0,.sl 4 0 0 0,.sl 5 0 0 0]::.box [.d x1,.sl 6 0 0 k,.sl 7 0 0 z]::.arr cr 1 g::.arr [] 0 0::.arr [] 0 0::.vec (aC 8 d++aF 0) 1 0::.arr cs 1 0::aI d=K:=⟨_,rfl⟩
  have hni:∀f,aE f (aF 0)=aF 0:=fun _=>rfl
  have hpk:pack h ord=K:=by
   have hrf:aE (aH ord) (aC 8 d)=aC 8 d:=fF (c:=0) pr;rw[lC hA gr,<-hK];simp only[Av,Am,Ai,Ap,Aa,g0,g1,g2,g3,g4,g5,g6,g7,Bb,mapO,aE,mapA,c9,hrf,hni,p4,p5,p6,p7,Ah]
  have hKD:K.drop 8=aI d++[]:=by rw[<-hK];exact(Ah _).symm
  have hgr:=nU hKD
  have hcm:cO 0 K=.box [.d y1,.d y2]::.box [.d x0,.sl 4 0 0 0,.sl 5 0 0 0]::.box [.d x1,.sl 6 0 0 k,.sl 7 0 0 z]::.arr cr 1 0::.arr [] 0 0::.arr [] 0 0::.vec (aC 8 d++aF 0) 1 0::.arr cs 1 0::aI d:=by
   have hrf:aV 0 K (aC 8 d)=aC 8 d:=fT hgr;have hnc:∀h:H,aV 0 h (aF 0)=aF 0:=fun _=>rfl;have q3:a8 K 3=some g:=by rw[<-hK];rfl
   have q4:a8 K 4=some 0:=by rw[<-hK];rfl
   have q5:a8 K 5=some 0:=by rw[<-hK];rfl
   have q6:a8 K 6=some 0:=by rw[<-hK];rfl
   have q7:a8 K 7=some 0:=by rw[<-hK];rfl
   unfold cO;rw[fW]
   conv=>lhs;arg 2;rw[<-hK]
   simp only[Ai,bZ,aV,bL,hY,eU,hrf,hnc,gT,q4,q5,q6,q7,Bw,if_false,if_true]
  subst hK;rw[VR hh hids,PQ (ord:=ord) (by rw[hids];exact hr),hpk,hcm]
  have hmp:aE (aH ord) (tidy m s)=tidy m s:=by
   apply fU;rw[hids];intro i hi;simp only[Au,Bo,or_false]at hi
   rcases hi with rfl|rfl|rfl|rfl
   ·exact p0
   ·exact p1
   ·exact p2
   ·exact p3
  rw[hmp]
 ·rfl
theorem aRx{m:List Bool}{s:List A}{y1 y2 x0 x1:D}{k z g:Nat}{cr cs:List D}{d:List (List Int)}(hl:d.length<=4294967296):gc 1 m s (.box [.d y1,.d y2]::.box [.d x0,.sl 4 0 0 0,.sl 5 0 0 0]::.box [.d x1,.sl 6 0 0 k,.sl 7 0 0 z]::.arr cr 1 g::.arr [] 0 0::.arr [] 0 0::.vec (aC 8 d++aF 0) 1 0::.arr cs 1 0::aI d)=match box (tidy m s)with
  |.mk s1=>if idsL s1=[0,1,2,3]then(aV 0 (.box [.d y1,.d y2]::.box [.d x0,.sl 4 0 0 0,.sl 5 0 0 0]::.box [.d x1,.sl 6 0 0 k,.sl 7 0 0 z]::.arr cr 1 g::.arr [] 0 0::.arr [] 0 0::.vec (aC 8 d++aF 0) 1 0::.arr cs 1 0::aI d) (s1),.box [.d y1,.d y2]::.box [.d x0,.sl 4 0 0 0,.sl 5 0 0 0]::.box [.d x1,.sl 6 0 0 k,.sl 7 0 0 z]::.arr cr 1 0::.arr [] 0 0::.arr [] 0 0::.vec (aC 8 d++aF 0) 1 0::.arr cs 1 0::aI d)else gcO 1 m s (.box [.d y1,.d y2]::.box [.d x0,.sl 4 0 0 0,.sl 5 0 0 0]::.box [.d x1,.sl 6 0 0 k,.sl 7 0 0 z]::.arr cr 1 g::.arr [] 0 0::.arr [] 0 0::.vec (aC 8 d++aF 0) 1 0::.arr cs 1 0::aI d)
  |.no=>([],[]):=by
 simp only[box]
 split
 ·rename_i hc
  have hb:=hc;have hids:idsL (tidy m s)=[0,1,2,3]:=by exact hb
  obtain⟨h,hh⟩:∃h:H,O.box [.d y1,.d y2]::.box [.d x0,.sl 4 0 0 0,.sl 5 0 0 0]::.box [.d x1,.sl 6 0 0 k,.sl 7 0 0 z]::.arr cr 1 g::.arr [] 0 0::.arr [] 0 0::.vec (aC 8 d++aF 0) 1 0::.arr cs 1 0::aI d=h:=⟨_,rfl⟩
  conv=>lhs;rw[hh]
  have g0:h[0]? =some (.box [.d y1,.d y2]):=by rw[<-hh];rfl
  have g1:h[1]? =some (.box [.d x0,.sl 4 0 0 0,.sl 5 0 0 0]):=by rw[<-hh];rfl
  have g2:h[2]? =some (.box [.d x1,.sl 6 0 0 k,.sl 7 0 0 z]):=by rw[<-hh];rfl
  have g3:h[3]? =some (.arr cr 1 g):=by rw[<-hh];rfl
  have g4:h[4]? =some (.arr [] 0 0):=by rw[<-hh];rfl
  have g5:h[5]? =some (.arr [] 0 0):=by rw[<-hh];rfl
  have g6:h[6]? =some (.vec (aC 8 d++aF 0) 1 0):=by rw[<-hh];rfl
  have g7:h[7]? =some (.arr cs 1 0):=by rw[<-hh];rfl
  have hD:h.drop 8=aI d++[]:=by rw[<-hh];exact(Ah _).symm
  have gr:=iX 8 hD;have k0:kids h (0)=[]:=by simp[kids,g0,idsL,idsA]
  have k1:kids h (1)=[4,5]:=by simp[kids,g1,idsL,idsA]
  have k2:kids h (2)=[6,7]:=by simp[kids,g2,idsL,idsA]
  have k3:kids h (3)=[]:=bO g3;have k4:kids h (4)=[]:=bO g4;have k5:kids h (5)=[]:=bO g5;have k6:kids h (6)=List.range' 8 d.length:=by simp[kids,g6,bM,bY,dM]
  have leaf:=jP gr;have hr:aD aG h [0,1,2,3] []=[0,1,2,3,4,5,6]++([7]++(List.range' 8 d.length++[])):=gJ (by simp[k0,k1,k2,k3,k4,k5,k6]) (by intro q hq;simp only[Ad,Ac]at hq;have:q=0\/q=1\/q=2\/q=3\/q=4\/q=5\/q=6:=(by omega);rcases this with rfl|rfl|rfl|rfl|rfl|rfl|rfl<;>simp[k0,k1,k2,k3,k4,k5]) leaf (by intro i hi;simp at hi;subst hi;exact⟨_,_,_,by assumption⟩) (by intro i hi;simp at hi;rcases hi with rfl|rfl|rfl|rfl|rfl|rfl|rfl<;>exact⟨_,by assumption,by simp⟩) (by simp<;>omega) (by intro i hi;simp at hi;omega) (by simp only[aG,Ad,Ac];omega);generalize hord:[0,1,2,3,4,5,6]++([7]++(List.range' 8 d.length++[]))=ord at hr;have hA:ord=([0,1,2,3,4,5,6]++[7])++(List.range' 8 d.length++[]):=by rw[<-hord,Ao]
  have pk:∀i j,ord[j]? =some i->aH ord i=some j:=fun i j h1=>dW (by rw[<-hr];exact bW aG h _ [] (by simp)) h1;have p0:=pk (0) 0 (by rw[<-hord];rfl);have p1:=pk (1) 1 (by rw[<-hord];rfl);have p2:=pk (2) 2 (by rw[<-hord];rfl);have p3:=pk (3) 3 (by rw[<-hord];rfl);have p4:=pk (4) 4 (by rw[<-hord];rfl);have p5:=pk (5) 5 (by rw[<-hord];rfl);have p6:=pk (6) 6 (by rw[<-hord];rfl);have p7:=pk (7) 7 (by rw[<-hord];rfl);have pr:=jN (C:=8) pk hA rfl;obtain⟨K,hK⟩:∃K:H,O.box [.d y1,.d y2]::.box [.d x0,.sl 4 0 0 0,.sl 5 0 0 0]::.box [.d x1,.sl 6 0 0 k,.sl 7 0 0 z]::.arr cr 1 g::.arr [] 0 0::.arr [] 0 0::.vec (aC 8 d++aF 0) 1 0::.arr cs 1 0::aI d=K:=⟨_,rfl⟩
  have hni:∀f,aE f (aF 0)=aF 0:=fun _=>rfl
  have hpk:pack h ord=K:=by
   have hrf:aE (aH ord) (aC 8 d)=aC 8 d:=fF (c:=0) pr;rw[lC hA gr,<-hK];simp only[Av,Am,Ai,Ap,Aa,g0,g1,g2,g3,g4,g5,g6,g7,Bb,mapO,aE,mapA,c9,hrf,hni,p4,p5,p6,p7,Ah]
  have hKD:K.drop 8=aI d++[]:=by rw[<-hK];exact(Ah _).symm
  have hgr:=nU hKD
  have hcm:cO 0 K=.box [.d y1,.d y2]::.box [.d x0,.sl 4 0 0 0,.sl 5 0 0 0]::.box [.d x1,.sl 6 0 0 k,.sl 7 0 0 z]::.arr cr 1 0::.arr [] 0 0::.arr [] 0 0::.vec (aC 8 d++aF 0) 1 0::.arr cs 1 0::aI d:=by
   have hrf:aV 0 K (aC 8 d)=aC 8 d:=fT hgr;have hnc:∀h:H,aV 0 h (aF 0)=aF 0:=fun _=>rfl;have q3:a8 K 3=some g:=by rw[<-hK];rfl
   have q4:a8 K 4=some 0:=by rw[<-hK];rfl
   have q5:a8 K 5=some 0:=by rw[<-hK];rfl
   have q6:a8 K 6=some 0:=by rw[<-hK];rfl
   have q7:a8 K 7=some 0:=by rw[<-hK];rfl
   unfold cO;rw[fW]
   conv=>lhs;arg 2;rw[<-hK]
   simp only[Ai,bZ,aV,bL,hY,eU,hrf,hnc,gT,q4,q5,q6,q7,Bw,if_false,if_true]
  subst hK;rw[VR hh hids,PQ (ord:=ord) (by rw[hids];exact hr),hpk,hcm]
  have hmp:aE (aH ord) (tidy m s)=tidy m s:=by
   apply fU;rw[hids];intro i hi;simp only[Au,Bo,or_false]at hi
   rcases hi with rfl|rfl|rfl|rfl
   ·exact p0
   ·exact p1
   ·exact p2
   ·exact p3
  rw[hmp]
 ·rfl
def JI(n:Nat)(ids:List Nat):Bool:=decide (ids=[0,1,2,n+7])
theorem aGU{n:Nat}{ke0:Nat}(he0:ke0=n+7):JI n [0,1,2,ke0]=true:=by subst he0;simp[JI]
def jT(n i:Nat):Option Nat:=if i=0 then some 0 else if i=1 then some 1 else if i=2 then some 2 else if i=n+7 then some 3 else none
theorem TI{n:Nat}:jT n 0=some (0):=by unfold jT;repeat (first|rfl|rw[if_pos rfl]|rw[if_neg (by omega)])
theorem UU{n:Nat}:jT n 1=some (1):=by unfold jT;repeat (first|rfl|rw[if_pos rfl]|rw[if_neg (by omega)])
theorem VQ{n:Nat}:jT n 2=some (2):=by unfold jT;repeat (first|rfl|rw[if_pos rfl]|rw[if_neg (by omega)])
theorem P9{n k:Nat}(h:k=n+7):jT n k=some (3):=by subst h;unfold jT;repeat (first|rfl|rw[if_pos rfl]|rw[if_neg (by omega)])
theorem aUr{m:List Bool}{s:List A}{y1 y2 x0 x1:D}{k z:Nat}{cs:List D}{d:List (List Int)}{p:H}(hl:d.length<=4294967296):gc 1 m s (.box [.d y1,.d y2]::.box [.d x0,.sl 3 0 0 0,.sl 4 0 0 0]::.box [.d x1,.sl 5 0 0 k,.sl 6 0 0 z]::.arr [] 0 0::.arr [] 0 0::.vec (aC 7 d++aF 0) 1 0::.arr cs 1 0::(aI d++.arr [] 1 0::p))=match box (tidy m s)with
  |.mk s1=>if JI d.length (idsL s1)=true then(aV 0 (.box [.d y1,.d y2]::.box [.d x0,.sl 4 0 0 0,.sl 5 0 0 0]::.box [.d x1,.sl 6 0 0 k,.sl 7 0 0 z]::.arr [] 1 0::.arr [] 0 0::.arr [] 0 0::.vec (aC 8 d++aF 0) 1 0::.arr cs 1 0::aI d) (aE (jT d.length) s1),.box [.d y1,.d y2]::.box [.d x0,.sl 4 0 0 0,.sl 5 0 0 0]::.box [.d x1,.sl 6 0 0 k,.sl 7 0 0 z]::.arr [] 1 0::.arr [] 0 0::.arr [] 0 0::.vec (aC 8 d++aF 0) 1 0::.arr cs 1 0::aI d)else gcO 1 m s (.box [.d y1,.d y2]::.box [.d x0,.sl 3 0 0 0,.sl 4 0 0 0]::.box [.d x1,.sl 5 0 0 k,.sl 6 0 0 z]::.arr [] 0 0::.arr [] 0 0::.vec (aC 7 d++aF 0) 1 0::.arr cs 1 0::(aI d++.arr [] 1 0::p))
  |.no=>([],[]):=by
 simp only[box]
 split
 ·rename_i hc
  have hb:=hc;have hids:idsL (tidy m s)=[0,1,2,d.length+7]:=by simpa [JI]using hb
  obtain⟨h,hh⟩:∃h:H,O.box [.d y1,.d y2]::.box [.d x0,.sl 3 0 0 0,.sl 4 0 0 0]::.box [.d x1,.sl 5 0 0 k,.sl 6 0 0 z]::.arr [] 0 0::.arr [] 0 0::.vec (aC 7 d++aF 0) 1 0::.arr cs 1 0::(aI d++.arr [] 1 0::p)=h:=⟨_,rfl⟩
  conv=>lhs;rw[hh]
  have g0:h[0]? =some (.box [.d y1,.d y2]):=by rw[<-hh];rfl
  have g1:h[1]? =some (.box [.d x0,.sl 3 0 0 0,.sl 4 0 0 0]):=by rw[<-hh];rfl
  have g2:h[2]? =some (.box [.d x1,.sl 5 0 0 k,.sl 6 0 0 z]):=by rw[<-hh];rfl
  have g3:h[3]? =some (.arr [] 0 0):=by rw[<-hh];rfl
  have g4:h[4]? =some (.arr [] 0 0):=by rw[<-hh];rfl
  have g5:h[5]? =some (.vec (aC 7 d++aF 0) 1 0):=by rw[<-hh];rfl
  have g6:h[6]? =some (.arr cs 1 0):=by rw[<-hh];rfl
  have hD:h.drop 7=aI d++(.arr [] 1 0::p):=by rw[<-hh];rfl
  have gr:=iX 7 hD;have ge0:h[d.length+7]? =some (.arr [] 1 0):=wN 7 0 hD rfl (by omega);have k0:kids h (0)=[]:=by simp[kids,g0,idsL,idsA]
  have k1:kids h (1)=[3,4]:=by simp[kids,g1,idsL,idsA]
  have k2:kids h (2)=[5,6]:=by simp[kids,g2,idsL,idsA]
  have ke0:kids h (d.length+7)=[]:=bO ge0;have k3:kids h (3)=[]:=bO g3;have k4:kids h (4)=[]:=bO g4;have k5:kids h (5)=List.range' 7 d.length:=by simp[kids,g5,bM,bY,dM]
  have leaf:=jP gr;have hr:aD aG h [0,1,2,d.length+7] []=[0,1,2,d.length+7,3,4,5]++([6]++(List.range' 7 d.length++[])):=gJ (by simp[k0,k1,k2,ke0,k3,k4,k5]) (by intro q hq;simp only[Ad,Ac]at hq;have:q=0\/q=1\/q=2\/q=3\/q=4\/q=5\/q=6:=(by omega);rcases this with rfl|rfl|rfl|rfl|rfl|rfl|rfl<;>simp[k0,k1,k2,ke0,k3,k4]) leaf (by intro i hi;simp at hi;subst hi;exact⟨_,_,_,by assumption⟩) (by intro i hi;simp at hi;rcases hi with rfl|rfl|rfl|rfl|rfl|rfl|rfl<;>exact⟨_,by assumption,by simp⟩) (by simp<;>omega) (by intro i hi;simp at hi;omega) (by simp only[aG,Ad,Ac];omega);generalize hord:[0,1,2,d.length+7,3,4,5]++([6]++(List.range' 7 d.length++[]))=ord at hr;have hA:ord=([0,1,2,d.length+7,3,4,5]++[6])++(List.range' 7 d.length++[]):=by rw[<-hord,Ao]
  have pk:∀i j,ord[j]? =some i->aH ord i=some j:=fun i j h1=>dW (by rw[<-hr];exact bW aG h _ [] (by simp)) h1;have p0:=pk (0) 0 (by rw[<-hord];rfl);have p1:=pk (1) 1 (by rw[<-hord];rfl);have p2:=pk (2) 2 (by rw[<-hord];rfl);have pe0:=pk (d.length+7) 3 (by rw[<-hord];rfl);have p3:=pk (3) 4 (by rw[<-hord];rfl);have p4:=pk (4) 5 (by rw[<-hord];rfl);have p5:=pk (5) 6 (by rw[<-hord];rfl);have p6:=pk (6) 7 (by rw[<-hord];rfl);have pr:=jN (C:=8) pk hA rfl;obtain⟨K,hK⟩:∃K:H,O.box [.d y1,.d y2]::.box [.d x0,.sl 4 0 0 0,.sl 5 0 0 0]::.box [.d x1,.sl 6 0 0 k,.sl 7 0 0 z]::.arr [] 1 0::.arr [] 0 0::.arr [] 0 0::.vec (aC 8 d++aF 0) 1 0::.arr cs 1 0::aI d=K:=⟨_,rfl⟩
  have hni:∀f,aE f (aF 0)=aF 0:=fun _=>rfl
  have hpk:pack h ord=K:=by
   have hrf:aE (aH ord) (aC 7 d)=aC 8 d:=fF (c:=0) pr;rw[lC hA gr,<-hK];simp only[Av,Am,Ai,Ap,Aa,g0,g1,g2,ge0,g3,g4,g5,g6,Bb,mapO,aE,mapA,c9,hrf,hni,p3,p4,p5,p6,Ah]
  have hKD:K.drop 8=aI d++[]:=by rw[<-hK];exact(Ah _).symm
  have hgr:=nU hKD
  have hcm:cO 0 K=.box [.d y1,.d y2]::.box [.d x0,.sl 4 0 0 0,.sl 5 0 0 0]::.box [.d x1,.sl 6 0 0 k,.sl 7 0 0 z]::.arr [] 1 0::.arr [] 0 0::.arr [] 0 0::.vec (aC 8 d++aF 0) 1 0::.arr cs 1 0::aI d:=by
   have hrf:aV 0 K (aC 8 d)=aC 8 d:=fT hgr;have hnc:∀h:H,aV 0 h (aF 0)=aF 0:=fun _=>rfl;have q3:a8 K 3=some 0:=by rw[<-hK];rfl
   have q4:a8 K 4=some 0:=by rw[<-hK];rfl
   have q5:a8 K 5=some 0:=by rw[<-hK];rfl
   have q6:a8 K 6=some 0:=by rw[<-hK];rfl
   have q7:a8 K 7=some 0:=by rw[<-hK];rfl
   unfold cO;rw[fW]
   conv=>lhs;arg 2;rw[<-hK]
   simp only[Ai,bZ,aV,bL,hY,eU,hrf,hnc,gT,q4,q5,q6,q7,Bw,if_false,if_true]
  subst hK;rw[VR hh hids,PQ (ord:=ord) (by rw[hids];exact hr),hpk,hcm]
  have hmp:aE (aH ord) (tidy m s)=aE (jT d.length) (tidy m s):=by
   apply kV;rw[hids];intro i hi;simp only[Au,Bo,or_false]at hi
   rcases hi with rfl|rfl|rfl|rfl
   ·rw[p0,TI]
   ·rw[p1,UU]
   ·rw[p2,VQ]
   ·rw[pe0,P9 rfl]
  rw[hmp]
 ·rfl
def wP(n:Nat):List Nat:=[0,5,6]++(List.range' 7 n++[])
def F3(n i:Nat):Option Nat:=if i=0 then some 0 else if i=5 then some 1 else if i=6 then some 2 else none
theorem aFq{n:Nat}:F3 n 5=some (1):=by unfold F3;repeat (first|rfl|rw[if_pos rfl]|rw[if_neg (by omega)])
theorem aEI{n:Nat}:F3 n 6=some (2):=by unfold F3;repeat (first|rfl|rw[if_pos rfl]|rw[if_neg (by omega)])
theorem aPA{y1 y2:D}{x0 x1 o3 o4:O}{cs:List D}{d:List (List Int)}(hl:d.length<=4294967296){ids:List Nat}:dR 1 (.box [.d y1,.d y2]::x0::x1::o3::o4::.vec (aC 7 d++aF 0) 1 0::.arr cs 1 0::aI d) ids=if ids=[5,6]then wP d.length else aRM 1 (.box [.d y1,.d y2]::x0::x1::o3::o4::.vec (aC 7 d++aF 0) 1 0::.arr cs 1 0::aI d) ids:=by
 split
 ·rename_i hc
  subst hc;rw[aHe];obtain⟨h,hh⟩:∃h:H,O.box [.d y1,.d y2]::x0::x1::o3::o4::.vec (aC 7 d++aF 0) 1 0::.arr cs 1 0::aI d=h:=⟨_,rfl⟩
  conv=>lhs;rw[hh]
  have g0:h[0]? =some (.box [.d y1,.d y2]):=by rw[<-hh];rfl
  have g5:h[5]? =some (.vec (aC 7 d++aF 0) 1 0):=by rw[<-hh];rfl
  have g6:h[6]? =some (.arr cs 1 0):=by rw[<-hh];rfl
  have hD:h.drop 7=aI d++[]:=by rw[<-hh];exact(Ah _).symm
  have gr:=iX 7 hD;have k0:kids h (0)=[]:=by simp[kids,g0,idsL,idsA]
  have k5:kids h (5)=List.range' 7 d.length:=by simp[kids,g5,bM,bY,dM]
  have leaf:=jP gr;have hr:aD (aG+1) h [0,5,6] []=[0,5]++([6]++(List.range' 7 d.length++[])):=gJ (by simp[k0,k5]) (by intro q hq;simp only[Ad,Ac]at hq;have:q=0\/q=1:=(by omega);rcases this with rfl|rfl<;>simp[k0]) leaf (by intro i hi;simp at hi;subst hi;exact⟨_,_,_,by assumption⟩) (by intro i hi;simp at hi;rcases hi with rfl|rfl<;>exact⟨_,by assumption,by simp⟩) (by simp<;>omega) (by intro i hi;simp at hi;omega) (by simp only[aG,Ad,Ac];omega);generalize hord:[0,5]++([6]++(List.range' 7 d.length++[]))=ord at hr;rw[hr,<-hord];rfl
 ·rfl
theorem aN8{y1 y2:D}{x0 x1 o3 o4:O}{cs:List D}{d:List (List Int)}(hl:d.length<=4294967296){s:List A}:trim 1 (.box [.d y1,.d y2]::x0::x1::o3::o4::.vec (aC 7 d++aF 0) 1 0::.arr cs 1 0::aI d) (wP d.length) s=if idsL s=[5,6]/\z0As s=true then(aE (F3 d.length) s,.box [.d y1,.d y2]::.vec (aC 3 d++aF 0) 1 0::.arr cs 1 0::aI d)else aRH 1 (.box [.d y1,.d y2]::x0::x1::o3::o4::.vec (aC 7 d++aF 0) 1 0::.arr cs 1 0::aI d) (wP d.length) s:=by
 split
 ·rename_i hc
  obtain⟨hids,hz⟩:=hc;rw[show wP d.length=0::(wP d.length).tail from rfl,aD8,show(0::(wP d.length).tail)=wP d.length from rfl];obtain⟨h,hh⟩:∃h:H,O.box [.d y1,.d y2]::x0::x1::o3::o4::.vec (aC 7 d++aF 0) 1 0::.arr cs 1 0::aI d=h:=⟨_,rfl⟩
  conv=>lhs;rw[hh]
  have g0:h[0]? =some (.box [.d y1,.d y2]):=by rw[<-hh];rfl
  have g5:h[5]? =some (.vec (aC 7 d++aF 0) 1 0):=by rw[<-hh];rfl
  have g6:h[6]? =some (.arr cs 1 0):=by rw[<-hh];rfl
  have hD:h.drop 7=aI d++[]:=by rw[<-hh];exact(Ah _).symm
  have gr:=iX 7 hD;have k0:kids h (0)=[]:=by simp[kids,g0,idsL,idsA]
  have k5:kids h (5)=List.range' 7 d.length:=by simp[kids,g5,bM,bY,dM]
  have leaf:=jP gr;have hr:aD aG h [0,5,6] []=[0,5]++([6]++(List.range' 7 d.length++[])):=gJ (by simp[k0,k5]) (by intro q hq;simp only[Ad,Ac]at hq;have:q=0\/q=1:=(by omega);rcases this with rfl|rfl<;>simp[k0]) leaf (by intro i hi;simp at hi;subst hi;exact⟨_,_,_,by assumption⟩) (by intro i hi;simp at hi;rcases hi with rfl|rfl<;>exact⟨_,by assumption,by simp⟩) (by simp<;>omega) (by intro i hi;simp at hi;omega) (by simp only[aG,Ad,Ac];omega);generalize hord:[0,5]++([6]++(List.range' 7 d.length++[]))=ord at hr;have hA:ord=([0,5]++[6])++(List.range' 7 d.length++[]):=by rw[<-hord,Ao]
  have pk:∀i j,ord[j]? =some i->aH ord i=some j:=fun i j h1=>dW (by rw[<-hr];exact bW aG h _ [] (by simp)) h1;have p0:=pk (0) 0 (by rw[<-hord];rfl);have p5:=pk (5) 1 (by rw[<-hord];rfl);have p6:=pk (6) 2 (by rw[<-hord];rfl);have pr:=jN (C:=3) pk hA rfl;obtain⟨K,hK⟩:∃K:H,O.box [.d y1,.d y2]::.vec (aC 3 d++aF 0) 1 0::.arr cs 1 0::aI d=K:=⟨_,rfl⟩
  have hni:∀f,aE f (aF 0)=aF 0:=fun _=>rfl
  have hpk:pack h ord=K:=by
   have hrf:aE (aH ord) (aC 7 d)=aC 3 d:=fF (c:=0) pr;rw[lC hA gr,<-hK];simp only[Av,Am,Ai,Ap,Aa,g0,g5,g6,Bb,mapO,aE,mapA,c9,hrf,hni,Ah]
  have hKD:K.drop 3=aI d++[]:=by rw[<-hK];exact(Ah _).symm
  have hgr:=nU hKD
  have hcm:cO 0 K=.box [.d y1,.d y2]::.vec (aC 3 d++aF 0) 1 0::.arr cs 1 0::aI d:=by
   have hrf:aV 0 K (aC 3 d)=aC 3 d:=fT hgr;have hnc:∀h:H,aV 0 h (aF 0)=aF 0:=fun _=>rfl;have q1:a8 K 1=some 0:=by rw[<-hK];rfl
   have q2:a8 K 2=some 0:=by rw[<-hK];rfl
   unfold cO;rw[fW]
   conv=>lhs;arg 2;rw[<-hK]
   simp only[Ai,bZ,aV,bL,eU,hrf,hnc,gT,Bw,if_false]
  subst hK;have hoo:wP d.length=ord:=by rw[<-hord];rfl
  unfold trim;rw[hoo,hpk,hcm]
  have hz2:aV 0 (O.box [.d y1,.d y2]::.vec (aC 3 d++aF 0) 1 0::.arr cs 1 0::aI d) (aE (aH ord) s)=aE (aH ord) s:=by
   exact kQ (HM (by simp[z0O,z0As,z0A,BF,wL,wV,G3])) _ (x9 _ hz)
  have hmp:aE (aH ord) s=aE (F3 d.length) s:=by
   apply kV;rw[hids];intro i hi;simp only[Au,Bo,or_false]at hi
   rcases hi with rfl|rfl
   ·rw[p5,aFq]
   ·rw[p6,aEI]
  rw[hz2,hmp]
 ·rfl
theorem aUQ{m:List Bool}{s:List A}{a1 a2 a3 x0 x1:D}{k z:Nat}{r:List Int}{cs:List D}{d:List (List Int)}{p:H}(hl:d.length<=4294967296):gc 0 m s (.box [.d a1,.d a2,.d a3]::.box [.d x0,.sl 3 0 0 0,.sl 4 0 0 0]::.box [.d x1,.sl 5 1 0 k,.sl 6 0 0 z]::.arr [] 0 0::.arr [] 0 0::.vec (aC 7 d++[.sl (d.length+7) 1 0 r.length]) 1 1::.arr cs 1 0::(aI d++.arr (ints r) 1 1::p))=match box (tidy m s)with
  |.mk s1=>if idsL s1=[0,1,2]then(aV 0 (.box [.d a1,.d a2,.d a3]::.box [.d x0,.sl 3 0 0 0,.sl 4 0 0 0]::.box [.d x1,.sl 5 1 0 k,.sl 6 0 0 z]::.arr [] 0 0::.arr [] 0 0::.vec (aC 7 d++[.sl (d.length+7) 1 0 r.length]) 1 1::.arr cs 1 0::(aI d++[.arr (ints r) 1 1])) (s1),.box [.d a1,.d a2,.d a3]::.box [.d x0,.sl 3 0 0 0,.sl 4 0 0 0]::.box [.d x1,.sl 5 0 0 k,.sl 6 0 0 z]::.arr [] 0 0::.arr [] 0 0::.vec (aC 7 d++[.sl (d.length+7) 0 0 r.length]) 1 0::.arr cs 1 0::(aI d++[.arr (ints r) 1 0]))else gcO 0 m s (.box [.d a1,.d a2,.d a3]::.box [.d x0,.sl 3 0 0 0,.sl 4 0 0 0]::.box [.d x1,.sl 5 1 0 k,.sl 6 0 0 z]::.arr [] 0 0::.arr [] 0 0::.vec (aC 7 d++[.sl (d.length+7) 1 0 r.length]) 1 1::.arr cs 1 0::(aI d++.arr (ints r) 1 1::p))
  |.no=>([],[]):=by
 simp only[box]
 split
 ·rename_i hc
  have hb:=hc;have hids:idsL (tidy m s)=[0,1,2]:=by exact hb
  obtain⟨h,hh⟩:∃h:H,O.box [.d a1,.d a2,.d a3]::.box [.d x0,.sl 3 0 0 0,.sl 4 0 0 0]::.box [.d x1,.sl 5 1 0 k,.sl 6 0 0 z]::.arr [] 0 0::.arr [] 0 0::.vec (aC 7 d++[.sl (d.length+7) 1 0 r.length]) 1 1::.arr cs 1 0::(aI d++.arr (ints r) 1 1::p)=h:=⟨_,rfl⟩
  conv=>lhs;rw[hh]
  have g0:h[0]? =some (.box [.d a1,.d a2,.d a3]):=by rw[<-hh];rfl
  have g1:h[1]? =some (.box [.d x0,.sl 3 0 0 0,.sl 4 0 0 0]):=by rw[<-hh];rfl
  have g2:h[2]? =some (.box [.d x1,.sl 5 1 0 k,.sl 6 0 0 z]):=by rw[<-hh];rfl
  have g3:h[3]? =some (.arr [] 0 0):=by rw[<-hh];rfl
  have g4:h[4]? =some (.arr [] 0 0):=by rw[<-hh];rfl
  have g5:h[5]? =some (.vec (aC 7 d++[.sl (d.length+7) 1 0 r.length]) 1 1):=by rw[<-hh];rfl
  have g6:h[6]? =some (.arr cs 1 0):=by rw[<-hh];rfl
  have hD:h.drop 7=aI d++(.arr (ints r) 1 1::p):=by rw[<-hh];rfl
  have gr:=iX 7 hD;have ge0:h[d.length+7]? =some (.arr (ints r) 1 1):=wN 7 0 hD rfl (by omega);have k0:kids h (0)=[]:=by simp[kids,g0,idsL,idsA]
  have k1:kids h (1)=[3,4]:=by simp[kids,g1,idsL,idsA]
  have k2:kids h (2)=[5,6]:=by simp[kids,g2,idsL,idsA]
  have k3:kids h (3)=[]:=bO g3;have k4:kids h (4)=[]:=bO g4;have k5:kids h (5)=List.range' 7 d.length++[d.length+7]:=by simp[kids,g5,bM,bY,idsL,idsA]
  have leaf:=jP gr;have hr:aD aG h [0,1,2] []=[0,1,2,3,4,5]++([6]++(List.range' 7 d.length++[d.length+7])):=gJ (by simp[k0,k1,k2,k3,k4,k5]) (by intro q hq;simp only[Ad,Ac]at hq;have:q=0\/q=1\/q=2\/q=3\/q=4\/q=5:=(by omega);rcases this with rfl|rfl|rfl|rfl|rfl|rfl<;>simp[k0,k1,k2,k3,k4]) leaf (by intro i hi;simp at hi;rcases hi with rfl|rfl<;>exact⟨_,_,_,by assumption⟩) (by intro i hi;simp at hi;rcases hi with rfl|rfl|rfl|rfl|rfl|rfl<;>exact⟨_,by assumption,by simp⟩) (by simp<;>omega) (by intro i hi;simp at hi;omega) (by simp only[aG,Ad,Ac];omega);generalize hord:[0,1,2,3,4,5]++([6]++(List.range' 7 d.length++[d.length+7]))=ord at hr;have hA:ord=([0,1,2,3,4,5]++[6])++(List.range' 7 d.length++[d.length+7]):=by rw[<-hord,Ao]
  have pk:∀i j,ord[j]? =some i->aH ord i=some j:=fun i j h1=>dW (by rw[<-hr];exact bW aG h _ [] (by simp)) h1;have p0:=pk (0) 0 (by rw[<-hord];rfl);have p1:=pk (1) 1 (by rw[<-hord];rfl);have p2:=pk (2) 2 (by rw[<-hord];rfl);have p3:=pk (3) 3 (by rw[<-hord];rfl);have p4:=pk (4) 4 (by rw[<-hord];rfl);have p5:=pk (5) 5 (by rw[<-hord];rfl);have p6:=pk (6) 6 (by rw[<-hord];rfl);have pr:=jN (C:=7) pk hA rfl;have pe0:=U3 (C:=7) pk hA rfl 0 (i:=d.length+7) (j:=d.length+7) rfl (by omega);obtain⟨K,hK⟩:∃K:H,O.box [.d a1,.d a2,.d a3]::.box [.d x0,.sl 3 0 0 0,.sl 4 0 0 0]::.box [.d x1,.sl 5 1 0 k,.sl 6 0 0 z]::.arr [] 0 0::.arr [] 0 0::.vec (aC 7 d++[.sl (d.length+7) 1 0 r.length]) 1 1::.arr cs 1 0::(aI d++[.arr (ints r) 1 1])=K:=⟨_,rfl⟩
  have hni:∀f,aE f (aF 0)=aF 0:=fun _=>rfl
  have hpk:pack h ord=K:=by
   have hrf:aE (aH ord) (aC 7 d)=aC 7 d:=fF (c:=0) pr;rw[lC hA gr,<-hK];simp only[Av,Am,Ai,Ap,Aa,g0,g1,g2,g3,g4,g5,g6,ge0,Bb,mapO,aE,mapA,c9,hrf,p3,p4,p5,p6,pe0]
  have hKD:K.drop 7=aI d++[.arr (ints r) 1 1]:=by rw[<-hK];rfl
  have hgr:=nU hKD;have hge0:a8 K (d.length+7)=some 1:=by simp only[a8,wN 7 0 hKD rfl (j:=d.length+7) (by omega)]
  have hcm:cO 0 K=.box [.d a1,.d a2,.d a3]::.box [.d x0,.sl 3 0 0 0,.sl 4 0 0 0]::.box [.d x1,.sl 5 0 0 k,.sl 6 0 0 z]::.arr [] 0 0::.arr [] 0 0::.vec (aC 7 d++[.sl (d.length+7) 0 0 r.length]) 1 0::.arr cs 1 0::(aI d++[.arr (ints r) 1 0]):=by
   have hrf:aV 0 K (aC 7 d)=aC 7 d:=fT hgr;have hnc:∀h:H,aV 0 h (aF 0)=aF 0:=fun _=>rfl;have q3:a8 K 3=some 0:=by rw[<-hK];rfl
   have q4:a8 K 4=some 0:=by rw[<-hK];rfl
   have q5:a8 K 5=some 1:=by rw[<-hK];rfl
   have q6:a8 K 6=some 0:=by rw[<-hK];rfl
   unfold cO;rw[fW]
   conv=>lhs;arg 2;rw[<-hK]
   simp only[Ai,Dl,Ap,bZ,aV,bL,hY,eU,hrf,gT,q3,q4,q5,q6,hge0,Bw,if_false,if_true]
  subst hK;rw[PQ (ord:=ord) (by rw[hids];exact hr),hpk,hcm]
  have hmp:aE (aH ord) (tidy m s)=tidy m s:=by
   apply fU;rw[hids];intro i hi;simp only[Au,Bo,or_false]at hi
   rcases hi with rfl|rfl|rfl
   ·exact p0
   ·exact p1
   ·exact p2
  rw[hmp]
 ·rfl
theorem aUJ{m:List Bool}{s:List A}{a1 a2 a3 x0 x1:D}{k z:Nat}{cs:List D}{d:List (List Int)}(hl:d.length<=4294967296):gc 0 m s (.box [.d a1,.d a2,.d a3]::.box [.d x0,.sl 3 0 0 0,.sl 4 0 0 0]::.box [.d x1,.sl 5 0 0 k,.sl 6 0 0 z]::.arr [] 0 0::.arr [] 0 0::.vec (aC 7 d++aF 0) 1 0::.arr cs 1 0::aI d)=match box (tidy m s)with
  |.mk s1=>if idsL s1=[0,1,2]then(aV 0 (.box [.d a1,.d a2,.d a3]::.box [.d x0,.sl 3 0 0 0,.sl 4 0 0 0]::.box [.d x1,.sl 5 0 0 k,.sl 6 0 0 z]::.arr [] 0 0::.arr [] 0 0::.vec (aC 7 d++aF 0) 1 0::.arr cs 1 0::aI d) (s1),.box [.d a1,.d a2,.d a3]::.box [.d x0,.sl 3 0 0 0,.sl 4 0 0 0]::.box [.d x1,.sl 5 0 0 k,.sl 6 0 0 z]::.arr [] 0 0::.arr [] 0 0::.vec (aC 7 d++aF 0) 1 0::.arr cs 1 0::aI d)else gcO 0 m s (.box [.d a1,.d a2,.d a3]::.box [.d x0,.sl 3 0 0 0,.sl 4 0 0 0]::.box [.d x1,.sl 5 0 0 k,.sl 6 0 0 z]::.arr [] 0 0::.arr [] 0 0::.vec (aC 7 d++aF 0) 1 0::.arr cs 1 0::aI d)
  |.no=>([],[]):=by
 simp only[box]
 split
 ·rename_i hc
  have hb:=hc;have hids:idsL (tidy m s)=[0,1,2]:=by exact hb
  obtain⟨h,hh⟩:∃h:H,O.box [.d a1,.d a2,.d a3]::.box [.d x0,.sl 3 0 0 0,.sl 4 0 0 0]::.box [.d x1,.sl 5 0 0 k,.sl 6 0 0 z]::.arr [] 0 0::.arr [] 0 0::.vec (aC 7 d++aF 0) 1 0::.arr cs 1 0::aI d=h:=⟨_,rfl⟩
  conv=>lhs;rw[hh]
  have g0:h[0]? =some (.box [.d a1,.d a2,.d a3]):=by rw[<-hh];rfl
  have g1:h[1]? =some (.box [.d x0,.sl 3 0 0 0,.sl 4 0 0 0]):=by rw[<-hh];rfl
  have g2:h[2]? =some (.box [.d x1,.sl 5 0 0 k,.sl 6 0 0 z]):=by rw[<-hh];rfl
  have g3:h[3]? =some (.arr [] 0 0):=by rw[<-hh];rfl
  have g4:h[4]? =some (.arr [] 0 0):=by rw[<-hh];rfl
  have g5:h[5]? =some (.vec (aC 7 d++aF 0) 1 0):=by rw[<-hh];rfl
  have g6:h[6]? =some (.arr cs 1 0):=by rw[<-hh];rfl
  have hD:h.drop 7=aI d++[]:=by rw[<-hh];exact(Ah _).symm
  have gr:=iX 7 hD;have k0:kids h (0)=[]:=by simp[kids,g0,idsL,idsA]
  have k1:kids h (1)=[3,4]:=by simp[kids,g1,idsL,idsA]
  have k2:kids h (2)=[5,6]:=by simp[kids,g2,idsL,idsA]
  have k3:kids h (3)=[]:=bO g3;have k4:kids h (4)=[]:=bO g4;have k5:kids h (5)=List.range' 7 d.length:=by simp[kids,g5,bM,bY,dM]
  have leaf:=jP gr;have hr:aD aG h [0,1,2] []=[0,1,2,3,4,5]++([6]++(List.range' 7 d.length++[])):=gJ (by simp[k0,k1,k2,k3,k4,k5]) (by intro q hq;simp only[Ad,Ac]at hq;have:q=0\/q=1\/q=2\/q=3\/q=4\/q=5:=(by omega);rcases this with rfl|rfl|rfl|rfl|rfl|rfl<;>simp[k0,k1,k2,k3,k4]) leaf (by intro i hi;simp at hi;subst hi;exact⟨_,_,_,by assumption⟩) (by intro i hi;simp at hi;rcases hi with rfl|rfl|rfl|rfl|rfl|rfl<;>exact⟨_,by assumption,by simp⟩) (by simp<;>omega) (by intro i hi;simp at hi;omega) (by simp only[aG,Ad,Ac];omega);generalize hord:[0,1,2,3,4,5]++([6]++(List.range' 7 d.length++[]))=ord at hr;have hA:ord=([0,1,2,3,4,5]++[6])++(List.range' 7 d.length++[]):=by rw[<-hord,Ao]
  have pk:∀i j,ord[j]? =some i->aH ord i=some j:=fun i j h1=>dW (by rw[<-hr];exact bW aG h _ [] (by simp)) h1;have p0:=pk (0) 0 (by rw[<-hord];rfl);have p1:=pk (1) 1 (by rw[<-hord];rfl);have p2:=pk (2) 2 (by rw[<-hord];rfl);have p3:=pk (3) 3 (by rw[<-hord];rfl);have p4:=pk (4) 4 (by rw[<-hord];rfl);have p5:=pk (5) 5 (by rw[<-hord];rfl);have p6:=pk (6) 6 (by rw[<-hord];rfl);have pr:=jN (C:=7) pk hA rfl;obtain⟨K,hK⟩:∃K:H,O.box [.d a1,.d a2,.d a3]::.box [.d x0,.sl 3 0 0 0,.sl 4 0 0 0]::.box [.d x1,.sl 5 0 0 k,.sl 6 0 0 z]::.arr [] 0 0::.arr [] 0 0::.vec (aC 7 d++aF 0) 1 0::.arr cs 1 0::aI d=K:=⟨_,rfl⟩
  have hni:∀f,aE f (aF 0)=aF 0:=fun _=>rfl
  have hpk:pack h ord=K:=by
   have hrf:aE (aH ord) (aC 7 d)=aC 7 d:=fF (c:=0) pr;rw[lC hA gr,<-hK];simp only[Av,Am,Ai,Ap,Aa,g0,g1,g2,g3,g4,g5,g6,Bb,mapO,aE,mapA,c9,hrf,hni,p3,p4,p5,p6,Ah]
  have hKD:K.drop 7=aI d++[]:=by rw[<-hK];exact(Ah _).symm
  have hgr:=nU hKD
  have hcm:cO 0 K=.box [.d a1,.d a2,.d a3]::.box [.d x0,.sl 3 0 0 0,.sl 4 0 0 0]::.box [.d x1,.sl 5 0 0 k,.sl 6 0 0 z]::.arr [] 0 0::.arr [] 0 0::.vec (aC 7 d++aF 0) 1 0::.arr cs 1 0::aI d:=by
   have hrf:aV 0 K (aC 7 d)=aC 7 d:=fT hgr;have hnc:∀h:H,aV 0 h (aF 0)=aF 0:=fun _=>rfl;have q3:a8 K 3=some 0:=by rw[<-hK];rfl
   have q4:a8 K 4=some 0:=by rw[<-hK];rfl
   have q5:a8 K 5=some 0:=by rw[<-hK];rfl
   have q6:a8 K 6=some 0:=by rw[<-hK];rfl
   unfold cO;rw[fW]
   conv=>lhs;arg 2;rw[<-hK]
   simp only[Ai,bZ,aV,bL,hY,eU,hrf,hnc,gT,q3,q4,q5,q6,Bw,if_false,if_true]
  subst hK;rw[PQ (ord:=ord) (by rw[hids];exact hr),hpk,hcm]
  have hmp:aE (aH ord) (tidy m s)=tidy m s:=by
   apply fU;rw[hids];intro i hi;simp only[Au,Bo,or_false]at hi
   rcases hi with rfl|rfl|rfl
   ·exact p0
   ·exact p1
   ·exact p2
  rw[hmp]
 ·rfl
def V5(n:Nat):List Nat:=[5,6]++(List.range' 7 n++[])
def F6(n i:Nat):Option Nat:=if i=5 then some 0 else if i=6 then some 1 else none
theorem aEH{n:Nat}:F6 n 5=some (0):=by unfold F6;repeat (first|rfl|rw[if_pos rfl]|rw[if_neg (by omega)])
theorem aFE{n:Nat}:F6 n 6=some (1):=by unfold F6;repeat (first|rfl|rw[if_pos rfl]|rw[if_neg (by omega)])
theorem aQR{o0 x0 x1:O}{o3 o4:O}{cs:List D}{d:List (List Int)}(hl:d.length<=4294967296){ids:List Nat}:dR 0 (o0::x0::x1::o3::o4::.vec (aC 7 d++aF 0) 1 0::.arr cs 1 0::aI d) ids=if ids=[5,6]then V5 d.length else aRM 0 (o0::x0::x1::o3::o4::.vec (aC 7 d++aF 0) 1 0::.arr cs 1 0::aI d) ids:=by
 split
 ·rename_i hc
  subst hc;obtain⟨h,hh⟩:∃h:H,o0::x0::x1::o3::o4::.vec (aC 7 d++aF 0) 1 0::.arr cs 1 0::aI d=h:=⟨_,rfl⟩
  conv=>lhs;rw[hh]
  have g5:h[5]? =some (.vec (aC 7 d++aF 0) 1 0):=by rw[<-hh];rfl
  have g6:h[6]? =some (.arr cs 1 0):=by rw[<-hh];rfl
  have hD:h.drop 7=aI d++[]:=by rw[<-hh];exact(Ah _).symm
  have gr:=iX 7 hD;have k5:kids h (5)=List.range' 7 d.length:=by simp[kids,g5,bM,bY,dM]
  have leaf:=jP gr;have hr:aD aG h [5,6] []=[5]++([6]++(List.range' 7 d.length++[])):=gJ (by simp[k5]) (by intro q hq;simp only[Ad,Ac]at hq;have:q=0:=(by omega);rcases this with rfl<;>simp[]) leaf (by intro i hi;simp at hi;subst hi;exact⟨_,_,_,by assumption⟩) (by intro i hi;simp at hi;subst hi;exact⟨_,by assumption,by simp⟩) (by simp<;>omega) (by intro i hi;simp at hi;omega) (by simp only[aG,Ad,Ac];omega);generalize hord:[5]++([6]++(List.range' 7 d.length++[]))=ord at hr;rw[zG];unfold aG at hr;rw[hr,<-hord];rfl
 ·rfl
theorem aRa{o0 x0 x1:O}{o3 o4:O}{cs:List D}{d:List (List Int)}(hl:d.length<=4294967296){s:List A}:trim 0 (o0::x0::x1::o3::o4::.vec (aC 7 d++aF 0) 1 0::.arr cs 1 0::aI d) (V5 d.length) s=if idsL s=[5,6]/\z0As s=true then(aE (F6 d.length) s,.vec (aC 2 d++aF 0) 1 0::.arr cs 1 0::aI d)else aRH 0 (o0::x0::x1::o3::o4::.vec (aC 7 d++aF 0) 1 0::.arr cs 1 0::aI d) (V5 d.length) s:=by
 split
 ·rename_i hc
  obtain⟨hids,hz⟩:=hc;obtain⟨h,hh⟩:∃h:H,o0::x0::x1::o3::o4::.vec (aC 7 d++aF 0) 1 0::.arr cs 1 0::aI d=h:=⟨_,rfl⟩
  conv=>lhs;rw[hh]
  have g5:h[5]? =some (.vec (aC 7 d++aF 0) 1 0):=by rw[<-hh];rfl
  have g6:h[6]? =some (.arr cs 1 0):=by rw[<-hh];rfl
  have hD:h.drop 7=aI d++[]:=by rw[<-hh];exact(Ah _).symm
  have gr:=iX 7 hD;have k5:kids h (5)=List.range' 7 d.length:=by simp[kids,g5,bM,bY,dM]
  have leaf:=jP gr;have hr:aD aG h [5,6] []=[5]++([6]++(List.range' 7 d.length++[])):=gJ (by simp[k5]) (by intro q hq;simp only[Ad,Ac]at hq;have:q=0:=(by omega);rcases this with rfl<;>simp[]) leaf (by intro i hi;simp at hi;subst hi;exact⟨_,_,_,by assumption⟩) (by intro i hi;simp at hi;subst hi;exact⟨_,by assumption,by simp⟩) (by simp<;>omega) (by intro i hi;simp at hi;omega) (by simp only[aG,Ad,Ac];omega);generalize hord:[5]++([6]++(List.range' 7 d.length++[]))=ord at hr;have hA:ord=([5]++[6])++(List.range' 7 d.length++[]):=by rw[<-hord,Ao]
  have pk:∀i j,ord[j]? =some i->aH ord i=some j:=fun i j h1=>dW (by rw[<-hr];exact bW aG h _ [] (by simp)) h1;have p5:=pk (5) 0 (by rw[<-hord];rfl);have p6:=pk (6) 1 (by rw[<-hord];rfl);have pr:=jN (C:=2) pk hA rfl;obtain⟨K,hK⟩:∃K:H,O.vec (aC 2 d++aF 0) 1 0::.arr cs 1 0::aI d=K:=⟨_,rfl⟩
  have hni:∀f,aE f (aF 0)=aF 0:=fun _=>rfl
  have hpk:pack h ord=K:=by
   have hrf:aE (aH ord) (aC 7 d)=aC 2 d:=fF (c:=0) pr;rw[lC hA gr,<-hK];simp only[Av,Am,Ai,Ap,Aa,g5,g6,Bb,mapO,c9,hrf,hni,Ah]
  have hKD:K.drop 2=aI d++[]:=by rw[<-hK];exact(Ah _).symm
  have hgr:=nU hKD
  have hcm:cO 0 K=.vec (aC 2 d++aF 0) 1 0::.arr cs 1 0::aI d:=by
   have hrf:aV 0 K (aC 2 d)=aC 2 d:=fT hgr;have hnc:∀h:H,aV 0 h (aF 0)=aF 0:=fun _=>rfl;have q0:a8 K 0=some 0:=by rw[<-hK];rfl
   have q1:a8 K 1=some 0:=by rw[<-hK];rfl
   unfold cO;rw[fW]
   conv=>lhs;arg 2;rw[<-hK]
   simp only[Ai,bZ,eU,hrf,hnc,gT,Bw,if_false]
  subst hK;have hoo:V5 d.length=ord:=by rw[<-hord];rfl
  unfold trim;rw[hoo,hpk,hcm]
  have hz2:aV 0 (O.vec (aC 2 d++aF 0) 1 0::.arr cs 1 0::aI d) (aE (aH ord) s)=aE (aH ord) s:=by
   exact kQ (HM (by simp[z0O,BF,wL,wV,G3])) _ (x9 _ hz)
  have hmp:aE (aH ord) s=aE (F6 d.length) s:=by
   apply kV;rw[hids];intro i hi;simp only[Au,Bo,or_false]at hi
   rcases hi with rfl|rfl
   ·rw[p5,aEH]
   ·rw[p6,aFE]
  rw[hz2,hmp]
 ·rfl


section
section
variable{h:H}{a b c d:O}
theorem aQ5:(h++[a,b,c])[h.length+1+1]? =some c:=by
 rw[Bh (by omega),show h.length+1+1-h.length=2 by omega];rfl
theorem aRb:(h++[a,b,c]).set (h.length+1+1) d=h++[a,b,d]:=by
 rw[Dp _ _ (by omega),show h.length+1+1-h.length=2 by omega];rfl
end
theorem aQY{a b:Foot}(ha:a.ro=true)(hb:b.ro=true):kS a b=false:=by
 unfold kS;rw[ha,hb];rfl
section
variable{L n:Nat}{h:H}{al:Int}{rs:List (List Int)}{ac:List Bool}
end
end
theorem FH{f:Nat->Option Nat}:∀(k:Nat) (cs:List A),(aE f cs).take k=aE f (cs.take k)
 |0,cs=>by simp[aE]
 |k+1,[]=>by simp[aE]
 |k+1,c::cs=>by simp only[aE,List.take_succ_cons,FH k cs]
theorem PO{f:Nat->Option Nat}:∀(k:Nat) (cs:List A),(aE f cs).drop k=aE f (cs.drop k)
 |0,cs=>rfl
 |k+1,[]=>by simp[aE]
 |k+1,c::cs=>by simp only[aE,Dh,PO k cs]
theorem aJl{h:H}{ord ids:List Nat}{id k:Nat}{o:O}(hc:closed h ord ids=true)(hn:ord.Nodup)(hl:∀i∈ord,i<h.length)(hk:aH ord id=some k):
  bG (fun(k:Nat)=>ord[k]?) h ord ((pack h ord).set k o)=h.set id (mapO (fun(k:Nat)=>ord[k]?) o):=by
 have hpl:(pack h ord).length=ord.length:=by simp[pack]
 have hid:=hl id (JY hk);apply Cm;intro i;rw[BU _ ord h _ i hn hl (by simp[pack])]
 cases hp:aH ord i with
 |none=>
  have hne:id≠i:=fun e=>by rw[e,hp]at hk;cases hk
  rw[Df hne];simp only[]
  split
  ·rfl
  ·rename_i hge
   rw[Ck (by simp[pack]),Ck (by omega)];rfl
 |some q=>
  simp only[]
  by_cases hqk:q=k
  ·subst hqk;have h1:=bE hp;have h2:=bE hk;rw[h1]at h2;obtain rfl:i=id:=Option.some.inj h2;rw[Dy (by rw[hpl];exact AK hp),Dy hid];rfl
  ·have hne:id≠i:=fun e=>by rw[e,hp]at hk;exact hqk (Option.some.inj hk)
   rw[Df (fun e=>hqk e.symm),Df hne];have hm:=JY hp;obtain⟨x,hx⟩:∃x,h[i]? =some x:=⟨h[i]'(hl i hm),Ae _⟩
   rw[iZ (bE hp) hx,hx,Ax,VZ hc hm hx]
theorem IB{E:Env}{call:aZ}{thaw:List Nat}{dst:Option Tmp}{op:Op}{h:H}{vs:List A}{a a2:A}{o o2:O}{id k:Nat}{ord:List Nat}(hord:aD aG h (idsL vs) []=ord)(hc:closed h ord (idsL vs)=true)(hk:aH ord id=some k)(hro:eE E op vs=false)
  (hev:evOp E call thaw (pack h ord) (eD dst op) (aE (aH ord) vs)=some (a,(pack h ord).set k o)) (ha:mapA (fun(k:Nat)=>ord[k]?) a=a2) (ho:mapO (fun(k:Nat)=>ord[k]?) o=o2):
  memD E call thaw dst op h vs=some (a2,h.set id o2,{ ids:=ord,ro:=false,wr:=wrOf E op vs ord}):=by
 have hn:ord.Nodup:=by rw[<-hord];exact bW aG h (idsL vs) [] (by simp)
 have hl:∀i∈ord,i<h.length:=by rw[<-hord];exact kG aG h (idsL vs) [] (by simp)
 have hpl:((pack h ord).set k o).length=ord.length:=by simp[pack]
 unfold memD;rw[hord];simp only[box,hev,hpl,Ab,hc,and_self,if_true,hro,Cy,Ak,if_false,aFH,Br];rw[aJl hc hn hl hk,ha,ho];simp
theorem SU{E:Env}{call:aZ}{thaw:List Nat}{dst:Option Tmp}{args:Array Operand}{t e:TypeId}{h:H}{id id2 g g2 len:Nat}{cs:List A}{c:A}(he:cY E.P t=some e)(hce:E.P.cellsOf e=1)(hel:eW E.P e=true)
  (h1:h[id]? =some (.vec cs 1 g)) (h2:h[id2]? =some (.vec [c] 1 g2)) (hlen:len<=cs.length) (hmax:len+1<=bK) (ok1:Okay h id) (ok2:Okay h id2) (hw:2+wgt h<=1099511627776):
  memD E call thaw dst (.call ⟨.builtin .append,args,#[t,t]⟩) h [.sl id g 0 len,.sl id2 g2 0 1]=some (.sl id (g+1) 0 (len+1),h.set id (.vec (cs.take len++[c]) 1 (g+1)),{ ids:=aD aG h [id,id2] [],ro:=false,wr:=[id]}):=by
 have hids:idsL [A.sl id g 0 len,A.sl id2 g2 0 1]=[id,id2]:=rfl;obtain⟨c1,c2,c3⟩:=TG (h:=h) (ids:=[id,id2]) (by intro i hi;simp at hi;rcases hi with rfl|rfl;exact ok1;exact ok2) (by simpa using hw);obtain⟨ord,hord⟩:∃ord,aD aG h [id,id2] []=ord:=⟨_,rfl⟩
 rw[hord]at c1 c2 c3;obtain⟨k,hk⟩:=cC (c2 id (by simp));obtain⟨k2,hk2⟩:=cC (c2 id2 (by simp));have p1:=iZ (h:=h) (bE hk) h1;have p2:=iZ (h:=h) (bE hk2) h2;have kid:∀i,i∈ord->∀q∈kids h i,∃j,aH ord q=some j:=fun i hi q hq=>cC (c3 i hi q hq)
 have bk:∀xs:List A,(∀i∈idsL xs,i∈ord)->aE (fun(k:Nat)=>ord[k]?) (aE (aH ord) xs)=xs:=by
  intro xs hx;rw[kZ (q:=fun i=>(aH ord i).bind fun k=>ord[k]?) (fun _=>rfl)];apply fU;intro i hi;obtain⟨j,hj⟩:=cC (hx i hi);simp only[hj,Ct];exact bE hj
 have hcs:∀i∈idsL cs,i∈ord:=by
  have:=c3 id (c2 id (by simp))
  simpa only[kids,h1]using this
 have hcc:∀i∈idsL [c],i∈ord:=by
  have:=c3 id2 (c2 id2 (by simp))
  simpa only[kids,h2]using this
 have hnew:∀i∈idsL (cs.take len++[c]),i∈ord:=by
  intro i hi;rw[bM,Al]at hi
  rcases hi with hi|hi
  ·refine hcs i ?_;have:=List.take_append_drop len cs;rw[<-this,bM,Al];exact .inl hi
  ·exact hcc i hi
 have hmt:(aE (aH ord) cs).take len=aE (aH ord) (cs.take len):=FH len cs;have key:=IB (E:=E) (call:=call) (thaw:=thaw) (dst:=dst) (op:=.call ⟨.builtin .append,args,#[t,t]⟩) (h:=h) (vs:=[A.sl id g 0 len,A.sl id2 g2 0 1]) (a:=.sl k (g+1) 0 (len+1)) (a2:=.sl id (g+1) 0 (len+1)) (o:=.vec (aE (aH ord) (cs.take len++[c])) 1 (g+1)) (o2:=.vec (cs.take len++[c]) 1 (g+1)) (id:=id) (k:=k) (ord:=ord) (by rw[hids];exact hord) (by rw[hids];exact c1) hk rfl ?_ (by simp only[mapA,bE hk]) (by simp only[mapO,bk _ hnew])
 ·rw[key,hord];rfl
 ·have hu:E.P.underlying t=some (.slice e):=by
   unfold cY at he
   split at he
   ·rename_i hq;cases he;exact hq
   ·cases he
  have hv:FE (pack h ord) k=true:=by simp only[FE,p1,mapO]
  have hs:gU (pack h ord) 1 (.sl k2 g2 0 1)=some (1,aE (aH ord) [c]):=by
   simp[gU,p2,mapO,aE]
  simp only[aE,mapA,hk,hk2,evOp,eD,dQ,b6,gQ,hv,if_true,oJ,he,hel,hce,hs,p1,mapO,true_and,or_true,Cc,C0,hlen,hmax,and_self,hmt,c9,hu]
theorem uB{E:Env}{call:aZ}{thaw:List Nat}{dst:Option Tmp}{x y:Operand}{t:TypeId}{h:H}{id id2 off g o len:Nat}{cs:List A}(ht:E.P.cellsOf t=1)(hi:(E.P.info? t).isSome=true)
  (h1:h[id]? =some (.box cs)) (hoff:off+1<=cs.length) (ok1:Okay h id) (ok2:Okay h id2) (hw:2+wgt h<=1099511627776):
  memD E call thaw dst (.store t x y) h [.ptr id 0 off,.sl id2 g o len]=some (.d .undef,h.set id (.box (bH cs off [.sl id2 g o len])),{ ids:=aD aG h [id,id2] [],ro:=false,wr:=aD aG h [id,id2] []}):=by
 have hids:idsL [A.ptr id 0 off,A.sl id2 g o len]=[id,id2]:=rfl;obtain⟨c1,c2,c3⟩:=TG (h:=h) (ids:=[id,id2]) (by intro i hi;simp at hi;rcases hi with rfl|rfl;exact ok1;exact ok2) (by simpa using hw);obtain⟨ord,hord⟩:∃ord,aD aG h [id,id2] []=ord:=⟨_,rfl⟩
 rw[hord]at c1 c2 c3|-;obtain⟨k,hk⟩:=cC (c2 id (by simp));obtain⟨k2,hk2⟩:=cC (c2 id2 (by simp));have p1:=iZ (h:=h) (bE hk) h1
 have bk:∀xs:List A,(∀i∈idsL xs,i∈ord)->aE (fun(k:Nat)=>ord[k]?) (aE (aH ord) xs)=xs:=by
  intro xs hx;rw[kZ (q:=fun i=>(aH ord i).bind fun k=>ord[k]?) (fun _=>rfl)];apply fU;intro i hi;obtain⟨j,hj⟩:=cC (hx i hi);simp only[hj,Ct];exact bE hj
 have hcs:∀i∈idsL cs,i∈ord:=by
  have:=c3 id (c2 id (by simp))
  simpa only[kids,h1]using this
 have split_cs:∀q:Nat,(∀i∈idsL (cs.take q),i∈ord)/\(∀i∈idsL (cs.drop q),i∈ord):=by
  intro q;have:=List.take_append_drop q cs
  constructor
  ·intro i hi;refine hcs i ?_;rw[<-this,bM,Al];exact .inl hi
  ·intro i hi;refine hcs i ?_;rw[<-this,bM,Al];exact .inr hi
 have hnew:∀i∈idsL (bH cs off [.sl id2 g o len]),i∈ord:=by
  intro i hi;unfold bH at hi;rw[bM,bM,Al,Al]at hi
  rcases hi with(hi|hi)|hi
  ·exact(split_cs _).1 i hi
  ·simp[idsL,idsA]at hi;subst hi;exact c2 i (by simp)
  ·exact(split_cs _).2 i hi
 have hmr:bH (aE (aH ord) cs) off [.sl k2 g o len]=aE (aH ord) (bH cs off [.sl id2 g o len]):=by
  unfold bH;rw[c9,c9,FH,PO];simp only[aE,mapA,hk2,Ad,Ac]
 have key:=IB (E:=E) (call:=call) (thaw:=thaw) (dst:=dst) (op:=.store t x y) (h:=h) (vs:=[A.ptr id 0 off,A.sl id2 g o len]) (a:=.d .undef) (a2:=.d .undef) (o:=.box (aE (aH ord) (bH cs off [.sl id2 g o len]))) (o2:=.box (bH cs off [.sl id2 g o len])) (id:=id) (k:=k) (ord:=ord) (by rw[hids];exact hord) (by rw[hids];exact c1) hk rfl ?_ (by simp only[mapA]) (by simp only[mapO,bk _ hnew])
 ·rw[key];rfl
 ·have hoff2:off+1<=(aE (aH ord) cs).length:=by rw[C0];exact hoff
  simp only[aE,mapA,hk,hk2,evOp,eD,two,j5,aX,Ad,Ac,Ag,ht,hi,Bs,Cb,bV,Bu,and_self,if_true,p1,mapO,hoff2,aW,hmr,Ax]
end Ev
end Go.Proofs.YthlkcebdfbjdoaaGreat
