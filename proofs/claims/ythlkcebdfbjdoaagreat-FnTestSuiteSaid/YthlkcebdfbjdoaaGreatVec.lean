/-
  Memory with rows: what is reached, in which order.
-/
import Derived.Test.YthlkcebdfbjdoaaGreatRead
set_option linter.unusedSimpArgs false
set_option linter.unusedVariables false
namespace Go.Proofs.YthlkcebdfbjdoaaGreat
namespace Ev
theorem aOI{h:H}{ids P T:List Nat}(hfix:P++T=ids++P.flatMap (kids h))(hT:∀i∈T,kids h i=[])(hprog:∀k,k<P.length->k<ids.length+((P.take k).flatMap (kids h)).length)(hnd:(P++T).Nodup)(hv:∀i∈P++T,∃o,h[i]? =some o/\o≠.void){n:Nat}(hf:(P++T).length<=n):aD n h ids []=P++T:=by
 generalize hL:P++T=L at *
 have hTf:T.flatMap (kids h)=[]:=by
  rw[List.flatMap_eq_nil_iff];exact hT
 have hLf:L.flatMap (kids h)=P.flatMap (kids h):=by rw[<-hL,List.flatMap_append,hTf,Ah]
 have fix:L=ids++L.flatMap (kids h):=by rw[hLf];exact hfix
 have prog:∀k,k<L.length->k<ids.length+((L.take k).flatMap (kids h)).length:=by
  intro k hk
  by_cases h1:k<P.length
  ·have:=hprog k h1;have e:L.take k=P.take k:=by rw[<-hL,List.take_append_of_le_length (by omega)]
   rw[e];exact this
  ·have e:(L.take k).flatMap (kids h)=P.flatMap (kids h):=by
    rw[<-hL,List.take_append,List.flatMap_append,Bz (by omega)]
    have:(T.take (k-P.length)).flatMap (kids h)=[]:=by
     rw[List.flatMap_eq_nil_iff];intro i hi;exact hT i (List.mem_of_mem_take hi)
    rw[this,Ah]
   rw[e];have:=congrArg List.length hfix;rw[Af]at this;omega
 have key:∀(n k:Nat),k<=L.length->L.length-k<=n->aD n h ((ids++(L.take k).flatMap (kids h)).drop k) (L.take k)=L:=by
  intro n
  induction n with
  |zero=>
   intro k hk hn;have:k=L.length:=by omega
   subst this;simp only[aD,Cr]
  |succ n ih=>
   intro k hk hn
   by_cases hkl:k=L.length
   ·subst hkl;rw[Cr,<-fix,Ca];simp only[aD]
   ·have hk':k<L.length:=by omega
    have hp:=prog k hk';have hX:k<(ids++(L.take k).flatMap (kids h)).length:=by rw[Af];exact hp
    have hget:(ids++(L.take k).flatMap (kids h))[k]'hX=L[k]:=by
     have e:L=(ids++(L.take k).flatMap (kids h))++(L.drop k).flatMap (kids h):=by
      rw[Ao,<-List.flatMap_append,List.take_append_drop];exact fix
     have e2:L[k]? =(ids++(L.take k).flatMap (kids h))[k]?:=by
      conv=>lhs;rw[e]
      rw[Ba hX]
     rw[Ae hk',Ae hX]at e2;exact(Option.some.inj e2).symm
    rw[Dq hX,hget];obtain⟨o,ho,hov⟩:=hv L[k] (Az hk')
    have hni:L[k]∉L.take k:=by
     intro hm;obtain⟨j,hj,he⟩:=Cl hm;rw[Bt]at hj;rw[List.getElem_take]at he;exact(List.pairwise_iff_getElem.1 hnd) j k (by omega) hk' (by omega) he
    have hc:(L.take k).contains L[k]=false:=by simpa using hni
    have hstep:aD (n+1) h (L[k]::(ids++(L.take k).flatMap (kids h)).drop (k+1)) (L.take k)=aD n h ((ids++(L.take k).flatMap (kids h)).drop (k+1)++kids h L[k]) (L.take k++[L[k]]):=by
     simp only[aD,hc,Ak,if_false,ho,kids]
     cases o<;>first|rfl|(simp;done)|exact absurd rfl hov
    rw[hstep];have ht:L.take (k+1)=L.take k++[L[k]]:=by rw[List.take_add_one,Ae hk'];rfl
    have hd:(ids++(L.take k).flatMap (kids h)).drop (k+1)++kids h L[k]=(ids++(L.take (k+1)).flatMap (kids h)).drop (k+1):=by
     rw[ht,List.flatMap_append,List.flatMap_singleton,<-Ao];exact(List.drop_append_of_le_length hX).symm
    rw[hd,<-ht];exact ih (k+1) (by omega) (by omega)
 have:=key n 0 (by omega) (by omega)
 simpa using this
def aC(b:Nat):List (List Int)->List A
 | []=>[]
 |r::rs=>.sl b 0 0 r.length::aC (b+1) rs
def aI(rs:List (List Int)):H:=rs.map fun r=>.arr (r.map (.int .i64)) 1 0
theorem bY:∀(rs:List (List Int)) (b:Nat),idsL (aC b rs)=List.range' b rs.length
 | [],b=>by simp[aC,idsL]
 |r::rs,b=>by simp[aC,idsL,idsA,bY rs,Do]
theorem gR:∀(rs:List (List Int)) (b:Nat),(aC b rs).length=rs.length
 | [],b=>rfl
 |r::rs,b=>by simp[aC,gR rs]
theorem FP:∀(rs:List (List Int)) (b:Nat) (r:List Int),aC b (rs++[r])=aC b rs++[.sl (b+rs.length) 0 0 r.length]
 | [],b,r=>by simp[aC]
 |q::rs,b,r=>by
  simp only[Av,aC,FP rs,Ad];rw[show b+1+rs.length=b+(rs.length+1) by omega]
theorem aLl(rs:List (List Int))(r:List Int):aI rs++[.arr (r.map (.int .i64)) 1 0]=aI (rs++[r]):=by simp[aI]
theorem cJ(rs:List (List Int)):(aI rs).length=rs.length:=by simp[aI]
theorem S2{rs:List (List Int)}{i:Nat}{r:List Int}(h:rs[i]? =some r):(aI rs)[i]? =some (.arr (r.map (.int .i64)) 1 0):=by simp[aI,h]
theorem fF{f:Nat->Option Nat}{c:Nat}:∀ {rs:List (List Int)} {b d:Nat},(∀i,i<rs.length->f (b+i)=some (d+i))->aE f (aC b rs)=aC d rs
 | [],b,d,_=>by simp[aC,aE]
 |r::rs,b,d,h=>by
  have h0:=h 0 (by simp);simp only[Bp]at h0;simp only[aC,aE,mapA,h0]
  rw[fF (c:=c) (rs:=rs) (b:=b+1) (d:=d+1) fun i hi=>by
   have:=h (i+1) (by simp;omega);rw[show b+1+i=b+(i+1) by omega,this]
   congr 1;omega]
theorem aIV(f:Nat->Option Nat)(rs:List (List Int)):(aI rs).map (mapO f)=aI rs:=by
 simp only[aI,List.map_map];rfl
theorem aFW{h:H}{f:Nat->Option Nat}:∀ {rs:List (List Int)} {b:Nat},(∀i r,rs[i]? =some r->h[b+i]? =some (.arr (r.map (.int .i64)) 1 0))->(List.range' b rs.length).map (fun i=>mapO f (h.getD i default))=aI rs
 | [],b,_=>by simp[aI]
 |r::rs,b,hh=>by
  have h0:=hh 0 r rfl;simp only[Bp]at h0;simp only[Ad,Do,Ai,Aa,h0,Bb]
  have:=aFW (h:=h) (f:=f) (rs:=rs) (b:=b+1) fun i q hq=>by
   rw[show b+1+i=b+(i+1) by omega];exact hh (i+1) q (by simpa using hq)
  simp only[Aa]at this;rw[this];rfl
mutual
theorem aRg{f:Nat->Option Nat}:∀a:A,(∀i∈idsA a,f i=some i)->mapA f a=a
 |.d x,_=>by simp only[mapA]
 |.sl id gen off len,h=>by simp only[mapA,h id (by simp[idsA])]
 |.ptr id gen off,h=>by simp only[mapA,h id (by simp[idsA])]
 |.mp id,h=>by simp only[mapA,h id (by simp[idsA])]
 |.clo g caps,h=>by simp only[mapA];rw[fU caps (by simpa only[idsA]using h)]
 |.agg cs,h=>by simp only[mapA];rw[fU cs (by simpa only[idsA]using h)]
 |.tup cs,h=>by simp only[mapA];rw[fU cs (by simpa only[idsA]using h)]
 |.junk,_=>by simp only[mapA]
theorem fU{f:Nat->Option Nat}:∀as:List A,(∀i∈idsL as,f i=some i)->aE f as=as
 | [],_=>by simp only[aE]
 |a::as,h=>by
  simp only[idsL,Al]at h;simp only[aE];rw[aRg a fun i hi=>h i (.inl hi),fU as fun i hi=>h i (.inr hi)]
end
mutual
def z0A:A->Bool
 |.sl _ g _ _=>g==0
 |.ptr _ g _=>g==0
 |.mp _=>true
 |.clo _ caps=>z0As caps
 |.agg cs=>z0As cs
 |.tup cs=>z0As cs
 |.d _=>true
 |.junk=>true
def z0As:List A->Bool
 | []=>true
 |a::as=>z0A a&&z0As as
end
mutual
theorem aM2{nf:Nat}{h:H}(hg:∀i g,a8 h i=some g->g=0):∀a:A,z0A a=true->bL nf h a=a
 |.d x,_=>by simp only[bL]
 |.sl id gen off len,hz=>by
  simp only[z0A,beq_iff_eq]at hz;subst hz;simp only[bL,hY]
  split
  ·rfl
  ·cases hgo:a8 h id with
   |none=>rfl
   |some g=>have:=hg id g hgo;subst this;simp
 |.ptr id gen off,hz=>by
  simp only[z0A,beq_iff_eq]at hz;subst hz;simp only[bL,H9]
  split
  ·rfl
  ·cases hgo:a8 h id with
   |none=>rfl
   |some g=>have:=hg id g hgo;subst this;simp
 |.mp id,hz=>by simp only[bL]
 |.clo g caps,hz=>by simp only[bL];rw[kQ hg caps (by simpa only[z0A]using hz)]
 |.agg cs,hz=>by simp only[bL];rw[kQ hg cs (by simpa only[z0A]using hz)]
 |.tup cs,hz=>by simp only[bL];rw[kQ hg cs (by simpa only[z0A]using hz)]
 |.junk,_=>by simp only[bL]
theorem kQ{nf:Nat}{h:H}(hg:∀i g,a8 h i=some g->g=0):∀as:List A,z0As as=true->aV nf h as=as
 | [],_=>by simp only[aV]
 |a::as,hz=>by
  simp only[z0As,Ar]at hz;simp only[aV];rw[aM2 hg a hz.1,kQ hg as hz.2]
end
def z0O:O->Bool
 |.arr _ _ g=>g==0
 |.box cs=>z0As cs
 |.ice _ _ g=>g==0
 |.vec cs _ g=>g==0&&z0As cs
 |.log _=>true
 |.mp _=>true
 |.void=>true
theorem HM{h:H}(hz:h.all z0O=true):∀i g,a8 h i=some g->g=0:=by
 intro i g hg;unfold a8 at hg
 cases ho:h[i]? with
 |none=>rw[ho]at hg;cases hg
 |some o=>
  have:=Bf.1 hz o (Bj ho);rw[ho]at hg
  cases o with
  |arr cs e g'=>simp only[Option.some.injEq]at hg;subst hg;simpa [z0O]using this
  |ice cs e g'=>simp only[Option.some.injEq]at hg;subst hg;simpa [z0O]using this
  |vec cs e g'=>simp only[Option.some.injEq]at hg;subst hg;simp only[z0O,Ar,beq_iff_eq]at this;exact this.1
  |_=>cases hg
theorem BF:∀(as bs:List A),z0As (as++bs)=(z0As as&&z0As bs)
 | [],bs=>by simp[z0As]
 |a::as,bs=>by simp[z0As,BF as bs,Bool.and_assoc]
theorem wL:∀(rs:List (List Int)) (b:Nat),z0As (aC b rs)=true
 | [],b=>by simp[aC,z0As]
 |r::rs,b=>by simp[aC,z0As,z0A,wL rs]
theorem G3(rs:List (List Int)):(aI rs).all z0O=true:=by simp[aI,z0O]
def gcO(nf:Nat)(m:List Bool)(s:List A)(h:H):List A×H:=gc nf m s h
def aRH(nf:Nat)(h:H)(ord:List Nat)(s:List A):List A×H:=trim nf h ord s
def aF(q:Nat):List A:=List.replicate q (.d .nils)
theorem aCq(q:Nat):aF (q+1)=.d .nils::aF q:=rfl
theorem aMv(q:Nat):(aF q).length=q:=by simp[aF]
theorem dM:∀q:Nat,idsL (aF q)=[]
 |0=>by simp[aF,idsL]
 |q+1=>by rw[aCq];simp[idsL,idsA,dM q]
theorem wV:∀q:Nat,z0As (aF q)=true
 |0=>by simp[aF,z0As]
 |q+1=>by rw[aCq];simp[z0As,z0A,wV q]
section
variable{rs:List (List Int)}{q:Nat}
def aRM(nf:Nat)(h:H)(ids:List Nat):List Nat:=dR nf h ids
end
end Ev
end Go.Proofs.YthlkcebdfbjdoaaGreat
