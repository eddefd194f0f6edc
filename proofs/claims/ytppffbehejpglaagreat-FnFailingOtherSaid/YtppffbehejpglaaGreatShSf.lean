/-
  Memory with rows: what is reached, in which order.
-/
import Derived.Test.YtppffbehejpglaaGreatRead
import Derived.Test.YtppffbehejpglaaGreatShlx
set_option linter.unusedSimpArgs false
set_option linter.unusedVariables false
set_option linter.unusedSectionVars false
set_option maxRecDepth 8000
set_option maxHeartbeats 4000000
namespace Go.Proofs.YtppffbehejpglaaGreat
namespace Ev
section
theorem aPU{h:H}{ids P T:List Nat}(hfix:P++T=ids++P.flatMap (kids h))(hT:∀i∈T,kids h i=[])(hprog:∀k,k<P.length->k<ids.length+((P.take k).flatMap (kids h)).length)(hnd:(P++T).Nodup)(hv:∀i∈P++T,∃o,h[i]? =some o/\o≠.void){n:Nat}(hf:(P++T).length<=n):aE n h ids []=P++T:=by
 generalize hL:P++T=L at *
 have hTf:T.flatMap (kids h)=[]:=by
  rw[List.flatMap_eq_nil_iff];exact hT
 have hLf:L.flatMap (kids h)=P.flatMap (kids h):=by rw[<-hL,List.flatMap_append,hTf,Aj]
 have fix:L=ids++L.flatMap (kids h):=by rw[hLf];exact hfix
 have prog:∀k,k<L.length->k<ids.length+((L.take k).flatMap (kids h)).length:=by
  intro k hk
  by_cases h1:k<P.length
  ·have:=hprog k h1;have e:L.take k=P.take k:=by rw[<-hL,List.take_append_of_le_length om]
   rw[e];exact this
  ·have e:(L.take k).flatMap (kids h)=P.flatMap (kids h):=by
    rw[<-hL,List.take_append,List.flatMap_append,Ce om]
    have:(T.take (k-P.length)).flatMap (kids h)=[]:=by
     rw[List.flatMap_eq_nil_iff];intro i hi;exact hT i (List.mem_of_mem_take hi)
    rw[this,Aj]
   rw[e];have:=congrArg List.length hfix;rw[Af]at this;omega
 have key:∀(n k:Nat),k<=L.length->L.length-k<=n->aE n h ((ids++(L.take k).flatMap (kids h)).drop k) (L.take k)=L:=by
  intro n
  induction n with
  |zero=>
   intro k hk hn;have:k=L.length:=om;subst this;simp only[aE,Cv]
  |succ n ih=>
   intro k hk hn
   by_cases hkl:k=L.length
   ·subst hkl;rw[Cv,<-fix,Bw];simp only[aE]
   ·have hk':k<L.length:=om;have hp:=prog k hk';have hX:k<(ids++(L.take k).flatMap (kids h)).length:=by rw[Af];exact hp
    have hget:(ids++(L.take k).flatMap (kids h))[k]'hX=L[k]:=by
     have e:L=(ids++(L.take k).flatMap (kids h))++(L.drop k).flatMap (kids h):=by
      rw[Al,<-List.flatMap_append,List.take_append_drop];exact fix
     have e2:L[k]? =(ids++(L.take k).flatMap (kids h))[k]?:=by
      conv=>lhs;rw[e]
      rw[Bc hX]
     rw[Ad hk',Ad hX]at e2;exact(Option.some.inj e2).symm
    rw[Df hX,hget];obtain⟨o,ho,hov⟩:=hv L[k] (At hk')
    have hni:L[k]∉L.take k:=by
     intro hm;obtain⟨j,hj,he⟩:=Cb hm;rw[Bk]at hj;rw[List.getElem_take]at he;exact(List.pairwise_iff_getElem.1 hnd) j k om hk' om he
    have hc:(L.take k).contains L[k]=false:=by simpa using hni
    have hstep:aE (n+1) h (L[k]::(ids++(L.take k).flatMap (kids h)).drop (k+1)) (L.take k)=aE n h ((ids++(L.take k).flatMap (kids h)).drop (k+1)++kids h L[k]) (L.take k++[L[k]]):=by
     simp only[aE,hc,Ak,if_false,ho,kids]
     cases o<;>first|rfl|(simp;done)|exact absurd rfl hov
    rw[hstep];have ht:L.take (k+1)=L.take k++[L[k]]:=by rw[De,Ad hk'];rfl
    have hd:(ids++(L.take k).flatMap (kids h)).drop (k+1)++kids h L[k]=(ids++(L.take (k+1)).flatMap (kids h)).drop (k+1):=by
     rw[ht,List.flatMap_append,List.flatMap_singleton,<-Al];exact(List.drop_append_of_le_length hX).symm
    rw[hd,<-ht];exact ih (k+1) om om
 have:=key n 0 om om
 simpa using this
def aC(b:Nat):List (List Int)->List A
 | []=>[]
 |r::rs=>.sl b 0 0 r.length::aC (b+1) rs
def aK(rs:List (List Int)):H:=rs.map fun r=>.arr (r.map (.int .i64)) 1 0
theorem bV:∀(rs:List (List Int)) (b:Nat),idsL (aC b rs)=List.range' b rs.length
 | [],b=>by simp[aC,idsL]
 |r::rs,b=>by simp[aC,idsL,idsA,bV rs,Du]
theorem gB:∀(rs:List (List Int)) (b:Nat),(aC b rs).length=rs.length
 | [],b=>rfl
 |r::rs,b=>by simp[aC,gB rs]
theorem GL:∀(rs:List (List Int)) (b:Nat) (r:List Int),aC b (rs++[r])=aC b rs++[.sl (b+rs.length) 0 0 r.length]
 | [],b,r=>by simp[aC]
 |q::rs,b,r=>by
  simp only[Ax,aC,GL rs,Ae];rw[show b+1+rs.length=b+(rs.length+1) by omega]
theorem aNN(rs:List (List Int))(r:List Int):aK rs++[.arr (r.map (.int .i64)) 1 0]=aK (rs++[r]):=by simp[aK]
theorem cD(rs:List (List Int)):(aK rs).length=rs.length:=by simp[aK]
theorem V4{rs:List (List Int)}{i:Nat}{r:List Int}(h:rs[i]? =some r):(aK rs)[i]? =some (.arr (r.map (.int .i64)) 1 0):=by simp[aK,h]
theorem eI{f:Nat->Option Nat}{c:Nat}:∀ {rs:List (List Int)} {b d:Nat},(∀i,i<rs.length->f (b+i)=some (d+i))->aF f (aC b rs)=aC d rs
 | [],b,d,_=>by simp[aC,aF]
 |r::rs,b,d,h=>by
  have h0:=h 0 sm;simp only[Bv]at h0;simp only[aC,aF,mapA,h0]
  rw[eI (c:=c) (rs:=rs) (b:=b+1) (d:=d+1) fun i hi=>by
   have:=h (i+1) (by simp;omega);rw[show b+1+i=b+(i+1) by omega,this]
   congr 1;omega]
theorem aJB(f:Nat->Option Nat)(rs:List (List Int)):(aK rs).map (mapO f)=aK rs:=by
 simp only[aK,List.map_map]<;>rfl
theorem aHs{h:H}{f:Nat->Option Nat}:∀ {rs:List (List Int)} {b:Nat},(∀i r,rs[i]? =some r->h[b+i]? =some (.arr (r.map (.int .i64)) 1 0))->(List.range' b rs.length).map (fun i=>mapO f (h.getD i default))=aK rs
 | [],b,_=>by simp[aK]
 |r::rs,b,hh=>by
  have h0:=hh 0 r rfl;simp only[Bv]at h0;simp only[Ae,Du,Ai,Aa,h0,Bb]
  have:=aHs (h:=h) (f:=f) (rs:=rs) (b:=b+1) fun i q hq=>by
   rw[show b+1+i=b+(i+1) by omega];exact hh (i+1) q (by simpa using hq)
  simp only[Aa]at this;rw[this];rfl
mutual
theorem aQq{f:Nat->Option Nat}:∀a:A,(∀i∈idsA a,f i=some i)->mapA f a=a
 |.d x,_=>by simp only[mapA]
 |.sl id gen off len,h=>by simp only[mapA,h id (by simp[idsA])]
 |.ptr id gen off,h=>by simp only[mapA,h id (by simp[idsA])]
 |.mp id,h=>by simp only[mapA,h id (by simp[idsA])]
 |.clo g caps,h=>by simp only[mapA];rw[fG caps (by simpa only[idsA]using h)]
 |.agg cs,h=>by simp only[mapA];rw[fG cs (by simpa only[idsA]using h)]
 |.tup cs,h=>by simp only[mapA];rw[fG cs (by simpa only[idsA]using h)]
 |.junk,_=>by simp only[mapA]
theorem fG{f:Nat->Option Nat}:∀asx:List A,(∀i∈idsL asx,f i=some i)->aF f asx=asx
 | [],_=>by simp only[aF]
 |a::asx,h=>by
  simp only[idsL,Am]at h;simp only[aF];rw[aQq a fun i hi=>h i (.inl hi),fG asx fun i hi=>h i (.inr hi)]
end
mutual
def z0A:A->Bool
 |.sl _ g _ _=>g==0
 |.ptr _ g _=>g==0
 |.mp _=>true
 |.clo _ caps=>z0As caps
 |.agg cs=>z0As cs
 |.tup cs=>z0As cs
 |.d _=>true
 |.junk=>true
def z0As:List A->Bool
 | []=>true
 |a::asx=>z0A a&&z0As asx
end
mutual
theorem aO6{nf:Nat}{h:H}(hg:∀i g,bB h i=some g->g=0):∀a:A,z0A a=true->bM nf h a=a
 |.d x,_=>by simp only[bM]
 |.sl id gen off len,hz=>by
  simp only[z0A,beq_iff_eq]at hz;subst hz;simp only[bM,hU]
  split
  ·rfl
  ·cases hgo:bB h id with
   |none=>rfl
   |some g=>have:=hg id g hgo;subst this;simp
 |.ptr id gen off,hz=>by
  simp only[z0A,beq_iff_eq]at hz;subst hz;simp only[bM,H2]
  split
  ·rfl
  ·cases hgo:bB h id with
   |none=>rfl
   |some g=>have:=hg id g hgo;subst this;simp
 |.mp id,hz=>by simp only[bM]
 |.clo g caps,hz=>by simp only[bM];rw[kE hg caps (by simpa only[z0A]using hz)]
 |.agg cs,hz=>by simp only[bM];rw[kE hg cs (by simpa only[z0A]using hz)]
 |.tup cs,hz=>by simp only[bM];rw[kE hg cs (by simpa only[z0A]using hz)]
 |.junk,_=>by simp only[bM]
theorem kE{nf:Nat}{h:H}(hg:∀i g,bB h i=some g->g=0):∀asx:List A,z0As asx=true->aS nf h asx=asx
 | [],_=>by simp only[aS]
 |a::asx,hz=>by
  simp only[z0As,As]at hz;simp only[aS];rw[aO6 hg a hz.1,kE hg asx hz.2]
end
def z0O:O->Bool
 |.arr _ _ g=>g==0
 |.box cs=>z0As cs
 |.ice _ _ g=>g==0
 |.vec cs _ g=>g==0&&z0As cs
 |.log _=>true
 |.mp _=>true
 |.void=>true
theorem H4{h:H}(hz:h.all z0O=true):∀i g,bB h i=some g->g=0:=by
 intro i g hg;unfold bB at hg
 cases ho:h[i]? with
 |none=>rw[ho]at hg;cases hg
 |some o=>
  have:=Bg.1 hz o (Bo ho);rw[ho]at hg
  cases o with
  |arr cs e g'=>simp only[Option.some.injEq]at hg;subst hg;simpa [z0O]using this
  |ice cs e g'=>simp only[Option.some.injEq]at hg;subst hg;simpa [z0O]using this
  |vec cs e g'=>simp only[Option.some.injEq]at hg;subst hg;simp only[z0O,As,beq_iff_eq]at this;exact this.1
  |_=>cases hg
theorem BZ:∀(asx bs:List A),z0As (asx++bs)=(z0As asx&&z0As bs)
 | [],bs=>by simp[z0As]
 |a::asx,bs=>by simp[z0As,BZ asx bs,Bool.and_assoc]
theorem xZ:∀(rs:List (List Int)) (b:Nat),z0As (aC b rs)=true
 | [],b=>by simp[aC,z0As]
 |r::rs,b=>by simp[aC,z0As,z0A,xZ rs]
theorem G8(rs:List (List Int)):(aK rs).all z0O=true:=by simp[aK,z0O]
def gcO(nf:Nat)(m:List Bool)(s:List A)(h:H):List A×H:=gc nf m s h
def aRH(nf:Nat)(h:H)(ord:List Nat)(s:List A):List A×H:=trim nf h ord s
def aH(q:Nat):List A:=List.replicate q (.d .nils)
theorem aDs(q:Nat):aH (q+1)=.d .nils::aH q:=rfl
theorem aPf(q:Nat):(aH q).length=q:=by simp[aH]
theorem c8:∀q:Nat,idsL (aH q)=[]
 |0=>by simp[aH,idsL]
 |q+1=>by rw[aDs];simp[idsL,idsA,c8 q]
theorem xC:∀q:Nat,z0As (aH q)=true
 |0=>by simp[aH,z0As]
 |q+1=>by rw[aDs];simp[z0As,z0A,xC q]
section
variable{rs:List (List Int)}{q:Nat}
def aRj(nf:Nat)(h:H)(ids:List Nat):List Nat:=dC nf h ids
end
end
theorem VZ{R:Type}{E:Env}{call:aX}{h:H}{f:FuncId}{args:List A}{r:A}{k:KA R}{id e g e2 g2:Nat}{cs cs2:List D}(hi:h[id]? =some (.arr cs e g))(hid:idsL args=[id])(hm:(E.hint f).mode=0)(hr:idsA r=[])(he:call f (aF (aJ [id]) args) [.arr cs e g]=some (r,[.arr cs2 e2 g2])):
  aW E call h f args k=k r (h.set id (.arr cs2 e2 g2)):=by
 have hre:aE aI h [id] []=[id]:=by
  have e1:aE aI h [id] []=match h[id]? with
   |some (.box cs)=>aE (aI-1) h ([]++idsL cs) ([]++[id])
   |some (.vec cs _ _)=>aE (aI-1) h ([]++idsL cs) ([]++[id])
   |some .void=>aE (aI-1) h [] []
   |some _=>aE (aI-1) h [] ([]++[id])
   |none=>aE (aI-1) h [] []:=rfl
  rw[e1,hi];rfl
 have hpk:pack h [id]=[.arr cs e g]:=by
  simp only[pack,Ai,Ar,Aa,hi];rfl
 unfold aW;rw[hid,hre,hpk]
 have hc:bS call E.hint [.arr cs e g] f (aF (aJ [id]) args)=some (r,[.arr cs2 e2 g2]):=by
  unfold bS;rw[hm];exact he
 rw[hc]
 have hcl:closed h [id] [id]=true:=by
  simp only[closed,Bu,Bz,hi];simp
 simp only[Ae,Ac,Ab,hcl,and_self,if_true,sQ r hr];simp only[bG,mapO,Ar,Aj]
structure Aut where
 al:Int
 nx:List (List Int)
 ac:List Bool
 deriving DecidableEq,Inhabited
def rowD(r:List Int):D:=.ivs r.length (ints r)
def aG(rs:List (List Int)):List D:=rs.map rowD
def aD(l:List Bool):List D:=l.map .bool
theorem nO{l:List (List Int)}:(aG l).length=l.length:=by simp[aG]
theorem cL{l:List Bool}:(aD l).length=l.length:=by simp[aD]
theorem kF{l:List Bool}{k:Nat}(h:l.length<=k):(aD l).take k=aD l:=Ce (by rw[cL];exact h)
theorem F6{l:List Bool}{k:Nat}(h:k<l.length):(((aD l).drop k).map A.d).head? =some (.d (.bool (l.getD k false))):=by
 rw[List.head?_map,Db,aD,Bd,Aa,Ad h];rfl
theorem aGR{l:List Bool}{k:Nat}{v:Bool}(h:k<l.length):bI (aD l) k [.bool v]=aD (l.set k v):=zO _ l k v h
theorem UB{l:List (List Int)}{k:Nat}(h:k<l.length):(((aG l).drop k).map A.d).head? =some (.d (.ivs (l.getD k []).length (ints (l.getD k [])))):=by
 rw[List.head?_map,Db,aG,Bd,Aa,Ad h];rfl
theorem mC{l:List (List Int)}{k:Nat}(h:l.length<=k):(aG l).take k=aG l:=Ce (by rw[nO];exact h)
theorem LA:type_of% (AI @nO (AI @cL (AI @kF (AI @F6 (AI @UB @mC))))):=
 ⟨@nO,@cL,@kF,@F6,@UB,@mC⟩
theorem aLP{α:Type}{l:List α}{k:Nat}{v:α}{m:List α}(h:k<l.length):(l.set k v).take (k+1)++m=l.take k++(v::m):=by
 rw[take_set h];simp
theorem VB:env.P.cellsOf 58=1:=kr
theorem NR(rs:List (List Int))(r:List Int):aK rs++[.arr (ints r) 1 0]=aK (rs++[r]):=aNN rs r
def aY(rs:List (List Int)):Prop:=rs.length<=4294967296/\∀r∈rs,r.length<=4294967296
theorem mO{rs:List (List Int)}(h:aY rs){k:Nat}(hk:k<rs.length):(rs.getD k []).length<=4294967296:=by
 rw[Aa,Ad hk];exact h.2 _ (At hk)
section
def autO(b:Nat)(rs:List (List Int))(ac:List Bool):H:=.vec (aC (b+2) rs++aH 0) 1 0::.arr (aD ac) 1 0::aK rs
def autA(v:Nat)(al:Int)(n m:Nat):A:=.agg [nI al,.sl v 0 0 n,.sl (v+1) 0 0 m]
def autD(al:Int)(rs:List (List Int))(ac:List Bool):A:=.agg [nI al,.d (.ivs rs.length (aG rs)),.d (.ivs ac.length (aD ac))]
structure Has(h:H)(v:Nat)(rs:List (List Int))(ac:List Bool):Prop where
 vec:h[v]? =some (.vec (aC (v+2) rs++aH 0) 1 0)
 acc:h[v+1]? =some (.arr (aD ac) 1 0)
 row:∀(i:Nat) (r:List Int),rs[i]? =some r->h[v+2+i]? =some (.arr (ints r) 1 0)
theorem PU{b:Nat}{rs:List (List Int)}{ac:List Bool}:(autO b rs ac).length=rs.length+2:=by simp[autO,cD]
theorem aSo{h:H}{rs:List (List Int)}{ac:List Bool}:Has (h++autO h.length rs ac) h.length rs ac:=by
 refine⟨by simp[autO],by simp[autO],fun i r hr=> ?_⟩;rw[Bn om,show h.length+2+i-h.length=i+1+1 by omega];simp only[autO,Aw];exact V4 hr
theorem aSH{h h2:H}{v:Nat}{rs:List (List Int)}{ac:List Bool}(k:Has h v rs ac):Has (h++h2) v rs ac:=
 ⟨by rw[Bc (rU k.vec)];exact k.vec,by rw[Bc (rU k.acc)];exact k.acc,
  fun i r hr=>by rw[Bc (rU (k.row i r hr))];exact k.row i r hr⟩
theorem aDD{h:H}{b:Nat}{r:List Int}(hr:h[b]? =some (.arr (ints r) 1 0)):rd0 h (.sl b 0 0 r.length)=some (rowD r):=by
 simp only[rd0,hr,true_and,Ag,Cc,d8,Ab,if_true,Ba,cW,rowD]
theorem aLC{h:H}:∀ {rs:List (List Int)} {b:Nat},(∀(i:Nat) (r:List Int),rs[i]? =some r->h[b+i]? =some (.arr (ints r) 1 0))->fO (rd0 h) (aC b rs)=some (aG rs)
 | [],b,_=>rfl
 |r::rs,b,hh=>by
  have h0:=hh 0 r rfl;simp only[Bv]at h0
  simp only[aC,fO,aDD h0,aLC (rs:=rs) (b:=b+1) fun i q hq=>by
   rw[show b+1+i=b+(i+1) by omega];exact hh (i+1) q (by simpa using hq)]
  rfl
theorem aS0{h:H}{v:Nat}{rs:List (List Int)}{ac:List Bool}(k:Has h v rs ac):rd1 h (.sl v 0 0 rs.length)=some (.ivs rs.length (aG rs)):=by
 have hl:0+rs.length*1<=(aC (v+2) rs++aH 0).length:=by rw[Af,gB];omega
 have hn:aH 0=[]:=rfl;simp only[rd1,k.vec];rw[if_pos ⟨trivial,hl⟩];simp only[hn,Aj,aLC k.row,Az,Ba,Cc,mC (Ab _)]
theorem aS2{h:H}{v:Nat}{rs:List (List Int)}{ac:List Bool}(k:Has h v rs ac):rd1 h (.sl (v+1) 0 0 ac.length)=some (.ivs ac.length (aD ac)):=by
 have hl:0+ac.length*1<=(aD ac).length:=by rw[cL];omega
 simp only[rd1,rd0,k.acc];rw[if_pos ⟨trivial,hl⟩];simp only[Ba,Cc,kF (Ab _)]
theorem p9:∀(h h2:H),wgt (h++h2)=wgt h+wgt h2
 | [],h2=>by simp[wgt]
 |o::h,h2=>by cases o<;>simp[wgt,p9 h h2]<;>omega
theorem IP(rs:List (List Int)):wgt (aK rs)=0:=by
 induction rs with
 |nil=>rfl
 |cons r rs ih=>simpa [aK,wgt]using ih
theorem aSL{b:Nat}{rs:List (List Int)}{ac:List Bool}:wgt (autO b rs ac)=rs.length:=by
 simp[autO,wgt,IP,bL,bV,c8]
def dR:O->List Nat
 |.box cs=>idsL cs
 |.vec cs _ _=>idsL cs
 |_=>[]
section
variable{h:H}{v:Nat}{rs:List (List Int)}{ac:List Bool}
theorem aMt{f:Nat->Option Nat}{b d:Nat}(hf:∀i,i<rs.length->f (b+i)=some (d+i)):mapO f (.vec (aC b rs++aH 0) 1 0)=.vec (aC d rs++aH 0) 1 0:=by
 have hn:aH 0=[]:=rfl;simp only[mapO,hn,Aj,eI (c:=0) hf]
theorem aIE{f:Nat->Option Nat}{al:Int}{n m a b:Nat}(h0:f a=some b)(h1:f (a+1)=some (b+1)):mapA f (autA a al n m)=autA b al n m:=by
 simp only[autA,mapA,aF,h0,h1]
theorem aJ8{b n i:Nat}(hi:i<n):back [] b n i=some (b+i):=by
 unfold back;simp[hi]
theorem aQp{b n:Nat}(hn:n=rs.length+2):(autO 0 rs ac).map (mapO (back [] b n))=autO b rs ac:=by
 subst hn;unfold autO;rw[Ai,Ai,aJB,aMt (d:=b+2) fun i hi=>by rw[aJ8 om];congr 1;omega];rfl
end
section
variable{E:Env}{call:aX}{h:H}{f:FuncId}
theorem aEC:∀ {rs rs2:List (List Int)} {b:Nat},rs2.map List.length=rs.map List.length->aC b rs2=aC b rs
 | [],[],b,_=>rfl
 | [],_::_,b,hl=>by simp at hl
 |_::_,[],b,hl=>by simp at hl
 |r::rs,q::rs2,b,hl=>by
  simp only[Ai,List.cons.injEq]at hl;simp only[aC,hl.1,aEC hl.2]
end
end
def aN:List (List Int)->Nat
 | []=>0
 |r::rs=>r.length+aN rs
section
section
variable{h h2:H}{nf:Nat}(hn:nf=h.length)(hk:∀o∈h,∀j∈dR o,j<nf)
include hn hk
end
theorem aGz{b k:Nat}:∀ {rs:List (List Int)} {b k:Nat},k<rs.length->((aC b rs++aH 0).drop k).head? =some (.sl (b+k) 0 0 (rs.getD k []).length)
 | [],b,k,h=>by simp at h
 |r::rs,b,0,h=>by simp[aC]
 |r::rs,b,k+1,h=>by
  simp only[aC,Ax,Dn];rw[aGz (b:=b) (k:=k) (by simpa using h)];simp only[List.getD_cons_succ]
  congr 2
  omega
theorem aIm{d:List (List Int)}{k:Nat}(h:k<d.length):(aK d)[k]? =some (.arr (ints (d.getD k [])) 1 0):=by
 rw[Aa,Ad h];exact V4 (Ad h)
theorem aNZ{d:List (List Int)}{k:Nat}{r:List Int}:(aK d).set k (.arr (ints r) 1 0)=aK (d.set k r):=by
 unfold aK;rw[List.map_set];rfl
end
section
theorem QD{m:List Bool}{s:List A}{h:H}{ord:List Nat}(hr:aE aI h (idsL (tidy m s)) []=ord):gc 0 m s h=(aS 0 (pack h ord) (aF (aJ ord) (tidy m s)),cG 0 (pack h ord)):=by
 unfold gc trim;rw[VL];unfold aI at hr;rw[hr]
theorem fD{h:H}:∀(os:H) (i:Nat),dM 0 h i os=os.map (bY 0 h 0)
 | [],_=>rfl
 |o::os,i=>by
  simp only[dM,Ai,fD os (i+1)]
  cases o<;>simp[bY]
theorem fX{h:H}{rs:List (List Int)}:(aK rs).map (bY 0 h 0)=aK rs:=by
 simp[aK,bY]
theorem eB{nf:Nat}{h:H}:∀(xs ys:List A),aS nf h (xs++ys)=aS nf h xs++aS nf h ys
 | [],ys=>by simp[aS]
 |x::xs,ys=>by simp[aS,eB xs ys]
theorem fC{h:H}:∀ {rs:List (List Int)} {b:Nat},(∀i,i<rs.length->bB h (b+i)=some 0)->aS 0 h (aC b rs)=aC b rs
 | [],b,_=>by simp[aC,aS]
 |r::rs,b,hh=>by
  have h0:=hh 0 sm;simp only[Bv]at h0;simp only[aC,aS,bM,hU,Ca,if_false,h0,if_true]
  rw[fC (rs:=rs) (b:=b+1) fun i hi=>by
   rw[show b+1+i=b+(i+1) by omega];exact hh (i+1) (by simp;omega)]
theorem aQO{f:Nat->Option Nat}{h:H}{b:Nat}{rs:List (List Int)}(hh:∀(i:Nat) (r:List Int),rs[i]? =some r->h[b+i]? =some (.arr (ints r) 1 0)):(List.range' b rs.length).map (fun i=>mapO f (h.getD i default))=aK rs:=aHs hh
theorem G0{rs:List (List Int)}{p:H}{i:Nat}{r:List Int}(h:rs[i]? =some r):(aK rs++p)[i]? =some (.arr (ints r) 1 0):=by
 rw[Bc (by rw[cD];exact rU h)];exact V4 h
theorem F2{b k:Nat}{rs:List (List Int)}(h:k=rs.length):(aC b rs++aH 0).take k=aC b rs:=by
 have hn:aH 0=[]:=rfl;rw[hn,Aj,Ce (by rw[gB];omega)]
section
variable{x0 x1:D}{k z:Nat}{cs cr:List D}{d:List (List Int)}{p:H}
theorem bN{h:H}{i:Nat}{r:List D}{e g:Nat}(hr:h[i]? =some (.arr r e g)):kids h i=[]:=by simp only[kids,hr]
mutual
theorem aQN{f g:Nat->Option Nat}:∀a:A,(∀i∈idsA a,f i=g i)->mapA f a=mapA g a
 |.d x,_=>by simp only[mapA]
 |.sl id gen off len,hi=>by simp only[mapA,hi id (by simp[idsA])]
 |.ptr id gen off,hi=>by simp only[mapA,hi id (by simp[idsA])]
 |.mp id,hi=>by simp only[mapA,hi id (by simp[idsA])]
 |.clo q caps,hi=>by simp only[mapA];rw[kH caps (by simpa only[idsA]using hi)]
 |.agg cs,hi=>by simp only[mapA];rw[kH cs (by simpa only[idsA]using hi)]
 |.tup cs,hi=>by simp only[mapA];rw[kH cs (by simpa only[idsA]using hi)]
 |.junk,_=>by simp only[mapA]
theorem kH{f g:Nat->Option Nat}:∀xs:List A,(∀i∈idsL xs,f i=g i)->aF f xs=aF g xs
 | [],_=>by simp only[aF]
 |a::xs,hi=>by
  simp only[idsL,Am]at hi;simp only[aF];rw[aQN a fun i h=>hi i (.inl h),kH xs fun i h=>hi i (.inr h)]
end
mutual
theorem aSj{f:Nat->Option Nat}:∀a:A,z0A a=true->z0A (mapA f a)=true
 |.d x,_=>by simp only[mapA,z0A]
 |.sl id gen off len,hz=>by simp only[mapA];cases f id<;>first|rfl|exact hz
 |.ptr id gen off,hz=>by simp only[mapA];cases f id<;>first|rfl|exact hz
 |.mp id,hz=>by simp only[mapA];cases f id<;>first|rfl|exact hz
 |.clo q caps,hz=>by simp only[mapA,z0A]at hz|-;exact y9 caps hz
 |.agg cs,hz=>by simp only[mapA,z0A]at hz|-;exact y9 cs hz
 |.tup cs,hz=>by simp only[mapA,z0A]at hz|-;exact y9 cs hz
 |.junk,_=>by simp only[mapA,z0A]
theorem y9{f:Nat->Option Nat}:∀xs:List A,z0As xs=true->z0As (aF f xs)=true
 | [],_=>by simp only[aF,z0As]
 |a::xs,hz=>by
  simp only[z0As,As]at hz;simp only[aF,z0As,As];exact⟨aSj a hz.1,y9 xs hz.2⟩
end
end
theorem hZ{h p:H}{d:List (List Int)}(B:Nat)(hd:h.drop B=aK d++p):∀(i:Nat) (r:List Int),d[i]? =some r->h[B+i]? =some (.arr (ints r) 1 0):=by
 intro i r hr;rw[<-List.getElem?_drop,hd];exact G0 hr
theorem xV{h p:H}{d:List (List Int)}(B q:Nat)(hd:h.drop B=aK d++p){o:O}(ho:p[q]? =some o){j:Nat}(hj:j=d.length+(B+q)):h[j]? =some o:=by
 subst hj;rw[show d.length+(B+q)=B+(d.length+q) by omega,<-List.getElem?_drop,hd,Bn (by rw[cD];omega),cD,Dv];exact ho
theorem iR{h:H}{d:List (List Int)}{B:Nat}(gr:∀(i:Nat) (r:List Int),d[i]? =some r->h[B+i]? =some (.arr (ints r) 1 0)):∀i∈List.range' B d.length,∃r:List Int,h[i]? =some (.arr (ints r) 1 0):=by
 intro i hi;rw[Ct]at hi;obtain⟨j,rfl⟩:∃j,i=B+j:=⟨i-B,by omega⟩
 exact⟨d[j]'om,gr j _ (Ad om)⟩
theorem fR{h:H}{ids P T L:List Nat}{B n N:Nat}(hfix:P++(T++(List.range' B n++L))=ids++P.flatMap (kids h))(hprog:∀k,k<P.length->k<ids.length+((P.take k).flatMap (kids h)).length)
  (leaf:∀i∈List.range' B n,∃r:List Int,h[i]? =some (.arr (ints r) 1 0)) (hT:∀i∈T++L,∃cs e g,h[i]? =some (.arr cs e g)) (hP:∀i∈P,∃o,h[i]? =some o/\o≠.void)
  (hnd:(P++(T++L)).Nodup) (hout:∀i∈P++(T++L),i<B\/B+n<=i) (hf:P.length+T.length+n+L.length<=N):aE N h ids []=P++(T++(List.range' B n++L)):=by
 refine aPU hfix ?_ hprog ?_ ?_ ?_
 ·intro i hi
  rcases Am.1 hi with h1|h1
  ·obtain⟨cs,e,g,h2⟩:=hT i (Am.2 (.inl h1));exact bN h2
  ·rcases Am.1 h1 with h2|h2
   ·obtain⟨r,hr⟩:=leaf i h2;exact bN hr
   ·obtain⟨cs,e,g,h3⟩:=hT i (Am.2 (.inr h2));exact bN h3
 ·have hp:(P++(T++(List.range' B n++L))).Perm (List.range' B n++(P++(T++L))):=by
   have e1:(T++(List.range' B n++L)).Perm (List.range' B n++(T++L)):=by
    rw[<-Al T _ L,<-Al _ T L];exact List.Perm.append_right L List.perm_append_comm
   refine(List.Perm.append_left P e1).trans ?_;rw[<-Al P _ (T++L),<-Al _ P (T++L)];exact List.Perm.append_right (T++L) List.perm_append_comm
  rw[hp.nodup_iff,Dt];refine⟨List.nodup_range',hnd,fun a ha b hb e=> ?_⟩;subst e;rw[Ct]at ha;have:=hout a hb;omega
 ·intro i hi
  rcases Am.1 hi with h1|h1
  ·exact hP i h1
  ·rcases Am.1 h1 with h1|h1
   ·obtain⟨cs,e,g,h2⟩:=hT i (Am.2 (.inl h1));exact⟨_,h2,by simp⟩
   ·rcases Am.1 h1 with h2|h2
    ·obtain⟨r,hr⟩:=leaf i h2;exact⟨_,hr,by simp⟩
    ·obtain⟨cs,e,g,h3⟩:=hT i (Am.2 (.inr h2));exact⟨_,h3,by simp⟩
 ·simp only[Af,Dx];omega
theorem iX{ord A L:List Nat}{B C n:Nat}(pk:∀i j,ord[j]? =some i->aJ ord i=some j)(ho:ord=A++(List.range' B n++L))(hA:A.length=C):∀i,i<n->aJ ord (B+i)=some (C+i):=by
 intro i hi;refine pk _ _ ?_;rw[ho,Bn om,hA,Dv,Bc (by simpa using hi),List.getElem?_range' hi];simp
theorem X0{ord A L:List Nat}{B C n:Nat}(pk:∀i j,ord[j]? =some i->aJ ord i=some j)(ho:ord=A++(List.range' B n++L))(hA:A.length=C)(q:Nat){i j:Nat}(hq:L[q]? =some i)(hj:j=n+(C+q)):aJ ord i=some j:=by
 subst hj;refine pk _ _ ?_;rw[ho,Bn om,hA,show n+(C+q)-C=n+q by omega,Bn sm,Dx,Dv];exact hq
theorem nD{K p:H}{d:List (List Int)}{C:Nat}(hd:K.drop C=aK d++p):∀i,i<d.length->bB K (C+i)=some 0:=by
 intro i hi;have:=hZ C hd i _ (Ad hi);simp only[bB,this]
theorem kP{h:H}{ord A L:List Nat}{d:List (List Int)}{B:Nat}(ho:ord=A++(List.range' B d.length++L))(gr:∀(i:Nat) (r:List Int),d[i]? =some r->h[B+i]? =some (.arr (ints r) 1 0)):pack h ord=A.map (fun i=>mapO (aJ ord) (h.getD i default))++(aK d++L.map (fun i=>mapO (aJ ord) (h.getD i default))):=by
 unfold pack
 conv=>lhs;arg 2;rw[ho]
 rw[Cw,Cw,aQO gr]
end
mutual
theorem aRi{p:H}(h0:bB p 0=none):∀a:A,bM 1 p a=bM 0 p a
 |.d x=>by simp only[bM]
 |.sl id gen off len=>by
  simp only[bM,hU,Ca,if_false]
  by_cases hi:id<1
  ·obtain rfl:id=0:=om;simp[h0]
  ·rw[if_neg hi]
 |.ptr id gen off=>by
  simp only[bM,H2,Ca,if_false]
  by_cases hi:id<1
  ·obtain rfl:id=0:=om;simp[h0]
  ·rw[if_neg hi]
 |.mp id=>by simp only[bM]
 |.clo g cs=>by simp only[bM];rw[xE h0 cs]
 |.agg cs=>by simp only[bM];rw[xE h0 cs]
 |.tup cs=>by simp only[bM];rw[xE h0 cs]
 |.junk=>by simp only[bM]
theorem xE{p:H}(h0:bB p 0=none):∀xs:List A,aS 1 p xs=aS 0 p xs
 | []=>by simp only[aS]
 |x::xs=>by simp only[aS];rw[aRi h0 x,xE h0 xs]
end
theorem aP3{p:H}(h0:bB p 0=none){i:Nat}(hi:1<=i)(o:O):bY 1 p i o=bY 0 p i o:=by
 cases o<;>simp only[bY,Ca,if_false,xE h0,if_neg (show ¬i<1 by omega)]
theorem aAq{p:H}(h0:bB p 0=none):∀(os:H) (i:Nat),1<=i->dM 1 p i os=dM 0 p i os
 | [],i,_=>rfl
 |o::os,i,hi=>by simp only[dM];rw[aP3 h0 hi,aAq h0 os (i+1) om]
theorem aEX{x y:D}{t:H}{l:List Nat}{s:List A}:trim 1 (.box [.d x,.d y]::t) (0::l) s=trim 0 (.box [.d x,.d y]::t) (0::l) s:=by
 have hp:pack (.box [.d x,.d y]::t) (0::l)=.box [.d x,.d y]::l.map fun i=>mapO (aJ (0::l)) ((O.box [.d x,.d y]::t).getD i default):=by
  simp[pack,mapO,aF,mapA]
 have h0:bB (pack (.box [.d x,.d y]::t) (0::l)) 0=none:=by rw[hp];rfl
 unfold trim;rw[xE h0]
 congr 1
 unfold cG;generalize hq:pack (.box [.d x,.d y]::t) (0::l)=p at *;obtain⟨os,hos⟩:∃os,p=.box [.d x,.d y]::os:=⟨_,hp⟩
 have key:∀w:H,w=.box [.d x,.d y]::os->dM 1 p 0 w=dM 0 p 0 w:=by
  intro w hw;subst hw;simp only[dM];rw[aAq h0 _ (0+1) (Ab _)];simp only[bY,aS,bM]
 exact key p hos
theorem aRd{x y:D}{t:H}{n:Nat}{l:List Nat}:aE (n+1) (.box [.d x,.d y]::t) (0::l) [0]=aE n (.box [.d x,.d y]::t) l [0]:=by
 simp[aE]
theorem Q4{x y:D}{t:H}{n:Nat}{l:List Nat}:aE (n+1) (.box [.d x,.d y]::t) (0::l) []=aE n (.box [.d x,.d y]::t) l [0]:=by
 simp[aE,idsL,idsA]
theorem kJ:∀(n:Nat) (h:H) (todo acc:List Nat),∃q,aE n h todo acc=acc++q
 |0,h,todo,acc=>⟨[],by simp[aE]⟩
 |n+1,h,[],acc=>⟨[],by simp[aE]⟩
 |n+1,h,i::todo,acc=>by
  unfold aE
  split
  ·exact kJ n h todo acc
  ·split
   ·obtain⟨q,hq⟩:=kJ n h (todo++idsL _) (acc++[i]);exact⟨i::q,by rw[hq];simp⟩
   ·obtain⟨q,hq⟩:=kJ n h (todo++idsL _) (acc++[i]);exact⟨i::q,by rw[hq];simp⟩
   ·exact kJ n h todo acc
   ·obtain⟨q,hq⟩:=kJ n h todo (acc++[i]);exact⟨i::q,by rw[hq];simp⟩
   ·exact kJ n h todo acc
theorem aSh{x y:D}{t:H}{l:List Nat}:dC 1 (.box [.d x,.d y]::t) (0::l)=dC 0 (.box [.d x,.d y]::t) (0::l):=by
 rw[t6,t6];have e1:eP (List.take 1 (O.box [.d x,.d y]::t))++0::l=0::l:=by simp[eP,idsL,idsA]
 have e2:eP (List.take 0 (O.box [.d x,.d y]::t))++0::l=0::l:=by simp[eP]
 have e3:List.range 1=[0]:=rfl;have e4:List.range 0=([]:List Nat):=rfl;rw[e1,e2,e3,e4,show(1099511627776:Nat)=1099511627775+1 from rfl,aRd,Q4]
theorem aJT{x y:D}{t:H}{l:List Nat}:dC 1 (.box [.d x,.d y]::t) l=aE (aI+1) (.box [.d x,.d y]::t) (0::l) []:=by
 rw[t6,Q4];have e1:eP (List.take 1 (O.box [.d x,.d y]::t))++l=l:=by simp[eP,idsL,idsA]
 have e3:List.range 1=[0]:=rfl;rw[e1,e3];rfl
theorem aTC{m:List Bool}{s:List A}{x y:D}{t:H}{l:List Nat}(hid:idsL (tidy m s)=0::l):gc 1 m s (.box [.d x,.d y]::t)=gc 0 m s (.box [.d x,.d y]::t):=by
 unfold gc;rw[hid,aSh];obtain⟨q,hq⟩:=kJ 1099511627775 (.box [.d x,.d y]::t) l [0]
 have:dC 0 (.box [.d x,.d y]::t) (0::l)=0::q:=by
  rw[t6];have e2:eP (List.take 0 (O.box [.d x,.d y]::t))++0::l=0::l:=by simp[eP]
  have e4:List.range 0=([]:List Nat):=rfl;rw[e2,e4,show(1099511627776:Nat)=1099511627775+1 from rfl,Q4,hq];rfl
 rw[this,aEX]
theorem XE{m:List Bool}{s:List A}{x y:D}{t h:H}{l:List Nat}(hh:O.box [.d x,.d y]::t=h)(hid:idsL (tidy m s)=0::l):gc 1 m s h=gc 0 m s h:=by
 subst hh;exact aTC hid
theorem aEl{m:List Bool}{s:List A}{x y:D}{t h:H}{l ord:List Nat}(hh:O.box [.d x,.d y]::t=h)(hi:idsL (tidy m s)=l)(hr:aE (aI+1) h (0::l) []=ord):gc 1 m s h=(aS 0 (pack h ord) (aF (aJ ord) (tidy m s)),cG 0 (pack h ord)):=by
 subst hh;unfold gc;rw[hi,aJT,hr];obtain⟨q,hq⟩:=kJ aI (.box [.d x,.d y]::t) l [0]
 have e:ord=0::q:=by
  rw[<-hr,Q4,hq];rfl
 rw[e,aEX];rfl
def YE(n:Nat)(ids:List Nat):Bool:=decide (ids=[3,n+8])
theorem aMA{n:Nat}{ke2:Nat}(he2:ke2=n+8):YE n [3,ke2]=true:=by subst he2;simp[YE]
def GR(n i:Nat):Option Nat:=if i=0 then some 0 else if i=3 then some 1 else if i=n+8 then some 2 else none
theorem aGZ{n:Nat}:GR n 3=some (1):=by unfold GR;repeat (first|rfl|rw[if_pos rfl]|rw[if_neg om])
theorem aCv{n k:Nat}(h:k=n+8):GR n k=some (2):=by subst h;unfold GR;repeat (first|rfl|rw[if_pos rfl]|rw[if_neg om])
theorem aSy{m:List Bool}{s:List A}{y1 y2 x0 x1:D}{k z:Nat}{cs:List D}{d:List (List Int)}(hl:d.length<=4294967296):gc 1 m s (.box [.d y1,.d y2]::.arr [] 0 0::.arr [] 0 0::.box [.d x0,.sl 1 0 0 0,.sl 2 0 0 0]::.vec (aC 6 d++aH 0) 1 0::.arr cs 1 0::(aK d++[.arr [] 0 0,.arr [] 0 0,.box [.d x1,.sl 4 0 0 k,.sl 5 0 0 z]]))=match box (tidy m s)with
  |.mk s1=>if YE d.length (idsL s1)=true/\z0As s1=true then(aF (GR d.length) s1,.box [.d y1,.d y2]::.box [.d x0,.sl 3 0 0 0,.sl 4 0 0 0]::.box [.d x1,.sl 5 0 0 k,.sl 6 0 0 z]::.arr [] 0 0::.arr [] 0 0::.vec (aC 7 d++aH 0) 1 0::.arr cs 1 0::aK d)else gcO 1 m s (.box [.d y1,.d y2]::.arr [] 0 0::.arr [] 0 0::.box [.d x0,.sl 1 0 0 0,.sl 2 0 0 0]::.vec (aC 6 d++aH 0) 1 0::.arr cs 1 0::(aK d++[.arr [] 0 0,.arr [] 0 0,.box [.d x1,.sl 4 0 0 k,.sl 5 0 0 z]]))
  |.no=>([],[]):=by
 simp only[box]
 split
 ·rename_i hc
  obtain⟨hb,hz⟩:=hc;have hids:idsL (tidy m s)=[3,d.length+8]:=by simpa [YE]using hb
  obtain⟨h,hh⟩:∃h:H,O.box [.d y1,.d y2]::.arr [] 0 0::.arr [] 0 0::.box [.d x0,.sl 1 0 0 0,.sl 2 0 0 0]::.vec (aC 6 d++aH 0) 1 0::.arr cs 1 0::(aK d++[.arr [] 0 0,.arr [] 0 0,.box [.d x1,.sl 4 0 0 k,.sl 5 0 0 z]])=h:=⟨_,rfl⟩
  conv=>lhs;rw[hh]
  have g0:h[0]? =some (.box [.d y1,.d y2]):=by rw[<-hh];rfl
  have g1:h[1]? =some (.arr [] 0 0):=by rw[<-hh];rfl
  have g2:h[2]? =some (.arr [] 0 0):=by rw[<-hh];rfl
  have g3:h[3]? =some (.box [.d x0,.sl 1 0 0 0,.sl 2 0 0 0]):=by rw[<-hh];rfl
  have g4:h[4]? =some (.vec (aC 6 d++aH 0) 1 0):=by rw[<-hh];rfl
  have g5:h[5]? =some (.arr cs 1 0):=by rw[<-hh];rfl
  have hD:h.drop 6=aK d++[.arr [] 0 0,.arr [] 0 0,.box [.d x1,.sl 4 0 0 k,.sl 5 0 0 z]]:=by rw[<-hh];rfl
  have gr:=hZ 6 hD;have ge2:h[d.length+8]? =some (.box [.d x1,.sl 4 0 0 k,.sl 5 0 0 z]):=xV 6 2 hD rfl om;have k0:kids h (0)=[]:=by simp[kids,g0,idsL,idsA]
  have k3:kids h (3)=[1,2]:=by simp[kids,g3,idsL,idsA]
  have ke2:kids h (d.length+8)=[4,5]:=by simp[kids,ge2,idsL,idsA]
  have k1:kids h (1)=[]:=bN g1;have k2:kids h (2)=[]:=bN g2;have k4:kids h (4)=List.range' 6 d.length:=by simp[kids,g4,bL,bV,c8]
  have leaf:=iR gr;have hr:aE (aI+1) h [0,3,d.length+8] []=[0,3,d.length+8,1,2,4]++([5]++(List.range' 6 d.length++[])):=fR (by simp[k0,k3,ke2,k1,k2,k4]) (by intro q hq;simp only[Ae,Ac]at hq;have:q=0\/q=1\/q=2\/q=3\/q=4\/q=5:=om;rcases this with rfl|rfl|rfl|rfl|rfl|rfl<;>simp[k0,k3,ke2,k1,k2]) leaf (by intro i hi;simp at hi;subst hi;exact⟨_,_,_,by assumption⟩) (by intro i hi;simp at hi;rcases hi with rfl|rfl|rfl|rfl|rfl|rfl<;>exact⟨_,by assumption,by simp⟩) (by simp<;>omega) (by intro i hi;simp at hi;omega) (by simp only[aI,Ae,Ac];omega);generalize hord:[0,3,d.length+8,1,2,4]++([5]++(List.range' 6 d.length++[]))=ord at hr;have hA:ord=([0,3,d.length+8,1,2,4]++[5])++(List.range' 6 d.length++[]):=by rw[<-hord,Al]
  have pk:∀i j,ord[j]? =some i->aJ ord i=some j:=fun i j h1=>dE (by rw[<-hr];exact bU (aI+1) h _ [] sm) h1;have p0:=pk (0) 0 (by rw[<-hord];rfl);have p3:=pk (3) 1 (by rw[<-hord];rfl);have pe2:=pk (d.length+8) 2 (by rw[<-hord];rfl);have p1:=pk (1) 3 (by rw[<-hord];rfl);have p2:=pk (2) 4 (by rw[<-hord];rfl);have p4:=pk (4) 5 (by rw[<-hord];rfl);have p5:=pk (5) 6 (by rw[<-hord];rfl);have pr:=iX (C:=7) pk hA rfl;obtain⟨K,hK⟩:∃K:H,O.box [.d y1,.d y2]::.box [.d x0,.sl 3 0 0 0,.sl 4 0 0 0]::.box [.d x1,.sl 5 0 0 k,.sl 6 0 0 z]::.arr [] 0 0::.arr [] 0 0::.vec (aC 7 d++aH 0) 1 0::.arr cs 1 0::aK d=K:=⟨_,rfl⟩
  have hni:∀f,aF f (aH 0)=aH 0:=fun _=>rfl
  have hpk:pack h ord=K:=by
   have hrf:aF (aJ ord) (aC 6 d)=aC 7 d:=eI (c:=0) pr;rw[kP hA gr,<-hK];simp only[Ax,Ap,Ai,Ar,Aa,g0,g3,ge2,g1,g2,g4,g5,Bb,mapO,aF,mapA,cU,hrf,hni,p1,p2,p4,p5,Aj]
  have hKD:K.drop 7=aK d++[]:=by rw[<-hK];exact(Aj _).symm
  have hgr:=nD hKD
  have hcm:cG 0 K=.box [.d y1,.d y2]::.box [.d x0,.sl 3 0 0 0,.sl 4 0 0 0]::.box [.d x1,.sl 5 0 0 k,.sl 6 0 0 z]::.arr [] 0 0::.arr [] 0 0::.vec (aC 7 d++aH 0) 1 0::.arr cs 1 0::aK d:=by
   have hrf:aS 0 K (aC 7 d)=aC 7 d:=fC hgr;have hnc:∀h:H,aS 0 h (aH 0)=aH 0:=fun _=>rfl;have q3:bB K 3=some 0:=by rw[<-hK];rfl
   have q4:bB K 4=some 0:=by rw[<-hK];rfl
   have q5:bB K 5=some 0:=by rw[<-hK];rfl
   have q6:bB K 6=some 0:=by rw[<-hK];rfl
   unfold cG;rw[fD]
   conv=>lhs;arg 2;rw[<-hK]
   simp only[Ai,bY,aS,bM,hU,eB,hrf,hnc,fX,q3,q4,q5,q6,Ca,if_false,if_true]
  subst hK;rw[aEl hh hids hr,hpk,hcm]
  have hmp:aF (aJ ord) (tidy m s)=aF (GR d.length) (tidy m s):=by
   apply kH;rw[hids];intro i hi;simp only[Av,Br,or_false]at hi
   rcases hi with rfl|rfl
   ·rw[p3,aGZ]
   ·rw[pe2,aCv rfl]
  have hz2:aS 0 (O.box [.d y1,.d y2]::.box [.d x0,.sl 3 0 0 0,.sl 4 0 0 0]::.box [.d x1,.sl 5 0 0 k,.sl 6 0 0 z]::.arr [] 0 0::.arr [] 0 0::.vec (aC 7 d++aH 0) 1 0::.arr cs 1 0::aK d) (aF (aJ ord) (tidy m s))=aF (aJ ord) (tidy m s):=by
   exact kE (H4 (by simp[z0O,z0As,z0A,BZ,xZ,xC,G8])) _ (y9 _ hz)
  rw[hz2,hmp]
 ·rfl
def BP(n i:Nat):Option Nat:=if i=0 then some 0 else if i=1 then some 1 else if i=2 then some 2 else none
theorem sN{n:Nat}:BP n 1=some (1):=by unfold BP;repeat (first|rfl|rw[if_pos rfl]|rw[if_neg om])
theorem r9{n:Nat}:BP n 2=some (2):=by unfold BP;repeat (first|rfl|rw[if_pos rfl]|rw[if_neg om])
theorem GZ{m:List Bool}{s:List A}{y1 y2 x0 x1:D}{k z:Nat}{cs:List D}{d:List (List Int)}(hl:d.length<=4294967296):gc 1 m s (.box [.d y1,.d y2]::.box [.d x0,.sl 3 0 0 0,.sl 4 0 0 0]::.box [.d x1,.sl 5 0 0 k,.sl 6 0 0 z]::.arr [] 0 0::.arr [] 0 0::.vec (aC 7 d++aH 0) 1 0::.arr cs 1 0::aK d)=match box (tidy m s)with
  |.mk s1=>if idsL s1=[1,2]/\z0As s1=true then(aF (BP d.length) s1,.box [.d y1,.d y2]::.box [.d x0,.sl 3 0 0 0,.sl 4 0 0 0]::.box [.d x1,.sl 5 0 0 k,.sl 6 0 0 z]::.arr [] 0 0::.arr [] 0 0::.vec (aC 7 d++aH 0) 1 0::.arr cs 1 0::aK d)else gcO 1 m s (.box [.d y1,.d y2]::.box [.d x0,.sl 3 0 0 0,.sl 4 0 0 0]::.box [.d x1,.sl 5 0 0 k,.sl 6 0 0 z]::.arr [] 0 0::.arr [] 0 0::.vec (aC 7 d++aH 0) 1 0::.arr cs 1 0::aK d)
  |.no=>([],[]):=by
 simp only[box]
 split
 ·rename_i hc
  obtain⟨hb,hz⟩:=hc;have hids:idsL (tidy m s)=[1,2]:=by exact hb
  obtain⟨h,hh⟩:∃h:H,O.box [.d y1,.d y2]::.box [.d x0,.sl 3 0 0 0,.sl 4 0 0 0]::.box [.d x1,.sl 5 0 0 k,.sl 6 0 0 z]::.arr [] 0 0::.arr [] 0 0::.vec (aC 7 d++aH 0) 1 0::.arr cs 1 0::aK d=h:=⟨_,rfl⟩
  conv=>lhs;rw[hh]
  have g0:h[0]? =some (.box [.d y1,.d y2]):=by rw[<-hh];rfl
  have g1:h[1]? =some (.box [.d x0,.sl 3 0 0 0,.sl 4 0 0 0]):=by rw[<-hh];rfl
  have g2:h[2]? =some (.box [.d x1,.sl 5 0 0 k,.sl 6 0 0 z]):=by rw[<-hh];rfl
  have g3:h[3]? =some (.arr [] 0 0):=by rw[<-hh];rfl
  have g4:h[4]? =some (.arr [] 0 0):=by rw[<-hh];rfl
  have g5:h[5]? =some (.vec (aC 7 d++aH 0) 1 0):=by rw[<-hh];rfl
  have g6:h[6]? =some (.arr cs 1 0):=by rw[<-hh];rfl
  have hD:h.drop 7=aK d++[]:=by rw[<-hh];exact(Aj _).symm
  have gr:=hZ 7 hD;have k0:kids h (0)=[]:=by simp[kids,g0,idsL,idsA]
  have k1:kids h (1)=[3,4]:=by simp[kids,g1,idsL,idsA]
  have k2:kids h (2)=[5,6]:=by simp[kids,g2,idsL,idsA]
  have k3:kids h (3)=[]:=bN g3;have k4:kids h (4)=[]:=bN g4;have k5:kids h (5)=List.range' 7 d.length:=by simp[kids,g5,bL,bV,c8]
  have leaf:=iR gr;have hr:aE (aI+1) h [0,1,2] []=[0,1,2,3,4,5]++([6]++(List.range' 7 d.length++[])):=fR (by simp[k0,k1,k2,k3,k4,k5]) (by intro q hq;simp only[Ae,Ac]at hq;have:q=0\/q=1\/q=2\/q=3\/q=4\/q=5:=om;rcases this with rfl|rfl|rfl|rfl|rfl|rfl<;>simp[k0,k1,k2,k3,k4]) leaf (by intro i hi;simp at hi;subst hi;exact⟨_,_,_,by assumption⟩) (by intro i hi;simp at hi;rcases hi with rfl|rfl|rfl|rfl|rfl|rfl<;>exact⟨_,by assumption,by simp⟩) (by simp<;>omega) (by intro i hi;simp at hi;omega) (by simp only[aI,Ae,Ac];omega);generalize hord:[0,1,2,3,4,5]++([6]++(List.range' 7 d.length++[]))=ord at hr;have hA:ord=([0,1,2,3,4,5]++[6])++(List.range' 7 d.length++[]):=by rw[<-hord,Al]
  have pk:∀i j,ord[j]? =some i->aJ ord i=some j:=fun i j h1=>dE (by rw[<-hr];exact bU (aI+1) h _ [] sm) h1;have p0:=pk (0) 0 (by rw[<-hord];rfl);have p1:=pk (1) 1 (by rw[<-hord];rfl);have p2:=pk (2) 2 (by rw[<-hord];rfl);have p3:=pk (3) 3 (by rw[<-hord];rfl);have p4:=pk (4) 4 (by rw[<-hord];rfl);have p5:=pk (5) 5 (by rw[<-hord];rfl);have p6:=pk (6) 6 (by rw[<-hord];rfl);have pr:=iX (C:=7) pk hA rfl;obtain⟨K,hK⟩:∃K:H,O.box [.d y1,.d y2]::.box [.d x0,.sl 3 0 0 0,.sl 4 0 0 0]::.box [.d x1,.sl 5 0 0 k,.sl 6 0 0 z]::.arr [] 0 0::.arr [] 0 0::.vec (aC 7 d++aH 0) 1 0::.arr cs 1 0::aK d=K:=⟨_,rfl⟩
  have hni:∀f,aF f (aH 0)=aH 0:=fun _=>rfl
  have hpk:pack h ord=K:=by
   have hrf:aF (aJ ord) (aC 7 d)=aC 7 d:=eI (c:=0) pr;rw[kP hA gr,<-hK];simp only[Ax,Ap,Ai,Ar,Aa,g0,g1,g2,g3,g4,g5,g6,Bb,mapO,aF,mapA,cU,hrf,hni,p3,p4,p5,p6,Aj]
  have hKD:K.drop 7=aK d++[]:=by rw[<-hK];exact(Aj _).symm
  have hgr:=nD hKD
  have hcm:cG 0 K=.box [.d y1,.d y2]::.box [.d x0,.sl 3 0 0 0,.sl 4 0 0 0]::.box [.d x1,.sl 5 0 0 k,.sl 6 0 0 z]::.arr [] 0 0::.arr [] 0 0::.vec (aC 7 d++aH 0) 1 0::.arr cs 1 0::aK d:=by
   have hrf:aS 0 K (aC 7 d)=aC 7 d:=fC hgr;have hnc:∀h:H,aS 0 h (aH 0)=aH 0:=fun _=>rfl;have q3:bB K 3=some 0:=by rw[<-hK];rfl
   have q4:bB K 4=some 0:=by rw[<-hK];rfl
   have q5:bB K 5=some 0:=by rw[<-hK];rfl
   have q6:bB K 6=some 0:=by rw[<-hK];rfl
   unfold cG;rw[fD]
   conv=>lhs;arg 2;rw[<-hK]
   simp only[Ai,bY,aS,bM,hU,eB,hrf,hnc,fX,q3,q4,q5,q6,Ca,if_false,if_true]
  subst hK;rw[aEl hh hids hr,hpk,hcm]
  have hmp:aF (aJ ord) (tidy m s)=aF (BP d.length) (tidy m s):=by
   apply kH;rw[hids];intro i hi;simp only[Av,Br,or_false]at hi
   rcases hi with rfl|rfl
   ·rw[p1,sN]
   ·rw[p2,r9]
  have hz2:aS 0 (O.box [.d y1,.d y2]::.box [.d x0,.sl 3 0 0 0,.sl 4 0 0 0]::.box [.d x1,.sl 5 0 0 k,.sl 6 0 0 z]::.arr [] 0 0::.arr [] 0 0::.vec (aC 7 d++aH 0) 1 0::.arr cs 1 0::aK d) (aF (aJ ord) (tidy m s))=aF (aJ ord) (tidy m s):=by
   exact kE (H4 (by simp[z0O,z0As,z0A,BZ,xZ,xC,G8])) _ (y9 _ hz)
  rw[hz2,hmp]
 ·rfl
end Ev
end Go.Proofs.YtppffbehejpglaaGreat
