/-
  Memory with rows: what is reached, in which order.
-/
import Derived.Test.YthlkcebdfbjdoaaGreatRead
import Derived.Test.YthlkcebdfbjdoaaGreatPrimX
set_option linter.unusedSimpArgs false
set_option linter.unusedVariables false
set_option linter.unusedSectionVars false
set_option maxRecDepth 8000
set_option maxHeartbeats 4000000
namespace Go.Proofs.YthlkcebdfbjdoaaGreat
namespace Ev
section
theorem aO0{h:H}{ids P T:List Nat}(hfix:P++T=ids++P.flatMap (kids h))(hT:∀i∈T,kids h i=[])(hprog:∀k,k<P.length->k<ids.length+((P.take k).flatMap (kids h)).length)(hnd:(P++T).Nodup)(hv:∀i∈P++T,∃o,h[i]? =some o/\o≠.void){n:Nat}(hf:(P++T).length<=n):aE n h ids []=P++T:=by
 generalize hL:P++T=L at *
 have hTf:T.flatMap (kids h)=[]:=by
  rw[List.flatMap_eq_nil_iff];exact hT
 have hLf:L.flatMap (kids h)=P.flatMap (kids h):=by rw[<-hL,List.flatMap_append,hTf,Aj]
 have fix:L=ids++L.flatMap (kids h):=by rw[hLf];exact hfix
 have prog:∀k,k<L.length->k<ids.length+((L.take k).flatMap (kids h)).length:=by
  intro k hk
  by_cases h1:k<P.length
  ·have:=hprog k h1;have e:L.take k=P.take k:=by rw[<-hL,List.take_append_of_le_length om]
   rw[e];exact this
  ·have e:(L.take k).flatMap (kids h)=P.flatMap (kids h):=by
    rw[<-hL,List.take_append,List.flatMap_append,Cd om]
    have:(T.take (k-P.length)).flatMap (kids h)=[]:=by
     rw[List.flatMap_eq_nil_iff];intro i hi;exact hT i (List.mem_of_mem_take hi)
    rw[this,Aj]
   rw[e];have:=congrArg List.length hfix;rw[Af]at this;omega
 have key:∀(n k:Nat),k<=L.length->L.length-k<=n->aE n h ((ids++(L.take k).flatMap (kids h)).drop k) (L.take k)=L:=by
  intro n
  induction n with
  |zero=>
   intro k hk hn;have:k=L.length:=om;subst this;simp only[aE,Cy]
  |succ n ih=>
   intro k hk hn
   by_cases hkl:k=L.length
   ·subst hkl;rw[Cy,<-fix,Bw];simp only[aE]
   ·have hk':k<L.length:=om;have hp:=prog k hk';have hX:k<(ids++(L.take k).flatMap (kids h)).length:=by rw[Af];exact hp
    have hget:(ids++(L.take k).flatMap (kids h))[k]'hX=L[k]:=by
     have e:L=(ids++(L.take k).flatMap (kids h))++(L.drop k).flatMap (kids h):=by
      rw[Al,<-List.flatMap_append,List.take_append_drop];exact fix
     have e2:L[k]? =(ids++(L.take k).flatMap (kids h))[k]?:=by
      conv=>lhs;rw[e]
      rw[Bc hX]
     rw[Ae hk',Ae hX]at e2;exact(Option.some.inj e2).symm
    rw[Dk hX,hget];obtain⟨o,ho,hov⟩:=hv L[k] (At hk')
    have hni:L[k]∉L.take k:=by
     intro hm;obtain⟨j,hj,he⟩:=Ca hm;rw[Bs]at hj;rw[List.getElem_take]at he;exact(List.pairwise_iff_getElem.1 hnd) j k om hk' om he
    have hc:(L.take k).contains L[k]=false:=by simpa using hni
    have hstep:aE (n+1) h (L[k]::(ids++(L.take k).flatMap (kids h)).drop (k+1)) (L.take k)=aE n h ((ids++(L.take k).flatMap (kids h)).drop (k+1)++kids h L[k]) (L.take k++[L[k]]):=by
     simp only[aE,hc,Ak,if_false,ho,kids]
     cases o<;>first|rfl|(simp;done)|exact absurd rfl hov
    rw[hstep];have ht:L.take (k+1)=L.take k++[L[k]]:=by rw[Ds,Ae hk'];rfl
    have hd:(ids++(L.take k).flatMap (kids h)).drop (k+1)++kids h L[k]=(ids++(L.take (k+1)).flatMap (kids h)).drop (k+1):=by
     rw[ht,List.flatMap_append,List.flatMap_singleton,<-Al];exact(List.drop_append_of_le_length hX).symm
    rw[hd,<-ht];exact ih (k+1) om om
 have:=key n 0 om om
 simpa using this
def aC(b:Nat):List (List Int)->List A
 | []=>[]
 |r::rs=>.sl b 0 0 r.length::aC (b+1) rs
def aK(rs:List (List Int)):H:=rs.map fun r=>.arr (r.map (.int .i64)) 1 0
theorem bU:∀(rs:List (List Int)) (b:Nat),idsL (aC b rs)=List.range' b rs.length
 | [],b=>by simp[aC,idsL]
 |r::rs,b=>by simp[aC,idsL,idsA,bU rs,Dr]
theorem fZ:∀(rs:List (List Int)) (b:Nat),(aC b rs).length=rs.length
 | [],b=>rfl
 |r::rs,b=>by simp[aC,fZ rs]
theorem FB:∀(rs:List (List Int)) (b:Nat) (r:List Int),aC b (rs++[r])=aC b rs++[.sl (b+rs.length) 0 0 r.length]
 | [],b,r=>by simp[aC]
 |q::rs,b,r=>by
  simp only[Ax,aC,FB rs,Ad];rw[show b+1+rs.length=b+(rs.length+1) by omega]
theorem aMA(rs:List (List Int))(r:List Int):aK rs++[.arr (r.map (.int .i64)) 1 0]=aK (rs++[r]):=by simp[aK]
theorem cC(rs:List (List Int)):(aK rs).length=rs.length:=by simp[aK]
theorem UZ{rs:List (List Int)}{i:Nat}{r:List Int}(h:rs[i]? =some r):(aK rs)[i]? =some (.arr (r.map (.int .i64)) 1 0):=by simp[aK,h]
theorem eL{f:Nat->Option Nat}{c:Nat}:∀ {rs:List (List Int)} {b d:Nat},(∀i,i<rs.length->f (b+i)=some (d+i))->aF f (aC b rs)=aC d rs
 | [],b,d,_=>by simp[aC,aF]
 |r::rs,b,d,h=>by
  have h0:=h 0 sm;simp only[Bu]at h0;simp only[aC,aF,mapA,h0]
  rw[eL (c:=c) (rs:=rs) (b:=b+1) (d:=d+1) fun i hi=>by
   have:=h (i+1) (by simp;omega);rw[show b+1+i=b+(i+1) by omega,this]
   congr 1;omega]
theorem aJQ(f:Nat->Option Nat)(rs:List (List Int)):(aK rs).map (mapO f)=aK rs:=by
 simp only[aK,List.map_map]<;>rfl
theorem aGm{h:H}{f:Nat->Option Nat}:∀ {rs:List (List Int)} {b:Nat},(∀i r,rs[i]? =some r->h[b+i]? =some (.arr (r.map (.int .i64)) 1 0))->(List.range' b rs.length).map (fun i=>mapO f (h.getD i default))=aK rs
 | [],b,_=>by simp[aK]
 |r::rs,b,hh=>by
  have h0:=hh 0 r rfl;simp only[Bu]at h0;simp only[Ad,Dr,Ai,Aa,h0,Bb]
  have:=aGm (h:=h) (f:=f) (rs:=rs) (b:=b+1) fun i q hq=>by
   rw[show b+1+i=b+(i+1) by omega];exact hh (i+1) q (by simpa using hq)
  simp only[Aa]at this;rw[this];rfl
mutual
theorem aPS{f:Nat->Option Nat}:∀a:A,(∀i∈idsA a,f i=some i)->mapA f a=a
 |.d x,_=>by simp only[mapA]
 |.sl id gen off len,h=>by simp only[mapA,h id (by simp[idsA])]
 |.ptr id gen off,h=>by simp only[mapA,h id (by simp[idsA])]
 |.mp id,h=>by simp only[mapA,h id (by simp[idsA])]
 |.clo g caps,h=>by simp only[mapA];rw[fC caps (by simpa only[idsA]using h)]
 |.agg cs,h=>by simp only[mapA];rw[fC cs (by simpa only[idsA]using h)]
 |.tup cs,h=>by simp only[mapA];rw[fC cs (by simpa only[idsA]using h)]
 |.junk,_=>by simp only[mapA]
theorem fC{f:Nat->Option Nat}:∀asx:List A,(∀i∈idsL asx,f i=some i)->aF f asx=asx
 | [],_=>by simp only[aF]
 |a::asx,h=>by
  simp only[idsL,Am]at h;simp only[aF];rw[aPS a fun i hi=>h i (.inl hi),fC asx fun i hi=>h i (.inr hi)]
end
mutual
def z0A:A->Bool
 |.sl _ g _ _=>g==0
 |.ptr _ g _=>g==0
 |.mp _=>true
 |.clo _ caps=>z0As caps
 |.agg cs=>z0As cs
 |.tup cs=>z0As cs
 |.d _=>true
 |.junk=>true
def z0As:List A->Bool
 | []=>true
 |a::asx=>z0A a&&z0As asx
end
mutual
theorem aOO{nf:Nat}{h:H}(hg:∀i g,bA h i=some g->g=0):∀a:A,z0A a=true->bM nf h a=a
 |.d x,_=>by simp only[bM]
 |.sl id gen off len,hz=>by
  simp only[z0A,beq_iff_eq]at hz;subst hz;simp only[bM,gP]
  split
  ·rfl
  ·cases hgo:bA h id with
   |none=>rfl
   |some g=>have:=hg id g hgo;subst this;simp
 |.ptr id gen off,hz=>by
  simp only[z0A,beq_iff_eq]at hz;subst hz;simp only[bM,I8]
  split
  ·rfl
  ·cases hgo:bA h id with
   |none=>rfl
   |some g=>have:=hg id g hgo;subst this;simp
 |.mp id,hz=>by simp only[bM]
 |.clo g caps,hz=>by simp only[bM];rw[j8 hg caps (by simpa only[z0A]using hz)]
 |.agg cs,hz=>by simp only[bM];rw[j8 hg cs (by simpa only[z0A]using hz)]
 |.tup cs,hz=>by simp only[bM];rw[j8 hg cs (by simpa only[z0A]using hz)]
 |.junk,_=>by simp only[bM]
theorem j8{nf:Nat}{h:H}(hg:∀i g,bA h i=some g->g=0):∀asx:List A,z0As asx=true->aR nf h asx=asx
 | [],_=>by simp only[aR]
 |a::asx,hz=>by
  simp only[z0As,Ar]at hz;simp only[aR];rw[aOO hg a hz.1,j8 hg asx hz.2]
end
def z0O:O->Bool
 |.arr _ _ g=>g==0
 |.box cs=>z0As cs
 |.ice _ _ g=>g==0
 |.vec cs _ g=>g==0&&z0As cs
 |.log _=>true
 |.mp _=>true
 |.void=>true
theorem HD{h:H}(hz:h.all z0O=true):∀i g,bA h i=some g->g=0:=by
 intro i g hg;unfold bA at hg
 cases ho:h[i]? with
 |none=>rw[ho]at hg;cases hg
 |some o=>
  have:=Bg.1 hz o (Bl ho);rw[ho]at hg
  cases o with
  |arr cs e g'=>simp only[Option.some.injEq]at hg;subst hg;simpa [z0O]using this
  |ice cs e g'=>simp only[Option.some.injEq]at hg;subst hg;simpa [z0O]using this
  |vec cs e g'=>simp only[Option.some.injEq]at hg;subst hg;simp only[z0O,Ar,beq_iff_eq]at this;exact this.1
  |_=>cases hg
theorem AO:∀(asx bs:List A),z0As (asx++bs)=(z0As asx&&z0As bs)
 | [],bs=>by simp[z0As]
 |a::asx,bs=>by simp[z0As,AO asx bs,Bool.and_assoc]
theorem wR:∀(rs:List (List Int)) (b:Nat),z0As (aC b rs)=true
 | [],b=>by simp[aC,z0As]
 |r::rs,b=>by simp[aC,z0As,z0A,wR rs]
theorem ID(rs:List (List Int)):(aK rs).all z0O=true:=by simp[aK,z0O]
def gcO(nf:Nat)(m:List Bool)(s:List A)(h:H):List A×H:=gc nf m s h
def aQ1(nf:Nat)(h:H)(ord:List Nat)(s:List A):List A×H:=trim nf h ord s
def aG(q:Nat):List A:=List.replicate q (.d .nils)
theorem aCY(q:Nat):aG (q+1)=.d .nils::aG q:=rfl
theorem aNo(q:Nat):(aG q).length=q:=by simp[aG]
theorem c7:∀q:Nat,idsL (aG q)=[]
 |0=>by simp[aG,idsL]
 |q+1=>by rw[aCY];simp[idsL,idsA,c7 q]
theorem xI:∀q:Nat,z0As (aG q)=true
 |0=>by simp[aG,z0As]
 |q+1=>by rw[aCY];simp[z0As,z0A,xI q]
section
variable{rs:List (List Int)}{q:Nat}
def aQN(nf:Nat)(h:H)(ids:List Nat):List Nat:=dA nf h ids
end
end
theorem WN{R:Type}{E:Env}{call:aX}{h:H}{f:FuncId}{args:List A}{r:A}{k:KA R}{id e g e2 g2:Nat}{cs cs2:List D}(hi:h[id]? =some (.arr cs e g))(hid:idsL args=[id])(hm:(E.hint f).mode=0)(hr:idsA r=[])(he:call f (aF (aJ [id]) args) [.arr cs e g]=some (r,[.arr cs2 e2 g2])):
  aZ E call h f args k=k r (h.set id (.arr cs2 e2 g2)):=by
 have hre:aE aH h [id] []=[id]:=by
  have e1:aE aH h [id] []=match h[id]? with
   |some (.box cs)=>aE (aH-1) h ([]++idsL cs) ([]++[id])
   |some (.vec cs _ _)=>aE (aH-1) h ([]++idsL cs) ([]++[id])
   |some .void=>aE (aH-1) h [] []
   |some _=>aE (aH-1) h [] ([]++[id])
   |none=>aE (aH-1) h [] []:=rfl
  rw[e1,hi];rfl
 have hpk:pack h [id]=[.arr cs e g]:=by
  simp only[pack,Ai,Aq,Aa,hi];rfl
 unfold aZ;rw[hid,hre,hpk]
 have hc:bT call E.hint [.arr cs e g] f (aF (aJ [id]) args)=some (r,[.arr cs2 e2 g2]):=by
  unfold bT;rw[hm];exact he
 rw[hc]
 have hcl:closed h [id] [id]=true:=by
  simp only[closed,Bt,Cc,hi];simp
 simp only[Ad,Ac,Ab,hcl,and_self,if_true,sF r hr];simp only[bI,mapO,Aq,Aj]
structure Aut where
 al:Int
 nx:List (List Int)
 ac:List Bool
 deriving DecidableEq,Inhabited
def rowD(r:List Int):D:=.ivs r.length (ints r)
def aI(rs:List (List Int)):List D:=rs.map rowD
def aD(l:List Bool):List D:=l.map .bool
theorem nC{l:List (List Int)}:(aI l).length=l.length:=by simp[aI]
theorem dO{l:List Bool}:(aD l).length=l.length:=by simp[aD]
theorem lZ{l:List Bool}{k:Nat}(h:l.length<=k):(aD l).take k=aD l:=Cd (by rw[dO];exact h)
theorem FM{l:List Bool}{k:Nat}(h:k<l.length):(((aD l).drop k).map A.d).head? =some (.d (.bool (l.getD k false))):=by
 rw[List.head?_map,Cz,aD,Bd,Aa,Ae h];rfl
theorem aGf{l:List Bool}{k:Nat}{v:Bool}(h:k<l.length):bG (aD l) k [.bool v]=aD (l.set k v):=xU _ l k v h
theorem V2{l:List (List Int)}{k:Nat}(h:k<l.length):(((aI l).drop k).map A.d).head? =some (.d (.ivs (l.getD k []).length (ints (l.getD k [])))):=by
 rw[List.head?_map,Cz,aI,Bd,Aa,Ae h];rfl
theorem sE{l:List (List Int)}{k:Nat}(h:l.length<=k):(aI l).take k=aI l:=Cd (by rw[nC];exact h)
theorem LA:type_of% (AI @nC (AI @dO (AI @lZ (AI @FM (AI @V2 @sE))))):=
 ⟨@nC,@dO,@lZ,@FM,@V2,@sE⟩
theorem aLf{α:Type}{l:List α}{k:Nat}{v:α}{m:List α}(h:k<l.length):(l.set k v).take (k+1)++m=l.take k++(v::m):=by
 rw[take_set h];simp
theorem VT:env.P.cellsOf 80=1:=kr
theorem L4(rs:List (List Int))(r:List Int):aK rs++[.arr (ints r) 1 0]=aK (rs++[r]):=aMA rs r
def aW(rs:List (List Int)):Prop:=rs.length<=4294967296/\∀r∈rs,r.length<=4294967296
theorem oK{rs:List (List Int)}(h:aW rs){k:Nat}(hk:k<rs.length):(rs.getD k []).length<=4294967296:=by
 rw[Aa,Ae hk];exact h.2 _ (At hk)
section
def autO(b:Nat)(rs:List (List Int))(ac:List Bool):H:=.vec (aC (b+2) rs++aG 0) 1 0::.arr (aD ac) 1 0::aK rs
def autA(v:Nat)(al:Int)(n m:Nat):A:=.agg [nI al,.sl v 0 0 n,.sl (v+1) 0 0 m]
def autD(al:Int)(rs:List (List Int))(ac:List Bool):A:=.agg [nI al,.d (.ivs rs.length (aI rs)),.d (.ivs ac.length (aD ac))]
structure Has(h:H)(v:Nat)(rs:List (List Int))(ac:List Bool):Prop where
 vec:h[v]? =some (.vec (aC (v+2) rs++aG 0) 1 0)
 acc:h[v+1]? =some (.arr (aD ac) 1 0)
 row:∀(i:Nat) (r:List Int),rs[i]? =some r->h[v+2+i]? =some (.arr (ints r) 1 0)
theorem PH{b:Nat}{rs:List (List Int)}{ac:List Bool}:(autO b rs ac).length=rs.length+2:=by simp[autO,cC]
theorem aRZ{h:H}{rs:List (List Int)}{ac:List Bool}:Has (h++autO h.length rs ac) h.length rs ac:=by
 refine⟨by simp[autO],by simp[autO],fun i r hr=> ?_⟩;rw[Bk om,show h.length+2+i-h.length=i+1+1 by omega];simp only[autO,Aw];exact UZ hr
theorem aRC{h h2:H}{v:Nat}{rs:List (List Int)}{ac:List Bool}(k:Has h v rs ac):Has (h++h2) v rs ac:=
 ⟨by rw[Bc (rN k.vec)];exact k.vec,by rw[Bc (rN k.acc)];exact k.acc,
  fun i r hr=>by rw[Bc (rN (k.row i r hr))];exact k.row i r hr⟩
theorem aDN{h:H}{b:Nat}{r:List Int}(hr:h[b]? =some (.arr (ints r) 1 0)):rd0 h (.sl b 0 0 r.length)=some (rowD r):=by
 simp only[rd0,hr,true_and,Ag,Ce,eN,Ab,if_true,Ba,cZ,rowD]
theorem aLr{h:H}:∀ {rs:List (List Int)} {b:Nat},(∀(i:Nat) (r:List Int),rs[i]? =some r->h[b+i]? =some (.arr (ints r) 1 0))->fJ (rd0 h) (aC b rs)=some (aI rs)
 | [],b,_=>rfl
 |r::rs,b,hh=>by
  have h0:=hh 0 r rfl;simp only[Bu]at h0
  simp only[aC,fJ,aDN h0,aLr (rs:=rs) (b:=b+1) fun i q hq=>by
   rw[show b+1+i=b+(i+1) by omega];exact hh (i+1) q (by simpa using hq)]
  rfl
theorem aSZ{h:H}{v:Nat}{rs:List (List Int)}{ac:List Bool}(k:Has h v rs ac):rd1 h (.sl v 0 0 rs.length)=some (.ivs rs.length (aI rs)):=by
 have hl:0+rs.length*1<=(aC (v+2) rs++aG 0).length:=by rw[Af,fZ];omega
 have hn:aG 0=[]:=rfl;simp only[rd1,k.vec];rw[if_pos ⟨trivial,hl⟩];simp only[hn,Aj,aLr k.row,Az,Ba,Ce,sE (Ab _)]
theorem aSG{h:H}{v:Nat}{rs:List (List Int)}{ac:List Bool}(k:Has h v rs ac):rd1 h (.sl (v+1) 0 0 ac.length)=some (.ivs ac.length (aD ac)):=by
 have hl:0+ac.length*1<=(aD ac).length:=by rw[dO];omega
 simp only[rd1,rd0,k.acc];rw[if_pos ⟨trivial,hl⟩];simp only[Ba,Ce,lZ (Ab _)]
theorem pP:∀(h h2:H),wgt (h++h2)=wgt h+wgt h2
 | [],h2=>by simp[wgt]
 |o::h,h2=>by cases o<;>simp[wgt,pP h h2]<;>omega
theorem GE(rs:List (List Int)):wgt (aK rs)=0:=by
 induction rs with
 |nil=>rfl
 |cons r rs ih=>simpa [aK,wgt]using ih
theorem aRU{b:Nat}{rs:List (List Int)}{ac:List Bool}:wgt (autO b rs ac)=rs.length:=by
 simp[autO,wgt,GE,bL,bU,c7]
def dU:O->List Nat
 |.box cs=>idsL cs
 |.vec cs _ _=>idsL cs
 |_=>[]
section
variable{h:H}{v:Nat}{rs:List (List Int)}{ac:List Bool}
theorem aLe{f:Nat->Option Nat}{b d:Nat}(hf:∀i,i<rs.length->f (b+i)=some (d+i)):mapO f (.vec (aC b rs++aG 0) 1 0)=.vec (aC d rs++aG 0) 1 0:=by
 have hn:aG 0=[]:=rfl;simp only[mapO,hn,Aj,eL (c:=0) hf]
theorem aH3{f:Nat->Option Nat}{al:Int}{n m a b:Nat}(h0:f a=some b)(h1:f (a+1)=some (b+1)):mapA f (autA a al n m)=autA b al n m:=by
 simp only[autA,mapA,aF,h0,h1]
theorem aJM{b n i:Nat}(hi:i<n):back [] b n i=some (b+i):=by
 unfold back;simp[hi]
theorem aPH{b n:Nat}(hn:n=rs.length+2):(autO 0 rs ac).map (mapO (back [] b n))=autO b rs ac:=by
 subst hn;unfold autO;rw[Ai,Ai,aJQ,aLe (d:=b+2) fun i hi=>by rw[aJM om];congr 1;omega];rfl
end
section
variable{E:Env}{call:aX}{h:H}{f:FuncId}
theorem aCO:∀ {rs rs2:List (List Int)} {b:Nat},rs2.map List.length=rs.map List.length->aC b rs2=aC b rs
 | [],[],b,_=>rfl
 | [],_::_,b,hl=>by simp at hl
 |_::_,[],b,hl=>by simp at hl
 |r::rs,q::rs2,b,hl=>by
  simp only[Ai,List.cons.injEq]at hl;simp only[aC,hl.1,aCO hl.2]
end
end
def aN:List (List Int)->Nat
 | []=>0
 |r::rs=>r.length+aN rs
section
section
variable{h h2:H}{nf:Nat}(hn:nf=h.length)(hk:∀o∈h,∀j∈dU o,j<nf)
include hn hk
end
theorem aGR{b k:Nat}:∀ {rs:List (List Int)} {b k:Nat},k<rs.length->((aC b rs++aG 0).drop k).head? =some (.sl (b+k) 0 0 (rs.getD k []).length)
 | [],b,k,h=>by simp at h
 |r::rs,b,0,h=>by simp[aC]
 |r::rs,b,k+1,h=>by
  simp only[aC,Ax,Dj];rw[aGR (b:=b) (k:=k) (by simpa using h)];simp only[List.getD_cons_succ]
  congr 2
  omega
theorem aJt{d:List (List Int)}{k:Nat}(h:k<d.length):(aK d)[k]? =some (.arr (ints (d.getD k [])) 1 0):=by
 rw[Aa,Ae h];exact UZ (Ae h)
theorem aOj{d:List (List Int)}{k:Nat}{r:List Int}:(aK d).set k (.arr (ints r) 1 0)=aK (d.set k r):=by
 unfold aK;rw[List.map_set];rfl
end
section
theorem P0{m:List Bool}{s:List A}{h:H}{ord:List Nat}(hr:aE aH h (idsL (tidy m s)) []=ord):gc 0 m s h=(aR 0 (pack h ord) (aF (aJ ord) (tidy m s)),cF 0 (pack h ord)):=by
 unfold gc trim;rw[VS];unfold aH at hr;rw[hr]
theorem eZ{h:H}:∀(os:H) (i:Nat),dP 0 h i os=os.map (bW 0 h 0)
 | [],_=>rfl
 |o::os,i=>by
  simp only[dP,Ai,eZ os (i+1)]
  cases o<;>simp[bW]
theorem fT{h:H}{rs:List (List Int)}:(aK rs).map (bW 0 h 0)=aK rs:=by
 simp[aK,bW]
theorem d8{nf:Nat}{h:H}:∀(xs ys:List A),aR nf h (xs++ys)=aR nf h xs++aR nf h ys
 | [],ys=>by simp[aR]
 |x::xs,ys=>by simp[aR,d8 xs ys]
theorem fD{h:H}:∀ {rs:List (List Int)} {b:Nat},(∀i,i<rs.length->bA h (b+i)=some 0)->aR 0 h (aC b rs)=aC b rs
 | [],b,_=>by simp[aC,aR]
 |r::rs,b,hh=>by
  have h0:=hh 0 sm;simp only[Bu]at h0;simp only[aC,aR,bM,gP,Bz,if_false,h0,if_true]
  rw[fD (rs:=rs) (b:=b+1) fun i hi=>by
   rw[show b+1+i=b+(i+1) by omega];exact hh (i+1) (by simp;omega)]
theorem aQi{f:Nat->Option Nat}{h:H}{b:Nat}{rs:List (List Int)}(hh:∀(i:Nat) (r:List Int),rs[i]? =some r->h[b+i]? =some (.arr (ints r) 1 0)):(List.range' b rs.length).map (fun i=>mapO f (h.getD i default))=aK rs:=aGm hh
theorem FW{rs:List (List Int)}{p:H}{i:Nat}{r:List Int}(h:rs[i]? =some r):(aK rs++p)[i]? =some (.arr (ints r) 1 0):=by
 rw[Bc (by rw[cC];exact rN h)];exact UZ h
theorem FL{b k:Nat}{rs:List (List Int)}(h:k=rs.length):(aC b rs++aG 0).take k=aC b rs:=by
 have hn:aG 0=[]:=rfl;rw[hn,Aj,Cd (by rw[fZ];omega)]
section
variable{x0 x1:D}{k z:Nat}{cs cr:List D}{d:List (List Int)}{p:H}
theorem bN{h:H}{i:Nat}{r:List D}{e g:Nat}(hr:h[i]? =some (.arr r e g)):kids h i=[]:=by simp only[kids,hr]
mutual
theorem aQG{f g:Nat->Option Nat}:∀a:A,(∀i∈idsA a,f i=g i)->mapA f a=mapA g a
 |.d x,_=>by simp only[mapA]
 |.sl id gen off len,hi=>by simp only[mapA,hi id (by simp[idsA])]
 |.ptr id gen off,hi=>by simp only[mapA,hi id (by simp[idsA])]
 |.mp id,hi=>by simp only[mapA,hi id (by simp[idsA])]
 |.clo q caps,hi=>by simp only[mapA];rw[kI caps (by simpa only[idsA]using hi)]
 |.agg cs,hi=>by simp only[mapA];rw[kI cs (by simpa only[idsA]using hi)]
 |.tup cs,hi=>by simp only[mapA];rw[kI cs (by simpa only[idsA]using hi)]
 |.junk,_=>by simp only[mapA]
theorem kI{f g:Nat->Option Nat}:∀xs:List A,(∀i∈idsL xs,f i=g i)->aF f xs=aF g xs
 | [],_=>by simp only[aF]
 |a::xs,hi=>by
  simp only[idsL,Am]at hi;simp only[aF];rw[aQG a fun i h=>hi i (.inl h),kI xs fun i h=>hi i (.inr h)]
end
mutual
theorem aRW{f:Nat->Option Nat}:∀a:A,z0A a=true->z0A (mapA f a)=true
 |.d x,_=>by simp only[mapA,z0A]
 |.sl id gen off len,hz=>by simp only[mapA];cases f id<;>first|rfl|exact hz
 |.ptr id gen off,hz=>by simp only[mapA];cases f id<;>first|rfl|exact hz
 |.mp id,hz=>by simp only[mapA];cases f id<;>first|rfl|exact hz
 |.clo q caps,hz=>by simp only[mapA,z0A]at hz|-;exact zK caps hz
 |.agg cs,hz=>by simp only[mapA,z0A]at hz|-;exact zK cs hz
 |.tup cs,hz=>by simp only[mapA,z0A]at hz|-;exact zK cs hz
 |.junk,_=>by simp only[mapA,z0A]
theorem zK{f:Nat->Option Nat}:∀xs:List A,z0As xs=true->z0As (aF f xs)=true
 | [],_=>by simp only[aF,z0As]
 |a::xs,hz=>by
  simp only[z0As,Ar]at hz;simp only[aF,z0As,Ar];exact⟨aRW a hz.1,zK xs hz.2⟩
end
end
theorem hY{h p:H}{d:List (List Int)}(B:Nat)(hd:h.drop B=aK d++p):∀(i:Nat) (r:List Int),d[i]? =some r->h[B+i]? =some (.arr (ints r) 1 0):=by
 intro i r hr;rw[<-List.getElem?_drop,hd];exact FW hr
theorem xH{h p:H}{d:List (List Int)}(B q:Nat)(hd:h.drop B=aK d++p){o:O}(ho:p[q]? =some o){j:Nat}(hj:j=d.length+(B+q)):h[j]? =some o:=by
 subst hj;rw[show d.length+(B+q)=B+(d.length+q) by omega,<-List.getElem?_drop,hd,Bk (by rw[cC];omega),cC,Du];exact ho
theorem iV{h:H}{d:List (List Int)}{B:Nat}(gr:∀(i:Nat) (r:List Int),d[i]? =some r->h[B+i]? =some (.arr (ints r) 1 0)):∀i∈List.range' B d.length,∃r:List Int,h[i]? =some (.arr (ints r) 1 0):=by
 intro i hi;rw[Cr]at hi;obtain⟨j,rfl⟩:∃j,i=B+j:=⟨i-B,by omega⟩
 exact⟨d[j]'om,gr j _ (Ae om)⟩
theorem fQ{h:H}{ids P T L:List Nat}{B n N:Nat}(hfix:P++(T++(List.range' B n++L))=ids++P.flatMap (kids h))(hprog:∀k,k<P.length->k<ids.length+((P.take k).flatMap (kids h)).length)
  (leaf:∀i∈List.range' B n,∃r:List Int,h[i]? =some (.arr (ints r) 1 0)) (hT:∀i∈T++L,∃cs e g,h[i]? =some (.arr cs e g)) (hP:∀i∈P,∃o,h[i]? =some o/\o≠.void)
  (hnd:(P++(T++L)).Nodup) (hout:∀i∈P++(T++L),i<B\/B+n<=i) (hf:P.length+T.length+n+L.length<=N):aE N h ids []=P++(T++(List.range' B n++L)):=by
 refine aO0 hfix ?_ hprog ?_ ?_ ?_
 ·intro i hi
  rcases Am.1 hi with h1|h1
  ·obtain⟨cs,e,g,h2⟩:=hT i (Am.2 (.inl h1));exact bN h2
  ·rcases Am.1 h1 with h2|h2
   ·obtain⟨r,hr⟩:=leaf i h2;exact bN hr
   ·obtain⟨cs,e,g,h3⟩:=hT i (Am.2 (.inr h2));exact bN h3
 ·have hp:(P++(T++(List.range' B n++L))).Perm (List.range' B n++(P++(T++L))):=by
   have e1:(T++(List.range' B n++L)).Perm (List.range' B n++(T++L)):=by
    rw[<-Al T _ L,<-Al _ T L];exact List.Perm.append_right L List.perm_append_comm
   refine(List.Perm.append_left P e1).trans ?_;rw[<-Al P _ (T++L),<-Al _ P (T++L)];exact List.Perm.append_right (T++L) List.perm_append_comm
  rw[hp.nodup_iff,Dq];refine⟨List.nodup_range',hnd,fun a ha b hb e=> ?_⟩;subst e;rw[Cr]at ha;have:=hout a hb;omega
 ·intro i hi
  rcases Am.1 hi with h1|h1
  ·exact hP i h1
  ·rcases Am.1 h1 with h1|h1
   ·obtain⟨cs,e,g,h2⟩:=hT i (Am.2 (.inl h1));exact⟨_,h2,by simp⟩
   ·rcases Am.1 h1 with h2|h2
    ·obtain⟨r,hr⟩:=leaf i h2;exact⟨_,hr,by simp⟩
    ·obtain⟨cs,e,g,h3⟩:=hT i (Am.2 (.inr h2));exact⟨_,h3,by simp⟩
 ·simp only[Af,Dv];omega
theorem iR{ord A L:List Nat}{B C n:Nat}(pk:∀i j,ord[j]? =some i->aJ ord i=some j)(ho:ord=A++(List.range' B n++L))(hA:A.length=C):∀i,i<n->aJ ord (B+i)=some (C+i):=by
 intro i hi;refine pk _ _ ?_;rw[ho,Bk om,hA,Du,Bc (by simpa using hi),List.getElem?_range' hi];simp
theorem TV{ord A L:List Nat}{B C n:Nat}(pk:∀i j,ord[j]? =some i->aJ ord i=some j)(ho:ord=A++(List.range' B n++L))(hA:A.length=C)(q:Nat){i j:Nat}(hq:L[q]? =some i)(hj:j=n+(C+q)):aJ ord i=some j:=by
 subst hj;refine pk _ _ ?_;rw[ho,Bk om,hA,show n+(C+q)-C=n+q by omega,Bk sm,Dv,Du];exact hq
theorem m4{K p:H}{d:List (List Int)}{C:Nat}(hd:K.drop C=aK d++p):∀i,i<d.length->bA K (C+i)=some 0:=by
 intro i hi;have:=hY C hd i _ (Ae hi);simp only[bA,this]
theorem kO{h:H}{ord A L:List Nat}{d:List (List Int)}{B:Nat}(ho:ord=A++(List.range' B d.length++L))(gr:∀(i:Nat) (r:List Int),d[i]? =some r->h[B+i]? =some (.arr (ints r) 1 0)):pack h ord=A.map (fun i=>mapO (aJ ord) (h.getD i default))++(aK d++L.map (fun i=>mapO (aJ ord) (h.getD i default))):=by
 unfold pack
 conv=>lhs;arg 2;rw[ho]
 rw[Ct,Ct,aQi gr]
end
mutual
theorem aQw{p:H}(h0:bA p 0=none):∀a:A,bM 1 p a=bM 0 p a
 |.d x=>by simp only[bM]
 |.sl id gen off len=>by
  simp only[bM,gP,Bz,if_false]
  by_cases hi:id<1
  ·obtain rfl:id=0:=om;simp[h0]
  ·rw[if_neg hi]
 |.ptr id gen off=>by
  simp only[bM,I8,Bz,if_false]
  by_cases hi:id<1
  ·obtain rfl:id=0:=om;simp[h0]
  ·rw[if_neg hi]
 |.mp id=>by simp only[bM]
 |.clo g cs=>by simp only[bM];rw[wT h0 cs]
 |.agg cs=>by simp only[bM];rw[wT h0 cs]
 |.tup cs=>by simp only[bM];rw[wT h0 cs]
 |.junk=>by simp only[bM]
theorem wT{p:H}(h0:bA p 0=none):∀xs:List A,aR 1 p xs=aR 0 p xs
 | []=>by simp only[aR]
 |x::xs=>by simp only[aR];rw[aQw h0 x,wT h0 xs]
end
theorem aPL{p:H}(h0:bA p 0=none){i:Nat}(hi:1<=i)(o:O):bW 1 p i o=bW 0 p i o:=by
 cases o<;>simp only[bW,Bz,if_false,wT h0,if_neg (show ¬i<1 by omega)]
theorem Z6{p:H}(h0:bA p 0=none):∀(os:H) (i:Nat),1<=i->dP 1 p i os=dP 0 p i os
 | [],i,_=>rfl
 |o::os,i,hi=>by simp only[dP];rw[aPL h0 hi,Z6 h0 os (i+1) om]
theorem aEm{x y:D}{t:H}{l:List Nat}{s:List A}:trim 1 (.box [.d x,.d y]::t) (0::l) s=trim 0 (.box [.d x,.d y]::t) (0::l) s:=by
 have hp:pack (.box [.d x,.d y]::t) (0::l)=.box [.d x,.d y]::l.map fun i=>mapO (aJ (0::l)) ((O.box [.d x,.d y]::t).getD i default):=by
  simp[pack,mapO,aF,mapA]
 have h0:bA (pack (.box [.d x,.d y]::t) (0::l)) 0=none:=by rw[hp];rfl
 unfold trim;rw[wT h0]
 congr 1
 unfold cF;generalize hq:pack (.box [.d x,.d y]::t) (0::l)=p at *;obtain⟨os,hos⟩:∃os,p=.box [.d x,.d y]::os:=⟨_,hp⟩
 have key:∀w:H,w=.box [.d x,.d y]::os->dP 1 p 0 w=dP 0 p 0 w:=by
  intro w hw;subst hw;simp only[dP];rw[Z6 h0 _ (0+1) (Ab _)];simp only[bW,aR,bM]
 exact key p hos
theorem aP4{x y:D}{t:H}{n:Nat}{l:List Nat}:aE (n+1) (.box [.d x,.d y]::t) (0::l) [0]=aE n (.box [.d x,.d y]::t) l [0]:=by
 simp[aE]
theorem O1{x y:D}{t:H}{n:Nat}{l:List Nat}:aE (n+1) (.box [.d x,.d y]::t) (0::l) []=aE n (.box [.d x,.d y]::t) l [0]:=by
 simp[aE,idsL,idsA]
theorem kJ:∀(n:Nat) (h:H) (todo acc:List Nat),∃q,aE n h todo acc=acc++q
 |0,h,todo,acc=>⟨[],by simp[aE]⟩
 |n+1,h,[],acc=>⟨[],by simp[aE]⟩
 |n+1,h,i::todo,acc=>by
  unfold aE
  split
  ·exact kJ n h todo acc
  ·split
   ·obtain⟨q,hq⟩:=kJ n h (todo++idsL _) (acc++[i]);exact⟨i::q,by rw[hq];simp⟩
   ·obtain⟨q,hq⟩:=kJ n h (todo++idsL _) (acc++[i]);exact⟨i::q,by rw[hq];simp⟩
   ·exact kJ n h todo acc
   ·obtain⟨q,hq⟩:=kJ n h todo (acc++[i]);exact⟨i::q,by rw[hq];simp⟩
   ·exact kJ n h todo acc
theorem aRk{x y:D}{t:H}{l:List Nat}:dA 1 (.box [.d x,.d y]::t) (0::l)=dA 0 (.box [.d x,.d y]::t) (0::l):=by
 rw[tF,tF];have e1:eK (List.take 1 (O.box [.d x,.d y]::t))++0::l=0::l:=by simp[eK,idsL,idsA]
 have e2:eK (List.take 0 (O.box [.d x,.d y]::t))++0::l=0::l:=by simp[eK]
 have e3:List.range 1=[0]:=rfl;have e4:List.range 0=([]:List Nat):=rfl;rw[e1,e2,e3,e4,show(1099511627776:Nat)=1099511627775+1 from rfl,aP4,O1]
theorem aJN{x y:D}{t:H}{l:List Nat}:dA 1 (.box [.d x,.d y]::t) l=aE (aH+1) (.box [.d x,.d y]::t) (0::l) []:=by
 rw[tF,O1];have e1:eK (List.take 1 (O.box [.d x,.d y]::t))++l=l:=by simp[eK,idsL,idsA]
 have e3:List.range 1=[0]:=rfl;rw[e1,e3];rfl
theorem aTc{m:List Bool}{s:List A}{x y:D}{t:H}{l:List Nat}(hid:idsL (tidy m s)=0::l):gc 1 m s (.box [.d x,.d y]::t)=gc 0 m s (.box [.d x,.d y]::t):=by
 unfold gc;rw[hid,aRk];obtain⟨q,hq⟩:=kJ 1099511627775 (.box [.d x,.d y]::t) l [0]
 have:dA 0 (.box [.d x,.d y]::t) (0::l)=0::q:=by
  rw[tF];have e2:eK (List.take 0 (O.box [.d x,.d y]::t))++0::l=0::l:=by simp[eK]
  have e4:List.range 0=([]:List Nat):=rfl;rw[e2,e4,show(1099511627776:Nat)=1099511627775+1 from rfl,O1,hq];rfl
 rw[this,aEm]
theorem VA{m:List Bool}{s:List A}{x y:D}{t h:H}{l:List Nat}(hh:O.box [.d x,.d y]::t=h)(hid:idsL (tidy m s)=0::l):gc 1 m s h=gc 0 m s h:=by
 subst hh;exact aTc hid
theorem aCs{m:List Bool}{s:List A}{x y:D}{t h:H}{l ord:List Nat}(hh:O.box [.d x,.d y]::t=h)(hi:idsL (tidy m s)=l)(hr:aE (aH+1) h (0::l) []=ord):gc 1 m s h=(aR 0 (pack h ord) (aF (aJ ord) (tidy m s)),cF 0 (pack h ord)):=by
 subst hh;unfold gc;rw[hi,aJN,hr];obtain⟨q,hq⟩:=kJ aH (.box [.d x,.d y]::t) l [0]
 have e:ord=0::q:=by
  rw[<-hr,O1,hq];rfl
 rw[e,aEm];rfl
def XH(n:Nat)(ids:List Nat):Bool:=decide (ids=[3,n+8])
theorem aMO{n:Nat}{ke2:Nat}(he2:ke2=n+8):XH n [3,ke2]=true:=by subst he2;simp[XH]
def F4(n i:Nat):Option Nat:=if i=0 then some 0 else if i=3 then some 1 else if i=n+8 then some 2 else none
theorem aGT{n:Nat}:F4 n 3=some (1):=by unfold F4;repeat (first|rfl|rw[if_pos rfl]|rw[if_neg om])
theorem aD6{n k:Nat}(h:k=n+8):F4 n k=some (2):=by subst h;unfold F4;repeat (first|rfl|rw[if_pos rfl]|rw[if_neg om])
theorem aR7{m:List Bool}{s:List A}{y1 y2 x0 x1:D}{k z:Nat}{cs:List D}{d:List (List Int)}(hl:d.length<=4294967296):gc 1 m s (.box [.d y1,.d y2]::.arr [] 0 0::.arr [] 0 0::.box [.d x0,.sl 1 0 0 0,.sl 2 0 0 0]::.vec (aC 6 d++aG 0) 1 0::.arr cs 1 0::(aK d++[.arr [] 0 0,.arr [] 0 0,.box [.d x1,.sl 4 0 0 k,.sl 5 0 0 z]]))=match box (tidy m s)with
  |.mk s1=>if XH d.length (idsL s1)=true/\z0As s1=true then(aF (F4 d.length) s1,.box [.d y1,.d y2]::.box [.d x0,.sl 3 0 0 0,.sl 4 0 0 0]::.box [.d x1,.sl 5 0 0 k,.sl 6 0 0 z]::.arr [] 0 0::.arr [] 0 0::.vec (aC 7 d++aG 0) 1 0::.arr cs 1 0::aK d)else gcO 1 m s (.box [.d y1,.d y2]::.arr [] 0 0::.arr [] 0 0::.box [.d x0,.sl 1 0 0 0,.sl 2 0 0 0]::.vec (aC 6 d++aG 0) 1 0::.arr cs 1 0::(aK d++[.arr [] 0 0,.arr [] 0 0,.box [.d x1,.sl 4 0 0 k,.sl 5 0 0 z]]))
  |.no=>([],[]):=by
 simp only[box]
 split
 ·rename_i hc
  obtain⟨hb,hz⟩:=hc;have hids:idsL (tidy m s)=[3,d.length+8]:=by simpa [XH]using hb
  obtain⟨h,hh⟩:∃h:H,O.box [.d y1,.d y2]::.arr [] 0 0::.arr [] 0 0::.box [.d x0,.sl 1 0 0 0,.sl 2 0 0 0]::.vec (aC 6 d++aG 0) 1 0::.arr cs 1 0::(aK d++[.arr [] 0 0,.arr [] 0 0,.box [.d x1,.sl 4 0 0 k,.sl 5 0 0 z]])=h:=⟨_,rfl⟩
  conv=>lhs;rw[hh]
  have g0:h[0]? =some (.box [.d y1,.d y2]):=by rw[<-hh];rfl
  have g1:h[1]? =some (.arr [] 0 0):=by rw[<-hh];rfl
  have g2:h[2]? =some (.arr [] 0 0):=by rw[<-hh];rfl
  have g3:h[3]? =some (.box [.d x0,.sl 1 0 0 0,.sl 2 0 0 0]):=by rw[<-hh];rfl
  have g4:h[4]? =some (.vec (aC 6 d++aG 0) 1 0):=by rw[<-hh];rfl
  have g5:h[5]? =some (.arr cs 1 0):=by rw[<-hh];rfl
  have hD:h.drop 6=aK d++[.arr [] 0 0,.arr [] 0 0,.box [.d x1,.sl 4 0 0 k,.sl 5 0 0 z]]:=by rw[<-hh];rfl
  have gr:=hY 6 hD;have ge2:h[d.length+8]? =some (.box [.d x1,.sl 4 0 0 k,.sl 5 0 0 z]):=xH 6 2 hD rfl om;have k0:kids h (0)=[]:=by simp[kids,g0,idsL,idsA]
  have k3:kids h (3)=[1,2]:=by simp[kids,g3,idsL,idsA]
  have ke2:kids h (d.length+8)=[4,5]:=by simp[kids,ge2,idsL,idsA]
  have k1:kids h (1)=[]:=bN g1;have k2:kids h (2)=[]:=bN g2;have k4:kids h (4)=List.range' 6 d.length:=by simp[kids,g4,bL,bU,c7]
  have leaf:=iV gr;have hr:aE (aH+1) h [0,3,d.length+8] []=[0,3,d.length+8,1,2,4]++([5]++(List.range' 6 d.length++[])):=fQ (by simp[k0,k3,ke2,k1,k2,k4]) (by intro q hq;simp only[Ad,Ac]at hq;have:q=0\/q=1\/q=2\/q=3\/q=4\/q=5:=om;rcases this with rfl|rfl|rfl|rfl|rfl|rfl<;>simp[k0,k3,ke2,k1,k2]) leaf (by intro i hi;simp at hi;subst hi;exact⟨_,_,_,by assumption⟩) (by intro i hi;simp at hi;rcases hi with rfl|rfl|rfl|rfl|rfl|rfl<;>exact⟨_,by assumption,by simp⟩) (by simp<;>omega) (by intro i hi;simp at hi;omega) (by simp only[aH,Ad,Ac];omega);generalize hord:[0,3,d.length+8,1,2,4]++([5]++(List.range' 6 d.length++[]))=ord at hr;have hA:ord=([0,3,d.length+8,1,2,4]++[5])++(List.range' 6 d.length++[]):=by rw[<-hord,Al]
  have pk:∀i j,ord[j]? =some i->aJ ord i=some j:=fun i j h1=>dD (by rw[<-hr];exact bS (aH+1) h _ [] sm) h1;have p0:=pk (0) 0 (by rw[<-hord];rfl);have p3:=pk (3) 1 (by rw[<-hord];rfl);have pe2:=pk (d.length+8) 2 (by rw[<-hord];rfl);have p1:=pk (1) 3 (by rw[<-hord];rfl);have p2:=pk (2) 4 (by rw[<-hord];rfl);have p4:=pk (4) 5 (by rw[<-hord];rfl);have p5:=pk (5) 6 (by rw[<-hord];rfl);have pr:=iR (C:=7) pk hA rfl;obtain⟨K,hK⟩:∃K:H,O.box [.d y1,.d y2]::.box [.d x0,.sl 3 0 0 0,.sl 4 0 0 0]::.box [.d x1,.sl 5 0 0 k,.sl 6 0 0 z]::.arr [] 0 0::.arr [] 0 0::.vec (aC 7 d++aG 0) 1 0::.arr cs 1 0::aK d=K:=⟨_,rfl⟩
  have hni:∀f,aF f (aG 0)=aG 0:=fun _=>rfl
  have hpk:pack h ord=K:=by
   have hrf:aF (aJ ord) (aC 6 d)=aC 7 d:=eL (c:=0) pr;rw[kO hA gr,<-hK];simp only[Ax,Ao,Ai,Aq,Aa,g0,g3,ge2,g1,g2,g4,g5,Bb,mapO,aF,mapA,cR,hrf,hni,p1,p2,p4,p5,Aj]
  have hKD:K.drop 7=aK d++[]:=by rw[<-hK];exact(Aj _).symm
  have hgr:=m4 hKD
  have hcm:cF 0 K=.box [.d y1,.d y2]::.box [.d x0,.sl 3 0 0 0,.sl 4 0 0 0]::.box [.d x1,.sl 5 0 0 k,.sl 6 0 0 z]::.arr [] 0 0::.arr [] 0 0::.vec (aC 7 d++aG 0) 1 0::.arr cs 1 0::aK d:=by
   have hrf:aR 0 K (aC 7 d)=aC 7 d:=fD hgr;have hnc:∀h:H,aR 0 h (aG 0)=aG 0:=fun _=>rfl;have q3:bA K 3=some 0:=by rw[<-hK];rfl
   have q4:bA K 4=some 0:=by rw[<-hK];rfl
   have q5:bA K 5=some 0:=by rw[<-hK];rfl
   have q6:bA K 6=some 0:=by rw[<-hK];rfl
   unfold cF;rw[eZ]
   conv=>lhs;arg 2;rw[<-hK]
   simp only[Ai,bW,aR,bM,gP,d8,hrf,hnc,fT,q3,q4,q5,q6,Bz,if_false,if_true]
  subst hK;rw[aCs hh hids hr,hpk,hcm]
  have hmp:aF (aJ ord) (tidy m s)=aF (F4 d.length) (tidy m s):=by
   apply kI;rw[hids];intro i hi;simp only[Av,Bp,or_false]at hi
   rcases hi with rfl|rfl
   ·rw[p3,aGT]
   ·rw[pe2,aD6 rfl]
  have hz2:aR 0 (O.box [.d y1,.d y2]::.box [.d x0,.sl 3 0 0 0,.sl 4 0 0 0]::.box [.d x1,.sl 5 0 0 k,.sl 6 0 0 z]::.arr [] 0 0::.arr [] 0 0::.vec (aC 7 d++aG 0) 1 0::.arr cs 1 0::aK d) (aF (aJ ord) (tidy m s))=aF (aJ ord) (tidy m s):=by
   exact j8 (HD (by simp[z0O,z0As,z0A,AO,wR,xI,ID])) _ (zK _ hz)
  rw[hz2,hmp]
 ·rfl
def A5(n i:Nat):Option Nat:=if i=0 then some 0 else if i=1 then some 1 else if i=2 then some 2 else none
theorem rI{n:Nat}:A5 n 1=some (1):=by unfold A5;repeat (first|rfl|rw[if_pos rfl]|rw[if_neg om])
theorem rR{n:Nat}:A5 n 2=some (2):=by unfold A5;repeat (first|rfl|rw[if_pos rfl]|rw[if_neg om])
theorem F3{m:List Bool}{s:List A}{y1 y2 x0 x1:D}{k z:Nat}{cs:List D}{d:List (List Int)}(hl:d.length<=4294967296):gc 1 m s (.box [.d y1,.d y2]::.box [.d x0,.sl 3 0 0 0,.sl 4 0 0 0]::.box [.d x1,.sl 5 0 0 k,.sl 6 0 0 z]::.arr [] 0 0::.arr [] 0 0::.vec (aC 7 d++aG 0) 1 0::.arr cs 1 0::aK d)=match box (tidy m s)with
  |.mk s1=>if idsL s1=[1,2]/\z0As s1=true then(aF (A5 d.length) s1,.box [.d y1,.d y2]::.box [.d x0,.sl 3 0 0 0,.sl 4 0 0 0]::.box [.d x1,.sl 5 0 0 k,.sl 6 0 0 z]::.arr [] 0 0::.arr [] 0 0::.vec (aC 7 d++aG 0) 1 0::.arr cs 1 0::aK d)else gcO 1 m s (.box [.d y1,.d y2]::.box [.d x0,.sl 3 0 0 0,.sl 4 0 0 0]::.box [.d x1,.sl 5 0 0 k,.sl 6 0 0 z]::.arr [] 0 0::.arr [] 0 0::.vec (aC 7 d++aG 0) 1 0::.arr cs 1 0::aK d)
  |.no=>([],[]):=by
 simp only[box]
 split
 ·rename_i hc
  obtain⟨hb,hz⟩:=hc;have hids:idsL (tidy m s)=[1,2]:=by exact hb
  obtain⟨h,hh⟩:∃h:H,O.box [.d y1,.d y2]::.box [.d x0,.sl 3 0 0 0,.sl 4 0 0 0]::.box [.d x1,.sl 5 0 0 k,.sl 6 0 0 z]::.arr [] 0 0::.arr [] 0 0::.vec (aC 7 d++aG 0) 1 0::.arr cs 1 0::aK d=h:=⟨_,rfl⟩
  conv=>lhs;rw[hh]
  have g0:h[0]? =some (.box [.d y1,.d y2]):=by rw[<-hh];rfl
  have g1:h[1]? =some (.box [.d x0,.sl 3 0 0 0,.sl 4 0 0 0]):=by rw[<-hh];rfl
  have g2:h[2]? =some (.box [.d x1,.sl 5 0 0 k,.sl 6 0 0 z]):=by rw[<-hh];rfl
  have g3:h[3]? =some (.arr [] 0 0):=by rw[<-hh];rfl
  have g4:h[4]? =some (.arr [] 0 0):=by rw[<-hh];rfl
  have g5:h[5]? =some (.vec (aC 7 d++aG 0) 1 0):=by rw[<-hh];rfl
  have g6:h[6]? =some (.arr cs 1 0):=by rw[<-hh];rfl
  have hD:h.drop 7=aK d++[]:=by rw[<-hh];exact(Aj _).symm
  have gr:=hY 7 hD;have k0:kids h (0)=[]:=by simp[kids,g0,idsL,idsA]
  have k1:kids h (1)=[3,4]:=by simp[kids,g1,idsL,idsA]
  have k2:kids h (2)=[5,6]:=by simp[kids,g2,idsL,idsA]
  have k3:kids h (3)=[]:=bN g3;have k4:kids h (4)=[]:=bN g4;have k5:kids h (5)=List.range' 7 d.length:=by simp[kids,g5,bL,bU,c7]
  have leaf:=iV gr;have hr:aE (aH+1) h [0,1,2] []=[0,1,2,3,4,5]++([6]++(List.range' 7 d.length++[])):=fQ (by simp[k0,k1,k2,k3,k4,k5]) (by intro q hq;simp only[Ad,Ac]at hq;have:q=0\/q=1\/q=2\/q=3\/q=4\/q=5:=om;rcases this with rfl|rfl|rfl|rfl|rfl|rfl<;>simp[k0,k1,k2,k3,k4]) leaf (by intro i hi;simp at hi;subst hi;exact⟨_,_,_,by assumption⟩) (by intro i hi;simp at hi;rcases hi with rfl|rfl|rfl|rfl|rfl|rfl<;>exact⟨_,by assumption,by simp⟩) (by simp<;>omega) (by intro i hi;simp at hi;omega) (by simp only[aH,Ad,Ac];omega);generalize hord:[0,1,2,3,4,5]++([6]++(List.range' 7 d.length++[]))=ord at hr;have hA:ord=([0,1,2,3,4,5]++[6])++(List.range' 7 d.length++[]):=by rw[<-hord,Al]
  have pk:∀i j,ord[j]? =some i->aJ ord i=some j:=fun i j h1=>dD (by rw[<-hr];exact bS (aH+1) h _ [] sm) h1;have p0:=pk (0) 0 (by rw[<-hord];rfl);have p1:=pk (1) 1 (by rw[<-hord];rfl);have p2:=pk (2) 2 (by rw[<-hord];rfl);have p3:=pk (3) 3 (by rw[<-hord];rfl);have p4:=pk (4) 4 (by rw[<-hord];rfl);have p5:=pk (5) 5 (by rw[<-hord];rfl);have p6:=pk (6) 6 (by rw[<-hord];rfl);have pr:=iR (C:=7) pk hA rfl;obtain⟨K,hK⟩:∃K:H,O.box [.d y1,.d y2]::.box [.d x0,.sl 3 0 0 0,.sl 4 0 0 0]::.box [.d x1,.sl 5 0 0 k,.sl 6 0 0 z]::.arr [] 0 0::.arr [] 0 0::.vec (aC 7 d++aG 0) 1 0::.arr cs 1 0::aK d=K:=⟨_,rfl⟩
  have hni:∀f,aF f (aG 0)=aG 0:=fun _=>rfl
  have hpk:pack h ord=K:=by
   have hrf:aF (aJ ord) (aC 7 d)=aC 7 d:=eL (c:=0) pr;rw[kO hA gr,<-hK];simp only[Ax,Ao,Ai,Aq,Aa,g0,g1,g2,g3,g4,g5,g6,Bb,mapO,aF,mapA,cR,hrf,hni,p3,p4,p5,p6,Aj]
  have hKD:K.drop 7=aK d++[]:=by rw[<-hK];exact(Aj _).symm
  have hgr:=m4 hKD
  have hcm:cF 0 K=.box [.d y1,.d y2]::.box [.d x0,.sl 3 0 0 0,.sl 4 0 0 0]::.box [.d x1,.sl 5 0 0 k,.sl 6 0 0 z]::.arr [] 0 0::.arr [] 0 0::.vec (aC 7 d++aG 0) 1 0::.arr cs 1 0::aK d:=by
   have hrf:aR 0 K (aC 7 d)=aC 7 d:=fD hgr;have hnc:∀h:H,aR 0 h (aG 0)=aG 0:=fun _=>rfl;have q3:bA K 3=some 0:=by rw[<-hK];rfl
   have q4:bA K 4=some 0:=by rw[<-hK];rfl
   have q5:bA K 5=some 0:=by rw[<-hK];rfl
   have q6:bA K 6=some 0:=by rw[<-hK];rfl
   unfold cF;rw[eZ]
   conv=>lhs;arg 2;rw[<-hK]
   simp only[Ai,bW,aR,bM,gP,d8,hrf,hnc,fT,q3,q4,q5,q6,Bz,if_false,if_true]
  subst hK;rw[aCs hh hids hr,hpk,hcm]
  have hmp:aF (aJ ord) (tidy m s)=aF (A5 d.length) (tidy m s):=by
   apply kI;rw[hids];intro i hi;simp only[Av,Bp,or_false]at hi
   rcases hi with rfl|rfl
   ·rw[p1,rI]
   ·rw[p2,rR]
  have hz2:aR 0 (O.box [.d y1,.d y2]::.box [.d x0,.sl 3 0 0 0,.sl 4 0 0 0]::.box [.d x1,.sl 5 0 0 k,.sl 6 0 0 z]::.arr [] 0 0::.arr [] 0 0::.vec (aC 7 d++aG 0) 1 0::.arr cs 1 0::aK d) (aF (aJ ord) (tidy m s))=aF (aJ ord) (tidy m s):=by
   exact j8 (HD (by simp[z0O,z0As,z0A,AO,wR,xI,ID])) _ (zK _ hz)
  rw[hz2,hmp]
 ·rfl
end Ev
end Go.Proofs.YthlkcebdfbjdoaaGreat
