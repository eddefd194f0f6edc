/-
  Memory with rows: what is reached, in which order.
-/
import Derived.Test.YthlkcebdfbjdoaaGreatRead
import Derived.Test.YthlkcebdfbjdoaaGreatShlx
set_option linter.unusedSimpArgs false
set_option linter.unusedVariables false
set_option maxRecDepth 8000
set_option maxHeartbeats 4000000
namespace Go.Proofs.YthlkcebdfbjdoaaGreat
namespace Ev
section
theorem aLG{h:H}{ids P T:List Nat}(hfix:P++T=ids++P.flatMap (kids h))(hT:∀i∈T,kids h i=[])(hprog:∀k,k<P.length->k<ids.length+((P.take k).flatMap (kids h)).length)(hnd:(P++T).Nodup)(hv:∀i∈P++T,∃o,h[i]? =some o/\o≠.void){n:Nat}(hf:(P++T).length<=n):aD n h ids []=P++T:=by
 generalize hL:P++T=L at *
 have hTf:T.flatMap (kids h)=[]:=by
  rw[List.flatMap_eq_nil_iff];exact hT
 have hLf:L.flatMap (kids h)=P.flatMap (kids h):=by rw[<-hL,List.flatMap_append,hTf,Ai]
 have fix:L=ids++L.flatMap (kids h):=by rw[hLf];exact hfix
 have prog:∀k,k<L.length->k<ids.length+((L.take k).flatMap (kids h)).length:=by
  intro k hk
  by_cases h1:k<P.length
  ·have:=hprog k h1;have e:L.take k=P.take k:=by rw[<-hL,List.take_append_of_le_length om]
   rw[e];exact this
  ·have e:(L.take k).flatMap (kids h)=P.flatMap (kids h):=by
    rw[<-hL,List.take_append,List.flatMap_append,Cf om]
    have:(T.take (k-P.length)).flatMap (kids h)=[]:=by
     rw[List.flatMap_eq_nil_iff];intro i hi;exact hT i (List.mem_of_mem_take hi)
    rw[this,Ai]
   rw[e];have:=congrArg List.length hfix;rw[Af]at this;omega
 have key:∀(n k:Nat),k<=L.length->L.length-k<=n->aD n h ((ids++(L.take k).flatMap (kids h)).drop k) (L.take k)=L:=by
  intro n
  induction n with
  |zero=>
   intro k hk hn;have:k=L.length:=om;subst this;simp only[aD,Cx]
  |succ n ih=>
   intro k hk hn
   by_cases hkl:k=L.length
   ·subst hkl;rw[Cx,<-fix,Bz];simp only[aD]
   ·have hk':k<L.length:=om;have hp:=prog k hk';have hX:k<(ids++(L.take k).flatMap (kids h)).length:=by rw[Af];exact hp
    have hget:(ids++(L.take k).flatMap (kids h))[k]'hX=L[k]:=by
     have e:L=(ids++(L.take k).flatMap (kids h))++(L.drop k).flatMap (kids h):=by
      rw[Am,<-List.flatMap_append,List.take_append_drop];exact fix
     have e2:L[k]? =(ids++(L.take k).flatMap (kids h))[k]?:=by
      conv=>lhs;rw[e]
      rw[Ba hX]
     rw[Ae hk',Ae hX]at e2;exact(Option.some.inj e2).symm
    rw[Dp hX,hget];obtain⟨o,ho,hov⟩:=hv L[k] (Az hk')
    have hni:L[k]∉L.take k:=by
     intro hm;obtain⟨j,hj,he⟩:=Ck hm;rw[Bt]at hj;rw[List.getElem_take]at he;exact(List.pairwise_iff_getElem.1 hnd) j k om hk' om he
    have hc:(L.take k).contains L[k]=false:=by simpa using hni
    have hstep:aD (n+1) h (L[k]::(ids++(L.take k).flatMap (kids h)).drop (k+1)) (L.take k)=aD n h ((ids++(L.take k).flatMap (kids h)).drop (k+1)++kids h L[k]) (L.take k++[L[k]]):=by
     simp only[aD,hc,Ak,if_false,ho,kids]
     cases o<;>first|rfl|(simp;done)|exact absurd rfl hov
    rw[hstep];have ht:L.take (k+1)=L.take k++[L[k]]:=by rw[List.take_add_one,Ae hk'];rfl
    have hd:(ids++(L.take k).flatMap (kids h)).drop (k+1)++kids h L[k]=(ids++(L.take (k+1)).flatMap (kids h)).drop (k+1):=by
     rw[ht,List.flatMap_append,List.flatMap_singleton,<-Am];exact(List.drop_append_of_le_length hX).symm
    rw[hd,<-ht];exact ih (k+1) om om
 have:=key n 0 om om
 simpa using this
def aC(b:Nat):List (List Int)->List A
 | []=>[]
 |r::rs=>.sl b 0 0 r.length::aC (b+1) rs
def aH(rs:List (List Int)):H:=rs.map fun r=>.arr (r.map (.int .i64)) 1 0
theorem bQ:∀(rs:List (List Int)) (b:Nat),idsL (aC b rs)=List.range' b rs.length
 | [],b=>by simp[aC,idsL]
 |r::rs,b=>by simp[aC,idsL,idsA,bQ rs,Dn]
theorem fP:∀(rs:List (List Int)) (b:Nat),(aC b rs).length=rs.length
 | [],b=>rfl
 |r::rs,b=>by simp[aC,fP rs]
theorem D5:∀(rs:List (List Int)) (b:Nat) (r:List Int),aC b (rs++[r])=aC b rs++[.sl (b+rs.length) 0 0 r.length]
 | [],b,r=>by simp[aC]
 |q::rs,b,r=>by
  simp only[Av,aC,D5 rs,Ad];rw[show b+1+rs.length=b+(rs.length+1) by omega]
theorem aK3(rs:List (List Int))(r:List Int):aH rs++[.arr (r.map (.int .i64)) 1 0]=aH (rs++[r]):=by simp[aH]
theorem b8(rs:List (List Int)):(aH rs).length=rs.length:=by simp[aH]
theorem TW{rs:List (List Int)}{i:Nat}{r:List Int}(h:rs[i]? =some r):(aH rs)[i]? =some (.arr (r.map (.int .i64)) 1 0):=by simp[aH,h]
theorem eB{f:Nat->Option Nat}{c:Nat}:∀ {rs:List (List Int)} {b d:Nat},(∀i,i<rs.length->f (b+i)=some (d+i))->aE f (aC b rs)=aC d rs
 | [],b,d,_=>by simp[aC,aE]
 |r::rs,b,d,h=>by
  have h0:=h 0 sm;simp only[Bs]at h0;simp only[aC,aE,mapA,h0]
  rw[eB (c:=c) (rs:=rs) (b:=b+1) (d:=d+1) fun i hi=>by
   have:=h (i+1) (by simp;omega);rw[show b+1+i=b+(i+1) by omega,this]
   congr 1;omega]
theorem aGH(f:Nat->Option Nat)(rs:List (List Int)):(aH rs).map (mapO f)=aH rs:=by
 simp only[aH,List.map_map]<;>rfl
theorem aEJ{h:H}{f:Nat->Option Nat}:∀ {rs:List (List Int)} {b:Nat},(∀i r,rs[i]? =some r->h[b+i]? =some (.arr (r.map (.int .i64)) 1 0))->(List.range' b rs.length).map (fun i=>mapO f (h.getD i default))=aH rs
 | [],b,_=>by simp[aH]
 |r::rs,b,hh=>by
  have h0:=hh 0 r rfl;simp only[Bs]at h0;simp only[Ad,Dn,Ah,Aa,h0,Bb]
  have:=aEJ (h:=h) (f:=f) (rs:=rs) (b:=b+1) fun i q hq=>by
   rw[show b+1+i=b+(i+1) by omega];exact hh (i+1) q (by simpa using hq)
  simp only[Aa]at this;rw[this];rfl
mutual
theorem aOg{f:Nat->Option Nat}:∀a:A,(∀i∈idsA a,f i=some i)->mapA f a=a
 |.d x,_=>by simp only[mapA]
 |.sl id gen off len,h=>by simp only[mapA,h id (by simp[idsA])]
 |.ptr id gen off,h=>by simp only[mapA,h id (by simp[idsA])]
 |.mp id,h=>by simp only[mapA,h id (by simp[idsA])]
 |.clo g caps,h=>by simp only[mapA];rw[eU caps (by simpa only[idsA]using h)]
 |.agg cs,h=>by simp only[mapA];rw[eU cs (by simpa only[idsA]using h)]
 |.tup cs,h=>by simp only[mapA];rw[eU cs (by simpa only[idsA]using h)]
 |.junk,_=>by simp only[mapA]
theorem eU{f:Nat->Option Nat}:∀asx:List A,(∀i∈idsL asx,f i=some i)->aE f asx=asx
 | [],_=>by simp only[aE]
 |a::asx,h=>by
  simp only[idsL,Al]at h;simp only[aE];rw[aOg a fun i hi=>h i (.inl hi),eU asx fun i hi=>h i (.inr hi)]
end
mutual
def z0A:A->Bool
 |.sl _ g _ _=>g==0
 |.ptr _ g _=>g==0
 |.mp _=>true
 |.clo _ caps=>z0As caps
 |.agg cs=>z0As cs
 |.tup cs=>z0As cs
 |.d _=>true
 |.junk=>true
def z0As:List A->Bool
 | []=>true
 |a::asx=>z0A a&&z0As asx
end
mutual
theorem aM1{nf:Nat}{h:H}(hg:∀i g,aX h i=some g->g=0):∀a:A,z0A a=true->bI nf h a=a
 |.d x,_=>by simp only[bI]
 |.sl id gen off len,hz=>by
  simp only[z0A,beq_iff_eq]at hz;subst hz;simp only[bI,gI]
  split
  ·rfl
  ·cases hgo:aX h id with
   |none=>rfl
   |some g=>have:=hg id g hgo;subst this;simp
 |.ptr id gen off,hz=>by
  simp only[z0A,beq_iff_eq]at hz;subst hz;simp only[bI,HP]
  split
  ·rfl
  ·cases hgo:aX h id with
   |none=>rfl
   |some g=>have:=hg id g hgo;subst this;simp
 |.mp id,hz=>by simp only[bI]
 |.clo g caps,hz=>by simp only[bI];rw[j3 hg caps (by simpa only[z0A]using hz)]
 |.agg cs,hz=>by simp only[bI];rw[j3 hg cs (by simpa only[z0A]using hz)]
 |.tup cs,hz=>by simp only[bI];rw[j3 hg cs (by simpa only[z0A]using hz)]
 |.junk,_=>by simp only[bI]
theorem j3{nf:Nat}{h:H}(hg:∀i g,aX h i=some g->g=0):∀asx:List A,z0As asx=true->aR nf h asx=asx
 | [],_=>by simp only[aR]
 |a::asx,hz=>by
  simp only[z0As,Ar]at hz;simp only[aR];rw[aM1 hg a hz.1,j3 hg asx hz.2]
end
def z0O:O->Bool
 |.arr _ _ g=>g==0
 |.box cs=>z0As cs
 |.ice _ _ g=>g==0
 |.vec cs _ g=>g==0&&z0As cs
 |.log _=>true
 |.mp _=>true
 |.void=>true
theorem HH{h:H}(hz:h.all z0O=true):∀i g,aX h i=some g->g=0:=by
 intro i g hg;unfold aX at hg
 cases ho:h[i]? with
 |none=>rw[ho]at hg;cases hg
 |some o=>
  have:=Bf.1 hz o (Bj ho);rw[ho]at hg
  cases o with
  |arr cs e g'=>simp only[Option.some.injEq]at hg;subst hg;simpa [z0O]using this
  |ice cs e g'=>simp only[Option.some.injEq]at hg;subst hg;simpa [z0O]using this
  |vec cs e g'=>simp only[Option.some.injEq]at hg;subst hg;simp only[z0O,Ar,beq_iff_eq]at this;exact this.1
  |_=>cases hg
theorem y5:∀(asx bs:List A),z0As (asx++bs)=(z0As asx&&z0As bs)
 | [],bs=>by simp[z0As]
 |a::asx,bs=>by simp[z0As,y5 asx bs,Bool.and_assoc]
theorem vZ:∀(rs:List (List Int)) (b:Nat),z0As (aC b rs)=true
 | [],b=>by simp[aC,z0As]
 |r::rs,b=>by simp[aC,z0As,z0A,vZ rs]
theorem EY(rs:List (List Int)):(aH rs).all z0O=true:=by simp[aH,z0O]
def gcO(nf:Nat)(m:List Bool)(s:List A)(h:H):List A×H:=gc nf m s h
def aOF(nf:Nat)(h:H)(ord:List Nat)(s:List A):List A×H:=trim nf h ord s
def aF(q:Nat):List A:=List.replicate q (.d .nils)
theorem aAB(q:Nat):aF (q+1)=.d .nils::aF q:=rfl
theorem aMg(q:Nat):(aF q).length=q:=by simp[aF]
theorem cW:∀q:Nat,idsL (aF q)=[]
 |0=>by simp[aF,idsL]
 |q+1=>by rw[aAB];simp[idsL,idsA,cW q]
theorem vV:∀q:Nat,z0As (aF q)=true
 |0=>by simp[aF,z0As]
 |q+1=>by rw[aAB];simp[z0As,z0A,vV q]
section
variable{rs:List (List Int)}{q:Nat}
def aOD(nf:Nat)(h:H)(ids:List Nat):List Nat:=c7 nf h ids
end
end
theorem RL{R:Type}{E:Env}{call:aU}{h:H}{f:FuncId}{args:List A}{r:A}{k:KA R}{id e g e2 g2:Nat}{cs cs2:List D}(hi:h[id]? =some (.arr cs e g))(hid:idsL args=[id])(hm:(E.hint f).mode=0)(hr:idsA r=[])(he:call f (aE (aI [id]) args) [.arr cs e g]=some (r,[.arr cs2 e2 g2])):
  aW E call h f args k=k r (h.set id (.arr cs2 e2 g2)):=by
 have hre:aD aG h [id] []=[id]:=by
  have e1:aD aG h [id] []=match h[id]? with
   |some (.box cs)=>aD (aG-1) h ([]++idsL cs) ([]++[id])
   |some (.vec cs _ _)=>aD (aG-1) h ([]++idsL cs) ([]++[id])
   |some .void=>aD (aG-1) h [] []
   |some _=>aD (aG-1) h [] ([]++[id])
   |none=>aD (aG-1) h [] []:=rfl
  rw[e1,hi];rfl
 have hpk:pack h [id]=[.arr cs e g]:=by
  simp only[pack,Ah,Ap,Aa,hi];rfl
 unfold aW;rw[hid,hre,hpk]
 have hc:bS call E.hint [.arr cs e g] f (aE (aI [id]) args)=some (r,[.arr cs2 e2 g2]):=by
  unfold bS;rw[hm];exact he
 rw[hc]
 have hcl:closed h [id] [id]=true:=by
  simp only[closed,Br,Ca,hi];simp
 simp only[Ad,Ac,Ab,hcl,and_self,if_true,qH r hr];simp only[bF,mapO,Ap,Ai]
structure Aut where
 al:Int
 nx:List (List Int)
 ac:List Bool
 deriving DecidableEq,Inhabited
def rowD(r:List Int):D:=.ivs r.length (ints r)
def aL(rs:List (List Int)):List D:=rs.map rowD
def aJ(l:List Bool):List D:=l.map .bool
theorem qK{l:List (List Int)}:(aL l).length=l.length:=by simp[aL]
theorem dV{l:List Bool}:(aJ l).length=l.length:=by simp[aJ]
theorem rX{l:List Bool}{k:Nat}(h:l.length<=k):(aJ l).take k=aJ l:=Cf (by rw[dV];exact h)
theorem EF{l:List Bool}{k:Nat}(h:k<l.length):(((aJ l).drop k).map A.d).head? =some (.d (.bool (l.getD k false))):=by
 rw[List.head?_map,Cy,aJ,Bd,Aa,Ae h];rfl
theorem aEC{l:List Bool}{k:Nat}{v:Bool}(h:k<l.length):bC (aJ l) k [.bool v]=aJ (l.set k v):=wF _ l k v h
theorem UR{l:List (List Int)}{k:Nat}(h:k<l.length):(((aL l).drop k).map A.d).head? =some (.d (.ivs (l.getD k []).length (ints (l.getD k [])))):=by
 rw[List.head?_map,Cy,aL,Bd,Aa,Ae h];rfl
theorem BY{l:List (List Int)}{k:Nat}(h:l.length<=k):(aL l).take k=aL l:=Cf (by rw[qK];exact h)
theorem LA:type_of% (AI @qK (AI @dV (AI @rX (AI @EF (AI @UR @BY))))):=
 ⟨@qK,@dV,@rX,@EF,@UR,@BY⟩
theorem aJU{α:Type}{l:List α}{k:Nat}{v:α}{m:List α}(h:k<l.length):(l.set k v).take (k+1)++m=l.take k++(v::m):=by
 rw[take_set h];simp
theorem TO:env.P.cellsOf 80=1:=kr
theorem J8(rs:List (List Int))(r:List Int):aH rs++[.arr (ints r) 1 0]=aH (rs++[r]):=aK3 rs r
def bB(rs:List (List Int)):Prop:=rs.length<=4294967296/\∀r∈rs,r.length<=4294967296
theorem nX{rs:List (List Int)}(h:bB rs){k:Nat}(hk:k<rs.length):(rs.getD k []).length<=4294967296:=by
 rw[Aa,Ae hk];exact h.2 _ (Az hk)
section
def autO(b:Nat)(rs:List (List Int))(ac:List Bool):H:=.vec (aC (b+2) rs++aF 0) 1 0::.arr (aJ ac) 1 0::aH rs
def autA(v:Nat)(al:Int)(n m:Nat):A:=.agg [nI al,.sl v 0 0 n,.sl (v+1) 0 0 m]
def autD(al:Int)(rs:List (List Int))(ac:List Bool):A:=.agg [nI al,.d (.ivs rs.length (aL rs)),.d (.ivs ac.length (aJ ac))]
structure Has(h:H)(v:Nat)(rs:List (List Int))(ac:List Bool):Prop where
 vec:h[v]? =some (.vec (aC (v+2) rs++aF 0) 1 0)
 acc:h[v+1]? =some (.arr (aJ ac) 1 0)
 row:∀(i:Nat) (r:List Int),rs[i]? =some r->h[v+2+i]? =some (.arr (ints r) 1 0)
theorem M2{b:Nat}{rs:List (List Int)}{ac:List Bool}:(autO b rs ac).length=rs.length+2:=by simp[autO,b8]
theorem aPN{h:H}{rs:List (List Int)}{ac:List Bool}:Has (h++autO h.length rs ac) h.length rs ac:=by
 refine⟨by simp[autO],by simp[autO],fun i r hr=> ?_⟩;rw[Bh om,show h.length+2+i-h.length=i+1+1 by omega];simp only[autO,Au];exact TW hr
theorem aO0{h h2:H}{v:Nat}{rs:List (List Int)}{ac:List Bool}(k:Has h v rs ac):Has (h++h2) v rs ac:=
 ⟨by rw[Ba (rD k.vec)];exact k.vec,by rw[Ba (rD k.acc)];exact k.acc,
  fun i r hr=>by rw[Ba (rD (k.row i r hr))];exact k.row i r hr⟩
theorem aAH{h:H}{b:Nat}{r:List Int}(hr:h[b]? =some (.arr (ints r) 1 0)):rd0 h (.sl b 0 0 r.length)=some (rowD r):=by
 simp only[rd0,hr,true_and,Ag,Cb,fY,Ab,if_true,Bc,dX,rowD]
theorem aJi{h:H}:∀ {rs:List (List Int)} {b:Nat},(∀(i:Nat) (r:List Int),rs[i]? =some r->h[b+i]? =some (.arr (ints r) 1 0))->fD (rd0 h) (aC b rs)=some (aL rs)
 | [],b,_=>rfl
 |r::rs,b,hh=>by
  have h0:=hh 0 r rfl;simp only[Bs]at h0
  simp only[aC,fD,aAH h0,aJi (rs:=rs) (b:=b+1) fun i q hq=>by
   rw[show b+1+i=b+(i+1) by omega];exact hh (i+1) q (by simpa using hq)]
  rfl
theorem aQt{h:H}{v:Nat}{rs:List (List Int)}{ac:List Bool}(k:Has h v rs ac):rd1 h (.sl v 0 0 rs.length)=some (.ivs rs.length (aL rs)):=by
 have hl:0+rs.length*1<=(aC (v+2) rs++aF 0).length:=by rw[Af,fP];omega
 have hn:aF 0=[]:=rfl;simp only[rd1,k.vec];rw[if_pos ⟨trivial,hl⟩];simp only[hn,Ai,aJi k.row,Ax,Bc,Cb,BY (Ab _)]
theorem aP2{h:H}{v:Nat}{rs:List (List Int)}{ac:List Bool}(k:Has h v rs ac):rd1 h (.sl (v+1) 0 0 ac.length)=some (.ivs ac.length (aJ ac)):=by
 have hl:0+ac.length*1<=(aJ ac).length:=by rw[dV];omega
 simp only[rd1,rd0,k.acc];rw[if_pos ⟨trivial,hl⟩];simp only[Bc,Cb,rX (Ab _)]
theorem oU:∀(h h2:H),wgt (h++h2)=wgt h+wgt h2
 | [],h2=>by simp[wgt]
 |o::h,h2=>by cases o<;>simp[wgt,oU h h2]<;>omega
theorem GC(rs:List (List Int)):wgt (aH rs)=0:=by
 induction rs with
 |nil=>rfl
 |cons r rs ih=>simpa [aH,wgt]using ih
theorem aPG{b:Nat}{rs:List (List Int)}{ac:List Bool}:wgt (autO b rs ac)=rs.length:=by
 simp[autO,wgt,GC,bH,bQ,cW]
def dQ:O->List Nat
 |.box cs=>idsL cs
 |.vec cs _ _=>idsL cs
 |_=>[]
section
variable{h:H}{v:Nat}{rs:List (List Int)}{ac:List Bool}
theorem aJm{f:Nat->Option Nat}{b d:Nat}(hf:∀i,i<rs.length->f (b+i)=some (d+i)):mapO f (.vec (aC b rs++aF 0) 1 0)=.vec (aC d rs++aF 0) 1 0:=by
 have hn:aF 0=[]:=rfl;simp only[mapO,hn,Ai,eB (c:=0) hf]
theorem aG3{f:Nat->Option Nat}{al:Int}{n m a b:Nat}(h0:f a=some b)(h1:f (a+1)=some (b+1)):mapA f (autA a al n m)=autA b al n m:=by
 simp only[autA,mapA,aE,h0,h1]
theorem aF2{b n i:Nat}(hi:i<n):back [] b n i=some (b+i):=by
 unfold back;simp[hi]
theorem aOi{b n:Nat}(hn:n=rs.length+2):(autO 0 rs ac).map (mapO (back [] b n))=autO b rs ac:=by
 subst hn;unfold autO;rw[Ah,Ah,aGH,aJm (d:=b+2) fun i hi=>by rw[aF2 om];congr 1;omega];rfl
end
section
variable{E:Env}{call:aU}{h:H}{f:FuncId}
theorem aBp:∀ {rs rs2:List (List Int)} {b:Nat},rs2.map List.length=rs.map List.length->aC b rs2=aC b rs
 | [],[],b,_=>rfl
 | [],_::_,b,hl=>by simp at hl
 |_::_,[],b,hl=>by simp at hl
 |r::rs,q::rs2,b,hl=>by
  simp only[Ah,List.cons.injEq]at hl;simp only[aC,hl.1,aBp hl.2]
end
end
def aM:List (List Int)->Nat
 | []=>0
 |r::rs=>r.length+aM rs
section
section
variable{h h2:H}{nf:Nat}(hn:nf=h.length)(hk:∀o∈h,∀j∈dQ o,j<nf)
include hn hk
end
theorem aDE{b k:Nat}:∀ {rs:List (List Int)} {b k:Nat},k<rs.length->((aC b rs++aF 0).drop k).head? =some (.sl (b+k) 0 0 (rs.getD k []).length)
 | [],b,k,h=>by simp at h
 |r::rs,b,0,h=>by simp[aC]
 |r::rs,b,k+1,h=>by
  simp only[aC,Av,Dh];rw[aDE (b:=b) (k:=k) (by simpa using h)];simp only[List.getD_cons_succ]
  congr 2
  omega
theorem aGo{d:List (List Int)}{k:Nat}(h:k<d.length):(aH d)[k]? =some (.arr (ints (d.getD k [])) 1 0):=by
 rw[Aa,Ae h];exact TW (Ae h)
theorem aLJ{d:List (List Int)}{k:Nat}{r:List Int}:(aH d).set k (.arr (ints r) 1 0)=aH (d.set k r):=by
 unfold aH;rw[List.map_set];rfl
end
section
theorem OM{m:List Bool}{s:List A}{h:H}{ord:List Nat}(hr:aD aG h (idsL (tidy m s)) []=ord):gc 0 m s h=(aR 0 (pack h ord) (aE (aI ord) (tidy m s)),cC 0 (pack h ord)):=by
 unfold gc trim;rw[SG];unfold aG at hr;rw[hr]
theorem eX{h:H}:∀(os:H) (i:Nat),dK 0 h i os=os.map (bT 0 h 0)
 | [],_=>rfl
 |o::os,i=>by
  simp only[dK,Ah,eX os (i+1)]
  cases o<;>simp[bT]
theorem fM{h:H}{rs:List (List Int)}:(aH rs).map (bT 0 h 0)=aH rs:=by
 simp[aH,bT]
theorem dZ{nf:Nat}{h:H}:∀(xs ys:List A),aR nf h (xs++ys)=aR nf h xs++aR nf h ys
 | [],ys=>by simp[aR]
 |x::xs,ys=>by simp[aR,dZ xs ys]
theorem eW{h:H}:∀ {rs:List (List Int)} {b:Nat},(∀i,i<rs.length->aX h (b+i)=some 0)->aR 0 h (aC b rs)=aC b rs
 | [],b,_=>by simp[aC,aR]
 |r::rs,b,hh=>by
  have h0:=hh 0 sm;simp only[Bs]at h0;simp only[aC,aR,bI,gI,Bw,if_false,h0,if_true]
  rw[eW (rs:=rs) (b:=b+1) fun i hi=>by
   rw[show b+1+i=b+(i+1) by omega];exact hh (i+1) (by simp;omega)]
theorem aNv{f:Nat->Option Nat}{h:H}{b:Nat}{rs:List (List Int)}(hh:∀(i:Nat) (r:List Int),rs[i]? =some r->h[b+i]? =some (.arr (ints r) 1 0)):(List.range' b rs.length).map (fun i=>mapO f (h.getD i default))=aH rs:=aEJ hh
theorem EP{rs:List (List Int)}{p:H}{i:Nat}{r:List Int}(h:rs[i]? =some r):(aH rs++p)[i]? =some (.arr (ints r) 1 0):=by
 rw[Ba (by rw[b8];exact rD h)];exact TW h
theorem DT{b k:Nat}{rs:List (List Int)}(h:k=rs.length):(aC b rs++aF 0).take k=aC b rs:=by
 have hn:aF 0=[]:=rfl;rw[hn,Ai,Cf (by rw[fP];omega)]
section
variable{x0 x1:D}{k z:Nat}{cs cr:List D}{d:List (List Int)}{p:H}
theorem bJ{h:H}{i:Nat}{r:List D}{e g:Nat}(hr:h[i]? =some (.arr r e g)):kids h i=[]:=by simp only[kids,hr]
mutual
theorem aNK{f g:Nat->Option Nat}:∀a:A,(∀i∈idsA a,f i=g i)->mapA f a=mapA g a
 |.d x,_=>by simp only[mapA]
 |.sl id gen off len,hi=>by simp only[mapA,hi id (by simp[idsA])]
 |.ptr id gen off,hi=>by simp only[mapA,hi id (by simp[idsA])]
 |.mp id,hi=>by simp only[mapA,hi id (by simp[idsA])]
 |.clo q caps,hi=>by simp only[mapA];rw[j5 caps (by simpa only[idsA]using hi)]
 |.agg cs,hi=>by simp only[mapA];rw[j5 cs (by simpa only[idsA]using hi)]
 |.tup cs,hi=>by simp only[mapA];rw[j5 cs (by simpa only[idsA]using hi)]
 |.junk,_=>by simp only[mapA]
theorem j5{f g:Nat->Option Nat}:∀xs:List A,(∀i∈idsL xs,f i=g i)->aE f xs=aE g xs
 | [],_=>by simp only[aE]
 |a::xs,hi=>by
  simp only[idsL,Al]at hi;simp only[aE];rw[aNK a fun i h=>hi i (.inl h),j5 xs fun i h=>hi i (.inr h)]
end
mutual
theorem aPw{f:Nat->Option Nat}:∀a:A,z0A a=true->z0A (mapA f a)=true
 |.d x,_=>by simp only[mapA,z0A]
 |.sl id gen off len,hz=>by simp only[mapA];cases f id<;>first|rfl|exact hz
 |.ptr id gen off,hz=>by simp only[mapA];cases f id<;>first|rfl|exact hz
 |.mp id,hz=>by simp only[mapA];cases f id<;>first|rfl|exact hz
 |.clo q caps,hz=>by simp only[mapA,z0A]at hz|-;exact wY caps hz
 |.agg cs,hz=>by simp only[mapA,z0A]at hz|-;exact wY cs hz
 |.tup cs,hz=>by simp only[mapA,z0A]at hz|-;exact wY cs hz
 |.junk,_=>by simp only[mapA,z0A]
theorem wY{f:Nat->Option Nat}:∀xs:List A,z0As xs=true->z0As (aE f xs)=true
 | [],_=>by simp only[aE,z0As]
 |a::xs,hz=>by
  simp only[z0As,Ar]at hz;simp only[aE,z0As,Ar];exact⟨aPw a hz.1,wY xs hz.2⟩
end
end
theorem gZ{h p:H}{d:List (List Int)}(B:Nat)(hd:h.drop B=aH d++p):∀(i:Nat) (r:List Int),d[i]? =some r->h[B+i]? =some (.arr (ints r) 1 0):=by
 intro i r hr;rw[<-List.getElem?_drop,hd];exact EP hr
theorem vJ{h p:H}{d:List (List Int)}(B q:Nat)(hd:h.drop B=aH d++p){o:O}(ho:p[q]? =some o){j:Nat}(hj:j=d.length+(B+q)):h[j]? =some o:=by
 subst hj;rw[show d.length+(B+q)=B+(d.length+q) by omega,<-List.getElem?_drop,hd,Bh (by rw[b8];omega),b8,Dq];exact ho
theorem iK{h:H}{d:List (List Int)}{B:Nat}(gr:∀(i:Nat) (r:List Int),d[i]? =some r->h[B+i]? =some (.arr (ints r) 1 0)):∀i∈List.range' B d.length,∃r:List Int,h[i]? =some (.arr (ints r) 1 0):=by
 intro i hi;rw[Cq]at hi;obtain⟨j,rfl⟩:∃j,i=B+j:=⟨i-B,by omega⟩
 exact⟨d[j]'om,gr j _ (Ae om)⟩
theorem fH{h:H}{ids P T L:List Nat}{B n N:Nat}(hfix:P++(T++(List.range' B n++L))=ids++P.flatMap (kids h))(hprog:∀k,k<P.length->k<ids.length+((P.take k).flatMap (kids h)).length)
  (leaf:∀i∈List.range' B n,∃r:List Int,h[i]? =some (.arr (ints r) 1 0)) (hT:∀i∈T++L,∃cs e g,h[i]? =some (.arr cs e g)) (hP:∀i∈P,∃o,h[i]? =some o/\o≠.void)
  (hnd:(P++(T++L)).Nodup) (hout:∀i∈P++(T++L),i<B\/B+n<=i) (hf:P.length+T.length+n+L.length<=N):aD N h ids []=P++(T++(List.range' B n++L)):=by
 refine aLG hfix ?_ hprog ?_ ?_ ?_
 ·intro i hi
  rcases Al.1 hi with h1|h1
  ·obtain⟨cs,e,g,h2⟩:=hT i (Al.2 (.inl h1));exact bJ h2
  ·rcases Al.1 h1 with h2|h2
   ·obtain⟨r,hr⟩:=leaf i h2;exact bJ hr
   ·obtain⟨cs,e,g,h3⟩:=hT i (Al.2 (.inr h2));exact bJ h3
 ·have hp:(P++(T++(List.range' B n++L))).Perm (List.range' B n++(P++(T++L))):=by
   have e1:(T++(List.range' B n++L)).Perm (List.range' B n++(T++L)):=by
    rw[<-Am T _ L,<-Am _ T L];exact List.Perm.append_right L List.perm_append_comm
   refine(List.Perm.append_left P e1).trans ?_;rw[<-Am P _ (T++L),<-Am _ P (T++L)];exact List.Perm.append_right (T++L) List.perm_append_comm
  rw[hp.nodup_iff,Ds];refine⟨List.nodup_range',hnd,fun a ha b hb e=> ?_⟩;subst e;rw[Cq]at ha;have:=hout a hb;omega
 ·intro i hi
  rcases Al.1 hi with h1|h1
  ·exact hP i h1
  ·rcases Al.1 h1 with h1|h1
   ·obtain⟨cs,e,g,h2⟩:=hT i (Al.2 (.inl h1));exact⟨_,h2,by simp⟩
   ·rcases Al.1 h1 with h2|h2
    ·obtain⟨r,hr⟩:=leaf i h2;exact⟨_,hr,by simp⟩
    ·obtain⟨cs,e,g,h3⟩:=hT i (Al.2 (.inr h2));exact⟨_,h3,by simp⟩
 ·simp only[Af,Dr];omega
theorem iL{ord A L:List Nat}{B C n:Nat}(pk:∀i j,ord[j]? =some i->aI ord i=some j)(ho:ord=A++(List.range' B n++L))(hA:A.length=C):∀i,i<n->aI ord (B+i)=some (C+i):=by
 intro i hi;refine pk _ _ ?_;rw[ho,Bh om,hA,Dq,Ba (by simpa using hi),List.getElem?_range' hi];simp
theorem Q8{ord A L:List Nat}{B C n:Nat}(pk:∀i j,ord[j]? =some i->aI ord i=some j)(ho:ord=A++(List.range' B n++L))(hA:A.length=C)(q:Nat){i j:Nat}(hq:L[q]? =some i)(hj:j=n+(C+q)):aI ord i=some j:=by
 subst hj;refine pk _ _ ?_;rw[ho,Bh om,hA,show n+(C+q)-C=n+q by omega,Bh sm,Dr,Dq];exact hq
theorem mR{K p:H}{d:List (List Int)}{C:Nat}(hd:K.drop C=aH d++p):∀i,i<d.length->aX K (C+i)=some 0:=by
 intro i hi;have:=gZ C hd i _ (Ae hi);simp only[aX,this]
theorem kD{h:H}{ord A L:List Nat}{d:List (List Int)}{B:Nat}(ho:ord=A++(List.range' B d.length++L))(gr:∀(i:Nat) (r:List Int),d[i]? =some r->h[B+i]? =some (.arr (ints r) 1 0)):pack h ord=A.map (fun i=>mapO (aI ord) (h.getD i default))++(aH d++L.map (fun i=>mapO (aI ord) (h.getD i default))):=by
 unfold pack
 conv=>lhs;arg 2;rw[ho]
 rw[Dk,Dk,aNv gr]
end
mutual
theorem aN0{p:H}(h0:aX p 0=none):∀a:A,bI 1 p a=bI 0 p a
 |.d x=>by simp only[bI]
 |.sl id gen off len=>by
  simp only[bI,gI,Bw,if_false]
  by_cases hi:id<1
  ·obtain rfl:id=0:=om;simp[h0]
  ·rw[if_neg hi]
 |.ptr id gen off=>by
  simp only[bI,HP,Bw,if_false]
  by_cases hi:id<1
  ·obtain rfl:id=0:=om;simp[h0]
  ·rw[if_neg hi]
 |.mp id=>by simp only[bI]
 |.clo g cs=>by simp only[bI];rw[vN h0 cs]
 |.agg cs=>by simp only[bI];rw[vN h0 cs]
 |.tup cs=>by simp only[bI];rw[vN h0 cs]
 |.junk=>by simp only[bI]
theorem vN{p:H}(h0:aX p 0=none):∀xs:List A,aR 1 p xs=aR 0 p xs
 | []=>by simp only[aR]
 |x::xs=>by simp only[aR];rw[aN0 h0 x,vN h0 xs]
end
theorem aNS{p:H}(h0:aX p 0=none){i:Nat}(hi:1<=i)(o:O):bT 1 p i o=bT 0 p i o:=by
 cases o<;>simp only[bT,Bw,if_false,vN h0,if_neg (show ¬i<1 by omega)]
theorem W7{p:H}(h0:aX p 0=none):∀(os:H) (i:Nat),1<=i->dK 1 p i os=dK 0 p i os
 | [],i,_=>rfl
 |o::os,i,hi=>by simp only[dK];rw[aNS h0 hi,W7 h0 os (i+1) om]
theorem aDf{x y:D}{t:H}{l:List Nat}{s:List A}:trim 1 (.box [.d x,.d y]::t) (0::l) s=trim 0 (.box [.d x,.d y]::t) (0::l) s:=by
 have hp:pack (.box [.d x,.d y]::t) (0::l)=.box [.d x,.d y]::l.map fun i=>mapO (aI (0::l)) ((O.box [.d x,.d y]::t).getD i default):=by
  simp[pack,mapO,aE,mapA]
 have h0:aX (pack (.box [.d x,.d y]::t) (0::l)) 0=none:=by rw[hp];rfl
 unfold trim;rw[vN h0]
 congr 1
 unfold cC;generalize hq:pack (.box [.d x,.d y]::t) (0::l)=p at *;obtain⟨os,hos⟩:∃os,p=.box [.d x,.d y]::os:=⟨_,hp⟩
 have key:∀w:H,w=.box [.d x,.d y]::os->dK 1 p 0 w=dK 0 p 0 w:=by
  intro w hw;subst hw;simp only[dK];rw[W7 h0 _ (0+1) (Ab _)];simp only[bT,aR,bI]
 exact key p hos
theorem aNP{x y:D}{t:H}{n:Nat}{l:List Nat}:aD (n+1) (.box [.d x,.d y]::t) (0::l) [0]=aD n (.box [.d x,.d y]::t) l [0]:=by
 simp[aD]
theorem OG{x y:D}{t:H}{n:Nat}{l:List Nat}:aD (n+1) (.box [.d x,.d y]::t) (0::l) []=aD n (.box [.d x,.d y]::t) l [0]:=by
 simp[aD,idsL,idsA]
theorem kB:∀(n:Nat) (h:H) (todo acc:List Nat),∃q,aD n h todo acc=acc++q
 |0,h,todo,acc=>⟨[],by simp[aD]⟩
 |n+1,h,[],acc=>⟨[],by simp[aD]⟩
 |n+1,h,i::todo,acc=>by
  unfold aD
  split
  ·exact kB n h todo acc
  ·split
   ·obtain⟨q,hq⟩:=kB n h (todo++idsL _) (acc++[i]);exact⟨i::q,by rw[hq];simp⟩
   ·obtain⟨q,hq⟩:=kB n h (todo++idsL _) (acc++[i]);exact⟨i::q,by rw[hq];simp⟩
   ·exact kB n h todo acc
   ·obtain⟨q,hq⟩:=kB n h todo (acc++[i]);exact⟨i::q,by rw[hq];simp⟩
   ·exact kB n h todo acc
theorem aPY{x y:D}{t:H}{l:List Nat}:c7 1 (.box [.d x,.d y]::t) (0::l)=c7 0 (.box [.d x,.d y]::t) (0::l):=by
 rw[rO,rO];have e1:eE (List.take 1 (O.box [.d x,.d y]::t))++0::l=0::l:=by simp[eE,idsL,idsA]
 have e2:eE (List.take 0 (O.box [.d x,.d y]::t))++0::l=0::l:=by simp[eE]
 have e3:List.range 1=[0]:=rfl;have e4:List.range 0=([]:List Nat):=rfl;rw[e1,e2,e3,e4,show(1099511627776:Nat)=1099511627775+1 from rfl,aNP,OG]
theorem aG1{x y:D}{t:H}{l:List Nat}:c7 1 (.box [.d x,.d y]::t) l=aD (aG+1) (.box [.d x,.d y]::t) (0::l) []:=by
 rw[rO,OG];have e1:eE (List.take 1 (O.box [.d x,.d y]::t))++l=l:=by simp[eE,idsL,idsA]
 have e3:List.range 1=[0]:=rfl;rw[e1,e3];rfl
theorem aQI{m:List Bool}{s:List A}{x y:D}{t:H}{l:List Nat}(hid:idsL (tidy m s)=0::l):gc 1 m s (.box [.d x,.d y]::t)=gc 0 m s (.box [.d x,.d y]::t):=by
 unfold gc;rw[hid,aPY];obtain⟨q,hq⟩:=kB 1099511627775 (.box [.d x,.d y]::t) l [0]
 have:c7 0 (.box [.d x,.d y]::t) (0::l)=0::q:=by
  rw[rO];have e2:eE (List.take 0 (O.box [.d x,.d y]::t))++0::l=0::l:=by simp[eE]
  have e4:List.range 0=([]:List Nat):=rfl;rw[e2,e4,show(1099511627776:Nat)=1099511627775+1 from rfl,OG,hq];rfl
 rw[this,aDf]
theorem S6{m:List Bool}{s:List A}{x y:D}{t h:H}{l:List Nat}(hh:O.box [.d x,.d y]::t=h)(hid:idsL (tidy m s)=0::l):gc 1 m s h=gc 0 m s h:=by
 subst hh;exact aQI hid
theorem aBO{m:List Bool}{s:List A}{x y:D}{t h:H}{l ord:List Nat}(hh:O.box [.d x,.d y]::t=h)(hi:idsL (tidy m s)=l)(hr:aD (aG+1) h (0::l) []=ord):gc 1 m s h=(aR 0 (pack h ord) (aE (aI ord) (tidy m s)),cC 0 (pack h ord)):=by
 subst hh;unfold gc;rw[hi,aG1,hr];obtain⟨q,hq⟩:=kB aG (.box [.d x,.d y]::t) l [0]
 have e:ord=0::q:=by
  rw[<-hr,OG,hq];rfl
 rw[e,aDf];rfl
def VN(n:Nat)(ids:List Nat):Bool:=decide (ids=[3,n+8])
theorem aJ8{n:Nat}{ke2:Nat}(he2:ke2=n+8):VN n [3,ke2]=true:=by subst he2;simp[VN]
def EW(n i:Nat):Option Nat:=if i=0 then some 0 else if i=3 then some 1 else if i=n+8 then some 2 else none
theorem aE2{n:Nat}:EW n 3=some (1):=by unfold EW;repeat (first|rfl|rw[if_pos rfl]|rw[if_neg om])
theorem aCb{n k:Nat}(h:k=n+8):EW n k=some (2):=by subst h;unfold EW;repeat (first|rfl|rw[if_pos rfl]|rw[if_neg om])
theorem aPZ{m:List Bool}{s:List A}{y1 y2 x0 x1:D}{k z:Nat}{cs:List D}{d:List (List Int)}(hl:d.length<=4294967296):gc 1 m s (.box [.d y1,.d y2]::.arr [] 0 0::.arr [] 0 0::.box [.d x0,.sl 1 0 0 0,.sl 2 0 0 0]::.vec (aC 6 d++aF 0) 1 0::.arr cs 1 0::(aH d++[.arr [] 0 0,.arr [] 0 0,.box [.d x1,.sl 4 0 0 k,.sl 5 0 0 z]]))=match box (tidy m s)with
  |.mk s1=>if VN d.length (idsL s1)=true/\z0As s1=true then(aE (EW d.length) s1,.box [.d y1,.d y2]::.box [.d x0,.sl 3 0 0 0,.sl 4 0 0 0]::.box [.d x1,.sl 5 0 0 k,.sl 6 0 0 z]::.arr [] 0 0::.arr [] 0 0::.vec (aC 7 d++aF 0) 1 0::.arr cs 1 0::aH d)else gcO 1 m s (.box [.d y1,.d y2]::.arr [] 0 0::.arr [] 0 0::.box [.d x0,.sl 1 0 0 0,.sl 2 0 0 0]::.vec (aC 6 d++aF 0) 1 0::.arr cs 1 0::(aH d++[.arr [] 0 0,.arr [] 0 0,.box [.d x1,.sl 4 0 0 k,.sl 5 0 0 z]]))
  |.no=>([],[]):=by
 simp only[box]
 split
 ·rename_i hc
  obtain⟨hb,hz⟩:=hc;have hids:idsL (tidy m s)=[3,d.length+8]:=by simpa [VN]using hb
  obtain⟨h,hh⟩:∃h:H,O.box [.d y1,.d y2]::.arr [] 0 0::.arr [] 0 0::.box [.d x0,.sl 1 0 0 0,.sl 2 0 0 0]::.vec (aC 6 d++aF 0) 1 0::.arr cs 1 0::(aH d++[.arr [] 0 0,.arr [] 0 0,.box [.d x1,.sl 4 0 0 k,.sl 5 0 0 z]])=h:=⟨_,rfl⟩
  conv=>lhs;rw[hh]
  have g0:h[0]? =some (.box [.d y1,.d y2]):=by rw[<-hh];rfl
  have g1:h[1]? =some (.arr [] 0 0):=by rw[<-hh];rfl
  have g2:h[2]? =some (.arr [] 0 0):=by rw[<-hh];rfl
  have g3:h[3]? =some (.box [.d x0,.sl 1 0 0 0,.sl 2 0 0 0]):=by rw[<-hh];rfl
  have g4:h[4]? =some (.vec (aC 6 d++aF 0) 1 0):=by rw[<-hh];rfl
  have g5:h[5]? =some (.arr cs 1 0):=by rw[<-hh];rfl
  have hD:h.drop 6=aH d++[.arr [] 0 0,.arr [] 0 0,.box [.d x1,.sl 4 0 0 k,.sl 5 0 0 z]]:=by rw[<-hh];rfl
  have gr:=gZ 6 hD;have ge2:h[d.length+8]? =some (.box [.d x1,.sl 4 0 0 k,.sl 5 0 0 z]):=vJ 6 2 hD rfl om;have k0:kids h (0)=[]:=by simp[kids,g0,idsL,idsA]
  have k3:kids h (3)=[1,2]:=by simp[kids,g3,idsL,idsA]
  have ke2:kids h (d.length+8)=[4,5]:=by simp[kids,ge2,idsL,idsA]
  have k1:kids h (1)=[]:=bJ g1;have k2:kids h (2)=[]:=bJ g2;have k4:kids h (4)=List.range' 6 d.length:=by simp[kids,g4,bH,bQ,cW]
  have leaf:=iK gr;have hr:aD (aG+1) h [0,3,d.length+8] []=[0,3,d.length+8,1,2,4]++([5]++(List.range' 6 d.length++[])):=fH (by simp[k0,k3,ke2,k1,k2,k4]) (by intro q hq;simp only[Ad,Ac]at hq;have:q=0\/q=1\/q=2\/q=3\/q=4\/q=5:=om;rcases this with rfl|rfl|rfl|rfl|rfl|rfl<;>simp[k0,k3,ke2,k1,k2]) leaf (by intro i hi;simp at hi;subst hi;exact⟨_,_,_,by assumption⟩) (by intro i hi;simp at hi;rcases hi with rfl|rfl|rfl|rfl|rfl|rfl<;>exact⟨_,by assumption,by simp⟩) (by simp<;>omega) (by intro i hi;simp at hi;omega) (by simp only[aG,Ad,Ac];omega);generalize hord:[0,3,d.length+8,1,2,4]++([5]++(List.range' 6 d.length++[]))=ord at hr;have hA:ord=([0,3,d.length+8,1,2,4]++[5])++(List.range' 6 d.length++[]):=by rw[<-hord,Am]
  have pk:∀i j,ord[j]? =some i->aI ord i=some j:=fun i j h1=>dC (by rw[<-hr];exact bP (aG+1) h _ [] sm) h1;have p0:=pk (0) 0 (by rw[<-hord];rfl);have p3:=pk (3) 1 (by rw[<-hord];rfl);have pe2:=pk (d.length+8) 2 (by rw[<-hord];rfl);have p1:=pk (1) 3 (by rw[<-hord];rfl);have p2:=pk (2) 4 (by rw[<-hord];rfl);have p4:=pk (4) 5 (by rw[<-hord];rfl);have p5:=pk (5) 6 (by rw[<-hord];rfl);have pr:=iL (C:=7) pk hA rfl;obtain⟨K,hK⟩:∃K:H,O.box [.d y1,.d y2]::.box [.d x0,.sl 3 0 0 0,.sl 4 0 0 0]::.box [.d x1,.sl 5 0 0 k,.sl 6 0 0 z]::.arr [] 0 0::.arr [] 0 0::.vec (aC 7 d++aF 0) 1 0::.arr cs 1 0::aH d=K:=⟨_,rfl⟩
  have hni:∀f,aE f (aF 0)=aF 0:=fun _=>rfl
  have hpk:pack h ord=K:=by
   have hrf:aE (aI ord) (aC 6 d)=aC 7 d:=eB (c:=0) pr;rw[kD hA gr,<-hK];simp only[Av,Ao,Ah,Ap,Aa,g0,g3,ge2,g1,g2,g4,g5,Bb,mapO,aE,mapA,cM,hrf,hni,p1,p2,p4,p5,Ai]
  have hKD:K.drop 7=aH d++[]:=by rw[<-hK];exact(Ai _).symm
  have hgr:=mR hKD
  have hcm:cC 0 K=.box [.d y1,.d y2]::.box [.d x0,.sl 3 0 0 0,.sl 4 0 0 0]::.box [.d x1,.sl 5 0 0 k,.sl 6 0 0 z]::.arr [] 0 0::.arr [] 0 0::.vec (aC 7 d++aF 0) 1 0::.arr cs 1 0::aH d:=by
   have hrf:aR 0 K (aC 7 d)=aC 7 d:=eW hgr;have hnc:∀h:H,aR 0 h (aF 0)=aF 0:=fun _=>rfl;have q3:aX K 3=some 0:=by rw[<-hK];rfl
   have q4:aX K 4=some 0:=by rw[<-hK];rfl
   have q5:aX K 5=some 0:=by rw[<-hK];rfl
   have q6:aX K 6=some 0:=by rw[<-hK];rfl
   unfold cC;rw[eX]
   conv=>lhs;arg 2;rw[<-hK]
   simp only[Ah,bT,aR,bI,gI,dZ,hrf,hnc,fM,q3,q4,q5,q6,Bw,if_false,if_true]
  subst hK;rw[aBO hh hids hr,hpk,hcm]
  have hmp:aE (aI ord) (tidy m s)=aE (EW d.length) (tidy m s):=by
   apply j5;rw[hids];intro i hi;simp only[At,Bo,or_false]at hi
   rcases hi with rfl|rfl
   ·rw[p3,aE2]
   ·rw[pe2,aCb rfl]
  have hz2:aR 0 (O.box [.d y1,.d y2]::.box [.d x0,.sl 3 0 0 0,.sl 4 0 0 0]::.box [.d x1,.sl 5 0 0 k,.sl 6 0 0 z]::.arr [] 0 0::.arr [] 0 0::.vec (aC 7 d++aF 0) 1 0::.arr cs 1 0::aH d) (aE (aI ord) (tidy m s))=aE (aI ord) (tidy m s):=by
   exact j3 (HH (by simp[z0O,z0As,z0A,y5,vZ,vV,EY])) _ (wY _ hz)
  rw[hz2,hmp]
 ·rfl
def zX(n i:Nat):Option Nat:=if i=0 then some 0 else if i=1 then some 1 else if i=2 then some 2 else none
theorem qG{n:Nat}:zX n 1=some (1):=by unfold zX;repeat (first|rfl|rw[if_pos rfl]|rw[if_neg om])
theorem qM{n:Nat}:zX n 2=some (2):=by unfold zX;repeat (first|rfl|rw[if_pos rfl]|rw[if_neg om])
theorem ET{m:List Bool}{s:List A}{y1 y2 x0 x1:D}{k z:Nat}{cs:List D}{d:List (List Int)}(hl:d.length<=4294967296):gc 1 m s (.box [.d y1,.d y2]::.box [.d x0,.sl 3 0 0 0,.sl 4 0 0 0]::.box [.d x1,.sl 5 0 0 k,.sl 6 0 0 z]::.arr [] 0 0::.arr [] 0 0::.vec (aC 7 d++aF 0) 1 0::.arr cs 1 0::aH d)=match box (tidy m s)with
  |.mk s1=>if idsL s1=[1,2]/\z0As s1=true then(aE (zX d.length) s1,.box [.d y1,.d y2]::.box [.d x0,.sl 3 0 0 0,.sl 4 0 0 0]::.box [.d x1,.sl 5 0 0 k,.sl 6 0 0 z]::.arr [] 0 0::.arr [] 0 0::.vec (aC 7 d++aF 0) 1 0::.arr cs 1 0::aH d)else gcO 1 m s (.box [.d y1,.d y2]::.box [.d x0,.sl 3 0 0 0,.sl 4 0 0 0]::.box [.d x1,.sl 5 0 0 k,.sl 6 0 0 z]::.arr [] 0 0::.arr [] 0 0::.vec (aC 7 d++aF 0) 1 0::.arr cs 1 0::aH d)
  |.no=>([],[]):=by
 simp only[box]
 split
 ·rename_i hc
  obtain⟨hb,hz⟩:=hc;have hids:idsL (tidy m s)=[1,2]:=by exact hb
  obtain⟨h,hh⟩:∃h:H,O.box [.d y1,.d y2]::.box [.d x0,.sl 3 0 0 0,.sl 4 0 0 0]::.box [.d x1,.sl 5 0 0 k,.sl 6 0 0 z]::.arr [] 0 0::.arr [] 0 0::.vec (aC 7 d++aF 0) 1 0::.arr cs 1 0::aH d=h:=⟨_,rfl⟩
  conv=>lhs;rw[hh]
  have g0:h[0]? =some (.box [.d y1,.d y2]):=by rw[<-hh];rfl
  have g1:h[1]? =some (.box [.d x0,.sl 3 0 0 0,.sl 4 0 0 0]):=by rw[<-hh];rfl
  have g2:h[2]? =some (.box [.d x1,.sl 5 0 0 k,.sl 6 0 0 z]):=by rw[<-hh];rfl
  have g3:h[3]? =some (.arr [] 0 0):=by rw[<-hh];rfl
  have g4:h[4]? =some (.arr [] 0 0):=by rw[<-hh];rfl
  have g5:h[5]? =some (.vec (aC 7 d++aF 0) 1 0):=by rw[<-hh];rfl
  have g6:h[6]? =some (.arr cs 1 0):=by rw[<-hh];rfl
  have hD:h.drop 7=aH d++[]:=by rw[<-hh];exact(Ai _).symm
  have gr:=gZ 7 hD;have k0:kids h (0)=[]:=by simp[kids,g0,idsL,idsA]
  have k1:kids h (1)=[3,4]:=by simp[kids,g1,idsL,idsA]
  have k2:kids h (2)=[5,6]:=by simp[kids,g2,idsL,idsA]
  have k3:kids h (3)=[]:=bJ g3;have k4:kids h (4)=[]:=bJ g4;have k5:kids h (5)=List.range' 7 d.length:=by simp[kids,g5,bH,bQ,cW]
  have leaf:=iK gr;have hr:aD (aG+1) h [0,1,2] []=[0,1,2,3,4,5]++([6]++(List.range' 7 d.length++[])):=fH (by simp[k0,k1,k2,k3,k4,k5]) (by intro q hq;simp only[Ad,Ac]at hq;have:q=0\/q=1\/q=2\/q=3\/q=4\/q=5:=om;rcases this with rfl|rfl|rfl|rfl|rfl|rfl<;>simp[k0,k1,k2,k3,k4]) leaf (by intro i hi;simp at hi;subst hi;exact⟨_,_,_,by assumption⟩) (by intro i hi;simp at hi;rcases hi with rfl|rfl|rfl|rfl|rfl|rfl<;>exact⟨_,by assumption,by simp⟩) (by simp<;>omega) (by intro i hi;simp at hi;omega) (by simp only[aG,Ad,Ac];omega);generalize hord:[0,1,2,3,4,5]++([6]++(List.range' 7 d.length++[]))=ord at hr;have hA:ord=([0,1,2,3,4,5]++[6])++(List.range' 7 d.length++[]):=by rw[<-hord,Am]
  have pk:∀i j,ord[j]? =some i->aI ord i=some j:=fun i j h1=>dC (by rw[<-hr];exact bP (aG+1) h _ [] sm) h1;have p0:=pk (0) 0 (by rw[<-hord];rfl);have p1:=pk (1) 1 (by rw[<-hord];rfl);have p2:=pk (2) 2 (by rw[<-hord];rfl);have p3:=pk (3) 3 (by rw[<-hord];rfl);have p4:=pk (4) 4 (by rw[<-hord];rfl);have p5:=pk (5) 5 (by rw[<-hord];rfl);have p6:=pk (6) 6 (by rw[<-hord];rfl);have pr:=iL (C:=7) pk hA rfl;obtain⟨K,hK⟩:∃K:H,O.box [.d y1,.d y2]::.box [.d x0,.sl 3 0 0 0,.sl 4 0 0 0]::.box [.d x1,.sl 5 0 0 k,.sl 6 0 0 z]::.arr [] 0 0::.arr [] 0 0::.vec (aC 7 d++aF 0) 1 0::.arr cs 1 0::aH d=K:=⟨_,rfl⟩
  have hni:∀f,aE f (aF 0)=aF 0:=fun _=>rfl
  have hpk:pack h ord=K:=by
   have hrf:aE (aI ord) (aC 7 d)=aC 7 d:=eB (c:=0) pr;rw[kD hA gr,<-hK];simp only[Av,Ao,Ah,Ap,Aa,g0,g1,g2,g3,g4,g5,g6,Bb,mapO,aE,mapA,cM,hrf,hni,p3,p4,p5,p6,Ai]
  have hKD:K.drop 7=aH d++[]:=by rw[<-hK];exact(Ai _).symm
  have hgr:=mR hKD
  have hcm:cC 0 K=.box [.d y1,.d y2]::.box [.d x0,.sl 3 0 0 0,.sl 4 0 0 0]::.box [.d x1,.sl 5 0 0 k,.sl 6 0 0 z]::.arr [] 0 0::.arr [] 0 0::.vec (aC 7 d++aF 0) 1 0::.arr cs 1 0::aH d:=by
   have hrf:aR 0 K (aC 7 d)=aC 7 d:=eW hgr;have hnc:∀h:H,aR 0 h (aF 0)=aF 0:=fun _=>rfl;have q3:aX K 3=some 0:=by rw[<-hK];rfl
   have q4:aX K 4=some 0:=by rw[<-hK];rfl
   have q5:aX K 5=some 0:=by rw[<-hK];rfl
   have q6:aX K 6=some 0:=by rw[<-hK];rfl
   unfold cC;rw[eX]
   conv=>lhs;arg 2;rw[<-hK]
   simp only[Ah,bT,aR,bI,gI,dZ,hrf,hnc,fM,q3,q4,q5,q6,Bw,if_false,if_true]
  subst hK;rw[aBO hh hids hr,hpk,hcm]
  have hmp:aE (aI ord) (tidy m s)=aE (zX d.length) (tidy m s):=by
   apply j5;rw[hids];intro i hi;simp only[At,Bo,or_false]at hi
   rcases hi with rfl|rfl
   ·rw[p1,qG]
   ·rw[p2,qM]
  have hz2:aR 0 (O.box [.d y1,.d y2]::.box [.d x0,.sl 3 0 0 0,.sl 4 0 0 0]::.box [.d x1,.sl 5 0 0 k,.sl 6 0 0 z]::.arr [] 0 0::.arr [] 0 0::.vec (aC 7 d++aF 0) 1 0::.arr cs 1 0::aH d) (aE (aI ord) (tidy m s))=aE (aI ord) (tidy m s):=by
   exact j3 (HH (by simp[z0O,z0As,z0A,y5,vZ,vV,EY])) _ (wY _ hz)
  rw[hz2,hmp]
 ·rfl
end Ev
end Go.Proofs.YthlkcebdfbjdoaaGreat
