/-
  Memory with rows: what is reached, in which order.
-/
import Derived.Test.YtahbdkmimmnadaaGreatDoorRead
import Derived.Tactics
set_option linter.unusedSimpArgs false
set_option linter.unusedVariables false
set_option linter.unusedSectionVars false
set_option maxRecDepth 8000
set_option maxHeartbeats 4000000
namespace Go.Proofs.YtahbdkmimmnadaaGreatDoor
namespace Ev
section
theorem aNf{h:H}{ids P T:List Nat}(hfix:P++T=ids++P.flatMap (kids h))(hT:∀i∈T,kids h i=[])(hprog:∀k,k<P.length->k<ids.length+((P.take k).flatMap (kids h)).length)(hnd:(P++T).Nodup)(hv:∀i∈P++T,∃o,h[i]? =some o/\o≠.void){n:Nat}(hf:(P++T).length<=n):aD n h ids []=P++T:=by
 generalize hL:P++T=L at *
 have hTf:T.flatMap (kids h)=[]:=by
  rw[List.flatMap_eq_nil_iff];exact hT
 have hLf:L.flatMap (kids h)=P.flatMap (kids h):=by rw[<-hL,List.flatMap_append,hTf,Ah]
 have fix:L=ids++L.flatMap (kids h):=by rw[hLf];exact hfix
 have prog:∀k,k<L.length->k<ids.length+((L.take k).flatMap (kids h)).length:=by
  intro k hk
  by_cases h1:k<P.length
  ·have:=hprog k h1;have e:L.take k=P.take k:=by rw[<-hL,List.take_append_of_le_length om]
   rw[e];exact this
  ·have e:(L.take k).flatMap (kids h)=P.flatMap (kids h):=by
    rw[<-hL,List.take_append,List.flatMap_append,Ca om]
    have:(T.take (k-P.length)).flatMap (kids h)=[]:=by
     rw[List.flatMap_eq_nil_iff];intro i hi;exact hT i (List.mem_of_mem_take hi)
    rw[this,Ah]
   rw[e];have:=congrArg List.length hfix;rw[Ai]at this;omega
 have key:∀(n k:Nat),k<=L.length->L.length-k<=n->aD n h ((ids++(L.take k).flatMap (kids h)).drop k) (L.take k)=L:=by
  intro n
  induction n with
  |zero=>
   intro k hk hn;have:k=L.length:=om;subst this;simp only[aD,Cs]
  |succ n ih=>
   intro k hk hn
   by_cases hkl:k=L.length
   ·subst hkl;rw[Cs,<-fix,Bl];simp only[aD]
   ·have hk':k<L.length:=om;have hp:=prog k hk';have hX:k<(ids++(L.take k).flatMap (kids h)).length:=by rw[Ai];exact hp
    have hget:(ids++(L.take k).flatMap (kids h))[k]'hX=L[k]:=by
     have e:L=(ids++(L.take k).flatMap (kids h))++(L.drop k).flatMap (kids h):=by
      rw[Ao,<-List.flatMap_append,List.take_append_drop];exact fix
     have e2:L[k]? =(ids++(L.take k).flatMap (kids h))[k]?:=by
      conv=>lhs;rw[e]
      rw[Be hX]
     rw[Ae hk',Ae hX]at e2;exact(Option.some.inj e2).symm
    rw[Da hX,hget];obtain⟨o,ho,hov⟩:=hv L[k] (Ba hk')
    have hni:L[k]∉L.take k:=by
     intro hm;obtain⟨j,hj,he⟩:=Dk hm;rw[Cv]at hj;rw[List.getElem_take]at he;exact(List.pairwise_iff_getElem.1 hnd) j k om hk' om he
    have hc:(L.take k).contains L[k]=false:=by simpa using hni
    have hstep:aD (n+1) h (L[k]::(ids++(L.take k).flatMap (kids h)).drop (k+1)) (L.take k)=aD n h ((ids++(L.take k).flatMap (kids h)).drop (k+1)++kids h L[k]) (L.take k++[L[k]]):=by
     simp only[aD,hc,Ap,if_false,ho,kids]
     cases o<;>first|rfl|(simp;done)|exact absurd rfl hov
    rw[hstep];have ht:L.take (k+1)=L.take k++[L[k]]:=by rw[Dt,Ae hk'];rfl
    have hd:(ids++(L.take k).flatMap (kids h)).drop (k+1)++kids h L[k]=(ids++(L.take (k+1)).flatMap (kids h)).drop (k+1):=by
     rw[ht,List.flatMap_append,List.flatMap_singleton,<-Ao];exact(List.drop_append_of_le_length hX).symm
    rw[hd,<-ht];exact ih (k+1) om om
 have:=key n 0 om om
 simpa using this
def aB(b:Nat):List (List Int)->List A
 | []=>[]
 |r::rs=>.sl b 0 0 r.length::aB (b+1) rs
def aI(rs:List (List Int)):H:=rs.map fun r=>.arr (r.map (.int .i64)) 1 0
theorem bY:∀(rs:List (List Int)) (b:Nat),idsL (aB b rs)=List.range' b rs.length
 | [],b=>by simp[aB,idsL]
 |r::rs,b=>by simp[aB,idsL,idsA,bY rs,Ea]
theorem kN:∀(rs:List (List Int)) (b:Nat),(aB b rs).length=rs.length
 | [],b=>rfl
 |r::rs,b=>by simp[aB,kN rs]
theorem F7:∀(rs:List (List Int)) (b:Nat) (r:List Int),aB b (rs++[r])=aB b rs++[.sl (b+rs.length) 0 0 r.length]
 | [],b,r=>by simp[aB]
 |q::rs,b,r=>by
  simp only[As,aB,F7 rs,Ac];rw[show b+1+rs.length=b+(rs.length+1) by omega]
theorem aL7(rs:List (List Int))(r:List Int):aI rs++[.arr (r.map (.int .i64)) 1 0]=aI (rs++[r]):=by simp[aI]
theorem cC(rs:List (List Int)):(aI rs).length=rs.length:=by simp[aI]
theorem V1{rs:List (List Int)}{i:Nat}{r:List Int}(h:rs[i]? =some r):(aI rs)[i]? =some (.arr (r.map (.int .i64)) 1 0):=by simp[aI,h]
theorem fC{f:Nat->Option Nat}{c:Nat}:∀ {rs:List (List Int)} {b d:Nat},(∀i,i<rs.length->f (b+i)=some (d+i))->aE f (aB b rs)=aB d rs
 | [],b,d,_=>by simp[aB,aE]
 |r::rs,b,d,h=>by
  have h0:=h 0 sm;simp only[Bm]at h0;simp only[aB,aE,mapA,h0]
  rw[fC (c:=c) (rs:=rs) (b:=b+1) (d:=d+1) fun i hi=>by
   have:=h (i+1) (by simp;omega);rw[show b+1+i=b+(i+1) by omega,this]
   congr 1;omega]
theorem aIX(f:Nat->Option Nat)(rs:List (List Int)):(aI rs).map (mapO f)=aI rs:=by
 simp only[aI,List.map_map]<;>rfl
theorem aEJ{h:H}{f:Nat->Option Nat}:∀ {rs:List (List Int)} {b:Nat},(∀i r,rs[i]? =some r->h[b+i]? =some (.arr (r.map (.int .i64)) 1 0))->(List.range' b rs.length).map (fun i=>mapO f (h.getD i default))=aI rs
 | [],b,_=>by simp[aI]
 |r::rs,b,hh=>by
  have h0:=hh 0 r rfl;simp only[Bm]at h0;simp only[Ac,Ea,Af,Aa,h0,Bd]
  have:=aEJ (h:=h) (f:=f) (rs:=rs) (b:=b+1) fun i q hq=>by
   rw[show b+1+i=b+(i+1) by omega];exact hh (i+1) q (by simpa using hq)
  simp only[Aa]at this;rw[this];rfl
mutual
theorem aP6{f:Nat->Option Nat}:∀a:A,(∀i∈idsA a,f i=some i)->mapA f a=a
 |.d x,_=>by simp only[mapA]
 |.sl id gen off len,h=>by simp only[mapA,h id (by simp[idsA])]
 |.ptr id gen off,h=>by simp only[mapA,h id (by simp[idsA])]
 |.mp id,h=>by simp only[mapA,h id (by simp[idsA])]
 |.clo g caps,h=>by simp only[mapA];rw[fT caps (by simpa only[idsA]using h)]
 |.agg cs,h=>by simp only[mapA];rw[fT cs (by simpa only[idsA]using h)]
 |.tup cs,h=>by simp only[mapA];rw[fT cs (by simpa only[idsA]using h)]
 |.junk,_=>by simp only[mapA]
theorem fT{f:Nat->Option Nat}:∀asx:List A,(∀i∈idsL asx,f i=some i)->aE f asx=asx
 | [],_=>by simp only[aE]
 |a::asx,h=>by
  simp only[idsL,Aq]at h;simp only[aE];rw[aP6 a fun i hi=>h i (.inl hi),fT asx fun i hi=>h i (.inr hi)]
end
mutual
def z0A:A->Bool
 |.sl _ g _ _=>g==0
 |.ptr _ g _=>g==0
 |.mp _=>true
 |.clo _ caps=>z0As caps
 |.agg cs=>z0As cs
 |.tup cs=>z0As cs
 |.d _=>true
 |.junk=>true
def z0As:List A->Bool
 | []=>true
 |a::asx=>z0A a&&z0As asx
end
mutual
theorem aNX{nf:Nat}{h:H}(hg:∀i g,a6 h i=some g->g=0):∀a:A,z0A a=true->bJ nf h a=a
 |.d x,_=>by simp only[bJ]
 |.sl id gen off len,hz=>by
  simp only[z0A,beq_iff_eq]at hz;subst hz;simp only[bJ,gS]
  split
  ·rfl
  ·cases hgo:a6 h id with
   |none=>rfl
   |some g=>have:=hg id g hgo;subst this;simp
 |.ptr id gen off,hz=>by
  simp only[z0A,beq_iff_eq]at hz;subst hz;simp only[bJ,IE]
  split
  ·rfl
  ·cases hgo:a6 h id with
   |none=>rfl
   |some g=>have:=hg id g hgo;subst this;simp
 |.mp id,hz=>by simp only[bJ]
 |.clo g caps,hz=>by simp only[bJ];rw[kI hg caps (by simpa only[z0A]using hz)]
 |.agg cs,hz=>by simp only[bJ];rw[kI hg cs (by simpa only[z0A]using hz)]
 |.tup cs,hz=>by simp only[bJ];rw[kI hg cs (by simpa only[z0A]using hz)]
 |.junk,_=>by simp only[bJ]
theorem kI{nf:Nat}{h:H}(hg:∀i g,a6 h i=some g->g=0):∀asx:List A,z0As asx=true->aQ nf h asx=asx
 | [],_=>by simp only[aQ]
 |a::asx,hz=>by
  simp only[z0As,Aj]at hz;simp only[aQ];rw[aNX hg a hz.1,kI hg asx hz.2]
end
def z0O:O->Bool
 |.arr _ _ g=>g==0
 |.box cs=>z0As cs
 |.ice _ _ g=>g==0
 |.vec cs _ g=>g==0&&z0As cs
 |.log _=>true
 |.mp _=>true
 |.void=>true
theorem HD{h:H}(hz:h.all z0O=true):∀i g,a6 h i=some g->g=0:=by
 intro i g hg;unfold a6 at hg
 cases ho:h[i]? with
 |none=>rw[ho]at hg;cases hg
 |some o=>
  have:=Bh.1 hz o (Bo ho);rw[ho]at hg
  cases o with
  |arr cs e g'=>simp only[Option.some.injEq]at hg;subst hg;simpa [z0O]using this
  |ice cs e g'=>simp only[Option.some.injEq]at hg;subst hg;simpa [z0O]using this
  |vec cs e g'=>simp only[Option.some.injEq]at hg;subst hg;simp only[z0O,Aj,beq_iff_eq]at this;exact this.1
  |_=>cases hg
theorem BS:∀(asx bs:List A),z0As (asx++bs)=(z0As asx&&z0As bs)
 | [],bs=>by simp[z0As]
 |a::asx,bs=>by simp[z0As,BS asx bs,Bool.and_assoc]
theorem xB:∀(rs:List (List Int)) (b:Nat),z0As (aB b rs)=true
 | [],b=>by simp[aB,z0As]
 |r::rs,b=>by simp[aB,z0As,z0A,xB rs]
theorem H7(rs:List (List Int)):(aI rs).all z0O=true:=by simp[aI,z0O]
def gcO(nf:Nat)(m:List Bool)(s:List A)(h:H):List A×H:=gc nf m s h
def aQA(nf:Nat)(h:H)(ord:List Nat)(s:List A):List A×H:=trim nf h ord s
def aG(q:Nat):List A:=List.replicate q (.d .nils)
theorem aDk(q:Nat):aG (q+1)=.d .nils::aG q:=rfl
theorem aNR(q:Nat):(aG q).length=q:=by simp[aG]
theorem dO:∀q:Nat,idsL (aG q)=[]
 |0=>by simp[aG,idsL]
 |q+1=>by rw[aDk];simp[idsL,idsA,dO q]
theorem xG:∀q:Nat,z0As (aG q)=true
 |0=>by simp[aG,z0As]
 |q+1=>by rw[aDk];simp[z0As,z0A,xG q]
section
variable{rs:List (List Int)}{q:Nat}
def aQH(nf:Nat)(h:H)(ids:List Nat):List Nat:=dI nf h ids
end
end
theorem aMf{l:List Edge}{k:Nat}{v:Int}(h:k<l.length):bD (aJ l) (k*3) [.int .i64 v]=aJ (l.set k ⟨v,(l.getD k default).lt,(l.getD k default).to⟩):=by
 unfold bD;rw[r5,Ci,<-Br,oC h,Ej,if_pos h,<-PL,f8];simp
theorem aMr{l:List Edge}{k:Nat}{v:Int}(h:k<l.length):bD (aJ l) (k*3+1) [.int .i64 v]=aJ (l.set k ⟨(l.getD k default).fr,v,(l.getD k default).to⟩):=by
 have e:(aJ l).take (k*3+1)=aJ (l.take k)++[.int .i64 (l.getD k default).fr]:=by
  rw[List.take_add,r5,oC h];rfl
 unfold bD;rw[e,Ci,Dd,<-Br,oC h,Ej,if_pos h,<-PL,f8];simp
theorem aMa{l:List Edge}{k:Nat}{v:Int}(h:k<l.length):bD (aJ l) (k*3+2) [.int .i64 v]=aJ (l.set k ⟨(l.getD k default).fr,(l.getD k default).lt,v⟩):=by
 have e:(aJ l).take (k*3+2)=aJ (l.take k)++[.int .i64 (l.getD k default).fr,.int .i64 (l.getD k default).lt]:=by
  rw[List.take_add,r5,oC h];rfl
 unfold bD;rw[e,Ci,Dd,<-Br,oC h,Ej,if_pos h,<-PL,f8];simp
theorem TG{R:Type}{E:Env}{call:aX}{h:H}{f:FuncId}{args:List A}{r:A}{k:KA R}{id e g e2 g2:Nat}{cs cs2:List D}(hi:h[id]? =some (.arr cs e g))(hid:idsL args=[id])(hm:(E.hint f).mode=0)(hr:idsA r=[])(he:call f (aE (aH [id]) args) [.arr cs e g]=some (r,[.arr cs2 e2 g2])):
  aW E call h f args k=k r (h.set id (.arr cs2 e2 g2)):=by
 have hre:aD aF h [id] []=[id]:=by
  have e1:aD aF h [id] []=match h[id]? with
   |some (.box cs)=>aD (aF-1) h ([]++idsL cs) ([]++[id])
   |some (.vec cs _ _)=>aD (aF-1) h ([]++idsL cs) ([]++[id])
   |some .void=>aD (aF-1) h [] []
   |some _=>aD (aF-1) h [] ([]++[id])
   |none=>aD (aF-1) h [] []:=rfl
  rw[e1,hi];rfl
 have hpk:pack h [id]=[.arr cs e g]:=by
  simp only[pack,Af,Al,Aa,hi];rfl
 unfold aW;rw[hid,hre,hpk]
 have hc:bV call E.hint [.arr cs e g] f (aE (aH [id]) args)=some (r,[.arr cs2 e2 g2]):=by
  unfold bV;rw[hm];exact he
 rw[hc]
 have hcl:closed h [id] [id]=true:=by
  simp only[closed,Bp,Cc,hi];simp
 simp only[Ac,Ab,Ad,hcl,and_self,if_true,nV r hr];simp only[bE,mapO,Al,Ah]
structure Aut where
 al:Int
 nx:List (List Int)
 ac:List Bool
 deriving DecidableEq,Inhabited
def rowD(r:List Int):D:=.ivs r.length (ints r)
def aP(rs:List (List Int)):List D:=rs.map rowD
def aK(l:List Bool):List D:=l.map .bool
theorem HZ{l:List (List Int)}:(aP l).length=l.length:=by simp[aP]
theorem gU{l:List Bool}:(aK l).length=l.length:=by simp[aK]
theorem zP{l:List Bool}{k:Nat}(h:l.length<=k):(aK l).take k=aK l:=Ca (by rw[gU];exact h)
theorem aC1{l:List Bool}{k:Nat}(h:k<l.length):(((aK l).drop k).map A.d).head? =some (.d (.bool (l.getD k false))):=by
 rw[List.head?_map,Dc,aK,Bb,Aa,Ae h];rfl
theorem aMF{l:List Bool}{k:Nat}{v:Bool}(h:k<l.length):bD (aK l) k [.bool v]=aK (l.set k v):=GF _ l k v h
theorem US{l:List (List Int)}{k:Nat}(h:k<l.length):(((aP l).drop k).map A.d).head? =some (.d (.ivs (l.getD k []).length (ints (l.getD k [])))):=by
 rw[List.head?_map,Dc,aP,Bb,Aa,Ae h];rfl
theorem CH{l:List (List Int)}{k:Nat}(h:l.length<=k):(aP l).take k=aP l:=Ca (by rw[HZ];exact h)
theorem LA:type_of% (AI @HZ (AI @gU (AI @zP (AI @aC1 (AI @US @CH))))):=
 ⟨@HZ,@gU,@zP,@aC1,@US,@CH⟩
theorem aLb{α:Type}{l:List α}{k:Nat}{v:α}{m:List α}(h:k<l.length):(l.set k v).take (k+1)++m=l.take k++(v::m):=by
 rw[take_set h];simp
theorem aJo:env.P.cellsOf 104=1:=kr
theorem M0(rs:List (List Int))(r:List Int):aI rs++[.arr (ints r) 1 0]=aI (rs++[r]):=aL7 rs r
def bN(rs:List (List Int)):Prop:=rs.length<=4294967296/\∀r∈rs,r.length<=4294967296
theorem wK{rs:List (List Int)}(h:bN rs){k:Nat}(hk:k<rs.length):(rs.getD k []).length<=4294967296:=by
 rw[Aa,Ae hk];exact h.2 _ (Ba hk)
section
def autO(b:Nat)(rs:List (List Int))(ac:List Bool):H:=.vec (aB (b+2) rs++aG 0) 1 0::.arr (aK ac) 1 0::aI rs
def autA(v:Nat)(al:Int)(n m:Nat):A:=.agg [nI al,.sl v 0 0 n,.sl (v+1) 0 0 m]
def autD(al:Int)(rs:List (List Int))(ac:List Bool):A:=.agg [nI al,.d (.ivs rs.length (aP rs)),.d (.ivs ac.length (aK ac))]
structure Has(h:H)(v:Nat)(rs:List (List Int))(ac:List Bool):Prop where
 vec:h[v]? =some (.vec (aB (v+2) rs++aG 0) 1 0)
 acc:h[v+1]? =some (.arr (aK ac) 1 0)
 row:∀(i:Nat) (r:List Int),rs[i]? =some r->h[v+2+i]? =some (.arr (ints r) 1 0)
theorem PH{b:Nat}{rs:List (List Int)}{ac:List Bool}:(autO b rs ac).length=rs.length+2:=by simp[autO,cC]
theorem aRQ{h:H}{rs:List (List Int)}{ac:List Bool}:Has (h++autO h.length rs ac) h.length rs ac:=by
 refine⟨by simp[autO],by simp[autO],fun i r hr=> ?_⟩;rw[Bq om,show h.length+2+i-h.length=i+1+1 by omega];simp only[autO,Av];exact V1 hr
theorem aRU{h h2:H}{v:Nat}{rs:List (List Int)}{ac:List Bool}(k:Has h v rs ac):Has (h++h2) v rs ac:=
 ⟨by rw[Be (sF k.vec)];exact k.vec,by rw[Be (sF k.acc)];exact k.acc,
  fun i r hr=>by rw[Be (sF (k.row i r hr))];exact k.row i r hr⟩
theorem aHy{h:H}{b:Nat}{r:List Int}(hr:h[b]? =some (.arr (ints r) 1 0)):rd0 h (.sl b 0 0 r.length)=some (rowD r):=by
 simp only[rd0,hr,true_and,Ag,Bu,fE,Ad,if_true,Ax,eW,rowD]
theorem aK4{h:H}:∀ {rs:List (List Int)} {b:Nat},(∀(i:Nat) (r:List Int),rs[i]? =some r->h[b+i]? =some (.arr (ints r) 1 0))->gN (rd0 h) (aB b rs)=some (aP rs)
 | [],b,_=>rfl
 |r::rs,b,hh=>by
  have h0:=hh 0 r rfl;simp only[Bm]at h0
  simp only[aB,gN,aHy h0,aK4 (rs:=rs) (b:=b+1) fun i q hq=>by
   rw[show b+1+i=b+(i+1) by omega];exact hh (i+1) q (by simpa using hq)]
  rfl
theorem aSG{h:H}{v:Nat}{rs:List (List Int)}{ac:List Bool}(k:Has h v rs ac):rd1 h (.sl v 0 0 rs.length)=some (.ivs rs.length (aP rs)):=by
 have hl:0+rs.length*1<=(aB (v+2) rs++aG 0).length:=by rw[Ai,kN];omega
 have hn:aG 0=[]:=rfl;simp only[rd1,k.vec];rw[if_pos ⟨trivial,hl⟩];simp only[hn,Ah,aK4 k.row,Ay,Ax,Bu,CH (Ad _)]
theorem aSQ{h:H}{v:Nat}{rs:List (List Int)}{ac:List Bool}(k:Has h v rs ac):rd1 h (.sl (v+1) 0 0 ac.length)=some (.ivs ac.length (aK ac)):=by
 have hl:0+ac.length*1<=(aK ac).length:=by rw[gU];omega
 simp only[rd1,rd0,k.acc];rw[if_pos ⟨trivial,hl⟩];simp only[Ax,Bu,zP (Ad _)]
theorem pR:∀(h h2:H),wgt (h++h2)=wgt h+wgt h2
 | [],h2=>by simp[wgt]
 |o::h,h2=>by cases o<;>simp[wgt,pR h h2]<;>omega
theorem HI(rs:List (List Int)):wgt (aI rs)=0:=by
 induction rs with
 |nil=>rfl
 |cons r rs ih=>simpa [aI,wgt]using ih
theorem aRe{b:Nat}{rs:List (List Int)}{ac:List Bool}:wgt (autO b rs ac)=rs.length:=by
 simp[autO,wgt,HI,bM,bY,dO]
def jL:O->List Nat
 |.box cs=>idsL cs
 |.vec cs _ _=>idsL cs
 |_=>[]
section
variable{h:H}{v:Nat}{rs:List (List Int)}{ac:List Bool}
theorem aKV{f:Nat->Option Nat}{b d:Nat}(hf:∀i,i<rs.length->f (b+i)=some (d+i)):mapO f (.vec (aB b rs++aG 0) 1 0)=.vec (aB d rs++aG 0) 1 0:=by
 have hn:aG 0=[]:=rfl;simp only[mapO,hn,Ah,fC (c:=0) hf]
theorem aIh{f:Nat->Option Nat}{al:Int}{n m a b:Nat}(h0:f a=some b)(h1:f (a+1)=some (b+1)):mapA f (autA a al n m)=autA b al n m:=by
 simp only[autA,mapA,aE,h0,h1]
theorem aHZ{b n i:Nat}(hi:i<n):back [] b n i=some (b+i):=by
 unfold back;simp[hi]
theorem aQd{b n:Nat}(hn:n=rs.length+2):(autO 0 rs ac).map (mapO (back [] b n))=autO b rs ac:=by
 subst hn;unfold autO;rw[Af,Af,aIX,aKV (d:=b+2) fun i hi=>by rw[aHZ om];congr 1;omega];rfl
end
section
variable{E:Env}{call:aX}{h:H}{f:FuncId}
theorem aBI:∀ {rs rs2:List (List Int)} {b:Nat},rs2.map List.length=rs.map List.length->aB b rs2=aB b rs
 | [],[],b,_=>rfl
 | [],_::_,b,hl=>by simp at hl
 |_::_,[],b,hl=>by simp at hl
 |r::rs,q::rs2,b,hl=>by
  simp only[Af,List.cons.injEq]at hl;simp only[aB,hl.1,aBI hl.2]
end
end
def aL:List (List Int)->Nat
 | []=>0
 |r::rs=>r.length+aL rs
section
section
variable{h h2:H}{nf:Nat}(hn:nf=h.length)(hk:∀o∈h,∀j∈jL o,j<nf)
include hn hk
end
theorem aFI{b k:Nat}:∀ {rs:List (List Int)} {b k:Nat},k<rs.length->((aB b rs++aG 0).drop k).head? =some (.sl (b+k) 0 0 (rs.getD k []).length)
 | [],b,k,h=>by simp at h
 |r::rs,b,0,h=>by simp[aB]
 |r::rs,b,k+1,h=>by
  simp only[aB,As,Dg];rw[aFI (b:=b) (k:=k) (by simpa using h)];simp only[List.getD_cons_succ]
  congr 2
  omega
theorem aJe{d:List (List Int)}{k:Nat}(h:k<d.length):(aI d)[k]? =some (.arr (ints (d.getD k [])) 1 0):=by
 rw[Aa,Ae h];exact V1 (Ae h)
theorem aNd{d:List (List Int)}{k:Nat}{r:List Int}:(aI d).set k (.arr (ints r) 1 0)=aI (d.set k r):=by
 unfold aI;rw[List.map_set];rfl
end
theorem aBd{R:Type}{L n:Nat}(hn:1<=n){a:Int}{k:KE R}:∀(i:Int) (m:Nat) (l:List Int) (len:Nat) (h0:0<=i) (hi:i<=6) (hm:6-i<m) (hl:len=l.length) (hlen:(l.length:Int)<=i),
  aS env (aA env L n) L 0 [] Bz63 (BG 0) (Z1 (U1 (Z2 (Z1 (U8 (U4 (U1 ([])))))))) m (nI a::Y1 (.d .nils::.sl 0 0 0 len::nI i::Y8 (Y4 (Y1 ([]))))) [.arr (ints l) 1 0] k
  =k (.exit 0) (nI a::Y1 (.d .nils::.sl 0 0 0 (len+((rF (6-i).toNat).filter (bG a)).length)::nI 6::Y8 (Y4 (Y1 ([]))))) [.arr (ints (l++(rF (6-i).toNat).filter (bG a))) 1 0]:=by
 intro i m l len h0 hi hm hl hlen;obtain⟨j,hj⟩:∃j:Nat,(j:Int)=(6:Int)-i:=⟨((6:Int)-i).toNat,by omega⟩
 induction j generalizing i m l len with
 |zero=>
  obtain _|m:=m;omega;obtain rfl:i=6:=om
  simp-implicitDefEqProofs (maxSteps:=9^7) (disch:=try exact Dz) only[↓DN,↓kRet,UP,simprocAttr,sD,rG,Tryz.f112];simp only[rF,List.filter_nil,Ah,Ab,Bm]
 |succ j ih=>
  obtain _|m:=m;omega;have hc:i<6:=om;have e1:(6-i).toNat=j+1:=om;have e2:(6-(i+1)).toNat=j:=om;have hr:rF (j+1)=i::rF j:=by simp only[rF];congr 1;omega
  rw[e1,hr,List.filter_cons]
  cases hb:bG a i with
  |true=>
   simp-implicitDefEqProofs (maxSteps:=9^7) (disch:=try exact Dz) only[↓DN,↓kRet,UP,simprocAttr,↓kF,↓ih,hc,hb,e2,sD,rG,Tryz.f112];simp only[Ao,As,Am,Dd,Ck 1]
  |false=>
   simp-implicitDefEqProofs (maxSteps:=9^7) (disch:=try exact Dz) only[↓DN,↓kRet,UP,simprocAttr,↓kF,↓ih,hc,hb,e2,sD,rG,Tryz.f112]
theorem aSx:rF (6-(0:Int)).toNat=[0,1,2,3,4,5]:=rfl
theorem N4{L n:Nat}(hn:2<=n)(a:Int)(hL:2^60<=L):aA env L n 112 [nI a] []=some (.d (.ivs (aC a).length (ints (aC a))),[]):=by
 unfold aC;rw[<-aSx];obtain _|n:=n;omega
 simp-implicitDefEqProofs (maxSteps:=9^7) (disch:=try exact Dz) only[↓DN,↓kAsg,↓kRet,UP,simprocAttr,aOD,↓aBd,aDQ,Q4,Tryz.f112]
theorem fL:type_of% fun {L} a hL=>ks fun hn=> @N4 L _ hn a hL:=fun {L} a hL=>ks fun hn=> @N4 L _ hn a hL
section
variable{R:Type}{L n:Nat}
def badQ(n:Int)(r:List Int)(i:Nat):Bool:=!(decide (0<=r.getD i 0)&&decide (r.getD i 0<n))
def CQ(w n:Int)(r:List Int):Bool:=!decide ((r.length:Int)=w)||(seek (badQ n r) r.length 0).isSome
def gG(w n:Int)(rs:List (List Int))(i:Nat):Bool:=CQ w n (rs.getD i [])
def d9(al:Int)(rs:List (List Int))(ac:List Bool):Bool:=
 bH al&&decide ((1:Int)<=rs.length)&&decide ((rs.length:Int)<=12)&&decide ((ac.length:Int)=rs.length)&&(seek (gG (aC al).length rs.length rs) rs.length 0).isNone
theorem aI4{w n:Int}{r:List Int}(h:¬(r.length:Int)=w):CQ w n r=true:=by
 unfold CQ;rw[decide_eq_false h];rfl
theorem O6{w n:Int}{r:List Int}(h:(r.length:Int)=w):CQ w n r=(seek (badQ n r) r.length 0).isSome:=by
 unfold CQ;rw[decide_eq_true h];rfl
theorem K8{n:Int}{r:List Int}{i:Nat}:badQ n r i=true↔¬(0<=r.getD i 0/\r.getD i 0<n):=by
 unfold badQ;simp only[Dy,Bool.and_eq_false_iff,decide_eq_false_iff_not];omega
theorem yL{n:Int}{r:List Int}{i:Nat}:badQ n r i=false↔(0<=r.getD i 0/\r.getD i 0<n):=by
 unfold badQ;simp only[Eb,Aj,decide_eq_true_eq]
theorem aHo{R:Type}{L nn:Nat}(hn:1<=nn){n:Int}{r:List Int}(hl:r.length<=4294967296){k:KE R}:∀(j:Nat) (i:Int) (m:Nat) (h0:0<=i) (hi:i+j=r.length) (hm:j<m),
  aS env (aA env L nn) L 0 [] Bz40 (PJ 0) (Z1 (U1 (Z1 (U2 (U1 (Z2 (U16 (U4 (U2 (U1 ([]))))))))))) m (.d (.ivs r.length (ints r))::Y1 (nI n::Y2 (Y1 (.d (.bool false)::nI i::Y16 (Y4 (Y2 (Y1 ([])))))))) [] k
  =match seek (badQ n r) j i.toNat with
   |none=>k (.exit 0) (.d (.ivs r.length (ints r))::Y1 (nI n::Y2 (Y1 (.d (.bool false)::nI (r.length)::Y16 (Y4 (Y2 (Y1 ([])))))))) []
   |some q=>k .ret (.d (.ivs r.length (ints r))::Y1 (nI n::Y2 (Y1 (.d (.bool false)::nI q::Y16 (Y4 (Y2 (Y1 ([])))))))) []:=by
 intro j
 induction j with
 |zero=>
  intro i m h0 hi hm;obtain _|m:=m;omega;obtain rfl:i=r.length:=om
  simp-implicitDefEqProofs (maxSteps:=9^7) (disch:=try exact Dz) only[↓DN,↓kRet,UP,simprocAttr,Ak,sQ,vE,Tryz.f125]<;>rfl
 |succ j ih=>
  intro i m h0 hi hm;obtain _|m:=m;omega;have hc:i<r.length:=om;have hk:i.toNat<r.length:=om;have e1:(i+1).toNat=i.toNat+1:=om;have e3:((i.toNat:Nat):Int)=i:=om
  by_cases h1:r.getD i.toNat 0<0
  ·have hb:badQ n r i.toNat=true:=by rw[K8];omega
   rw[i7 hb]
   simp-implicitDefEqProofs (maxSteps:=9^7) (disch:=try exact Dz) only[↓DN,↓kAsg,↓kRet,UP,simprocAttr,hc,h1,e3,sQ,vE,Tryz.f125]
  ·by_cases h2:n<=r.getD i.toNat 0
   ·have hb:badQ n r i.toNat=true:=by rw[K8];omega
    rw[i7 hb]
    simp-implicitDefEqProofs (maxSteps:=9^7) (disch:=try exact Dz) only[↓DN,↓kAsg,↓kRet,UP,simprocAttr,hc,h1,h2,e3,sQ,vE,Tryz.f125]
   ·have hb:badQ n r i.toNat=false:=by rw[yL];omega
    rw[lC hb]
    simp-implicitDefEqProofs (maxSteps:=9^7) (disch:=try exact Dz) only[↓DN,↓kRet,UP,simprocAttr,hc,h1,h2,↓ih,e1,sQ,vE,Tryz.f125]
theorem aBK(hn:2<=n)(r:List Int)(w q:Int)(hl:r.length<=4294967296)(hL:2^60<=L):aA env L n 125 [.d (.ivs r.length (ints r)),nI w,nI q] []=some (.d (.bool (!CQ w q r)),[]):=by
 unfold CQ
 by_cases h1:(r.length:Int)=w
 ·have loop_a:=fun {R:Type} {n:Nat} (hn:1<=n) {k:KE R}=>aHo (R:=R) (L:=L) (nn:=n) hn (n:=q) hl (k:=k) r.length 0 L om om om;simp only[Cf]at loop_a
  cases hs:seek (badQ q r) r.length 0 with
  |none=>
   rw[hs]at loop_a;obtain _|n:=n;omega
   simp-implicitDefEqProofs (maxSteps:=9^7) (disch:=try exact Dz) only[↓DN,↓kAsg,↓kRet,UP,simprocAttr,h1,↓loop_a,PN,K3,Tryz.f125]
  |some z=>
   rw[hs]at loop_a;obtain _|n:=n;omega
   simp-implicitDefEqProofs (maxSteps:=9^7) (disch:=try exact Dz) only[↓DN,↓kAsg,↓kRet,UP,simprocAttr,h1,↓loop_a,PN,K3,Tryz.f125]
 ·obtain _|n:=n;omega
  simp-implicitDefEqProofs (maxSteps:=9^7) (disch:=try exact Dz) only[↓DN,↓kAsg,↓kRet,UP,simprocAttr,h1,PN,K3,Tryz.f125]
theorem aDw:type_of% fun {L} r w q hl hL=>ks fun hn=> @aBK L _ hn r w q hl hL:=fun {L} r w q hl hL=>ks fun hn=> @aBK L _ hn r w q hl hL
theorem N5(hL:2^60<=L)(hn:3<=n){al:Int}{rs:List (List Int)}{ac:List Bool}(hs:bN rs){k:KE R}:∀(j:Nat) (i:Int) (m:Nat) (h0:0<=i) (hi:i+j=rs.length) (hm:j<m),
  aS env (aA env L n) L 0 [] Bz68 (pY 0) (U1 (Z4 (U32 (U4 (U2 (U1 ([]))))))) m (Y1 (.ptr 0 0 0::.d (.bool false)::nI (rs.length)::nI i::Y32 (Y4 (Y2 (Y1 ([])))))) [.box [nI al,.d (.ivs rs.length (aP rs)),.d (.ivs ac.length (aK ac))]] k
  =match seek (gG (aC al).length rs.length rs) j i.toNat with
   |none=>k (.exit 0) (Y1 (.ptr 0 0 0::.d (.bool false)::nI (rs.length)::nI (rs.length)::Y32 (Y4 (Y2 (Y1 ([])))))) [.box [nI al,.d (.ivs rs.length (aP rs)),.d (.ivs ac.length (aK ac))]]
   |some q=>k .ret (Y1 (.ptr 0 0 0::.d (.bool false)::nI (rs.length)::nI q::Y32 (Y4 (Y2 (Y1 ([])))))) [.box [nI al,.d (.ivs rs.length (aP rs)),.d (.ivs ac.length (aK ac))]]:=by
 intro j;have hrl:=hs.1;have hll:=dD al
 induction j with
 |zero=>
  intro i m h0 hi hm;obtain _|m:=m;omega;obtain rfl:i=rs.length:=om
  simp-implicitDefEqProofs (maxSteps:=9^7) (disch:=try exact Dz) only[↓DN,↓kRet,UP,simprocAttr,Ak,lM,kK,Tryz.f56]<;>rfl
 |succ j ih=>
  intro i m h0 hi hm;obtain _|m:=m;omega;have hc:i<rs.length:=om;have hk:i.toNat<rs.length:=om;have hrow:=wK hs hk;have e1:(i+1).toNat=i.toNat+1:=om;have e3:((i.toNat:Nat):Int)=i:=om
  cases hb:gG (aC al).length rs.length rs i.toNat with
  |true=>
   rw[i7 hb];unfold gG at hb
   simp-implicitDefEqProofs (maxSteps:=9^7) (disch:=try exact Dz) only[↓DN,↓kAsg,↓kRet,UP,simprocAttr,↓fL,↓aDw,LA,hc,hb,e3,lM,kK,Tryz.f56]
  |false=>
   rw[lC hb];unfold gG at hb
   simp-implicitDefEqProofs (maxSteps:=9^7) (disch:=try exact Dz) only[↓DN,↓kRet,UP,simprocAttr,↓fL,↓aDw,LA,hc,hb,↓ih,e1,lM,kK,Tryz.f56]
theorem AG(hn:4<=n)(al:Int)(rs:List (List Int))(ac:List Bool)(hs:bN rs)(ha:ac.length<=4294967296)(hL:2^60<=L):aA env L n 56 [.agg [nI al,.d (.ivs rs.length (aP rs)),.d (.ivs ac.length (aK ac))]] []=some (.d (.bool (d9 al rs ac)),[]):=by
 have hrl:=hs.1;have loop_a:=fun {R:Type} {n:Nat} (hn:3<=n) {k:KE R}=>N5 (R:=R) (L:=L) hL hn (al:=al) (ac:=ac) hs (k:=k) rs.length 0 L om om om;simp only[Cf]at loop_a;unfold d9
 cases hq:bH al with
 |false=>
  obtain _|n:=n;omega
  simp-implicitDefEqProofs (maxSteps:=9^7) (disch:=try exact Dz) only[↓DN,↓kAsg,↓kRet,UP,simprocAttr,↓dN,hq,fZ,fA,Tryz.f56]
 |true=>
  by_cases h1:(1:Int)<=rs.length
  ·have n1:¬(rs.length:Int)<1:=om
   by_cases h2:(rs.length:Int)<=12
   ·have n2:¬(12:Int)<rs.length:=om
    by_cases h3:(ac.length:Int)=rs.length
    ·cases hk:seek (gG (aC al).length rs.length rs) rs.length 0 with
     |none=>
      rw[hk]at loop_a;obtain _|n:=n;omega
      simp-implicitDefEqProofs (maxSteps:=9^7) (disch:=try exact Dz) only[↓DN,↓kAsg,↓kRet,UP,simprocAttr,↓dN,hq,h1,n1,h2,n2,h3,↓loop_a,fZ,fA,Tryz.f56]
     |some z=>
      rw[hk]at loop_a;obtain _|n:=n;omega
      simp-implicitDefEqProofs (maxSteps:=9^7) (disch:=try exact Dz) only[↓DN,↓kAsg,↓kRet,UP,simprocAttr,↓dN,hq,h1,n1,h2,n2,h3,↓loop_a,fZ,fA,Tryz.f56]
    ·obtain _|n:=n;omega
     simp-implicitDefEqProofs (maxSteps:=9^7) (disch:=try exact Dz) only[↓DN,↓kAsg,↓kRet,UP,simprocAttr,↓dN,hq,h1,n1,h2,n2,h3,fZ,fA,Tryz.f56]
   ·have n2:(12:Int)<rs.length:=om;obtain _|n:=n;omega
    simp-implicitDefEqProofs (maxSteps:=9^7) (disch:=try exact Dz) only[↓DN,↓kAsg,↓kRet,UP,simprocAttr,↓dN,hq,h1,n1,h2,n2,fZ,fA,Tryz.f56]
  ·have n1:(rs.length:Int)<1:=om;obtain _|n:=n;omega
   simp-implicitDefEqProofs (maxSteps:=9^7) (disch:=try exact Dz) only[↓DN,↓kAsg,↓kRet,UP,simprocAttr,↓dN,hq,h1,n1,fZ,fA,Tryz.f56]
theorem AC:type_of% fun {L} al rs ac hs ha hL=>ks fun hn=> @AG L _ hn al rs ac hs ha hL:=fun {L} al rs ac hs ha hL=>ks fun hn=> @AG L _ hn al rs ac hs ha hL
theorem JK(hL:2^60<=L)(hn:3<=n){al q w:Int}{rs:List (List Int)}{ac:List Bool}(hs:bN rs){r:List Int}(hr:r.length<=4294967296){k:KE R}:∀(j:Nat) (i:Int) (m:Nat) (h0:0<=i) (hi:i+j=r.length) (hm:j<m),
  aS env (aA env L n) L 0 [] Bz8 (iZ 1) (U1 (Z2 (Z1 (U32 (U2 (Z2 (Z1 (U4 (U2 (U1 (Z2 (Z1 (U8 (U4 (U2 ([])))))))))))))))) m (Y1 (.ptr 0 0 0::.d (.bool false)::nI w::Y32 (Y2 (.d (.ivs rs.length (aP rs))::nI (rs.length)::nI q::Y4 (Y2 (Y1 (.d (.ivs r.length (ints r))::nI (r.length)::nI i::Y8 (Y4 (Y2 ([])))))))))) [.box [nI al,.d (.ivs rs.length (aP rs)),.d (.ivs ac.length (aK ac))]] k
  =match seek (badQ rs.length r) j i.toNat with
   |none=>k (.exit 2) (Y1 (.ptr 0 0 0::.d (.bool false)::nI w::Y32 (Y2 (.d (.ivs rs.length (aP rs))::nI (rs.length)::nI q::Y4 (Y2 (Y1 (.d (.ivs r.length (ints r))::nI (r.length)::nI (r.length)::Y8 (Y4 (Y2 ([])))))))))) [.box [nI al,.d (.ivs rs.length (aP rs)),.d (.ivs ac.length (aK ac))]]
   |some z=>k .ret (Y1 (.ptr 0 0 0::.d (.bool false)::nI w::Y32 (Y2 (.d (.ivs rs.length (aP rs))::nI (rs.length)::nI q::Y4 (Y2 (Y1 (.d (.ivs r.length (ints r))::nI (r.length)::nI z::Y8 (Y4 (Y2 ([])))))))))) [.box [nI al,.d (.ivs rs.length (aP rs)),.d (.ivs ac.length (aK ac))]]:=by
 intro j;have hrl:=hs.1
 induction j with
 |zero=>
  intro i m h0 hi hm;obtain _|m:=m;omega;obtain rfl:i=r.length:=om
  simp-implicitDefEqProofs (maxSteps:=9^7) (disch:=try exact Dz) only[↓DN,↓kRet,UP,simprocAttr,Ak,iS,gZ,Tryz.f31]<;>rfl
 |succ j ih=>
  intro i m h0 hi hm;obtain _|m:=m;omega;have hc:i<r.length:=om;have hk:i.toNat<r.length:=om;have e1:(i+1).toNat=i.toNat+1:=om;have e3:((i.toNat:Nat):Int)=i:=om
  by_cases h1:r.getD i.toNat 0<0
  ·have hb:badQ rs.length r i.toNat=true:=by rw[K8];omega
   rw[i7 hb]
   simp-implicitDefEqProofs (maxSteps:=9^7) (disch:=try exact Dz) only[↓DN,↓kAsg,↓kRet,UP,simprocAttr,hc,h1,e3,iS,gZ,Tryz.f31]
  ·by_cases h2:(rs.length:Int)<=r.getD i.toNat 0
   ·have hb:badQ rs.length r i.toNat=true:=by rw[K8];omega
    rw[i7 hb]
    simp-implicitDefEqProofs (maxSteps:=9^7) (disch:=try exact Dz) only[↓DN,↓kAsg,↓kRet,UP,simprocAttr,hc,h1,h2,e3,iS,gZ,Tryz.f31]
   ·have hb:badQ rs.length r i.toNat=false:=by rw[yL];omega
    rw[lC hb]
    simp-implicitDefEqProofs (maxSteps:=9^7) (disch:=try exact Dz) only[↓DN,↓kRet,UP,simprocAttr,hc,h1,h2,↓ih,e1,iS,gZ,Tryz.f31]
theorem JJ(hL:2^60<=L)(hn:3<=n){al:Int}{rs:List (List Int)}{ac:List Bool}(hs:bN rs){k:KE R}:∀(j:Nat) (i:Int) (m:Nat) (h0:0<=i) (hi:i+j=rs.length) (hm:j<m),
  aS env (aA env L n) L 0 [] Bz8 (iZ 0) (U1 (Z2 (Z1 (U32 (U2 (Z2 (Z1 (U16 (U8 ([])))))))))) m (Y1 (.ptr 0 0 0::.d (.bool false)::nI ((aC al).length)::Y32 (Y2 (.d (.ivs rs.length (aP rs))::nI (rs.length)::nI i::Y16 (Y8 ([])))))) [.box [nI al,.d (.ivs rs.length (aP rs)),.d (.ivs ac.length (aK ac))]] k
  =match seek (gG (aC al).length rs.length rs) j i.toNat with
   |none=>k (.exit 0) (Y1 (.ptr 0 0 0::.d (.bool false)::nI ((aC al).length)::Y32 (Y2 (.d (.ivs rs.length (aP rs))::nI (rs.length)::nI (rs.length)::Y16 (Y8 ([])))))) [.box [nI al,.d (.ivs rs.length (aP rs)),.d (.ivs ac.length (aK ac))]]
   |some q=>k .ret (Y1 (.ptr 0 0 0::.d (.bool false)::nI ((aC al).length)::Y32 (Y2 (.d (.ivs rs.length (aP rs))::nI (rs.length)::nI q::Y16 (Y8 ([])))))) [.box [nI al,.d (.ivs rs.length (aP rs)),.d (.ivs ac.length (aK ac))]]:=by
 intro j;have hrl:=hs.1;have hll:=dD al
 induction j with
 |zero=>
  intro i m h0 hi hm;obtain _|m:=m;omega;obtain rfl:i=rs.length:=om
  simp-implicitDefEqProofs (maxSteps:=9^7) (disch:=try exact Dz) only[↓DN,↓kRet,UP,simprocAttr,Ak,iT,iC,Tryz.f31]<;>rfl
 |succ j ih=>
  intro i m h0 hi hm;obtain _|m:=m;omega;have hc:i<rs.length:=om;have hk:i.toNat<rs.length:=om;have hrow:=wK hs hk;have e1:(i+1).toNat=i.toNat+1:=om;have e3:((i.toNat:Nat):Int)=i:=om;have loop_a:=fun {R:Type} {k:KE R}=>JK (R:=R) (n:=n) (L:=L) hL hn (al:=al) (q:=i) (w:=(aC al).length) (ac:=ac) hs hrow (k:=k) (rs.getD i.toNat []).length 0 L om om om;simp only[Cf]at loop_a
  cases hb:gG (aC al).length rs.length rs i.toNat with
  |true=>
   rw[i7 hb];unfold gG at hb
   by_cases hw:((rs.getD i.toNat []).length:Int)=(aC al).length
   ·have hwd:decide (((rs.getD i.toNat []).length:Int)=(aC al).length)=true:=decide_eq_true hw
    cases hz:seek (badQ rs.length (rs.getD i.toNat [])) (rs.getD i.toNat []).length 0 with
    |none=>rw[O6 hw,hz]at hb;cases hb
    |some z=>
     rw[hz]at loop_a;clear ih hb
     simp-implicitDefEqProofs (maxSteps:=9^7) (disch:=try exact Dz) only[↓DN,↓kRet,UP,simprocAttr,LA,hc,hwd,↓loop_a,e3,iT,iC,Tryz.f31]
   ·clear ih hb loop_a
    simp-implicitDefEqProofs (maxSteps:=9^7) (disch:=try exact Dz) only[↓DN,↓kAsg,↓kRet,UP,simprocAttr,LA,hc,hw,e3,iT,iC,Tryz.f31]
  |false=>
   rw[lC hb];unfold gG at hb
   by_cases hw:((rs.getD i.toNat []).length:Int)=(aC al).length
   ·have hwd:decide (((rs.getD i.toNat []).length:Int)=(aC al).length)=true:=decide_eq_true hw
    cases hz:seek (badQ rs.length (rs.getD i.toNat [])) (rs.getD i.toNat []).length 0 with
    |none=>
     rw[hz]at loop_a;clear hb
     simp-implicitDefEqProofs (maxSteps:=9^7) (disch:=try exact Dz) only[↓DN,↓kRet,UP,simprocAttr,LA,hc,hwd,↓loop_a,↓ih,e1,iT,iC,Tryz.f31]
    |some z=>rw[O6 hw,hz]at hb;cases hb
   ·rw[aI4 hw]at hb;cases hb
theorem AS(hn:4<=n)(al:Int)(rs:List (List Int))(ac:List Bool)(hs:bN rs)(ha:ac.length<=4294967296)(hL:2^60<=L):aA env L n 31 [.agg [nI al,.d (.ivs rs.length (aP rs)),.d (.ivs ac.length (aK ac))]] []=some (.d (.bool (d9 al rs ac)),[]):=by
 have hrl:=hs.1;have hll:=dD al;have loop_a:=fun {R:Type} {n:Nat} (hn:3<=n) {k:KE R}=>JJ (R:=R) (L:=L) hL hn (al:=al) (ac:=ac) hs (k:=k) rs.length 0 L om om om;simp only[Cf]at loop_a;unfold d9
 cases hq:bH al with
 |false=>
  obtain _|n:=n;omega
  simp-implicitDefEqProofs (maxSteps:=9^7) (disch:=try exact Dz) only[↓DN,↓kAsg,↓kRet,UP,simprocAttr,↓bR,hq,f0,fD,Tryz.f31]
 |true=>
  by_cases h1:(1:Int)<=rs.length
  ·have n1:¬(rs.length:Int)<1:=om
   by_cases h2:(rs.length:Int)<=12
   ·have n2:¬(12:Int)<rs.length:=om
    by_cases h3:(ac.length:Int)=rs.length
    ·cases hk:seek (gG (aC al).length rs.length rs) rs.length 0 with
     |none=>
      rw[hk]at loop_a;obtain _|n:=n;omega
      simp-implicitDefEqProofs (maxSteps:=9^7) (disch:=try exact Dz) only[↓DN,↓kAsg,↓kRet,UP,simprocAttr,↓bR,↓gI,hq,h1,n1,h2,n2,h3,↓loop_a,f0,fD,Tryz.f31]
     |some z=>
      rw[hk]at loop_a;obtain _|n:=n;omega
      simp-implicitDefEqProofs (maxSteps:=9^7) (disch:=try exact Dz) only[↓DN,↓kAsg,↓kRet,UP,simprocAttr,↓bR,↓gI,hq,h1,n1,h2,n2,h3,↓loop_a,f0,fD,Tryz.f31]
    ·obtain _|n:=n;omega
     simp-implicitDefEqProofs (maxSteps:=9^7) (disch:=try exact Dz) only[↓DN,↓kAsg,↓kRet,UP,simprocAttr,↓bR,hq,h1,n1,h2,n2,h3,f0,fD,Tryz.f31]
   ·have n2:(12:Int)<rs.length:=om;obtain _|n:=n;omega
    simp-implicitDefEqProofs (maxSteps:=9^7) (disch:=try exact Dz) only[↓DN,↓kAsg,↓kRet,UP,simprocAttr,↓bR,hq,h1,n1,h2,n2,f0,fD,Tryz.f31]
  ·have n1:(rs.length:Int)<1:=om;obtain _|n:=n;omega
   simp-implicitDefEqProofs (maxSteps:=9^7) (disch:=try exact Dz) only[↓DN,↓kAsg,↓kRet,UP,simprocAttr,↓bR,hq,h1,n1,f0,fD,Tryz.f31]
theorem bU:type_of% fun {L} al rs ac hs ha hL=>ks fun hn=> @AS L _ hn al rs ac hs ha hL:=fun {L} al rs ac hs ha hL=>ks fun hn=> @AS L _ hn al rs ac hs ha hL
end
section
variable{R:Type}{L n:Nat}
def mD(a l:Int):Nat:=((aC a).filter fun m=>decide (m<l)).length
def goI(al:Int)(rs:List (List Int))(q l:Int):Int:=if bG al l=true then(rs.getD q.toNat []).getD (mD al l) 0 else q
theorem six{l:Int}(h0:0<=l)(h1:l<6):l=0\/l=1\/l=2\/l=3\/l=4\/l=5:=om
theorem CU{a l:Int}(h0:0<=l)(h1:l<6)(hb:bG a l=true):mD a l<(aC a).length/\(aC a)[mD a l]? =some l:=by
 unfold mD aC;generalize bG a=p at *
 rcases six h0 h1 with rfl|rfl|rfl|rfl|rfl|rfl<;>
  cases h0':p 0<;>cases h1':p 1<;>cases h2':p 2<;>cases h3':p 3<;>cases h4':p 4<;>cases h5':p 5<;>simp_all [List.filter]
theorem kL{a l:Int}:l∈aC a↔(0<=l/\l<6)/\bG a l=true:=by
 unfold aC;rw[Cz]
 constructor
 ·rintro⟨h1,h2⟩;simp at h1;exact⟨by omega,h2⟩
 ·rintro⟨h1,h2⟩;refine⟨?_,h2⟩
  rcases six h1.1 h1.2 with rfl|rfl|rfl|rfl|rfl|rfl<;>simp
theorem aGL(a:Int):(aC a).Nodup:=by
 unfold aC;exact List.Nodup.sublist List.filter_sublist dc
def m4(q:Nat):Nat->Nat->List Int->List Int
 |0,_,t=>t
 |j+1,i,t=>m4 q j (i+1) (t.set (q*6+i) q)
def sM(q:Nat)(row:List Int):List Int->Nat->List Int->List Int
 | [],_,t=>t
 |l::ls,i,t=>sM q row ls (i+1) (t.set (q*6+l.toNat) (row.getD i 0))
def s7(ls:List Int):List (List Int)->Nat->List Int->List Int
 | [],_,t=>t
 |r::rs,q,t=>s7 ls rs (q+1) (sM q r ls 0 (m4 q 6 0 t))
def gJ(al:Int)(rs:List (List Int)):List Int:=s7 (aC al) rs 0 (List.replicate (rs.length*6) 0)
theorem xM:∀(j q i:Nat) (t:List Int),(m4 q j i t).length=t.length
 |0,_,_,_=>rfl
 |j+1,q,i,t=>by simp[m4,xM j]
theorem JR:∀(ls:List Int) (q i:Nat) (row t:List Int),(sM q row ls i t).length=t.length
 | [],_,_,_,_=>rfl
 |l::ls,q,i,row,t=>by simp[sM,JR ls]
theorem KI:∀(rs:List (List Int)) (ls:List Int) (q:Nat) (t:List Int),(s7 ls rs q t).length=t.length
 | [],_,_,_=>rfl
 |r::rs,ls,q,t=>by simp[s7,KI rs,JR,xM]
theorem oG(al:Int)(rs:List (List Int)):(gJ al rs).length=rs.length*6:=by simp[gJ,KI]
theorem aBg{t:List Int}{k p:Nat}{v:Int}:(t.set k v).getD p 0=if p=k/\k<t.length then v else t.getD p 0:=by
 simp only[Aa,Cu]
 by_cases h:k=p
 ·subst h
  by_cases h2:k<t.length
  ·simp[h2]
  ·simp[h2]
 ·have h':¬p=k:=fun e=>h e.symm;simp[h,h']
theorem WM:∀(j q i:Nat) (t:List Int) (p:Nat),q*6+i+j<=t.length->(m4 q j i t).getD p 0=if q*6+i<=p/\p<q*6+i+j then(q:Int)else t.getD p 0
 |0,q,i,t,p,h=>by
  simp only[m4];rw[if_neg om]
 |j+1,q,i,t,p,h=>by
  simp only[m4];rw[WM j q (i+1) _ p (by simp;omega),aBg]
  by_cases h1:q*6+(i+1)<=p/\p<q*6+(i+1)+j
  ·rw[if_pos h1,if_pos om]
  ·rw[if_neg h1]
   by_cases h2:p=q*6+i
   ·rw[if_pos ⟨h2,by omega⟩,if_pos om]
   ·rw[if_neg om,if_neg om]
theorem vO:∀(ls:List Int) (q i:Nat) (row t:List Int) (p:Nat),(∀l∈ls,p≠q*6+l.toNat)->(sM q row ls i t).getD p 0=t.getD p 0
 | [],_,_,_,_,_,_=>rfl
 |l::ls,q,i,row,t,p,h=>by
  simp only[sM];rw[vO ls q (i+1) row _ p fun m hm=>h m (by simp[hm]),aBg,if_neg];intro hc;exact h l sm hc.1
theorem S3:∀(ls:List Int) (q i:Nat) (row t:List Int) (k:Nat) (l:Int),ls[k]? =some l->ls.Nodup->(∀m∈ls,0<=m)->q*6+l.toNat<t.length->(sM q row ls i t).getD (q*6+l.toNat) 0=row.getD (i+k) 0
 |l'::ls,q,i,row,t,0,l,h,hn,hp,hl=>by
  simp only[Ch,Option.some.injEq]at h;subst h;simp only[sM];rw[vO,aBg,if_pos ⟨rfl,hl⟩,Bm];intro m hm hc
  have h1:m=l':=by
   have h2:=hp m (by simp[hm]);have h3:=hp l' sm;omega
  subst h1;exact(Dj.1 hn).1 hm
 |l'::ls,q,i,row,t,k+1,l,h,hn,hp,hl=>by
  simp only[sM];rw[S3 ls q (i+1) row _ k l (by simpa using h) (Dj.1 hn).2 (fun m hm=>hp m (by simp[hm])) (by simpa using hl)]
  congr 1
  omega
theorem aKf{a:Int}:∀m∈aC a,0<=m:=fun m hm=>(kL.1 hm).1.1
theorem aFf{a:Int}:∀(rs:List (List Int)) (q0:Nat) (t:List Int) (q l:Nat),l<6->(q0+rs.length)*6<=t.length->
  (s7 (aC a) rs q0 t).getD (q*6+l) 0=if q0<=q/\q<q0+rs.length then(if bG a l=true then(rs.getD (q-q0) []).getD (mD a l) 0 else(q:Int))else t.getD (q*6+l) 0
 | [],q0,t,q,l,hl,ht=>by
  simp only[s7];rw[if_neg (by simp only[Ab];omega)]
 |r::rs,q0,t,q,l,hl,ht=>by
  simp only[Ac]at ht|-;simp only[s7];rw[aFf rs (q0+1) _ q l hl (by rw[JR,xM];omega)]
  by_cases h1:q0+1<=q/\q<q0+1+rs.length
  ·rw[if_pos h1,if_pos (show q0<=q/\q<q0+(rs.length+1) by omega)];obtain⟨d,hd⟩:∃d,q-q0=d+1:=⟨q-q0-1,by omega⟩
   rw[hd,List.getD_cons_succ,show q-(q0+1)=d by omega]
  ·rw[if_neg h1]
   by_cases h2:q=q0
   ·subst h2;rw[if_pos (show q<=q/\q<q+(rs.length+1) by omega),Cp,List.getD_cons_zero]
    by_cases hb:bG a l=true
    ·rw[if_pos hb];have hp:=CU (a:=a) (l:=l) om om hb;have hg:=S3 (aC a) q 0 r (m4 q 6 0 t) (mD a l) l hp.2 (aGL a) aKf (by rw[xM];simp;omega);rw[Ct]at hg;rw[hg,Ag]
    ·rw[if_neg hb,vO,WM _ _ _ _ _ om,if_pos om];intro m hm hc;have hm2:=kL.1 hm;have:m=l:=om;subst this;exact hb hm2.2
   ·rw[if_neg (show ¬(q0<=q/\q<q0+(rs.length+1)) by omega),vO,WM _ _ _ _ _ om,if_neg om];intro m hm hc;have hm2:=kL.1 hm;omega
theorem aMj{al:Int}{rs:List (List Int)}{q l:Int}(h0:0<=q)(h1:q<rs.length)(h2:0<=l)(h3:l<6):(gJ al rs).getD (q.toNat*6+l.toNat) 0=goI al rs q l:=by
 unfold gJ goI;rw[aFf rs 0 _ q.toNat l.toNat om sm];rw[if_pos om,Nat.sub_zero,show((l.toNat:Nat):Int)=l by omega,show((q.toNat:Nat):Int)=q by omega]
theorem XV{al:Int}{rs:List (List Int)}{q l:Int}(h0:0<=q)(h1:q<rs.length)(h2:0<=l)(h3:l<6):((((ints (gJ al rs)).drop (q.toNat*6)).drop l.toNat).map A.d).head? =some (nI (goI al rs q l)):=by
 rw[Br,WA (by rw[oG];omega),aMj h0 h1 h2 h3]
theorem c_a6:env.P.cellsOf 123=6:=kr
theorem aED:∀n:Nat,(List.replicate n [D.int .i64 0,.int .i64 0,.int .i64 0,.int .i64 0,.int .i64 0,.int .i64 0]).flatten=ints (List.replicate (n*6) 0)
 |0=>rfl
 |n+1=>by
  rw[Dr,List.flatten_cons,aED n,Nat.succ_mul];simp[ints,Dr]
theorem aKE{n:Int}{h:H}(h0:0<=n)(h1:n<=4294967296):fG env.P h 121 n n=some (.sl h.length 0 0 n.toNat,h++[.arr (ints (List.replicate (n.toNat*6) 0)) 6 0]):=by
 have hm:n<=(bI:Nat):=by unfold bI;omega
 have he:cN env.P 121=some 123:=kr;have hz:cX env.P 123=some (.agg [nI 0,nI 0,nI 0,nI 0,nI 0,nI 0]):=kr;have hok:d5 env.P 123=true:=kr;simp only[fG,he,hz,aU,vF,Ay,hok,h0,hm,c_a6,Cb,and_self,if_true,aED]
theorem aAD(hn:1<=n){al q:Int}{rs:List (List Int)}(hs:bN rs){r:List Int}(hq0:0<=q)(hq1:q<rs.length){k:KE R}:∀(j:Nat) (i:Int) (m:Nat) (t:List Int) (len:Nat) (h0:0<=i) (hi:i+j=6) (hm:j<m) (ht:t.length=rs.length*6) (hlen:len=rs.length),
  aS env (aA env L n) L 0 [] Bz1 (eU 1) Bz28 m (Y2 (.d .nils::.sl 0 0 0 len::.d (.ivs (aC al).length (ints (aC al)))::nI q::.d (.ivs r.length (ints r))::Y8 (Y2 (Y1 (.d (.ivs rs.length (aP rs))::nI (rs.length)::nI q::Y4 (nI i::Y16 (Y8 (Y4 ([]))))))))) [.arr (ints t) 6 0] k
  =k (.exit 2) (Y2 (.d .nils::.sl 0 0 0 rs.length::.d (.ivs (aC al).length (ints (aC al)))::nI q::.d (.ivs r.length (ints r))::Y8 (Y2 (Y1 (.d (.ivs rs.length (aP rs))::nI (rs.length)::nI q::Y4 (nI 6::Y16 (Y8 (Y4 ([]))))))))) [.arr (ints (m4 q.toNat j i.toNat t)) 6 0]:=by
 intro j;have hrl:=hs.1
 induction j with
 |zero=>
  intro i m t len h0 hi hm ht hlen;obtain _|m:=m;omega;obtain rfl:i=6:=om
  simp-implicitDefEqProofs (maxSteps:=9^7) (disch:=try exact Dz) only[↓DN,↓kRet,UP,simprocAttr,Ak,hlen,o6,pB,Tryz.f89]<;>rfl
 |succ j ih=>
  intro i m t len h0 hi hm ht hlen;obtain _|m:=m;omega;subst hlen;have hc:i<6:=om;have hk:q.toNat*6+i.toNat<t.length:=om;have e1:(i+1).toNat=i.toNat+1:=om;have e2:((q.toNat:Nat):Int)=q:=om
  simp-implicitDefEqProofs (maxSteps:=9^7) (disch:=try exact Dz) only[↓DN,↓kRet,UP,simprocAttr,hc,hq1,↓GR,↓ih,o6,pB,Tryz.f89];rw[e1];simp only[m4,e2]
theorem aIr{a:Int}{i:Nat}(h:i<(aC a).length):(aC a).drop i=(aC a).getD i 0::(aC a).drop (i+1):=bP h
theorem aA2(hn:1<=n){al q:Int}{rs:List (List Int)}(hs:bN rs){r:List Int}(hr:r.length<=4294967296)(hrl2:(aC al).length<=r.length)(hq0:0<=q)(hq1:q<rs.length){k:KE R}:∀(j:Nat) (i:Int) (m:Nat) (t:List Int) (len:Nat) (h0:0<=i) (hi:i+j=(aC al).length) (hm:j<m) (ht:t.length=rs.length*6) (hlen:len=rs.length),
  aS env (aA env L n) L 0 [] Bz1 (eU 2) Bz23 m (Y2 (.d .nils::.sl 0 0 0 len::.d (.ivs (aC al).length (ints (aC al)))::nI q::.d (.ivs r.length (ints r))::Y8 (Y2 (Y1 (.d (.ivs rs.length (aP rs))::nI (rs.length)::nI q::Y4 (nI 6::Y8 (Y1 (.d (.ivs (aC al).length (ints (aC al)))::nI ((aC al).length)::nI i::Y16 ([]))))))))) [.arr (ints t) 6 0] k
  =k (.exit 4) (Y2 (.d .nils::.sl 0 0 0 rs.length::.d (.ivs (aC al).length (ints (aC al)))::nI q::.d (.ivs r.length (ints r))::Y8 (Y2 (Y1 (.d (.ivs rs.length (aP rs))::nI (rs.length)::nI q::Y4 (nI 6::Y8 (Y1 (.d (.ivs (aC al).length (ints (aC al)))::nI ((aC al).length)::nI ((aC al).length)::Y16 ([]))))))))) [.arr (ints (sM q.toNat r ((aC al).drop i.toNat) i.toNat t)) 6 0]:=by
 intro j;have hrl:=hs.1;have hll:=dD al
 induction j with
 |zero=>
  intro i m t len h0 hi hm ht hlen;obtain _|m:=m;omega;obtain rfl:i=(aC al).length:=om
  simp-implicitDefEqProofs (maxSteps:=9^7) (disch:=try exact Dz) only[↓DN,↓kRet,UP,simprocAttr,Ak,hlen,wH,vM,Tryz.f89];simp only[Bl,sM]
 |succ j ih=>
  intro i m t len h0 hi hm ht hlen;obtain _|m:=m;omega;subst hlen;have hc:i<(aC al).length:=om;have hk1:i.toNat<(aC al).length:=om;have hk2:i.toNat<r.length:=om;have hv:=aAq d7 hk1;have hv6:(aC al).getD i.toNat 0<6:=om;have hv0:=hv.1;have hk:q.toNat*6+((aC al).getD i.toNat 0).toNat<t.length:=om;have e1:(i+1).toNat=i.toNat+1:=om
  simp-implicitDefEqProofs (maxSteps:=9^7) (disch:=try exact Dz) only[↓DN,↓kRet,UP,simprocAttr,hc,hq1,↓GR,↓ih,wH,vM,Tryz.f89];rw[aIr hk1,e1];simp only[sM]
def wL(w:Nat)(rs:List (List Int)):Prop:=∀r∈rs,r.length=w
theorem aEk{w:Nat}{rs:List (List Int)}(h:wL w rs){k:Nat}(hk:k<rs.length):(rs.getD k []).length=w:=by
 rw[Aa,Ae hk];exact h _ (Ba hk)
theorem aAF(hL:2^60<=L)(hn:1<=n){al:Int}{rs:List (List Int)}(hs:bN rs)(hw:wL (aC al).length rs){k:KE R}:∀(j:Nat) (i:Int) (m:Nat) (t:List Int) (len:Nat) (h0:0<=i) (hi:i+j=rs.length) (hm:j<m) (ht:t.length=rs.length*6) (hlen:len=rs.length),
  aS env (aA env L n) L 0 [] Bz1 (eU 0) Bz20 m (Y2 (.d .nils::.sl 0 0 0 len::.d (.ivs (aC al).length (ints (aC al)))::Y8 (Y4 (Y1 (.d (.ivs rs.length (aP rs))::nI (rs.length)::nI i::Y32 (Y1 ([]))))))) [.arr (ints t) 6 0] k
  =k (.exit 0) (Y2 (.d .nils::.sl 0 0 0 rs.length::.d (.ivs (aC al).length (ints (aC al)))::Y8 (Y4 (Y1 (.d (.ivs rs.length (aP rs))::nI (rs.length)::nI (rs.length)::Y32 (Y1 ([]))))))) [.arr (ints (s7 (aC al) (rs.drop i.toNat) i.toNat t)) 6 0]:=by
 intro j;have hrl:=hs.1;have hll:=dD al
 induction j with
 |zero=>
  intro i m t len h0 hi hm ht hlen;obtain _|m:=m;omega;obtain rfl:i=rs.length:=om
  simp-implicitDefEqProofs (maxSteps:=9^7) (disch:=try exact Dz) only[↓DN,↓kRet,UP,simprocAttr,Ak,hlen,oF,pD,Tryz.f89];simp only[Bl,s7]
 |succ j ih=>
  intro i m t len h0 hi hm ht hlen;obtain _|m:=m;omega;subst hlen;have hc:i<rs.length:=om;have hk:i.toNat<rs.length:=om;have hrow:=wK hs hk;have hrw:=aEk hw hk;have e1:(i+1).toNat=i.toNat+1:=om;have loop_a1:=fun {R:Type} {k:KE R}=>aAD (R:=R) (L:=L) (n:=n) hn (al:=al) (q:=i) (r:=rs.getD i.toNat []) hs h0 hc (k:=k) 6 0 L t rs.length om om om ht rfl;have loop_a2:=fun {R:Type} {k:KE R}=>aA2 (R:=R) (L:=L) (n:=n) hn (al:=al) (q:=i) hs (r:=rs.getD i.toNat []) hrow om h0 hc (k:=k) (aC al).length 0 L (m4 i.toNat 6 0 t) rs.length om om om (by rw[xM];exact ht) rfl;simp only[Cf,Ax]at loop_a1 loop_a2;have ht2:(sM i.toNat (rs.getD i.toNat []) (aC al) 0 (m4 i.toNat 6 0 t)).length=rs.length*6:=by rw[JR,xM];exact ht
  clear hrw
  simp-implicitDefEqProofs (maxSteps:=9^7) (disch:=try exact Dz) only[↓DN,↓kRet,UP,simprocAttr,LA,hc,↓loop_a1,↓loop_a2,↓ih,oF,pD,Tryz.f89];rw[bP hk (d:=[]),e1];simp only[s7]
theorem U6(hn:3<=n)(al:Int)(rs:List (List Int))(z:Nat)(cs:List D)(hs:bN rs)(hw:wL (aC al).length rs)(hL:2^60<=L):aA env L n 89 [.agg [nI al,.d (.ivs rs.length (aP rs)),.d (.ivs z cs)]] []=some (.d (.ivs rs.length (ints (gJ al rs))),[]):=by
 have hrl:=hs.1;have loop_a:=fun {R:Type} {n:Nat} (hn:1<=n) {k:KE R}=>aAF (R:=R) (L:=L) (n:=n) hL hn (al:=al) hs hw (k:=k) rs.length 0 L (List.replicate (rs.length*6) 0) rs.length om om om sm rfl;simp only[Cf,Ax]at loop_a;have htl:(gJ al rs).length=rs.length*6:=oG al rs;have htl2:rs.length*6<=(s7 (aC al) rs 0 (List.replicate (rs.length*6) 0)).length:=by rw[KI];simp
 have htk:(ints (s7 (aC al) rs 0 (List.replicate (rs.length*6) 0))).take (rs.length*6)=ints (s7 (aC al) rs 0 (List.replicate (rs.length*6) 0)):=eW (by rw[KI];simp);unfold gJ;obtain _|n:=n;omega
 simp-implicitDefEqProofs (maxSteps:=9^7) (disch:=try exact Dz) only[↓DN,↓kAsg,↓kRet,UP,simprocAttr,↓gI,↓aKE,↓loop_a,htk,htl2,WP,MR,Tryz.f89]
theorem HR:type_of% fun {L} al rs z cs hs hw hL=>ks fun hn=> @U6 L _ hn al rs z cs hs hw hL:=fun {L} al rs z cs hs hw hL=>ks fun hn=> @U6 L _ hn al rs z cs hs hw hL
end
section
variable{R:Type}{L n:Nat}
def cntB(a:Int):Nat->Int->Nat
 |0,_=>0
 |j+1,i=>(if bG a i=true then 1 else 0)+cntB a j (i+1)
theorem aMg{a l:Int}(h0:0<=l)(h1:l<6):cntB a l.toNat 0=mD a l:=by
 unfold mD aC;generalize hp:bG a=p;have e:∀i,bG a i=p i:=fun i=>by rw[hp]
 rcases six h0 h1 with rfl|rfl|rfl|rfl|rfl|rfl<;>
  simp only[cntB,e,show(0:Int).toNat=0 from rfl,show(1:Int).toNat=1 from rfl,show(2:Int).toNat=2 from rfl,show(3:Int).toNat=3 from rfl,show(4:Int).toNat=4 from rfl,show(5:Int).toNat=5 from rfl,Int.zero_add,Int.reduceAdd]<;>
  cases h0':p 0<;>cases h1':p 1<;>cases h2':p 2<;>cases h3':p 3<;>cases h4':p 4<;>cases h5':p 5<;>simp_all [List.filter]
theorem aDG(hn:1<=n){a l:Int}(hl:l<6){k:KE R}:∀(j:Nat) (i c:Int) (m:Nat) (h0:0<=i) (hi:i+j=l) (hm:j<m) (hc0:0<=c) (hc1:c<=i),
  aS env (aA env L n) L 0 [] Bz66 (IK 0) (Z2 (U2 (Z2 (Z1 (U8 (U2 (U1 ([])))))))) m (nI a::nI l::Y2 (nI 0::nI c::nI i::Y8 (Y2 (Y1 ([]))))) [] k
  =k (.exit 0) (nI a::nI l::Y2 (nI 0::nI (c+cntB a j i)::nI l::Y8 (Y2 (Y1 ([]))))) []:=by
 intro j
 induction j with
 |zero=>
  intro i c m h0 hi hm hc0 hc1;obtain _|m:=m;omega;obtain rfl:i=l:=om
  simp-implicitDefEqProofs (maxSteps:=9^7) (disch:=try exact Dz) only[↓DN,↓kRet,UP,simprocAttr,Ak,wU,vU,Tryz.f275];simp only[cntB,Aw,Int.add_zero]
 |succ j ih=>
  intro i c m h0 hi hm hc0 hc1;obtain _|m:=m;omega;have hc:i<l:=om
  cases hb:bG a i with
  |true=>
   have e:c+1+(cntB a j (i+1):Int)=c+cntB a (j+1) i:=by simp only[cntB,hb,if_true];omega
   simp-implicitDefEqProofs (maxSteps:=9^7) (disch:=try exact Dz) only[↓DN,↓kRet,UP,simprocAttr,↓kF,hc,hb,↓ih,wU,vU,Tryz.f275];rw[e]
  |false=>
   have e:c+(cntB a j (i+1):Int)=c+cntB a (j+1) i:=by simp only[cntB,hb,Ap,if_false];omega
   simp-implicitDefEqProofs (maxSteps:=9^7) (disch:=try exact Dz) only[↓DN,↓kRet,UP,simprocAttr,↓kF,hc,hb,↓ih,wU,vU,Tryz.f275];rw[e]
theorem TM(hn:2<=n)(a l:Int)(h0:0<=l)(h1:l<6)(hL:2^60<=L):aA env L n 275 [nI a,nI l] []=some (nI (mD a l),[]):=by
 have loop_a:=fun {R:Type} {n:Nat} (hn:1<=n) {k:KE R}=>aDG (R:=R) (L:=L) hn (a:=a) h1 (k:=k) l.toNat 0 0 L om om om om om;rw[aMg h0 h1]at loop_a;obtain _|n:=n;omega
 simp-implicitDefEqProofs (maxSteps:=9^7) (disch:=try exact Dz) only[↓DN,↓kAsg,UP,simprocAttr,↓loop_a,Int.zero_add,aIU,ZO,Tryz.f275]
theorem aH2:type_of% fun {L} a l h0 h1 hL=>ks fun hn=> @TM L _ hn a l h0 h1 hL:=fun {L} a l h0 h1 hL=>ks fun hn=> @TM L _ hn a l h0 h1 hL
theorem aRf{al q l:Int}{rs:List (List Int)}(h:bG al l=false):goI al rs q l=q:=by
 unfold goI;rw[h];rfl
theorem aLi{al q l:Int}{rs:List (List Int)}(h:bG al l=true):goI al rs q l=(rs.getD q.toNat []).getD (mD al l) 0:=by
 unfold goI;rw[if_pos h]
theorem aFk(hn:3<=n)(al q l:Int)(rs:List (List Int))(z:Nat)(cs:List D)(hs:bN rs)(hw:wL (aC al).length rs)(hq0:0<=q)(hq1:q<rs.length)(h0:0<=l)(h1:l<6)(hL:2^60<=L):aA env L n 270 [.agg [nI al,.d (.ivs rs.length (aP rs)),.d (.ivs z cs)],nI q,nI l] []=some (nI (goI al rs q l),[]):=by
 have hrl:=hs.1;have hk:q.toNat<rs.length:=om;have hrow:=wK hs hk;have hrw:=aEk hw hk
 cases hb:bG al l with
 |false=>
  rw[aRf hb];clear hrw;obtain _|n:=n;omega
  simp-implicitDefEqProofs (maxSteps:=9^7) (disch:=try exact Dz) only[↓DN,↓kAsg,↓kRet,UP,simprocAttr,↓kF,hb,aEQ,aAx,Tryz.f270]
 |true=>
  rw[aLi hb];have hp:=(CU h0 h1 hb).1;have hp2:mD al l<(rs.getD q.toNat []).length:=om;have hp3:(mD al l:Int)<(rs.getD q.toNat []).length:=om;have hp4:((mD al l:Nat):Int).toNat=mD al l:=Ct _;clear hrw hp;obtain _|n:=n;omega
  simp-implicitDefEqProofs (maxSteps:=9^7) (disch:=try exact Dz) only[↓DN,↓kAsg,↓kRet,UP,simprocAttr,↓kF,↓aH2,LA,hb,hp4,aEQ,aAx,Tryz.f270]
theorem aM1:type_of% fun {L} al q l rs z cs hs hw hq0 hq1 h0 h1 hL=>ks fun hn=> @aFk L _ hn al q l rs z cs hs hw hq0 hq1 h0 h1 hL:=fun {L} al q l rs z cs hs hw hq0 hq1 h0 h1 hL=>ks fun hn=> @aFk L _ hn al q l rs z cs hs hw hq0 hq1 h0 h1 hL
def m8(al:Int)(rs:List (List Int))(x y:Int)(ls:List Int)(q:Int):List Int:=ls.map fun l=>goI al rs q (cH l x y)
def f7(al:Int)(rs:List (List Int))(x y:Int)(ls:List Int)(i j:Nat):List (List Int):=(List.range' i j).map fun(q:Nat)=>m8 al rs x y ls q
def kY(al:Int)(rs:List (List Int))(ac:List Bool)(x y:Int):Bool:=d9 al rs ac&&aT x&&aT y
theorem aJ1{al:Int}{rs:List (List Int)}{x y:Int}{ls:List Int}{i j:Nat}:f7 al rs x y ls i (j+1)=m8 al rs x y ls i::f7 al rs x y ls (i+1) j:=by
 simp[f7,Ea]
theorem sR{al:Int}{rs:List (List Int)}{x y:Int}{ls:List Int}{i j:Nat}:(f7 al rs x y ls i j).length=j:=by simp[f7]
theorem WY{l:List (List Int)}{r:List Int}{z:Nat}(h:z=r.length):aP l++[.ivs z (ints r)]=aP (l++[r]):=by
 subst h;simp[aP,rowD]
theorem CI:aP []=[]:=rfl
theorem VT:aK []=[]:=rfl
def eR(l:List (List Int)):Nat:=if l=[]then 0 else 1
theorem aQW{l:List (List Int)}{r:List Int}:eR (l++[r])=1:=by simp[eR]
theorem aQr(l:List (List Int)):eR l=0\/eR l=1:=by unfold eR;split<;>simp
theorem aOU{al:Int}{rs:List (List Int)}{x y q:Int}{ls:List Int}{i:Nat}(h:i<ls.length):m8 al rs x y (ls.drop i) q=goI al rs q (cH (ls.getD i 0) x y)::m8 al rs x y (ls.drop (i+1)) q:=by
 rw[bP h (d:=0)];rfl
theorem aFN{al:Int}{rs:List (List Int)}{x y q:Int}{ls:List Int}:(m8 al rs x y ls q).length=ls.length:=by simp[m8]
end
section
def s5:List Int->List Int->Prop
 |a::x,b::y=>a<b\/a=b/\s5 x y
 |_,_=>False
def slt(x y:List Int):Prop:=x.length<y.length\/x.length=y.length/\s5 x y
theorem aE4:∀x:List Int,¬s5 x x
 | [],h=>h
 |a::x,h=>by
  rcases h with h|⟨_,h⟩
  ·omega
  ·exact aE4 x h
theorem ZF:∀ {x y z:List Int},s5 x y->s5 y z->s5 x z
 | [],_,_,h,_=>h.elim
 |_::_,[],_,h,_=>h.elim
 |_::_,_::_,[],_,h=>h.elim
 |a::x,b::y,c::z,h,k=>by
  rcases h with h|⟨rfl,h⟩
  ·rcases k with k|⟨rfl,k⟩
   ·exact .inl om
   ·exact .inl h
  ·rcases k with k|⟨rfl,k⟩
   ·exact .inl k
   ·exact .inr ⟨rfl,ZF h k⟩
theorem aF2:∀ {x y:List Int},x.length=y.length->x=y\/s5 x y\/s5 y x
 | [],[],_=>.inl rfl
 | [],_::_,h=>by simp at h
 |_::_,[],h=>by simp at h
 |a::x,b::y,h=>by
  rcases Int.lt_trichotomy a b with h1|h1|h1
  ·exact .inr (.inl (.inl h1))
  ·subst h1
   rcases aF2 (x:=x) (y:=y) (by simpa using h)with h2|h2|h2
   ·exact .inl (by rw[h2])
   ·exact .inr (.inl (.inr ⟨rfl,h2⟩))
   ·exact .inr (.inr (.inr ⟨rfl,h2⟩))
  ·exact .inr (.inr (.inl h1))
theorem aEf(x:List Int):¬slt x x:=by
 intro h
 rcases h with h|⟨_,h⟩
 ·omega
 ·exact aE4 x h
theorem JN{x y z:List Int}(h:slt x y)(k:slt y z):slt x z:=by
 rcases h with h|⟨h1,h⟩<;>rcases k with k|⟨k1,k⟩
 ·exact .inl om
 ·exact .inl om
 ·exact .inl om
 ·exact .inr ⟨by omega,ZF h k⟩
theorem aLd(x y:List Int):x=y\/slt x y\/slt y x:=by
 rcases Nat.lt_trichotomy x.length y.length with h|h|h
 ·exact .inr (.inl (.inl h))
 ·rcases aF2 h with k|k|k
  ·exact .inl k
  ·exact .inr (.inl (.inr ⟨h,k⟩))
  ·exact .inr (.inr (.inr ⟨h.symm,k⟩))
 ·exact .inr (.inr (.inl h))
theorem GE:∀ {u v:List Int} {a b:Int},u.length=v.length->(s5 (u++[a]) (v++[b])↔s5 u v\/u=v/\a<b)
 | [],[],a,b,_=>by simp[s5]
 | [],_::_,a,b,h=>by simp at h
 |_::_,[],a,b,h=>by simp at h
 |x::u,y::v,a,b,h=>by
  have ih:=GE (u:=u) (v:=v) (a:=a) (b:=b) (by simpa using h);simp only[As,s5,ih,List.cons.injEq]
  constructor
  ·rintro(k|⟨rfl,k|⟨rfl,k⟩⟩)
   ·exact .inl (.inl k)
   ·exact .inl (.inr ⟨rfl,k⟩)
   ·exact .inr ⟨⟨rfl,rfl⟩,k⟩
  ·rintro((k|⟨rfl,k⟩)|⟨⟨rfl,rfl⟩,k⟩)
   ·exact .inl k
   ·exact .inr ⟨rfl,.inl k⟩
   ·exact .inr ⟨rfl,.inr ⟨rfl,k⟩⟩
theorem PQ{u v:List Int}{a b:Int}:slt (u++[a]) (v++[b])↔slt u v\/u=v/\a<b:=by
 unfold slt;simp only[Ai,Ac,Ab]
 constructor
 ·rintro(h|⟨h,k⟩)
  ·exact .inl (.inl om)
  ·have hl:u.length=v.length:=om
   rcases(GE hl).1 k with k|k
   ·exact .inl (.inr ⟨hl,k⟩)
   ·exact .inr k
 ·rintro((h|⟨h,k⟩)|⟨rfl,k⟩)
  ·exact .inl om
  ·exact .inr ⟨by omega,(GE h).2 (.inl k)⟩
  ·exact .inr ⟨rfl,(GE rfl).2 (.inr ⟨rfl,k⟩)⟩
def Path(nx:Int->Int->List Int)(ls:List Int):Int->List Int->Int->Prop
 |v,[],u=>v=u
 |v,l::w,u=>l∈ls/\∃m∈nx v l,Path nx ls m w u
section
variable{nx:Int->Int->List Int}{ls:List Int}
theorem aG5:∀ {x y:List Int} {v u:Int},Path nx ls v (x++y) u↔∃m,Path nx ls v x m/\Path nx ls m y u
 | [],y,v,u=>by simp[Path]
 |l::x,y,v,u=>by
  simp only[As,Path,aG5 (x:=x)]
  constructor
  ·rintro⟨h,m,hm,q,h1,h2⟩;exact⟨q,⟨h,m,hm,h1⟩,h2⟩
  ·rintro⟨q,⟨h,m,hm,h1⟩,h2⟩;exact⟨h,m,hm,q,h1,h2⟩
theorem aFH{w:List Int}{l v u:Int}:Path nx ls v (w++[l]) u↔l∈ls/\∃m,Path nx ls v w m/\u∈nx m l:=by
 rw[aG5];simp only[Path]
 constructor
 ·rintro⟨m,h1,h2,q,h3,rfl⟩;exact⟨h2,m,h1,h3⟩
 ·rintro⟨h2,m,h1,h3⟩;exact⟨m,h1,h2,u,h3,rfl⟩
def vI(nx:Int->Int->List Int)(ls start w:List Int)(u:Int):Prop:=∃s∈start,Path nx ls s w u
def Hits(nx:Int->Int->List Int)(ls start:List Int)(gl:Int->Bool)(w:List Int):Prop:=∃u,vI nx ls start w u/\gl u=true
def J2(P:List Int->Prop)(w:List Int):Prop:=P w/\∀x,P x->¬slt x w
theorem aIW{P:List Int->Prop}{x y:List Int}(hx:J2 P x)(hy:J2 P y):x=y:=by
 rcases aLd x y with h|h|h
 ·exact h
 ·exact(hy.2 x hx.1 h).elim
 ·exact(hx.2 y hy.1 h).elim
def XJ(P:List Int->Prop)(r:List Int×Bool):Prop:=(r.2=true/\J2 P r.1)\/(r=([],false)/\∀w,¬P w)
theorem aJf{P:List Int->Prop}{r q:List Int×Bool}(hr:XJ P r)(hq:XJ P q):r=q:=by
 rcases hr with⟨h1,h2⟩|⟨h1,h2⟩<;>rcases hq with⟨k1,k2⟩|⟨k1,k2⟩
 ·obtain⟨a,b⟩:=r;obtain⟨c,d⟩:=q;simp only at h1 k1 h2 k2;subst h1;subst k1;rw[aIW h2 k2]
 ·exact(k2 _ h2.1).elim
 ·exact(h2 _ k2.1).elim
 ·rw[h1,k1]
end
end
end Ev
end Go.Proofs.YtahbdkmimmnadaaGreatDoor
