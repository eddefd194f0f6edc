/-
  Automata in memory, as blocks: laid, read, written. Calls that are told of memory no more than that.
-/
import Derived.Test.YthlkcebdfbjdoaaGreatAutoL
set_option linter.unusedSimpArgs false
set_option linter.unusedVariables false
namespace Go.Proofs.YthlkcebdfbjdoaaGreat
namespace Ev
def autO(b:Nat)(rs:List (List Int))(ac:List Bool):H:=.vec (aC (b+2) rs++aF 0) 1 0::.arr (aJ ac) 1 0::aI rs
def autA(v:Nat)(al:Int)(n m:Nat):A:=.agg [nI al,.sl v 0 0 n,.sl (v+1) 0 0 m]
def autD(al:Int)(rs:List (List Int))(ac:List Bool):A:=.agg [nI al,.d (.ivs rs.length (aN rs)),.d (.ivs ac.length (aJ ac))]
structure Has(h:H)(v:Nat)(rs:List (List Int))(ac:List Bool):Prop where
 vec:h[v]? =some (.vec (aC (v+2) rs++aF 0) 1 0)
 acc:h[v+1]? =some (.arr (aJ ac) 1 0)
 row:∀(i:Nat) (r:List Int),rs[i]? =some r->h[v+2+i]? =some (.arr (ints r) 1 0)
theorem OB{b:Nat}{rs:List (List Int)}{ac:List Bool}:(autO b rs ac).length=rs.length+2:=by simp[autO,cJ]
theorem aT5{h:H}{rs:List (List Int)}{ac:List Bool}:Has (h++autO h.length rs ac) h.length rs ac:=by
 refine⟨by simp[autO],by simp[autO],fun i r hr=> ?_⟩;rw[Bh (by omega),show h.length+2+i-h.length=i+1+1 by omega];simp only[autO,At];exact S2 hr
theorem aT6{h h2:H}{v:Nat}{rs:List (List Int)}{ac:List Bool}(k:Has h v rs ac):Has (h++h2) v rs ac:=
 ⟨by rw[Ba (sB k.vec)];exact k.vec,by rw[Ba (sB k.acc)];exact k.acc,
  fun i r hr=>by rw[Ba (sB (k.row i r hr))];exact k.row i r hr⟩
theorem aBX{h:H}{b:Nat}{r:List Int}(hr:h[b]? =some (.arr (ints r) 1 0)):rd0 h (.sl b 0 0 r.length)=some (rowD r):=by
 simp only[rd0,hr,true_and,Ag,Cc,hJ,Ab,if_true,Bc,eS,rowD]
theorem aKD{h:H}:∀ {rs:List (List Int)} {b:Nat},(∀(i:Nat) (r:List Int),rs[i]? =some r->h[b+i]? =some (.arr (ints r) 1 0))->gD (rd0 h) (aC b rs)=some (aN rs)
 | [],b,_=>rfl
 |r::rs,b,hh=>by
  have h0:=hh 0 r rfl;simp only[Bp]at h0
  simp only[aC,gD,aBX h0,aKD (rs:=rs) (b:=b+1) fun i q hq=>by
   rw[show b+1+i=b+(i+1) by omega];exact hh (i+1) q (by simpa using hq)]
  rfl
theorem aUX{h:H}{v:Nat}{rs:List (List Int)}{ac:List Bool}(k:Has h v rs ac):rd1 h (.sl v 0 0 rs.length)=some (.ivs rs.length (aN rs)):=by
 have hl:0+rs.length*1<=(aC (v+2) rs++aF 0).length:=by rw[Af,gR];omega
 have hn:aF 0=[]:=rfl;simp only[rd1,k.vec];rw[if_pos ⟨trivial,hl⟩];simp only[hn,Ah,aKD k.row,Ax,Bc,Cc,B5 (Ab _)]
theorem aUE{h:H}{v:Nat}{rs:List (List Int)}{ac:List Bool}(k:Has h v rs ac):rd1 h (.sl (v+1) 0 0 ac.length)=some (.ivs ac.length (aJ ac)):=by
 have hl:0+ac.length*1<=(aJ ac).length:=by rw[eP];omega
 simp only[rd1,rd0,k.acc];rw[if_pos ⟨trivial,hl⟩];simp only[Bc,Cc,sS (Ab _)]
theorem pU:∀(h h2:H),wgt (h++h2)=wgt h+wgt h2
 | [],h2=>by simp[wgt]
 |o::h,h2=>by cases o<;>simp[wgt,pU h h2]<;>omega
theorem GB(rs:List (List Int)):wgt (aI rs)=0:=by
 induction rs with
 |nil=>rfl
 |cons r rs ih=>simpa [aI,wgt]using ih
theorem aTZ{b:Nat}{rs:List (List Int)}{ac:List Bool}:wgt (autO b rs ac)=rs.length:=by
 simp[autO,wgt,GB,bM,bY,dM]
def eJ:O->List Nat
 |.box cs=>idsL cs
 |.vec cs _ _=>idsL cs
 |_=>[]
section
variable{h:H}{v:Nat}{rs:List (List Int)}{ac:List Bool}
theorem aK6{f:Nat->Option Nat}{b d:Nat}(hf:∀i,i<rs.length->f (b+i)=some (d+i)):mapO f (.vec (aC b rs++aF 0) 1 0)=.vec (aC d rs++aF 0) 1 0:=by
 have hn:aF 0=[]:=rfl;simp only[mapO,hn,Ah,fF (c:=0) hf]
theorem aHz{f:Nat->Option Nat}{al:Int}{n m a b:Nat}(h0:f a=some b)(h1:f (a+1)=some (b+1)):mapA f (autA a al n m)=autA b al n m:=by
 simp only[autA,mapA,aE,h0,h1]
theorem aGW{b n i:Nat}(hi:i<n):back [] b n i=some (b+i):=by
 unfold back;simp[hi]
theorem aQT{b n:Nat}(hn:n=rs.length+2):(autO 0 rs ac).map (mapO (back [] b n))=autO b rs ac:=by
 subst hn;unfold autO;rw[Ai,Ai,aIV,aK6 (d:=b+2) fun i hi=>by rw[aGW (by omega)];congr 1;omega];rfl
end
section
variable{E:Env}{call:aZ}{h:H}{f:FuncId}
theorem aBh:∀ {rs rs2:List (List Int)} {b:Nat},rs2.map List.length=rs.map List.length->aC b rs2=aC b rs
 | [],[],b,_=>rfl
 | [],_::_,b,hl=>by simp at hl
 |_::_,[],b,hl=>by simp at hl
 |r::rs,q::rs2,b,hl=>by
  simp only[Ai,List.cons.injEq]at hl;simp only[aC,hl.1,aBh hl.2]
end
end Ev
end Go.Proofs.YthlkcebdfbjdoaaGreat
