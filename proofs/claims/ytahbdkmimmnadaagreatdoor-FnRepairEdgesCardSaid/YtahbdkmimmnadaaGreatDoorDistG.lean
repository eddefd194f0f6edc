/-
  The exact laws' own functions, at edges and systems: copies, comparisons, marks.
-/
import Derived.Test.YtahbdkmimmnadaaGreatDoorEdges
import Derived.Tactics
set_option linter.unusedSimpArgs false
set_option linter.unusedVariables false
set_option linter.unusedSectionVars false
set_option maxRecDepth 8000
set_option maxHeartbeats 4000000
namespace Go.Proofs.YtahbdkmimmnadaaGreatDoor
namespace Ev
theorem aJg{l:List Edge}{k:Nat}{v:Int}(h:k<l.length):a6 (aJ l) (k*3) [.int .i64 v]=aJ (l.set k ⟨v,(l.getD k default).lt,(l.getD k default).to⟩):=by
 unfold a6;rw[jL,Bu,<-Bg,n8 h,Ej,if_pos h,<-rW,jI];simp
theorem aIW{l:List Edge}{k:Nat}{v:Int}(h:k<l.length):a6 (aJ l) (k*3+1) [.int .i64 v]=aJ (l.set k ⟨(l.getD k default).fr,v,(l.getD k default).to⟩):=by
 have e:(aJ l).take (k*3+1)=aJ (l.take k)++[.int .i64 (l.getD k default).fr]:=by
  rw[List.take_add,jL,n8 h];rfl
 unfold a6;rw[e,Bu,Nat.add_assoc,<-Bg,n8 h,Ej,if_pos h,<-rW,jI];simp
theorem aJK{l:List Edge}{k:Nat}{v:Int}(h:k<l.length):a6 (aJ l) (k*3+2) [.int .i64 v]=aJ (l.set k ⟨(l.getD k default).fr,(l.getD k default).lt,v⟩):=by
 have e:(aJ l).take (k*3+2)=aJ (l.take k)++[.int .i64 (l.getD k default).fr,.int .i64 (l.getD k default).lt]:=by
  rw[List.take_add,jL,n8 h];rfl
 unfold a6;rw[e,Bu,Nat.add_assoc,<-Bg,n8 h,Ej,if_pos h,<-rW,jI];simp
theorem aCi{R:Type}{E:Env}{call:aW}{h:H}{f:FuncId}{args:List A}{r:A}{k:KA R}{id e g e2 g2:Nat}{cs cs2:List D}(hi:h[id]? =some (.arr cs e g))(hid:idsL args=[id])(hm:(E.hint f).mode=0)(hr:idsA r=[])(he:call f (aE (aH [id]) args) [.arr cs e g]=some (r,[.arr cs2 e2 g2])):
  aU E call h f args k=k r (h.set id (.arr cs2 e2 g2)):=by
 have hre:aC aD h [id] []=[id]:=by
  have e1:aC aD h [id] []=match h[id]? with
   |some (.box cs)=>aC (aD-1) h ([]++idsL cs) ([]++[id])
   |some (.vec cs _ _)=>aC (aD-1) h ([]++idsL cs) ([]++[id])
   |some .void=>aC (aD-1) h [] []
   |some _=>aC (aD-1) h [] ([]++[id])
   |none=>aC (aD-1) h [] []:=rfl
  rw[e1,hi];rfl
 have hpk:pack h [id]=[.arr cs e g]:=by
  simp only[pack,Ag,Ak,Ab,hi];rfl
 unfold aU;rw[hid,hre,hpk]
 have hc:bJ call E.hint [.arr cs e g] f (aE (aH [id]) args)=some (r,[.arr cs2 e2 g2]):=by
  unfold bJ;rw[hm];exact he
 rw[hc]
 have hcl:closed h [id] [id]=true:=by
  simp only[closed,Bt,Ce,hi];simp
 simp only[Ac,Aa,Ad,hcl,and_self,if_true,nL r hr];simp only[bA,mapO,Ak,Ai]
structure Aut where
 al:Int
 nx:List (List Int)
 ac:List Bool
 deriving DecidableEq,Inhabited
def rowD(r:List Int):D:=.ivs r.length (ints r)
def aN(rs:List (List Int)):List D:=rs.map rowD
def aK(l:List Bool):List D:=l.map .bool
theorem FG{l:List (List Int)}:(aN l).length=l.length:=by simp[aN]
theorem gD{l:List Bool}:(aK l).length=l.length:=by simp[aK]
theorem wL{l:List Bool}{k:Nat}(h:l.length<=k):(aK l).take k=aK l:=Bx (by rw[gD];exact h)
theorem DP{l:List Bool}{k:Nat}(h:k<l.length):(((aK l).drop k).map A.d).head? =some (.d (.bool (l.getD k false))):=by
 rw[Dm,Cs,aK,Bc,Ab,Ae h];rfl
theorem aCI{l:List Bool}{k:Nat}{v:Bool}(h:k<l.length):a6 (aK l) k [.bool v]=aK (l.set k v):=D0 _ l k v h
theorem P1{l:List (List Int)}{k:Nat}(h:k<l.length):(((aN l).drop k).map A.d).head? =some (.d (.ivs (l.getD k []).length (ints (l.getD k [])))):=by
 rw[Dm,Cs,aN,Bc,Ab,Ae h];rfl
theorem Q0{l:List (List Int)}{k:Nat}(h:l.length<=k):(aN l).take k=aN l:=Bx (by rw[FG];exact h)
theorem LA:type_of% (AI @FG (AI @gD (AI @wL (AI @DP (AI @P1 @Q0))))):=
 ⟨@FG,@gD,@wL,@DP,@P1,@Q0⟩
theorem aIi{α:Type}{l:List α}{k:Nat}{v:α}{m:List α}(h:k<l.length):(l.set k v).take (k+1)++m=l.take k++(v::m):=by
 rw[take_set h];simp
theorem QW:env.P.cellsOf 104=1:=kr
theorem JM(rs:List (List Int))(r:List Int):aI rs++[.arr (ints r) 1 0]=aI (rs++[r]):=aI5 rs r
def bD(rs:List (List Int)):Prop:=rs.length<=4294967296/\∀r∈rs,r.length<=4294967296
theorem oJ{rs:List (List Int)}(h:bD rs){k:Nat}(hk:k<rs.length):(rs.getD k []).length<=4294967296:=by
 rw[Ab,Ae hk];exact h.2 _ (Bd hk)
section
def autO(b:Nat)(rs:List (List Int))(ac:List Bool):H:=.vec (aB (b+2) rs++aF 0) 1 0::.arr (aK ac) 1 0::aI rs
def autA(v:Nat)(al:Int)(n m:Nat):A:=.agg [nI al,.sl v 0 0 n,.sl (v+1) 0 0 m]
def autD(al:Int)(rs:List (List Int))(ac:List Bool):A:=.agg [nI al,.d (.ivs rs.length (aN rs)),.d (.ivs ac.length (aK ac))]
structure Has(h:H)(v:Nat)(rs:List (List Int))(ac:List Bool):Prop where
 vec:h[v]? =some (.vec (aB (v+2) rs++aF 0) 1 0)
 acc:h[v+1]? =some (.arr (aK ac) 1 0)
 row:∀(i:Nat) (r:List Int),rs[i]? =some r->h[v+2+i]? =some (.arr (ints r) 1 0)
theorem MW{b:Nat}{rs:List (List Int)}{ac:List Bool}:(autO b rs ac).length=rs.length+2:=by simp[autO,cD]
theorem aN9{h:H}{rs:List (List Int)}{ac:List Bool}:Has (h++autO h.length rs ac) h.length rs ac:=by
 refine⟨by simp[autO],by simp[autO],fun i r hr=> ?_⟩;rw[Bq om,show h.length+2+i-h.length=i+1+1 by omega];simp only[autO,As];exact Q8 hr
theorem aOf{h h2:H}{v:Nat}{rs:List (List Int)}{ac:List Bool}(k:Has h v rs ac):Has (h++h2) v rs ac:=
 ⟨by rw[Bb (qS k.vec)];exact k.vec,by rw[Bb (qS k.acc)];exact k.acc,
  fun i r hr=>by rw[Bb (qS (k.row i r hr))];exact k.row i r hr⟩
theorem aBc{h:H}{b:Nat}{r:List Int}(hr:h[b]? =some (.arr (ints r) 1 0)):rd0 h (.sl b 0 0 r.length)=some (rowD r):=by
 simp only[rd0,hr,true_and,Af,By,gW,Ad,if_true,Ay,fJ,rowD]
theorem aIs{h:H}:∀ {rs:List (List Int)} {b:Nat},(∀(i:Nat) (r:List Int),rs[i]? =some r->h[b+i]? =some (.arr (ints r) 1 0))->gB (rd0 h) (aB b rs)=some (aN rs)
 | [],b,_=>rfl
 |r::rs,b,hh=>by
  have h0:=hh 0 r rfl;simp only[Br]at h0
  simp only[aB,gB,aBc h0,aIs (rs:=rs) (b:=b+1) fun i q hq=>by
   rw[show b+1+i=b+(i+1) by omega];exact hh (i+1) q (by simpa using hq)]
  rfl
theorem aPx{h:H}{v:Nat}{rs:List (List Int)}{ac:List Bool}(k:Has h v rs ac):rd1 h (.sl v 0 0 rs.length)=some (.ivs rs.length (aN rs)):=by
 have hl:0+rs.length*1<=(aB (v+2) rs++aF 0).length:=by rw[Ah,gN];omega
 have hn:aF 0=[]:=rfl;simp only[rd1,k.vec];rw[if_pos ⟨trivial,hl⟩];simp only[hn,Ai,aIs k.row,Ax,Ay,By,Q0 (Ad _)]
theorem aPL{h:H}{v:Nat}{rs:List (List Int)}{ac:List Bool}(k:Has h v rs ac):rd1 h (.sl (v+1) 0 0 ac.length)=some (.ivs ac.length (aK ac)):=by
 have hl:0+ac.length*1<=(aK ac).length:=by rw[gD];omega
 simp only[rd1,rd0,k.acc];rw[if_pos ⟨trivial,hl⟩];simp only[Ay,By,wL (Ad _)]
theorem pH:∀(h h2:H),wgt (h++h2)=wgt h+wgt h2
 | [],h2=>by simp[wgt]
 |o::h,h2=>by cases o<;>simp[wgt,pH h h2]<;>omega
theorem E4(rs:List (List Int)):wgt (aI rs)=0:=by
 induction rs with
 |nil=>rfl
 |cons r rs ih=>simpa [aI,wgt]using ih
theorem aO5{b:Nat}{rs:List (List Int)}{ac:List Bool}:wgt (autO b rs ac)=rs.length:=by
 simp[autO,wgt,E4,bG,bQ,dE]
def eD:O->List Nat
 |.box cs=>idsL cs
 |.vec cs _ _=>idsL cs
 |_=>[]
section
variable{h:H}{v:Nat}{rs:List (List Int)}{ac:List Bool}
theorem aIJ{f:Nat->Option Nat}{b d:Nat}(hf:∀i,i<rs.length->f (b+i)=some (d+i)):mapO f (.vec (aB b rs++aF 0) 1 0)=.vec (aB d rs++aF 0) 1 0:=by
 have hn:aF 0=[]:=rfl;simp only[mapO,hn,Ai,fD (c:=0) hf]
theorem aE4{f:Nat->Option Nat}{al:Int}{n m a b:Nat}(h0:f a=some b)(h1:f (a+1)=some (b+1)):mapA f (autA a al n m)=autA b al n m:=by
 simp only[autA,mapA,aE,h0,h1]
theorem aGD{b n i:Nat}(hi:i<n):back [] b n i=some (b+i):=by
 unfold back;simp[hi]
theorem aMi{b n:Nat}(hn:n=rs.length+2):(autO 0 rs ac).map (mapO (back [] b n))=autO b rs ac:=by
 subst hn;unfold autO;rw[Ag,Ag,aGT,aIJ (d:=b+2) fun i hi=>by rw[aGD om];congr 1;omega];rfl
end
section
variable{E:Env}{call:aW}{h:H}{f:FuncId}
theorem YL:∀ {rs rs2:List (List Int)} {b:Nat},rs2.map List.length=rs.map List.length->aB b rs2=aB b rs
 | [],[],b,_=>rfl
 | [],_::_,b,hl=>by simp at hl
 |_::_,[],b,hl=>by simp at hl
 |r::rs,q::rs2,b,hl=>by
  simp only[Ag,List.cons.injEq]at hl;simp only[aB,hl.1,YL hl.2]
end
end
def aL:List (List Int)->Nat
 | []=>0
 |r::rs=>r.length+aL rs
section
section
variable{h h2:H}{nf:Nat}(hn:nf=h.length)(hk:∀o∈h,∀j∈eD o,j<nf)
include hn hk
end
theorem aDM{b k:Nat}:∀ {rs:List (List Int)} {b k:Nat},k<rs.length->((aB b rs++aF 0).drop k).head? =some (.sl (b+k) 0 0 (rs.getD k []).length)
 | [],b,k,h=>by simp at h
 |r::rs,b,0,h=>by simp[aB]
 |r::rs,b,k+1,h=>by
  simp only[aB,At,Dh];rw[aDM (b:=b) (k:=k) (by simpa using h)];simp only[List.getD_cons_succ]
  congr 2
  omega
theorem aFq{d:List (List Int)}{k:Nat}(h:k<d.length):(aI d)[k]? =some (.arr (ints (d.getD k [])) 1 0):=by
 rw[Ab,Ae h];exact Q8 (Ae h)
theorem aKr{d:List (List Int)}{k:Nat}{r:List Int}:(aI d).set k (.arr (ints r) 1 0)=aI (d.set k r):=by
 unfold aI;rw[List.map_set];rfl
end
theorem WN{R:Type}{L n:Nat}(hn:1<=n){a:Int}{k:KE R}:∀(i:Int) (m:Nat) (l:List Int) (len:Nat) (h0:0<=i) (hi:i<=6) (hm:6-i<m) (hl:len=l.length) (hlen:(l.length:Int)<=i),
  aV env (aA env L n) L 0 [] Bz56 (zO 0) (Z1 (U1 (Z2 (Z1 (U8 (U4 (U1 ([])))))))) m (nI a::Y1 (.d .nils::.sl 0 0 0 len::nI i::Y8 (Y4 (Y1 ([]))))) [.arr (ints l) 1 0] k
  =k (.exit 0) (nI a::Y1 (.d .nils::.sl 0 0 0 (len+((qA (6-i).toNat).filter (dT a)).length)::nI 6::Y8 (Y4 (Y1 ([]))))) [.arr (ints (l++(qA (6-i).toNat).filter (dT a))) 1 0]:=by
 intro i m l len h0 hi hm hl hlen;obtain⟨j,hj⟩:∃j:Nat,(j:Int)=(6:Int)-i:=⟨((6:Int)-i).toNat,by omega⟩
 induction j generalizing i m l len with
 |zero=>
  obtain _|m:=m;omega;obtain rfl:i=6:=om
  simp-implicitDefEqProofs (maxSteps:=9^7) (disch:=try exact Dz) only[↓DN,↓kRet,UP,simprocAttr,qZ,qE,Tryz.f112];simp only[qA,List.filter_nil,Ai,Aa,Br]
 |succ j ih=>
  obtain _|m:=m;omega;have hc:i<6:=om;have e1:(6-i).toNat=j+1:=om;have e2:(6-(i+1)).toNat=j:=om;have hr:qA (j+1)=i::qA j:=by simp only[qA];congr 1;omega
  rw[e1,hr,List.filter_cons]
  cases hb:dT a i with
  |true=>
   simp-implicitDefEqProofs (maxSteps:=9^7) (disch:=try exact Dz) only[↓DN,↓kRet,UP,simprocAttr,↓j8,↓ih,hc,hb,e2,qZ,qE,Tryz.f112];simp only[Ao,At,Am,Nat.add_assoc,Nat.add_comm 1]
  |false=>
   simp-implicitDefEqProofs (maxSteps:=9^7) (disch:=try exact Dz) only[↓DN,↓kRet,UP,simprocAttr,↓j8,↓ih,hc,hb,e2,qZ,qE,Tryz.f112]
theorem aPG:qA (6-(0:Int)).toNat=[0,1,2,3,4,5]:=rfl
theorem KB{L n:Nat}(hn:2<=n)(a:Int)(hL:2^60<=L):aA env L n 112 [nI a] []=some (.d (.ivs (aG a).length (ints (aG a))),[]):=by
 unfold aG;rw[<-aPG];obtain _|n:=n;omega
 simp-implicitDefEqProofs (maxSteps:=9^7) (disch:=try exact Dz) only[↓DN,↓kAsg,↓kRet,UP,simprocAttr,aMz,↓WN,aCc,OV,Tryz.f112]
theorem bX:type_of% fun {L} a hL=>ks fun hn=> @KB L _ hn a hL:=fun {L} a hL=>ks fun hn=> @KB L _ hn a hL
section
variable{R:Type}{L n:Nat}
def badQ(n:Int)(r:List Int)(i:Nat):Bool:=!(decide (0<=r.getD i 0)&&decide (r.getD i 0<n))
def BT(w n:Int)(r:List Int):Bool:=!decide ((r.length:Int)=w)||(seek (badQ n r) r.length 0).isSome
def i8(w n:Int)(rs:List (List Int))(i:Nat):Bool:=BT w n (rs.getD i [])
def iT(al:Int)(rs:List (List Int))(ac:List Bool):Bool:=
 fQ al&&decide ((1:Int)<=rs.length)&&decide ((rs.length:Int)<=12)&&decide ((ac.length:Int)=rs.length)&&(seek (i8 (aG al).length rs.length rs) rs.length 0).isNone
theorem aGB{w n:Int}{r:List Int}(h:¬(r.length:Int)=w):BT w n r=true:=by
 unfold BT;rw[decide_eq_false h];rfl
theorem aFC{w n:Int}{r:List Int}(h:(r.length:Int)=w):BT w n r=(seek (badQ n r) r.length 0).isSome:=by
 unfold BT;rw[decide_eq_true h];rfl
theorem I5{n:Int}{r:List Int}{i:Nat}:badQ n r i=true↔¬(0<=r.getD i 0/\r.getD i 0<n):=by
 unfold badQ;simp only[Bool.not_eq_true',Bool.and_eq_false_iff,decide_eq_false_iff_not];omega
theorem M4{n:Int}{r:List Int}{i:Nat}:badQ n r i=false↔(0<=r.getD i 0/\r.getD i 0<n):=by
 unfold badQ;simp only[Ea,Ap,decide_eq_true_eq]
theorem aF1{R:Type}{L nn:Nat}(hn:1<=nn){n:Int}{r:List Int}(hl:r.length<=4294967296){k:KE R}:∀(j:Nat) (i:Int) (m:Nat) (h0:0<=i) (hi:i+j=r.length) (hm:j<m),
  aV env (aA env L nn) L 0 [] Bz37 (NH 0) (Z1 (U1 (Z1 (U2 (U1 (Z2 (U16 (U4 (U2 (U1 ([]))))))))))) m (.d (.ivs r.length (ints r))::Y1 (nI n::Y2 (Y1 (.d (.bool false)::nI i::Y16 (Y4 (Y2 (Y1 ([])))))))) [] k
  =match seek (badQ n r) j i.toNat with
   |none=>k (.exit 0) (.d (.ivs r.length (ints r))::Y1 (nI n::Y2 (Y1 (.d (.bool false)::nI (r.length)::Y16 (Y4 (Y2 (Y1 ([])))))))) []
   |some q=>k .ret (.d (.ivs r.length (ints r))::Y1 (nI n::Y2 (Y1 (.d (.bool false)::nI q::Y16 (Y4 (Y2 (Y1 ([])))))))) []:=by
 intro j
 induction j with
 |zero=>
  intro i m h0 hi hm;obtain _|m:=m;omega;obtain rfl:i=r.length:=om
  simp-implicitDefEqProofs (maxSteps:=9^7) (disch:=try exact Dz) only[↓DN,↓kRet,UP,simprocAttr,Al,rX,tT,Tryz.f125]<;>rfl
 |succ j ih=>
  intro i m h0 hi hm;obtain _|m:=m;omega;have hc:i<r.length:=om;have hk:i.toNat<r.length:=om;have e1:(i+1).toNat=i.toNat+1:=om;have e3:((i.toNat:Nat):Int)=i:=om
  by_cases h1:r.getD i.toNat 0<0
  ·have hb:badQ n r i.toNat=true:=by rw[I5];omega
   rw[iY hb]
   simp-implicitDefEqProofs (maxSteps:=9^7) (disch:=try exact Dz) only[↓DN,↓kAsg,↓kRet,UP,simprocAttr,hc,h1,e3,rX,tT,Tryz.f125]
  ·by_cases h2:n<=r.getD i.toNat 0
   ·have hb:badQ n r i.toNat=true:=by rw[I5];omega
    rw[iY hb]
    simp-implicitDefEqProofs (maxSteps:=9^7) (disch:=try exact Dz) only[↓DN,↓kAsg,↓kRet,UP,simprocAttr,hc,h1,h2,e3,rX,tT,Tryz.f125]
   ·have hb:badQ n r i.toNat=false:=by rw[M4];omega
    rw[kS hb]
    simp-implicitDefEqProofs (maxSteps:=9^7) (disch:=try exact Dz) only[↓DN,↓kRet,UP,simprocAttr,hc,h1,h2,↓ih,e1,rX,tT,Tryz.f125]
theorem aBn(hn:2<=n)(r:List Int)(w q:Int)(hl:r.length<=4294967296)(hL:2^60<=L):aA env L n 125 [.d (.ivs r.length (ints r)),nI w,nI q] []=some (.d (.bool (!BT w q r)),[]):=by
 unfold BT
 by_cases h1:(r.length:Int)=w
 ·have loop_a:=fun {R:Type} {n:Nat} (hn:1<=n) {k:KE R}=>aF1 (R:=R) (L:=L) (nn:=n) hn (n:=q) hl (k:=k) r.length 0 L om om om;simp only[Cp]at loop_a
  cases hs:seek (badQ q r) r.length 0 with
  |none=>
   rw[hs]at loop_a;obtain _|n:=n;omega
   simp-implicitDefEqProofs (maxSteps:=9^7) (disch:=try exact Dz) only[↓DN,↓kAsg,↓kRet,UP,simprocAttr,h1,↓loop_a,NT,IA,Tryz.f125]
  |some z=>
   rw[hs]at loop_a;obtain _|n:=n;omega
   simp-implicitDefEqProofs (maxSteps:=9^7) (disch:=try exact Dz) only[↓DN,↓kAsg,↓kRet,UP,simprocAttr,h1,↓loop_a,NT,IA,Tryz.f125]
 ·obtain _|n:=n;omega
  simp-implicitDefEqProofs (maxSteps:=9^7) (disch:=try exact Dz) only[↓DN,↓kAsg,↓kRet,UP,simprocAttr,h1,NT,IA,Tryz.f125]
theorem YW:type_of% fun {L} r w q hl hL=>ks fun hn=> @aBn L _ hn r w q hl hL:=fun {L} r w q hl hL=>ks fun hn=> @aBn L _ hn r w q hl hL
theorem LQ(hL:2^60<=L)(hn:3<=n){al:Int}{rs:List (List Int)}{ac:List Bool}(hs:bD rs){k:KE R}:∀(j:Nat) (i:Int) (m:Nat) (h0:0<=i) (hi:i+j=rs.length) (hm:j<m),
  aV env (aA env L n) L 0 [] Bz61 (pU 0) (U1 (Z4 (U32 (U4 (U2 (U1 ([]))))))) m (Y1 (.ptr 0 0 0::.d (.bool false)::nI (rs.length)::nI i::Y32 (Y4 (Y2 (Y1 ([])))))) [.box [nI al,.d (.ivs rs.length (aN rs)),.d (.ivs ac.length (aK ac))]] k
  =match seek (i8 (aG al).length rs.length rs) j i.toNat with
   |none=>k (.exit 0) (Y1 (.ptr 0 0 0::.d (.bool false)::nI (rs.length)::nI (rs.length)::Y32 (Y4 (Y2 (Y1 ([])))))) [.box [nI al,.d (.ivs rs.length (aN rs)),.d (.ivs ac.length (aK ac))]]
   |some q=>k .ret (Y1 (.ptr 0 0 0::.d (.bool false)::nI (rs.length)::nI q::Y32 (Y4 (Y2 (Y1 ([])))))) [.box [nI al,.d (.ivs rs.length (aN rs)),.d (.ivs ac.length (aK ac))]]:=by
 intro j;have hrl:=hs.1;have hll:=dF al
 induction j with
 |zero=>
  intro i m h0 hi hm;obtain _|m:=m;omega;obtain rfl:i=rs.length:=om
  simp-implicitDefEqProofs (maxSteps:=9^7) (disch:=try exact Dz) only[↓DN,↓kRet,UP,simprocAttr,Al,lG,kC,Tryz.f56]<;>rfl
 |succ j ih=>
  intro i m h0 hi hm;obtain _|m:=m;omega;have hc:i<rs.length:=om;have hk:i.toNat<rs.length:=om;have hrow:=oJ hs hk;have e1:(i+1).toNat=i.toNat+1:=om;have e3:((i.toNat:Nat):Int)=i:=om
  cases hb:i8 (aG al).length rs.length rs i.toNat with
  |true=>
   rw[iY hb];unfold i8 at hb
   simp-implicitDefEqProofs (maxSteps:=9^7) (disch:=try exact Dz) only[↓DN,↓kAsg,↓kRet,UP,simprocAttr,↓bX,↓YW,LA,hc,hb,e3,lG,kC,Tryz.f56]
  |false=>
   rw[kS hb];unfold i8 at hb
   simp-implicitDefEqProofs (maxSteps:=9^7) (disch:=try exact Dz) only[↓DN,↓kRet,UP,simprocAttr,↓bX,↓YW,LA,hc,hb,↓ih,e1,lG,kC,Tryz.f56]
theorem y3(hn:4<=n)(al:Int)(rs:List (List Int))(ac:List Bool)(hs:bD rs)(ha:ac.length<=4294967296)(hL:2^60<=L):aA env L n 56 [.agg [nI al,.d (.ivs rs.length (aN rs)),.d (.ivs ac.length (aK ac))]] []=some (.d (.bool (iT al rs ac)),[]):=by
 have hrl:=hs.1;have loop_a:=fun {R:Type} {n:Nat} (hn:3<=n) {k:KE R}=>LQ (R:=R) (L:=L) hL hn (al:=al) (ac:=ac) hs (k:=k) rs.length 0 L om om om;simp only[Cp]at loop_a;unfold iT
 cases hq:fQ al with
 |false=>
  obtain _|n:=n;omega
  simp-implicitDefEqProofs (maxSteps:=9^7) (disch:=try exact Dz) only[↓DN,↓kAsg,↓kRet,UP,simprocAttr,↓dQ,hq,gA,fF,Tryz.f56]
 |true=>
  by_cases h1:(1:Int)<=rs.length
  ·have n1:¬(rs.length:Int)<1:=om
   by_cases h2:(rs.length:Int)<=12
   ·have n2:¬(12:Int)<rs.length:=om
    by_cases h3:(ac.length:Int)=rs.length
    ·cases hk:seek (i8 (aG al).length rs.length rs) rs.length 0 with
     |none=>
      rw[hk]at loop_a;obtain _|n:=n;omega
      simp-implicitDefEqProofs (maxSteps:=9^7) (disch:=try exact Dz) only[↓DN,↓kAsg,↓kRet,UP,simprocAttr,↓dQ,hq,h1,n1,h2,n2,h3,↓loop_a,gA,fF,Tryz.f56]
     |some z=>
      rw[hk]at loop_a;obtain _|n:=n;omega
      simp-implicitDefEqProofs (maxSteps:=9^7) (disch:=try exact Dz) only[↓DN,↓kAsg,↓kRet,UP,simprocAttr,↓dQ,hq,h1,n1,h2,n2,h3,↓loop_a,gA,fF,Tryz.f56]
    ·obtain _|n:=n;omega
     simp-implicitDefEqProofs (maxSteps:=9^7) (disch:=try exact Dz) only[↓DN,↓kAsg,↓kRet,UP,simprocAttr,↓dQ,hq,h1,n1,h2,n2,h3,gA,fF,Tryz.f56]
   ·have n2:(12:Int)<rs.length:=om;obtain _|n:=n;omega
    simp-implicitDefEqProofs (maxSteps:=9^7) (disch:=try exact Dz) only[↓DN,↓kAsg,↓kRet,UP,simprocAttr,↓dQ,hq,h1,n1,h2,n2,gA,fF,Tryz.f56]
  ·have n1:(rs.length:Int)<1:=om;obtain _|n:=n;omega
   simp-implicitDefEqProofs (maxSteps:=9^7) (disch:=try exact Dz) only[↓DN,↓kAsg,↓kRet,UP,simprocAttr,↓dQ,hq,h1,n1,gA,fF,Tryz.f56]
theorem dY:type_of% fun {L} al rs ac hs ha hL=>ks fun hn=> @y3 L _ hn al rs ac hs ha hL:=fun {L} al rs ac hs ha hL=>ks fun hn=> @y3 L _ hn al rs ac hs ha hL
theorem G8(hL:2^60<=L)(hn:3<=n){al q w:Int}{rs:List (List Int)}{ac:List Bool}(hs:bD rs){r:List Int}(hr:r.length<=4294967296){k:KE R}:∀(j:Nat) (i:Int) (m:Nat) (h0:0<=i) (hi:i+j=r.length) (hm:j<m),
  aV env (aA env L n) L 0 [] Bz6 (iV 1) (U1 (Z2 (Z1 (U32 (U2 (Z2 (Z1 (U4 (U2 (U1 (Z2 (Z1 (U8 (U4 (U2 ([])))))))))))))))) m (Y1 (.ptr 0 0 0::.d (.bool false)::nI w::Y32 (Y2 (.d (.ivs rs.length (aN rs))::nI (rs.length)::nI q::Y4 (Y2 (Y1 (.d (.ivs r.length (ints r))::nI (r.length)::nI i::Y8 (Y4 (Y2 ([])))))))))) [.box [nI al,.d (.ivs rs.length (aN rs)),.d (.ivs ac.length (aK ac))]] k
  =match seek (badQ rs.length r) j i.toNat with
   |none=>k (.exit 2) (Y1 (.ptr 0 0 0::.d (.bool false)::nI w::Y32 (Y2 (.d (.ivs rs.length (aN rs))::nI (rs.length)::nI q::Y4 (Y2 (Y1 (.d (.ivs r.length (ints r))::nI (r.length)::nI (r.length)::Y8 (Y4 (Y2 ([])))))))))) [.box [nI al,.d (.ivs rs.length (aN rs)),.d (.ivs ac.length (aK ac))]]
   |some z=>k .ret (Y1 (.ptr 0 0 0::.d (.bool false)::nI w::Y32 (Y2 (.d (.ivs rs.length (aN rs))::nI (rs.length)::nI q::Y4 (Y2 (Y1 (.d (.ivs r.length (ints r))::nI (r.length)::nI z::Y8 (Y4 (Y2 ([])))))))))) [.box [nI al,.d (.ivs rs.length (aN rs)),.d (.ivs ac.length (aK ac))]]:=by
 intro j;have hrl:=hs.1
 induction j with
 |zero=>
  intro i m h0 hi hm;obtain _|m:=m;omega;obtain rfl:i=r.length:=om
  simp-implicitDefEqProofs (maxSteps:=9^7) (disch:=try exact Dz) only[↓DN,↓kRet,UP,simprocAttr,Al,iR,gZ,Tryz.f31]<;>rfl
 |succ j ih=>
  intro i m h0 hi hm;obtain _|m:=m;omega;have hc:i<r.length:=om;have hk:i.toNat<r.length:=om;have e1:(i+1).toNat=i.toNat+1:=om;have e3:((i.toNat:Nat):Int)=i:=om
  by_cases h1:r.getD i.toNat 0<0
  ·have hb:badQ rs.length r i.toNat=true:=by rw[I5];omega
   rw[iY hb]
   simp-implicitDefEqProofs (maxSteps:=9^7) (disch:=try exact Dz) only[↓DN,↓kAsg,↓kRet,UP,simprocAttr,hc,h1,e3,iR,gZ,Tryz.f31]
  ·by_cases h2:(rs.length:Int)<=r.getD i.toNat 0
   ·have hb:badQ rs.length r i.toNat=true:=by rw[I5];omega
    rw[iY hb]
    simp-implicitDefEqProofs (maxSteps:=9^7) (disch:=try exact Dz) only[↓DN,↓kAsg,↓kRet,UP,simprocAttr,hc,h1,h2,e3,iR,gZ,Tryz.f31]
   ·have hb:badQ rs.length r i.toNat=false:=by rw[M4];omega
    rw[kS hb]
    simp-implicitDefEqProofs (maxSteps:=9^7) (disch:=try exact Dz) only[↓DN,↓kRet,UP,simprocAttr,hc,h1,h2,↓ih,e1,iR,gZ,Tryz.f31]
theorem G7(hL:2^60<=L)(hn:3<=n){al:Int}{rs:List (List Int)}{ac:List Bool}(hs:bD rs){k:KE R}:∀(j:Nat) (i:Int) (m:Nat) (h0:0<=i) (hi:i+j=rs.length) (hm:j<m),
  aV env (aA env L n) L 0 [] Bz6 (iV 0) (U1 (Z2 (Z1 (U32 (U2 (Z2 (Z1 (U16 (U8 ([])))))))))) m (Y1 (.ptr 0 0 0::.d (.bool false)::nI ((aG al).length)::Y32 (Y2 (.d (.ivs rs.length (aN rs))::nI (rs.length)::nI i::Y16 (Y8 ([])))))) [.box [nI al,.d (.ivs rs.length (aN rs)),.d (.ivs ac.length (aK ac))]] k
  =match seek (i8 (aG al).length rs.length rs) j i.toNat with
   |none=>k (.exit 0) (Y1 (.ptr 0 0 0::.d (.bool false)::nI ((aG al).length)::Y32 (Y2 (.d (.ivs rs.length (aN rs))::nI (rs.length)::nI (rs.length)::Y16 (Y8 ([])))))) [.box [nI al,.d (.ivs rs.length (aN rs)),.d (.ivs ac.length (aK ac))]]
   |some q=>k .ret (Y1 (.ptr 0 0 0::.d (.bool false)::nI ((aG al).length)::Y32 (Y2 (.d (.ivs rs.length (aN rs))::nI (rs.length)::nI q::Y16 (Y8 ([])))))) [.box [nI al,.d (.ivs rs.length (aN rs)),.d (.ivs ac.length (aK ac))]]:=by
 intro j;have hrl:=hs.1;have hll:=dF al
 induction j with
 |zero=>
  intro i m h0 hi hm;obtain _|m:=m;omega;obtain rfl:i=rs.length:=om
  simp-implicitDefEqProofs (maxSteps:=9^7) (disch:=try exact Dz) only[↓DN,↓kRet,UP,simprocAttr,Al,iS,iF,Tryz.f31]<;>rfl
 |succ j ih=>
  intro i m h0 hi hm;obtain _|m:=m;omega;have hc:i<rs.length:=om;have hk:i.toNat<rs.length:=om;have hrow:=oJ hs hk;have e1:(i+1).toNat=i.toNat+1:=om;have e3:((i.toNat:Nat):Int)=i:=om;have loop_a:=fun {R:Type} {k:KE R}=>G8 (R:=R) (n:=n) (L:=L) hL hn (al:=al) (q:=i) (w:=(aG al).length) (ac:=ac) hs hrow (k:=k) (rs.getD i.toNat []).length 0 L om om om;simp only[Cp]at loop_a
  cases hb:i8 (aG al).length rs.length rs i.toNat with
  |true=>
   rw[iY hb];unfold i8 at hb
   by_cases hw:((rs.getD i.toNat []).length:Int)=(aG al).length
   ·have hwd:decide (((rs.getD i.toNat []).length:Int)=(aG al).length)=true:=decide_eq_true hw
    cases hz:seek (badQ rs.length (rs.getD i.toNat [])) (rs.getD i.toNat []).length 0 with
    |none=>rw[aFC hw,hz]at hb;cases hb
    |some z=>
     rw[hz]at loop_a;clear ih hb
     simp-implicitDefEqProofs (maxSteps:=9^7) (disch:=try exact Dz) only[↓DN,↓kRet,UP,simprocAttr,LA,hc,hwd,↓loop_a,e3,iS,iF,Tryz.f31]
   ·clear ih hb loop_a
    simp-implicitDefEqProofs (maxSteps:=9^7) (disch:=try exact Dz) only[↓DN,↓kAsg,↓kRet,UP,simprocAttr,LA,hc,hw,e3,iS,iF,Tryz.f31]
  |false=>
   rw[kS hb];unfold i8 at hb
   by_cases hw:((rs.getD i.toNat []).length:Int)=(aG al).length
   ·have hwd:decide (((rs.getD i.toNat []).length:Int)=(aG al).length)=true:=decide_eq_true hw
    cases hz:seek (badQ rs.length (rs.getD i.toNat [])) (rs.getD i.toNat []).length 0 with
    |none=>
     rw[hz]at loop_a;clear hb
     simp-implicitDefEqProofs (maxSteps:=9^7) (disch:=try exact Dz) only[↓DN,↓kRet,UP,simprocAttr,LA,hc,hwd,↓loop_a,↓ih,e1,iS,iF,Tryz.f31]
    |some z=>rw[aFC hw,hz]at hb;cases hb
   ·rw[aGB hw]at hb;cases hb
theorem yV(hn:4<=n)(al:Int)(rs:List (List Int))(ac:List Bool)(hs:bD rs)(ha:ac.length<=4294967296)(hL:2^60<=L):aA env L n 31 [.agg [nI al,.d (.ivs rs.length (aN rs)),.d (.ivs ac.length (aK ac))]] []=some (.d (.bool (iT al rs ac)),[]):=by
 have hrl:=hs.1;have hll:=dF al;have loop_a:=fun {R:Type} {n:Nat} (hn:3<=n) {k:KE R}=>G7 (R:=R) (L:=L) hL hn (al:=al) (ac:=ac) hs (k:=k) rs.length 0 L om om om;simp only[Cp]at loop_a;unfold iT
 cases hq:fQ al with
 |false=>
  obtain _|n:=n;omega
  simp-implicitDefEqProofs (maxSteps:=9^7) (disch:=try exact Dz) only[↓DN,↓kAsg,↓kRet,UP,simprocAttr,↓dO,hq,f9,fI,Tryz.f31]
 |true=>
  by_cases h1:(1:Int)<=rs.length
  ·have n1:¬(rs.length:Int)<1:=om
   by_cases h2:(rs.length:Int)<=12
   ·have n2:¬(12:Int)<rs.length:=om
    by_cases h3:(ac.length:Int)=rs.length
    ·cases hk:seek (i8 (aG al).length rs.length rs) rs.length 0 with
     |none=>
      rw[hk]at loop_a;obtain _|n:=n;omega
      simp-implicitDefEqProofs (maxSteps:=9^7) (disch:=try exact Dz) only[↓DN,↓kAsg,↓kRet,UP,simprocAttr,↓dO,↓nB,hq,h1,n1,h2,n2,h3,↓loop_a,f9,fI,Tryz.f31]
     |some z=>
      rw[hk]at loop_a;obtain _|n:=n;omega
      simp-implicitDefEqProofs (maxSteps:=9^7) (disch:=try exact Dz) only[↓DN,↓kAsg,↓kRet,UP,simprocAttr,↓dO,↓nB,hq,h1,n1,h2,n2,h3,↓loop_a,f9,fI,Tryz.f31]
    ·obtain _|n:=n;omega
     simp-implicitDefEqProofs (maxSteps:=9^7) (disch:=try exact Dz) only[↓DN,↓kAsg,↓kRet,UP,simprocAttr,↓dO,hq,h1,n1,h2,n2,h3,f9,fI,Tryz.f31]
   ·have n2:(12:Int)<rs.length:=om;obtain _|n:=n;omega
    simp-implicitDefEqProofs (maxSteps:=9^7) (disch:=try exact Dz) only[↓DN,↓kAsg,↓kRet,UP,simprocAttr,↓dO,hq,h1,n1,h2,n2,f9,fI,Tryz.f31]
  ·have n1:(rs.length:Int)<1:=om;obtain _|n:=n;omega
   simp-implicitDefEqProofs (maxSteps:=9^7) (disch:=try exact Dz) only[↓DN,↓kAsg,↓kRet,UP,simprocAttr,↓dO,hq,h1,n1,f9,fI,Tryz.f31]
theorem dZ:type_of% fun {L} al rs ac hs ha hL=>ks fun hn=> @yV L _ hn al rs ac hs ha hL:=fun {L} al rs ac hs ha hL=>ks fun hn=> @yV L _ hn al rs ac hs ha hL
end
section
variable{R:Type}{L n:Nat}
def lV(a l:Int):Nat:=((aG a).filter fun m=>decide (m<l)).length
def goI(al:Int)(rs:List (List Int))(q l:Int):Int:=if dT al l=true then(rs.getD q.toNat []).getD (lV al l) 0 else q
theorem six{l:Int}(h0:0<=l)(h1:l<6):l=0\/l=1\/l=2\/l=3\/l=4\/l=5:=om
theorem QR{a l:Int}(h0:0<=l)(h1:l<6)(hb:dT a l=true):lV a l<(aG a).length/\(aG a)[lV a l]? =some l:=by
 unfold lV aG;generalize dT a=p at *
 rcases six h0 h1 with rfl|rfl|rfl|rfl|rfl|rfl<;>
  cases h0':p 0<;>cases h1':p 1<;>cases h2':p 2<;>cases h3':p 3<;>cases h4':p 4<;>cases h5':p 5<;>simp_all [List.filter]
theorem JO{a l:Int}:l∈aG a↔(0<=l/\l<6)/\dT a l=true:=by
 unfold aG;rw[Dl]
 constructor
 ·rintro⟨h1,h2⟩;simp at h1;exact⟨by omega,h2⟩
 ·rintro⟨h1,h2⟩;refine⟨?_,h2⟩
  rcases six h1.1 h1.2 with rfl|rfl|rfl|rfl|rfl|rfl<;>simp
theorem aD2(a:Int):(aG a).Nodup:=by
 unfold aG;exact List.Nodup.sublist List.filter_sublist dc
def mR(q:Nat):Nat->Nat->List Int->List Int
 |0,_,t=>t
 |j+1,i,t=>mR q j (i+1) (t.set (q*6+i) q)
def r9(q:Nat)(row:List Int):List Int->Nat->List Int->List Int
 | [],_,t=>t
 |l::ls,i,t=>r9 q row ls (i+1) (t.set (q*6+l.toNat) (row.getD i 0))
def sE(ls:List Int):List (List Int)->Nat->List Int->List Int
 | [],_,t=>t
 |r::rs,q,t=>sE ls rs (q+1) (r9 q r ls 0 (mR q 6 0 t))
def o9(al:Int)(rs:List (List Int)):List Int:=sE (aG al) rs 0 (List.replicate (rs.length*6) 0)
theorem vO:∀(j q i:Nat) (t:List Int),(mR q j i t).length=t.length
 |0,_,_,_=>rfl
 |j+1,q,i,t=>by simp[mR,vO j]
theorem IL:∀(ls:List Int) (q i:Nat) (row t:List Int),(r9 q row ls i t).length=t.length
 | [],_,_,_,_=>rfl
 |l::ls,q,i,row,t=>by simp[r9,IL ls]
theorem HS:∀(rs:List (List Int)) (ls:List Int) (q:Nat) (t:List Int),(sE ls rs q t).length=t.length
 | [],_,_,_=>rfl
 |r::rs,ls,q,t=>by simp[sE,HS rs,IL,vO]
theorem wY(al:Int)(rs:List (List Int)):(o9 al rs).length=rs.length*6:=by simp[o9,HS]
theorem W5{t:List Int}{k p:Nat}{v:Int}:(t.set k v).getD p 0=if p=k/\k<t.length then v else t.getD p 0:=by
 simp only[Ab,Co]
 by_cases h:k=p
 ·subst h
  by_cases h2:k<t.length
  ·simp[h2]
  ·simp[h2]
 ·have h':¬p=k:=fun e=>h e.symm;simp[h,h']
theorem QC:∀(j q i:Nat) (t:List Int) (p:Nat),q*6+i+j<=t.length->(mR q j i t).getD p 0=if q*6+i<=p/\p<q*6+i+j then(q:Int)else t.getD p 0
 |0,q,i,t,p,h=>by
  simp only[mR];rw[if_neg om]
 |j+1,q,i,t,p,h=>by
  simp only[mR];rw[QC j q (i+1) _ p (by simp;omega),W5]
  by_cases h1:q*6+(i+1)<=p/\p<q*6+(i+1)+j
  ·rw[if_pos h1,if_pos om]
  ·rw[if_neg h1]
   by_cases h2:p=q*6+i
   ·rw[if_pos ⟨h2,by omega⟩,if_pos om]
   ·rw[if_neg om,if_neg om]
theorem uD:∀(ls:List Int) (q i:Nat) (row t:List Int) (p:Nat),(∀l∈ls,p≠q*6+l.toNat)->(r9 q row ls i t).getD p 0=t.getD p 0
 | [],_,_,_,_,_,_=>rfl
 |l::ls,q,i,row,t,p,h=>by
  simp only[r9];rw[uD ls q (i+1) row _ p fun m hm=>h m (by simp[hm]),W5,if_neg];intro hc;exact h l sm hc.1
theorem QV:∀(ls:List Int) (q i:Nat) (row t:List Int) (k:Nat) (l:Int),ls[k]? =some l->ls.Nodup->(∀m∈ls,0<=m)->q*6+l.toNat<t.length->(r9 q row ls i t).getD (q*6+l.toNat) 0=row.getD (i+k) 0
 |l'::ls,q,i,row,t,0,l,h,hn,hp,hl=>by
  simp only[Ch,Option.some.injEq]at h;subst h;simp only[r9];rw[uD,W5,if_pos ⟨rfl,hl⟩,Br];intro m hm hc
  have h1:m=l':=by
   have h2:=hp m (by simp[hm]);have h3:=hp l' sm;omega
  subst h1;exact(List.nodup_cons.1 hn).1 hm
 |l'::ls,q,i,row,t,k+1,l,h,hn,hp,hl=>by
  simp only[r9];rw[QV ls q (i+1) row _ k l (by simpa using h) (List.nodup_cons.1 hn).2 (fun m hm=>hp m (by simp[hm])) (by simpa using hl)]
  congr 1
  omega
theorem aHh{a:Int}:∀m∈aG a,0<=m:=fun m hm=>(JO.1 hm).1.1
theorem aDn{a:Int}:∀(rs:List (List Int)) (q0:Nat) (t:List Int) (q l:Nat),l<6->(q0+rs.length)*6<=t.length->
  (sE (aG a) rs q0 t).getD (q*6+l) 0=if q0<=q/\q<q0+rs.length then(if dT a l=true then(rs.getD (q-q0) []).getD (lV a l) 0 else(q:Int))else t.getD (q*6+l) 0
 | [],q0,t,q,l,hl,ht=>by
  simp only[sE];rw[if_neg (by simp only[Aa];omega)]
 |r::rs,q0,t,q,l,hl,ht=>by
  simp only[Ac]at ht|-;simp only[sE];rw[aDn rs (q0+1) _ q l hl (by rw[IL,vO];omega)]
  by_cases h1:q0+1<=q/\q<q0+1+rs.length
  ·rw[if_pos h1,if_pos (show q0<=q/\q<q0+(rs.length+1) by omega)];obtain⟨d,hd⟩:∃d,q-q0=d+1:=⟨q-q0-1,by omega⟩
   rw[hd,List.getD_cons_succ,show q-(q0+1)=d by omega]
  ·rw[if_neg h1]
   by_cases h2:q=q0
   ·subst h2;rw[if_pos (show q<=q/\q<q+(rs.length+1) by omega),Cl,List.getD_cons_zero]
    by_cases hb:dT a l=true
    ·rw[if_pos hb];have hp:=QR (a:=a) (l:=l) om om hb;have hg:=QV (aG a) q 0 r (mR q 6 0 t) (lV a l) l hp.2 (aD2 a) aHh (by rw[vO];simp;omega);rw[Cd]at hg;rw[hg,Af]
    ·rw[if_neg hb,uD,QC _ _ _ _ _ om,if_pos om];intro m hm hc;have hm2:=JO.1 hm;have:m=l:=om;subst this;exact hb hm2.2
   ·rw[if_neg (show ¬(q0<=q/\q<q0+(rs.length+1)) by omega),uD,QC _ _ _ _ _ om,if_neg om];intro m hm hc;have hm2:=JO.1 hm;omega
theorem aJJ{al:Int}{rs:List (List Int)}{q l:Int}(h0:0<=q)(h1:q<rs.length)(h2:0<=l)(h3:l<6):(o9 al rs).getD (q.toNat*6+l.toNat) 0=goI al rs q l:=by
 unfold o9 goI;rw[aDn rs 0 _ q.toNat l.toNat om sm];rw[if_pos om,Nat.sub_zero,show((l.toNat:Nat):Int)=l by omega,show((q.toNat:Nat):Int)=q by omega]
theorem aIz{al:Int}{rs:List (List Int)}{q l:Int}(h0:0<=q)(h1:q<rs.length)(h2:0<=l)(h3:l<6):((((ints (o9 al rs)).drop (q.toNat*6)).drop l.toNat).map A.d).head? =some (nI (goI al rs q l)):=by
 rw[Bg,R3 (by rw[wY];omega),aJJ h0 h1 h2 h3]
theorem c_a6:env.P.cellsOf 123=6:=kr
theorem aDP:∀n:Nat,(List.replicate n [D.int .i64 0,.int .i64 0,.int .i64 0,.int .i64 0,.int .i64 0,.int .i64 0]).flatten=ints (List.replicate (n*6) 0)
 |0=>rfl
 |n+1=>by
  rw[Dr,List.flatten_cons,aDP n,Nat.succ_mul];simp[ints,Dr]
theorem aIk{n:Int}{h:H}(h0:0<=n)(h1:n<=4294967296):iD env.P h 121 n n=some (.sl h.length 0 0 n.toNat,h++[.arr (ints (List.replicate (n.toNat*6) 0)) 6 0]):=by
 have hm:n<=(bF:Nat):=by unfold bF;omega
 have he:cR env.P 121=some 123:=kr;have hz:dA env.P 123=some (.agg [nI 0,nI 0,nI 0,nI 0,nI 0,nI 0]):=kr;have hok:eG env.P 123=true:=kr;simp only[iD,he,hz,aT,wW,Ax,hok,h0,hm,c_a6,Int.le_refl,and_self,if_true,aDP]
theorem X3(hn:1<=n){al q:Int}{rs:List (List Int)}(hs:bD rs){r:List Int}(hq0:0<=q)(hq1:q<rs.length){k:KE R}:∀(j:Nat) (i:Int) (m:Nat) (t:List Int) (len:Nat) (h0:0<=i) (hi:i+j=6) (hm:j<m) (ht:t.length=rs.length*6) (hlen:len=rs.length),
  aV env (aA env L n) L 0 [] Bz1 (fG 1) Bz25 m (Y2 (.d .nils::.sl 0 0 0 len::.d (.ivs (aG al).length (ints (aG al)))::nI q::.d (.ivs r.length (ints r))::Y8 (Y2 (Y1 (.d (.ivs rs.length (aN rs))::nI (rs.length)::nI q::Y4 (nI i::Y16 (Y8 (Y4 ([]))))))))) [.arr (ints t) 6 0] k
  =k (.exit 2) (Y2 (.d .nils::.sl 0 0 0 rs.length::.d (.ivs (aG al).length (ints (aG al)))::nI q::.d (.ivs r.length (ints r))::Y8 (Y2 (Y1 (.d (.ivs rs.length (aN rs))::nI (rs.length)::nI q::Y4 (nI 6::Y16 (Y8 (Y4 ([]))))))))) [.arr (ints (mR q.toNat j i.toNat t)) 6 0]:=by
 intro j;have hrl:=hs.1
 induction j with
 |zero=>
  intro i m t len h0 hi hm ht hlen;obtain _|m:=m;omega;obtain rfl:i=6:=om
  simp-implicitDefEqProofs (maxSteps:=9^7) (disch:=try exact Dz) only[↓DN,↓kRet,UP,simprocAttr,Al,hlen,oM,oT,Tryz.f89]<;>rfl
 |succ j ih=>
  intro i m t len h0 hi hm ht hlen;obtain _|m:=m;omega;subst hlen;have hc:i<6:=om;have hk:q.toNat*6+i.toNat<t.length:=om;have e1:(i+1).toNat=i.toNat+1:=om;have e2:((q.toNat:Nat):Int)=q:=om
  simp-implicitDefEqProofs (maxSteps:=9^7) (disch:=try exact Dz) only[↓DN,↓kRet,UP,simprocAttr,hc,hq1,↓EM,↓ih,oM,oT,Tryz.f89];rw[e1];simp only[mR,e2]
theorem aGz{a:Int}{i:Nat}(h:i<(aG a).length):(aG a).drop i=(aG a).getD i 0::(aG a).drop (i+1):=bM h
theorem XA(hn:1<=n){al q:Int}{rs:List (List Int)}(hs:bD rs){r:List Int}(hr:r.length<=4294967296)(hrl2:(aG al).length<=r.length)(hq0:0<=q)(hq1:q<rs.length){k:KE R}:∀(j:Nat) (i:Int) (m:Nat) (t:List Int) (len:Nat) (h0:0<=i) (hi:i+j=(aG al).length) (hm:j<m) (ht:t.length=rs.length*6) (hlen:len=rs.length),
  aV env (aA env L n) L 0 [] Bz1 (fG 2) Bz21 m (Y2 (.d .nils::.sl 0 0 0 len::.d (.ivs (aG al).length (ints (aG al)))::nI q::.d (.ivs r.length (ints r))::Y8 (Y2 (Y1 (.d (.ivs rs.length (aN rs))::nI (rs.length)::nI q::Y4 (nI 6::Y8 (Y1 (.d (.ivs (aG al).length (ints (aG al)))::nI ((aG al).length)::nI i::Y16 ([]))))))))) [.arr (ints t) 6 0] k
  =k (.exit 4) (Y2 (.d .nils::.sl 0 0 0 rs.length::.d (.ivs (aG al).length (ints (aG al)))::nI q::.d (.ivs r.length (ints r))::Y8 (Y2 (Y1 (.d (.ivs rs.length (aN rs))::nI (rs.length)::nI q::Y4 (nI 6::Y8 (Y1 (.d (.ivs (aG al).length (ints (aG al)))::nI ((aG al).length)::nI ((aG al).length)::Y16 ([]))))))))) [.arr (ints (r9 q.toNat r ((aG al).drop i.toNat) i.toNat t)) 6 0]:=by
 intro j;have hrl:=hs.1;have hll:=dF al
 induction j with
 |zero=>
  intro i m t len h0 hi hm ht hlen;obtain _|m:=m;omega;obtain rfl:i=(aG al).length:=om
  simp-implicitDefEqProofs (maxSteps:=9^7) (disch:=try exact Dz) only[↓DN,↓kRet,UP,simprocAttr,Al,hlen,uR,uC,Tryz.f89];simp only[Cg,r9]
 |succ j ih=>
  intro i m t len h0 hi hm ht hlen;obtain _|m:=m;omega;subst hlen;have hc:i<(aG al).length:=om;have hk1:i.toNat<(aG al).length:=om;have hk2:i.toNat<r.length:=om;have hv:=aM1 kA hk1;have hv6:(aG al).getD i.toNat 0<6:=om;have hv0:=hv.1;have hk:q.toNat*6+((aG al).getD i.toNat 0).toNat<t.length:=om;have e1:(i+1).toNat=i.toNat+1:=om
  simp-implicitDefEqProofs (maxSteps:=9^7) (disch:=try exact Dz) only[↓DN,↓kRet,UP,simprocAttr,hc,hq1,↓EM,↓ih,uR,uC,Tryz.f89];rw[aGz hk1,e1];simp only[r9]
def vJ(w:Nat)(rs:List (List Int)):Prop:=∀r∈rs,r.length=w
theorem aId{w:Nat}{rs:List (List Int)}(h:vJ w rs){k:Nat}(hk:k<rs.length):(rs.getD k []).length=w:=by
 rw[Ab,Ae hk];exact h _ (Bd hk)
theorem YD(hL:2^60<=L)(hn:1<=n){al:Int}{rs:List (List Int)}(hs:bD rs)(hw:vJ (aG al).length rs){k:KE R}:∀(j:Nat) (i:Int) (m:Nat) (t:List Int) (len:Nat) (h0:0<=i) (hi:i+j=rs.length) (hm:j<m) (ht:t.length=rs.length*6) (hlen:len=rs.length),
  aV env (aA env L n) L 0 [] Bz1 (fG 0) Bz18 m (Y2 (.d .nils::.sl 0 0 0 len::.d (.ivs (aG al).length (ints (aG al)))::Y8 (Y4 (Y1 (.d (.ivs rs.length (aN rs))::nI (rs.length)::nI i::Y32 (Y1 ([]))))))) [.arr (ints t) 6 0] k
  =k (.exit 0) (Y2 (.d .nils::.sl 0 0 0 rs.length::.d (.ivs (aG al).length (ints (aG al)))::Y8 (Y4 (Y1 (.d (.ivs rs.length (aN rs))::nI (rs.length)::nI (rs.length)::Y32 (Y1 ([]))))))) [.arr (ints (sE (aG al) (rs.drop i.toNat) i.toNat t)) 6 0]:=by
 intro j;have hrl:=hs.1;have hll:=dF al
 induction j with
 |zero=>
  intro i m t len h0 hi hm ht hlen;obtain _|m:=m;omega;obtain rfl:i=rs.length:=om
  simp-implicitDefEqProofs (maxSteps:=9^7) (disch:=try exact Dz) only[↓DN,↓kRet,UP,simprocAttr,Al,hlen,nZ,oS,Tryz.f89];simp only[Cg,sE]
 |succ j ih=>
  intro i m t len h0 hi hm ht hlen;obtain _|m:=m;omega;subst hlen;have hc:i<rs.length:=om;have hk:i.toNat<rs.length:=om;have hrow:=oJ hs hk;have hrw:=aId hw hk;have e1:(i+1).toNat=i.toNat+1:=om;have loop_a1:=fun {R:Type} {k:KE R}=>X3 (R:=R) (L:=L) (n:=n) hn (al:=al) (q:=i) (r:=rs.getD i.toNat []) hs h0 hc (k:=k) 6 0 L t rs.length om om om ht rfl;have loop_a2:=fun {R:Type} {k:KE R}=>XA (R:=R) (L:=L) (n:=n) hn (al:=al) (q:=i) hs (r:=rs.getD i.toNat []) hrow om h0 hc (k:=k) (aG al).length 0 L (mR i.toNat 6 0 t) rs.length om om om (by rw[vO];exact ht) rfl;simp only[Cp,Ay]at loop_a1 loop_a2;have ht2:(r9 i.toNat (rs.getD i.toNat []) (aG al) 0 (mR i.toNat 6 0 t)).length=rs.length*6:=by rw[IL,vO];exact ht
  clear hrw
  simp-implicitDefEqProofs (maxSteps:=9^7) (disch:=try exact Dz) only[↓DN,↓kRet,UP,simprocAttr,LA,hc,↓loop_a1,↓loop_a2,↓ih,nZ,oS,Tryz.f89];rw[bM hk (d:=[]),e1];simp only[sE]
theorem SM(hn:3<=n)(al:Int)(rs:List (List Int))(z:Nat)(cs:List D)(hs:bD rs)(hw:vJ (aG al).length rs)(hL:2^60<=L):aA env L n 89 [.agg [nI al,.d (.ivs rs.length (aN rs)),.d (.ivs z cs)]] []=some (.d (.ivs rs.length (ints (o9 al rs))),[]):=by
 have hrl:=hs.1;have loop_a:=fun {R:Type} {n:Nat} (hn:1<=n) {k:KE R}=>YD (R:=R) (L:=L) (n:=n) hL hn (al:=al) hs hw (k:=k) rs.length 0 L (List.replicate (rs.length*6) 0) rs.length om om om sm rfl;simp only[Cp,Ay]at loop_a;have htl:(o9 al rs).length=rs.length*6:=wY al rs;have htl2:rs.length*6<=(sE (aG al) rs 0 (List.replicate (rs.length*6) 0)).length:=by rw[HS];simp
 have htk:(ints (sE (aG al) rs 0 (List.replicate (rs.length*6) 0))).take (rs.length*6)=ints (sE (aG al) rs 0 (List.replicate (rs.length*6) 0)):=fJ (by rw[HS];simp);unfold o9;obtain _|n:=n;omega
 simp-implicitDefEqProofs (maxSteps:=9^7) (disch:=try exact Dz) only[↓DN,↓kAsg,↓kRet,UP,simprocAttr,↓nB,↓aIk,↓loop_a,htk,htl2,QS,JP,Tryz.f89]
theorem aGR:type_of% fun {L} al rs z cs hs hw hL=>ks fun hn=> @SM L _ hn al rs z cs hs hw hL:=fun {L} al rs z cs hs hw hL=>ks fun hn=> @SM L _ hn al rs z cs hs hw hL
end
section
variable{R:Type}{L n:Nat}
def cntB(a:Int):Nat->Int->Nat
 |0,_=>0
 |j+1,i=>(if dT a i=true then 1 else 0)+cntB a j (i+1)
theorem aJR{a l:Int}(h0:0<=l)(h1:l<6):cntB a l.toNat 0=lV a l:=by
 unfold lV aG;generalize hp:dT a=p;have e:∀i,dT a i=p i:=fun i=>by rw[hp]
 rcases six h0 h1 with rfl|rfl|rfl|rfl|rfl|rfl<;>
  simp only[cntB,e,show(0:Int).toNat=0 from rfl,show(1:Int).toNat=1 from rfl,show(2:Int).toNat=2 from rfl,show(3:Int).toNat=3 from rfl,show(4:Int).toNat=4 from rfl,show(5:Int).toNat=5 from rfl,Int.zero_add,Int.reduceAdd]<;>
  cases h0':p 0<;>cases h1':p 1<;>cases h2':p 2<;>cases h3':p 3<;>cases h4':p 4<;>cases h5':p 5<;>simp_all [List.filter]
theorem aBr(hn:1<=n){a l:Int}(hl:l<6){k:KE R}:∀(j:Nat) (i c:Int) (m:Nat) (h0:0<=i) (hi:i+j=l) (hm:j<m) (hc0:0<=c) (hc1:c<=i),
  aV env (aA env L n) L 0 [] Bz60 (E9 0) (Z2 (U2 (Z2 (Z1 (U8 (U2 (U1 ([])))))))) m (nI a::nI l::Y2 (nI 0::nI c::nI i::Y8 (Y2 (Y1 ([]))))) [] k
  =k (.exit 0) (nI a::nI l::Y2 (nI 0::nI (c+cntB a j i)::nI l::Y8 (Y2 (Y1 ([]))))) []:=by
 intro j
 induction j with
 |zero=>
  intro i c m h0 hi hm hc0 hc1;obtain _|m:=m;omega;obtain rfl:i=l:=om
  simp-implicitDefEqProofs (maxSteps:=9^7) (disch:=try exact Dz) only[↓DN,↓kRet,UP,simprocAttr,Al,vH,t9,Tryz.f275];simp only[cntB,Av,Int.add_zero]
 |succ j ih=>
  intro i c m h0 hi hm hc0 hc1;obtain _|m:=m;omega;have hc:i<l:=om
  cases hb:dT a i with
  |true=>
   have e:c+1+(cntB a j (i+1):Int)=c+cntB a (j+1) i:=by simp only[cntB,hb,if_true];omega
   simp-implicitDefEqProofs (maxSteps:=9^7) (disch:=try exact Dz) only[↓DN,↓kRet,UP,simprocAttr,↓j8,hc,hb,↓ih,vH,t9,Tryz.f275];rw[e]
  |false=>
   have e:c+(cntB a j (i+1):Int)=c+cntB a (j+1) i:=by simp only[cntB,hb,Aj,if_false];omega
   simp-implicitDefEqProofs (maxSteps:=9^7) (disch:=try exact Dz) only[↓DN,↓kRet,UP,simprocAttr,↓j8,hc,hb,↓ih,vH,t9,Tryz.f275];rw[e]
theorem RP(hn:2<=n)(a l:Int)(h0:0<=l)(h1:l<6)(hL:2^60<=L):aA env L n 275 [nI a,nI l] []=some (nI (lV a l),[]):=by
 have loop_a:=fun {R:Type} {n:Nat} (hn:1<=n) {k:KE R}=>aBr (R:=R) (L:=L) hn (a:=a) h1 (k:=k) l.toNat 0 0 L om om om om om;rw[aJR h0 h1]at loop_a;obtain _|n:=n;omega
 simp-implicitDefEqProofs (maxSteps:=9^7) (disch:=try exact Dz) only[↓DN,↓kAsg,UP,simprocAttr,↓loop_a,Int.zero_add,aGu,WA,Tryz.f275]
theorem aFO:type_of% fun {L} a l h0 h1 hL=>ks fun hn=> @RP L _ hn a l h0 h1 hL:=fun {L} a l h0 h1 hL=>ks fun hn=> @RP L _ hn a l h0 h1 hL
theorem aOS{al q l:Int}{rs:List (List Int)}(h:dT al l=false):goI al rs q l=q:=by
 unfold goI;rw[h];rfl
theorem aOB{al q l:Int}{rs:List (List Int)}(h:dT al l=true):goI al rs q l=(rs.getD q.toNat []).getD (lV al l) 0:=by
 unfold goI;rw[if_pos h]
theorem aDB(hn:3<=n)(al q l:Int)(rs:List (List Int))(z:Nat)(cs:List D)(hs:bD rs)(hw:vJ (aG al).length rs)(hq0:0<=q)(hq1:q<rs.length)(h0:0<=l)(h1:l<6)(hL:2^60<=L):aA env L n 270 [.agg [nI al,.d (.ivs rs.length (aN rs)),.d (.ivs z cs)],nI q,nI l] []=some (nI (goI al rs q l),[]):=by
 have hrl:=hs.1;have hk:q.toNat<rs.length:=om;have hrow:=oJ hs hk;have hrw:=aId hw hk
 cases hb:dT al l with
 |false=>
  rw[aOS hb];clear hrw;obtain _|n:=n;omega
  simp-implicitDefEqProofs (maxSteps:=9^7) (disch:=try exact Dz) only[↓DN,↓kAsg,↓kRet,UP,simprocAttr,↓j8,hb,aDU,XW,Tryz.f270]
 |true=>
  rw[aOB hb];have hp:=(QR h0 h1 hb).1;have hp2:lV al l<(rs.getD q.toNat []).length:=om;have hp3:(lV al l:Int)<(rs.getD q.toNat []).length:=om;have hp4:((lV al l:Nat):Int).toNat=lV al l:=Cd _;clear hrw hp;obtain _|n:=n;omega
  simp-implicitDefEqProofs (maxSteps:=9^7) (disch:=try exact Dz) only[↓DN,↓kAsg,↓kRet,UP,simprocAttr,↓j8,↓aFO,LA,hb,hp4,aDU,XW,Tryz.f270]
theorem aLw:type_of% fun {L} al q l rs z cs hs hw hq0 hq1 h0 h1 hL=>ks fun hn=> @aDB L _ hn al q l rs z cs hs hw hq0 hq1 h0 h1 hL:=fun {L} al q l rs z cs hs hw hq0 hq1 h0 h1 hL=>ks fun hn=> @aDB L _ hn al q l rs z cs hs hw hq0 hq1 h0 h1 hL
theorem aKI{l:List (List Int)}{r:List Int}{z:Nat}(h:z=r.length):aN l++[.ivs z (ints r)]=aN (l++[r]):=by
 subst h;simp[aN,rowD]
theorem aKZ:aN []=[]:=rfl
end
section
def rU:List Int->List Int->Prop
 |a::x,b::y=>a<b\/a=b/\rU x y
 |_,_=>False
def slt(x y:List Int):Prop:=x.length<y.length\/x.length=y.length/\rU x y
theorem aDf:∀x:List Int,¬rU x x
 | [],h=>h
 |a::x,h=>by
  rcases h with h|⟨_,h⟩
  ·omega
  ·exact aDf x h
theorem VE:∀ {x y z:List Int},rU x y->rU y z->rU x z
 | [],_,_,h,_=>h.elim
 |_::_,[],_,h,_=>h.elim
 |_::_,_::_,[],_,h=>h.elim
 |a::x,b::y,c::z,h,k=>by
  rcases h with h|⟨rfl,h⟩
  ·rcases k with k|⟨rfl,k⟩
   ·exact .inl om
   ·exact .inl h
  ·rcases k with k|⟨rfl,k⟩
   ·exact .inl k
   ·exact .inr ⟨rfl,VE h k⟩
theorem aCC:∀ {x y:List Int},x.length=y.length->x=y\/rU x y\/rU y x
 | [],[],_=>.inl rfl
 | [],_::_,h=>by simp at h
 |_::_,[],h=>by simp at h
 |a::x,b::y,h=>by
  rcases Int.lt_trichotomy a b with h1|h1|h1
  ·exact .inr (.inl (.inl h1))
  ·subst h1
   rcases aCC (x:=x) (y:=y) (by simpa using h)with h2|h2|h2
   ·exact .inl (by rw[h2])
   ·exact .inr (.inl (.inr ⟨rfl,h2⟩))
   ·exact .inr (.inr (.inr ⟨rfl,h2⟩))
  ·exact .inr (.inr (.inl h1))
theorem aBz(x:List Int):¬slt x x:=by
 intro h
 rcases h with h|⟨_,h⟩
 ·omega
 ·exact aDf x h
theorem H3{x y z:List Int}(h:slt x y)(k:slt y z):slt x z:=by
 rcases h with h|⟨h1,h⟩<;>rcases k with k|⟨k1,k⟩
 ·exact .inl om
 ·exact .inl om
 ·exact .inl om
 ·exact .inr ⟨by omega,VE h k⟩
theorem aIS(x y:List Int):x=y\/slt x y\/slt y x:=by
 rcases Dy x.length y.length with h|h|h
 ·exact .inr (.inl (.inl h))
 ·rcases aCC h with k|k|k
  ·exact .inl k
  ·exact .inr (.inl (.inr ⟨h,k⟩))
  ·exact .inr (.inr (.inr ⟨h.symm,k⟩))
 ·exact .inr (.inr (.inl h))
theorem DT:∀ {u v:List Int} {a b:Int},u.length=v.length->(rU (u++[a]) (v++[b])↔rU u v\/u=v/\a<b)
 | [],[],a,b,_=>by simp[rU]
 | [],_::_,a,b,h=>by simp at h
 |_::_,[],a,b,h=>by simp at h
 |x::u,y::v,a,b,h=>by
  have ih:=DT (u:=u) (v:=v) (a:=a) (b:=b) (by simpa using h);simp only[At,rU,ih,List.cons.injEq]
  constructor
  ·rintro(k|⟨rfl,k|⟨rfl,k⟩⟩)
   ·exact .inl (.inl k)
   ·exact .inl (.inr ⟨rfl,k⟩)
   ·exact .inr ⟨⟨rfl,rfl⟩,k⟩
  ·rintro((k|⟨rfl,k⟩)|⟨⟨rfl,rfl⟩,k⟩)
   ·exact .inl k
   ·exact .inr ⟨rfl,.inl k⟩
   ·exact .inr ⟨rfl,.inr ⟨rfl,k⟩⟩
theorem NR{u v:List Int}{a b:Int}:slt (u++[a]) (v++[b])↔slt u v\/u=v/\a<b:=by
 unfold slt;simp only[Ah,Ac,Aa]
 constructor
 ·rintro(h|⟨h,k⟩)
  ·exact .inl (.inl om)
  ·have hl:u.length=v.length:=om
   rcases(DT hl).1 k with k|k
   ·exact .inl (.inr ⟨hl,k⟩)
   ·exact .inr k
 ·rintro((h|⟨h,k⟩)|⟨rfl,k⟩)
  ·exact .inl om
  ·exact .inr ⟨by omega,(DT h).2 (.inl k)⟩
  ·exact .inr ⟨rfl,(DT rfl).2 (.inr ⟨rfl,k⟩)⟩
def Path(nx:Int->Int->List Int)(ls:List Int):Int->List Int->Int->Prop
 |v,[],u=>v=u
 |v,l::w,u=>l∈ls/\∃m∈nx v l,Path nx ls m w u
section
variable{nx:Int->Int->List Int}{ls:List Int}
theorem aF3:∀ {x y:List Int} {v u:Int},Path nx ls v (x++y) u↔∃m,Path nx ls v x m/\Path nx ls m y u
 | [],y,v,u=>by simp[Path]
 |l::x,y,v,u=>by
  simp only[At,Path,aF3 (x:=x)]
  constructor
  ·rintro⟨h,m,hm,q,h1,h2⟩;exact⟨q,⟨h,m,hm,h1⟩,h2⟩
  ·rintro⟨q,⟨h,m,hm,h1⟩,h2⟩;exact⟨h,m,hm,q,h1,h2⟩
theorem aCv{w:List Int}{l v u:Int}:Path nx ls v (w++[l]) u↔l∈ls/\∃m,Path nx ls v w m/\u∈nx m l:=by
 rw[aF3];simp only[Path]
 constructor
 ·rintro⟨m,h1,h2,q,h3,rfl⟩;exact⟨h2,m,h1,h3⟩
 ·rintro⟨h2,m,h1,h3⟩;exact⟨m,h1,h2,u,h3,rfl⟩
def uP(nx:Int->Int->List Int)(ls start w:List Int)(u:Int):Prop:=∃s∈start,Path nx ls s w u
def Hits(nx:Int->Int->List Int)(ls start:List Int)(gl:Int->Bool)(w:List Int):Prop:=∃u,uP nx ls start w u/\gl u=true
def TK(P:List Int->Prop)(w:List Int):Prop:=P w/\∀x,P x->¬slt x w
theorem aG6{P:List Int->Prop}{x y:List Int}(hx:TK P x)(hy:TK P y):x=y:=by
 rcases aIS x y with h|h|h
 ·exact h
 ·exact(hy.2 x hx.1 h).elim
 ·exact(hx.2 y hy.1 h).elim
def TL(P:List Int->Prop)(r:List Int×Bool):Prop:=(r.2=true/\TK P r.1)\/(r=([],false)/\∀w,¬P w)
theorem aFm{P:List Int->Prop}{r q:List Int×Bool}(hr:TL P r)(hq:TL P q):r=q:=by
 rcases hr with⟨h1,h2⟩|⟨h1,h2⟩<;>rcases hq with⟨k1,k2⟩|⟨k1,k2⟩
 ·obtain⟨a,b⟩:=r;obtain⟨c,d⟩:=q;simp only at h1 k1 h2 k2;subst h1;subst k1;rw[aG6 h2 k2]
 ·exact(k2 _ h2.1).elim
 ·exact(h2 _ k2.1).elim
 ·rw[h1,k1]
end
end
section
def JI(mvs:List (List Int))(dist:List Int)(d:Int):Bool:=mvs.any fun r=>r.any fun m=>decide (dist.getD m.toNat 0=d)
def dS(tab:List (List (List Int)))(d:Int):Nat->Nat->List Int×Bool->List Int×Bool
 |0,_,q=>q
 |j+1,i,q=>if q.1.getD i 0<0/\JI (tab.getD i []) q.1 (d-1)=true then dS tab d j (i+1) (q.1.set i d,true)else dS tab d j (i+1) q
def dL(tab:List (List (List Int))):Nat->Int->List Int->List Int
 |0,_,dist=>dist
 |j+1,d,dist=>if(dS tab d dist.length 0 (dist,false)).2=true then dL tab j (d+1) (dS tab d dist.length 0 (dist,false)).1 else(dS tab d dist.length 0 (dist,false)).1
def addC(dist:List Int)(d:Int):List Int->List Int->List Int
 | [],out=>out
 |m::ms,out=>if dist.getD m.toNat 0=d/\m∉out then addC dist d ms (out++[m])else addC dist d ms out
def bB(tab:List (List (List Int)))(dist:List Int)(k:Nat)(d:Int):List Int->List Int->List Int
 | [],out=>out
 |v::vs,out=>bB tab dist k d vs (addC dist d ((tab.getD v.toNat []).getD k []) out)
def MZ(tab:List (List (List Int)))(dist:List Int)(at_:List Int)(d:Int):Nat->Nat->Nat×List Int
 |0,k=>(k,[])
 |j+1,k=>if bB tab dist k d at_ []=[]then MZ tab dist at_ d j (k+1)else(k,bB tab dist k d at_ [])
def m7(tab:List (List (List Int)))(dist:List Int)(ls:List Int):Nat->List Int->List Int
 |0,_=>[]
 |d+1,at_=>ls.getD (MZ tab dist at_ d (ls.length+1) 0).1 0::m7 tab dist ls d (MZ tab dist at_ d (ls.length+1) 0).2
def Y7(tab:List (List (List Int)))(ls:List Int)(dist:List Int)(s:Int):List Int×Bool:=
 if dist.getD s.toNat 0<0 then([],false)else(m7 tab dist ls (dist.getD s.toNat 0).toNat [s],true)
section
variable{nx:Int->Int->List Int}{gl:Int->Bool}{ls:List Int}{aL:Nat}{tab:List (List (List Int))}
def Away(nx:Int->Int->List Int)(ls:List Int)(gl:Int->Bool)(v:Int)(d:Nat):Prop:=∃w g,w.length=d/\Path nx ls v w g/\gl g=true
def Far(nx:Int->Int->List Int)(ls:List Int)(gl:Int->Bool)(v:Int)(d:Nat):Prop:=Away nx ls gl v d/\∀e,e<d->¬Away nx ls gl v e
theorem SA{v:Int}:Away nx ls gl v 0↔gl v=true:=by
 constructor
 ·rintro⟨w,g,h1,h2,h3⟩;have:w=[]:=Bw.1 h1;subst this;rw[show v=g from h2];exact h3
 ·intro h;exact⟨[],v,rfl,rfl,h⟩
theorem JL{v:Int}{d:Nat}:Away nx ls gl v (d+1)↔∃l∈ls,∃m∈nx v l,Away nx ls gl m d:=by
 constructor
 ·rintro⟨w,g,h1,h2,h3⟩
  cases w with
  |nil=>simp at h1
  |cons l w=>
   obtain⟨hl,m,hm,hp⟩:=h2;exact⟨l,hl,m,hm,w,g,by simpa using h1,hp,h3⟩
 ·rintro⟨l,hl,m,hm,w,g,h1,h2,h3⟩;exact⟨l::w,g,by simp[h1],⟨hl,m,hm,h2⟩,h3⟩
theorem D1{v:Int}{d e:Nat}(h:Far nx ls gl v d)(k:Far nx ls gl v e):d=e:=by
 rcases Dy d e with h1|h1|h1
 ·exact(k.2 d h1 h.1).elim
 ·exact h1
 ·exact(h.2 e h1 k.1).elim
theorem aNp{v:Int}:∀ {d:Nat},Away nx ls gl v d->∃e,e<=d/\Far nx ls gl v e:=by
 intro d
 induction d using Nat.strongRecOn with
 |_ d ih=>
  intro h
  by_cases hd:∃e,e<d/\Away nx ls gl v e
  ·obtain⟨e,h1,h2⟩:=hd;obtain⟨f,h3,h4⟩:=ih e h1 h2;exact⟨f,by omega,h4⟩
  ·exact⟨d,Ad _,h,fun e he ha=>hd ⟨e,he,ha⟩⟩
theorem N4{v:Int}{d:Nat}(h:Far nx ls gl v (d+1)):∃l∈ls,∃m∈nx v l,Far nx ls gl m d:=by
 obtain⟨l,hl,m,hm,ha⟩:=JL.1 h.1;refine⟨l,hl,m,hm,ha,fun e he h2=> ?_⟩;exact h.2 (e+1) om (JL.2 ⟨l,hl,m,hm,h2⟩)
structure Tab(nx:Int->Int->List Int)(ls:List Int)(aL:Nat)(tab:List (List (List Int))):Prop where
 len:tab.length=aL
 row:∀v:Nat,v<aL->tab.getD v []=ls.map (nx v)
 rng:∀v c:Int,0<=v->v<aL->c∈ls->∀m∈nx v c,0<=m/\m<aL
def ZY(nx:Int->Int->List Int)(ls:List Int)(gl:Int->Bool)(aL:Nat)(dist:List Int)(d:Nat):Prop:=
 dist.length=aL/\∀i:Nat,i<aL->(∃k:Nat,k<=d/\dist.getD i 0=k/\Far nx ls gl i k)\/(dist.getD i 0= -1/\∀e,e<=d->¬Away nx ls gl i e)
theorem QY{dist:List Int}{d:Nat}(h:ZY nx ls gl aL dist d){v:Int}{k:Nat}(h0:0<=v)(h1:v<aL)(hk:k<=d):dist.getD v.toNat 0=k↔Far nx ls gl v k:=by
 have hv:((v.toNat:Nat):Int)=v:=om
 rcases h.2 v.toNat om with⟨e,h2,h3,h4⟩|⟨h3,h4⟩
 ·rw[hv]at h4
  constructor
  ·intro h5;have:e=k:=om;rw[<-this];exact h4
  ·intro h5;rw[h3,D1 h4 h5]
 ·rw[hv]at h4
  constructor
  ·intro h5;omega
  ·intro h5;exact(h4 k hk h5.1).elim
theorem aL0(ht:Tab nx ls aL tab){dist old:List Int}{d:Nat}(hk:ZY nx ls gl aL old d){v:Nat}(hv:v<aL)(hs:∀i:Nat,i<aL->(dist.getD i 0=d↔old.getD i 0=d)):
  JI (tab.getD v []) dist d=true↔∃l∈ls,∃m∈nx v l,Far nx ls gl m d:=by
 unfold JI;rw[ht.row v hv];simp only[List.any_map,List.any_eq_true,Function.comp,decide_eq_true_eq]
 constructor
 ·rintro⟨l,hl,m,hm,h⟩;have hr:=ht.rng v l om om hl m hm;rw[hs m.toNat om]at h;exact⟨l,hl,m,hm,(QY hk hr.1 hr.2 (Ad _)).1 h⟩
 ·rintro⟨l,hl,m,hm,h⟩;have hr:=ht.rng v l om om hl m hm;refine⟨l,hl,m,hm,?_⟩;rw[hs m.toNat om];exact(QY hk hr.1 hr.2 (Ad _)).2 h
theorem aDg{α:Type}{l:List α}{i j:Nat}{x d:α}(h:i<l.length):(l.set i x).getD j d=if i=j then x else l.getD j d:=by
 rw[Ab,Co,Ab]
 by_cases hij:i=j
 ·subst hij;simp[h]
 ·simp[hij]
open Classical in
theorem aPN(ht:Tab nx ls aL tab){old:List Int}{d:Nat}(hk:ZY nx ls gl aL old d):∀(j i:Nat) (q:List Int×Bool),i+j=aL->q.1.length=aL->(∀x:Nat,x<aL->q.1.getD x 0=if x<i/\Far nx ls gl x (d+1)then((d+1:Nat):Int)else old.getD x 0)->(q.2=true↔∃x:Nat,x<i/\Far nx ls gl x (d+1))->
  (dS tab ((d+1:Nat):Int) j i q).1.length=aL/\(∀x:Nat,x<aL->(dS tab ((d+1:Nat):Int) j i q).1.getD x 0=if Far nx ls gl x (d+1)then((d+1:Nat):Int)else old.getD x 0)/\((dS tab ((d+1:Nat):Int) j i q).2=true↔∃x:Nat,x<aL/\Far nx ls gl x (d+1)):=by
 intro j
 induction j with
 |zero=>
  intro i q hi hl hq hb;obtain rfl:i=aL:=om;refine⟨hl,fun x hx=> ?_,hb⟩;have:=hq x hx;simp only[hx,true_and]at this;exact this
 |succ j ih=>
  intro i q hi hl hq hb;have hit:i<aL:=om;have e1:((d+1:Nat):Int)-1=(d:Int):=om
  have hqi:q.1.getD i 0=old.getD i 0:=by
   rw[hq i hit,if_neg om]
  have hnear:=aL0 ht hk hit (dist:=q.1) fun x hx=>by
   rw[hq x hx]
   split
   ·rename_i h
    constructor
    ·intro h2;omega
    ·intro h2;have:=(QY hk (v:=(x:Int)) om om (Ad d)).1 (by simpa using h2);have:=D1 h.2 this;omega
   ·exact Iff.rfl
  have hfar:(q.1.getD i 0<0/\JI (tab.getD i []) q.1 (((d+1:Nat):Int)-1)=true)↔Far nx ls gl i (d+1):=by
   rw[e1,hnear,hqi]
   constructor
   ·rintro⟨h1,l,hl,m,hm,h2⟩
    rcases hk.2 i hit with⟨k,_,h3,_⟩|⟨_,h4⟩
    ·omega
    ·exact⟨JL.2 ⟨l,hl,m,hm,h2.1⟩,fun e he=>h4 e om⟩
   ·intro h;refine⟨?_,N4 h⟩
    rcases hk.2 i hit with⟨k,h2,h3,h4⟩|⟨h3,_⟩
    ·have:=D1 h h4;omega
    ·omega
  unfold dS
  by_cases hc:Far nx ls gl i (d+1)
  ·rw[if_pos (hfar.2 hc)];refine ih (i+1) _ om (by simpa using hl) (fun x hx=> ?_) ?_
   ·simp only;rw[aDg om]
    by_cases hix:i=x
    ·subst hix;rw[if_pos rfl,if_pos ⟨by omega,hc⟩]
    ·rw[if_neg hix,hq x hx]
     by_cases hxi:x<i
     ·simp only[hxi,show x<i+1 by omega,true_and]
     ·simp only[hxi,show ¬x<i+1 by omega,false_and,if_false]
   ·simp only[true_iff];exact⟨i,by omega,hc⟩
  ·rw[if_neg (fun h=>hc (hfar.1 h))];refine ih (i+1) q om hl (fun x hx=> ?_) ?_
   ·rw[hq x hx]
    by_cases hix:i=x
    ·subst hix;simp only[hc,and_false,if_false]
    ·by_cases hxi:x<i
     ·simp only[hxi,show x<i+1 by omega,true_and]
     ·simp only[hxi,show ¬x<i+1 by omega,false_and,if_false]
   ·rw[hb]
    constructor
    ·rintro⟨x,h1,h2⟩;exact⟨x,by omega,h2⟩
    ·rintro⟨x,h1,h2⟩
     by_cases hix:x=i
     ·subst hix;exact(hc h2).elim
     ·exact⟨x,by omega,h2⟩
def Full(nx:Int->Int->List Int)(ls:List Int)(gl:Int->Bool)(aL:Nat)(dist:List Int):Prop:=
 dist.length=aL/\∀i:Nat,i<aL->(∃k:Nat,dist.getD i 0=k/\Far nx ls gl i k)\/(dist.getD i 0= -1/\∀e,¬Away nx ls gl i e)
theorem OB:∀ {l:List Int} {i:Nat} {x:Int},l.getD i 0<0->i<l.length->0<=x->(l.set i x).countP (·<0)+1=l.countP (·<0)
 | [],i,x,h,hi,hx=>by simp at hi
 |a::l,0,x,h,hi,hx=>by
  simp at h;simp only[Ci,List.countP_cons];simp[h,show ¬x<0 by omega]
 |a::l,i+1,x,h,hi,hx=>by
  have ih:=OB (l:=l) (i:=i) (x:=x) (by simpa using h) (by simpa using hi) hx;simp only[Bk,List.countP_cons];omega
theorem TW{d:Int}(hd:0<=d):∀(j i:Nat) (q:List Int×Bool),i+j=q.1.length->(dS tab d j i q).1.countP (·<0)<=q.1.countP (·<0)/\((dS tab d j i q).2=true->q.2=true\/(dS tab d j i q).1.countP (·<0)<q.1.countP (·<0))
 |0,i,q,h=>⟨Ad _,fun h=>.inl h⟩
 |j+1,i,q,h=>by
  unfold dS
  split
  ·rename_i hc
   have h1:=OB (l:=q.1) (i:=i) (x:=d) hc.1 om hd;obtain⟨h2,h3⟩:=TW hd j (i+1) (q.1.set i d,true) (by simp;omega);simp only at h2;exact⟨by omega,fun _=>.inr om⟩
  ·exact TW hd j (i+1) q om
open Classical in
theorem aLU(ht:Tab nx ls aL tab):∀(j d:Nat) (dist:List Int),ZY nx ls gl aL dist d->dist.countP (·<0)<j->Full nx ls gl aL (dL tab j ((d+1:Nat):Int) dist)
 |0,d,dist,hk,hj=>by omega
 |j+1,d,dist,hk,hj=>by
  have h0:∀x:Nat,x<aL->dist.getD x 0=if x<0/\Far nx ls gl x (d+1)then((d+1:Nat):Int)else dist.getD x 0:=fun x hx=>by
   rw[if_neg om]
  obtain⟨h1,h2,h3⟩:=aPN ht hk aL 0 (dist,false) om hk.1 h0 sm;have hc:=TW (tab:=tab) (d:=((d+1:Nat):Int)) om dist.length 0 (dist,false) sm;unfold dL;rw[<-hk.1]at h1 h2 h3;generalize dS tab ((d+1:Nat):Int) dist.length 0 (dist,false)=r at *;rw[hk.1]at h1 h2 h3
  split
  ·rename_i hb
   have hlt:=hc.2 hb;simp only[Aj,false_or]at hlt;refine aLU ht j (d+1) r.1 ⟨h1,fun i hi=> ?_⟩ om;rw[h2 i hi]
   split
   ·rename_i hf
    exact .inl ⟨d+1,Ad _,rfl,hf⟩
   ·rename_i hf
    rcases hk.2 i hi with⟨k,g1,g2,g3⟩|⟨g1,g2⟩
    ·exact .inl ⟨k,by omega,g2,g3⟩
    ·refine .inr ⟨g1,fun e he ha=> ?_⟩
     by_cases hed:e=d+1
     ·subst hed;exact hf ⟨ha,fun e' he'=>g2 e' om⟩
     ·exact g2 e om ha
  ·rename_i hb
   have hno:∀i:Nat,i<aL->¬Far nx ls gl i (d+1):=fun i hi hf=>hb (h3.2 ⟨i,hi,hf⟩)
   have hnone:∀e:Nat,∀i:Nat,i<aL->d<e->¬Far nx ls gl i e:=by
    intro e
    induction e with
    |zero=>intro i hi he;omega
    |succ e ih=>
     intro i hi he hf
     by_cases hed:e=d
     ·subst hed;exact hno i hi hf
     ·obtain⟨l,hl,m,hm,hfm⟩:=N4 hf;have hr:=ht.rng i l om om hl m hm;refine ih m.toNat om om ?_;rw[show((m.toNat:Nat):Int)=m by omega];exact hfm
   refine⟨h1,fun i hi=> ?_⟩;rw[h2 i hi,if_neg (hno i hi)]
   rcases hk.2 i hi with⟨k,g1,g2,g3⟩|⟨g1,g2⟩
   ·exact .inl ⟨k,g2,g3⟩
   ·refine .inr ⟨g1,fun e ha=> ?_⟩;obtain⟨f,h4,h5⟩:=aNp ha
    by_cases hfd:f<=d
    ·exact g2 f hfd h5.1
    ·exact hnone f i hi om h5
theorem WR{dist:List Int}{d:Int}:∀(ms out:List Int) (x:Int),x∈addC dist d ms out↔x∈out\/(x∈ms/\dist.getD x.toNat 0=d)
 | [],out,x=>by simp[addC]
 |m::ms,out,x=>by
  unfold addC
  split
  ·rename_i h
   rw[WR ms,Aq,Cc,Au]
   constructor
   ·rintro((k|rfl)|k)
    ·exact .inl k
    ·exact .inr ⟨.inl rfl,h.1⟩
    ·exact .inr ⟨.inr k.1,k.2⟩
   ·rintro(k|⟨rfl|k,k2⟩)
    ·exact .inl (.inl k)
    ·exact .inl (.inr rfl)
    ·exact .inr ⟨k,k2⟩
  ·rename_i h
   rw[WR ms,Au]
   constructor
   ·rintro(k|k)
    ·exact .inl k
    ·exact .inr ⟨.inr k.1,k.2⟩
   ·rintro(k|⟨rfl|k,k2⟩)
    ·exact .inl k
    ·by_cases hx:x∈out
     ·exact .inl hx
     ·exact(h ⟨k2,hx⟩).elim
    ·exact .inr ⟨k,k2⟩
theorem MM{dist:List Int}{k:Nat}{d:Int}:∀(vs out:List Int) (x:Int),x∈bB tab dist k d vs out↔x∈out\/(∃v∈vs,x∈(tab.getD v.toNat []).getD k []/\dist.getD x.toNat 0=d)
 | [],out,x=>by simp[bB]
 |v::vs,out,x=>by
  unfold bB;rw[MM vs,WR]
  constructor
  ·rintro((h|h)|⟨u,h1,h2⟩)
   ·exact .inl h
   ·exact .inr ⟨v,Bl,h⟩
   ·exact .inr ⟨u,Bi _ h1,h2⟩
  ·rintro(h|⟨u,h1,h2⟩)
   ·exact .inl (.inl h)
   ·rcases Au.1 h1 with rfl|h1
    ·exact .inl (.inr h2)
    ·exact .inr ⟨u,h1,h2⟩
theorem aB6{dist at_:List Int}{d:Int}:∀(j k:Nat),(∃e,k<=e/\e<k+j/\bB tab dist e d at_ []≠[])->∃e,k<=e/\e<k+j/\MZ tab dist at_ d j k=(e,bB tab dist e d at_ [])/\bB tab dist e d at_ []≠[]/\∀f,k<=f->f<e->bB tab dist f d at_ []=[]
 |0,k,⟨e,h1,h2,_⟩=>by omega
 |j+1,k,⟨e,h1,h2,h3⟩=>by
  unfold MZ
  split
  ·rename_i hc
   have hek:e≠k:=fun h=>h3 (h▸hc);obtain⟨f,g1,g2,g3,g4,g5⟩:=aB6 j (k+1) ⟨e,by omega,by omega,h3⟩;refine⟨f,by omega,by omega,g3,g4,fun x hx1 hx2=> ?_⟩
   by_cases hxk:x=k
   ·subst hxk;exact hc
   ·exact g5 x om hx2
  ·rename_i hc
   exact⟨k,Ad _,by omega,rfl,hc,fun f h h'=>by omega⟩
theorem FL{dist:List Int}(h:Full nx ls gl aL dist){v:Int}{k:Nat}(h0:0<=v)(h1:v<aL):dist.getD v.toNat 0=k↔Far nx ls gl v k:=by
 have hv:((v.toNat:Nat):Int)=v:=om
 rcases h.2 v.toNat om with⟨e,h3,h4⟩|⟨h3,h4⟩
 ·rw[hv]at h4
  constructor
  ·intro h5;have:e=k:=om;rw[<-this];exact h4
  ·intro h5;rw[h3,D1 h4 h5]
 ·rw[hv]at h4
  constructor
  ·intro h5;omega
  ·intro h5;exact(h4 k h5.1).elim
theorem TG(ht:Tab nx ls aL tab){v:Int}{k:Nat}(h0:0<=v)(h1:v<aL)(hk:k<ls.length):(tab.getD v.toNat []).getD k []=nx v (ls.getD k 0):=by
 rw[ht.row v.toNat om,show((v.toNat:Nat):Int)=v by omega,Ab,Bc,Ae hk,Ab,Ae hk];rfl
theorem aBE:∀ {l:List Int} {i j:Nat},l.Pairwise (·<·)->i<j->j<l.length->l.getD i 0<l.getD j 0
 | [],i,j,_,_,h=>by simp at h
 |a::l,0,j+1,h,_,hj=>by
  have hj':j<l.length:=by simpa using hj
  have:=(List.pairwise_cons.1 h).1 (l.getD j 0) (by rw[Ab,Ae hj'];exact Bd hj')
  simpa using this
 |a::l,i+1,j+1,h,hij,hj=>by
  have:=aBE (List.pairwise_cons.1 h).2 (i:=i) (j:=j) om (by simpa using hj)
  simpa using this
theorem aK6(ht:Tab nx ls aL tab){dist:List Int}(hf:Full nx ls gl aL dist)(ha:ls.Pairwise (·<·)):∀(d:Nat) (at_:List Int),(∀v∈at_,(0<=v/\v<aL)/\Far nx ls gl v d)->at_≠[]->
  (m7 tab dist ls d at_).length=d/\(∃v∈at_,∃g,Path nx ls v (m7 tab dist ls d at_) g/\gl g=true)/\∀w v g,v∈at_->w.length=d->Path nx ls v w g->gl g=true->¬rU w (m7 tab dist ls d at_):=by
 intro d
 induction d with
 |zero=>
  intro at_ hat hne;refine⟨rfl,?_,fun w v g _ hw _ _ h=> ?_⟩
  ·cases at_ with
   |nil=>exact(hne rfl).elim
   |cons v vs=>
    have:=(hat v Bl).2;exact⟨v,Bl,v,rfl,SA.1 this.1⟩
  ·have:w=[]:=Bw.1 hw;subst this;exact h
 |succ d ih=>
  intro at_ hat hne
  have hmem:∀k x,k<ls.length->(x∈bB tab dist k d at_ []↔∃v∈at_,x∈nx v (ls.getD k 0)/\Far nx ls gl x d):=by
   intro k x hk;rw[MM];simp only[Bo,false_or]
   constructor
   ·rintro⟨v,hv,h1,h2⟩;have hr:=(hat v hv).1;rw[TG ht hr.1 hr.2 hk]at h1;have hl:ls.getD k 0∈ls:=by rw[Ab,Ae hk];exact Bd hk
    have hx:=ht.rng v _ hr.1 hr.2 hl x h1;exact⟨v,hv,h1,(FL hf hx.1 hx.2).1 h2⟩
   ·rintro⟨v,hv,h1,h2⟩;have hr:=(hat v hv).1;have hl:ls.getD k 0∈ls:=by rw[Ab,Ae hk];exact Bd hk
    have hx:=ht.rng v _ hr.1 hr.2 hl x h1;exact⟨v,hv,by rw[TG ht hr.1 hr.2 hk];exact h1,(FL hf hx.1 hx.2).2 h2⟩
  have hidx:∀l∈ls,∃k,k<ls.length/\ls.getD k 0=l:=by
   intro l hl;obtain⟨k,hk,h⟩:=Dj hl;exact⟨k,hk,by rw[Ab,Ae hk,h];rfl⟩
  obtain⟨v0,hv0⟩:∃v,v∈at_:=by
   cases at_ with
   |nil=>exact(hne rfl).elim
   |cons v vs=>exact⟨v,Bl⟩
  obtain⟨l0,hl0,m0,hm0,hfm0⟩:=N4 (hat v0 hv0).2;obtain⟨k0,hk0,e0⟩:=hidx l0 hl0
  have hne0:bB tab dist k0 d at_ []≠[]:=by
   intro h;have:=(hmem k0 m0 hk0).2 ⟨v0,hv0,by rw[e0];exact hm0,hfm0⟩;rw[h]at this;cases this
  obtain⟨e,_,h2,h3,h4,h5⟩:=aB6 (tab:=tab) (dist:=dist) (at_:=at_) (d:=d) (ls.length+1) 0 ⟨k0,by omega,by omega,hne0⟩
  have hel:e<ls.length:=by
   apply Nat.lt_of_not_le;intro h
   by_cases he0:k0<e
   ·exact hne0 (h5 k0 om he0)
   ·omega
  have hel2:ls.getD e 0∈ls:=by rw[Ab,Ae hel];exact Bd hel
  unfold m7;rw[h3];simp only
  have hat2:∀x∈bB tab dist e d at_ [],(0<=x/\x<aL)/\Far nx ls gl x d:=by
   intro x hx;obtain⟨v,hv,g1,g2⟩:=(hmem e x hel).1 hx;have hr:=(hat v hv).1;exact⟨ht.rng v _ hr.1 hr.2 hel2 x g1,g2⟩
  obtain⟨i1,⟨m,hm,g,i2,i3⟩,i4⟩:=ih _ hat2 h4;refine⟨by simp[i1],?_,?_⟩
  ·obtain⟨v,hv,g1,g2⟩:=(hmem e m hel).1 hm;exact⟨v,hv,g,⟨hel2,m,g1,i2⟩,i3⟩
  ·intro w v g' hv hw hp hg hlt
   cases w with
   |nil=>simp at hw
   |cons l w=>
    obtain⟨hl,m',hm',hp'⟩:=hp
    have hfm:Far nx ls gl m' d:=by
     refine⟨⟨w,g',by simpa using hw,hp',hg⟩,fun x hx hax=> ?_⟩;exact(hat v hv).2.2 (x+1) om (JL.2 ⟨l,hl,m',hm',hax⟩)
    obtain⟨k,hk,ek⟩:=hidx l hl;have hmc:m'∈bB tab dist k d at_ []:=(hmem k m' hk).2 ⟨v,hv,by rw[ek];exact hm',hfm⟩
    have hke:e<=k:=by
     apply Nat.le_of_not_lt;intro h;rw[h5 k om h]at hmc;cases hmc
    rcases hlt with h|⟨h,h'⟩
    ·by_cases hek:e=k
     ·subst hek;omega
     ·have:=aBE ha (i:=e) (j:=k) om hk;omega
    ·have:e=k:=by
      apply Nat.le_antisymm hke;apply Nat.le_of_not_lt;intro hc;have:=aBE ha (i:=e) (j:=k) hc hk;omega
     subst this;exact i4 w m' g' hmc (by simpa using hw) hp' hg h'
theorem aNq(ht:Tab nx ls aL tab){dist:List Int}(hf:Full nx ls gl aL dist)(ha:ls.Pairwise (·<·)){s:Int}(h0:0<=s)(h1:s<aL):TL (Hits nx ls [s] gl) (Y7 tab ls dist s):=by
 have hv:((s.toNat:Nat):Int)=s:=om;unfold Y7
 rcases hf.2 s.toNat om with⟨k,h2,h3⟩|⟨h2,h3⟩
 ·rw[hv]at h3;rw[h2,if_neg om,Cd];obtain⟨i1,⟨v,hv1,g,i2,i3⟩,i4⟩:=aK6 ht hf ha k [s] (fun v hv=>by simp at hv;subst hv;exact⟨⟨h0,h1⟩,h3⟩) sm;have:v=s:=by simpa using hv1
  subst this;refine .inl ⟨rfl,⟨g,⟨v,by simp,i2⟩,i3⟩,?_⟩;rintro x ⟨u,⟨y,hy,hp⟩,hg⟩ hlt;have:y=v:=by simpa using hy
  subst this;have hlt':slt x (m7 tab dist ls k [y]):=hlt
  rcases hlt' with h|⟨h,h'⟩
  ·exact h3.2 x.length om ⟨x,u,rfl,hp,hg⟩
  ·exact i4 x y u sm om hp hg h'
 ·rw[hv]at h3;rw[h2,if_pos om];refine .inr ⟨rfl,?_⟩;rintro w ⟨u,⟨y,hy,hp⟩,hg⟩;have:y=s:=by simpa using hy
  subst this;exact h3 w.length ⟨w,u,rfl,hp,hg⟩
end
end
end Ev
end Go.Proofs.YtahbdkmimmnadaaGreatDoor
