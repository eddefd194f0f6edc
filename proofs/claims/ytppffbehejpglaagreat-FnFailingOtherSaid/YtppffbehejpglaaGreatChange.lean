/-
  The random source opened; arguments of the exchanges that are drawn.
-/
import Derived.Test.YtppffbehejpglaaGreatSafe
import Derived.Test.YtppffbehejpglaaGreatWrongC
import Derived.Test.YtppffbehejpglaaGreatWrongB
set_option linter.unusedSimpArgs false
set_option linter.unusedVariables false
set_option maxRecDepth 8000
set_option maxHeartbeats 4000000
namespace Go.Proofs.YtppffbehejpglaaGreat
namespace Ev
def src(c:List UInt8):List UInt8:=if 2000<c.length then c.take 2000 else c
theorem aSm(c:List UInt8):(src c).length<=2000:=by
 unfold src;split
 ·rw[Bk];omega
 ·omega
theorem aOv:(env.hint 9).mode=2:=kr
theorem aRP{L n:Nat}(hn:1<=n)(c0:List UInt8)(hc:c0.length<=4294967296):aA env L n 9 [.d (.ivs c0.length (bK c0))] []=some (.ptr 0 0 0,[O.box [A.d (D.ivs (src c0).length (bK (src c0))),A.d (D.int .i64 0)]]):=by
 unfold src
 by_cases h:(2000:Int)<c0.length
 ·have h':2000<c0.length:=om;obtain _|n:=n;omega
  simp-implicitDefEqProofs (maxSteps:=9^7) (disch:=try exact Dz) only[↓DN,↓kAsg,↓kRet,UP,simprocAttr,h,h',VI,MZ,Tryz.f9]
 ·have h':¬2000<c0.length:=om;obtain _|n:=n;omega
  simp-implicitDefEqProofs (maxSteps:=9^7) (disch:=try exact Dz) only[↓DN,↓kAsg,↓kRet,UP,simprocAttr,h,h',VI,MZ,Tryz.f9]
mutual
theorem aGo{f g:Nat->Option Nat}(hfg:∀k,f k=none->g k=none):∀a:A,idsA (mapA f a)=[]->mapA g a=mapA f a
 |.d x,_=>by simp only[mapA]
 |.sl id gen off len,h=>by
  simp only[mapA]at h|-
  cases hf:f id with
  |none=>rw[hfg id hf]
  |some m=>rw[hf]at h;simp[idsA]at h
 |.ptr id gen off,h=>by
  simp only[mapA]at h|-
  cases hf:f id with
  |none=>rw[hfg id hf]
  |some m=>rw[hf]at h;simp[idsA]at h
 |.mp id,h=>by
  simp only[mapA]at h|-
  cases hf:f id with
  |none=>rw[hfg id hf]
  |some m=>rw[hf]at h;simp[idsA]at h
 |.clo c caps,h=>by simp only[mapA,idsA]at h|-;rw[GI hfg caps h]
 |.agg cs,h=>by simp only[mapA,idsA]at h|-;rw[GI hfg cs h]
 |.tup cs,h=>by simp only[mapA,idsA]at h|-;rw[GI hfg cs h]
 |.junk,_=>by simp only[mapA]
theorem GI{f g:Nat->Option Nat}(hfg:∀k,f k=none->g k=none):∀l:List A,idsL (aF f l)=[]->aF g l=aF f l
 | [],_=>by simp only[aF]
 |a::l,h=>by
  simp only[aF,idsL,List.append_eq_nil_iff]at h;simp only[aF];rw[aGo hfg a h.1,GI hfg l h.2]
end
theorem aOD{f:Nat->Option Nat}{a:A}{x:D}(h:mapA f a=.d x):a=.d x:=by
 cases a with
 |d y=>simpa [mapA]using h
 |sl id gen off len=>simp only[mapA]at h;split at h<;>cases h
 |ptr id gen off=>simp only[mapA]at h;split at h<;>cases h
 |mp id=>simp only[mapA]at h;split at h<;>cases h
 |clo c caps=>simp[mapA]at h
 |agg cs=>simp[mapA]at h
 |tup cs=>simp[mapA]at h
 |junk=>simp[mapA]at h
theorem aSP{f:Nat->Option Nat}{o:O}{c:List UInt8}{q:Int}(h:mapO f o=rdO c q):o=rdO c q:=by
 cases o with
 |box cs=>
  simp only[mapO,O.box.injEq]at h
  match cs,h with
  | [a,b],h=>
   simp only[aF,List.cons.injEq,and_true]at h;rw[aOD h.1,aOD h.2]
  | [],h=>simp[aF]at h
  | [_],h=>simp[aF]at h
  |_::_::_::_,h=>simp[aF]at h
 |_=>simp[mapO]at h
theorem vL{L n m:Nat}{f:FuncId}{args:List A}{c:List UInt8}{p q:Int}{r:A}(ha:idsL args=[])(hr:idsA r=[])
  (kd:∀(R:Type) (L n:Nat) (hq:H) (k:KA R),m<=n->2^60<=L->aW env (aA env L n) (rdO c p::hq) f (.ptr 0 0 0::args) k=k r (rdO c q::hq))
  {R:Type} {hq:H} {k:KA R} {i:Nat} (hn:m<=n) (hL:2^60<=L) (hi:hq[i]? =some (rdO c p)):
  aW env (aA env L n) hq f (.ptr i 0 0::args) k=k r (hq.set i (rdO c q)):=by
 have h0:=kd (A×H) L n [] (fun a h=>some (a,h)) hn hL;generalize aA env L n=call at h0|-;have hid:∀j,idsL (A.ptr j 0 0::args)=[j]:=fun j=>by simp[idsL,idsA,ha]
 have hre:∀(h:H) (j:Nat),h[j]? =some (rdO c p)->aE aI h [j] []=[j]:=by
  intro h j hj
  have e1:aE aI h [j] []=match h[j]? with
   |some (.box cs)=>aE (aI-1) h ([]++idsL cs) ([]++[j])
   |some (.vec cs _ _)=>aE (aI-1) h ([]++idsL cs) ([]++[j])
   |some .void=>aE (aI-1) h [] []
   |some _=>aE (aI-1) h [] ([]++[j])
   |none=>aE (aI-1) h [] []:=rfl
  rw[e1,hj];rfl
 have hpk:∀(h:H) (j:Nat),h[j]? =some (rdO c p)->pack h [j]=[rdO c p]:=by
  intro h j hj;simp only[pack,Ai,Ar,Aa,hj]<;>rfl
 have hma:∀j,aF (aJ [j]) (A.ptr j 0 0::args)=A.ptr 0 0 0::args:=by
  intro j;simp only[aF,eD _ ha];simp[mapA,aJ]
 have hcl:∀(h:H) (j:Nat),h[j]? =some (rdO c p)->closed h [j] [j]=true:=by
  intro h j hj;simp only[closed,Bu,Bz,hj];simp[idsL,idsA]
 unfold aW at h0|-;rw[hid,hre hq i hi,hpk hq i hi,hma];rw[hid,hre [rdO c p] 0 rfl,hpk [rdO c p] 0 rfl,hma]at h0
 cases hc:bS call env.hint [rdO c p] f (A.ptr 0 0 0::args)with
 |none=>rw[hc]at h0;simp at h0
 |some y=>
  obtain⟨a,h1⟩:=y;rw[hc]at h0;simp only[hcl [rdO c p] 0 rfl,hcl hq i hi,and_true,Ae,Ac]at h0|-
  split at h0
  ·rename_i hlen
   rw[if_pos hlen];simp only[Option.some.injEq,Prod.mk.injEq]at h0;obtain⟨g1,g2⟩:=h0
   match h1,hlen,g1,g2 with
   |o::rest,hlen,g1,g2=>
    simp only[bG,Ci,Ax,Ap,List.cons.injEq,List.map_eq_nil_iff]at g2;obtain⟨g2,rfl⟩:=g2;have ho:=aSP g2;subst ho
    have ga:mapA (back [i] hq.length 1) a=r:=by
     rw[aGo (f:=back [0] 1 1) (g:=back [i] hq.length 1) ?_ a (by have:=g1;simp only[Ae,Ac,Ag]at this;rw[this];exact hr)]
     ·simpa using g1
     ·intro j hj;unfold back at hj|-
      by_cases h0:j< [i].length
      ·have:j=0:=by simp at h0;exact h0
       subst this;simp at hj
      ·have h0':¬j< [0].length:=by simpa using h0
       rw[if_neg h0']at hj;rw[if_neg h0]
       split at hj
       ·cases hj
       ·rename_i h2;rw[if_neg h2]
    simp only[Ae,Ac,Ag];rw[ga]
    congr 1
    simp[bG,mapO,aF,mapA]
  ·simp at h0
theorem JH{R:Type}{L n:Nat}{hq:H}{k:KA R}(c0:List UInt8)(hn:1<=n)(hc:c0.length<=4294967296):aW env (aA env L n) hq 9 [.d (.ivs c0.length (bK c0))] k=k (.ptr hq.length 0 0) (hq++[O.box [A.d (D.ivs (src c0).length (bK (src c0))),A.d (D.int .i64 0)]]):=by
 have he:=aRP (L:=L) hn c0 hc;unfold aW;have h1:aE aI hq (idsL [A.d (D.ivs c0.length (bK c0))]) []=[]:=rfl;have h2:pack hq []=[]:=rfl;have h3:aF (aJ []) [A.d (D.ivs c0.length (bK c0))]=[A.d (D.ivs c0.length (bK c0))]:=rfl;rw[h1,h2,h3]
 have h4:bS (aA env L n) env.hint [] 9 [A.d (D.ivs c0.length (bK c0))]=some (.ptr 0 0 0,[O.box [A.d (D.ivs (src c0).length (bK (src c0))),A.d (D.int .i64 0)]]):=by
  unfold bS;rw[aOv];have h5:dX ([]:H) [A.d (D.ivs c0.length (bK c0))]=some ([A.d (D.ivs c0.length (bK c0))],[]):=rfl;simp only[h5,he]<;>rfl
 rw[h4];have hcl:closed hq [] (idsL [A.d (D.ivs c0.length (bK c0))])=true:=rfl;simp only[hcl,Ac,Co,and_self,if_true]
 congr 1
structure AutB(B:Nat)(nx:List (List Int))(ac:List Bool):Prop where
 n:nx.length<=B
 a:ac.length<=B
 r:∀r∈nx,r.length<=B
theorem AutB.short{B:Nat}{nx:List (List Int)}{ac:List Bool}(h:AutB B nx ac)(hB:B<=4294967000):aY nx:=⟨by have:=h.n;omega,fun r hr=>by have:=h.r r hr;omega⟩
theorem AutB.mono{B C:Nat}{nx:List (List Int)}{ac:List Bool}(h:AutB B nx ac)(hB:B<=C):AutB C nx ac:=⟨by have:=h.n;omega,by have:=h.a;omega,fun r hr=>by have:=h.r r hr;omega⟩
theorem AutB.at{B:Nat}{nx:List (List Int)}{ac:List Bool}(h:AutB B nx ac)(i:Nat):(nx.getD i []).length<=B:=by
 rw[Aa]
 cases hg:nx[i]? with
 |none=>simp
 |some r=>simpa using h.r r (Bo hg)
theorem aGC{c:List UInt8}(hc:c.length<=2000){B:Nat}(hB:B<=4294966000)(al:Int)(nx:List (List Int))(ac:List Bool)(hb:AutB B nx ac)(h1:1<=nx.length)(p:Int)(hp:0<=p)(hp2:p<=890000000):
  ∃(al2:Int) (nx2:List (List Int)) (ac2:List Bool) (q:Int),AutB (B+13) nx2 ac2/\(1<=nx2.length\/nx2=[]/\ac2=[])/\p<=q/\q<=p+4/\(Dw 4 29 [autD al nx ac] (autD al2 nx2 ac2) c p q):=by
 have hs:=hb.short om;have hn:=hb.n;have hba:=hb.a;obtain⟨k,k0,k1,_,kd1⟩:=d6 hc p nx.length hp om;obtain⟨u,u0,u1,_,kd2⟩:=d6 hc (p+1) 30 om om;have k1:=k1 om;obtain⟨t,rfl⟩:∃t:Nat,k=t:=⟨k.toNat,by omega⟩
 have ht:t<nx.length:=om;have hrt:=hb.at t
 by_cases hu0:u=0
 ·subst hu0;obtain⟨al2,kd⟩:=aNA hc al nx ac hs h1 om p t hp om kd1 kd2;exact⟨al2,nx,ac,_,hb.mono om,.inl h1,by omega,by omega,kd⟩
 by_cases hu1:u=1
 ·subst hu1;refine⟨al,nx,ac++[true],_,⟨by omega,by simp;omega,fun r hr=> ?_⟩,.inl h1,by omega,by omega,aNi hc al nx ac hs h1 om p t kd1 kd2⟩;have:=hb.r r hr;omega
 by_cases hu2:u=2
 ·subst hu2;refine⟨al,_,ac,_,⟨by rw[Bj];omega,by omega,fun r hr=> ?_⟩,.inl (by rw[Bj];exact h1),by omega,by omega,aLa hc al nx ac hs h1 om p t ht om kd1 kd2⟩
  rcases Dr hr with h|h
  ·have:=hb.r r h;omega
  ·rw[h,Af,Ae,Ac];omega
 by_cases hu3:u=3
 ·subst hu3
  by_cases h0:(nx.getD t []).length=0
  ·exact⟨al,nx,ac,_,hb.mono om,.inl h1,by omega,by omega,aNa hc al nx ac hs h1 om p t ht h0 kd1 kd2⟩
  ·obtain⟨v,v0,v1,_,kd4⟩:=d6 hc (p+1+1) (nx.getD t []).length om om;have v1:=v1 om;obtain⟨j,rfl⟩:∃j:Nat,v=j:=⟨v.toNat,by omega⟩
   obtain⟨w,kd⟩:=aK6 hc al nx ac hs h1 om p hp om t ht j om kd1 kd2 kd4;refine⟨al,_,ac,_,⟨by rw[Bj];omega,by omega,fun r hr=> ?_⟩,.inl (by rw[Bj];exact h1),by omega,by omega,kd⟩
   rcases Dr hr with h|h
   ·have:=hb.r r h;omega
   ·rw[h,Bj];omega
 by_cases hu4:u=4
 ·subst hu4;exact⟨al,[],[],_,⟨by simp,by simp,by simp⟩,.inr ⟨rfl,rfl⟩,by omega,by omega,aJH hc al nx ac hs h1 om p t kd1 kd2⟩
 by_cases hu5:u=5
 ·subst hu5;have h0:nx[0]? =some (nx[0]'om):=Ad _;have hr0:=hb.r _ (At (by omega:0<nx.length));refine⟨al,_,_,_,⟨?_,?_,fun r hr=> ?_⟩,.inl (by rw[Af];omega),by omega,by omega,aLp hc al nx ac hs h1 om om p t h0 om (13-nx.length) om kd1 kd2⟩
  ·simp;omega
  ·simp;omega
  ·rcases Am.1 hr with h|h
   ·have:=hb.r r h;omega
   ·obtain⟨_,rfl⟩:=List.mem_replicate.1 h;omega
 exact⟨al,nx,ac,_,hb.mono om,.inl h1,by omega,by omega,aJ4 hc al nx ac hs h1 om p t u hu0 hu1 hu2 hu3 hu4 hu5 kd1 kd2⟩
theorem aMx{c:List UInt8}(hc:c.length<=2000){B:Nat}(hB:B<=4294966000)(al:Int)(nx:List (List Int))(ac:List Bool)(hb:AutB B nx ac)(h1:1<=nx.length)(p:Int)(hp:0<=p)(hp2:p<=890000000):
  ∃(al2:Int) (nx2:List (List Int)) (ac2:List Bool) (q:Int),AutB (B+13) nx2 ac2/\p<=q/\q<=p+4/\(Dw 4 29 [autD al nx ac] (autD al2 nx2 ac2) c p q):=by
 obtain⟨al2,nx2,ac2,q,a,_,b⟩:=aGC hc hB al nx ac hb h1 p hp hp2;exact⟨al2,nx2,ac2,q,a,b⟩
theorem aR9:(env.hint 30).mode=0:=kr
theorem aQP{c:List UInt8}(hc:c.length<=2000)(p:Int)(hp:0<=p)(hp2:p<=900000000):∃(nx:List (List Int)) (ac:List Bool) (q:Int),nx.length=12/\ac.length=12/\(∀r∈nx,r.length=(aB 3).length)/\p<=q/\q<=p+40/\(Dw 3 30 [] (autD 3 nx ac) c p q):=by
 obtain⟨nx,ac,q,g1,g2,g3,g4,g5,he⟩:=aM0 hc p hp hp2;exact⟨nx,ac,q,g1,g2,g3,g4,g5,fun R L n hq k hn hL=>b5 aR9 (by simp[idsL]) (by simp[autD,idsA,idsL]) (he L n hn hL)⟩
theorem AC:(env.hint 11).mode=0:=kr
theorem aBW{c:List UInt8}{p:Int}{al:Int}{nx:List (List Int)}{ac:List Bool}{T3:H}{z:O}(hz:T3[3]? =some z)(t4:T3[4]? =some (.vec (aC 7 nx++aH 0) 1 0))(t5:T3[5]? =some (.arr (aD ac) 1 0))(tr:∀(i:Nat) (r:List Int),nx[i]? =some r->T3[i+6]? =some (.arr (ints r) 1 0)):
  ∃(T7:H) (h2':H),T3.set 3 (.box [nI al,.sl 5 0 0 nx.length,.sl 6 0 0 ac.length])=T7/\T7[3]? =some (.box [nI al,.sl 5 0 0 nx.length,.sl 6 0 0 ac.length])/\oN 1 false (rdO c p::T7) [.agg [nI al,.sl 5 0 0 nx.length,.sl 6 0 0 ac.length]]=some ([autD al nx ac],h2')/\aE 1099511627776 h2' (eP (List.take 1 h2')) [0]=[0]/\List.getD h2' 0 default=rdO c p:=by
 obtain⟨T7,h7⟩:∃T,T3.set 3 (.box [nI al,.sl 5 0 0 nx.length,.sl 6 0 0 ac.length])=T:=⟨_,rfl⟩
 obtain⟨l7,g7,k7⟩:=cC h7 (Au.1 hz).1
 have hv:rd1 (rdO c p::T7) (.sl 5 0 0 nx.length)=some (.ivs nx.length (aG nx)):=by
  refine xD (cs:=aC 7 nx++aH 0) ?_ (HM fun i r hr=> ?_) rfl
  ·rw[Aw,k7 _ om,t4]
  ·rw[show i+7=i+6+1 by omega,Aw,k7 _ om];exact tr i r hr
 have hw:rd1 (rdO c p::T7) (.sl 6 0 0 ac.length)=some (.ivs ac.length (aD ac)):=by
  refine oD ?_ rfl;rw[Aw,k7 _ om,t5]
 obtain⟨h2',a1,a2,a3⟩:=sR (al:=al) hv hw om om;exact⟨T7,h2',h7,g7,a1,a2,a3⟩
theorem aH0{c:List UInt8}(hc:c.length<=2000)(al:Int)(nx:List (List Int))(ac:List Bool)(hs:aY nx)(h1:1<=nx.length)(ha:ac.length<=4294967290)(p u:Int)(t:Nat)(ht:t<nx.length)
  (hcase:u=0/\ac.length<=t\/u=1/\(nx.getD t []).length=0\/u=2/\(12<=nx.length\/ac.length<=t\/(nx.getD t []).length=0)\/¬u=0/\¬u=1/\¬u=2)
  (kd1:(Dw 1 12 [nI (nx.length)] (nI t) c p (p+1)))
  (kd2:(Dw 1 12 [nI 4] (nI u) c (p+1) (p+1+1))):(Dw 4 11 [autD al nx ac] (autD al nx ac) c p (p+1+1)):=by
 intro R L n hq k hn hL;refine b5 AC (by simp[autD,idsA,idsL]) (by simp[autD,idsA,idsL]) ?_;have hnl:=hs.1;have hrl:=mO hs ht;obtain⟨N,T1,T2,T3,w⟩:=kO (.box [nI al,.d (.ivs nx.length (aG nx)),.d (.ivs ac.length (aD ac))]) (.box [nI 0,.sl 2 0 0 0,.sl 3 0 0 0]) al nx ac;have kd3:=fun {R:Type} {n:Nat} {o1:O} {k:KA R} (hn:2<=n)=>mQ (R:=R) (L:=L) (n:=n) (o1:=o1) (al:=al) (k:=k) w.h1 hs h1 om hn hL;obtain⟨hN,hT1,l1,h2,b2,h3,l3,t3,t4,t5,tr,tb,e3,wg⟩:=w;clear e3;clear hT1;have hd7:((aC 7 nx++aH 0).drop t).head? =some (.sl (t+7) 0 0 (nx.getD t []).length):=kA ht;obtain⟨T7,h2',h7,g7,st_out,st_keep,st_trim⟩:=aBW (c:=c) (p:=p+1+1) (al:=al) t3 t4 t5 tr;unfold autD at st_out|-;have hti:(t:Int)<nx.length:=om;have ht0:(0:Int)<=t:=om;have hn0:¬((nx.length:Int)=0):=om;generalize(nx.getD t []).length=rl at *;clear tr h1 wg
 rcases hcase with⟨rfl,hx⟩|⟨rfl,rfl⟩|⟨rfl,hx⟩|⟨u0,u1,u2⟩
 ·have hx2:¬((t:Int)<ac.length):=om;obtain _|n:=n;omega
  simp-implicitDefEqProofs (maxSteps:=9^7) (disch:=try exact Dz) only[↓DN,↓kRet,UP,simprocAttr,↓kd1,↓kd2,↓kd3,l1,h2,b2,h3,t3,tb,hn0,hx2,h7,g7,↓st_out,↓st_keep,↓st_trim,Al,eR,eO,Tryz.f11]
 ·obtain _|n:=n;omega
  simp-implicitDefEqProofs (maxSteps:=9^7) (disch:=try exact Dz) only[↓DN,↓kRet,UP,simprocAttr,↓kd1,↓kd2,↓kd3,l1,h2,b2,h3,t3,t4,tb,hti,ht0,hn0,hd7,h7,g7,↓st_out,↓st_keep,↓st_trim,Al,eR,eO,Tryz.f11]
 ·by_cases hy:(nx.length:Int)<12
  ·by_cases hy2:(t:Int)<ac.length
   ·obtain rfl:rl=0:=om;obtain _|n:=n;omega
    simp-implicitDefEqProofs (maxSteps:=9^7) (disch:=try exact Dz) only[↓DN,↓kRet,UP,simprocAttr,↓kd1,↓kd2,↓kd3,l1,h2,b2,h3,t3,t4,tb,hti,ht0,hn0,hy,hy2,hd7,h7,g7,↓st_out,↓st_keep,↓st_trim,Al,eR,eO,Tryz.f11]
   ·obtain _|n:=n;omega
    simp-implicitDefEqProofs (maxSteps:=9^7) (disch:=try exact Dz) only[↓DN,↓kRet,UP,simprocAttr,↓kd1,↓kd2,↓kd3,l1,h2,b2,h3,t3,tb,hn0,hy,hy2,h7,g7,↓st_out,↓st_keep,↓st_trim,Al,eR,eO,Tryz.f11]
  ·obtain _|n:=n;omega
   simp-implicitDefEqProofs (maxSteps:=9^7) (disch:=try exact Dz) only[↓DN,↓kRet,UP,simprocAttr,↓kd1,↓kd2,↓kd3,l1,h2,b2,h3,t3,tb,hn0,hy,h7,g7,↓st_out,↓st_keep,↓st_trim,Al,eR,eO,Tryz.f11]
 ·obtain _|n:=n;omega
  simp-implicitDefEqProofs (maxSteps:=9^7) (disch:=try exact Dz) only[↓DN,↓kRet,UP,simprocAttr,↓kd1,↓kd2,↓kd3,l1,h2,b2,h3,t3,tb,hn0,u0,u1,u2,h7,g7,↓st_out,↓st_keep,↓st_trim,Al,eR,eO,Tryz.f11]
theorem aLq{c:List UInt8}(hc:c.length<=2000)(al:Int)(nx:List (List Int))(ac:List Bool)(hs:aY nx)(h1:1<=nx.length)(ha:ac.length<=4294967290)(p:Int)(t:Nat)(hta:t<ac.length)
  (kd1:(Dw 1 12 [nI (nx.length)] (nI t) c p (p+1)))
  (kd2:(Dw 1 12 [nI 4] (nI 0) c (p+1) (p+1+1))):(Dw 4 11 [autD al nx ac] (autD al nx (ac.set t (!(ac.getD t false)))) c p (p+1+1)):=by
 intro R L n hq k hn hL;refine b5 AC (by simp[autD,idsA,idsL]) (by simp[autD,idsA,idsL]) ?_;have hnl:=hs.1;obtain⟨N,T1,T2,T3,w⟩:=kO (.box [nI al,.d (.ivs nx.length (aG nx)),.d (.ivs ac.length (aD ac))]) (.box [nI 0,.sl 2 0 0 0,.sl 3 0 0 0]) al nx ac;have kd3:=fun {R:Type} {n:Nat} {o1:O} {k:KA R} (hn:2<=n)=>mQ (R:=R) (L:=L) (n:=n) (o1:=o1) (al:=al) (k:=k) w.h1 hs h1 om hn hL;obtain⟨hN,hT1,l1,h2,b2,h3,l3,t3,t4,t5,tr,tb,e3,wg⟩:=w;clear e3;clear hT1;obtain⟨T4,h4⟩:∃T,T3.set 5 (.arr (aD (ac.set t (!(ac.getD t false)))) 1 0)=T:=⟨_,rfl⟩
 obtain⟨l4,g4,k4⟩:=cC h4 om;have t43:T4[3]? =some (.box [nI 0,.sl 2 0 0 0,.sl 3 0 0 0]):=by rw[k4 _ om,t3]
 have t4b:T4[N+1+1]? =some (.box [nI al,.sl 5 0 0 nx.length,.sl 6 0 0 ac.length]):=by rw[k4 _ om,tb]
 have hset:bI (aD ac) t [.bool (!(ac.getD t false))]=aD (ac.set t (!(ac.getD t false))):=aGR hta
 have st_sto:∀ {call:aX} {thaw:List Nat} {dst:Option Tmp} {x y:Operand},memD env call thaw dst (.store 4 x y) (rdO c (p+1+1)::T3) [.ptr 6 0 t,.d (.bool (!(ac.getD t false)))]=some (.d .undef,rdO c (p+1+1)::T4,{ ids:=[6],ro:=false,wr:=[6]}):=by
  intro call thaw dst x y;rw[NL kr kr rfl (h:=rdO c (p+1+1)::T3) (id:=6) (cs:=aD ac) (esz:=1) t5 (by rw[cL];omega)];rw[Bq,hset,h4]
 have hl2:(ac.set t (!(ac.getD t false))).length=ac.length:=sm;obtain⟨T7,h2',h7,g7,st_out,st_keep,st_trim⟩:=aBW (c:=c) (p:=p+1+1) (al:=al) (nx:=nx) (ac:=ac.set t (!(ac.getD t false))) t43 (by rw[k4 _ om,t4]) g4 (fun i r hr=>by rw[k4 _ om];exact tr i r hr);unfold autD at st_out|-;rw[hl2]at st_out h7 g7|-;have hbh:=F6 hta;have hti:(t:Int)<ac.length:=om;have ht0:(0:Int)<=t:=om;have hn0:¬((nx.length:Int)=0):=om;clear tr h1 wg k4 l4 hset hta;obtain _|n:=n;omega
 simp-implicitDefEqProofs (maxSteps:=9^7) (disch:=try exact Dz) only[↓DN,↓kRet,UP,simprocAttr,↓kd1,↓kd2,↓kd3,l1,h2,b2,h3,t5,tb,hti,ht0,hn0,hbh,↓st_sto,t4b,t43,h7,g7,↓st_out,↓st_keep,↓st_trim,Al,eR,eO,Tryz.f11]
theorem aJN{c:List UInt8}(hc:c.length<=2000)(al:Int)(nx:List (List Int))(ac:List Bool)(hs:aY nx)(h1:1<=nx.length)(ha:ac.length<=4294967290)(p v:Int)(t j:Nat)(ht:t<nx.length)(hj:j<(nx.getD t []).length)
  (kd1:(Dw 1 12 [nI (nx.length)] (nI t) c p (p+1)))
  (kd2:(Dw 1 12 [nI 4] (nI 1) c (p+1) (p+1+1)))
  (kd4:(Dw 1 12 [nI ((nx.getD t []).length:Int)] (nI j) c (p+1+1) (p+1+1+1)))
  (kd5:(Dw 1 12 [nI (nx.length)] (nI v) c (p+1+1+1) (p+1+1+1+1))):(Dw 4 11 [autD al nx ac] (autD al (nx.set t ((nx.getD t []).set j v)) ac) c p (p+1+1+1+1)):=by
 intro R L n hq k hn hL;refine b5 AC (by simp[autD,idsA,idsL]) (by simp[autD,idsA,idsL]) ?_;have hnl:=hs.1;obtain⟨N,T1,T2,T3,w⟩:=kO (.box [nI al,.d (.ivs nx.length (aG nx)),.d (.ivs ac.length (aD ac))]) (.box [nI 0,.sl 2 0 0 0,.sl 3 0 0 0]) al nx ac;have kd3:=fun {R:Type} {n:Nat} {o1:O} {k:KA R} (hn:2<=n)=>mQ (R:=R) (L:=L) (n:=n) (o1:=o1) (al:=al) (k:=k) w.h1 hs h1 om hn hL;obtain⟨hN,hT1,l1,h2,b2,h3,l3,t3,t4,t5,tr,tb,e3,wg⟩:=w;clear e3;clear hT1;have hrow:nx[t]? =some (nx.getD t []):=by rw[Aa,Ad ht];rfl
 have hrl:=mO hs ht;generalize hrw:nx.getD t []=row at *;have hd7:((aC 7 nx++aH 0).drop t).head? =some (.sl (t+7) 0 0 row.length):=by rw[kA ht,hrw]
 have t3r:T3[t+6]? =some (.arr (ints row) 1 0):=tr _ _ hrow;obtain⟨T4,h4⟩:∃T,T3.set (t+6) (.arr (ints (row.set j v)) 1 0)=T:=⟨_,rfl⟩
 obtain⟨l4,g4,k4⟩:=cC h4 om;have t43:T4[3]? =some (.box [nI 0,.sl 2 0 0 0,.sl 3 0 0 0]):=by rw[k4 _ om,t3]
 have t4b:T4[N+1+1]? =some (.box [nI al,.sl 5 0 0 nx.length,.sl 6 0 0 ac.length]):=by rw[k4 _ om,tb]
 have hset:bI (ints row) j [.int .i64 v]=ints (row.set j v):=by
  unfold bI;exact aCi hj
 have st_sto:∀ {call:aX} {thaw:List Nat} {dst:Option Tmp} {x y:Operand},memD env call thaw dst (.store 3 x y) (rdO c (p+1+1+1+1)::T3) [.ptr (t+7) 0 j,nI v]=some (.d .undef,rdO c (p+1+1+1+1)::T4,{ ids:=[t+7],ro:=false,wr:=[t+7]}):=by
  intro call thaw dst x y;rw[NL kr kr rfl (h:=rdO c (p+1+1+1+1)::T3) (id:=t+7) (cs:=ints row) (esz:=1) (by rw[show t+7=t+6+1 by omega,Aw];exact t3r) (by simp[ints];omega)];rw[show t+7=t+6+1 by omega,Bq,hset,h4]
 have hrefs:aC 7 (nx.set t (row.set j v))=aC 7 nx:=DP (by rw[hrw];simp);have hlen:(nx.set t (row.set j v)).length=nx.length:=sm
 obtain⟨T7,h2',h7,g7,st_out,st_keep,st_trim⟩:=aBW (c:=c) (p:=p+1+1+1+1) (al:=al) (nx:=nx.set t (row.set j v)) (ac:=ac) t43 (by rw[hrefs,k4 _ om,t4]) (by rw[k4 _ om,t5]) (fun i r hr=>by
  rw[Cj]at hr
  by_cases e:t=i
  ·subst e;rw[if_pos rfl,if_pos ht]at hr;cases hr;exact g4
  ·rw[if_neg e]at hr;rw[k4 _ om];exact tr i r hr)
 unfold autD at st_out|-;rw[hlen]at st_out h7 g7|-;have hti:(t:Int)<nx.length:=om;have ht0:(0:Int)<=t:=om;have hn0:¬((nx.length:Int)=0):=om;have hji:(j:Int)<row.length:=om;have hj0:(0:Int)<=j:=om;have hr0:(0:Int)<row.length:=om;clear tr h1 wg k4 l4 hset hrow hrefs;obtain _|n:=n;omega
 simp-implicitDefEqProofs (maxSteps:=9^7) (disch:=try exact Dz) only[↓DN,↓kRet,UP,simprocAttr,↓kd1,↓kd2,↓kd3,↓kd4,↓kd5,l1,h2,b2,h3,l3,t4,tb,t3r,hti,ht0,hn0,hji,hj0,hr0,hd7,↓st_sto,t4b,t43,h7,g7,↓st_out,↓st_keep,↓st_trim,Bh,Al,eR,eO,Tryz.f11]
end Ev
end Go.Proofs.YtppffbehejpglaaGreat
