/-
  A function that draws, with its source at any aH in memory; the source opened beside other things.
-/
import Derived.Test.YtahbdkmimmnadaaGreatDoorDrawT
import Derived.Test.YtahbdkmimmnadaaGreatDoorWrongC
import Derived.Test.YtahbdkmimmnadaaGreatDoorShRn
import Derived.Test.YtahbdkmimmnadaaGreatDoorOpq
set_option linter.unusedSimpArgs false
set_option linter.unusedVariables false
set_option maxRecDepth 8000
set_option maxHeartbeats 4000000
namespace Go.Proofs.YtahbdkmimmnadaaGreatDoor
namespace Ev
mutual
theorem aDi{f g:Nat->Option Nat}(hfg:∀k,f k=none->g k=none):∀a:A,idsA (mapA f a)=[]->mapA g a=mapA f a
 |.d x,_=>by simp only[mapA]
 |.sl id gen off len,h=>by
  simp only[mapA]at h|-
  cases hf:f id with
  |none=>rw[hfg id hf]
  |some m=>rw[hf]at h;simp[idsA]at h
 |.ptr id gen off,h=>by
  simp only[mapA]at h|-
  cases hf:f id with
  |none=>rw[hfg id hf]
  |some m=>rw[hf]at h;simp[idsA]at h
 |.mp id,h=>by
  simp only[mapA]at h|-
  cases hf:f id with
  |none=>rw[hfg id hf]
  |some m=>rw[hf]at h;simp[idsA]at h
 |.clo c caps,h=>by simp only[mapA,idsA]at h|-;rw[D5 hfg caps h]
 |.agg cs,h=>by simp only[mapA,idsA]at h|-;rw[D5 hfg cs h]
 |.tup cs,h=>by simp only[mapA,idsA]at h|-;rw[D5 hfg cs h]
 |.junk,_=>by simp only[mapA]
theorem D5{f g:Nat->Option Nat}(hfg:∀k,f k=none->g k=none):∀l:List A,idsL (aE f l)=[]->aE g l=aE f l
 | [],_=>by simp only[aE]
 |a::l,h=>by
  simp only[aE,idsL,List.append_eq_nil_iff]at h;simp only[aE];rw[aDi hfg a h.1,D5 hfg l h.2]
end
theorem aLR{f:Nat->Option Nat}{a:A}{x:D}(h:mapA f a=.d x):a=.d x:=by
 cases a with
 |d y=>simpa [mapA]using h
 |sl id gen off len=>simp only[mapA]at h;split at h<;>cases h
 |ptr id gen off=>simp only[mapA]at h;split at h<;>cases h
 |mp id=>simp only[mapA]at h;split at h<;>cases h
 |clo c caps=>simp[mapA]at h
 |agg cs=>simp[mapA]at h
 |tup cs=>simp[mapA]at h
 |junk=>simp[mapA]at h
theorem aOG{f:Nat->Option Nat}{o:O}{c:List UInt8}{q:Int}(h:mapO f o=rdO c q):o=rdO c q:=by
 cases o with
 |box cs=>
  simp only[mapO,O.box.injEq]at h
  match cs,h with
  | [a,b],h=>
   simp only[aE,List.cons.injEq,and_true]at h;rw[aLR h.1,aLR h.2]
  | [],h=>simp[aE]at h
  | [_],h=>simp[aE]at h
  |_::_::_::_,h=>simp[aE]at h
 |_=>simp[mapO]at h
theorem S0{L n m:Nat}{f:FuncId}{args:List A}{c:List UInt8}{p q:Int}{r:A}(ha:idsL args=[])(hr:idsA r=[])
  (kd:∀(R:Type) (L n:Nat) (hq:H) (k:KA R),m<=n->2^60<=L->aU env (aA env L n) (rdO c p::hq) f (.ptr 0 0 0::args) k=k r (rdO c q::hq))
  {R:Type} {hq:H} {k:KA R} {i:Nat} (hn:m<=n) (hL:2^60<=L) (hi:hq[i]? =some (rdO c p)):
  aU env (aA env L n) hq f (.ptr i 0 0::args) k=k r (hq.set i (rdO c q)):=by
 have h0:=kd (A×H) L n [] (fun a h=>some (a,h)) hn hL;generalize aA env L n=call at h0|-;have hid:∀j,idsL (A.ptr j 0 0::args)=[j]:=fun j=>by simp[idsL,idsA,ha]
 have hre:∀(h:H) (j:Nat),h[j]? =some (rdO c p)->aC aD h [j] []=[j]:=by
  intro h j hj
  have e1:aC aD h [j] []=match h[j]? with
   |some (.box cs)=>aC (aD-1) h ([]++idsL cs) ([]++[j])
   |some (.vec cs _ _)=>aC (aD-1) h ([]++idsL cs) ([]++[j])
   |some .void=>aC (aD-1) h [] []
   |some _=>aC (aD-1) h [] ([]++[j])
   |none=>aC (aD-1) h [] []:=rfl
  rw[e1,hj];rfl
 have hpk:∀(h:H) (j:Nat),h[j]? =some (rdO c p)->pack h [j]=[rdO c p]:=by
  intro h j hj;simp only[pack,Ag,Ak,Ab,hj]<;>rfl
 have hma:∀j,aE (aH [j]) (A.ptr j 0 0::args)=A.ptr 0 0 0::args:=by
  intro j;simp only[aE,gG _ ha];simp[mapA,aH]
 have hcl:∀(h:H) (j:Nat),h[j]? =some (rdO c p)->closed h [j] [j]=true:=by
  intro h j hj;simp only[closed,Bt,Ce,hj];simp[idsL,idsA]
 unfold aU at h0|-;rw[hid,hre hq i hi,hpk hq i hi,hma];rw[hid,hre [rdO c p] 0 rfl,hpk [rdO c p] 0 rfl,hma]at h0
 cases hc:bJ call env.hint [rdO c p] f (A.ptr 0 0 0::args)with
 |none=>rw[hc]at h0;simp at h0
 |some y=>
  obtain⟨a,h1⟩:=y;rw[hc]at h0;simp only[hcl [rdO c p] 0 rfl,hcl hq i hi,and_true,Ac,Aa]at h0|-
  split at h0
  ·rename_i hlen
   rw[if_pos hlen];simp only[Option.some.injEq,Prod.mk.injEq]at h0;obtain⟨g1,g2⟩:=h0
   match h1,hlen,g1,g2 with
   |o::rest,hlen,g1,g2=>
    simp only[bA,Ci,At,Am,List.cons.injEq,List.map_eq_nil_iff]at g2;obtain⟨g2,rfl⟩:=g2;have ho:=aOG g2;subst ho
    have ga:mapA (back [i] hq.length 1) a=r:=by
     rw[aDi (f:=back [0] 1 1) (g:=back [i] hq.length 1) ?_ a (by have:=g1;simp only[Ac,Aa,Af]at this;rw[this];exact hr)]
     ·simpa using g1
     ·intro j hj;unfold back at hj|-
      by_cases h0:j< [i].length
      ·have:j=0:=by simp at h0;exact h0
       subst this;simp at hj
      ·have h0':¬j< [0].length:=by simpa using h0
       rw[if_neg h0']at hj;rw[if_neg h0]
       split at hj
       ·cases hj
       ·rename_i h2;rw[if_neg h2]
    simp only[Ac,Aa,Af];rw[ga]
    congr 1
    simp[bA,mapO,aE,mapA]
  ·simp at h0
theorem aEI{R:Type}{L n:Nat}{hq:H}{k:KA R}(c0:List UInt8)(hn:1<=n)(hc:c0.length<=4294967296):aU env (aA env L n) hq 70 [.d (.ivs c0.length (bE c0))] k=k (.ptr hq.length 0 0) (hq++[O.box [A.d (D.ivs (src c0).length (bE (src c0))),A.d (D.int .i64 0)]]):=by
 have he:=aOa (L:=L) hn c0 hc;unfold aU;have h1:aC aD hq (idsL [A.d (D.ivs c0.length (bE c0))]) []=[]:=rfl;have h2:pack hq []=[]:=rfl;have h3:aE (aH []) [A.d (D.ivs c0.length (bE c0))]=[A.d (D.ivs c0.length (bE c0))]:=rfl;rw[h1,h2,h3]
 have h4:bJ (aA env L n) env.hint [] 70 [A.d (D.ivs c0.length (bE c0))]=some (.ptr 0 0 0,[O.box [A.d (D.ivs (src c0).length (bE (src c0))),A.d (D.int .i64 0)]]):=by
  unfold bJ;rw[aJ4];have h5:fA ([]:H) [A.d (D.ivs c0.length (bE c0))]=some ([A.d (D.ivs c0.length (bE c0))],[]):=rfl;simp only[h5,he]<;>rfl
 rw[h4];have hcl:closed hq [] (idsL [A.d (D.ivs c0.length (bE c0))])=true:=rfl;simp only[hcl,Aa,Ck,and_self,if_true]
 congr 1
structure AutB(B:Nat)(nx:List (List Int))(ac:List Bool):Prop where
 n:nx.length<=B
 a:ac.length<=B
 r:∀r∈nx,r.length<=B
theorem AutB.short{B:Nat}{nx:List (List Int)}{ac:List Bool}(h:AutB B nx ac)(hB:B<=4294967000):bD nx:=⟨by have:=h.n;omega,fun r hr=>by have:=h.r r hr;omega⟩
theorem AutB.mono{B C:Nat}{nx:List (List Int)}{ac:List Bool}(h:AutB B nx ac)(hB:B<=C):AutB C nx ac:=⟨by have:=h.n;omega,by have:=h.a;omega,fun r hr=>by have:=h.r r hr;omega⟩
theorem AutB.at{B:Nat}{nx:List (List Int)}{ac:List Bool}(h:AutB B nx ac)(i:Nat):(nx.getD i []).length<=B:=by
 rw[Ab]
 cases hg:nx[i]? with
 |none=>simp
 |some r=>simpa using h.r r (Bp hg)
theorem aJ5{c:List UInt8}(hc:c.length<=2000){B:Nat}(hB:B<=4294966000)(al:Int)(nx:List (List Int))(ac:List Bool)(hb:AutB B nx ac)(h1:1<=nx.length)(p:Int)(hp:0<=p)(hp2:p<=890000000):
  ∃(al2:Int) (nx2:List (List Int)) (ac2:List Bool) (q:Int),AutB (B+13) nx2 ac2/\(1<=nx2.length\/nx2=[]/\ac2=[])/\p<=q/\q<=p+4/\(Dw 4 134 [autD al nx ac] (autD al2 nx2 ac2) c p q):=by
 have hs:=hb.short om;have hn:=hb.n;have hba:=hb.a;obtain⟨k,k0,k1,_,kd1⟩:=bN hc p nx.length hp om;obtain⟨u,u0,u1,_,kd2⟩:=bN hc (p+1) 30 om om;have k1:=k1 om;obtain⟨t,rfl⟩:∃t:Nat,k=t:=⟨k.toNat,by omega⟩
 have ht:t<nx.length:=om;have hrt:=hb.at t
 by_cases hu0:u=0
 ·subst hu0;obtain⟨al2,kd⟩:=aJc hc al nx ac hs h1 om p t hp om kd1 kd2;exact⟨al2,nx,ac,_,hb.mono om,.inl h1,by omega,by omega,kd⟩
 by_cases hu1:u=1
 ·subst hu1;refine⟨al,nx,ac++[true],_,⟨by omega,by simp;omega,fun r hr=> ?_⟩,.inl h1,by omega,by omega,aJe hc al nx ac hs h1 om p t kd1 kd2⟩;have:=hb.r r hr;omega
 by_cases hu2:u=2
 ·subst hu2;refine⟨al,_,ac,_,⟨by rw[Be];omega,by omega,fun r hr=> ?_⟩,.inl (by rw[Be];exact h1),by omega,by omega,aHl hc al nx ac hs h1 om p t ht om kd1 kd2⟩
  rcases Dd hr with h|h
  ·have:=hb.r r h;omega
  ·rw[h,Ah,Ac,Aa];omega
 by_cases hu3:u=3
 ·subst hu3
  by_cases h0:(nx.getD t []).length=0
  ·exact⟨al,nx,ac,_,hb.mono om,.inl h1,by omega,by omega,aI8 hc al nx ac hs h1 om p t ht h0 kd1 kd2⟩
  ·obtain⟨v,v0,v1,_,kd4⟩:=bN hc (p+1+1) (nx.getD t []).length om om;have v1:=v1 om;obtain⟨j,rfl⟩:∃j:Nat,v=j:=⟨v.toNat,by omega⟩
   obtain⟨w,kd⟩:=aHz hc al nx ac hs h1 om p hp om t ht j om kd1 kd2 kd4;refine⟨al,_,ac,_,⟨by rw[Be];omega,by omega,fun r hr=> ?_⟩,.inl (by rw[Be];exact h1),by omega,by omega,kd⟩
   rcases Dd hr with h|h
   ·have:=hb.r r h;omega
   ·rw[h,Be];omega
 by_cases hu4:u=4
 ·subst hu4;exact⟨al,[],[],_,⟨by simp,by simp,by simp⟩,.inr ⟨rfl,rfl⟩,by omega,by omega,aGV hc al nx ac hs h1 om p t kd1 kd2⟩
 by_cases hu5:u=5
 ·subst hu5;have h0:nx[0]? =some (nx[0]'om):=Ae _;have hr0:=hb.r _ (Bd (by omega:0<nx.length));refine⟨al,_,_,_,⟨?_,?_,fun r hr=> ?_⟩,.inl (by rw[Ah];omega),by omega,by omega,aHg hc al nx ac hs h1 om om p t h0 om (13-nx.length) om kd1 kd2⟩
  ·simp;omega
  ·simp;omega
  ·rcases Aq.1 hr with h|h
   ·have:=hb.r r h;omega
   ·obtain⟨_,rfl⟩:=List.mem_replicate.1 h;omega
 exact⟨al,nx,ac,_,hb.mono om,.inl h1,by omega,by omega,aER hc al nx ac hs h1 om p t u hu0 hu1 hu2 hu3 hu4 hu5 kd1 kd2⟩
theorem aI3{c:List UInt8}(hc:c.length<=2000){B:Nat}(hB:B<=4294966000)(al:Int)(nx:List (List Int))(ac:List Bool)(hb:AutB B nx ac)(h1:1<=nx.length)(p:Int)(hp:0<=p)(hp2:p<=890000000):
  ∃(al2:Int) (nx2:List (List Int)) (ac2:List Bool) (q:Int),AutB (B+13) nx2 ac2/\p<=q/\q<=p+4/\(Dw 4 134 [autD al nx ac] (autD al2 nx2 ac2) c p q):=by
 obtain⟨al2,nx2,ac2,q,a,_,b⟩:=aJ5 hc hB al nx ac hb h1 p hp hp2;exact⟨al2,nx2,ac2,q,a,b⟩
theorem aLm:(env.hint 194).mode=0:=kr
theorem EA{c:List UInt8}(hc:c.length<=2000)(p:Int)(hp:0<=p)(hp2:p<=500000000):∃(al st:Int) (es:List Edge) (q:Int),es.length<=60000/\p<=q/\q<=p+70000/\(Dw 5 194 [] (.agg [nI al,nI st,.d (.ivs es.length (aJ es))]) c p q):=by
 obtain⟨al,h1,kd1⟩:=gQ hc [3,6,7,5,2] sm sm p hp om;obtain⟨st,h2,kd2⟩:=gQ hc [2,3,1,3] sm sm (p+1) om om;obtain⟨few,h3,kd3⟩:=gQ hc [2,3,4] sm sm (p+1+1) om om;have hst:0<=st/\st<=100:=by simp at h2;omega
 obtain⟨es,q,g1,g2,g3,kd4⟩:=UW hc al st few hst.1 hst.2 (p+1+1+1) om om;simp only[ints,Ag,Ak,Ac,Aa,Af,Nat.reduceAdd]at kd1 kd2 kd3;refine⟨al,st,es,q,g1,by omega,by omega,fun R L n hq k hn hL=>aS aLm rfl rfl ?_⟩;obtain _|n:=n;omega
 simp-implicitDefEqProofs (maxSteps:=9^7) (disch:=try exact Dz) only[↓DN,↓kRet,UP,simprocAttr,↓kd1,↓kd2,↓kd3,↓kd4,aFZ,U7,Tryz.f194]
theorem XU{l:List Sys}{a b:Int}{es:List Edge}:sysD l++[.int .i64 a,.int .i64 b,.ivs es.length (aJ es)]=sysD (l++[⟨a,b,es⟩]):=by
 induction l with
 |nil=>rfl
 |cons s l ih=>simp only[sysD,At,ih]
def SysB(B:Nat)(P:List Sys):Prop:=∀s∈P,s.es.length<=B
theorem SysB.snoc{B:Nat}{P:List Sys}(h:SysB B P){s:Sys}(hs:s.es.length<=B):SysB B (P++[s]):=by
 intro x hx
 rcases Aq.1 hx with h1|h1
 ·exact h x h1
 ·rw[Cc]at h1;rw[h1];exact hs
theorem aBu{c:List UInt8}(hc:c.length<=2000):∀(j:Nat) (i p:Int) (P:List Sys) (len:Nat) (hi:i=j) (hj:P.length+j<=4) (hlen:len=P.length) (hs:SysB 60000 P) (hp:0<=p) (hp2:p+j*150000<=400000000),
  ∃(P2:List Sys) (q:Int),P2.length=P.length+j/\SysB 60000 P2/\p<=q/\q<=p+j*150000/\∀(R:Type) (L n m:Nat) (k:KE R),15<=n->2^60<=L->j<m->
  aV env (aA env L n) L 1 [] Bz52 (JR 0) (Z1 (U1 (Z2 (Z1 (U16 (U4 (U1 ([])))))))) m (.ptr 0 0 0::Y1 (.d .nils::.sl 1 0 0 len::nI i::Y16 (Y4 (Y1 ([]))))) [rdO c p,.arr (sysD P) 3 0] k
  =k (.exit 0) (.ptr 0 0 0::Y1 (.d .nils::.sl 1 0 0 P2.length::nI 0::Y16 (Y4 (Y1 ([]))))) [rdO c q,.arr (sysD P2) 3 0]:=by
 intro j
 induction j with
 |zero=>
  intro i p P len hi hj hlen hs hp hp2;subst hlen;obtain rfl:i=0:=om;refine⟨P,p,by omega,hs,by omega,by omega,fun R L n m k hn hL hm=> ?_⟩;obtain _|m:=m;omega
  simp-implicitDefEqProofs (maxSteps:=9^7) (disch:=try exact Dz) only[↓DN,↓kRet,UP,simprocAttr,Al,yB,xR,Tryz.f132]
 |succ j ih=>
  intro i p P len hi hj hlen hs hp hp2;subst hlen;have hlt:0<i:=om;obtain⟨al,st,es,q1,a1,a2,a3,kd1⟩:=EA hc p hp om;obtain⟨v,v0,v1,_,kd2⟩:=bN hc q1 3 om om
  by_cases hv:v=0
  ·obtain⟨al2,st2,es2,q2,b1,b2,b3,kd3⟩:=H9 hc (q1+1) om om;obtain⟨P2,q,g1,g2,g3,g4,kd4⟩:=ih (i-1) q2 (P++[⟨al2,st2,es2⟩]) (P.length+1) om (by simp;omega) sm (hs.snoc b1) om om;refine⟨P2,q,by simp at g1;omega,g2,by omega,by omega,fun R L n m k hn hL hm=> ?_⟩;obtain _|m:=m;omega
   simp-implicitDefEqProofs (maxSteps:=9^7) (disch:=try exact Dz) only[↓DN,↓kRet,UP,simprocAttr,NE,hlt,↓kd1,↓kd2,hv,↓kd3,XU,↓kd4,yB,xR,Tryz.f132]
  ·obtain⟨P2,q,g1,g2,g3,g4,kd4⟩:=ih (i-1) (q1+1) (P++[⟨al,st,es⟩]) (P.length+1) om (by simp;omega) sm (hs.snoc a1) om om;refine⟨P2,q,by simp at g1;omega,g2,by omega,by omega,fun R L n m k hn hL hm=> ?_⟩;obtain _|m:=m;omega
   simp-implicitDefEqProofs (maxSteps:=9^7) (disch:=try exact Dz) only[↓DN,↓kRet,UP,simprocAttr,NE,hlt,↓kd1,↓kd2,hv,XU,↓kd4,yB,xR,Tryz.f132]
theorem aL3:(env.hint 132).mode=0:=kr
theorem aKU{c:List UInt8}(hc:c.length<=2000)(p:Int)(hp:0<=p)(hp2:p<=300000000):∃(P:List Sys) (q:Int),1<=P.length/\P.length<=3/\SysB 60000 P/\p<=q/\q<=p+600000/\∀(L n:Nat),16<=n->2^60<=L->aA env L n 132 [.ptr 0 0 0] [rdO c p]=some (.sl 1 0 0 P.length,[rdO c q,.arr (sysD P) 3 0]):=by
 obtain⟨v,hv,kd1⟩:=gQ hc [2,2,3,1] sm sm p hp om;have hv1:1<=v/\v<=3:=by simp at hv;omega
 obtain⟨P,q,g1,g2,g3,g4,kd2⟩:=aBu hc v.toNat v (p+1) [] 0 om (by simp;omega) rfl (fun s hs=>by cases hs) om om;simp only[ints,Ag,Ak,Ac,Aa,Af,Nat.reduceAdd]at kd1;simp only[WU]at kd2;simp only[Aa,Af]at g1;refine⟨P,q,by omega,by omega,g2,by omega,by omega,fun L n hn hL=> ?_⟩;obtain _|n:=n;omega
 simp-implicitDefEqProofs (maxSteps:=9^7) (disch:=try exact Dz) only[↓DN,↓kAsg,↓kRet,UP,simprocAttr,↓kd1,↓kd2,aHZ,aA4,Tryz.f132]
theorem xN:(env.hint 133).mode=0:=kr
theorem aC1{c:List UInt8}(hc:c.length<=2000)(al:Int)(p:Int)(hp:0<=p)(hp2:p<=800000000):
  (∃(w:Int) (u:Int) (nx:List (List Int)) (ac:List Bool) (q:Int),0<w/\AutB 10 nx ac/\1<=nx.length/\p<=q/\q<=p+90/\(Dw 1 72 [nI 4] (nI w) c p (p+1))/\(∀(R:Type) (L n id:Nat) (hq:H) (k:KA R),2<=n->2^60<=L->hq[id]? =some (.arr [.int .i64 3,.int .i64 2,.int .i64 4,.int .i64 1] 1 0)->aU env (aA env L n) (rdO c (p+1)::hq) 74 [.ptr 0 0 0,.sl (id+1) 0 0 4] k=k (nI u) (rdO c (p+1+1)::hq))/\(Dw 4 196 [nI al,nI u] (autD al nx ac) c (p+1+1) q))
  \/(∃(nx:List (List Int)) (ac:List Bool) (q:Int),AutB 10 nx ac/\1<=nx.length/\p<=q/\q<=p+90/\(Dw 1 72 [nI 4] (nI 0) c p (p+1))/\(Dw 6 197 [nI al] (autD al nx ac) c (p+1) q)):=by
 obtain⟨w,w0,w1,_,kd1⟩:=bN hc p 4 hp om
 by_cases hw:0<w
 ·left;obtain⟨u,hu,kd2⟩:=gQ hc [3,2,4,1] sm sm (p+1) om om;have hu1:1<=u/\u<=4:=by simp at hu;omega
  obtain⟨nx,ac,q,g1,g2,g3,g4,g5,he⟩:=VB hc al u (s:=u.toNat) om om om (p+1+1) om om;simp only[ints,Ag,Ak,Ac,Aa,Af,Nat.reduceAdd]at kd2;exact⟨w,u,nx,ac,q,hw,⟨by omega,by omega,fun r hr=>by have:=g3 r hr;have:=dF al;omega⟩,by omega,by omega,by omega,kd1,kd2,fun R L n hq k hn hL=>aS aGZ (by simp[idsL,idsA]) (by simp[autD,idsA,idsL]) (he L n hn hL)⟩
 ·right;obtain rfl:w=0:=om;obtain⟨nx,ac,q,g1,g2,g3,g4,g5,g6,kd2⟩:=aLG hc al (p+1) om om;exact⟨nx,ac,q,⟨by omega,by omega,fun r hr=>by have:=g4 r hr;have:=dF al;omega⟩,by omega,by omega,by omega,kd1,kd2⟩
theorem oX{c:List UInt8}(hc:c.length<=2000)(a:Int)(p:Int)(hp:0<=p)(hp2:p<=700000000):
  ∃(al:Int) (nx:List (List Int)) (ac:List Bool) (q:Int),AutB 10 nx ac/\1<=nx.length/\p<=q/\q<=p+100/\(Dw 7 133 [nI a] (autD al nx ac) c p q):=by
 obtain⟨v,_,kd1⟩:=gQ hc [63,63,5,3,6] sm sm p hp om;obtain⟨t,_,_,_,kd2⟩:=bN hc (p+1) 8 om om;simp only[ints,Ag,Ak,Ac,Aa,Af,Nat.reduceAdd]at kd1
 by_cases ht:t=0
 ·obtain⟨al,_,kd3⟩:=aK5 hc (p+1+1) om om
  rcases aC1 hc al (p+1+1+1) om om with⟨w,u,nx,ac,q,hw,hb,h1,h2,h3,kd4,kd5,kd6⟩|⟨nx,ac,q,hb,h1,h2,h3,kd4,kd5⟩
  ·refine⟨al,nx,ac,q,hb,h1,by omega,by omega,fun R L n hq k hn hL=>aS xN (by simp[idsL,idsA]) (by simp[autD,idsA,idsL]) ?_⟩;unfold autD at kd6|-;clear hb;obtain _|n:=n;omega
   simp-implicitDefEqProofs (maxSteps:=9^7) (disch:=try exact Dz) only[↓DN,↓kRet,UP,simprocAttr,↓kd1,↓kd2,ht,↓kd3,↓kd4,hw,↓kd5,↓kd6,qB,nF,Tryz.f133]
  ·refine⟨al,nx,ac,q,hb,h1,by omega,by omega,fun R L n hq k hn hL=>aS xN (by simp[idsL,idsA]) (by simp[autD,idsA,idsL]) ?_⟩;unfold autD at kd5|-;clear hb;obtain _|n:=n;omega
   simp-implicitDefEqProofs (maxSteps:=9^7) (disch:=try exact Dz) only[↓DN,↓kRet,UP,simprocAttr,↓kd1,↓kd2,ht,↓kd3,↓kd4,↓kd5,qB,nF,Tryz.f133]
 ·rcases aC1 hc (iAnd .i64 a v) (p+1+1) om om with⟨w,u,nx,ac,q,hw,hb,h1,h2,h3,kd4,kd5,kd6⟩|⟨nx,ac,q,hb,h1,h2,h3,kd4,kd5⟩
  ·refine⟨iAnd .i64 a v,nx,ac,q,hb,h1,by omega,by omega,fun R L n hq k hn hL=>aS xN (by simp[idsL,idsA]) (by simp[autD,idsA,idsL]) ?_⟩;unfold autD at kd6|-;clear hb;obtain _|n:=n;omega
   simp-implicitDefEqProofs (maxSteps:=9^7) (disch:=try exact Dz) only[↓DN,↓kRet,UP,simprocAttr,↓kd1,↓kd2,ht,↓kd4,hw,↓kd5,↓kd6,qB,nF,Tryz.f133]
  ·refine⟨iAnd .i64 a v,nx,ac,q,hb,h1,by omega,by omega,fun R L n hq k hn hL=>aS xN (by simp[idsL,idsA]) (by simp[autD,idsA,idsL]) ?_⟩;unfold autD at kd5|-;clear hb;obtain _|n:=n;omega
   simp-implicitDefEqProofs (maxSteps:=9^7) (disch:=try exact Dz) only[↓DN,↓kRet,UP,simprocAttr,↓kd1,↓kd2,ht,↓kd4,↓kd5,qB,nF,Tryz.f133]
theorem SysB.mono{B C:Nat}{P:List Sys}(h:SysB B P)(hB:B<=C):SysB C P:=fun s hs=>Bf (h s hs) hB
theorem SysB.at{B:Nat}{P:List Sys}(h:SysB B P){i:Nat}(hi:i<P.length):(P.getD i default).es.length<=B:=h _ (by rw[Ab,Ae hi];exact Bd hi)
theorem aAD{c:List UInt8}(hc:c.length<=2000):∀(j:Nat) (p:Int) (P:List Sys) (g len:Nat) (hj:P.length+j=4) (hlen:len=P.length) (hs:SysB 60000 P) (hp:0<=p) (hp2:p+j*70000<=400000000),
  ∃(P2:List Sys) (q:Int),P2.length=4/\SysB 60000 P2/\p<=q/\q<=p+j*70000/\∀(R:Type) (L n m:Nat) (k:KE R),6<=n->2^60<=L->j<m->
  aV env (aA env L n) L 2 [] Bz53 (GD 0) (Z2 (U2 (Z1 (U16 (U8 (U4 (U1 ([])))))))) m (.ptr 0 0 0::.sl 1 g 0 len::Y2 (.d .nils::Y16 (Y8 (Y4 (Y1 ([])))))) [rdO c p,.arr (sysD P) 3 g] k
  =k (.exit 1) (.ptr 0 0 0::.sl 1 (g+j) 0 4::Y2 (.d .nils::Y16 (Y8 (Y4 (Y1 ([])))))) [rdO c q,.arr (sysD P2) 3 (g+j)]:=by
 intro j
 induction j with
 |zero=>
  intro p P g len hj hlen hs hp hp2;obtain rfl:len=4:=om;refine⟨P,p,by omega,hs,by omega,by omega,fun R L n m k hn hL hm=> ?_⟩;obtain _|m:=m;omega
  simp-implicitDefEqProofs (maxSteps:=9^7) (disch:=try exact Dz) only[↓DN,↓kRet,UP,simprocAttr,EY,CI,Tryz.f135]
 |succ j ih=>
  intro p P g len hj hlen hs hp hp2;subst hlen;have hc4:(P.length:Int)<=3:=om;obtain⟨al,st,es,q1,a1,a2,a3,kd1⟩:=EA hc p hp om;obtain⟨P2,q,g1,g2,g3,g4,kd4⟩:=ih q1 (P++[⟨al,st,es⟩]) (g+1) (P.length+1) (by simp;omega) sm (hs.snoc a1) om om;refine⟨P2,q,g1,g2,by omega,by omega,fun R L n m k hn hL hm=> ?_⟩;obtain _|m:=m;omega;have e1:g+1+j=g+(j+1):=om;rw[e1]at kd4
  simp-implicitDefEqProofs (maxSteps:=9^7) (disch:=try exact Dz) only[↓DN,↓kRet,UP,simprocAttr,NE,hc4,↓kd1,XU,↓kd4,EY,CI,Tryz.f135]
theorem aAM{c:List UInt8}(hc:c.length<=2000)(P:List Sys)(h1:1<=P.length)(h3:P.length<=3)(hs:SysB 60000 P)(p:Int)(hp:0<=p)(hp2:p<=300000000):
  (∀(L n:Nat),7<=n->2^60<=L->aA env L n 135 [.ptr 0 0 0,.sl 1 0 0 P.length] [rdO c p,.arr (sysD P) 3 0]=some (.d (.ivs 0 []),[rdO c (p+1),.arr (sysD P) 3 0]))
  \/∃(P2:List Sys) (q:Int) (g:Nat),P2.length<=4/\SysB 80000 P2/\p<=q/\q<=p+300000/\∀(L n:Nat),7<=n->2^60<=L->aA env L n 135 [.ptr 0 0 0,.sl 1 0 0 P.length] [rdO c p,.arr (sysD P) 3 0]=some (.sl 1 g 0 P2.length,[rdO c q,.arr (sysD P2) 3 g]):=by
 obtain⟨v,v0,v1,_,kd1⟩:=bN hc p 20 hp om
 by_cases hv0:v=0
 ·left;subst hv0;intro L n hn hL;obtain _|n:=n;omega
  simp-implicitDefEqProofs (maxSteps:=9^7) (disch:=try exact Dz) only[↓DN,↓kAsg,↓kRet,UP,simprocAttr,↓kd1,yG,tH,Tryz.f135]
 right
 by_cases hv1:v=1
 ·subst hv1;obtain⟨P2,q,g1,g2,g3,g4,kd2⟩:=aAD hc (4-P.length) (p+1) P 0 P.length om rfl hs om om;refine⟨P2,q,4-P.length,by omega,g2.mono om,by omega,by omega,fun L n hn hL=> ?_⟩;simp only[Af]at kd2;have hj:4-P.length<L:=om;obtain _|n:=n;omega
  simp-implicitDefEqProofs (maxSteps:=9^7) (disch:=try exact Dz) only[↓DN,↓kAsg,↓kRet,UP,simprocAttr,↓kd1,↓kd2,g1,yG,tH,Tryz.f135]
 by_cases hv2:v=2
 ·subst hv2;have hk:0<P.length:=om;have g:=mY hk;have hes0:=hs.at hk;have hk0:(0:Int)<P.length:=om;obtain⟨al2,st2,es2,q2,a1,a2,a3,kd2⟩:=NI hc (P.getD 0 default).al (P.getD 0 default).st (P.getD 0 default).es om (p+1) om om;obtain⟨al3,st3,es3,q3,b1,b2,b3,kd3⟩:=NI hc al2 st2 es2 om q2 om om;obtain⟨al4,st4,es4,q4,c1,c2,c3,kd4⟩:=NI hc al3 st3 es3 om q3 om om;have hst:=@EE P 0 al4 st4 es4 hk;simp only[Nat.zero_mul,Af,List.take_zero,Am]at hst;refine⟨P.set 0 ⟨al4,st4,es4⟩,q4,0,by rw[Be];omega,?_,by omega,by omega,fun L n hn hL=> ?_⟩
  ·intro s h
   rcases Dd h with h|rfl
   ·have:=hs s h;omega
   ·show es4.length<=80000;omega
  rw[Be];have g':(((sysD P).drop 0).map A.d).take 3=[.d (.int .i64 (P.getD 0 default).al),.d (.int .i64 (P.getD 0 default).st),.d (.ivs (P.getD 0 default).es.length (aJ (P.getD 0 default).es))]:=g;simp only[Ay]at g';have hk3:3<=P.length*3:=om;obtain _|n:=n;omega
  simp-implicitDefEqProofs (maxSteps:=9^7) (disch:=try exact Dz) only[↓DN,↓kAsg,↓kRet,UP,simprocAttr,NE,Aw,hk3,↓kd1,↓kd2,↓kd3,↓kd4,hk0,g',hst,yG,tH,Tryz.f135]
 ·refine⟨P,p+1,0,by omega,hs.mono om,by omega,by omega,fun L n hn hL=> ?_⟩;obtain _|n:=n;omega
  simp-implicitDefEqProofs (maxSteps:=9^7) (disch:=try exact Dz) only[↓DN,↓kAsg,↓kRet,UP,simprocAttr,↓kd1,hv0,hv1,hv2,yG,tH,Tryz.f135]
theorem nJ{h:H}{i:Nat}{cs:List D}{e g:Nat}(hg:h[i]? =some (.arr cs e g)):Okay h i:=.mk _ _ hg sm (by rw[bH hg];simp)
theorem aFD{h:H}{i:Nat}{cs:List A}{e g:Nat}(hg:h[i]? =some (.vec cs e g))(hk:∀q∈idsL cs,Okay h q):Okay h i:=.mk _ _ hg sm (by
 intro q hq;have:kids h i=idsL cs:=by simp only[kids,hg]
 rw[this]at hq;exact hk q hq)
theorem aGk{h:H}{i:Nat}{cs:List A}(hg:h[i]? =some (.box cs))(hk:∀q∈idsL cs,Okay h q):Okay h i:=.mk _ _ hg sm (by
 intro q hq;have:kids h i=idsL cs:=by simp only[kids,hg]
 rw[this]at hq;exact hk q hq)
theorem ND{h:H}{i:Nat}{nx:List (List Int)}{x:List A}{e g:Nat}(hg:h[i]? =some (.vec (aB 7 nx++x) e g))(hr:∀j,j<nx.length->Okay h (j+7))(hx:∀q∈idsL x,Okay h q):Okay h i:=by
 refine aFD hg ?_;intro q hq;rw[bG,bQ,Aq,Cw]at hq
 rcases hq with hq|hq
 ·obtain⟨z,rfl⟩:∃z,q=z+7:=⟨q-7,by omega⟩
  exact hr z om
 ·exact hx q hq
theorem aGq{h:H}{nx:List (List Int)}{e g:Nat}{row:List Int}(hr:∀(i:Nat) (r:List Int),nx[i]? =some r->h[i+7]? =some (.arr (ints r) 1 0))(h1:h[e]? =some (.arr (ints row) 1 g)):
  gB (rd0 h) (aB 7 nx++[.sl e g 0 row.length])=some (aN (nx++[row])):=by
 have hlr:(aB 7 nx).length=nx.length:=gN _ _;refine HR (by simp[hlr,aN]) ?_;intro i a x ha hx;obtain⟨r,hr1,rfl⟩:=XE hx
 by_cases hi:i<nx.length
 ·rw[Bb om]at ha hr1;obtain⟨r2,hr2,rfl⟩:=NQ ha;rw[hr1]at hr2;cases hr2;refine aBc ?_;rw[Nat.add_comm];exact hr i r hr1
 ·have hi2:i<(aB 7 nx++[A.sl e g 0 row.length]).length:=(Ar.1 ha).1;rw[Ah,hlr]at hi2;simp only[Ac,Aa]at hi2;obtain rfl:i=nx.length:=om;rw[Bq om]at ha hr1;rw[hlr]at ha;simp only[Cl,Ch,Option.some.injEq]at ha hr1;subst ha;subst hr1;exact aGL h1
theorem aHi{nx:List (List Int)}{x:A}{t:Nat}(ht:t<nx.length):((aB 7 nx++[x]).drop t).head? =some (.sl (t+7) 0 0 (nx.getD t []).length):=by
 have h:=kD ht;have hn:aF 0=[]:=rfl;have hlr:(aB 7 nx).length=nx.length:=gN _ _;rw[hn,Ai,Cs]at h;rw[Cs,Bb om];exact h
theorem EB:(env.hint 141).mode=0:=kr
theorem XK{c:List UInt8}{p:Int}{al:Int}{nx:List (List Int)}{ac:List Bool}{T3:H}{z:O}(hz:T3[3]? =some z)(t4:T3[4]? =some (.vec (aB 7 nx++aF 0) 1 0))(t5:T3[5]? =some (.arr (aK ac) 1 0))(tr:∀(i:Nat) (r:List Int),nx[i]? =some r->T3[i+6]? =some (.arr (ints r) 1 0)):
  ∃(T7:H) (h2':H),T3.set 3 (.box [nI al,.sl 5 0 0 nx.length,.sl 6 0 0 ac.length])=T7/\T7[3]? =some (.box [nI al,.sl 5 0 0 nx.length,.sl 6 0 0 ac.length])/\nU 1 false (rdO c p::T7) [.agg [nI al,.sl 5 0 0 nx.length,.sl 6 0 0 ac.length]]=some ([autD al nx ac],h2')/\aC 1099511627776 h2' (fU (List.take 1 h2')) [0]=[0]/\List.getD h2' 0 default=rdO c p:=by
 obtain⟨T7,h7⟩:∃T,T3.set 3 (.box [nI al,.sl 5 0 0 nx.length,.sl 6 0 0 ac.length])=T:=⟨_,rfl⟩
 obtain⟨l7,g7,k7⟩:=cC h7 (Ar.1 hz).1
 have hv:rd1 (rdO c p::T7) (.sl 5 0 0 nx.length)=some (.ivs nx.length (aN nx)):=by
  refine wD (cs:=aB 7 nx++aF 0) ?_ (FX fun i r hr=> ?_) rfl
  ·rw[As,k7 _ om,t4]
  ·rw[show i+7=i+6+1 by omega,As,k7 _ om];exact tr i r hr
 have hw:rd1 (rdO c p::T7) (.sl 6 0 0 ac.length)=some (.ivs ac.length (aK ac)):=by
  refine nP ?_ rfl;rw[As,k7 _ om,t5]
 obtain⟨h2',a1,a2,a3⟩:=rG (al:=al) hv hw om om;exact⟨T7,h2',h7,g7,a1,a2,a3⟩
theorem aEj{c:List UInt8}(hc:c.length<=2000)(al:Int)(nx:List (List Int))(ac:List Bool)(hs:bD nx)(h1:1<=nx.length)(ha:ac.length<=4294967290)(p u:Int)(t:Nat)(ht:t<nx.length)
  (hcase:u=0/\ac.length<=t\/u=1/\(nx.getD t []).length=0\/u=2/\(12<=nx.length\/ac.length<=t\/(nx.getD t []).length=0)\/¬u=0/\¬u=1/\¬u=2)
  (kd1:(Dw 1 72 [nI (nx.length)] (nI t) c p (p+1)))
  (kd2:(Dw 1 72 [nI 4] (nI u) c (p+1) (p+1+1))):(Dw 4 141 [autD al nx ac] (autD al nx ac) c p (p+1+1)):=by
 intro R L n hq k hn hL;refine aS EB (by simp[autD,idsA,idsL]) (by simp[autD,idsA,idsL]) ?_;have hnl:=hs.1;have hrl:=oJ hs ht;obtain⟨N,T1,T2,T3,w⟩:=kH (.box [nI al,.d (.ivs nx.length (aN nx)),.d (.ivs ac.length (aK ac))]) (.box [nI 0,.sl 2 0 0 0,.sl 3 0 0 0]) al nx ac;have kd3:=fun {R:Type} {n:Nat} {o1:O} {k:KA R} (hn:2<=n)=>mF (R:=R) (L:=L) (n:=n) (o1:=o1) (al:=al) (k:=k) w.h1 hs h1 om hn hL;obtain⟨hN,hT1,l1,h2,b2,h3,l3,t3,t4,t5,tr,tb,e3,wg⟩:=w;clear e3;clear hT1;have hd7:((aB 7 nx++aF 0).drop t).head? =some (.sl (t+7) 0 0 (nx.getD t []).length):=kD ht;obtain⟨T7,h2',h7,g7,st_out,st_keep,st_trim⟩:=XK (c:=c) (p:=p+1+1) (al:=al) t3 t4 t5 tr;unfold autD at st_out|-;have hti:(t:Int)<nx.length:=om;have ht0:(0:Int)<=t:=om;have hn0:¬((nx.length:Int)=0):=om;generalize(nx.getD t []).length=rl at *;clear tr h1 wg
 rcases hcase with⟨rfl,hx⟩|⟨rfl,rfl⟩|⟨rfl,hx⟩|⟨u0,u1,u2⟩
 ·have hx2:¬((t:Int)<ac.length):=om;obtain _|n:=n;omega
  simp-implicitDefEqProofs (maxSteps:=9^7) (disch:=try exact Dz) only[↓DN,↓kRet,UP,simprocAttr,↓kd1,↓kd2,↓kd3,l1,h2,b2,h3,t3,tb,hn0,hx2,h7,g7,↓st_out,↓st_keep,↓st_trim,Ao,gH,gF,Tryz.f141]
 ·obtain _|n:=n;omega
  simp-implicitDefEqProofs (maxSteps:=9^7) (disch:=try exact Dz) only[↓DN,↓kRet,UP,simprocAttr,↓kd1,↓kd2,↓kd3,l1,h2,b2,h3,t3,t4,tb,hti,ht0,hn0,hd7,h7,g7,↓st_out,↓st_keep,↓st_trim,Ao,gH,gF,Tryz.f141]
 ·by_cases hy:(nx.length:Int)<12
  ·by_cases hy2:(t:Int)<ac.length
   ·obtain rfl:rl=0:=om;obtain _|n:=n;omega
    simp-implicitDefEqProofs (maxSteps:=9^7) (disch:=try exact Dz) only[↓DN,↓kRet,UP,simprocAttr,↓kd1,↓kd2,↓kd3,l1,h2,b2,h3,t3,t4,tb,hti,ht0,hn0,hy,hy2,hd7,h7,g7,↓st_out,↓st_keep,↓st_trim,Ao,gH,gF,Tryz.f141]
   ·obtain _|n:=n;omega
    simp-implicitDefEqProofs (maxSteps:=9^7) (disch:=try exact Dz) only[↓DN,↓kRet,UP,simprocAttr,↓kd1,↓kd2,↓kd3,l1,h2,b2,h3,t3,tb,hn0,hy,hy2,h7,g7,↓st_out,↓st_keep,↓st_trim,Ao,gH,gF,Tryz.f141]
  ·obtain _|n:=n;omega
   simp-implicitDefEqProofs (maxSteps:=9^7) (disch:=try exact Dz) only[↓DN,↓kRet,UP,simprocAttr,↓kd1,↓kd2,↓kd3,l1,h2,b2,h3,t3,tb,hn0,hy,h7,g7,↓st_out,↓st_keep,↓st_trim,Ao,gH,gF,Tryz.f141]
 ·obtain _|n:=n;omega
  simp-implicitDefEqProofs (maxSteps:=9^7) (disch:=try exact Dz) only[↓DN,↓kRet,UP,simprocAttr,↓kd1,↓kd2,↓kd3,l1,h2,b2,h3,t3,tb,hn0,u0,u1,u2,h7,g7,↓st_out,↓st_keep,↓st_trim,Ao,gH,gF,Tryz.f141]
theorem aHD{c:List UInt8}(hc:c.length<=2000)(al:Int)(nx:List (List Int))(ac:List Bool)(hs:bD nx)(h1:1<=nx.length)(ha:ac.length<=4294967290)(p:Int)(t:Nat)(hta:t<ac.length)
  (kd1:(Dw 1 72 [nI (nx.length)] (nI t) c p (p+1)))
  (kd2:(Dw 1 72 [nI 4] (nI 0) c (p+1) (p+1+1))):(Dw 4 141 [autD al nx ac] (autD al nx (ac.set t (!(ac.getD t false)))) c p (p+1+1)):=by
 intro R L n hq k hn hL;refine aS EB (by simp[autD,idsA,idsL]) (by simp[autD,idsA,idsL]) ?_;have hnl:=hs.1;obtain⟨N,T1,T2,T3,w⟩:=kH (.box [nI al,.d (.ivs nx.length (aN nx)),.d (.ivs ac.length (aK ac))]) (.box [nI 0,.sl 2 0 0 0,.sl 3 0 0 0]) al nx ac;have kd3:=fun {R:Type} {n:Nat} {o1:O} {k:KA R} (hn:2<=n)=>mF (R:=R) (L:=L) (n:=n) (o1:=o1) (al:=al) (k:=k) w.h1 hs h1 om hn hL;obtain⟨hN,hT1,l1,h2,b2,h3,l3,t3,t4,t5,tr,tb,e3,wg⟩:=w;clear e3;clear hT1;obtain⟨T4,h4⟩:∃T,T3.set 5 (.arr (aK (ac.set t (!(ac.getD t false)))) 1 0)=T:=⟨_,rfl⟩
 obtain⟨l4,g4,k4⟩:=cC h4 om;have t43:T4[3]? =some (.box [nI 0,.sl 2 0 0 0,.sl 3 0 0 0]):=by rw[k4 _ om,t3]
 have t4b:T4[N+1+1]? =some (.box [nI al,.sl 5 0 0 nx.length,.sl 6 0 0 ac.length]):=by rw[k4 _ om,tb]
 have hset:a6 (aK ac) t [.bool (!(ac.getD t false))]=aK (ac.set t (!(ac.getD t false))):=aCI hta
 have st_sto:∀ {call:aW} {thaw:List Nat} {dst:Option Tmp} {x y:Operand},memD env call thaw dst (.store 4 x y) (rdO c (p+1+1)::T3) [.ptr 6 0 t,.d (.bool (!(ac.getD t false)))]=some (.d .undef,rdO c (p+1+1)::T4,{ ids:=[6],ro:=false,wr:=[6]}):=by
  intro call thaw dst x y;rw[JS kr kr rfl (h:=rdO c (p+1+1)::T3) (id:=6) (cs:=aK ac) (esz:=1) t5 (by rw[gD];omega)];rw[Bk,hset,h4]
 have hl2:(ac.set t (!(ac.getD t false))).length=ac.length:=sm;obtain⟨T7,h2',h7,g7,st_out,st_keep,st_trim⟩:=XK (c:=c) (p:=p+1+1) (al:=al) (nx:=nx) (ac:=ac.set t (!(ac.getD t false))) t43 (by rw[k4 _ om,t4]) g4 (fun i r hr=>by rw[k4 _ om];exact tr i r hr);unfold autD at st_out|-;rw[hl2]at st_out h7 g7|-;have hbh:=DP hta;have hti:(t:Int)<ac.length:=om;have ht0:(0:Int)<=t:=om;have hn0:¬((nx.length:Int)=0):=om;clear tr h1 wg k4 l4 hset hta;obtain _|n:=n;omega
 simp-implicitDefEqProofs (maxSteps:=9^7) (disch:=try exact Dz) only[↓DN,↓kRet,UP,simprocAttr,↓kd1,↓kd2,↓kd3,l1,h2,b2,h3,t5,tb,hti,ht0,hn0,hbh,↓st_sto,t4b,t43,h7,g7,↓st_out,↓st_keep,↓st_trim,Ao,gH,gF,Tryz.f141]
theorem aFa{c:List UInt8}(hc:c.length<=2000)(al:Int)(nx:List (List Int))(ac:List Bool)(hs:bD nx)(h1:1<=nx.length)(ha:ac.length<=4294967290)(p v:Int)(t j:Nat)(ht:t<nx.length)(hj:j<(nx.getD t []).length)
  (kd1:(Dw 1 72 [nI (nx.length)] (nI t) c p (p+1)))
  (kd2:(Dw 1 72 [nI 4] (nI 1) c (p+1) (p+1+1)))
  (kd4:(Dw 1 72 [nI ((nx.getD t []).length:Int)] (nI j) c (p+1+1) (p+1+1+1)))
  (kd5:(Dw 1 72 [nI (nx.length)] (nI v) c (p+1+1+1) (p+1+1+1+1))):(Dw 4 141 [autD al nx ac] (autD al (nx.set t ((nx.getD t []).set j v)) ac) c p (p+1+1+1+1)):=by
 intro R L n hq k hn hL;refine aS EB (by simp[autD,idsA,idsL]) (by simp[autD,idsA,idsL]) ?_;have hnl:=hs.1;obtain⟨N,T1,T2,T3,w⟩:=kH (.box [nI al,.d (.ivs nx.length (aN nx)),.d (.ivs ac.length (aK ac))]) (.box [nI 0,.sl 2 0 0 0,.sl 3 0 0 0]) al nx ac;have kd3:=fun {R:Type} {n:Nat} {o1:O} {k:KA R} (hn:2<=n)=>mF (R:=R) (L:=L) (n:=n) (o1:=o1) (al:=al) (k:=k) w.h1 hs h1 om hn hL;obtain⟨hN,hT1,l1,h2,b2,h3,l3,t3,t4,t5,tr,tb,e3,wg⟩:=w;clear e3;clear hT1;have hrow:nx[t]? =some (nx.getD t []):=by rw[Ab,Ae ht];rfl
 have hrl:=oJ hs ht;generalize hrw:nx.getD t []=row at *;have hd7:((aB 7 nx++aF 0).drop t).head? =some (.sl (t+7) 0 0 row.length):=by rw[kD ht,hrw]
 have t3r:T3[t+6]? =some (.arr (ints row) 1 0):=tr _ _ hrow;obtain⟨T4,h4⟩:∃T,T3.set (t+6) (.arr (ints (row.set j v)) 1 0)=T:=⟨_,rfl⟩
 obtain⟨l4,g4,k4⟩:=cC h4 om;have t43:T4[3]? =some (.box [nI 0,.sl 2 0 0 0,.sl 3 0 0 0]):=by rw[k4 _ om,t3]
 have t4b:T4[N+1+1]? =some (.box [nI al,.sl 5 0 0 nx.length,.sl 6 0 0 ac.length]):=by rw[k4 _ om,tb]
 have hset:a6 (ints row) j [.int .i64 v]=ints (row.set j v):=by
  unfold a6;exact XT hj
 have st_sto:∀ {call:aW} {thaw:List Nat} {dst:Option Tmp} {x y:Operand},memD env call thaw dst (.store 3 x y) (rdO c (p+1+1+1+1)::T3) [.ptr (t+7) 0 j,nI v]=some (.d .undef,rdO c (p+1+1+1+1)::T4,{ ids:=[t+7],ro:=false,wr:=[t+7]}):=by
  intro call thaw dst x y;rw[JS kr kr rfl (h:=rdO c (p+1+1+1+1)::T3) (id:=t+7) (cs:=ints row) (esz:=1) (by rw[show t+7=t+6+1 by omega,As];exact t3r) (by simp[ints];omega)];rw[show t+7=t+6+1 by omega,Bk,hset,h4]
 have hrefs:aB 7 (nx.set t (row.set j v))=aB 7 nx:=BF (by rw[hrw];simp);have hlen:(nx.set t (row.set j v)).length=nx.length:=sm
 obtain⟨T7,h2',h7,g7,st_out,st_keep,st_trim⟩:=XK (c:=c) (p:=p+1+1+1+1) (al:=al) (nx:=nx.set t (row.set j v)) (ac:=ac) t43 (by rw[hrefs,k4 _ om,t4]) (by rw[k4 _ om,t5]) (fun i r hr=>by
  rw[Co]at hr
  by_cases e:t=i
  ·subst e;rw[if_pos rfl,if_pos ht]at hr;cases hr;exact g4
  ·rw[if_neg e]at hr;rw[k4 _ om];exact tr i r hr)
 unfold autD at st_out|-;rw[hlen]at st_out h7 g7|-;have hti:(t:Int)<nx.length:=om;have ht0:(0:Int)<=t:=om;have hn0:¬((nx.length:Int)=0):=om;have hji:(j:Int)<row.length:=om;have hj0:(0:Int)<=j:=om;have hr0:(0:Int)<row.length:=om;clear tr h1 wg k4 l4 hset hrow hrefs;obtain _|n:=n;omega
 simp-implicitDefEqProofs (maxSteps:=9^7) (disch:=try exact Dz) only[↓DN,↓kRet,UP,simprocAttr,↓kd1,↓kd2,↓kd3,↓kd4,↓kd5,l1,h2,b2,h3,l3,t4,tb,t3r,hti,ht0,hn0,hji,hj0,hr0,hd7,↓st_sto,t4b,t43,h7,g7,↓st_out,↓st_keep,↓st_trim,Cl,Ao,gH,gF,Tryz.f141]
theorem aG7{c:List UInt8}(hc:c.length<=2000)(al:Int)(nx:List (List Int))(ac:List Bool)(hs:bD nx)(ha:ac.length<=4294967290)(p:Int)(t:Nat)(ht:t<nx.length)(h12:nx.length<12)(hta:t<ac.length){row:List Int}(hrw:nx.getD t []=row)(hr0:0<row.length)(hrl:row.length<=4294967290){bt:Bool}(hbt:ac.getD t false=bt)
  (kd1:(Dw 1 72 [nI (nx.length)] (nI t) c p (p+1)))
  (kd2:(Dw 1 72 [nI 4] (nI 2) c (p+1) (p+1+1))):(Dw 4 141 [autD al nx ac] (autD al (nx.set t (row.set 0 nx.length)++[row]) (ac++[bt])) c p (p+1+1)):=by
 intro R L n hq k hn hL;refine aS EB (by simp[autD,idsA,idsL]) (by simp[autD,idsA,idsL]) ?_;have hnl:=hs.1;have h1:1<=nx.length:=om;obtain⟨N,T1,T2,T3,w⟩:=kH (.box [nI al,.d (.ivs nx.length (aN nx)),.d (.ivs ac.length (aK ac))]) (.box [nI 0,.sl 2 0 0 0,.sl 3 0 0 0]) al nx ac;have kd3:=fun {R:Type} {n:Nat} {o1:O} {k:KA R} (hn:2<=n)=>mF (R:=R) (L:=L) (n:=n) (o1:=o1) (al:=al) (k:=k) w.h1 hs h1 om hn hL;obtain⟨hN,hT1,l1,h2,b2,h3,l3,t3,t4,t5,tr,tb,e3,wg⟩:=w;simp only[eD,idsL,idsA,Aa,Ac,Am,At,Af]at wg;clear e3;clear hT1;have hrow:nx[t]? =some row:=by rw[<-hrw,Ab,Ae ht];rfl
 have hd7:((aB 7 nx++aF 0).drop t).head? =some (.sl (t+7) 0 0 row.length):=by rw[kD ht,hrw]
 have hlv:(aB 7 nx++aF 0).length=nx.length:=by rw[Ah,gN];rfl
 have htk:(aB 7 nx++aF 0).take nx.length=aB 7 nx:=D2 rfl;have t3r:T3[t+6]? =some (.arr (ints row) 1 0):=tr _ _ hrow;obtain⟨T4,h4⟩:∃T,T3++[.arr [] 1 0]=T:=⟨_,rfl⟩
 obtain⟨l4,g4,k4⟩:=jK h4;rw[l3]at l4 g4 k4;obtain⟨T5,h5⟩:∃T,T4.set (N+1+1+1) (.arr (ints row) 1 1)=T:=⟨_,rfl⟩
 obtain⟨l5,g5,k5⟩:=cC h5 om;obtain⟨T6,h6⟩:∃T,T5++[.vec [.sl (N+1+1+1+1) 1 0 row.length] 1 0]=T:=⟨_,rfl⟩
 obtain⟨l6,g6,k6⟩:=jK h6;rw[l5,l4]at l6 g6 k6;obtain⟨T7,h7⟩:∃T,T6.set 4 (.vec (aB 7 nx++[.sl (N+1+1+1+1) 1 0 row.length]) 1 1)=T:=⟨_,rfl⟩
 obtain⟨l7,g7,k7⟩:=cC h7 om;obtain⟨T8,h8⟩:∃T,T7.set (N+1+1) (.box [nI al,.sl 5 1 0 (nx.length+1),.sl 6 0 0 ac.length])=T:=⟨_,rfl⟩
 obtain⟨l8,g8,k8⟩:=cC h8 om;obtain⟨T9,h9⟩:∃T,T8++[.arr [.bool bt] 1 0]=T:=⟨_,rfl⟩
 obtain⟨l9,g9,k9⟩:=jK h9;rw[l8,l7,l6]at l9 g9 k9;obtain⟨T10,h10⟩:∃T,T9.set 5 (.arr (aK (ac++[bt])) 1 1)=T:=⟨_,rfl⟩
 obtain⟨l10,g10,k10⟩:=cC h10 om;obtain⟨T11,h11⟩:∃T,T10.set (N+1+1) (.box [nI al,.sl 5 1 0 (nx.length+1),.sl 6 1 0 (ac.length+1)])=T:=⟨_,rfl⟩
 obtain⟨l11,g11,k11⟩:=cC h11 om;obtain⟨T12,h12'⟩:∃T,T11.set (t+6) (.arr (ints (row.set 0 nx.length)) 1 0)=T:=⟨_,rfl⟩
 obtain⟨l12,g12,k12⟩:=cC h12' om;obtain⟨T13,h13⟩:∃T,T12.set 3 (.box [nI al,.sl 5 1 0 (nx.length+1),.sl 6 1 0 (ac.length+1)])=T:=⟨_,rfl⟩
 obtain⟨l13,g13,k13⟩:=cC h13 om;have w4:wgt T4=wgt T3:=by rw[<-h4,zC];simp[eD]
 have w5:wgt T5<=wgt T4:=by rw[<-h5];have:=jO (h:=T4) (i:=N+1+1+1) (o:=.arr (ints row) 1 1);simpa [eD]using this
 have w6:wgt T6=wgt T5+1:=by rw[<-h6,zC];simp[eD,idsL,idsA]
 have w7:wgt T7<=wgt T6+nx.length+1:=by
  rw[<-h7];have:=jO (h:=T6) (i:=4) (o:=.vec (aB 7 nx++[.sl (N+1+1+1+1) 1 0 row.length]) 1 1);simp only[eD,bG,bQ,idsL,idsA,Ah,Dx,Ac,Aa]at this;omega
 have w8:wgt T8<=wgt T7+2:=by
  rw[<-h8];have:=jO (h:=T7) (i:=N+1+1) (o:=.box [nI al,.sl 5 1 0 (nx.length+1),.sl 6 0 0 ac.length])
  simpa [eD,idsL,idsA]using this
 have w9:wgt T9=wgt T8:=by rw[<-h9,zC];simp[eD]
 have w10:wgt T10<=wgt T9:=by rw[<-h10];have:=jO (h:=T9) (i:=5) (o:=.arr (aK (ac++[bt])) 1 1);simpa [eD]using this
 have t4b:T4[N+1+1]? =some (.box [nI al,.sl 5 0 0 nx.length,.sl 6 0 0 ac.length]):=by rw[k4 _ om,tb]
 have t44:T4[4]? =some (.vec (aB 7 nx++aF 0) 1 0):=by rw[k4 _ om,t4]
 have t4r:T4[t+6]? =some (.arr (ints row) 1 0):=by rw[k4 _ om,t3r]
 have t64:T6[4]? =some (.vec (aB 7 nx++aF 0) 1 0):=by rw[k6 _ om,k5 _ om,t44]
 have t6e:T6[N+1+1+1]? =some (.arr (ints row) 1 1):=by rw[k6 _ om,g5]
 have t7b:T7[N+1+1]? =some (.box [nI al,.sl 5 0 0 nx.length,.sl 6 0 0 ac.length]):=by rw[k7 _ om,k6 _ om,k5 _ om,t4b]
 have t85:T8[5]? =some (.arr (aK ac) 1 0):=by rw[k8 _ om,k7 _ om,k6 _ om,k5 _ om,k4 _ om,t5]
 have t9b:T9[N+1+1]? =some (.box [nI al,.sl 5 1 0 (nx.length+1),.sl 6 0 0 ac.length]):=by rw[k9 _ om,g8]
 have t95:T9[5]? =some (.arr (aK ac) 1 0):=by rw[k9 _ om,t85]
 have t10b:T10[N+1+1]? =some (.box [nI al,.sl 5 1 0 (nx.length+1),.sl 6 0 0 ac.length]):=by rw[k10 _ om,t9b]
 have t94:T9[4]? =some (.vec (aB 7 nx++[.sl (N+1+1+1+1) 1 0 row.length]) 1 1):=by rw[k9 _ om,k8 _ om,g7]
 have t114:T11[4]? =some (.vec (aB 7 nx++[.sl (N+1+1+1+1) 1 0 row.length]) 1 1):=by rw[k11 _ om,k10 _ om,t94]
 have tr9:∀(i:Nat) (r:List Int),nx[i]? =some r->T9[i+6]? =some (.arr (ints r) 1 0):=by
  intro i r hr;have hi:i<nx.length:=(Ar.1 hr).1;rw[k9 _ om,k8 _ om,k7 _ om,k6 _ om,k5 _ om,k4 _ om];exact tr i r hr
 have t11r:T11[t+6]? =some (.arr (ints row) 1 0):=by rw[k11 _ om,k10 _ om];exact tr9 _ _ hrow
 have t12b:T12[N+1+1]? =some (.box [nI al,.sl 5 1 0 (nx.length+1),.sl 6 1 0 (ac.length+1)]):=by rw[k12 _ om,g11]
 have t123:T12[3]? =some (.box [nI 0,.sl 2 0 0 0,.sl 3 0 0 0]):=by rw[k12 _ om,k11 _ om,k10 _ om,k9 _ om,k8 _ om,k7 _ om,k6 _ om,k5 _ om,k4 _ om,t3]
 have up:∀(T:H) (i:Nat) (o:O),T[i]? =some o->(rdO c (p+1+1)::T)[i+1]? =some o:=fun T i o h=>by rw[As];exact h
 have row6:∀i,i<nx.length->T6[i+6]? =some (.arr (ints (nx.getD i [])) 1 0):=by
  intro i hi;rw[k6 _ om,k5 _ om,k4 _ om];refine tr i _ ?_;rw[Ab,Ae hi];rfl
 have st_app1:∀ {call:aW} {thaw:List Nat} {dst:Option Tmp} {args:Array Operand},memD env call thaw dst (.call ⟨.builtin .append,args,#[104,104]⟩) (rdO c (p+1+1)::T4) [.sl (N+1+1+1+1) 0 0 0,.sl (t+7) 0 0 row.length]=some (.sl (N+1+1+1+1) 1 0 row.length,rdO c (p+1+1)::T5,{ ids:=[N+1+1+1+1,t+7],ro:=false,wr:=[N+1+1+1+1]}):=by
  intro call thaw dst args;rw[IF (e:=3) (e0:=1) (n2:=row.length) (len:=0) (cs:=[]) (src:=ints row) rfl IQ kr (up T4 _ _ g4) (.inr rfl) (up T4 (t+6) _ t4r) (by simp[ints]) sm (by unfold bF;omega) om];rw[Bk,<-h5];simp
 have st_vec:∀ {call:aW} {thaw:List Nat} {dst:Option Tmp} {x:Operand},Shut ((keeps thaw dst&& !logs thaw dst)=true)->memD env call thaw dst (.buildSlice 23 1 #[(0,x)]) (rdO c (p+1+1)::T5) [.sl (N+1+1+1+1) 1 0 row.length]=some (.sl (N+1+1+1+1+1) 0 0 1,rdO c (p+1+1)::T6,{ ids:=[N+1+1+1+1,N+1+1+1+1+1],ro:=false}):=by
  intro call thaw dst x hk;rw[aC8 (e:=104) (cs:=ints row) (es:=1) hk.it rfl kr QW kr (up T5 _ _ g5)];rw[At,h6,Ac,l5,l4]
 have ok65:Okay (rdO c (p+1+1)::T6) 5:=ND (x:=aF 0) (up T6 4 _ t64) (fun j hj=>nJ (up T6 (j+6) _ (row6 j hj))) (by intro q hq;simp[dE]at hq)
 have ok6e:Okay (rdO c (p+1+1)::T6) (N+1+1+1+1+1):=aFD (up T6 _ _ g6) (by
  intro q hq;simp[idsL,idsA]at hq;subst hq;exact nJ (up T6 _ _ t6e))
 obtain⟨o1,ho1⟩:∃o,o=aC aD (rdO c (p+1+1)::T6) [5,N+1+1+1+1+1] []:=⟨_,rfl⟩
 have st_app2:∀ {call:aW} {thaw:List Nat} {dst:Option Tmp} {args:Array Operand},memD env call thaw dst (.call ⟨.builtin .append,args,#[23,23]⟩) (rdO c (p+1+1)::T6) [.sl 5 0 0 nx.length,.sl (N+1+1+1+1+1) 0 0 1]=some (.sl 5 1 0 (nx.length+1),rdO c (p+1+1)::T7,{ ids:=o1,ro:=false,wr:=[5]}):=by
  intro call thaw dst args;rw[SQ (e:=104) rfl QW kr (id:=5) (id2:=N+1+1+1+1+1) (g:=0) (g2:=0) (len:=nx.length) (cs:=aB 7 nx++aF 0) (c:=.sl (N+1+1+1+1) 1 0 row.length) (up T6 4 _ t64) (up T6 _ _ g6) om (by unfold bF;omega) ok65 ok6e (by rw[lI];simp only[eD,idsL,idsA,Am,Aa];omega),<-ho1,htk];rw[Bk,h7]
 have row7:∀i,i<nx.length->T7[i+6]? =some (.arr (ints (nx.getD i [])) 1 0):=fun i hi=>by rw[k7 _ om];exact row6 i hi
 have t7e:T7[N+1+1+1]? =some (.arr (ints row) 1 1):=by rw[k7 _ om,t6e]
 have ok75:Okay (rdO c (p+1+1)::T7) 5:=ND (up T7 4 _ g7) (fun j hj=>nJ (up T7 (j+6) _ (row7 j hj))) (by
  intro q hq;simp[idsL,idsA]at hq;subst hq;exact nJ (up T7 _ _ t7e))
 have ok7b:Okay (rdO c (p+1+1)::T7) (N+2+1):=aGk (up T7 _ _ t7b) (by
  intro q hq;simp[idsL,idsA]at hq
  rcases hq with rfl|rfl
  ·exact ok75
  ·exact nJ (up T7 5 _ (by rw[k7 _ om,k6 _ om,k5 _ om,k4 _ om,t5])))
 obtain⟨o2,ho2⟩:∃o,o=aC aD (rdO c (p+1+1)::T7) [N+2+1,5] []:=⟨_,rfl⟩
 have st_sto:∀ {call:aW} {thaw:List Nat} {dst:Option Tmp} {x y:Operand},memD env call thaw dst (.store 23 x y) (rdO c (p+1+1)::T7) [.ptr (N+2+1) 0 1,.sl 5 1 0 (nx.length+1)]=some (.d .undef,rdO c (p+1+1)::T8,{ ids:=o2,ro:=false,wr:=o2}):=by
  intro call thaw dst x y;rw[t6 kr kr (h:=rdO c (p+1+1)::T7) (id:=N+2+1) (id2:=5) (off:=1) (cs:=[nI al,.sl 5 0 0 nx.length,.sl 6 0 0 ac.length]) (up T7 _ _ t7b) sm ok7b ok75 (by rw[lI];simp only[eD,idsL,idsA,Am,Aa];omega),<-ho2];rw[Bk];unfold a6;rw[<-h8];rfl
 have hbh:(((aK ac).drop t).map A.d).head? =some (.d (.bool bt)):=by rw[DP hta,hbt]
 have st_app3:∀ {call:aW} {thaw:List Nat} {dst:Option Tmp} {args:Array Operand},memD env call thaw dst (.call ⟨.builtin .append,args,#[24,24]⟩) (rdO c (p+1+1)::T9) [.sl 6 0 0 ac.length,.sl (N+1+1+1+1+1+1) 0 0 1]=some (.sl 6 1 0 (ac.length+1),rdO c (p+1+1)::T10,{ ids:=[6,N+1+1+1+1+1+1],ro:=false,wr:=[6]}):=by
  intro call thaw dst args;rw[IF (e:=4) (e0:=1) (n2:=1) (len:=ac.length) (cs:=aK ac) (src:=[.bool bt]) rfl aGp kr (up T9 5 _ t95) (.inr rfl) (up T9 _ _ g9) rfl (by rw[gD];omega) (by unfold bF;omega) om];rw[Bk,wL (Ad _),tS,h10]
 have row10:∀i,i<nx.length->T10[i+6]? =some (.arr (ints (nx.getD i [])) 1 0):=fun i hi=>by
  rw[k10 _ om,k9 _ om,k8 _ om];exact row7 i hi
 have ok105:Okay (rdO c (p+1+1)::T10) 5:=ND (up T10 4 _ (by rw[k10 _ om,t94])) (fun j hj=>nJ (up T10 (j+6) _ (row10 j hj))) (by
  intro q hq;simp[idsL,idsA]at hq;subst hq;exact nJ (up T10 _ _ (by rw[k10 _ om,k9 _ om,k8 _ om,t7e])))
 have ok106:Okay (rdO c (p+1+1)::T10) 6:=nJ (up T10 5 _ g10)
 have ok10b:Okay (rdO c (p+1+1)::T10) (N+2+1):=aGk (up T10 _ _ t10b) (by
  intro q hq;simp[idsL,idsA]at hq
  rcases hq with rfl|rfl
  ·exact ok105
  ·exact ok106)
 obtain⟨o3,ho3⟩:∃o,o=aC aD (rdO c (p+1+1)::T10) [N+2+1,6] []:=⟨_,rfl⟩
 have st_sto2:∀ {call:aW} {thaw:List Nat} {dst:Option Tmp} {x y:Operand},memD env call thaw dst (.store 24 x y) (rdO c (p+1+1)::T10) [.ptr (N+2+1) 0 2,.sl 6 1 0 (ac.length+1)]=some (.d .undef,rdO c (p+1+1)::T11,{ ids:=o3,ro:=false,wr:=o3}):=by
  intro call thaw dst x y;rw[t6 kr kr (h:=rdO c (p+1+1)::T10) (id:=N+2+1) (id2:=6) (off:=2) (cs:=[nI al,.sl 5 1 0 (nx.length+1),.sl 6 0 0 ac.length]) (up T10 _ _ t10b) sm ok10b ok106 (by rw[lI];simp only[eD,idsL,idsA,Am,Aa];omega),<-ho3];rw[Bk];unfold a6;rw[<-h11];rfl
 have hcl1:∀(ops:List Oper) (w:List Nat),w=[N+1+1+1+1]->n9 [(1,2),(2,4),(2,6),(2,7),(1,8),(1,9)] ops [{},{ ids:=[N+2+1],ro:=true},{ ids:=[N+1+1+1+1],ro:=false},{},{ ids:=[N+2+1],ro:=true},{},{ ids:=[5],ro:=true},{ ids:=[5],ro:=true},{ ids:=[N+1+1+1+1,t+7],ro:=false,wr:=[N+1+1+1+1]},{ ids:=[N+1+1+1+1,N+1+1+1+1+1],ro:=false},{ ids:=o1,ro:=false,wr:=[5]},{},{ ids:=o2,ro:=false}]=true->eU ops (([]:List Foot)++[({}:Foot)]++[({ ids:=idsA (A.ptr (N+2+1) 0 1)}:Foot)]++[({ ids:=[N+1+1+1+1],ro:=false,wr:=w}:Foot)]++[({}:Foot)]++[({ ids:=idsA (A.ptr (N+2+1) 0 1)}:Foot)]++[({}:Foot)]++[({ ids:=idsA (A.sl 5 0 0 nx.length)}:Foot)]++[({ ids:=idsA (A.ptr 5 0 t)}:Foot)]++[({ ids:=[N+1+1+1+1,t+7],ro:=false,wr:=[N+1+1+1+1]}:Foot)]++[({ ids:=[N+1+1+1+1,N+1+1+1+1+1],ro:=false}:Foot)]++[({ ids:=o1,ro:=false,wr:=[5]}:Foot)]++[({}:Foot)]++[({ ids:=o2,ro:=false}:Foot)])=true:=by
  intro ops w hw hm;subst hw
  have key:eU ops [{},{ ids:=[N+2+1],ro:=true},{ ids:=[N+1+1+1+1],ro:=false},{},{ ids:=[N+2+1],ro:=true},{},{ ids:=[5],ro:=true},{ ids:=[5],ro:=true},{ ids:=[N+1+1+1+1,t+7],ro:=false,wr:=[N+1+1+1+1]},{ ids:=[N+1+1+1+1,N+1+1+1+1+1],ro:=false},{ ids:=o1,ro:=false,wr:=[5]},{},{ ids:=o2,ro:=false}]=true:=by
   refine xK _ hm ?_;intro q hq;simp only[Au,Bo,or_false]at hq
   rcases hq with rfl|rfl|rfl|rfl|rfl|rfl<;>simp[kB]<;>omega
  exact key
 have hcl2:∀(ops:List Oper) (w:List Nat),w=[N+1+1+1+1+1+1]->n9 [(1,7)] ops [{},{ ids:=[N+2+1],ro:=true},{},{ ids:=[N+2+1],ro:=true},{},{ ids:=[6],ro:=true},{ ids:=[6],ro:=true},{ ids:=[N+1+1+1+1+1+1],ro:=false},{ ids:=[6,N+1+1+1+1+1+1],ro:=false,wr:=[6]},{},{ ids:=o3,ro:=false}]=true->eU ops (([]:List Foot)++[({}:Foot)]++[({ ids:=idsA (A.ptr (N+2+1) 0 2)}:Foot)]++[({}:Foot)]++[({ ids:=idsA (A.ptr (N+2+1) 0 2)}:Foot)]++[({}:Foot)]++[({ ids:=idsA (A.sl 6 0 0 ac.length)}:Foot)]++[({ ids:=idsA (A.ptr 6 0 t)}:Foot)]++[({ ids:=[N+1+1+1+1+1+1],ro:=false,wr:=w}:Foot)]++[({ ids:=[6,N+1+1+1+1+1+1],ro:=false,wr:=[6]}:Foot)]++[({}:Foot)]++[({ ids:=o3,ro:=false}:Foot)])=true:=by
  intro ops w hw hm;subst hw
  have key:eU ops [{},{ ids:=[N+2+1],ro:=true},{},{ ids:=[N+2+1],ro:=true},{},{ ids:=[6],ro:=true},{ ids:=[6],ro:=true},{ ids:=[N+1+1+1+1+1+1],ro:=false},{ ids:=[6,N+1+1+1+1+1+1],ro:=false,wr:=[6]},{},{ ids:=o3,ro:=false}]=true:=by
   refine xK _ hm ?_;intro q hq;simp only[Au,Bo,or_false]at hq
   rcases hq with rfl<;>simp[kB]<;>omega
  exact key
 have hlen:(nx.set t (row.set 0 nx.length)++[row]).length=nx.length+1:=sm;have hlen2:(ac++[bt]).length=ac.length+1:=sm;have hrefs:aB 7 (nx.set t (row.set 0 nx.length))=aB 7 nx:=BF (by rw[hrw];simp)
 have hv:rd1 (rdO c (p+1+1)::T13) (.sl 5 1 0 (nx.length+1))=some (.ivs (nx.set t (row.set 0 nx.length)++[row]).length (aN (nx.set t (row.set 0 nx.length)++[row]))):=by
  refine wD (cs:=aB 7 (nx.set t (row.set 0 nx.length))++[.sl (N+1+1+1+1) 1 0 row.length]) ?_ ?_ hlen.symm
  ·rw[hrefs];exact up T13 4 _ (by rw[k13 _ om,k12 _ om,t114])
  ·refine aGq (fun i r hr=> ?_) (up T13 _ _ (by rw[k13 _ om,k12 _ om,k11 _ om,k10 _ om,k9 _ om,k8 _ om,t7e]));refine up T13 (i+6) _ ?_;rw[Co]at hr
   by_cases e:t=i
   ·subst e;rw[if_pos rfl,if_pos ht]at hr;cases hr;rw[k13 _ om];exact g12
   ·rw[if_neg e]at hr;have hi:i<nx.length:=(Ar.1 hr).1;rw[k13 _ om,k12 _ om,k11 _ om,k10 _ om];exact tr9 i r hr
 have hw:rd1 (rdO c (p+1+1)::T13) (.sl 6 1 0 (ac.length+1))=some (.ivs (ac++[bt]).length (aK (ac++[bt]))):=
  nP (up T13 5 _ (by rw[k13 _ om,k12 _ om,k11 _ om,g10])) hlen2.symm
 obtain⟨h2',st_out,st_keep,st_trim⟩:=rG (al:=al) hv hw om om;unfold autD at st_out|-;rw[hlen,hlen2]at st_out|-;have hd7x:((aB 7 nx++[A.sl (N+1+1+1+1) 1 0 row.length]).drop t).head? =some (.sl (t+7) 0 0 row.length):=by rw[aHi ht,hrw]
 have hput:∀v:Int,(ints row).drop 1=ints (row.drop 1):=fun v=>by simp[ints]
 have hset0:D.int .i64 (nx.length:Int)::List.drop 1 (ints row)=ints (row.set 0 nx.length):=by
  cases row with
  |nil=>simp at hr0
  |cons x xs=>simp[ints]
 have hti:(t:Int)<nx.length:=om;have hti1:(t:Int)<(nx.length:Int)+1:=om;have ht0:(0:Int)<=t:=om;have hn0:¬((nx.length:Int)=0):=om;have hn12:(nx.length:Int)<12:=om;have hta':(t:Int)<ac.length:=om;have hr0':(0:Int)<row.length:=om;have hr1:1<=(ints row).length:=by simp[ints];omega
 have l8':T8.length=N+1+1+1+1+1:=om;clear hv hw k4 k5 k6 k7 k8 k9 k10 k11 k12 k13 tr tr9 h1 l4 l5 l6 l7 l8 l9 l10 l11 l12 l13 wg w4 w5 w6 w7 w8 w9 w10 hrow ok65 ok6e ok75 ok7b ok105 ok106 ok10b row6 row7 row10 ho1 ho2 ho3 up hlv htk hrefs hput;obtain _|n:=n;omega
 simp-implicitDefEqProofs (maxSteps:=9^7) (disch:=first|assumption|(refine Shut.mk ?_;exact hcl1 _ _ kr kr)|(refine Shut.mk ?_;exact hcl2 _ _ kr kr)|(refine Shut.mk ?_;kernel_rfl)|omega|(simp only[GT];done)|(simp only[LN]<;>omega)|fail) only[↓DN,↓kRet,UP,simprocAttr,↓kd1,↓kd2,↓kd3,l1,h2,b2,h3,l3,t4,tb,hti,ht0,hn0,hn12,hta',hr0',hd7,h4,t4b,t44,↓st_app1,↓st_vec,↓st_app2,↓st_sto,g8,t85,l8',hbh,h9,↓st_app3,↓st_sto2,g11,t114,hd7x,t11r,hset0,h12',t12b,t123,h13,g13,↓st_out,↓st_keep,↓st_trim,Cl,Ao,gH,gF,Tryz.f141]
end Ev
end Go.Proofs.YtahbdkmimmnadaaGreatDoor
