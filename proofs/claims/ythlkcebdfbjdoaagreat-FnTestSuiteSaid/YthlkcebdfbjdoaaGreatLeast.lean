/-
  Automata that are drawn: one whose bad state is a trap.
-/
import Derived.Test.YthlkcebdfbjdoaaGreatMemD
import Derived.Test.YthlkcebdfbjdoaaGreatRdNew
import Derived.Test.YthlkcebdfbjdoaaGreatDrawR
import Derived.Test.YthlkcebdfbjdoaaGreatEnvF
import Derived.Test.YthlkcebdfbjdoaaGreatEvDef
import Derived.Test.YthlkcebdfbjdoaaGreatAutoL
import Derived.Tactics
set_option linter.unusedSimpArgs false
set_option linter.unusedVariables false
set_option maxRecDepth 1000000
set_option maxHeartbeats 4000000
namespace Go.Proofs.YthlkcebdfbjdoaaGreat
namespace Ev
def zA(x:Int):Nat->Nat->List Bool->List Bool
 |0,_,bl=>bl
 |j+1,i,bl=>zA x j (i+1) (bl.set i (decide ((i:Int)<x)))
theorem aF3(x:Int):∀(j i:Nat) (bl:List Bool),(zA x j i bl).length=bl.length
 |0,_,_=>rfl
 |j+1,i,bl=>by rw[zA,aF3 x j,Bl]
def yS(x:Int):Nat->Nat->List Int->List Int
 |0,_,r=>r
 |j+1,i,r=>yS x j (i+1) (r.set i x)
theorem UC(x:Int):∀(j i:Nat) (r:List Int),(yS x j i r).length=r.length
 |0,_,_=>rfl
 |j+1,i,r=>by rw[yS,UC x j,Bl]
theorem aO7{l:List Bool}{k:Nat}{v:Bool}(h:k<l.length):List.take k (aJ l)++[D.bool v]++List.drop (k+1) (aJ l)=aJ (l.set k v):=aFB h
theorem aAB{l:List Int}{k:Nat}{v:Int}(h:k<l.length):List.take k (ints l)++[D.int .i64 v]++List.drop (k+1) (ints l)=ints (l.set k v):=ZM h
theorem kP{rs:List (List Int)}{k:Nat}(h:k<rs.length):((aC 7 rs++aF 0).drop k).head? =some (.sl (k+7) 0 0 (rs.getD k []).length):=by
 rw[aEh (b:=0) (k:=0) h,Nat.add_comm]
theorem CA{rs:List (List Int)}{b k:Nat}{r:List Int}(h:r.length=(rs.getD k []).length):aC b (rs.set k r)=aC b rs:=by
 apply aBh;rw[List.map_set]
 by_cases hk:k<rs.length
 ·have:r.length=(rs.map List.length)[k]'(by simpa using hk):=by
   rw[h,List.getElem_map,Aa,Ae hk];rfl
  rw[this,List.set_getElem_self]
 ·rw[List.set_eq_of_length_le (by simp;omega)]
theorem aTU{m:List Bool}{s:List A}{y1 y2 x0 x1:D}{k z:Nat}{cs:List D}{d d2:List (List Int)}(he:aC 7 d2=aC 7 d)(hl:d2.length<=4294967296):gc 1 m s (.box [.d y1,.d y2]::.box [.d x0,.sl 3 0 0 0,.sl 4 0 0 0]::.box [.d x1,.sl 5 0 0 k,.sl 6 0 0 z]::.arr [] 0 0::.arr [] 0 0::.vec (aC 7 d++aF 0) 1 0::.arr cs 1 0::aI d2)=match box (tidy m s)with
  |.mk s1=>if idsL s1=[1,2]/\z0As s1=true then(aE (A1 d2.length) s1,.box [.d y1,.d y2]::.box [.d x0,.sl 3 0 0 0,.sl 4 0 0 0]::.box [.d x1,.sl 5 0 0 k,.sl 6 0 0 z]::.arr [] 0 0::.arr [] 0 0::.vec (aC 7 d++aF 0) 1 0::.arr cs 1 0::aI d2)else gcO 1 m s (.box [.d y1,.d y2]::.box [.d x0,.sl 3 0 0 0,.sl 4 0 0 0]::.box [.d x1,.sl 5 0 0 k,.sl 6 0 0 z]::.arr [] 0 0::.arr [] 0 0::.vec (aC 7 d++aF 0) 1 0::.arr cs 1 0::aI d2)
  |.no=>([],[]):=by
 rw[<-he];exact FU hl
theorem aEd{R:Type}{L n:Nat}{y1 y2 x0:D}{al st x:Int}{s:Nat}{nx:List (List Int)}(hx:st-1=x)(hst:st=s)(hs:s<=100)(hnl:nx.length<=4294967296){k:KE R}:∀(j i m:Nat) (bl:List Bool) (len:Nat) (hi:i+j=s) (hm:j<m) (hbl:bl.length=s) (hlen:len=bl.length),
  aM env (aA env L n) L 1 [] Bz10 (hU 0) (U2 (Z1 (U2 (U1 (Z2 (Z1 (U32 (U8 ([]))))))))) m (Y2 (nI st::Y2 (Y1 (.ptr 1 0 0::.ptr 2 0 0::nI i::Y32 (Y8 ([])))))) (.box [.d y1,.d y2]::.box [.d x0,.sl 3 0 0 0,.sl 4 0 0 0]::.box [nI al,.sl 5 0 0 nx.length,.sl 6 0 0 len]::.arr [] 0 0::.arr [] 0 0::.vec (aC 7 nx++aF 0) 1 0::.arr (aJ bl) 1 0::aI nx) k
  =k (.exit 0) (Y2 (nI st::Y2 (Y1 (.ptr 1 0 0::.ptr 2 0 0::nI s::Y32 (Y8 ([])))))) (.box [.d y1,.d y2]::.box [.d x0,.sl 3 0 0 0,.sl 4 0 0 0]::.box [nI al,.sl 5 0 0 nx.length,.sl 6 0 0 s]::.arr [] 0 0::.arr [] 0 0::.vec (aC 7 nx++aF 0) 1 0::.arr (aJ (zA x j i bl)) 1 0::aI nx):=by
 intro j
 induction j with
 |zero=>
  intro i m bl len hi hm hbl hlen;obtain _|m:=m;omega;obtain rfl:i=s:=by omega
  rw[hbl]at hlen;subst hlen;have hc1:¬((len:Int)<st):=by omega
  simp -implicitDefEqProofs (maxSteps:=2000000) (disch:=try exact Dz) only[↓DN,↓kRet,UP,simprocAttr,hc1,↓FU,z0As,z0A,eq_self,sH,r6,zA,JS,HD,Tryz.f122]
 |succ j ih=>
  intro i m bl len hi hm hbl hlen;obtain _|m:=m;omega;subst hlen;have hc1:(i:Int)<st:=by omega
  have hk:i<bl.length:=by omega
  have hb1:(0:Int)<=i:=by omega
  have ih':=ih (i+1) m (bl.set i (decide ((i:Int)<x))) bl.length (by omega) (by omega) (by simpa using hbl) (by simp);rw[cs1 i]at ih';rw[zA];clear ih;simp -implicitDefEqProofs (maxSteps:=2000000) (disch:=try exact Dz) only[↓DN,↓kRet,UP,simprocAttr,LA,hc1,hx,aO7,↓FU,z0As,z0A,eq_self,sH,r6,↓ih',JS,HD,Tryz.f122]
theorem aDI{R:Type}{L n:Nat}{y1 y2 x0:D}{al st i9:Int}{s t:Nat}{bl:List Bool}{w:Nat}(hx:st-1=(t:Int))(hs:s<=100)(hw:w<=100)(ht:t<s){k:KE R}:∀(j i m:Nat) (nx:List (List Int)) (len:Nat) (hi:i+j=w) (hm:j<m) (hr:(nx.getD t []).length=w) (hnx:nx.length=s) (hlen:len=nx.length),
  aM env (aA env L n) L 1 [] Bz10 (hU 1) Bz36 m (Y2 (nI st::Y2 (Y1 (.ptr 1 0 0::.ptr 2 0 0::nI i9::nI i::Y32 (Y4 (Y2 (Y1 ([])))))))) (.box [.d y1,.d y2]::.box [.d x0,.sl 3 0 0 0,.sl 4 0 0 0]::.box [nI al,.sl 5 0 0 len,.sl 6 0 0 bl.length]::.arr [] 0 0::.arr [] 0 0::.vec (aC 7 nx++aF 0) 1 0::.arr (aJ bl) 1 0::aI nx) k
  =k (.exit 2) (Y2 (nI st::Y2 (Y1 (.ptr 1 0 0::.ptr 2 0 0::nI i9::nI w::Y32 (Y4 (Y2 (Y1 ([])))))))) (.box [.d y1,.d y2]::.box [.d x0,.sl 3 0 0 0,.sl 4 0 0 0]::.box [nI al,.sl 5 0 0 s,.sl 6 0 0 bl.length]::.arr [] 0 0::.arr [] 0 0::.vec (aC 7 nx++aF 0) 1 0::.arr (aJ bl) 1 0::aI (nx.set t (yS t j i (nx.getD t [])))):=by
 intro j
 induction j with
 |zero=>
  intro i m nx len hi hm hr hnx hlen;obtain _|m:=m;omega;obtain rfl:i=w:=by omega
  rw[hnx]at hlen;subst hlen;have hc1:¬((i:Int)<(i:Int)):=by omega
  have hnl:nx.length<=4294967296:=by omega
  have hkd:t<nx.length:=by omega
  have hg:=aHi hkd
  have e1:nx.set t (nx.getD t [])=nx:=by
   rw[Aa,Ae hkd];exact List.set_getElem_self hkd
  rw[yS,e1];simp -implicitDefEqProofs (maxSteps:=2000000) (disch:=try exact Dz) only[↓DN,↓kRet,UP,simprocAttr,hx,hr,hc1,kP,↓FU,z0As,z0A,eq_self,sH,r6,J0,HT,Tryz.f122]
 |succ j ih=>
  intro i m nx len hi hm hr hnx hlen;obtain _|m:=m;omega;subst hlen;have hnl:nx.length<=4294967296:=by omega
  have hkd:t<nx.length:=by omega
  have hg:=aHi hkd;have hc1:(i:Int)<(w:Int):=by omega
  have hk:i<(nx.getD t []).length:=by omega
  have hb1:(0:Int)<=i:=by omega
  have hgs:(nx.set t ((nx.getD t []).set i t)).getD t []=(nx.getD t []).set i t:=by
   rw[Aa,Dy hkd];rfl
  have hrs:aC 7 (nx.set t ((nx.getD t []).set i t))=aC 7 nx:=CA (by simp);have ih':=ih (i+1) m (nx.set t ((nx.getD t []).set i t)) nx.length (by omega) (by omega) (by rw[hgs];simpa using hr) (by simpa using hnx) (by simp);rw[cs1 i,hgs,hrs,List.set_set]at ih';rw[yS];have hnl2:(nx.set t ((nx.getD t []).set i t)).length<=4294967296:=by rw[Bl];omega
  clear ih hgs;generalize hro:nx.getD t []=ro at *;simp -implicitDefEqProofs (maxSteps:=2000000) (disch:=try exact Dz) only[↓DN,↓kRet,UP,simprocAttr,hx,hr,hro,hg,hc1,kP,aM8,aAB,↓aTU,z0As,z0A,eq_self,sH,r6,↓ih',J0,HT,Tryz.f122]
theorem aBH{R:Type}{L n m:Nat}{y1 y2 x0:D}{al st i9:Int}{s t:Nat}{bl:List Bool}{w:Nat}{nx:List (List Int)}(hx:st-1=(t:Int))(hs:s<=100)(hw:w<=100)(ht:t<s)(hm:w<m)(hr:(nx.getD t []).length=w)(hnx:nx.length=s){k:KE R}:
  aM env (aA env L n) L 1 [] Bz10 (hU 1) Bz36 m (Y2 (nI st::Y2 (Y1 (.ptr 1 0 0::.ptr 2 0 0::nI i9::nI 0::Y32 (Y4 (Y2 (Y1 ([])))))))) (.box [.d y1,.d y2]::.box [.d x0,.sl 3 0 0 0,.sl 4 0 0 0]::.box [nI al,.sl 5 0 0 s,.sl 6 0 0 bl.length]::.arr [] 0 0::.arr [] 0 0::.vec (aC 7 nx++aF 0) 1 0::.arr (aJ bl) 1 0::aI nx) k
  =k (.exit 2) (Y2 (nI st::Y2 (Y1 (.ptr 1 0 0::.ptr 2 0 0::nI i9::nI w::Y32 (Y4 (Y2 (Y1 ([])))))))) (.box [.d y1,.d y2]::.box [.d x0,.sl 3 0 0 0,.sl 4 0 0 0]::.box [nI al,.sl 5 0 0 s,.sl 6 0 0 bl.length]::.arr [] 0 0::.arr [] 0 0::.vec (aC 7 (nx.set t (yS t w 0 (nx.getD t [])))++aF 0) 1 0::.arr (aJ bl) 1 0::aI (nx.set t (yS t w 0 (nx.getD t [])))):=by
 rw[CA (by rw[UC])];exact aDI hx hs hw ht w 0 m nx s (by omega) hm hr hnx hnx.symm
theorem GF{d:List (List Int)}{o o1 o2:O}{p:H}{k:Nat}(h:k=d.length+2):(aI d++o1::o2::o::p)[k]? =some o:=by
 subst h;rw[Bh (by rw[cJ];omega),cJ,Dr];rfl
theorem H3{d:List (List Int)}{o o1 o2 q:O}{p:H}{k:Nat}(h:k=d.length+2):(aI d++o1::o2::o::p).set k q=aI d++o1::o2::q::p:=by
 rw[Dp _ _ (by rw[cJ];omega),cJ,h,Dr];rfl
theorem aJr{c:List UInt8}(hc:c.length<=2000)(al st:Int){s:Nat}(hst:st=s)(hs:s<=100)(h1:1<=s)(p:Int)(hp:0<=p)(hp2:p+7*s<=1000000000):
  ∃(nx:List (List Int)) (ac:List Bool) (q:Int),nx.length=s/\ac.length=s/\(∀r∈nx,r.length=(aB al).length)/\p<=q/\q<=p+7*s/\∀(L n:Nat),4<=n->2^60<=L->
  aA env L n 122 [.ptr 0 0 0,nI al,nI st] [rdO c p]=some (autD al nx ac,[rdO c q]):=by
 obtain⟨nx,ac,q,g1,g2,g3,g4,g5,he⟩:=DX hc al st hst hs h1 p hp hp2;obtain⟨t,rfl⟩:∃t,s=t+1:=⟨s-1,by omega⟩
 have hx:st-1=(t:Int):=by omega
 have hw:=b9 al;have hk:t<nx.length:=by omega
 have hr:(nx.getD t []).length=(aB al).length:=by
  rw[Aa,Ae hk];exact g3 _ (Az hk)
 have hl1:(nx.set t (yS t (aB al).length 0 (nx.getD t []))).length=t+1:=by rw[Bl,g1]
 have hl2:(zA (t:Int) (t+1) 0 ac).length=t+1:=by rw[aF3,g2]
 refine⟨nx.set t (yS t (aB al).length 0 (nx.getD t [])),zA (t:Int) (t+1) 0 ac,q,hl1,hl2,?_,g4,g5,fun L n hn hL=> ?_⟩
 ·intro r hrm
  rcases Dm hrm with h|h
  ·exact g3 r h
  ·rw[h,UC,hr]
 have kd:=fun {R:Type} {n:Nat} {hq:H} {k:KA R} (hn:3<=n)=>L5 (R:=R) (L:=L) (n:=n) (hq:=hq) (k:=k) hn hL he;have hnl:nx.length<=4294967296:=by omega
 have loop_a:=fun {R:Type} {n:Nat} {y1 y2 x0:D} {k:KE R}=>aEd (R:=R) (L:=L) (n:=n) (y1:=y1) (y2:=y2) (x0:=x0) (al:=al) (nx:=nx) (k:=k) hx hst hs hnl (t+1) 0 L ac ac.length (by omega) (by omega) g2 rfl;have loop_b:=fun {R:Type} {n:Nat} {y1 y2 x0:D} {i9:Int} {k:KE R}=>aBH (R:=R) (L:=L) (n:=n) (m:=L) (y1:=y1) (y2:=y2) (x0:=x0) (al:=al) (i9:=i9) (bl:=zA (t:Int) (t+1) 0 ac) (k:=k) hx hs (by omega) (by omega) (by omega) hr g1;rw[hl2]at loop_b;rw[g1,g2]at loop_a;simp only[autA,autO,g1,g2]at kd;simp only[Aq]at loop_a;have hbl:(aJ (zA (t:Int) (t+1) 0 ac)).length=t+1:=by rw[eP,hl2]
 generalize nx.set t (yS t (aB al).length 0 (nx.getD t []))=nx2 at *;generalize zA (t:Int) (t+1) 0 ac=ac2 at *;have hnl2:nx2.length<=4294967296:=by omega
 have hH:Has (rdO c q::.box [nI al,.sl 5 0 0 (t+1),.sl 6 0 0 (t+1)]::.box [nI al,.sl 5 0 0 (t+1),.sl 6 0 0 (t+1)]::.arr [] 0 0::.arr [] 0 0::.vec (aC 7 nx2++aF 0) 1 0::.arr (aJ ac2) 1 0::aI nx2) 5 nx2 ac2:=by
  have:=NH (h:=[rdO c q,.box [nI al,.sl 5 0 0 (t+1),.sl 6 0 0 (t+1)],.box [nI al,.sl 5 0 0 (t+1),.sl 6 0 0 (t+1)],.arr [] 0 0,.arr [] 0 0]) (v:=5) (rs:=nx2) (ac:=ac2) (p:=[]) rfl
  simpa using this
 obtain⟨h2,st_out,st_keep,st_trim⟩:=NC (n:=t+1) (m:=t+1) (al:=al) hH (by omega) hl1.symm hl2.symm;simp only[autD]at st_out|-;clear he g3 g4 g5 hH;obtain _|n:=n;omega;simp -implicitDefEqProofs (maxSteps:=2000000) (disch:=try exact Dz) only[↓DN,↓kAsg,↓kRet,UP,simprocAttr,g1,↓kd,↓loop_a,↓loop_b,cJ,Ao,GF,H3,↓aT2,aL8,aFG,aCg,↓FU,sH,r6,↓st_out,↓st_keep,↓st_trim,z0As,z0A,eq_self,aJX,aBq,Tryz.f122]
theorem aRB:(env.hint 122).mode=0:=kr
theorem aGR:(env.hint 89).mode=0:=kr
theorem aPH{c:List UInt8}(hc:c.length<=2000)(al:Int)(p:Int)(hp:0<=p)(hp2:p<=900000000):
  ∃(nx:List (List Int)) (ac:List Bool) (q:Int),1<=nx.length/\nx.length<=5/\ac.length=nx.length/\(∀r∈nx,r.length=(aB al).length)/\p<=q/\q<=p+50/\(Dw 6 89 [nI al] (autD al nx ac) c p q):=by
 obtain⟨v,v0,v1,_,kd1⟩:=fA hc p 2 hp (by omega)
 by_cases h1:v=0
 ·subst h1;obtain⟨w,hw,kd2⟩:=zE hc [3,2,4,1] (by simp) (by simp) (p+1) (by omega) (by omega);have hw1:1<=w/\w<=4:=by simp at hw;omega
  obtain⟨nx,ac,q,g1,g2,g3,g4,g5,he⟩:=aJr hc al w (s:=w.toNat) (by omega) (by omega) (by omega) (p+1+1) (by omega) (by omega);have kd3:=fun {R:Type} {L n:Nat} {hq:H} {k:KA R} (hn:4<=n) (hL:2^60<=L)=>cD (R:=R) (h:=hq) (k:=k) aRB (by simp[idsL,idsA]) (by simp[autD,idsA,idsL]) (he L n hn hL);simp only[ints,Ai,Ap,Ad,Ac,Ag,Nat.reduceAdd]at kd2;refine⟨nx,ac,q,by omega,by omega,by omega,g3,by omega,by omega,fun R L n hq k hn hL=>cD aGR (by simp[idsL,idsA]) (by simp[autD,idsA,idsL]) ?_⟩;unfold autD at kd3|-;clear he g3;obtain _|n:=n;omega;simp -implicitDefEqProofs (maxSteps:=2000000) (disch:=try exact Dz) only[↓DN,↓kRet,UP,simprocAttr,↓kd1,↓kd2,↓kd3,X7,PF,Tryz.f89]
 ·obtain⟨w,hw,kd2⟩:=zE hc [2,3,1,4,5] (by simp) (by simp) (p+1) (by omega) (by omega);have hw1:1<=w/\w<=5:=by simp at hw;omega
  obtain⟨nx,ac,q,g1,g2,g3,g4,g5,he⟩:=DX hc al w (s:=w.toNat) (by omega) (by omega) (by omega) (p+1+1) (by omega) (by omega);have kd3:=fun {R:Type} {L n:Nat} {hq:H} {k:KA R} (hn:3<=n) (hL:2^60<=L)=>L5 (R:=R) (L:=L) (n:=n) (hq:=hq) (k:=k) hn hL he;simp only[ints,Ai,Ap,Ad,Ac,Ag,Nat.reduceAdd]at kd2;simp only[autA,autO]at kd3;refine⟨nx,ac,q,by omega,by omega,by omega,g3,by omega,by omega,fun R L n hq k hn hL=>cD aGR (by simp[idsL,idsA]) (by simp[autD,idsA,idsL]) ?_⟩
  have hH:Has (rdO c q::.arr [] 0 0::.arr [] 0 0::.box [nI al,.sl 5 0 0 nx.length,.sl 6 0 0 ac.length]::.arr [.int .i64 2,.int .i64 3,.int .i64 1,.int .i64 4,.int .i64 5] 1 0::.vec (aC 7 nx++aF 0) 1 0::.arr (aJ ac) 1 0::aI nx) 5 nx ac:=by
   have:=NH (h:=[rdO c q,.arr [] 0 0,.arr [] 0 0,.box [nI al,.sl 5 0 0 nx.length,.sl 6 0 0 ac.length],.arr [.int .i64 2,.int .i64 3,.int .i64 1,.int .i64 4,.int .i64 5] 1 0]) (v:=5) (rs:=nx) (ac:=ac) (p:=[]) rfl
   simpa using this
  obtain⟨h2,st_out,st_keep,st_trim⟩:=NC (n:=nx.length) (m:=ac.length) (al:=al) hH (by omega) rfl rfl;unfold autD at st_out|-;clear he g3 hH;obtain _|n:=n;omega;simp -implicitDefEqProofs (maxSteps:=2000000) (disch:=try exact Dz) only[↓DN,↓kRet,UP,simprocAttr,h1,↓kd1,↓kd2,↓kd3,↓st_out,↓st_keep,↓st_trim,X7,PF,Tryz.f89]
def aBU:Nat->List D->Bool
 |0,[]=>true
 |n+1,.int .i64 _::ds=>aBU n ds
 |_,_=>false
def aBF(w:Nat):Nat->List D->Bool
 |0,[]=>true
 |n+1,.ivs k cs::ds=>aBU k cs&&(k==w)&&aBF w n ds
 |_,_=>false
def UH:Nat->List D->Bool
 |0,[]=>true
 |n+1,.bool _::ds=>UH n ds
 |_,_=>false
def gI:Option (A×H)->Bool
 |some (.tup [.agg [.d (.int .i64 al),.d (.ivs n rs),.d (.ivs m bs)],.d (.bool true)],[])=>aBF (aB al).length n rs&&UH m bs&&(m==n)&&decide (1<=n/\n<=12)
 |_=>false
def CP:List (List UInt8):=[[97,98,32,43,49,44,48,32,45,49,44,49],[97,98,32,43,48,44,49,32,43,50,44,49,32,45,50,44,50],[97,99,32,43,49,44,50,32,43,49,44,50,32,45,50,44,50],[98,32,43,49,32,45,49],[97,98,99,32,43,49,44,48,44,50,32,43,50,44,48,44,49,32,45,50,44,50,44,50],[45,32,43],[45,32,45],[97,32,43,49,32,45,48],[97,98,32,43,48,44,49,32,45,48,44,49],[98,99,32,43,49,44,50,32,43,50,44,48,32,45,50,44,50],[97,98,32,43,49,44,50,32,45,49,44,51,32,43,52,44,50,32,45,49,44,51,32,43,52,44,50],[97,98,99,32,43,48,44,49,44,48,32,43,48,44,49,44,50,32,45,50,44,50,44,50]]
theorem aQA:gI (aA env 3000 12 86 [.d (.str [97,98,32,43,49,44,50,32,45,49,44,51,32,43,52,44,50,32,45,49,44,51,32,43,52,44,50])] [])=true:=kr
theorem aTu:gI (aA env 3000 12 86 [.d (.str [45,32,45])] [])=true:=kr
theorem aTp:gI (aA env 3000 12 86 [.d (.str [97,98,99,32,43,49,44,48,44,50,32,43,50,44,48,44,49,32,45,50,44,50,44,50])] [])=true:=kr
theorem aTn:gI (aA env 3000 12 86 [.d (.str [45,32,43])] [])=true:=kr
theorem aQS:gI (aA env 3000 12 86 [.d (.str [97,98,99,32,43,48,44,49,44,48,32,43,48,44,49,44,50,32,45,50,44,50,44,50])] [])=true:=kr
theorem aUh:gI (aA env 3000 12 86 [.d (.str [97,32,43,49,32,45,48])] [])=true:=kr
theorem aTK:gI (aA env 3000 12 86 [.d (.str [97,98,32,43,48,44,49,32,43,50,44,49,32,45,50,44,50])] [])=true:=kr
theorem aUl:gI (aA env 3000 12 86 [.d (.str [98,32,43,49,32,45,49])] [])=true:=kr
theorem aTN:gI (aA env 3000 12 86 [.d (.str [97,99,32,43,49,44,50,32,43,49,44,50,32,45,50,44,50])] [])=true:=kr
theorem aTF:gI (aA env 3000 12 86 [.d (.str [97,98,32,43,48,44,49,32,45,48,44,49])] [])=true:=kr
theorem aT8:gI (aA env 3000 12 86 [.d (.str [98,99,32,43,49,44,50,32,43,50,44,48,32,45,50,44,50])] [])=true:=kr
theorem aTP:gI (aA env 3000 12 86 [.d (.str [97,98,32,43,49,44,48,32,45,49,44,49])] [])=true:=kr
theorem aOA:∀t∈CP,gI (aA env 3000 12 86 [.d (.str t)] [])=true:=by
 intro t ht;simp only[CP,Au,Bo,or_false]at ht
 rcases ht with rfl|rfl|rfl|rfl|rfl|rfl|rfl|rfl|rfl|rfl|rfl|rfl
 ·exact aTP
 ·exact aTK
 ·exact aTN
 ·exact aUl
 ·exact aTp
 ·exact aTn
 ·exact aTu
 ·exact aUh
 ·exact aTF
 ·exact aT8
 ·exact aQA
 ·exact aQS
section
def More(c1 c2:aZ):Prop:=∀f args h r,c1 f args h=some r->c2 f args h=some r
section
variable{E:Env}{c1 c2:aZ}(hc:More c1 c2)
include hc
theorem aBQ{hint:FuncId->Hint}{h:H}{f:FuncId}{args:List A}{r:A×H}(he:b8 c1 hint h f args=some r):b8 c2 hint h f args=some r:=by
 unfold b8 at he|-;generalize(hint f).mode=m at *
 have key:∀(fs:List A) (g:Option (A×H)->Option (A×H)),g none=none->g (c1 f fs [])=some r->g (c2 f fs [])=some r:=by
  intro fs g h0 h1
  cases h2:c1 f fs []with
  |none=>rw[h2,h0]at h1;cases h1
  |some q=>rw[h2]at h1;rw[hc _ _ _ _ h2];exact h1
 match m with
 |0=>exact hc _ _ _ _ he
 |1=>
  simp only at he|-
  cases hf:fB h args with
  |none=>rw[hf]at he;cases he
  |some q=>rw[hf]at he;exact key q.1 (fun o=>match o with|some (r,[])=>if iV r then some (r,h)else none|_=>none) rfl he
 |3=>
  simp only at he|-
  cases hf:fB h args with
  |none=>rw[hf]at he;cases he
  |some q=>rw[hf]at he;exact key q.1 (fun o=>match o with|some (r,h2)=>if lP r&&h2.all kI then some (mapA (back [] h.length h2.length) r,h++h2.map (mapO (back [] h.length h2.length)))else none|none=>none) rfl he
 |2=>
  simp only at he|-
  cases hf:fB h args with
  |none=>rw[hf]at he;cases he
  |some q=>rw[hf]at he;exact key q.1 (fun o=>match o with|some (r,[])=>some (r,q.2)|some (r,h2)=>some (mapA (back [] q.2.length h2.length) r,q.2++h2.map (mapO (back [] q.2.length h2.length)))|none=>none) rfl he
 |m+4=>
  simp only at he|-
  cases hf:fB h args with
  |none=>rw[hf]at he;cases he
  |some q=>rw[hf]at he;exact key q.1 (fun o=>match o with|some (r,[])=>some (r,q.2)|some (r,h2)=>some (mapA (back [] q.2.length h2.length) r,q.2++h2.map (mapO (back [] q.2.length h2.length)))|none=>none) rfl he
theorem aGY{hint:FuncId->Hint}{h:H}{c:A}{args:List A}{r:A×H}(he:fH c1 hint h c args=some r):fH c2 hint h c args=some r:=by
 unfold fH at he|-
 split at he
 ·exact aBQ hc he
 ·exact aBQ hc he
 ·cases he
theorem aGm{h:H}{c:Callee}{tys:List TypeId}{vs:List A}{r:A×H}(he:dQ E c1 h c tys vs=some r):dQ E c2 h c tys vs=some r:=by
 unfold dQ at he|-
 split at he
 ·split at he
  ·exact aGY hc he
  ·cases he
 ·exact he
 ·cases he
theorem LK{thaw:List Nat}{h:H}{o:Oper}{vs:List A}{r:A×H}(he:evOp E c1 thaw h o vs=some r):evOp E c2 thaw h o vs=some r:=by
 unfold evOp at he|-
 split at he<;>first|exact aGm hc he|exact he
theorem aBr{thaw:List Nat}{h:H}{o:Oper}{vs:List A}{r:A×H×List Nat×Nat}(he:jG E c1 thaw h o vs=some r):jG E c2 thaw h o vs=some r:=by
 unfold jG at he|-;simp only at he|-
 split at he
 ·rename_i a h1 h2
  rw[LK hc h2];exact he
 ·cases he
theorem aJw{thaw:List Nat}{ops:List Oper}{o:Oper}{s:List A}{h:H}{r:List A×H}(he:C6 E c1 thaw ops o s h=some r):C6 E c2 thaw ops o s h=some r:=by
 unfold C6 at he|-
 cases hw:qO ops s o with
 |none=>rw[hw]at he;cases he
 |some b=>
  rw[hw]at he
  cases b with
  |false=>exact he
  |true=>
   simp only at he|-
   cases hv:bS s (opds o.op)with
   |none=>rw[hv]at he;cases he
   |some vs=>
    rw[hv]at he;simp only at he|-
    by_cases hi:bP o.op=true
    ·rw[if_pos hi]at he|-
     cases hf:jG E c1 thaw h o vs with
     |none=>rw[hf]at he;cases he
     |some q=>rw[hf]at he;rw[aBr hc hf];exact he
    ·rw[if_neg hi]at he|-
     cases hf:evOp E c1 thaw h o vs with
     |none=>rw[hf]at he;cases he
     |some q=>rw[hf]at he;rw[LK hc hf];exact he
theorem aBe{thaw:List Nat}{ops:List Oper}:∀ {os:List Oper} {s:List A} {h:H} {r:List A×H},y3 E c1 thaw ops os s h=some r->y3 E c2 thaw ops os s h=some r
 | [],s,h,r,he=>he
 |o::os,s,h,r,he=>by
  unfold y3 at he|-
  cases hs:C6 E c1 thaw ops o s h with
  |none=>rw[hs]at he;cases he
  |some q=>rw[hs]at he;rw[aJw hc hs];exact aBe he
theorem aHo{thaw:List Nat}{ops:List Oper}{o:Oper}{s:List A}{h:H}{r:List A×H×Foot}(he:wQ E c1 thaw ops o s h=some r):wQ E c2 thaw ops o s h=some r:=by
 unfold wQ at he|-
 cases hw:qO ops s o with
 |none=>rw[hw]at he;cases he
 |some b=>
  rw[hw]at he
  cases b with
  |false=>exact he
  |true=>
   simp only at he|-
   cases hv:bS s (opds o.op)with
   |none=>rw[hv]at he;cases he
   |some vs=>
    rw[hv]at he;simp only at he|-
    by_cases hi:bU o.op=true
    ·rw[if_pos hi]at he|-
     cases hf:evOp E c1 thaw h o vs with
     |none=>rw[hf]at he;cases he
     |some q=>rw[hf]at he;rw[LK hc hf];exact he
    ·rw[if_neg hi]at he|-
     by_cases hj:pT o.op=true
     ·rw[if_pos hj]at he|-
      cases hf:evOp E c1 thaw h o vs with
      |none=>rw[hf]at he;cases he
      |some q=>rw[hf]at he;rw[LK hc hf];exact he
     rw[if_neg hj]at he|-
     cases hf:jG E c1 thaw h o vs with
     |none=>rw[hf]at he;cases he
     |some q=>rw[hf]at he;rw[aBr hc hf];exact he
theorem ZI{thaw:List Nat}{ops:List Oper}:∀ {os:List Oper} {s:List A} {h:H} {r:List A×H×List Foot},lG E c1 thaw ops os s h=some r->lG E c2 thaw ops os s h=some r
 | [],s,h,r,he=>he
 |o::os,s,h,r,he=>by
  unfold lG at he|-
  cases hs:wQ E c1 thaw ops o s h with
  |none=>rw[hs]at he;cases he
  |some q=>
   rw[hs]at he;rw[aHo hc hs];simp only at he|-
   cases h2:lG E c1 thaw ops os q.1 q.2.1 with
   |none=>rw[h2]at he;cases he
   |some z=>rw[h2]at he;rw[ZI h2];exact he
theorem aGv{thaw:List Nat}{ops:Array Oper}{draw:Bool}{s:List A}{h:H}{r:List A×H}(he:mU E c1 thaw ops draw s h=some r):mU E c2 thaw ops draw s h=some r:=by
 unfold mU at he|-
 by_cases hd:draw=true
 ·rw[if_pos hd]at he|-
  cases ho:lG E c1 thaw ops.toList ops.toList s h with
  |none=>rw[ho]at he;cases he
  |some q=>rw[ho]at he;rw[ZI hc ho];exact he
 ·rw[if_neg hd]at he|-;exact aBe hc he
end
theorem YP{b1 b2:List A->H->Option (Exit×List A×H)}(hb:∀s h r,b1 s h=some r->b2 s h=some r){nf:Nat}{m:List Bool}:∀ {n1 n2:Nat} {s:List A} {h:H} {r:Exit×List A×H},n1<=n2->rQ b1 nf m n1 s h=some r->rQ b2 nf m n2 s h=some r
 |0,n2,s,h,r,_,he=>by simp[rQ]at he
 |n1+1,0,s,h,r,hn,he=>by omega
 |n1+1,n2+1,s,h,r,hn,he=>by
  unfold rQ at he|-
  cases hs:b1 s h with
  |none=>rw[hs]at he;cases he
  |some q=>
   rw[hs]at he;rw[hb _ _ _ hs];obtain⟨e,s1,h1⟩:=q
   cases e with
   |normal=>exact YP hb (by omega) he
   |_=>exact he
theorem aJ3{E:Env}{c1 c2:aZ}(hc:More c1 c2){L1 L2 nf:Nat}(hL:L1<=L2){thaw:List Nat}{live:List Bool}:∀(c:Code) {s:List A} {h:H} {r:Exit×List A×H},cA E c1 L1 nf thaw live c s h=some r->cA E c2 L2 nf thaw live c s h=some r:=by
 intro c
 induction c with
 |region i ops draw=>
  intro s h r he;unfold cA at he|-
  cases hr:mU E c1 thaw ops draw s h with
  |none=>rw[hr]at he;cases he
  |some q=>rw[hr]at he;rw[aGv hc hr];exact he
 |seq a b iha ihb=>
  intro s h r he;unfold cA at he|-
  cases ha:cA E c1 L1 nf thaw live a s h with
  |none=>rw[ha]at he;cases he
  |some q=>
   rw[ha]at he;rw[iha ha];obtain⟨e,s1,h1⟩:=q
   cases e with
   |normal=>exact ihb he
   |_=>exact he
 |cond x a b iha ihb=>
  intro s h r he;unfold cA at he|-
  cases hv:cL s x with
  |none=>rw[hv]at he;cases he
  |some v=>
   rw[hv]at he
   cases v with
   |d y=>
    cases y with
    |bool b=>
     cases b with
     |true=>exact iha he
     |false=>exact ihb he
    |_=>cases he
   |_=>cases he
 |block i a iha=>
  intro s h r he;unfold cA at he|-
  cases ha:cA E c1 L1 nf thaw live a s h with
  |none=>rw[ha]at he;cases he
  |some q=>rw[ha]at he;rw[iha ha];exact he
 |loop a iha=>
  intro s h r he;unfold cA at he|-;exact YP (fun s h r=>iha) hL he
 |_=>intro s h r he;simp only[cA]at he|-;first|exact he|cases he
theorem aJV{E:Env}{c1 c2:aZ}(hc:More c1 c2){L1 L2:Nat}(hL:L1<=L2){f:FuncId}{fn:Func}{c:Code}{args:List A}{h:H}{r:A×H}(he:GN E c1 L1 f fn c args h=some r):GN E c2 L2 f fn c args h=some r:=by
 unfold GN at he|-
 split at he
 ·rename_i e s h1 hcd
  rw[aJ3 hc hL c hcd];exact he
 ·cases he
theorem YR{E:Env}{L1 L2:Nat}(hL:L1<=L2):∀ {n1 n2:Nat},n1<=n2->More (aA E L1 n1) (aA E L2 n2)
 |0,n2,_=>by intro f args h r he;simp[aA]at he
 |n1+1,0,hn=>by omega
 |n1+1,n2+1,hn=>by
  intro f args h r he;have ih:=YR (E:=E) hL (n1:=n1) (n2:=n2) (by omega);unfold aA at he|-
  cases hp:E.prim f with
  |some g=>rw[hp]at he;exact he
  |none=>
   rw[hp]at he;simp only at he|-
   cases hf:E.P.funcs[f]? with
   |none=>rw[hf]at he;cases he
   |some fn=>
    rw[hf]at he;simp only at he|-
    cases hb:fn.body with
    |none=>rw[hb]at he;cases he
    |some c=>
     rw[hb]at he;simp only at he|-
     by_cases hnm : (fn.name == "runtime.NumGoroutine") = true
     ·rw[if_pos hnm]at he;cases he
     ·rw[if_neg hnm]at he|-;exact aJV ih hL he
end
theorem aCo:∀(n:Nat) (cs:List D),aBU n cs=true->∃l:List Int,l.length=n/\cs=ints l
 |0,[],_=>⟨[],rfl,rfl⟩
 |0,_::_,h=>by simp[aBU]at h
 |n+1,cs,h=>by
  unfold aBU at h
  split at h
  ·exfalso;omega
  ·rename_i m a ds heq
   cases heq;obtain⟨l,h1,h2⟩:=aCo n _ h
   exact⟨a::l,by simp[h1],by rw[h2];rfl⟩
  ·cases h
theorem UG:∀(n:Nat) (cs:List D),UH n cs=true->∃l:List Bool,l.length=n/\cs=aJ l
 |0,[],_=>⟨[],rfl,rfl⟩
 |0,_::_,h=>by simp[UH]at h
 |n+1,cs,h=>by
  unfold UH at h
  split at h
  ·exfalso;omega
  ·rename_i m a ds heq
   cases heq;obtain⟨l,h1,h2⟩:=UG n _ h
   exact⟨a::l,by simp[h1],by rw[h2];rfl⟩
  ·cases h
theorem aB4(w:Nat):∀(n:Nat) (cs:List D),aBF w n cs=true->∃l:List (List Int),l.length=n/\(∀r∈l,r.length=w)/\cs=aN l
 |0,[],_=>⟨[],rfl,by simp,rfl⟩
 |0,_::_,h=>by simp[aBF]at h
 |n+1,cs,h=>by
  unfold aBF at h
  split at h
  ·exfalso;omega
  ·rename_i m k rs ds heq
   cases heq;simp only[Ar,beq_iff_eq]at h
   obtain⟨r,h3,h4⟩:=aCo k _ h.1.1;obtain⟨l,h1,h2,h5⟩:=aB4 w n _ h.2;refine⟨r::l,by simp[h1],?_,?_⟩
   ·intro x hx
    rcases Au.1 hx with rfl|hx
    ·rw[h3,h.1.2]
    ·exact h2 x hx
   ·rw[h5,h4,<-h3];rfl
  ·cases h
theorem aPp{r:Option (A×H)}(h:gI r=true):∃(al:Int) (nx:List (List Int)) (ac:List Bool),1<=nx.length/\nx.length<=12/\ac.length=nx.length/\(∀r∈nx,r.length=(aB al).length)/\r=some (.tup [autD al nx ac,.d (.bool true)],[]):=by
 unfold gI at h
 split at h
 ·rename_i al n rs m bs
  simp only[Ar,decide_eq_true_eq,beq_iff_eq]at h;obtain⟨⟨⟨h1,h2⟩,h3⟩,h4,h5⟩:=h;obtain⟨l,g1,g2,g3⟩:=aB4 _ _ _ h1;obtain⟨b,g4,g5⟩:=UG _ _ h2;subst g3;subst g5;refine⟨al,l,b,by omega,by omega,by omega,g2,?_⟩;unfold autD;rw[g1,g4]
 ·cases h
theorem WZ{t:List UInt8}(ht:t∈CP):∃(al:Int) (nx:List (List Int)) (ac:List Bool),1<=nx.length/\nx.length<=12/\ac.length=nx.length/\(∀r∈nx,r.length=(aB al).length)/\∀(L n:Nat),12<=n->2^60<=L->aA env L n 86 [.d (.str t)] []=some (.tup [autD al nx ac,.d (.bool true)],[]):=by
 obtain⟨al,nx,ac,h1,h2,h3,h4,h5⟩:=aPp (aOA t ht);exact⟨al,nx,ac,h1,h2,h3,h4,fun L n hn hL=>YR (by omega) hn _ _ _ _ h5⟩
theorem aHJ:(env.hint 50).mode=0:=kr
theorem UB{L n:Nat}(hn:1<=n):aA env L n 88 [] []=some (.d (.ivs 12 (aL CP)),[]):=by
 obtain _|n:=n;omega
 kernel_rfl
theorem aIL:type_of% fun {L}=>ks fun hn=> @UB L _ hn:=fun {L}=>ks fun hn=> @UB L _ hn
theorem aNg{c:List UInt8}(hc:c.length<=2000)(p:Int)(hp:0<=p)(hp2:p<=800000000):
  ∃(al:Int) (nx:List (List Int)) (ac:List Bool) (q:Int),1<=nx.length/\nx.length<=12/\ac.length=nx.length/\(∀r∈nx,r.length=(aB al).length)/\p<=q/\q<=p+60/\(Dw 14 50 [] (autD al nx ac) c p q):=by
 obtain⟨v,v0,v1,_,kd1⟩:=fA hc p 3 hp (by omega)
 by_cases hv:v=0
 ·subst hv;obtain⟨t,ht,kd2⟩:=aUP hc CP (by simp[CP]) (by simp[CP]) (p+1) (by omega) (by omega);have e11:CP.length=12:=rfl;rw[e11]at kd2;obtain⟨al,nx,ac,g1,g2,g3,g4,he⟩:=WZ ht;have kc_p:∀ {R:Type} {L n:Nat} {hq:H} {k:KA R},12<=n->2^60<=L->a6 env (aA env L n) hq 86 [.d (.str t)] k=k (.tup [autD al nx ac,.d (.bool true)]) hq:=fun hn hL=>c8 rfl (he _ _ hn hL) rfl (.inr rfl);refine⟨al,nx,ac,p+1+1,g1,g2,g3,g4,by omega,by omega,fun R L n hq k hn hL=>cD aHJ rfl (by simp[autD,idsA,idsL]) ?_⟩;unfold autD at kc_p|-;clear he g4;obtain _|n:=n;omega;simp -implicitDefEqProofs (maxSteps:=2000000) (disch:=try exact Dz) only[↓DN,↓kRet,UP,simprocAttr,↓aIL,↓kd1,↓kd2,↓kc_p,YV,OZ,Tryz.f50]
 ·obtain⟨al,_,kd2⟩:=zE hc [3,6,7,5,1,0,2] (by simp) (by simp) (p+1) (by omega) (by omega);obtain⟨nx,ac,q,g1,g2,g3,g4,g5,g6,kd3⟩:=aPH hc al (p+1+1) (by omega) (by omega);simp only[ints,Ai,Ap,Ad,Ac,Ag,Nat.reduceAdd]at kd2;refine⟨al,nx,ac,q,g1,by omega,g3,g4,by omega,by omega,fun R L n hq k hn hL=>cD aHJ rfl (by simp[autD,idsA,idsL]) ?_⟩;unfold autD at kd3|-;clear g4;obtain _|n:=n;omega;simp -implicitDefEqProofs (maxSteps:=2000000) (disch:=try exact Dz) only[↓DN,↓kRet,UP,simprocAttr,hv,↓kd1,↓kd2,↓kd3,YV,OZ,Tryz.f50]
theorem aJP{d:List (List Int)}{x y:Int}:aN d++[.ivs 2 [.int .i64 x,.int .i64 y]]=aN (d++[[x,y]]):=by
 simp[aN,rowD,ints]
theorem aGi{c:List UInt8}(hc:c.length<=2000):∀(j i:Nat) (p:Int) (d:List (List Int)) (bl:List Bool) (hi:i+j=12) (h1:1<=i) (hd:d.length=i) (hb:bl.length=i) (hr:∀r∈d,r.length=2) (hp:0<=p) (hp2:p+2*j<=1000000000),
  ∃(d2:List (List Int)) (bl2:List Bool) (q:Int),d2.length=12/\bl2.length=12/\(∀r∈d2,r.length=2)/\p<=q/\q<=p+2*j/\∀(R:Type) (L n m:Nat) (k:KE R),2<=n->2^60<=L->j<m->
  aM env (aA env L n) L 1 [] Bz23 (sY 0) Bz37 m (.ptr 0 0 0::Y1 (.ptr 1 0 0::.ptr 2 0 0::nI i::Y16 (Y8 (Y4 (Y2 (Y1 ([]))))))) (rdO c p::.box [nI 0,.sl 3 0 0 0,.sl 4 0 0 0]::.box [nI 3,.sl 5 0 0 d.length,.sl 6 0 0 bl.length]::.arr [] 0 0::.arr [] 0 0::.arr (aN d) 1 0::.arr (aJ bl) 1 0::[]) k
  =k (.exit 0) (.ptr 0 0 0::Y1 (.ptr 1 0 0::.ptr 2 0 0::nI 12::Y16 (Y8 (Y4 (Y2 (Y1 ([]))))))) (rdO c q::.box [nI 0,.sl 3 0 0 0,.sl 4 0 0 0]::.box [nI 3,.sl 5 0 0 d2.length,.sl 6 0 0 bl2.length]::.arr [] 0 0::.arr [] 0 0::.arr (aN d2) 1 0::.arr (aJ bl2) 1 0::[]):=by
 intro j
 induction j with
 |zero=>
  intro i p d bl hi h1 hd hb hr hp hp2;obtain rfl:i=12:=by omega
  refine⟨d,bl,p,hd,hb,hr,by omega,by omega,fun R L n m k hn hL hm=> ?_⟩;obtain _|m:=m;omega;have e12:((12:Nat):Int)=12:=rfl;rw[e12];simp -implicitDefEqProofs (maxSteps:=2000000) (disch:=try exact Dz) only[↓DN,↓kRet,UP,simprocAttr,Aj,AO,BK,Tryz.f60]
 |succ j ih=>
  intro i p d bl hi h1 hd hb hr hp hp2;obtain⟨x,hx,kd1⟩:=zE hc [(i:Int),0,11] (by simp) (by simp) p hp (by omega);obtain⟨v,v0,v1,_,kd2⟩:=fA hc (p+1) 5 (by omega) (by omega)
  obtain⟨d2,bl2,q,g1,g2,g3,g4,g5,kd3⟩:=ih (i+1) (p+1+1) (d++[[((i:Int)+1).tmod 12,x]]) (bl++[decide (v=0)]) (by omega) (by omega) (by simp[hd]) (by simp[hb]) (by
   intro r hrm
   rcases Al.1 hrm with h|h
   ·exact hr r h
   ·simp at h;subst h;rfl) (by omega) (by omega)
  refine⟨d2,bl2,q,g1,g2,g3,by omega,by omega,fun R L n m k hn hL hm=> ?_⟩;obtain _|m:=m;omega;have kd3':=kd3 R L n m k hn hL (by omega);rw[cs1 i]at kd3';simp only[Af,Ad,Ac,Ag]at kd3';have hc1:(i:Int)<12:=by omega
  have hc2:¬((i:Int)=0):=by omega
  have hb1:(0:Int)<=i:=by omega
  have hdl:d.length<=12:=by omega
  have hbl:bl.length<=12:=by omega
  simp only[ints,Ai,Ap,Ad,Ac,Ag,Nat.reduceAdd]at kd1;clear ih kd3 hr g3;simp -implicitDefEqProofs (maxSteps:=2000000) (disch:=try exact Dz) only[↓DN,↓kRet,UP,simprocAttr,LA,hc1,hc2,↓kd1,↓kd2,aJP,uF,↓kd3',Br,AO,BK,Tryz.f60]
theorem XA{c:List UInt8}(hc:c.length<=2000)(p:Int)(hp:0<=p)(hp2:p<=900000000):
  ∃(d2:List (List Int)) (bl2:List Bool) (q:Int),d2.length=12/\bl2.length=12/\(∀r∈d2,r.length=2)/\p<=q/\q<=p+40/\∀(R:Type) (L n m:Nat) (k:KE R),2<=n->2^60<=L->12<m->
  aM env (aA env L n) L 1 [] Bz23 (sY 0) Bz37 m (.ptr 0 0 0::Y1 (.ptr 1 0 0::.ptr 2 0 0::nI 0::Y16 (Y8 (Y4 (Y2 (Y1 ([]))))))) (rdO c p::.box [nI 0,.sl 3 0 0 0,.sl 4 0 0 0]::.box [nI 3,.sl 5 0 0 0,.sl 6 0 0 0]::.arr [] 0 0::.arr [] 0 0::.arr [] 0 0::.arr [] 0 0::[]) k
  =k (.exit 0) (.ptr 0 0 0::Y1 (.ptr 1 0 0::.ptr 2 0 0::nI 12::Y16 (Y8 (Y4 (Y2 (Y1 ([]))))))) (rdO c q::.box [nI 0,.sl 3 0 0 0,.sl 4 0 0 0]::.box [nI 3,.sl 5 0 0 d2.length,.sl 6 0 0 bl2.length]::.arr [] 0 0::.arr [] 0 0::.arr (aN d2) 1 0::.arr (aJ bl2) 1 0::[]):=by
 obtain⟨x,hx,kd1⟩:=zE hc [0,0,11] (by simp) (by simp) p hp (by omega);obtain⟨d2,bl2,q,g1,g2,g3,g4,g5,kd3⟩:=aGi hc 11 1 (p+1) [[1,x]] [true] (by omega) (by omega) rfl rfl (by simp) (by omega) (by omega);refine⟨d2,bl2,q,g1,g2,g3,by omega,by omega,fun R L n m k hn hL hm=> ?_⟩;obtain _|m:=m;omega;have kd3':=kd3 R L n m k hn hL (by omega);simp only[ints,Ai,Ap,Ad,Ac,Ag,Nat.reduceAdd]at kd1;have e1:aN [[1,x]]=[.ivs 2 [.int .i64 1,.int .i64 x]]:=rfl;have e2:aJ [true]=[.bool true]:=rfl;have e3:((1:Nat):Int)=1:=rfl;rw[e1,e2,e3]at kd3';simp only[Ad,Ac,Ag]at kd3';clear kd3;simp -implicitDefEqProofs (maxSteps:=2000000) (disch:=try exact Dz) only[↓DN,↓kRet,UP,simprocAttr,↓kd1,↓kd3',Br,AO,BK,Tryz.f60]
theorem aLi{c:List UInt8}(hc:c.length<=2000)(p:Int)(hp:0<=p)(hp2:p<=900000000):
  ∃(nx:List (List Int)) (ac:List Bool) (q:Int),nx.length=12/\ac.length=12/\(∀r∈nx,r.length=(aB 3).length)/\p<=q/\q<=p+40/\∀(L n:Nat),3<=n->2^60<=L->
  aA env L n 60 [.ptr 0 0 0] [rdO c p]=some (autD 3 nx ac,[rdO c q]):=by
 obtain⟨d2,bl2,q,g1,g2,g3,g4,g5,kd⟩:=XA hc p hp hp2;refine⟨d2,bl2,q,g1,g2,g3,by omega,by omega,fun L n hn hL=> ?_⟩;have loop_a:=fun {R:Type} {n:Nat} {k:KE R} (hn:2<=n)=>kd R L n L k hn hL (by omega);have hr1:=rG (l:=d2);have hb1:=eP (l:=bl2);unfold autD;clear kd g3;obtain _|n:=n;omega;simp -implicitDefEqProofs (maxSteps:=2000000) (disch:=try exact Dz) only[↓DN,↓kAsg,↓kRet,UP,simprocAttr,LA,↓loop_a,hr1,hb1,Ab,aMd,aFa,Tryz.f60]
theorem aIY{d:List (List Int)}{o o1 o2 o3:O}{p:H}{k:Nat}(h:k=d.length+3):(aI d++o1::o2::o3::o::p)[k]? =some o:=by
 subst h;rw[Bh (by rw[cJ];omega),cJ,Dr];rfl
theorem rS{t:H}{y1 y2:D}{v w n m gv gw:Nat}{al:Int}{rs:List (List Int)}{ac:List Bool}(k1:rd1 (.box [.d y1,.d y2]::t) (.sl v gv 0 n)=some (.ivs rs.length (aN rs)))(k2:rd1 (.box [.d y1,.d y2]::t) (.sl w gw 0 m)=some (.ivs ac.length (aJ ac)))(hv:1<=v)(hw:1<=w):
  ∃h2,oT 1 false (.box [.d y1,.d y2]::t) [.agg [nI al,.sl v gv 0 n,.sl w gw 0 m]]=some ([autD al rs ac],h2)/\aD 1099511627776 h2 (d6 (List.take 1 h2)) [0]=[0]/\List.getD h2 0 default=.box [.d y1,.d y2]:=by
 obtain⟨ha,e1,i1⟩:=WU 4 (aE4 _) k1;obtain⟨hb,e2,i2⟩:=WU 4 i1 k2
 have h0:hb[0]? =some (.box [.d y1,.d y2]):=by
  rcases i2 0 with h|⟨_,_,_,h,_⟩|⟨_,_,_,_,h,_⟩
  ·rw[h];rfl
  ·cases h
  ·cases h
 obtain⟨t2,rfl⟩:∃t2,hb=.box [.d y1,.d y2]::t2:=by
  cases hb with
  |nil=>simp at h0
  |cons o t2=>simp at h0;exact⟨t2,by rw[h0]⟩
 refine⟨.box [.d y1,.d y2]::t2,?_,rfl,rfl⟩;have hv1:¬(v<1):=by omega
 have hv2:¬(w<1):=by omega
 simp only[oT,outA,BJ,outS,hv1,hv2,decide_false,Bool.or_self,Ak,if_false];rw[show deep=4+1 from rfl,e1];simp only[Ax];rw[e2];rfl
theorem jZ:(env.hint 59).mode=0:=kr
theorem UJ{R:Type}{L n:Nat}{hq:H}{al:Int}{rs:List (List Int)}{ac:List Bool}{k:KA R}(hs:bF rs)(h1:1<=rs.length)(ha:ac.length<=4294967295)(hn:2<=n)(hL:2^60<=L):
  a6 env (aA env L n) hq 85 [.agg [nI al,.d (.ivs rs.length (aN rs)),.d (.ivs ac.length (aJ ac))]] k=k (autA hq.length al rs.length ac.length) (hq++autO hq.length rs ac):=by
 have he:=aJJ hn al rs ac hs h1 ha hL;have hb:∀b i,i<rs.length+2->back [] b (autO 0 rs ac).length i=some (b+i):=fun b i hi=>aGW (by rw[OB];exact hi);have hA:∀b,mapA (back [] b (autO 0 rs ac).length) (autA 0 al rs.length ac.length)=autA b al rs.length ac.length:=fun b=>aHz (by simpa using hb b 0 (by omega)) (by simpa using hb b 1 (by omega));have hO:∀b,(autO 0 rs ac).map (mapO (back [] b (autO 0 rs ac).length))=autO b rs ac:=fun b=>aQT OB;obtain⟨o,t,hot⟩:∃o t,autO 0 rs ac=o::t:=⟨_,_,rfl⟩
 have hcall:b8 (aA env L n) env.hint [] 85 [.agg [nI al,.d (.ivs rs.length (aN rs)),.d (.ivs ac.length (aJ ac))]]=some (autA 0 al rs.length ac.length,autO 0 rs ac):=by
  have h2:=hA 0;have h3:=hO 0;have hf:fB [] [.agg [nI al,.d (.ivs rs.length (aN rs)),.d (.ivs ac.length (aJ ac))]]=some ([.agg [nI al,.d (.ivs rs.length (aN rs)),.d (.ivs ac.length (aJ ac))]],[]):=rfl;rw[hot]at he h2 h3|-;unfold b8;rw[u3];simp only[hf,he,Ac,Am,h2,h3]
 have hids:idsL [A.agg [nI al,.d (.ivs rs.length (aN rs)),.d (.ivs ac.length (aJ ac))]]=[]:=by simp[idsL,idsA]
 unfold a6;rw[hids,FN,iT _ hids];have hp:pack hq []=[]:=rfl;rw[hp,hcall];simp only[Ac,Nat.zero_le,true_and,closed,Cb,Bu,if_true,bG,hA,hO]
theorem aHK{c:List UInt8}(hc:c.length<=2000)(al:Int)(nx:List (List Int))(ac:List Bool)(hs:bF nx)(h1:1<=nx.length)(ha:ac.length<=4294967295)(p t u:Int)(hu0:¬(u=0))(hu1:¬(u=1))(hu2:¬(u=2))(hu3:¬(u=3))(hu4:¬(u=4))(hu5:¬(u=5))
  (kd1:(Dw 1 49 [nI (nx.length)] (nI t) c p (p+1)))
  (kd2:(Dw 1 49 [nI 30] (nI u) c (p+1) (p+1+1))):(Dw 4 59 [autD al nx ac] (autD al nx ac) c p (p+1+1)):=by
 intro R L n hq k hn hL;refine cD jZ (by simp[autD,idsA,idsL]) (by simp[autD,idsA,idsL]) ?_;have hnl:=hs.1;have kd3:=fun {R:Type} {n:Nat} {hq:H} {k:KA R} (hn:2<=n)=>UJ (R:=R) (L:=L) (n:=n) (hq:=hq) (al:=al) (k:=k) hs h1 ha hn hL;simp only[autA,autO]at kd3
 have hH:Has (rdO c (p+1+1)::.box [nI al,.d (.ivs nx.length (aN nx)),.d (.ivs ac.length (aJ ac))]::.arr [] 0 0::.arr [] 0 0::.box [nI al,.sl 5 0 0 nx.length,.sl 6 0 0 ac.length]::.vec (aC 7 nx++aF 0) 1 0::.arr (aJ ac) 1 0::(aI nx++.arr [] 0 0::.arr [] 0 0::.box [nI al,.sl 5 0 0 nx.length,.sl 6 0 0 ac.length]::[])) 5 nx ac:=by
  have:=NH (h:=[rdO c (p+1+1),.box [nI al,.d (.ivs nx.length (aN nx)),.d (.ivs ac.length (aJ ac))],.arr [] 0 0,.arr [] 0 0,.box [nI al,.sl 5 0 0 nx.length,.sl 6 0 0 ac.length]]) (v:=5) (rs:=nx) (ac:=ac) (p:=.arr [] 0 0::.arr [] 0 0::.box [nI al,.sl 5 0 0 nx.length,.sl 6 0 0 ac.length]::[]) rfl
  simpa using this
 obtain⟨h2,st_out,st_keep,st_trim⟩:=NC (n:=nx.length) (m:=ac.length) (al:=al) hH (by omega) rfl rfl;unfold autD at st_out|-;clear hH;obtain _|n:=n;omega;simp -implicitDefEqProofs (maxSteps:=2000000) (disch:=try exact Dz) only[↓DN,↓kRet,UP,simprocAttr,hu0,hu1,hu2,hu3,hu4,hu5,↓kd1,↓kd2,↓kd3,cJ,Ao,GF,H3,↓st_out,↓st_keep,↓st_trim,dI,dO,Tryz.f59]
theorem aL9{c:List UInt8}(hc:c.length<=2000)(al:Int)(nx:List (List Int))(ac:List Bool)(hs:bF nx)(h1:1<=nx.length)(ha:ac.length<=4294967295)(p t:Int)(hp:0<=p)(hp2:p<=900000000)
  (kd1:(Dw 1 49 [nI (nx.length)] (nI t) c p (p+1)))
  (kd2:(Dw 1 49 [nI 30] (nI 0) c (p+1) (p+1+1))):∃al2:Int,(Dw 4 59 [autD al nx ac] (autD al2 nx ac) c p (p+1+1+1)):=by
 obtain⟨al2,_,kd4⟩:=zE hc [64,-1,1,63,0] (by simp) (by simp) (p+1+1) (by omega) (by omega);simp only[ints,Ai,Ap,Ad,Ac,Ag,Nat.reduceAdd]at kd4;refine⟨al2,?_⟩;intro R L n hq k hn hL;refine cD jZ (by simp[autD,idsA,idsL]) (by simp[autD,idsA,idsL]) ?_;have hnl:=hs.1;have kd3:=fun {R:Type} {n:Nat} {hq:H} {k:KA R} (hn:2<=n)=>UJ (R:=R) (L:=L) (n:=n) (hq:=hq) (al:=al) (k:=k) hs h1 ha hn hL;simp only[autA,autO]at kd3
 have hH:Has (rdO c (p+1+1+1)::.box [nI al,.d (.ivs nx.length (aN nx)),.d (.ivs ac.length (aJ ac))]::.arr [] 0 0::.arr [] 0 0::.box [nI al2,.sl 5 0 0 nx.length,.sl 6 0 0 ac.length]::.vec (aC 7 nx++aF 0) 1 0::.arr (aJ ac) 1 0::(aI nx++.arr [] 0 0::.arr [] 0 0::.box [nI al2,.sl 5 0 0 nx.length,.sl 6 0 0 ac.length]::.arr [.int .i64 64,.int .i64 (-1),.int .i64 1,.int .i64 63,.int .i64 0] 1 0::[])) 5 nx ac:=by
  have:=NH (h:=[rdO c (p+1+1+1),.box [nI al,.d (.ivs nx.length (aN nx)),.d (.ivs ac.length (aJ ac))],.arr [] 0 0,.arr [] 0 0,.box [nI al2,.sl 5 0 0 nx.length,.sl 6 0 0 ac.length]]) (v:=5) (rs:=nx) (ac:=ac) (p:=.arr [] 0 0::.arr [] 0 0::.box [nI al2,.sl 5 0 0 nx.length,.sl 6 0 0 ac.length]::.arr [.int .i64 64,.int .i64 (-1),.int .i64 1,.int .i64 63,.int .i64 0] 1 0::[]) rfl
  simpa using this
 obtain⟨h2,st_out,st_keep,st_trim⟩:=NC (n:=nx.length) (m:=ac.length) (al:=al2) hH (by omega) rfl rfl
 have hnum:(O.box [nI al,.d (.ivs nx.length (aN nx)),.d (.ivs ac.length (aJ ac))]::.arr [] 0 0::.arr [] 0 0::.box [nI 0,.sl 2 0 0 0,.sl 3 0 0 0]::.vec (aC 7 nx++aF 0) 1 0::.arr (aJ ac) 1 0::(aI nx++[.arr [] 0 0,.arr [] 0 0,.box [nI al,.sl 5 0 0 nx.length,.sl 6 0 0 ac.length],.arr [.int .i64 64,.int .i64 (-1),.int .i64 1,.int .i64 63,.int .i64 0] 1 0]))[nx.length+3+1+1+1+1+1+1]? =some (.arr [.int .i64 64,.int .i64 (-1),.int .i64 1,.int .i64 63,.int .i64 0] 1 0):=by
  simp only[At];exact aIY rfl
 unfold autD at st_out|-;clear hH;obtain _|n:=n;omega;simp -implicitDefEqProofs (maxSteps:=2000000) (disch:=try exact Dz) only[↓DN,↓kRet,UP,simprocAttr,↓kd1,↓kd2,↓kd3,↓kd4,cJ,Ao,GF,H3,↓st_out,↓st_keep,↓st_trim,dI,dO,Tryz.f59]
section
variable{R:Type}{L n:Nat}
abbrev Str:=List UInt8
theorem iD{l:List Str}{k:Nat}(h:l.length<=k):(aL l).take k=aL l:=Bz (by rw[eN];exact h)
theorem mK{l:List Str}{v:Str}:aL l++[.str v]=aL (l++[v]):=by simp[aL]
theorem kU:aL []=[]:=rfl
theorem aPZ{l:List Str}{k:Nat}{v:Str}(h:k<l.length):bH (aL l) k [.str v]=aL (l.set k v):=xW _ l k v h
theorem aLE{l:List Str}{k:Nat}:(aL l).drop k=aL (l.drop k):=by simp[aL]
theorem SE:type_of% (AI @eN (AI @iD @PA)):=
 ⟨@eN,@iD,@PA⟩
theorem aU3:env.P.cellsOf 9=1:=kr
theorem aUz:(env.P.info? 9).isSome=true:=kr
theorem aDP{h:H}{g e k:Nat}{l:List Str}{b:Str}(hk:k<l.length):j5 env.P (.arr (aL l) e g::h) 9 (.ptr 0 g k) (.d (.str b))=some (.arr (aL (l.set k b)) e g::h):=by
 rw[s6 (id:=0) rfl aU3 aUz rfl (by rw[eN];exact hk),aPZ hk];rfl
def fN(l:List Str)(v:Str)(i:Nat):Bool:=decide (l.getD i []=v)
theorem UF{l:List Str}{v:Str}:(seek (fN l v) l.length 0).isSome=decide (v∈l):=by
 have h:(seek (fN l v) l.length 0).isSome=true↔v∈l:=by
  constructor
  ·intro h
   cases hs:seek (fN l v) l.length 0 with
   |none=>rw[hs]at h;cases h
   |some r=>
    obtain⟨h1,h2,h3,_⟩:=KF hs;unfold fN at h3;rw[decide_eq_true_eq]at h3;rw[<-h3];exact aAj (by omega)
  ·intro h;obtain⟨i,hi,rfl⟩:=Cl h
   cases hs:seek (fN l l[i]) l.length 0 with
   |some r=>rfl
   |none=>
    have:=sF.1 hs i (by omega) (by omega);unfold fN at this;rw[Aa,Ae hi]at this;simp at this
 cases hb:(seek (fN l v) l.length 0).isSome with
 |true=>rw[decide_eq_true (h.1 hb)]
 |false=>rw[decide_eq_false fun hv=>by rw[h.2 hv]at hb;cases hb]
theorem aHh(hn:1<=n){l:List Str}{v:Str}(hl:l.length<=4294967296){k:KE R}:∀(j i m:Nat) (hi:i+j=l.length) (hm:j<m),
  aM env (aA env L n) L 0 [] Bz14 (x6 0) Bz43 m (.d (.ivs l.length (aL l))::.d (.str v)::Y2 (.d (.bool false)::nI i::Y8 (Y4 ([])))) [] k
  =match seek (fN l v) j i with
   |none=>k (.exit 0) (.d (.ivs l.length (aL l))::.d (.str v)::Y2 (.d (.bool false)::nI (l.length)::Y8 (Y4 ([])))) []
   |some q=>k .ret (.d (.ivs l.length (aL l))::.d (.str v)::Y2 (.d (.bool true)::nI q::Y8 (Y4 ([])))) []:=by
 intro j
 induction j with
 |zero=>
  intro i m hi hm;obtain _|m:=m;omega;obtain rfl:i=l.length:=by omega
  simp -implicitDefEqProofs (maxSteps:=2000000) (disch:=try exact Dz) only[↓DN,↓kRet,UP,simprocAttr,Aj,AM,BM,Tryz.f76];rfl
 |succ j ih=>
  intro i m hi hm;obtain _|m:=m;omega;have hc:(i:Int)<l.length:=by omega
  have hk:i<l.length:=by omega
  have hi0:(0:Int)<=i:=by omega
  by_cases h1:l.getD i []=v
  ·have hb:fN l v i=true:=by unfold fN;rw[decide_eq_true h1]
   rw[kH hb];clear ih;simp -implicitDefEqProofs (maxSteps:=2000000) (disch:=try exact Dz) only[↓DN,↓kAsg,↓kRet,UP,simprocAttr,SE,hc,hi0,h1,AM,BM,Tryz.f76]
  ·have hb:fN l v i=false:=by unfold fN;rw[decide_eq_false h1]
   rw[mQ hb];have ih':=ih (i+1) m (by omega) (by omega);rw[cs1 i]at ih';have h2:(l.getD i []==v)=false:=by simpa using h1
   clear ih;simp -implicitDefEqProofs (maxSteps:=2000000) (disch:=try exact Dz) only[↓DN,↓kRet,UP,simprocAttr,SE,hc,hi0,h2,↓ih',AM,BM,Tryz.f76]
theorem aCm(hn:2<=n)(l:List Str)(v:List UInt8)(hl:l.length<=4294967296)(hL:2^60<=L):aA env L n 76 [.d (.ivs l.length (aL l)),.d (.str v)] []=some (.d (.bool (decide (v∈l))),[]):=by
 have loop_c:=fun {R n k} hn=> @aHh R L n hn l v hl k l.length 0 L (by omega) (by omega);rw[<-UF];simp only[Aq]at loop_c
 cases hs:seek (fN l v) l.length 0 with
 |none=>
  rw[hs]at loop_c;simp only[Cn];obtain _|n:=n;omega;simp -implicitDefEqProofs (maxSteps:=2000000) (disch:=try exact Dz) only[↓DN,↓kAsg,UP,simprocAttr,↓loop_c,aCv,UA,Tryz.f76]
 |some q=>
  rw[hs]at loop_c;simp only[Db];obtain _|n:=n;omega;simp -implicitDefEqProofs (maxSteps:=2000000) (disch:=try exact Dz) only[↓DN,↓kAsg,UP,simprocAttr,↓loop_c,aCv,UA,Tryz.f76]
theorem aLp:type_of% fun {L} l v hl hL=>kt fun hn=> @aCm L _ hn l v hl hL:=fun {L} l v hl hL=>kt fun hn=> @aCm L _ hn l v hl hL
theorem SI{L:Nat}{id0 g0 o0 len0:Nat}{v:List UInt8}:KV L 76 [.sl id0 g0 o0 len0,.d (.str v)]:=fun _ _ _ _=>dU HA
theorem xE(hn:1<=n){l:List Str}{v:Str}{i5:A}(hl:l.length<=4294967296){k:KE R}:∀(j i m:Nat) (hi:i+j=l.length) (hm:j<m),
  aM env (aA env L n) L 0 [] Bz48 (d5 0) (Z2 (U2 (Z1 (U2 (Z2 (U8 (U2 ([])))))))) m (.d (.ivs l.length (aL l))::.d (.str v)::Y2 (nI 0::Y2 (nI (l.length)::nI i::Y8 (Y2 ([]))))) [] k
  =match seek (fN l v) j i with
   |none=>k (.exit 0) (.d (.ivs l.length (aL l))::.d (.str v)::Y2 (nI 0::Y2 (nI (l.length)::nI (l.length)::Y8 (Y2 ([]))))) []
   |some q=>k .ret (.d (.ivs l.length (aL l))::.d (.str v)::Y2 (nI q::Y2 (nI (l.length)::nI q::Y8 (Y2 ([]))))) []:=by
 intro j
 induction j with
 |zero=>
  intro i m hi hm;obtain _|m:=m;omega;obtain rfl:i=l.length:=by omega
  simp -implicitDefEqProofs (maxSteps:=2000000) (disch:=try exact Dz) only[↓DN,↓kRet,UP,simprocAttr,Aj,gC,eY,Tryz.f84];rfl
 |succ j ih=>
  intro i m hi hm;obtain _|m:=m;omega;have hc:(i:Int)<l.length:=by omega
  have hk:i<l.length:=by omega
  have hi0:(0:Int)<=i:=by omega
  by_cases h1:l.getD i []=v
  ·have hb:fN l v i=true:=by unfold fN;rw[decide_eq_true h1]
   rw[kH hb];clear ih;simp -implicitDefEqProofs (maxSteps:=2000000) (disch:=try exact Dz) only[↓DN,↓kRet,UP,simprocAttr,SE,hc,hi0,h1,gC,eY,Tryz.f84]
  ·have hb:fN l v i=false:=by unfold fN;rw[decide_eq_false h1]
   rw[mQ hb];have ih':=ih (i+1) m (by omega) (by omega);rw[cs1 i]at ih';have h2:(v==l.getD i [])=false:=by simpa using fun h=>h1 h.symm
   clear ih;simp -implicitDefEqProofs (maxSteps:=2000000) (disch:=try exact Dz) only[↓DN,↓kRet,UP,simprocAttr,SE,hc,hi0,h2,↓ih',gC,eY,Tryz.f84]
def aC2(l:List Str)(v:Str):Int:=match seek (fN l v) l.length 0 with|none=> -1|some q=>q
theorem m2(hn:2<=n)(l:List Str)(v:List UInt8)(hl:l.length<=4294967296)(hL:2^60<=L):aA env L n 84 [.d (.ivs l.length (aL l)),.d (.str v)] []=some (nI (aC2 l v),[]):=by
 have loop_c:=fun {R n k} hn=> @xE R L n hn l v (.junk) hl k l.length 0 L (by omega) (by omega);simp only[Aq]at loop_c;unfold aC2
 cases hs:seek (fN l v) l.length 0 with
 |none=>
  rw[hs]at loop_c;simp only;obtain _|n:=n;omega;simp -implicitDefEqProofs (maxSteps:=2000000) (disch:=try exact Dz) only[↓DN,↓kAsg,↓kRet,UP,simprocAttr,↓loop_c,m3,jM,Tryz.f84]
 |some q=>
  rw[hs]at loop_c;simp only;obtain _|n:=n;omega;simp -implicitDefEqProofs (maxSteps:=2000000) (disch:=try exact Dz) only[↓DN,↓kAsg,↓kRet,UP,simprocAttr,↓loop_c,m3,jM,Tryz.f84]
theorem zK:type_of% fun {L} l v hl hL=>ks fun hn=> @m2 L _ hn l v hl hL:=fun {L} l v hl hL=>ks fun hn=> @m2 L _ hn l v hl hL
theorem aLD{l:List Str}{v:Str}:decide (0<=aC2 l v)=decide (v∈l):=by
 rw[<-UF];unfold aC2
 cases seek (fN l v) l.length 0 with
 |none=>rfl
 |some q=>simp
theorem lO(hn:3<=n)(l:List Str)(v:List UInt8)(hl:l.length<=4294967296)(hL:2^60<=L):aA env L n 47 [.d (.ivs l.length (aL l)),.d (.str v)] []=some (.d (.bool (decide (v∈l))),[]):=by
 rw[<-aLD];obtain _|n:=n;omega;simp -implicitDefEqProofs (maxSteps:=2000000) (disch:=try exact Dz) only[↓DN,↓kAsg,↓kRet,UP,simprocAttr,↓zK,vI,lS,Tryz.f47]
theorem vQ:type_of% fun {L} l v hl hL=>kt fun hn=> @lO L _ hn l v hl hL:=fun {L} l v hl hL=>kt fun hn=> @lO L _ hn l v hl hL
theorem kN{L:Nat}{id0 g0 o0 len0:Nat}{v:List UInt8}:KV L 47 [.sl id0 g0 o0 len0,.d (.str v)]:=fun _ _ _ _=>dU fP
end
section
section
variable{L n:Nat}{h:H}
end
end
theorem KM{f:A->Option D}:∀ {cs:List A} {ds:List D},cs.length=ds.length->(∀(i:Nat) (a:A) (x:D),cs[i]? =some a->ds[i]? =some x->f a=some x)->gD f cs=some ds
 | [],[],_,_=>rfl
 | [],_::_,h,_=>by cases h
 |_::_,[],h,_=>by cases h
 |a::cs,x::ds,h,hf=>by
  have h0:=hf 0 a x rfl rfl;have h1:=KM (f:=f) (cs:=cs) (ds:=ds) (by simpa using h) (fun i b y hb hy=>hf (i+1) b y (by simpa using hb) (by simpa using hy));simp only[gD,h0,h1]
theorem wM{h:H}{v gv n:Nat}{cs:List A}{rs:List (List Int)}(hv:h[v]? =some (.vec cs 1 gv))(hc:gD (rd0 h) cs=some (aN rs))(hn:n=rs.length):rd1 h (.sl v gv 0 n)=some (.ivs rs.length (aN rs)):=by
 subst hn;have hl:=N5 hc;have hr:(aN rs).length=rs.length:=by simp[aN]
 simp only[rd1,hv,hc,Ax,Bc,Ag,Cc];rw[if_pos ⟨trivial,by omega⟩]
 congr 2
 exact Bz (by omega)
theorem oB{h:H}{v gv n:Nat}{ac:List Bool}(hv:h[v]? =some (.arr (aJ ac) 1 gv))(hn:n=ac.length):rd1 h (.sl v gv 0 n)=some (.ivs ac.length (aJ ac)):=by
 subst hn;have hr:(aJ ac).length=ac.length:=by simp[aJ]
 simp only[rd1,rd0,hv,Bc,Ag,Cc];rw[if_pos ⟨trivial,by omega⟩]
 congr 2
 exact Bz (by omega)
theorem ZS{rs:List (List Int)}{i:Nat}{x:D}(h:(aN rs)[i]? =some x):∃r,rs[i]? =some r/\x=rowD r:=by
 unfold aN at h;rw[Bd]at h
 cases hr:rs[i]? with
 |none=>rw[hr]at h;cases h
 |some r=>rw[hr]at h;simp at h;exact⟨r,rfl,h.symm⟩
theorem O1:∀ {rs:List (List Int)} {b i:Nat} {a:A},(aC b rs)[i]? =some a->∃r,rs[i]? =some r/\a=.sl (b+i) 0 0 r.length
 | [],b,i,a,h=>by simp[aC]at h
 |r::rs,b,0,a,h=>by simp[aC]at h;exact⟨r,rfl,h.symm⟩
 |r::rs,b,i+1,a,h=>by
  simp only[aC,At]at h;obtain⟨q,h1,h2⟩:=O1 h;exact⟨q,by simpa using h1,by rw[h2];congr 1;omega⟩
theorem jY:∀ {h:H} {i:Nat} {o:O},wgt (h.set i o)<=wgt h+(eJ o).length
 | [],i,o=>by simp[wgt]
 |x::h,0,o=>by
  have e1:=pU [o] h;have e2:=pU [x] h;have e3:wgt [o]=(eJ o).length:=by cases o<;>simp[wgt,eJ]
  simp only[Cf];simp only[Ee]at e1 e2;omega
 |x::h,i+1,o=>by
  have ih:=jY (h:=h) (i:=i) (o:=o);have e1:=pU [x] (h.set i o);have e2:=pU [x] h;simp only[Bn];simp only[Ee]at e1 e2;omega
theorem lW{o:O}{h:H}:wgt (o::h)=(eJ o).length+wgt h:=by
 cases o<;>simp[wgt,eJ]
theorem AY{o:O}{h:H}:wgt (h++[o])=wgt h+(eJ o).length:=by
 rw[pU,lW];rfl
structure Cpy(y z:O)(al:Int)(nx:List (List Int))(ac:List Bool)(N:Nat)(T1 T2 T3:H):Prop where
 hN:N=nx.length+6
 h1:y::.arr [] 0 0::.arr [] 0 0::z::autO 5 nx ac=T1
 l1:T1.length=N
 h2:T1++[.arr [] 0 0,.arr [] 0 0,.box [nI 0,.sl (N+1) 0 0 0,.sl (N+1+1) 0 0 0]]=T2
 b2:T2[N+1+1]? =some (.box [nI 0,.sl (N+1) 0 0 0,.sl (N+1+1) 0 0 0])
 h3:T2.set (N+1+1) (.box [nI al,.sl 5 0 0 nx.length,.sl 6 0 0 ac.length])=T3
 l3:T3.length=N+1+1+1
 t3:T3[3]? =some z
 t4:T3[4]? =some (.vec (aC 7 nx++aF 0) 1 0)
 t5:T3[5]? =some (.arr (aJ ac) 1 0)
 tr:∀(i:Nat) (r:List Int),nx[i]? =some r->T3[i+6]? =some (.arr (ints r) 1 0)
 tb:T3[N+1+1]? =some (.box [nI al,.sl 5 0 0 nx.length,.sl 6 0 0 ac.length])
 e3:T3=y::.arr [] 0 0::.arr [] 0 0::z::.vec (aC 7 nx++aF 0) 1 0::.arr (aJ ac) 1 0::(aI nx++[.arr [] 0 0,.arr [] 0 0,.box [nI al,.sl 5 0 0 nx.length,.sl 6 0 0 ac.length]])
 wg:wgt T3<=nx.length+8+(eJ y).length+(eJ z).length
theorem kW(y z:O)(al:Int)(nx:List (List Int))(ac:List Bool):∃(N:Nat) (T1 T2 T3:H),Cpy y z al nx ac N T1 T2 T3:=by
 have l1:(y::.arr [] 0 0::.arr [] 0 0::z::autO 5 nx ac).length=nx.length+6:=by simp[OB]
 generalize hT1:y::.arr [] 0 0::.arr [] 0 0::z::autO 5 nx ac=T1 at l1;have low:∀(l:H) (i:Nat),i<nx.length+6->(T1++l)[i]? =T1[i]?:=fun l i hi=>Ba (by omega);have g2:∀a b c:O,(T1++[a,b,c])[nx.length+6+1+1]? =some c:=fun a b c=>by rw[<-l1];exact aQ5
 have g3:∀a b c d:O,(T1++[a,b,c]).set (nx.length+6+1+1) d=T1++[a,b,d]:=fun a b c d=>by rw[<-l1];exact aRb
 refine⟨nx.length+6,T1,_,_,rfl,hT1,l1,rfl,g2 _ _ _,rfl,by rw[Bl];simp[l1],?_,?_,?_,?_,?_,?_,?_⟩
 ·rw[g3,low _ _ (by omega),<-hT1];rfl
 ·rw[g3,low _ _ (by omega),<-hT1];rfl
 ·rw[g3,low _ _ (by omega),<-hT1];rfl
 ·intro i r hr;have hi:i<nx.length:=(As.1 hr).1;rw[g3,low _ _ (by omega),<-hT1];simp only[autO,At];have:=F1 (p:=[]) hr
  rwa [Ah]at this
 ·rw[g3,g2]
 ·rw[g3,<-hT1];simp[autO]
 ·rw[g3,pU,<-hT1,lW,lW,lW,lW,aTZ];simp[wgt,eJ,idsL,idsA];omega
theorem cK{T T':H}{i:Nat}{o:O}(h:T.set i o=T')(hi:i<T.length):T'.length=T.length/\T'[i]? =some o/\∀j,j≠i->T'[j]? =T[j]?:=by
 subst h;exact⟨Bl,Dy hi,fun j hj=>Df (fun e=>hj e.symm)⟩
theorem j2{T T':H}{o:O}(h:T++[o]=T'):T'.length=T.length+1/\T'[T.length]? =some o/\∀j,j<T.length->T'[j]? =T[j]?:=by
 subst h;exact⟨by simp,by simp,fun j hj=>Ba hj⟩
theorem HV{h:H}{nx:List (List Int)}(hr:∀(i:Nat) (r:List Int),nx[i]? =some r->h[i+7]? =some (.arr (ints r) 1 0)):gD (rd0 h) (aC 7 nx++aF 0)=some (aN nx):=by
 refine KM (by rw[Af,gR];simp[aF,aN]) ?_;intro i a x ha hx;obtain⟨r,hr1,rfl⟩:=ZS hx;have hn:aF 0=[]:=rfl;rw[hn,Ah]at ha;obtain⟨r2,hr2,rfl⟩:=O1 ha;rw[hr1]at hr2;cases hr2;refine aBX ?_;rw[Nat.add_comm];exact hr i r hr1
theorem aIX{h:H}{b g:Nat}{r:List Int}(hr:h[b]? =some (.arr (ints r) 1 g)):rd0 h (.sl b g 0 r.length)=some (rowD r):=by
 have hl:(ints r).length=r.length:=by simp[ints]
 simp only[rd0,hr,Bc,Ag,Cc];rw[if_pos ⟨trivial,by omega⟩];unfold rowD
 congr 2
 exact Bz (by omega)
theorem aHc{h:H}{nx:List (List Int)}{t g:Nat}{row:List Int}(ht:t<nx.length)(hr:∀(i:Nat) (r:List Int),i≠t->nx[i]? =some r->h[i+7]? =some (.arr (ints r) 1 0))(h1:h[t+7]? =some (.arr (ints row) 1 g)){len:Nat}(hl:len=row.length):
  gD (rd0 h) ((aC 7 nx++aF 0).take t++[.sl (t+7) g 0 len]++(aC 7 nx++aF 0).drop (t+1))=some (aN (nx.set t row)):=by
 subst hl;have hn:aF 0=[]:=rfl;rw[hn,Ah];have hlr:(aC 7 nx).length=nx.length:=gR _ _
 have e:(aC 7 nx).take t++[.sl (t+7) g 0 row.length]++(aC 7 nx).drop (t+1)=(aC 7 nx).set t (.sl (t+7) g 0 row.length):=by
  rw[List.set_eq_take_append_cons_drop,if_pos (by omega)];simp
 rw[e];refine KM (by simp[hlr,aN]) ?_;intro i a x ha hx;obtain⟨r,hr1,rfl⟩:=ZS hx;rw[Ch]at ha hr1
 by_cases hi:t=i
 ·subst hi;rw[if_pos rfl,if_pos (by omega)]at ha;rw[if_pos rfl,if_pos ht]at hr1;cases ha;cases hr1;exact aIX h1
 ·rw[if_neg hi]at ha hr1;obtain⟨r2,hr2,rfl⟩:=O1 ha;rw[hr1]at hr2;cases hr2;refine aBX ?_;rw[Nat.add_comm];exact hr i r (fun e=>hi e.symm) hr1
theorem X6{h:H}{i:Nat}{cs:List D}{e g:Nat}(h1:h[i]? =some (.arr cs e g)):aD aG h [i] []=[i]:=by
 rw[show aG=1099511627774+1+1 from rfl,o9,wI];simp[Aa,h1,wI]
theorem aJm{h:H}{i j:Nat}{cs ds:List D}{e g e2 g2:Nat}(h1:h[i]? =some (.arr cs e g))(h2:h[j]? =some (.arr ds e2 g2))(hne:i≠j):aD aG h [i,j] []=[i,j]:=by
 rw[show aG=1099511627773+1+1+1 from rfl,o9];have hne':¬j=i:=fun e=>hne e.symm;simp[Aa,h1];rw[o9];simp[Aa,h2,hne',wI]
theorem aTo{i j:Nat}(hne:i≠j):aH [i,j] i=some 0/\aH [i,j] j=some 1:=by
 have hne':¬i=j:=hne;simp[aH,hne']
theorem K8{E:Env}{call:aZ}{thaw:List Nat}{dst:Option Tmp}{args:Array Operand}{t e:TypeId}{h:H}{id id2 g g2 e0 len n2:Nat}{cs src:List D}(he:cY E.P t=some e)(hce:E.P.cellsOf e=1)(hel:eW E.P e=true)
  (h1:h[id]? =some (.arr cs e0 g)) (he0:e0=0\/e0=1) (h2:h[id2]? =some (.arr src 1 g2)) (hn2:n2=src.length) (hlen:len<=cs.length) (hmax:len+n2<=bK) (hne:id≠id2):
  memD E call thaw dst (.call ⟨.builtin .append,args,#[t,t]⟩) h [.sl id g 0 len,.sl id2 g2 0 n2]=some (.sl id (g+1) 0 (len+n2),h.set id (.arr (cs.take len++src) 1 (g+1)),{ ids:=[id,id2],ro:=false,wr:=[id]}):=by
 subst hn2;have hids:idsL [A.sl id g 0 len,A.sl id2 g2 0 src.length]=[id,id2]:=rfl;obtain⟨hk,hk2⟩:=aTo hne;have hord:=aJm h1 h2 hne;have hcl:closed h [id,id2] [id,id2]=true:=by simp[closed,h1,h2]
 have p1:=iZ (h:=h) (bE hk) h1;have p2:=iZ (h:=h) (bE hk2) h2;have key:=IB (E:=E) (call:=call) (thaw:=thaw) (dst:=dst) (op:=.call ⟨.builtin .append,args,#[t,t]⟩) (h:=h) (vs:=[A.sl id g 0 len,A.sl id2 g2 0 src.length]) (a:=.sl 0 (g+1) 0 (len+src.length)) (a2:=.sl id (g+1) 0 (len+src.length)) (o:=.arr (cs.take len++src) 1 (g+1)) (o2:=.arr (cs.take len++src) 1 (g+1)) (id:=id) (k:=0) (ord:=[id,id2]) (by rw[hids];exact hord) (by rw[hids];exact hcl) hk rfl ?_ rfl rfl
 ·rw[key];rfl
 ·have hu:E.P.underlying t=some (.slice e):=by
   unfold cY at he
   split at he
   ·rename_i hq;cases he;exact hq
   ·cases he
  have hv:FE (pack h [id,id2]) 0=false:=by simp only[FE,p1,mapO]
  have hb:u5 (pack h [id,id2]) (.sl 1 g2 0 src.length)=false:=by simp only[u5,FE,p2,mapO]
  have hs:cB (pack h [id,id2]) 1 (.sl 1 g2 0 src.length)=some (src.length,src):=by
   simp[cB,p2,mapO]
  simp only[aE,mapA,hk,hk2,evOp,eD,dQ,b6,gQ,hv,hb,Ak,if_false,iI,he,hel,if_true,hce,hs,p1,mapO,Cc,hlen,hmax,and_self,he0,hu]
theorem LP{E:Env}{call:aZ}{thaw:List Nat}{dst:Option Tmp}{x y:Operand}{t:TypeId}{h:H}{id g off esz:Nat}{cs:List D}{z:D}(ht:E.P.cellsOf t=1)(hi:(E.P.info? t).isSome=true)(hz:bV (.d z)=true)
  (h1:h[id]? =some (.arr cs esz g)) (hoff:off+1<=cs.length):
  memD E call thaw dst (.store t x y) h [.ptr id g off,.d z]=some (.d .undef,h.set id (.arr (bH cs off [z]) esz g),{ ids:=[id],ro:=false,wr:=[id]}):=by
 have hids:idsL [A.ptr id g off,A.d z]=[id]:=rfl;have hk:aH [id] id=some 0:=by simp[aH]
 have hord:=X6 h1;have hcl:closed h [id] [id]=true:=by simp[closed,h1]
 have p1:=iZ (h:=h) (bE hk) h1;have key:=IB (E:=E) (call:=call) (thaw:=thaw) (dst:=dst) (op:=.store t x y) (h:=h) (vs:=[A.ptr id g off,A.d z]) (a:=.d .undef) (a2:=.d .undef) (o:=.arr (bH cs off [z]) esz g) (o2:=.arr (bH cs off [z]) esz g) (id:=id) (k:=0) (ord:=[id]) (by rw[hids];exact hord) (by rw[hids];exact hcl) hk rfl ?_ rfl rfl
 ·rw[key];rfl
 ·have hf:frzL (pack h [id]) [A.d z]=some ([z],pack h [id]):=by
   unfold frzL;simp only[fR];have:frz deep (pack h [id]) (.d z)=some (z,pack h [id]):=rfl;rw[this]
  simp only[aE,mapA,hk,evOp,eD,two,j5,aX,Ad,Ac,Ag,ht,hi,Bs,Cb,hz,Bu,and_self,if_true,p1,mapO,hf,hoff,Ax]
theorem aJh{E:Env}{call:aZ}{thaw:List Nat}{dst:Option Tmp}{x y:Operand}{t:TypeId}{h:H}{id id2 off g g2 o len:Nat}{cs:List A}(ht:E.P.cellsOf t=1)(hi:(E.P.info? t).isSome=true)
  (h1:h[id]? =some (.vec cs 1 g2)) (hoff:off+1<=cs.length) (ok1:Okay h id) (ok2:Okay h id2) (hw:2+wgt h<=1099511627776):
  memD E call thaw dst (.store t x y) h [.ptr id g2 off,.sl id2 g o len]=some (.d .undef,h.set id (.vec (bH cs off [.sl id2 g o len]) 1 g2),{ ids:=aD aG h [id,id2] [],ro:=false,wr:=aD aG h [id,id2] []}):=by
 have hids:idsL [A.ptr id g2 off,A.sl id2 g o len]=[id,id2]:=rfl;obtain⟨c1,c2,c3⟩:=TG (h:=h) (ids:=[id,id2]) (by intro i hi;simp at hi;rcases hi with rfl|rfl;exact ok1;exact ok2) (by simpa using hw);obtain⟨ord,hord⟩:∃ord,aD aG h [id,id2] []=ord:=⟨_,rfl⟩
 rw[hord]at c1 c2 c3|-;obtain⟨k,hk⟩:=cC (c2 id (by simp));obtain⟨k2,hk2⟩:=cC (c2 id2 (by simp));have p1:=iZ (h:=h) (bE hk) h1
 have bk:∀xs:List A,(∀i∈idsL xs,i∈ord)->aE (fun(k:Nat)=>ord[k]?) (aE (aH ord) xs)=xs:=by
  intro xs hx;rw[kZ (q:=fun i=>(aH ord i).bind fun k=>ord[k]?) (fun _=>rfl)];apply fU;intro i hi;obtain⟨j,hj⟩:=cC (hx i hi);simp only[hj,Ct];exact bE hj
 have hcs:∀i∈idsL cs,i∈ord:=by
  have:=c3 id (c2 id (by simp))
  simpa only[kids,h1]using this
 have split_cs:∀q:Nat,(∀i∈idsL (cs.take q),i∈ord)/\(∀i∈idsL (cs.drop q),i∈ord):=by
  intro q;have:=List.take_append_drop q cs
  constructor
  ·intro i hi;refine hcs i ?_;rw[<-this,bM,Al];exact .inl hi
  ·intro i hi;refine hcs i ?_;rw[<-this,bM,Al];exact .inr hi
 have hnew:∀i∈idsL (bH cs off [.sl id2 g o len]),i∈ord:=by
  intro i hi;unfold bH at hi;rw[bM,bM,Al,Al]at hi
  rcases hi with(hi|hi)|hi
  ·exact(split_cs _).1 i hi
  ·simp[idsL,idsA]at hi;subst hi;exact c2 i (by simp)
  ·exact(split_cs _).2 i hi
 have hmr:bH (aE (aH ord) cs) off [.sl k2 g o len]=aE (aH ord) (bH cs off [.sl id2 g o len]):=by
  unfold bH;rw[c9,c9,FH,PO];simp only[aE,mapA,hk2,Ad,Ac]
 have key:=IB (E:=E) (call:=call) (thaw:=thaw) (dst:=dst) (op:=.store t x y) (h:=h) (vs:=[A.ptr id g2 off,A.sl id2 g o len]) (a:=.d .undef) (a2:=.d .undef) (o:=.vec (aE (aH ord) (bH cs off [.sl id2 g o len])) 1 g2) (o2:=.vec (bH cs off [.sl id2 g o len]) 1 g2) (id:=id) (k:=k) (ord:=ord) (by rw[hids];exact hord) (by rw[hids];exact c1) hk rfl ?_ (by simp only[mapA]) (by simp only[mapO,bk _ hnew])
 ·rw[key];rfl
 ·have hoff2:off+1<=(aE (aH ord) cs).length:=by rw[C0];exact hoff
  simp only[aE,mapA,hk,hk2,evOp,eD,two,j5,aX,Ad,Ac,Ag,ht,hi,Bs,Cb,bV,Bu,and_self,if_true,p1,mapO,hoff2,hmr,Ax]
theorem aFi{E:Env}{call:aZ}{thaw:List Nat}{dst:Option Tmp}{t e:TypeId}{x:Operand}{h:H}{id g len:Nat}{cs:List D}{es:Nat}(hk0:(keeps thaw dst&& !logs thaw dst)=true)(he:cY E.P t=some e)(hz:dX E.P e=some (.d .nils))(hce:E.P.cellsOf e=1)(hel:eW E.P e=true)
  (h1:h[id]? =some (.arr cs es g)):
  memD E call thaw dst (.buildSlice t 1 #[(0,x)]) h [.sl id g 0 len]=some (.sl h.length 0 0 1,h++[.vec [.sl id g 0 len] 1 0],{ ids:=[id,h.length],ro:=false}):=by
 simp only[Ar,Cx]at hk0;obtain⟨hk,hlg⟩:=hk0;have hids:idsL [A.sl id g 0 len]=[id]:=rfl;have hp:aH [id] id=some 0:=by simp[aH]
 have hord:=X6 h1;have hcl:closed h [id] [id]=true:=by simp[closed,h1]
 have hlt:id<h.length:=(As.1 h1).1;have hgd:h.getD id default=.arr cs es g:=by rw[Aa,h1];rfl
 have hpk:pack h [id]=[.arr cs es g]:=by simp only[pack,Ai,Ap,hgd,mapO]
 have hev:evOp E call thaw (pack h [id]) (eD dst (.buildSlice t 1 #[(0,x)])) (aE (aH [id]) [A.sl id g 0 len])=some (.sl 1 0 0 1,[.arr cs es g,.vec [.sl 0 g 0 len] 1 0]):=by
  rw[hpk];simp only[aE,mapA,hp,evOp,eD,hk,hlg,Ak,if_false,if_true,rU,he,hz,hel,hce,aX];rfl
 have hset:h.set id (.arr cs es g)=h:=by
  obtain⟨_,h2⟩:=As.1 h1;rw[<-h2,List.set_getElem_self]
 unfold memD;rw[hids,show aG=1099511627776 from rfl]at *;rw[hord];simp only[box,hev,hcl,Ad,Ac,eE,Cy,Ak,if_false];have hb1:back [id] h.length 2 0=some id:=rfl;have hb2:back [id] h.length 2 1=some h.length:=by simp[back]
 simp[mapA,aE,bG,mapO,hb1,hb2,hset,wrOf]
def oV(bad:List (Nat×Nat))(ops:List Oper)(cs:List Foot):Bool:=
 let b:=K0 ops []
 let f:=fun(c:Foot)=>c.ro&&c.ids.isEmpty
 (List.range cs.length).all fun j=>(List.range j).all fun i=>(b.getD j 0).testBit i||(f (cs.getD i {})||f (cs.getD j {})||((cs.getD i {}).ro&&(cs.getD j {}).ro))||bad.contains (i,j)
theorem aIp{a b:Foot}(h:(a.ro&&a.ids.isEmpty)=true):kS a b=false/\kS b a=false:=by
 simp only[Ar,List.isEmpty_iff]at h;obtain⟨ha,hi⟩:=h;unfold kS;rw[ha,hi,aQF];simp
theorem yD{ops:List Oper}{cs:List Foot}(bad:List (Nat×Nat))(hm:oV bad ops cs=true)(hb:∀p∈bad,kS (cs.getD p.1 {}) (cs.getD p.2 {})=false):eV ops cs=true:=by
 refine aO3 ?_;unfold oV at hm;unfold oE;simp only[Bf,Ci,Bool.or_eq_true]at hm|-;intro j hj i hi
 rcases hm j hj i hi with(h|h)|h
 ·exact .inl h
 ·refine .inr ?_
  rcases h with(h|h)|h
  ·rw[(aIp h).1];rfl
  ·rw[(aIp h).2];rfl
  ·simp only[Ar]at h;rw[aQY h.1 h.2];rfl
 ·have hp:=hb (i,j) (by simpa using h);exact .inr (by rw[hp];rfl)
theorem oG{h:H}{i:Nat}{cs:List D}{e g:Nat}(hg:h[i]? =some (.arr cs e g)):Okay h i:=.mk _ _ hg (by simp) (by rw[bO hg];simp)
theorem aHu{h:H}{i:Nat}{cs:List A}{e g:Nat}(hg:h[i]? =some (.vec cs e g))(hk:∀q∈idsL cs,Okay h q):Okay h i:=.mk _ _ hg (by simp) (by
 intro q hq;have:kids h i=idsL cs:=by simp only[kids,hg]
 rw[this]at hq;exact hk q hq)
theorem aIJ{h:H}{i:Nat}{cs:List A}(hg:h[i]? =some (.box cs))(hk:∀q∈idsL cs,Okay h q):Okay h i:=.mk _ _ hg (by simp) (by
 intro q hq;have:kids h i=idsL cs:=by simp only[kids,hg]
 rw[this]at hq;exact hk q hq)
theorem PL{h:H}{i:Nat}{nx:List (List Int)}{x:List A}{e g:Nat}(hg:h[i]? =some (.vec (aC 7 nx++x) e g))(hr:∀j,j<nx.length->Okay h (j+7))(hx:∀q∈idsL x,Okay h q):Okay h i:=by
 refine aHu hg ?_;intro q hq;rw[bM,bY,Al,Cu]at hq
 rcases hq with hq|hq
 ·obtain⟨z,rfl⟩:∃z,q=z+7:=⟨q-7,by omega⟩
  exact hr z (by omega)
 ·exact hx q hq
theorem aHb{h:H}{nx:List (List Int)}{e g:Nat}{row:List Int}(hr:∀(i:Nat) (r:List Int),nx[i]? =some r->h[i+7]? =some (.arr (ints r) 1 0))(h1:h[e]? =some (.arr (ints row) 1 g)):
  gD (rd0 h) (aC 7 nx++[.sl e g 0 row.length])=some (aN (nx++[row])):=by
 have hlr:(aC 7 nx).length=nx.length:=gR _ _;refine KM (by simp[hlr,aN]) ?_;intro i a x ha hx;obtain⟨r,hr1,rfl⟩:=ZS hx
 by_cases hi:i<nx.length
 ·rw[Ba (by omega)]at ha hr1;obtain⟨r2,hr2,rfl⟩:=O1 ha;rw[hr1]at hr2;cases hr2;refine aBX ?_;rw[Nat.add_comm];exact hr i r hr1
 ·have hi2:i<(aC 7 nx++[A.sl e g 0 row.length]).length:=(As.1 ha).1;rw[Af,hlr]at hi2;simp only[Ad,Ac]at hi2;obtain rfl:i=nx.length:=by omega
  rw[Bh (by omega)]at ha hr1;rw[hlr]at ha;simp only[Br,Ce,Option.some.injEq]at ha hr1;subst ha;subst hr1;exact aIX h1
theorem aJU{nx:List (List Int)}{x:A}{t:Nat}(ht:t<nx.length):((aC 7 nx++[x]).drop t).head? =some (.sl (t+7) 0 0 (nx.getD t []).length):=by
 have h:=kP ht;have hn:aF 0=[]:=rfl;have hlr:(aC 7 nx).length=nx.length:=gR _ _;rw[hn,Ah,Da]at h;rw[Da,Ba (by omega)];exact h
theorem mX{R:Type}{L n:Nat}{o1 o2 o3 o4 o5:O}{al:Int}{rs:List (List Int)}{ac:List Bool}{T1:H}{k:KA R}(hT:o2::o3::o4::o5::autO 5 rs ac=T1)(hs:bF rs)(h1:1<=rs.length)(ha:ac.length<=4294967295)(hn:2<=n)(hL:2^60<=L):
  a6 env (aA env L n) [o1,o2,o3,o4,o5] 85 [.agg [nI al,.d (.ivs rs.length (aN rs)),.d (.ivs ac.length (aJ ac))]] k=k (.agg [nI al,.sl 5 0 0 rs.length,.sl 6 0 0 ac.length]) (o1::T1):=by
 rw[UJ hs h1 ha hn hL,<-hT];rfl
theorem aLP{c:List UInt8}(hc:c.length<=2000)(al:Int)(nx:List (List Int))(ac:List Bool)(hs:bF nx)(h1:1<=nx.length)(ha:ac.length<=4294967290)(p t:Int)
  (kd1:(Dw 1 49 [nI (nx.length)] (nI t) c p (p+1)))
  (kd2:(Dw 1 49 [nI 30] (nI 1) c (p+1) (p+1+1))):(Dw 4 59 [autD al nx ac] (autD al nx (ac++[true])) c p (p+1+1)):=by
 intro R L n hq k hn hL;refine cD jZ (by simp[autD,idsA,idsL]) (by simp[autD,idsA,idsL]) ?_;have hnl:=hs.1;obtain⟨N,T1,T2,T3,w⟩:=kW (.box [nI al,.d (.ivs nx.length (aN nx)),.d (.ivs ac.length (aJ ac))]) (.box [nI 0,.sl 2 0 0 0,.sl 3 0 0 0]) al nx ac;have kd3:=fun {R:Type} {n:Nat} {o1:O} {k:KA R} (hn:2<=n)=>mX (R:=R) (L:=L) (n:=n) (o1:=o1) (al:=al) (k:=k) w.h1 hs h1 (by omega) hn hL;obtain⟨hN,hT1,l1,h2,b2,h3,l3,t3,t4,t5,tr,tb,e3,wg⟩:=w;clear e3;clear hT1;obtain⟨T4,h4⟩:∃T,T3++[.arr [.bool true] 1 0]=T:=⟨_,rfl⟩
 obtain⟨l4,g4,k4⟩:=j2 h4;rw[l3]at l4 g4 k4;have t45:=k4 5 (by omega);rw[t5]at t45;obtain⟨T5,h5⟩:∃T,T4.set 5 (.arr (aJ (ac++[true])) 1 1)=T:=⟨_,rfl⟩
 obtain⟨l5,g5,k5⟩:=cK h5 (by omega);obtain⟨T6,h6⟩:∃T,T5.set (N+1+1) (.box [nI al,.sl 5 0 0 nx.length,.sl 6 1 0 (ac.length+1)])=T:=⟨_,rfl⟩
 obtain⟨l6,g6,k6⟩:=cK h6 (by omega);obtain⟨T7,h7⟩:∃T,T6.set 3 (.box [nI al,.sl 5 0 0 nx.length,.sl 6 1 0 (ac.length+1)])=T:=⟨_,rfl⟩
 obtain⟨l7,g7,k7⟩:=cK h7 (by omega);have t5b:T5[N+1+1]? =some (.box [nI al,.sl 5 0 0 nx.length,.sl 6 0 0 ac.length]):=by rw[k5 _ (by omega),k4 _ (by omega),tb]
 have t63:T6[3]? =some (.box [nI 0,.sl 2 0 0 0,.sl 3 0 0 0]):=by rw[k6 _ (by omega),k5 _ (by omega),k4 _ (by omega),t3]
 have look:∀i,i≠5->i≠3->i<N+2->T7[i]? =T3[i]?:=fun i i5 i3 hi=>by rw[k7 _ i3,k6 _ (by omega),k5 _ i5,k4 _ (by omega)]
 have hv:rd1 (rdO c (p+1+1)::T7) (.sl 5 0 0 nx.length)=some (.ivs nx.length (aN nx)):=by
  refine wM (cs:=aC 7 nx++aF 0) ?_ (HV fun i r hr=> ?_) rfl
  ·rw[At,look 4 (by omega) (by omega) (by omega),t4]
  ·have hi:i<nx.length:=(As.1 hr).1;rw[show i+7=i+6+1 by omega,At,look _ (by omega) (by omega) (by omega)];exact tr i r hr
 have hw:rd1 (rdO c (p+1+1)::T7) (.sl 6 1 0 (ac.length+1))=some (.ivs (ac++[true]).length (aJ (ac++[true]))):=by
  refine oB ?_ (by simp);rw[At,k7 _ (by omega),k6 _ (by omega),g5]
 obtain⟨h2',st_out,st_keep,st_trim⟩:=rS (al:=al) hv hw (by omega) (by omega);unfold autD at st_out|-;clear hv hw look k4 k5 k6 k7 tr h1 l4 l5 l6 l7 hN;obtain _|n:=n;omega;simp -implicitDefEqProofs (maxSteps:=2000000) (disch:=try exact Dz) only[↓DN,↓kRet,UP,simprocAttr,LA,↓kd1,↓kd2,↓kd3,l1,h2,b2,h3,l3,tb,h4,g4,t45,h5,t5b,h6,g6,t63,h7,g7,uF,↓st_out,↓st_keep,↓st_trim,Ao,dI,dO,Tryz.f59]
theorem aG1{c:List UInt8}(hc:c.length<=2000)(al:Int)(nx:List (List Int))(ac:List Bool)(hs:bF nx)(h1:1<=nx.length)(ha:ac.length<=4294967290)(p t:Int)
  (kd1:(Dw 1 49 [nI (nx.length)] (nI t) c p (p+1)))
  (kd2:(Dw 1 49 [nI 30] (nI 4) c (p+1) (p+1+1))):(Dw 4 59 [autD al nx ac] (autD al [] []) c p (p+1+1)):=by
 intro R L n hq k hn hL;refine cD jZ (by simp[autD,idsA,idsL]) (by simp[autD,idsA,idsL]) ?_;have hnl:=hs.1;obtain⟨N,T1,T2,T3,w⟩:=kW (.box [nI al,.d (.ivs nx.length (aN nx)),.d (.ivs ac.length (aJ ac))]) (.box [nI 0,.sl 2 0 0 0,.sl 3 0 0 0]) al nx ac;have kd3:=fun {R:Type} {n:Nat} {o1:O} {k:KA R} (hn:2<=n)=>mX (R:=R) (L:=L) (n:=n) (o1:=o1) (al:=al) (k:=k) w.h1 hs h1 (by omega) hn hL;obtain⟨hN,hT1,l1,h2,b2,h3,l3,t3,t4,t5,tr,tb,e3,wg⟩:=w;clear e3;clear hT1;obtain⟨T4,h4⟩:∃T,T3++[.vec [] 1 0]=T:=⟨_,rfl⟩
 obtain⟨l4,g4,k4⟩:=j2 h4;rw[l3]at l4 g4 k4;obtain⟨T5,h5⟩:∃T,T4.set (N+1+1) (.box [nI al,.sl (N+4) 0 0 0,.sl 6 0 0 ac.length])=T:=⟨_,rfl⟩
 obtain⟨l5,g5,k5⟩:=cK h5 (by omega);obtain⟨T6,h6⟩:∃T,T5++[.arr [] 1 0]=T:=⟨_,rfl⟩
 obtain⟨l6,g6,k6⟩:=j2 h6;rw[l5,l4]at l6 g6 k6;obtain⟨T7,h7⟩:∃T,T6.set (N+1+1) (.box [nI al,.sl (N+4) 0 0 0,.sl (N+5) 0 0 0])=T:=⟨_,rfl⟩
 obtain⟨l7,g7,k7⟩:=cK h7 (by omega);obtain⟨T8,h8⟩:∃T,T7.set 3 (.box [nI al,.sl (N+4) 0 0 0,.sl (N+5) 0 0 0])=T:=⟨_,rfl⟩
 obtain⟨l8,g8,k8⟩:=cK h8 (by omega);have t4b:T4[N+1+1]? =some (.box [nI al,.sl 5 0 0 nx.length,.sl 6 0 0 ac.length]):=by rw[k4 _ (by omega),tb]
 have t6b:T6[N+1+1]? =some (.box [nI al,.sl (N+4) 0 0 0,.sl 6 0 0 ac.length]):=by rw[k6 _ (by omega),g5]
 have t73:T7[3]? =some (.box [nI 0,.sl 2 0 0 0,.sl 3 0 0 0]):=by rw[k7 _ (by omega),k6 _ (by omega),k5 _ (by omega),k4 _ (by omega),t3]
 rw[l4]at l5
 have hv:rd1 (rdO c (p+1+1)::T8) (.sl (N+4) 0 0 0)=some (.ivs ([]:List (List Int)).length (aN [])):=by
  refine wM (cs:=[]) ?_ rfl rfl;rw[At,k8 _ (by omega),k7 _ (by omega),k6 _ (by omega),k5 _ (by omega),g4]
 have hw:rd1 (rdO c (p+1+1)::T8) (.sl (N+5) 0 0 0)=some (.ivs ([]:List Bool).length (aJ [])):=by
  refine oB ?_ rfl;rw[At,k8 _ (by omega),k7 _ (by omega),g6];rfl
 obtain⟨h2',st_out,st_keep,st_trim⟩:=rS (al:=al) hv hw (by omega) (by omega);unfold autD at st_out|-;clear hv hw k4 k5 k6 k7 k8 tr h1 l4 l6 l7 l8 hN;obtain _|n:=n;omega;simp -implicitDefEqProofs (maxSteps:=2000000) (disch:=try exact Dz) only[↓DN,↓kRet,UP,simprocAttr,↓kd1,↓kd2,↓kd3,l1,h2,b2,h3,l3,tb,h4,t4b,h5,l5,t6b,h6,t73,h7,g7,h8,g8,↓st_out,↓st_keep,↓st_trim,Ao,dI,dO,Tryz.f59]
theorem aJg{c:List UInt8}(hc:c.length<=2000)(al:Int)(nx:List (List Int))(ac:List Bool)(hs:bF nx)(h1:1<=nx.length)(ha:ac.length<=4294967290)(p:Int)(t:Nat)(ht:t<nx.length)(hr:(nx.getD t []).length<=4294967290)
  (kd1:(Dw 1 49 [nI (nx.length)] (nI t) c p (p+1)))
  (kd2:(Dw 1 49 [nI 30] (nI 2) c (p+1) (p+1+1))):(Dw 4 59 [autD al nx ac] (autD al (nx.set t (nx.getD t []++[0])) ac) c p (p+1+1)):=by
 intro R L n hq k hn hL;refine cD jZ (by simp[autD,idsA,idsL]) (by simp[autD,idsA,idsL]) ?_;have hnl:=hs.1;obtain⟨N,T1,T2,T3,w⟩:=kW (.box [nI al,.d (.ivs nx.length (aN nx)),.d (.ivs ac.length (aJ ac))]) (.box [nI 0,.sl 2 0 0 0,.sl 3 0 0 0]) al nx ac;have kd3:=fun {R:Type} {n:Nat} {o1:O} {k:KA R} (hn:2<=n)=>mX (R:=R) (L:=L) (n:=n) (o1:=o1) (al:=al) (k:=k) w.h1 hs h1 (by omega) hn hL;obtain⟨hN,hT1,l1,h2,b2,h3,l3,t3,t4,t5,tr,tb,e3,wg⟩:=w;clear e3;simp only[eJ,idsL,idsA,Ac,Ad,Am,Av,Ag]at wg;clear hT1;have hrow:nx[t]? =some (nx.getD t []):=by rw[Aa,Ae ht];rfl
 generalize hrw:nx.getD t []=row at hrow hr|-;have hd7:((aC 7 nx++aF 0).drop t).head? =some (.sl (t+7) 0 0 row.length):=by rw[kP ht,hrw]
 obtain⟨T4,h4⟩:∃T,T3++[.arr [.int .i64 0] 1 0]=T:=⟨_,rfl⟩
 obtain⟨l4,g4,k4⟩:=j2 h4;rw[l3]at l4 g4 k4;have w4:wgt T4=wgt T3:=by rw[<-h4,AY];simp[eJ]
 obtain⟨T5,h5⟩:∃T,T4.set (t+6) (.arr (ints (row++[0])) 1 1)=T:=⟨_,rfl⟩
 obtain⟨l5,g5,k5⟩:=cK h5 (by omega);have w5:wgt T5<=wgt T4:=by rw[<-h5];have:=jY (h:=T4) (i:=t+6) (o:=.arr (ints (row++[0])) 1 1);simpa [eJ]using this
 obtain⟨T6,h6⟩:∃T,T5.set 4 (.vec ((aC 7 nx++aF 0).take t++[.sl (t+7) 1 0 (row.length+1)]++(aC 7 nx++aF 0).drop (t+1)) 1 0)=T:=⟨_,rfl⟩
 obtain⟨l6,g6,k6⟩:=cK h6 (by omega);obtain⟨T7,h7⟩:∃T,T6.set 3 (.box [nI al,.sl 5 0 0 nx.length,.sl 6 0 0 ac.length])=T:=⟨_,rfl⟩
 obtain⟨l7,g7,k7⟩:=cK h7 (by omega);have t6b:T6[N+1+1]? =some (.box [nI al,.sl 5 0 0 nx.length,.sl 6 0 0 ac.length]):=by rw[k6 _ (by omega),k5 _ (by omega),k4 _ (by omega),tb]
 have t63:T6[3]? =some (.box [nI 0,.sl 2 0 0 0,.sl 3 0 0 0]):=by rw[k6 _ (by omega),k5 _ (by omega),k4 _ (by omega),t3]
 have t44:T4[4]? =some (.vec (aC 7 nx++aF 0) 1 0):=by rw[k4 _ (by omega),t4]
 have t54:T5[4]? =some (.vec (aC 7 nx++aF 0) 1 0):=by rw[k5 _ (by omega),t44]
 have t4r:T4[t+6]? =some (.arr (ints row) 1 0):=by rw[k4 _ (by omega)];exact tr _ _ hrow
 have hlv:(aC 7 nx++aF 0).length=nx.length:=by rw[Af,gR];rfl
 have st_app:∀ {call:aZ} {thaw:List Nat} {dst:Option Tmp} {args:Array Operand},memD env call thaw dst (.call ⟨.builtin .append,args,#[80,80]⟩) (rdO c (p+1+1)::T4) [.sl (t+7) 0 0 row.length,.sl (N+1+1+1+1) 0 0 1]=some (.sl (t+7) 1 0 (row.length+1),rdO c (p+1+1)::T5,{ ids:=[t+7,N+1+1+1+1],ro:=false,wr:=[t+7]}):=by
  intro call thaw dst args;rw[K8 (e:=3) (e0:=1) (n2:=1) (cs:=ints row) (src:=[.int .i64 0]) rfl V7 kr (by rw[show t+7=t+6+1 by omega,At];exact t4r) (.inr rfl) (by rw[At];exact g4) rfl (by simp[ints]) (by unfold bK;omega) (by omega)];rw[show t+7=t+6+1 by omega,Bn,<-h5,show(ints row).take row.length++[D.int .i64 0]=ints (row++[0]) by rw[Bz (by simp[ints])];simp[ints]]
 have ok_row:∀(i:Nat) (r:List Int),nx[i]? =some r->Okay (rdO c (p+1+1)::T5) (i+7):=by
  intro i r hr;have hi:i<nx.length:=(As.1 hr).1
  by_cases e:i=t
  ·subst e;have hg:(rdO c (p+1+1)::T5)[i+7]? =some (.arr (ints (row++[0])) 1 1):=by rw[show i+7=i+6+1 by omega,At];exact g5
   exact .mk _ _ hg (by simp) (by rw[bO hg];simp)
  ·have hg:(rdO c (p+1+1)::T5)[i+7]? =some (.arr (ints r) 1 0):=by rw[show i+7=i+6+1 by omega,At,k5 _ (by omega),k4 _ (by omega)];exact tr _ _ hr
   exact .mk _ _ hg (by simp) (by rw[bO hg];simp)
 have ok5:Okay (rdO c (p+1+1)::T5) 5:=by
  have hg:(rdO c (p+1+1)::T5)[5]? =some (.vec (aC 7 nx++aF 0) 1 0):=t54;refine .mk _ _ hg (by simp) ?_;intro q hq;have:kids (rdO c (p+1+1)::T5) 5=List.range' 7 nx.length:=by simp only[kids,hg,bM,bY,dM,Ah]
  rw[this,Cu]at hq;obtain⟨z,rfl⟩:∃z,q=z+7:=⟨q-7,by omega⟩
  exact ok_row z (nx[z]'(by omega)) (Ae _)
 obtain⟨o2,ho2⟩:∃o,o=aD aG (rdO c (p+1+1)::T5) [5,t+7] []:=⟨_,rfl⟩
 have st_sto:∀ {call:aZ} {thaw:List Nat} {dst:Option Tmp} {x y:Operand},memD env call thaw dst (.store 80 x y) (rdO c (p+1+1)::T5) [.ptr 5 0 t,.sl (t+7) 1 0 (row.length+1)]=some (.d .undef,rdO c (p+1+1)::T6,{ ids:=o2,ro:=false,wr:=o2}):=by
  intro call thaw dst x y;rw[aJh kr kr (h:=rdO c (p+1+1)::T5) (id:=5) (id2:=t+7) (cs:=aC 7 nx++aF 0) t54 (by omega) ok5 (ok_row t row hrow) (by rw[lW];simp only[eJ,idsL,idsA,Am,Ac];omega),<-ho2];rw[Bn];unfold bH;rw[<-h6];rfl
 have hclash:∀(ops:List Oper),oV [(1,8),(4,8),(6,8),(7,8),(1,9),(8,10),(9,10)] ops [{},{ ids:=[N+2+1],ro:=true},{},{},{ ids:=[N+2+1],ro:=true},{},{ ids:=[5],ro:=true},{ ids:=[5],ro:=true},{ ids:=[N+1+1+1+1],ro:=false},{ ids:=[t+7,N+1+1+1+1],ro:=false,wr:=[t+7]},{ ids:=[5],ro:=true},{ ids:=o2,ro:=false,wr:=o2}]=true->eV ops [{},{ ids:=[N+2+1],ro:=true},{},{},{ ids:=[N+2+1],ro:=true},{},{ ids:=[5],ro:=true},{ ids:=[5],ro:=true},{ ids:=[N+1+1+1+1],ro:=false},{ ids:=[t+7,N+1+1+1+1],ro:=false,wr:=[t+7]},{ ids:=[5],ro:=true},{ ids:=o2,ro:=false,wr:=o2}]=true:=by
  intro ops hm;refine yD _ hm ?_;intro q hq;simp only[Au,Bo,or_false]at hq
  rcases hq with rfl|rfl|rfl|rfl|rfl|rfl|rfl<;>simp[kS]<;>omega
 have hv:rd1 (rdO c (p+1+1)::T7) (.sl 5 0 0 nx.length)=some (.ivs (nx.set t (row++[0])).length (aN (nx.set t (row++[0])))):=by
  refine wM (cs:=(aC 7 nx++aF 0).take t++[.sl (t+7) 1 0 (row.length+1)]++(aC 7 nx++aF 0).drop (t+1)) ?_ ?_ (by simp)
  ·rw[At,k7 _ (by omega),g6]
  ·refine aHc ht (fun i r hi hr=> ?_) ?_ (by simp)
   ·have hil:i<nx.length:=(As.1 hr).1;rw[show i+7=i+6+1 by omega,At,k7 _ (by omega),k6 _ (by omega),k5 _ (by omega),k4 _ (by omega)];exact tr i r hr
   ·rw[show t+7=t+6+1 by omega,At,k7 _ (by omega),k6 _ (by omega),g5]
 have hw:rd1 (rdO c (p+1+1)::T7) (.sl 6 0 0 ac.length)=some (.ivs ac.length (aJ ac)):=by
  refine oB ?_ rfl;rw[At,k7 _ (by omega),k6 _ (by omega),k5 _ (by omega),k4 _ (by omega),t5]
 obtain⟨h2',st_out,st_keep,st_trim⟩:=rS (al:=al) hv hw (by omega) (by omega);have hlen:(nx.set t (row++[0])).length=nx.length:=by simp
 unfold autD at st_out|-;rw[hlen]at st_out|-;have hti:(t:Int)<nx.length:=by omega
 have ht0:(0:Int)<=t:=by omega
 have hn0:(0:Int)<nx.length:=by omega
 clear hv hw k4 k5 k6 k7 tr h1 l4 l6 l7 ok_row ok5 w4 w5 wg ho2 hrow hlv;obtain _|n:=n;omega;simp -implicitDefEqProofs (maxSteps:=2000000) (disch:=first|assumption|(refine Shut.mk ?_;(show eV _ _=true;with_unfolding_all exact hclash _ kr))|(refine Shut.mk ?_;kernel_rfl)|omega|(simp only[GT];done)|(simp only[LN]<;>omega)|fail) only[↓DN,↓kRet,UP,simprocAttr,↓kd1,↓kd2,↓kd3,l1,h2,b2,h3,l3,t4,tb,h4,hti,ht0,hn0,hd7,t54,↓st_app,↓st_sto,t6b,t63,h7,g7,↓st_out,↓st_keep,↓st_trim,Ao,dI,dO,Tryz.f59]
theorem aK9{c:List UInt8}(hc:c.length<=2000)(al:Int)(nx:List (List Int))(ac:List Bool)(hs:bF nx)(h1:1<=nx.length)(ha:ac.length<=4294967290)(p:Int)(t:Nat)(ht:t<nx.length)(hr:(nx.getD t []).length=0)
  (kd1:(Dw 1 49 [nI (nx.length)] (nI t) c p (p+1)))
  (kd2:(Dw 1 49 [nI 30] (nI 3) c (p+1) (p+1+1))):(Dw 4 59 [autD al nx ac] (autD al nx ac) c p (p+1+1)):=by
 intro R L n hq k hn hL;refine cD jZ (by simp[autD,idsA,idsL]) (by simp[autD,idsA,idsL]) ?_;have hnl:=hs.1;obtain⟨N,T1,T2,T3,w⟩:=kW (.box [nI al,.d (.ivs nx.length (aN nx)),.d (.ivs ac.length (aJ ac))]) (.box [nI 0,.sl 2 0 0 0,.sl 3 0 0 0]) al nx ac;have kd3:=fun {R:Type} {n:Nat} {o1:O} {k:KA R} (hn:2<=n)=>mX (R:=R) (L:=L) (n:=n) (o1:=o1) (al:=al) (k:=k) w.h1 hs h1 (by omega) hn hL;obtain⟨hN,hT1,l1,h2,b2,h3,l3,t3,t4,t5,tr,tb,e3,wg⟩:=w;clear e3;clear hT1;have hd7:((aC 7 nx++aF 0).drop t).head? =some (.sl (t+7) 0 0 0):=by rw[kP ht,hr]
 obtain⟨T7,h7⟩:∃T,T3.set 3 (.box [nI al,.sl 5 0 0 nx.length,.sl 6 0 0 ac.length])=T:=⟨_,rfl⟩
 obtain⟨l7,g7,k7⟩:=cK h7 (by omega)
 have hv:rd1 (rdO c (p+1+1)::T7) (.sl 5 0 0 nx.length)=some (.ivs nx.length (aN nx)):=by
  refine wM (cs:=aC 7 nx++aF 0) ?_ (HV fun i r hr=> ?_) rfl
  ·rw[At,k7 _ (by omega),t4]
  ·rw[show i+7=i+6+1 by omega,At,k7 _ (by omega)];exact tr i r hr
 have hw:rd1 (rdO c (p+1+1)::T7) (.sl 6 0 0 ac.length)=some (.ivs ac.length (aJ ac)):=by
  refine oB ?_ rfl;rw[At,k7 _ (by omega),t5]
 obtain⟨h2',st_out,st_keep,st_trim⟩:=rS (al:=al) hv hw (by omega) (by omega);unfold autD at st_out|-;have hti:(t:Int)<nx.length:=by omega
 have ht0:(0:Int)<=t:=by omega
 have hn0:(0:Int)<nx.length:=by omega
 clear hv hw k7 tr h1 l7 wg;obtain _|n:=n;omega;simp -implicitDefEqProofs (maxSteps:=2000000) (disch:=try exact Dz) only[↓DN,↓kRet,UP,simprocAttr,↓kd1,↓kd2,↓kd3,l1,h2,b2,h3,t3,t4,tb,hti,ht0,hn0,hd7,h7,g7,↓st_out,↓st_keep,↓st_trim,Ao,dI,dO,Tryz.f59]
theorem aKa{c:List UInt8}(hc:c.length<=2000)(al:Int)(nx:List (List Int))(ac:List Bool)(hs:bF nx)(h1:1<=nx.length)(ha:ac.length<=4294967290)(p:Int)(hp:0<=p)(hp2:p<=900000000)(t:Nat)(ht:t<nx.length)(j:Nat)(hj:j<(nx.getD t []).length)
  (kd1:(Dw 1 49 [nI (nx.length)] (nI t) c p (p+1)))
  (kd2:(Dw 1 49 [nI 30] (nI 3) c (p+1) (p+1+1)))
  (kd4:(Dw 1 49 [nI ((nx.getD t []).length:Int)] (nI j) c (p+1+1) (p+1+1+1))):∃v:Int,(Dw 4 59 [autD al nx ac] (autD al (nx.set t ((nx.getD t []).set j v)) ac) c p (p+1+1+1+1)):=by
 obtain⟨v,_,kd5⟩:=zE hc [-1,nx.length,(nx.length:Int)-1,0] (by simp) (by simp) (p+1+1+1) (by omega) (by omega);simp only[ints,Ai,Ap,Ad,Ac,Ag,Nat.reduceAdd]at kd5;refine⟨v,?_⟩;intro R L n hq k hn hL;refine cD jZ (by simp[autD,idsA,idsL]) (by simp[autD,idsA,idsL]) ?_;have hnl:=hs.1;obtain⟨N,T1,T2,T3,w⟩:=kW (.box [nI al,.d (.ivs nx.length (aN nx)),.d (.ivs ac.length (aJ ac))]) (.box [nI 0,.sl 2 0 0 0,.sl 3 0 0 0]) al nx ac;have kd3:=fun {R:Type} {n:Nat} {o1:O} {k:KA R} (hn:2<=n)=>mX (R:=R) (L:=L) (n:=n) (o1:=o1) (al:=al) (k:=k) w.h1 hs h1 (by omega) hn hL;obtain⟨hN,hT1,l1,h2,b2,h3,l3,t3,t4,t5,tr,tb,e3,wg⟩:=w;clear e3;clear hT1;have hrow:nx[t]? =some (nx.getD t []):=by rw[Aa,Ae ht];rfl
 have hrl:=oX hs ht;generalize hrw:nx.getD t []=row at *;have hd7:((aC 7 nx++aF 0).drop t).head? =some (.sl (t+7) 0 0 row.length):=by rw[kP ht,hrw]
 obtain⟨T4,h4⟩:∃T,T3++[.arr [.int .i64 (-1),.int .i64 nx.length,.int .i64 ((nx.length:Int)-1),.int .i64 0] 1 0]=T:=⟨_,rfl⟩
 obtain⟨l4,g4,k4⟩:=j2 h4;rw[l3]at l4 g4 k4;have g4D:T4.getD (N+1+1+1) O.void=.arr [.int .i64 (-1),.int .i64 nx.length,.int .i64 ((nx.length:Int)-1),.int .i64 0] 1 0:=by rw[Aa,g4];rfl
 have t4r:T4[t+6]? =some (.arr (ints row) 1 0):=by rw[k4 _ (by omega)];exact tr _ _ hrow
 obtain⟨T5,h5⟩:∃T,T4.set (t+6) (.arr (ints (row.set j v)) 1 0)=T:=⟨_,rfl⟩
 obtain⟨l5,g5,k5⟩:=cK h5 (by omega);obtain⟨T7,h7⟩:∃T,T5.set 3 (.box [nI al,.sl 5 0 0 nx.length,.sl 6 0 0 ac.length])=T:=⟨_,rfl⟩
 obtain⟨l7,g7,k7⟩:=cK h7 (by omega);have t3r:T3[t+6]? =some (.arr (ints row) 1 0):=tr _ _ hrow;have t5b:T5[N+1+1]? =some (.box [nI al,.sl 5 0 0 nx.length,.sl 6 0 0 ac.length]):=by rw[k5 _ (by omega),k4 _ (by omega),tb]
 have t53:T5[3]? =some (.box [nI 0,.sl 2 0 0 0,.sl 3 0 0 0]):=by rw[k5 _ (by omega),k4 _ (by omega),t3]
 have hset:bH (ints row) j [.int .i64 v]=ints (row.set j v):=by
  unfold bH;exact aAB hj
 have st_sto:∀ {call:aZ} {thaw:List Nat} {dst:Option Tmp} {x y:Operand},memD env call thaw dst (.store 3 x y) (rdO c (p+1+1+1+1)::T4) [.ptr (t+7) 0 j,nI v]=some (.d .undef,rdO c (p+1+1+1+1)::T5,{ ids:=[t+7],ro:=false,wr:=[t+7]}):=by
  intro call thaw dst x y;rw[LP kr kr rfl (h:=rdO c (p+1+1+1+1)::T4) (id:=t+7) (cs:=ints row) (esz:=1) (by rw[show t+7=t+6+1 by omega,At];exact t4r) (by simp[ints];omega)];rw[show t+7=t+6+1 by omega,Bn,hset,h5]
 have hre:∀x y:D,aD 1099511627776 (.box [.d x,.d y]::T4) [0,N+1+1+1+1] []=[0,N+1+1+1+1]:=by
  intro x y;rw[show(1099511627776:Nat)=1099511627773+1+1+1 from rfl,o9];simp[idsL,idsA];rw[o9];simp[g4,Aa,wI]
 have hclash:∀(ops:List Oper),oV [(1,10),(3,10),(4,10),(1,11),(3,11),(4,11),(11,12)] ops [{},{ ids:=[N+2+1],ro:=true},{},{ ids:=[5],ro:=true},{ ids:=[5],ro:=true},{},{},{},{},{},{ ids:=[N+1+1+1+1],ro:=false},{ ids:=[0,N+1+1+1+1],ro:=false},{ ids:=[t+7],ro:=true},{ ids:=[t+7],ro:=false}]=true->eV ops [{},{ ids:=[N+2+1],ro:=true},{},{ ids:=[5],ro:=true},{ ids:=[5],ro:=true},{},{},{},{},{},{ ids:=[N+1+1+1+1],ro:=false},{ ids:=[0,N+1+1+1+1],ro:=false},{ ids:=[t+7],ro:=true},{ ids:=[t+7],ro:=false}]=true:=by
  intro ops hm;refine yD _ hm ?_;intro q hq;simp only[Au,Bo,or_false]at hq
  rcases hq with rfl|rfl|rfl|rfl|rfl|rfl|rfl<;>simp[kS]<;>omega
 have hlen:(nx.set t (row.set j v)).length=nx.length:=by simp
 have hv:rd1 (rdO c (p+1+1+1+1)::T7) (.sl 5 0 0 nx.length)=some (.ivs (nx.set t (row.set j v)).length (aN (nx.set t (row.set j v)))):=by
  refine wM (cs:=aC 7 nx++aF 0) ?_ ?_ hlen.symm
  ·rw[At,k7 _ (by omega),k5 _ (by omega),k4 _ (by omega),t4]
  ·rw[<-CA (b:=7) (rs:=nx) (k:=t) (r:=row.set j v) (by rw[hrw];simp)];refine HV fun i r hr=> ?_;rw[show i+7=i+6+1 by omega,At];rw[Ch]at hr
   by_cases e:t=i
   ·subst e;rw[if_pos rfl,if_pos ht]at hr;cases hr;rw[k7 _ (by omega)];exact g5
   ·rw[if_neg e]at hr;have hil:i<nx.length:=(As.1 hr).1;rw[k7 _ (by omega),k5 _ (by omega),k4 _ (by omega)];exact tr i r hr
 have hw:rd1 (rdO c (p+1+1+1+1)::T7) (.sl 6 0 0 ac.length)=some (.ivs ac.length (aJ ac)):=by
  refine oB ?_ rfl;rw[At,k7 _ (by omega),k5 _ (by omega),k4 _ (by omega),t5]
 obtain⟨h2',st_out,st_keep,st_trim⟩:=rS (al:=al) hv hw (by omega) (by omega);unfold autD at st_out|-;rw[hlen]at st_out|-;have hti:(t:Int)<nx.length:=by omega
 have ht0:(0:Int)<=t:=by omega
 have hn0:(0:Int)<nx.length:=by omega
 have hji:(j:Int)<row.length:=by omega
 have hj0:(0:Int)<=j:=by omega
 have hr0:(0:Int)<row.length:=by omega
 clear hv hw k4 k5 k7 tr h1 l4 l7 wg hrow;obtain _|n:=n;omega;simp -implicitDefEqProofs (maxSteps:=2000000) (disch:=first|assumption|(refine Shut.mk ?_;(show eV _ _=true;with_unfolding_all exact hclash _ kr))|(refine Shut.mk ?_;kernel_rfl)|omega|(simp only[GT];done)|(simp only[LN]<;>omega)|fail) only[↓DN,↓kRet,UP,simprocAttr,↓kd1,↓kd2,↓kd3,↓kd4,↓kd5,l1,h2,b2,h3,l3,t4,tb,h4,t4r,hti,ht0,hn0,hji,hj0,hr0,hd7,hre,↓st_sto,t5b,t53,h7,g7,↓st_out,↓st_keep,↓st_trim,Br,Ao,dI,dO,Tryz.f59]
def NL(n:Nat)(ids:List Nat):Bool:=decide (ids=[4,n+9])
theorem aLA{n:Nat}{ke2:Nat}(he2:ke2=n+9):NL n [4,ke2]=true:=by subst he2;simp[NL]
def AF(n i:Nat):Option Nat:=if i=0 then some 0 else if i=4 then some 1 else if i=n+9 then some 2 else none
theorem aFD{n:Nat}:AF n 4=some (1):=by unfold AF;repeat (first|rfl|rw[if_pos rfl]|rw[if_neg (by omega)])
theorem aBA{n k:Nat}(h:k=n+9):AF n k=some (2):=by subst h;unfold AF;repeat (first|rfl|rw[if_pos rfl]|rw[if_neg (by omega)])
theorem aTw{m:List Bool}{s:List A}{y1 y2 x0 x1:D}{o1:O}{k z:Nat}{cs:List D}{d:List (List Int)}(hl:d.length<=4294967296):gc 1 m s (.box [.d y1,.d y2]::o1::.arr [] 0 0::.arr [] 0 0::.box [.d x0,.sl 2 0 0 0,.sl 3 0 0 0]::.vec (aC 7 d++aF 0) 1 0::.arr cs 1 0::(aI d++[.arr [] 0 0,.arr [] 0 0,.box [.d x1,.sl 5 0 0 k,.sl 6 0 0 z]]))=match box (tidy m s)with
  |.mk s1=>if NL d.length (idsL s1)=true/\z0As s1=true then(aE (AF d.length) s1,.box [.d y1,.d y2]::.box [.d x0,.sl 3 0 0 0,.sl 4 0 0 0]::.box [.d x1,.sl 5 0 0 k,.sl 6 0 0 z]::.arr [] 0 0::.arr [] 0 0::.vec (aC 7 d++aF 0) 1 0::.arr cs 1 0::aI d)else gcO 1 m s (.box [.d y1,.d y2]::o1::.arr [] 0 0::.arr [] 0 0::.box [.d x0,.sl 2 0 0 0,.sl 3 0 0 0]::.vec (aC 7 d++aF 0) 1 0::.arr cs 1 0::(aI d++[.arr [] 0 0,.arr [] 0 0,.box [.d x1,.sl 5 0 0 k,.sl 6 0 0 z]]))
  |.no=>([],[]):=by
 simp only[box]
 split
 ·rename_i hc
  obtain⟨hb,hz⟩:=hc;have hids:idsL (tidy m s)=[4,d.length+9]:=by simpa [NL]using hb
  obtain⟨h,hh⟩:∃h:H,O.box [.d y1,.d y2]::o1::.arr [] 0 0::.arr [] 0 0::.box [.d x0,.sl 2 0 0 0,.sl 3 0 0 0]::.vec (aC 7 d++aF 0) 1 0::.arr cs 1 0::(aI d++[.arr [] 0 0,.arr [] 0 0,.box [.d x1,.sl 5 0 0 k,.sl 6 0 0 z]])=h:=⟨_,rfl⟩
  conv=>lhs;rw[hh]
  have g0:h[0]? =some (.box [.d y1,.d y2]):=by rw[<-hh];rfl
  have g2:h[2]? =some (.arr [] 0 0):=by rw[<-hh];rfl
  have g3:h[3]? =some (.arr [] 0 0):=by rw[<-hh];rfl
  have g4:h[4]? =some (.box [.d x0,.sl 2 0 0 0,.sl 3 0 0 0]):=by rw[<-hh];rfl
  have g5:h[5]? =some (.vec (aC 7 d++aF 0) 1 0):=by rw[<-hh];rfl
  have g6:h[6]? =some (.arr cs 1 0):=by rw[<-hh];rfl
  have hD:h.drop 7=aI d++[.arr [] 0 0,.arr [] 0 0,.box [.d x1,.sl 5 0 0 k,.sl 6 0 0 z]]:=by rw[<-hh];rfl
  have gr:=iX 7 hD;have ge2:h[d.length+9]? =some (.box [.d x1,.sl 5 0 0 k,.sl 6 0 0 z]):=wN 7 2 hD rfl (by omega);have k0:kids h (0)=[]:=by simp[kids,g0,idsL,idsA]
  have k4:kids h (4)=[2,3]:=by simp[kids,g4,idsL,idsA]
  have ke2:kids h (d.length+9)=[5,6]:=by simp[kids,ge2,idsL,idsA]
  have k2:kids h (2)=[]:=bO g2;have k3:kids h (3)=[]:=bO g3;have k5:kids h (5)=List.range' 7 d.length:=by simp[kids,g5,bM,bY,dM]
  have leaf:=jP gr;have hr:aD (aG+1) h [0,4,d.length+9] []=[0,4,d.length+9,2,3,5]++([6]++(List.range' 7 d.length++[])):=gJ (by simp[k0,k4,ke2,k2,k3,k5]) (by intro q hq;simp only[Ad,Ac]at hq;have:q=0\/q=1\/q=2\/q=3\/q=4\/q=5:=(by omega);rcases this with rfl|rfl|rfl|rfl|rfl|rfl<;>simp[k0,k4,ke2,k2,k3]) leaf (by intro i hi;simp at hi;subst hi;exact⟨_,_,_,by assumption⟩) (by intro i hi;simp at hi;rcases hi with rfl|rfl|rfl|rfl|rfl|rfl<;>exact⟨_,by assumption,by simp⟩) (by simp<;>omega) (by intro i hi;simp at hi;omega) (by simp only[aG,Ad,Ac];omega);generalize hord:[0,4,d.length+9,2,3,5]++([6]++(List.range' 7 d.length++[]))=ord at hr;have hA:ord=([0,4,d.length+9,2,3,5]++[6])++(List.range' 7 d.length++[]):=by rw[<-hord,Ao]
  have pk:∀i j,ord[j]? =some i->aH ord i=some j:=fun i j h1=>dW (by rw[<-hr];exact bW (aG+1) h _ [] (by simp)) h1;have p0:=pk (0) 0 (by rw[<-hord];rfl);have p4:=pk (4) 1 (by rw[<-hord];rfl);have pe2:=pk (d.length+9) 2 (by rw[<-hord];rfl);have p2:=pk (2) 3 (by rw[<-hord];rfl);have p3:=pk (3) 4 (by rw[<-hord];rfl);have p5:=pk (5) 5 (by rw[<-hord];rfl);have p6:=pk (6) 6 (by rw[<-hord];rfl);have pr:=jN (C:=7) pk hA rfl;obtain⟨K,hK⟩:∃K:H,O.box [.d y1,.d y2]::.box [.d x0,.sl 3 0 0 0,.sl 4 0 0 0]::.box [.d x1,.sl 5 0 0 k,.sl 6 0 0 z]::.arr [] 0 0::.arr [] 0 0::.vec (aC 7 d++aF 0) 1 0::.arr cs 1 0::aI d=K:=⟨_,rfl⟩
  have hni:∀f,aE f (aF 0)=aF 0:=fun _=>rfl
  have hpk:pack h ord=K:=by
   have hrf:aE (aH ord) (aC 7 d)=aC 7 d:=fF (c:=0) pr;rw[lC hA gr,<-hK];simp only[Av,Am,Ai,Ap,Aa,g0,g4,ge2,g2,g3,g5,g6,Bb,mapO,aE,mapA,c9,hrf,hni,p2,p3,p5,p6,Ah]
  have hKD:K.drop 7=aI d++[]:=by rw[<-hK];exact(Ah _).symm
  have hgr:=nU hKD
  have hcm:cO 0 K=.box [.d y1,.d y2]::.box [.d x0,.sl 3 0 0 0,.sl 4 0 0 0]::.box [.d x1,.sl 5 0 0 k,.sl 6 0 0 z]::.arr [] 0 0::.arr [] 0 0::.vec (aC 7 d++aF 0) 1 0::.arr cs 1 0::aI d:=by
   have hrf:aV 0 K (aC 7 d)=aC 7 d:=fT hgr;have hnc:∀h:H,aV 0 h (aF 0)=aF 0:=fun _=>rfl;have q3:a8 K 3=some 0:=by rw[<-hK];rfl
   have q4:a8 K 4=some 0:=by rw[<-hK];rfl
   have q5:a8 K 5=some 0:=by rw[<-hK];rfl
   have q6:a8 K 6=some 0:=by rw[<-hK];rfl
   unfold cO;rw[fW]
   conv=>lhs;arg 2;rw[<-hK]
   simp only[Ai,bZ,aV,bL,hY,eU,hrf,hnc,gT,q3,q4,q5,q6,Bw,if_false,if_true]
  subst hK;rw[aCA hh hids hr,hpk,hcm]
  have hmp:aE (aH ord) (tidy m s)=aE (AF d.length) (tidy m s):=by
   apply kV;rw[hids];intro i hi;simp only[Au,Bo,or_false]at hi
   rcases hi with rfl|rfl
   ·rw[p4,aFD]
   ·rw[pe2,aBA rfl]
  have hz2:aV 0 (O.box [.d y1,.d y2]::.box [.d x0,.sl 3 0 0 0,.sl 4 0 0 0]::.box [.d x1,.sl 5 0 0 k,.sl 6 0 0 z]::.arr [] 0 0::.arr [] 0 0::.vec (aC 7 d++aF 0) 1 0::.arr cs 1 0::aI d) (aE (aH ord) (tidy m s))=aE (aH ord) (tidy m s):=by
   exact kQ (HM (by simp[z0O,z0As,z0A,BF,wL,wV,G3])) _ (x9 _ hz)
  rw[hz2,hmp]
 ·rfl
theorem aQ0{m:List Bool}{s:List A}{y1 y2 x0 x1:D}{k z:Nat}{r:List Int}{cs:List D}{d:List (List Int)}{p:H}(hl:d.length<=4294967296):gc 1 m s (.box [.d y1,.d y2]::.box [.d x0,.sl 3 0 0 0,.sl 4 0 0 0]::.box [.d x1,.sl 5 1 0 k,.sl 6 1 0 z]::.arr [] 0 0::.arr [] 0 0::.vec (aC 7 d++[.sl (d.length+7) 1 0 r.length]) 1 1::.arr cs 1 1::(aI d++.arr (ints r) 1 1::p))=match box (tidy m s)with
  |.mk s1=>if idsL s1=[1,2]then(aV 0 (.box [.d y1,.d y2]::.box [.d x0,.sl 3 0 0 0,.sl 4 0 0 0]::.box [.d x1,.sl 5 1 0 k,.sl 6 1 0 z]::.arr [] 0 0::.arr [] 0 0::.vec (aC 7 d++[.sl (d.length+7) 1 0 r.length]) 1 1::.arr cs 1 1::(aI d++[.arr (ints r) 1 1])) (s1),.box [.d y1,.d y2]::.box [.d x0,.sl 3 0 0 0,.sl 4 0 0 0]::.box [.d x1,.sl 5 0 0 k,.sl 6 0 0 z]::.arr [] 0 0::.arr [] 0 0::.vec (aC 7 d++[.sl (d.length+7) 0 0 r.length]) 1 0::.arr cs 1 0::(aI d++[.arr (ints r) 1 0]))else gcO 1 m s (.box [.d y1,.d y2]::.box [.d x0,.sl 3 0 0 0,.sl 4 0 0 0]::.box [.d x1,.sl 5 1 0 k,.sl 6 1 0 z]::.arr [] 0 0::.arr [] 0 0::.vec (aC 7 d++[.sl (d.length+7) 1 0 r.length]) 1 1::.arr cs 1 1::(aI d++.arr (ints r) 1 1::p))
  |.no=>([],[]):=by
 simp only[box]
 split
 ·rename_i hc
  have hb:=hc;have hids:idsL (tidy m s)=[1,2]:=by exact hb
  obtain⟨h,hh⟩:∃h:H,O.box [.d y1,.d y2]::.box [.d x0,.sl 3 0 0 0,.sl 4 0 0 0]::.box [.d x1,.sl 5 1 0 k,.sl 6 1 0 z]::.arr [] 0 0::.arr [] 0 0::.vec (aC 7 d++[.sl (d.length+7) 1 0 r.length]) 1 1::.arr cs 1 1::(aI d++.arr (ints r) 1 1::p)=h:=⟨_,rfl⟩
  conv=>lhs;rw[hh]
  have g0:h[0]? =some (.box [.d y1,.d y2]):=by rw[<-hh];rfl
  have g1:h[1]? =some (.box [.d x0,.sl 3 0 0 0,.sl 4 0 0 0]):=by rw[<-hh];rfl
  have g2:h[2]? =some (.box [.d x1,.sl 5 1 0 k,.sl 6 1 0 z]):=by rw[<-hh];rfl
  have g3:h[3]? =some (.arr [] 0 0):=by rw[<-hh];rfl
  have g4:h[4]? =some (.arr [] 0 0):=by rw[<-hh];rfl
  have g5:h[5]? =some (.vec (aC 7 d++[.sl (d.length+7) 1 0 r.length]) 1 1):=by rw[<-hh];rfl
  have g6:h[6]? =some (.arr cs 1 1):=by rw[<-hh];rfl
  have hD:h.drop 7=aI d++(.arr (ints r) 1 1::p):=by rw[<-hh];rfl
  have gr:=iX 7 hD;have ge0:h[d.length+7]? =some (.arr (ints r) 1 1):=wN 7 0 hD rfl (by omega);have k0:kids h (0)=[]:=by simp[kids,g0,idsL,idsA]
  have k1:kids h (1)=[3,4]:=by simp[kids,g1,idsL,idsA]
  have k2:kids h (2)=[5,6]:=by simp[kids,g2,idsL,idsA]
  have k3:kids h (3)=[]:=bO g3;have k4:kids h (4)=[]:=bO g4;have k5:kids h (5)=List.range' 7 d.length++[d.length+7]:=by simp[kids,g5,bM,bY,idsL,idsA]
  have leaf:=jP gr;have hr:aD (aG+1) h [0,1,2] []=[0,1,2,3,4,5]++([6]++(List.range' 7 d.length++[d.length+7])):=gJ (by simp[k0,k1,k2,k3,k4,k5]) (by intro q hq;simp only[Ad,Ac]at hq;have:q=0\/q=1\/q=2\/q=3\/q=4\/q=5:=(by omega);rcases this with rfl|rfl|rfl|rfl|rfl|rfl<;>simp[k0,k1,k2,k3,k4]) leaf (by intro i hi;simp at hi;rcases hi with rfl|rfl<;>exact⟨_,_,_,by assumption⟩) (by intro i hi;simp at hi;rcases hi with rfl|rfl|rfl|rfl|rfl|rfl<;>exact⟨_,by assumption,by simp⟩) (by simp<;>omega) (by intro i hi;simp at hi;omega) (by simp only[aG,Ad,Ac];omega);generalize hord:[0,1,2,3,4,5]++([6]++(List.range' 7 d.length++[d.length+7]))=ord at hr;have hA:ord=([0,1,2,3,4,5]++[6])++(List.range' 7 d.length++[d.length+7]):=by rw[<-hord,Ao]
  have pk:∀i j,ord[j]? =some i->aH ord i=some j:=fun i j h1=>dW (by rw[<-hr];exact bW (aG+1) h _ [] (by simp)) h1;have p0:=pk (0) 0 (by rw[<-hord];rfl);have p1:=pk (1) 1 (by rw[<-hord];rfl);have p2:=pk (2) 2 (by rw[<-hord];rfl);have p3:=pk (3) 3 (by rw[<-hord];rfl);have p4:=pk (4) 4 (by rw[<-hord];rfl);have p5:=pk (5) 5 (by rw[<-hord];rfl);have p6:=pk (6) 6 (by rw[<-hord];rfl);have pr:=jN (C:=7) pk hA rfl;have pe0:=U3 (C:=7) pk hA rfl 0 (i:=d.length+7) (j:=d.length+7) rfl (by omega);obtain⟨K,hK⟩:∃K:H,O.box [.d y1,.d y2]::.box [.d x0,.sl 3 0 0 0,.sl 4 0 0 0]::.box [.d x1,.sl 5 1 0 k,.sl 6 1 0 z]::.arr [] 0 0::.arr [] 0 0::.vec (aC 7 d++[.sl (d.length+7) 1 0 r.length]) 1 1::.arr cs 1 1::(aI d++[.arr (ints r) 1 1])=K:=⟨_,rfl⟩
  have hni:∀f,aE f (aF 0)=aF 0:=fun _=>rfl
  have hpk:pack h ord=K:=by
   have hrf:aE (aH ord) (aC 7 d)=aC 7 d:=fF (c:=0) pr;rw[lC hA gr,<-hK];simp only[Av,Am,Ai,Ap,Aa,g0,g1,g2,g3,g4,g5,g6,ge0,Bb,mapO,aE,mapA,c9,hrf,p3,p4,p5,p6,pe0]
  have hKD:K.drop 7=aI d++[.arr (ints r) 1 1]:=by rw[<-hK];rfl
  have hgr:=nU hKD;have hge0:a8 K (d.length+7)=some 1:=by simp only[a8,wN 7 0 hKD rfl (j:=d.length+7) (by omega)]
  have hcm:cO 0 K=.box [.d y1,.d y2]::.box [.d x0,.sl 3 0 0 0,.sl 4 0 0 0]::.box [.d x1,.sl 5 0 0 k,.sl 6 0 0 z]::.arr [] 0 0::.arr [] 0 0::.vec (aC 7 d++[.sl (d.length+7) 0 0 r.length]) 1 0::.arr cs 1 0::(aI d++[.arr (ints r) 1 0]):=by
   have hrf:aV 0 K (aC 7 d)=aC 7 d:=fT hgr;have hnc:∀h:H,aV 0 h (aF 0)=aF 0:=fun _=>rfl;have q3:a8 K 3=some 0:=by rw[<-hK];rfl
   have q4:a8 K 4=some 0:=by rw[<-hK];rfl
   have q5:a8 K 5=some 1:=by rw[<-hK];rfl
   have q6:a8 K 6=some 1:=by rw[<-hK];rfl
   unfold cO;rw[fW]
   conv=>lhs;arg 2;rw[<-hK]
   simp only[Ai,Dl,Ap,bZ,aV,bL,hY,eU,hrf,gT,q3,q4,q5,q6,hge0,Bw,if_false,if_true]
  subst hK;rw[aCA hh hids hr,hpk,hcm]
  have hmp:aE (aH ord) (tidy m s)=tidy m s:=by
   apply fU;rw[hids];intro i hi;simp only[Au,Bo,or_false]at hi
   rcases hi with rfl|rfl
   ·exact p1
   ·exact p2
  rw[hmp]
 ·rfl
theorem aUm{m:List Bool}{s:List A}{y1 y2 x0 x1:D}{k z:Nat}{r:List Int}{cs:List D}{d:List (List Int)}{p:H}(hl:d.length<=4294967296):gc 1 m s (.box [.d y1,.d y2]::.box [.d x0,.sl 3 0 0 0,.sl 4 0 0 0]::.box [.d x1,.sl 5 1 0 k,.sl 6 1 0 z]::.arr [] 0 0::.arr [] 0 0::.vec (aC 7 d++[.sl (d.length+7) 1 0 r.length]) 1 1::.arr cs 1 1::(aI d++.arr (ints r) 1 1::p))=match box (tidy m s)with
  |.mk s1=>if idsL s1=[1,2]then(s1,.box [.d y1,.d y2]::.box [.d x0,.sl 3 0 0 0,.sl 4 0 0 0]::.box [.d x1,.sl 5 0 0 k,.sl 6 0 0 z]::.arr [] 0 0::.arr [] 0 0::.vec (aC 7 (d++[r])++aF 0) 1 0::.arr cs 1 0::aI (d++[r]))else gcO 1 m s (.box [.d y1,.d y2]::.box [.d x0,.sl 3 0 0 0,.sl 4 0 0 0]::.box [.d x1,.sl 5 1 0 k,.sl 6 1 0 z]::.arr [] 0 0::.arr [] 0 0::.vec (aC 7 d++[.sl (d.length+7) 1 0 r.length]) 1 1::.arr cs 1 1::(aI d++.arr (ints r) 1 1::p))
  |.no=>([],[]):=by
 have hn:aF 0=[]:=rfl;rw[aQ0 hl,<-LT,FP,hn,Ah,Nat.add_comm 7];have hc:=oH (nf:=0) (h:=.box [.d y1,.d y2]::.box [.d x0,.sl 3 0 0 0,.sl 4 0 0 0]::.box [.d x1,.sl 5 1 0 k,.sl 6 1 0 z]::.arr [] 0 0::.arr [] 0 0::.vec (aC 7 d++[.sl (d.length+7) 1 0 r.length]) 1 1::.arr cs 1 1::(aI d++[.arr (ints r) 1 1])) (tidy m s);simp only[box]
 split
 ·rename_i hid
  rw[hc (by rw[hid];intro i hi;simp at hi;rcases hi with rfl|rfl<;>rfl)]
 ·rfl
theorem aIP{α:Type}{d:List α}{x:α}{j:Nat}:d++[x]++List.replicate j x=d++List.replicate (j+1) x:=by
 rw[Ao,List.replicate_succ];rfl
theorem aDj{R:Type}{L n:Nat}{y1 y2 x0:D}{al n0:Int}(hn0:0<n0){row:List Int}(hrl:row.length<=4294967290){k:KE R}:∀(j m:Nat) (d:List (List Int)) (ac:List Bool) (len len2:Nat) (hj:d.length+j=13\/j=0/\13<=d.length) (hm:j<m) (hd:d[0]? =some row) (hlen:len=d.length) (hlen2:len2=ac.length) (ha:ac.length+j<=4294967290) (hdl:d.length<=4294967290),
  aM env (aA env L n) L 1 (W32 (W32 (W16 (W2 (W1 [1002,0,0,0,0,0,0,0,0,0,0,0,0,0,0,0,0,0,0,0,0,0,1002]))))) Bz20 (nF 0) Bz35 m (Y4 (.ptr 1 0 0::.ptr 2 0 0::nI n0::Y32 (Y32 (Y32 (Y8 (Y2 (Y1 ([])))))))) (.box [.d y1,.d y2]::.box [.d x0,.sl 3 0 0 0,.sl 4 0 0 0]::.box [nI al,.sl 5 0 0 len,.sl 6 0 0 len2]::.arr [] 0 0::.arr [] 0 0::.vec (aC 7 d++aF 0) 1 0::.arr (aJ ac) 1 0::aI d) k
  =k (.exit 1) (Y4 (.ptr 1 0 0::.ptr 2 0 0::nI n0::Y32 (Y32 (Y32 (Y8 (Y2 (Y1 ([])))))))) (.box [.d y1,.d y2]::.box [.d x0,.sl 3 0 0 0,.sl 4 0 0 0]::.box [nI al,.sl 5 0 0 (d.length+j),.sl 6 0 0 (ac.length+j)]::.arr [] 0 0::.arr [] 0 0::.vec (aC 7 (d++List.replicate j row)++aF 0) 1 0::.arr (aJ (ac++List.replicate j false)) 1 0::aI (d++List.replicate j row)):=by
 intro j
 induction j with
 |zero=>
  intro m d ac len len2 hj hm hd hlen hlen2 ha hdl;obtain _|m:=m;omega;have hc:¬((d.length:Int)<=12):=by omega
  have hdl2:d.length<=4294967296:=by omega
  subst hlen;subst hlen2;simp only[List.replicate_zero,Ah,Bp];simp -implicitDefEqProofs (maxSteps:=2000000) (disch:=try exact Dz) only[↓DN,↓kRet,UP,simprocAttr,hn0,hc,↓FU,z0As,z0A,eq_self,sH,r6,vW,u6,Tryz.f59]
 |succ j ih=>
  intro m d ac len len2 hj hm hd hlen hlen2 ha hdl;obtain _|m:=m;omega;have hc:(d.length:Int)<=12:=by omega
  subst hlen;subst hlen2;have hpos:0<d.length:=(As.1 hd).1;have ih':=ih m (d++[row]) (ac++[false]) (d.length+1) (ac.length+1) (by simp;omega) (by omega) (by rw[Ba hpos];exact hd) (by simp) (by simp) (by simp;omega) (by simp;omega);rw[aIP,aIP]at ih';simp only[Af,Ad,Ac,Ag]at ih';rw[show d.length+1+j=d.length+(j+1) by omega,show ac.length+1+j=ac.length+(j+1) by omega]at ih';clear ih
  have hh0:(aC 7 d++aF 0).head? =some (.sl 7 0 0 row.length):=by
   cases d with
   |nil=>simp at hd
   |cons r d=>simp at hd;subst hd;rfl
  have hlv:(aC 7 d++aF 0).length=d.length:=by rw[Af,gR];rfl
  have ht:(aC 7 d++aF 0).take d.length=aC 7 d:=FA rfl;obtain⟨T0,e0⟩:∃T:H,T=(.box [.d x0,.sl 3 0 0 0,.sl 4 0 0 0]::.box [nI al,.sl 5 0 0 d.length,.sl 6 0 0 ac.length]::.arr [] 0 0::.arr [] 0 0::.vec (aC 7 d++aF 0) 1 0::.arr (aJ ac) 1 0::aI d):=⟨_,rfl⟩
  have l0:T0.length=d.length+6:=by rw[e0];simp[cJ]
  have t01:T0[1]? =some (.box [nI al,.sl 5 0 0 d.length,.sl 6 0 0 ac.length]):=by rw[e0];rfl
  have t04:T0[4]? =some (.vec (aC 7 d++aF 0) 1 0):=by rw[e0];rfl
  have t05:T0[5]? =some (.arr (aJ ac) 1 0):=by rw[e0];rfl
  have t0r:∀(i:Nat) (r:List Int),d[i]? =some r->T0[i+6]? =some (.arr (ints r) 1 0):=by
   intro i r hr;rw[e0];simp only[At];have:=F1 (p:=[]) hr
   rwa [Ah]at this
  have w0:wgt T0<=d.length+4:=by
   rw[e0];simp only[lW,GB,eJ,idsL,idsA,bM,bY,dM,Af,Ds,Ad,Ac,Ah];omega
  obtain⟨T1,h1⟩:∃T,T0++[.arr [] 1 0]=T:=⟨_,rfl⟩
  obtain⟨l1,g1,k1⟩:=j2 h1;rw[l0]at l1 g1 k1;have w1:wgt T1=wgt T0:=by rw[<-h1,AY];simp[eJ]
  obtain⟨T2,h2⟩:∃T,T1.set (d.length+6) (.arr (ints row) 1 1)=T:=⟨_,rfl⟩
  obtain⟨l2,g2,k2⟩:=cK h2 (by omega);have w2:wgt T2<=wgt T1:=by rw[<-h2];have:=jY (h:=T1) (i:=d.length+6) (o:=.arr (ints row) 1 1);simpa [eJ]using this
  obtain⟨T3,h3⟩:∃T,T2++[.vec [.sl (d.length+7) 1 0 row.length] 1 0]=T:=⟨_,rfl⟩
  obtain⟨l3,g3,k3⟩:=j2 h3;rw[l2,l1]at l3 g3 k3;have w3:wgt T3=wgt T2+1:=by rw[<-h3,AY];simp[eJ,idsL,idsA]
  obtain⟨T4,h4⟩:∃T,T3.set 4 (.vec (aC 7 d++[.sl (d.length+7) 1 0 row.length]) 1 1)=T:=⟨_,rfl⟩
  obtain⟨l4,g4,k4⟩:=cK h4 (by omega)
  have w4:wgt T4<=wgt T3+d.length+1:=by
   rw[<-h4];have:=jY (h:=T3) (i:=4) (o:=.vec (aC 7 d++[.sl (d.length+7) 1 0 row.length]) 1 1);simp only[eJ,bM,bY,idsL,idsA,Af,Ds,Ad,Ac]at this;omega
  obtain⟨T5,h5⟩:∃T,T4.set 1 (.box [nI al,.sl 5 1 0 (d.length+1),.sl 6 0 0 ac.length])=T:=⟨_,rfl⟩
  obtain⟨l5,g5,k5⟩:=cK h5 (by omega);obtain⟨T6,h6⟩:∃T,T5++[.arr [.bool false] 1 0]=T:=⟨_,rfl⟩
  obtain⟨l6,g6,k6⟩:=j2 h6;rw[l5,l4,l3]at l6 g6 k6;obtain⟨T7,h7⟩:∃T,T6.set 5 (.arr (aJ (ac++[false])) 1 1)=T:=⟨_,rfl⟩
  obtain⟨l7,g7,k7⟩:=cK h7 (by omega);obtain⟨T8,h8⟩:∃T,T7.set 1 (.box [nI al,.sl 5 1 0 (d.length+1),.sl 6 1 0 (ac.length+1)])=T:=⟨_,rfl⟩
  have e8:T8=.box [.d x0,.sl 3 0 0 0,.sl 4 0 0 0]::.box [nI al,.sl 5 1 0 (d.length+1),.sl 6 1 0 (ac.length+1)]::.arr [] 0 0::.arr [] 0 0::.vec (aC 7 d++[.sl (d.length+7) 1 0 row.length]) 1 1::.arr (aJ (ac++[false])) 1 1::(aI d++.arr (ints row) 1 1::.vec [.sl (d.length+7) 1 0 row.length] 1 0::[.arr [.bool false] 1 0]):=by
   rw[<-h8,<-h7,<-h6,<-h5,<-h4,<-h3,<-h2,<-h1,e0];simp only[Av,Ao,Am,Bn,Cf];rw[X4 rfl];simp only[Av,Ao,Am]
  have st_gc:∀ {mk:List Bool} {s:List A},gc 1 mk s (.box [.d y1,.d y2]::T8)=match box (tidy mk s)with
    |.mk s1=>if idsL s1=[1,2]then(s1,.box [.d y1,.d y2]::.box [.d x0,.sl 3 0 0 0,.sl 4 0 0 0]::.box [nI al,.sl 5 0 0 (d.length+1),.sl 6 0 0 (ac.length+1)]::.arr [] 0 0::.arr [] 0 0::.vec (aC 7 (d++[row])++aF 0) 1 0::.arr (aJ (ac++[false])) 1 0::aI (d++[row]))else gcO 1 mk s (.box [.d y1,.d y2]::T8)
    |.no=>([],[]):=by
   intro mk s;rw[e8];exact aUm (by omega)
  have st_app1:∀ {call:aZ} {thaw:List Nat} {dst:Option Tmp} {args:Array Operand},memD env call thaw dst (.call ⟨.builtin .append,args,#[80,80]⟩) (.box [.d y1,.d y2]::T1) [.sl (d.length+6+1) 0 0 0,.sl 7 0 0 row.length]=some (.sl (d.length+7) 1 0 row.length,.box [.d y1,.d y2]::T2,{ ids:=[d.length+7,7],ro:=false,wr:=[d.length+7]}):=by
   intro call thaw dst args;have h7r:T1[6]? =some (.arr (ints row) 1 0):=by rw[k1 _ (by omega)];exact t0r 0 row hd
   rw[K8 (e:=3) (e0:=1) (n2:=row.length) (len:=0) (cs:=[]) (src:=ints row) rfl V7 kr (by rw[At];exact g1) (.inr rfl) (by rw[At];exact h7r) (by simp[ints]) (by simp) (by unfold bK;omega) (by omega)];rw[Bn,<-h2];simp
  have st_vec:∀ {call:aZ} {thaw:List Nat} {dst:Option Tmp} {x:Operand},Shut ((keeps thaw dst&& !logs thaw dst)=true)->memD env call thaw dst (.buildSlice 23 1 #[(0,x)]) (.box [.d y1,.d y2]::T2) [.sl (d.length+7) 1 0 row.length]=some (.sl (d.length+8) 0 0 1,.box [.d y1,.d y2]::T3,{ ids:=[d.length+7,d.length+8],ro:=false}):=by
   intro call thaw dst x hk;rw[aFi (e:=80) (cs:=ints row) (es:=1) hk.it rfl kr SV kr (by rw[show d.length+7=d.length+6+1 by omega,At];exact g2)];rw[Av,h3,Ad,l2,l1]
  have ok_row:∀(T:H) (i:Nat) (r:List Int) (g:Nat),T[i+6]? =some (.arr (ints r) 1 g)->Okay (.box [.d y1,.d y2]::T) (i+7):=by
   intro T i r g hr;have hg:(O.box [.d y1,.d y2]::T)[i+7]? =some (.arr (ints r) 1 g):=by rw[show i+7=i+6+1 by omega,At];exact hr
   exact .mk _ _ hg (by simp) (by rw[bO hg];simp)
  have t3r:∀(i:Nat) (r:List Int),d[i]? =some r->T3[i+6]? =some (.arr (ints r) 1 0):=by
   intro i r hr;have hi:i<d.length:=(As.1 hr).1;rw[k3 _ (by omega),k2 _ (by omega),k1 _ (by omega)];exact t0r i r hr
  have t3e:T3[d.length+6]? =some (.arr (ints row) 1 1):=by rw[k3 _ (by omega)];exact g2
  have t34:T3[4]? =some (.vec (aC 7 d++aF 0) 1 0):=by rw[k3 _ (by omega),k2 _ (by omega),k1 _ (by omega),t04]
  have g3':T3[d.length+7]? =some (.vec [.sl (d.length+7) 1 0 row.length] 1 0):=g3
  have ok35:Okay (.box [.d y1,.d y2]::T3) 5:=by
   have hg:(O.box [.d y1,.d y2]::T3)[5]? =some (.vec (aC 7 d++aF 0) 1 0):=t34;refine .mk _ _ hg (by simp) ?_;intro q hq;have:kids (.box [.d y1,.d y2]::T3) 5=List.range' 7 d.length:=by simp only[kids,hg,bM,bY,dM,Ah]
   rw[this,Cu]at hq;obtain⟨z,rfl⟩:∃z,q=z+7:=⟨q-7,by omega⟩
   exact ok_row T3 z (d[z]'(by omega)) 0 (t3r _ _ (Ae _))
  have ok3e:Okay (.box [.d y1,.d y2]::T3) (d.length+8):=by
   have hg:(O.box [.d y1,.d y2]::T3)[d.length+8]? =some (.vec [.sl (d.length+7) 1 0 row.length] 1 0):=g3';refine .mk _ _ hg (by simp) ?_;intro q hq;have:kids (.box [.d y1,.d y2]::T3) (d.length+8)=[d.length+7]:=by simp[kids,hg,idsL,idsA]
   rw[this]at hq;simp at hq;subst hq;exact ok_row T3 d.length row 1 t3e
  obtain⟨o1,ho1⟩:∃o,o=aD aG (.box [.d y1,.d y2]::T3) [5,d.length+8] []:=⟨_,rfl⟩
  have st_app2:∀ {call:aZ} {thaw:List Nat} {dst:Option Tmp} {args:Array Operand},memD env call thaw dst (.call ⟨.builtin .append,args,#[23,23]⟩) (.box [.d y1,.d y2]::T3) [.sl 5 0 0 d.length,.sl (d.length+8) 0 0 1]=some (.sl 5 1 0 (d.length+1),.box [.d y1,.d y2]::T4,{ ids:=o1,ro:=false,wr:=[5]}):=by
   intro call thaw dst args;rw[SU (e:=80) rfl SV kr (id:=5) (id2:=d.length+8) (g:=0) (g2:=0) (len:=d.length) (cs:=aC 7 d++aF 0) (c:=.sl (d.length+7) 1 0 row.length) t34 g3' (by omega) (by unfold bK;omega) ok35 ok3e (by rw[lW];simp only[eJ,idsL,idsA,Am,Ac];omega),<-ho1,ht];rw[Bn,h4]
  have t41:T4[1]? =some (.box [nI al,.sl 5 0 0 d.length,.sl 6 0 0 ac.length]):=by rw[k4 _ (by omega),k3 _ (by omega),k2 _ (by omega),k1 _ (by omega),t01]
  have t45:T4[5]? =some (.arr (aJ ac) 1 0):=by rw[k4 _ (by omega),k3 _ (by omega),k2 _ (by omega),k1 _ (by omega),t05]
  have ok45:Okay (.box [.d y1,.d y2]::T4) 5:=by
   have hg:(O.box [.d y1,.d y2]::T4)[5]? =some (.vec (aC 7 d++[.sl (d.length+7) 1 0 row.length]) 1 1):=g4;refine .mk _ _ hg (by simp) ?_;intro q hq;have:kids (.box [.d y1,.d y2]::T4) 5=List.range' 7 d.length++[d.length+7]:=by simp only[kids,hg,bM,bY,idsL,idsA,Ah]
   rw[this,Al,Cu]at hq
   rcases hq with hq|hq
   ·obtain⟨z,rfl⟩:∃z,q=z+7:=⟨q-7,by omega⟩
    exact ok_row T4 z (d[z]'(by omega)) 0 (by rw[k4 _ (by omega)];exact t3r _ _ (Ae _))
   ·simp at hq;subst hq;exact ok_row T4 d.length row 1 (by rw[k4 _ (by omega)];exact t3e)
  have ok46:Okay (.box [.d y1,.d y2]::T4) 6:=by
   have hg:(O.box [.d y1,.d y2]::T4)[6]? =some (.arr (aJ ac) 1 0):=t45;exact .mk _ _ hg (by simp) (by rw[bO hg];simp)
  have ok42:Okay (.box [.d y1,.d y2]::T4) 2:=by
   have hg:(O.box [.d y1,.d y2]::T4)[2]? =some (.box [nI al,.sl 5 0 0 d.length,.sl 6 0 0 ac.length]):=t41;refine .mk _ _ hg (by simp) ?_;intro q hq;have:kids (.box [.d y1,.d y2]::T4) 2=[5,6]:=by simp[kids,hg,idsL,idsA]
   rw[this]at hq;simp at hq
   rcases hq with rfl|rfl
   ·exact ok45
   ·exact ok46
  obtain⟨o2,ho2⟩:∃o,o=aD aG (.box [.d y1,.d y2]::T4) [2,5] []:=⟨_,rfl⟩
  have st_sto:∀ {call:aZ} {thaw:List Nat} {dst:Option Tmp} {x y:Operand},memD env call thaw dst (.store 23 x y) (.box [.d y1,.d y2]::T4) [.ptr 2 0 1,.sl 5 1 0 (d.length+1)]=some (.d .undef,.box [.d y1,.d y2]::T5,{ ids:=o2,ro:=false,wr:=o2}):=by
   intro call thaw dst x y;rw[uB kr kr (h:=.box [.d y1,.d y2]::T4) (id:=2) (id2:=5) (off:=1) (cs:=[nI al,.sl 5 0 0 d.length,.sl 6 0 0 ac.length]) t41 (by simp) ok42 ok45 (by rw[lW];simp only[eJ,idsL,idsA,Am,Ac];omega),<-ho2];rw[Bn];unfold bH;rw[<-h5];rfl
  have hclash:∀(ops:List Oper),oV [(1,2),(2,4),(2,5),(2,6),(1,7),(1,8)] ops [{},{ ids:=[2],ro:=true},{ ids:=[d.length+6+1],ro:=false},{},{ ids:=[2],ro:=true},{ ids:=[5],ro:=true},{ ids:=[5],ro:=true},{ ids:=[d.length+7,7],ro:=false,wr:=[d.length+7]},{ ids:=[d.length+7,d.length+8],ro:=false},{ ids:=o1,ro:=false,wr:=[5]},{},{ ids:=o2,ro:=false,wr:=o2}]=true->eV ops [{},{ ids:=[2],ro:=true},{ ids:=[d.length+6+1],ro:=false},{},{ ids:=[2],ro:=true},{ ids:=[5],ro:=true},{ ids:=[5],ro:=true},{ ids:=[d.length+7,7],ro:=false,wr:=[d.length+7]},{ ids:=[d.length+7,d.length+8],ro:=false},{ ids:=o1,ro:=false,wr:=[5]},{},{ ids:=o2,ro:=false,wr:=o2}]=true:=by
   intro ops hm;refine yD _ hm ?_;intro q hq;simp only[Au,Bo,or_false]at hq
   rcases hq with rfl|rfl|rfl|rfl|rfl|rfl<;>simp[kS]<;>omega
  have t5b:T5[5]? =some (.arr (aJ ac) 1 0):=by rw[k5 _ (by omega),t45]
  have t65:T6[5]? =some (.arr (aJ ac) 1 0):=by rw[k6 _ (by omega),t5b]
  have t71:T7[1]? =some (.box [nI al,.sl 5 1 0 (d.length+1),.sl 6 0 0 ac.length]):=by rw[k7 _ (by omega),k6 _ (by omega),g5]
  have t61:T6[1]? =some (.box [nI al,.sl 5 1 0 (d.length+1),.sl 6 0 0 ac.length]):=by rw[k6 _ (by omega),g5]
  have hp0:(0:Int)<d.length:=by omega
  have t11:T1[1]? =some (.box [nI al,.sl 5 0 0 d.length,.sl 6 0 0 ac.length]):=by rw[k1 _ (by omega),t01]
  have t14:T1[4]? =some (.vec (aC 7 d++aF 0) 1 0):=by rw[k1 _ (by omega),t04]
  have l5':T5.length=d.length+8:=by omega
  rw[<-e0];clear k1 k2 k3 k4 k5 k6 k7 w0 w1 w2 w3 w4 ok35 ok3e ok45 ok46 ok42 ok_row t3r t3e ho1 ho2 e0 e8 l1 l2 l3 l4 l5 l6 l7 hlv ht hd hpos t0r g3 g3';simp -implicitDefEqProofs (maxSteps:=2000000) (disch:=try exact Dz) only[↓DN,↓kRet,UP,simprocAttr,LA,hn0,hc,hp0,l0,t01,h1,t11,t14,hh0,↓st_app1,↓st_vec,↓st_app2,↓st_sto,g5,l5',h6,g6,t65,h7,t71,h8,uF,↓st_gc,↓ih',vW,u6,Tryz.f59]
theorem aKc{c:List UInt8}(hc:c.length<=2000)(al:Int)(nx:List (List Int))(ac:List Bool)(hs:bF nx)(h1:1<=nx.length)(ha:ac.length<=4294967000)(hnl2:nx.length<=4294967000)(p t:Int){row:List Int}(hrow:nx[0]? =some row)(hrl:row.length<=4294967290)(j:Nat)(hj:nx.length+j=13\/j=0/\13<=nx.length)
  (kd1:(Dw 1 49 [nI (nx.length)] (nI t) c p (p+1)))
  (kd2:(Dw 1 49 [nI 30] (nI 5) c (p+1) (p+1+1))):(Dw 4 59 [autD al nx ac] (autD al (nx++List.replicate j row) (ac++List.replicate j false)) c p (p+1+1)):=by
 intro R L n hq k hn hL;refine cD jZ (by simp[autD,idsA,idsL]) (by simp[autD,idsA,idsL]) ?_;have hnl:=hs.1;obtain⟨N,T1,T2,T3,w⟩:=kW (.box [nI al,.d (.ivs nx.length (aN nx)),.d (.ivs ac.length (aJ ac))]) (.box [nI 0,.sl 2 0 0 0,.sl 3 0 0 0]) al nx ac;have kd3:=fun {R:Type} {n:Nat} {o1:O} {k:KA R} (hn:2<=n)=>mX (R:=R) (L:=L) (n:=n) (o1:=o1) (al:=al) (k:=k) w.h1 hs h1 (by omega) hn hL;obtain⟨hN,hT1,l1,h2,b2,h3,l3,t3,t4,t5,tr,tb,e3,wg⟩:=w;clear hT1
 have st_gc:∀ {y1 y2:D} {mk:List Bool} {s:List A},gc 1 mk s (.box [.d y1,.d y2]::T3)=match box (tidy mk s)with
   |.mk s1=>if NL nx.length (idsL s1)=true/\z0As s1=true then(aE (AF nx.length) s1,.box [.d y1,.d y2]::.box [nI 0,.sl 3 0 0 0,.sl 4 0 0 0]::.box [nI al,.sl 5 0 0 nx.length,.sl 6 0 0 ac.length]::.arr [] 0 0::.arr [] 0 0::.vec (aC 7 nx++aF 0) 1 0::.arr (aJ ac) 1 0::aI nx)else gcO 1 mk s (.box [.d y1,.d y2]::T3)
   |.no=>([],[]):=by
  intro y1 y2 mk s;rw[e3];exact aTw (by omega)
 have loop_a:=fun {R:Type} {n:Nat} {y1 y2 x0:D} {k:KE R}=>aDj (R:=R) (L:=L) (n:=n) (y1:=y1) (y2:=y2) (x0:=x0) (al:=al) (n0:=nx.length) (k:=k) (by omega) hrl j L nx ac nx.length ac.length hj (by omega) hrow rfl rfl (by omega) (by omega);have hl1:(nx++List.replicate j row).length=nx.length+j:=by simp
 have hl2:(ac++List.replicate j false).length=ac.length+j:=by simp
 generalize nx++List.replicate j row=nx2 at *;generalize ac++List.replicate j false=ac2 at *;obtain⟨T9,e9⟩:∃T:H,.box [nI al,.sl 5 0 0 (nx.length+j),.sl 6 0 0 (ac.length+j)]::.box [nI al,.sl 5 0 0 (nx.length+j),.sl 6 0 0 (ac.length+j)]::.arr [] 0 0::.arr [] 0 0::.vec (aC 7 nx2++aF 0) 1 0::.arr (aJ ac2) 1 0::aI nx2=T:=⟨_,rfl⟩
 have g9:T9[0]? =some (.box [nI al,.sl 5 0 0 (nx.length+j),.sl 6 0 0 (ac.length+j)]):=by rw[<-e9];rfl
 have hv:rd1 (rdO c (p+1+1)::T9) (.sl 5 0 0 (nx.length+j))=some (.ivs nx2.length (aN nx2)):=by
  refine wM (cs:=aC 7 nx2++aF 0) (by rw[<-e9];rfl) (HV fun i r hr=> ?_) hl1.symm;rw[<-e9];simp only[At];have:=F1 (p:=[]) hr
  rwa [Ah]at this
 have hw:rd1 (rdO c (p+1+1)::T9) (.sl 6 0 0 (ac.length+j))=some (.ivs ac2.length (aJ ac2)):=oB (by rw[<-e9];rfl) hl2.symm;obtain⟨h2',st_out,st_keep,st_trim⟩:=rS (al:=al) hv hw (by omega) (by omega);unfold autD at st_out|-;have hke:N+1+1+1=nx.length+9:=by omega
 clear hv hw tr h1 wg e3 hrow;obtain _|n:=n;omega;simp -implicitDefEqProofs (maxSteps:=2000000) (disch:=try exact Dz) only[↓DN,↓kRet,UP,simprocAttr,↓kd1,↓kd2,↓kd3,l1,h2,b2,h3,tb,↓st_gc,aLA,aFD,aBA,z0As,z0A,eq_self,↓loop_a,e9,g9,↓st_out,↓st_keep,↓st_trim,Ao,dI,dO,Tryz.f59]
def src(c:List UInt8):List UInt8:=if 2000<c.length then c.take 2000 else c
theorem aUi(c:List UInt8):(src c).length<=2000:=by
 unfold src;split
 ·rw[Bt];omega
 ·omega
theorem aNR:(env.hint 27).mode=2:=kr
theorem aUa{L n:Nat}(hn:1<=n)(c0:List UInt8)(hc:c0.length<=4294967296):aA env L n 27 [.d (.ivs c0.length (bI c0))] []=some (.ptr 0 0 0,[O.box [A.d (D.ivs (src c0).length (bI (src c0))),A.d (D.int .i64 0)]]):=by
 unfold src
 by_cases h:(2000:Int)<c0.length
 ·have h':2000<c0.length:=by omega
  obtain _|n:=n;omega;simp -implicitDefEqProofs (maxSteps:=2000000) (disch:=try exact Dz) only[↓DN,↓kAsg,↓kRet,UP,simprocAttr,h,h',VH,L9,Tryz.f27]
 ·have h':¬2000<c0.length:=by omega
  obtain _|n:=n;omega;simp -implicitDefEqProofs (maxSteps:=2000000) (disch:=try exact Dz) only[↓DN,↓kAsg,↓kRet,UP,simprocAttr,h,h',VH,L9,Tryz.f27]
mutual
theorem aEU{f g:Nat->Option Nat}(hfg:∀k,f k=none->g k=none):∀a:A,idsA (mapA f a)=[]->mapA g a=mapA f a
 |.d x,_=>by simp only[mapA]
 |.sl id gen off len,h=>by
  simp only[mapA]at h|-
  cases hf:f id with
  |none=>rw[hfg id hf]
  |some m=>rw[hf]at h;simp[idsA]at h
 |.ptr id gen off,h=>by
  simp only[mapA]at h|-
  cases hf:f id with
  |none=>rw[hfg id hf]
  |some m=>rw[hf]at h;simp[idsA]at h
 |.mp id,h=>by
  simp only[mapA]at h|-
  cases hf:f id with
  |none=>rw[hfg id hf]
  |some m=>rw[hf]at h;simp[idsA]at h
 |.clo c caps,h=>by simp only[mapA,idsA]at h|-;rw[FD hfg caps h]
 |.agg cs,h=>by simp only[mapA,idsA]at h|-;rw[FD hfg cs h]
 |.tup cs,h=>by simp only[mapA,idsA]at h|-;rw[FD hfg cs h]
 |.junk,_=>by simp only[mapA]
theorem FD{f g:Nat->Option Nat}(hfg:∀k,f k=none->g k=none):∀l:List A,idsL (aE f l)=[]->aE g l=aE f l
 | [],_=>by simp only[aE]
 |a::l,h=>by
  simp only[aE,idsL,List.append_eq_nil_iff]at h;simp only[aE];rw[aEU hfg a h.1,FD hfg l h.2]
end
theorem aNx{f:Nat->Option Nat}{a:A}{x:D}(h:mapA f a=.d x):a=.d x:=by
 cases a with
 |d y=>simpa [mapA]using h
 |sl id gen off len=>simp only[mapA]at h;split at h<;>cases h
 |ptr id gen off=>simp only[mapA]at h;split at h<;>cases h
 |mp id=>simp only[mapA]at h;split at h<;>cases h
 |clo c caps=>simp[mapA]at h
 |agg cs=>simp[mapA]at h
 |tup cs=>simp[mapA]at h
 |junk=>simp[mapA]at h
theorem aTQ{f:Nat->Option Nat}{o:O}{c:List UInt8}{q:Int}(h:mapO f o=rdO c q):o=rdO c q:=by
 cases o with
 |box cs=>
  simp only[mapO,O.box.injEq]at h
  match cs,h with
  | [a,b],h=>
   simp only[aE,List.cons.injEq,and_true]at h;rw[aNx h.1,aNx h.2]
  | [],h=>simp[aE]at h
  | [_],h=>simp[aE]at h
  |_::_::_::_,h=>simp[aE]at h
 |_=>simp[mapO]at h
theorem aNz{L n m:Nat}{f:FuncId}{args:List A}{c:List UInt8}{p q:Int}{r:A}(ha:idsL args=[])(hr:idsA r=[])
  (kd:∀(R:Type) (L n:Nat) (hq:H) (k:KA R),m<=n->2^60<=L->a6 env (aA env L n) (rdO c p::hq) f (.ptr 0 0 0::args) k=k r (rdO c q::hq))
  {R:Type} {hq:H} {k:KA R} {i:Nat} (hn:m<=n) (hL:2^60<=L) (hi:hq[i]? =some (rdO c p)):
  a6 env (aA env L n) hq f (.ptr i 0 0::args) k=k r (hq.set i (rdO c q)):=by
 have h0:=kd (A×H) L n [] (fun a h=>some (a,h)) hn hL;generalize aA env L n=call at h0|-;have hid:∀j,idsL (A.ptr j 0 0::args)=[j]:=fun j=>by simp[idsL,idsA,ha]
 have hre:∀(h:H) (j:Nat),h[j]? =some (rdO c p)->aD aG h [j] []=[j]:=by
  intro h j hj
  have e1:aD aG h [j] []=match h[j]? with
   |some (.box cs)=>aD (aG-1) h ([]++idsL cs) ([]++[j])
   |some (.vec cs _ _)=>aD (aG-1) h ([]++idsL cs) ([]++[j])
   |some .void=>aD (aG-1) h [] []
   |some _=>aD (aG-1) h [] ([]++[j])
   |none=>aD (aG-1) h [] []:=rfl
  rw[e1,hj];rfl
 have hpk:∀(h:H) (j:Nat),h[j]? =some (rdO c p)->pack h [j]=[rdO c p]:=by
  intro h j hj;simp only[pack,Ai,Ap,Aa,hj];rfl
 have hma:∀j,aE (aH [j]) (A.ptr j 0 0::args)=A.ptr 0 0 0::args:=by
  intro j;simp only[aE,iT _ ha];simp[mapA,aH]
 have hcl:∀(h:H) (j:Nat),h[j]? =some (rdO c p)->closed h [j] [j]=true:=by
  intro h j hj;simp only[closed,Bs,Cb,hj];simp[idsL,idsA]
 unfold a6 at h0|-;rw[hid,hre hq i hi,hpk hq i hi,hma];rw[hid,hre [rdO c p] 0 rfl,hpk [rdO c p] 0 rfl,hma]at h0
 cases hc:b8 call env.hint [rdO c p] f (A.ptr 0 0 0::args)with
 |none=>rw[hc]at h0;simp at h0
 |some y=>
  obtain⟨a,h1⟩:=y;rw[hc]at h0;simp only[hcl [rdO c p] 0 rfl,hcl hq i hi,and_true,Ad,Ac]at h0|-
  split at h0
  ·rename_i hlen
   rw[if_pos hlen];simp only[Option.some.injEq,Prod.mk.injEq]at h0;obtain⟨g1,g2⟩:=h0
   match h1,hlen,g1,g2 with
   |o::rest,hlen,g1,g2=>
    simp only[bG,Cf,Av,Am,List.cons.injEq,List.map_eq_nil_iff]at g2;obtain⟨g2,rfl⟩:=g2;have ho:=aTQ g2;subst ho
    have ga:mapA (back [i] hq.length 1) a=r:=by
     rw[aEU (f:=back [0] 1 1) (g:=back [i] hq.length 1) ?_ a (by have:=g1;simp only[Ad,Ac,Ag]at this;rw[this];exact hr)]
     ·simpa using g1
     ·intro j hj;unfold back at hj|-
      by_cases h0:j< [i].length
      ·have:j=0:=by simp at h0;exact h0
       subst this;simp at hj
      ·have h0':¬j< [0].length:=by simpa using h0
       rw[if_neg h0']at hj;rw[if_neg h0]
       split at hj
       ·cases hj
       ·rename_i h2;rw[if_neg h2]
    simp only[Ad,Ac,Ag];rw[ga]
    congr 1
    simp[bG,mapO,aE,mapA]
  ·simp at h0
theorem aQX{R:Type}{L n:Nat}{hq:H}{k:KA R}(c0:List UInt8)(hn:1<=n)(hc:c0.length<=4294967296):a6 env (aA env L n) hq 27 [.d (.ivs c0.length (bI c0))] k=k (.ptr hq.length 0 0) (hq++[O.box [A.d (D.ivs (src c0).length (bI (src c0))),A.d (D.int .i64 0)]]):=by
 have he:=aUa (L:=L) hn c0 hc;unfold a6;have h1:aD aG hq (idsL [A.d (D.ivs c0.length (bI c0))]) []=[]:=rfl;have h2:pack hq []=[]:=rfl;have h3:aE (aH []) [A.d (D.ivs c0.length (bI c0))]=[A.d (D.ivs c0.length (bI c0))]:=rfl;rw[h1,h2,h3]
 have h4:b8 (aA env L n) env.hint [] 27 [A.d (D.ivs c0.length (bI c0))]=some (.ptr 0 0 0,[O.box [A.d (D.ivs (src c0).length (bI (src c0))),A.d (D.int .i64 0)]]):=by
  unfold b8;rw[aNR];have h5:fB ([]:H) [A.d (D.ivs c0.length (bI c0))]=some ([A.d (D.ivs c0.length (bI c0))],[]):=rfl;simp only[h5,he];rfl
 rw[h4];have hcl:closed hq [] (idsL [A.d (D.ivs c0.length (bI c0))])=true:=rfl;simp only[hcl,Ac,Nat.zero_le,and_self,if_true]
 congr 1
structure AutB(B:Nat)(nx:List (List Int))(ac:List Bool):Prop where
 n:nx.length<=B
 a:ac.length<=B
 r:∀r∈nx,r.length<=B
theorem AutB.short{B:Nat}{nx:List (List Int)}{ac:List Bool}(h:AutB B nx ac)(hB:B<=4294967000):bF nx:=⟨by have:=h.n;omega,fun r hr=>by have:=h.r r hr;omega⟩
theorem AutB.mono{B C:Nat}{nx:List (List Int)}{ac:List Bool}(h:AutB B nx ac)(hB:B<=C):AutB C nx ac:=⟨by have:=h.n;omega,by have:=h.a;omega,fun r hr=>by have:=h.r r hr;omega⟩
theorem AutB.at{B:Nat}{nx:List (List Int)}{ac:List Bool}(h:AutB B nx ac)(i:Nat):(nx.getD i []).length<=B:=by
 rw[Aa]
 cases hg:nx[i]? with
 |none=>simp
 |some r=>simpa using h.r r (Bj hg)
theorem aEr{c:List UInt8}(hc:c.length<=2000){B:Nat}(hB:B<=4294966000)(al:Int)(nx:List (List Int))(ac:List Bool)(hb:AutB B nx ac)(h1:1<=nx.length)(p:Int)(hp:0<=p)(hp2:p<=890000000):
  ∃(al2:Int) (nx2:List (List Int)) (ac2:List Bool) (q:Int),AutB (B+13) nx2 ac2/\(1<=nx2.length\/nx2=[]/\ac2=[])/\p<=q/\q<=p+4/\(Dw 4 59 [autD al nx ac] (autD al2 nx2 ac2) c p q):=by
 have hs:=hb.short (by omega);have hn:=hb.n;have hba:=hb.a;obtain⟨k,k0,k1,_,kd1⟩:=fA hc p nx.length hp (by omega);obtain⟨u,u0,u1,_,kd2⟩:=fA hc (p+1) 30 (by omega) (by omega);have k1:=k1 (by omega);obtain⟨t,rfl⟩:∃t:Nat,k=t:=⟨k.toNat,by omega⟩
 have ht:t<nx.length:=by omega
 have hrt:=hb.at t
 by_cases hu0:u=0
 ·subst hu0;obtain⟨al2,kd⟩:=aL9 hc al nx ac hs h1 (by omega) p t hp (by omega) kd1 kd2;exact⟨al2,nx,ac,_,hb.mono (by omega),.inl h1,by omega,by omega,kd⟩
 by_cases hu1:u=1
 ·subst hu1;refine⟨al,nx,ac++[true],_,⟨by omega,by simp;omega,fun r hr=> ?_⟩,.inl h1,by omega,by omega,aLP hc al nx ac hs h1 (by omega) p t kd1 kd2⟩;have:=hb.r r hr;omega
 by_cases hu2:u=2
 ·subst hu2;refine⟨al,_,ac,_,⟨by rw[Bl];omega,by omega,fun r hr=> ?_⟩,.inl (by rw[Bl];exact h1),by omega,by omega,aJg hc al nx ac hs h1 (by omega) p t ht (by omega) kd1 kd2⟩
  rcases Dm hr with h|h
  ·have:=hb.r r h;omega
  ·rw[h,Af,Ad,Ac];omega
 by_cases hu3:u=3
 ·subst hu3
  by_cases h0:(nx.getD t []).length=0
  ·exact⟨al,nx,ac,_,hb.mono (by omega),.inl h1,by omega,by omega,aK9 hc al nx ac hs h1 (by omega) p t ht h0 kd1 kd2⟩
  ·obtain⟨v,v0,v1,_,kd4⟩:=fA hc (p+1+1) (nx.getD t []).length (by omega) (by omega);have v1:=v1 (by omega);obtain⟨j,rfl⟩:∃j:Nat,v=j:=⟨v.toNat,by omega⟩
   obtain⟨w,kd⟩:=aKa hc al nx ac hs h1 (by omega) p hp (by omega) t ht j (by omega) kd1 kd2 kd4;refine⟨al,_,ac,_,⟨by rw[Bl];omega,by omega,fun r hr=> ?_⟩,.inl (by rw[Bl];exact h1),by omega,by omega,kd⟩
   rcases Dm hr with h|h
   ·have:=hb.r r h;omega
   ·rw[h,Bl];omega
 by_cases hu4:u=4
 ·subst hu4;exact⟨al,[],[],_,⟨by simp,by simp,by simp⟩,.inr ⟨rfl,rfl⟩,by omega,by omega,aG1 hc al nx ac hs h1 (by omega) p t kd1 kd2⟩
 by_cases hu5:u=5
 ·subst hu5;have h0:nx[0]? =some (nx[0]'(by omega)):=Ae _;have hr0:=hb.r _ (Az (by omega:0<nx.length));refine⟨al,_,_,_,⟨?_,?_,fun r hr=> ?_⟩,.inl (by rw[Af];omega),by omega,by omega,aKc hc al nx ac hs h1 (by omega) (by omega) p t h0 (by omega) (13-nx.length) (by omega) kd1 kd2⟩
  ·simp;omega
  ·simp;omega
  ·rcases Al.1 hr with h|h
   ·have:=hb.r r h;omega
   ·obtain⟨_,rfl⟩:=List.mem_replicate.1 h;omega
 exact⟨al,nx,ac,_,hb.mono (by omega),.inl h1,by omega,by omega,aHK hc al nx ac hs h1 (by omega) p t u hu0 hu1 hu2 hu3 hu4 hu5 kd1 kd2⟩
theorem aLo{c:List UInt8}(hc:c.length<=2000){B:Nat}(hB:B<=4294966000)(al:Int)(nx:List (List Int))(ac:List Bool)(hb:AutB B nx ac)(h1:1<=nx.length)(p:Int)(hp:0<=p)(hp2:p<=890000000):
  ∃(al2:Int) (nx2:List (List Int)) (ac2:List Bool) (q:Int),AutB (B+13) nx2 ac2/\p<=q/\q<=p+4/\(Dw 4 59 [autD al nx ac] (autD al2 nx2 ac2) c p q):=by
 obtain⟨al2,nx2,ac2,q,a,_,b⟩:=aEr hc hB al nx ac hb h1 p hp hp2;exact⟨al2,nx2,ac2,q,a,b⟩
theorem aUk:(env.hint 60).mode=0:=kr
theorem aQ1{c:List UInt8}(hc:c.length<=2000)(p:Int)(hp:0<=p)(hp2:p<=900000000):∃(nx:List (List Int)) (ac:List Bool) (q:Int),nx.length=12/\ac.length=12/\(∀r∈nx,r.length=(aB 3).length)/\p<=q/\q<=p+40/\(Dw 3 60 [] (autD 3 nx ac) c p q):=by
 obtain⟨nx,ac,q,g1,g2,g3,g4,g5,he⟩:=aLi hc p hp hp2;exact⟨nx,ac,q,g1,g2,g3,g4,g5,fun R L n hq k hn hL=>cD aUk (by simp[idsL]) (by simp[autD,idsA,idsL]) (he L n hn hL)⟩
theorem FT:(env.hint 48).mode=0:=kr
theorem aAd{c:List UInt8}{p:Int}{al:Int}{nx:List (List Int)}{ac:List Bool}{T3:H}{z:O}(hz:T3[3]? =some z)(t4:T3[4]? =some (.vec (aC 7 nx++aF 0) 1 0))(t5:T3[5]? =some (.arr (aJ ac) 1 0))(tr:∀(i:Nat) (r:List Int),nx[i]? =some r->T3[i+6]? =some (.arr (ints r) 1 0)):
  ∃(T7:H) (h2':H),T3.set 3 (.box [nI al,.sl 5 0 0 nx.length,.sl 6 0 0 ac.length])=T7/\T7[3]? =some (.box [nI al,.sl 5 0 0 nx.length,.sl 6 0 0 ac.length])/\oT 1 false (rdO c p::T7) [.agg [nI al,.sl 5 0 0 nx.length,.sl 6 0 0 ac.length]]=some ([autD al nx ac],h2')/\aD 1099511627776 h2' (d6 (List.take 1 h2')) [0]=[0]/\List.getD h2' 0 default=rdO c p:=by
 obtain⟨T7,h7⟩:∃T,T3.set 3 (.box [nI al,.sl 5 0 0 nx.length,.sl 6 0 0 ac.length])=T:=⟨_,rfl⟩
 obtain⟨l7,g7,k7⟩:=cK h7 (As.1 hz).1
 have hv:rd1 (rdO c p::T7) (.sl 5 0 0 nx.length)=some (.ivs nx.length (aN nx)):=by
  refine wM (cs:=aC 7 nx++aF 0) ?_ (HV fun i r hr=> ?_) rfl
  ·rw[At,k7 _ (by omega),t4]
  ·rw[show i+7=i+6+1 by omega,At,k7 _ (by omega)];exact tr i r hr
 have hw:rd1 (rdO c p::T7) (.sl 6 0 0 ac.length)=some (.ivs ac.length (aJ ac)):=by
  refine oB ?_ rfl;rw[At,k7 _ (by omega),t5]
 obtain⟨h2',a1,a2,a3⟩:=rS (al:=al) hv hw (by omega) (by omega);exact⟨T7,h2',h7,g7,a1,a2,a3⟩
theorem aGy{c:List UInt8}(hc:c.length<=2000)(al:Int)(nx:List (List Int))(ac:List Bool)(hs:bF nx)(h1:1<=nx.length)(ha:ac.length<=4294967290)(p u:Int)(t:Nat)(ht:t<nx.length)
  (hcase:u=0/\ac.length<=t\/u=1/\(nx.getD t []).length=0\/u=2/\(12<=nx.length\/ac.length<=t\/(nx.getD t []).length=0)\/¬u=0/\¬u=1/\¬u=2)
  (kd1:(Dw 1 49 [nI (nx.length)] (nI t) c p (p+1)))
  (kd2:(Dw 1 49 [nI 4] (nI u) c (p+1) (p+1+1))):(Dw 4 48 [autD al nx ac] (autD al nx ac) c p (p+1+1)):=by
 intro R L n hq k hn hL;refine cD FT (by simp[autD,idsA,idsL]) (by simp[autD,idsA,idsL]) ?_;have hnl:=hs.1;have hrl:=oX hs ht;obtain⟨N,T1,T2,T3,w⟩:=kW (.box [nI al,.d (.ivs nx.length (aN nx)),.d (.ivs ac.length (aJ ac))]) (.box [nI 0,.sl 2 0 0 0,.sl 3 0 0 0]) al nx ac;have kd3:=fun {R:Type} {n:Nat} {o1:O} {k:KA R} (hn:2<=n)=>mX (R:=R) (L:=L) (n:=n) (o1:=o1) (al:=al) (k:=k) w.h1 hs h1 (by omega) hn hL;obtain⟨hN,hT1,l1,h2,b2,h3,l3,t3,t4,t5,tr,tb,e3,wg⟩:=w;clear e3;clear hT1;have hd7:((aC 7 nx++aF 0).drop t).head? =some (.sl (t+7) 0 0 (nx.getD t []).length):=kP ht;obtain⟨T7,h2',h7,g7,st_out,st_keep,st_trim⟩:=aAd (c:=c) (p:=p+1+1) (al:=al) t3 t4 t5 tr;unfold autD at st_out|-;have hti:(t:Int)<nx.length:=by omega
 have ht0:(0:Int)<=t:=by omega
 have hn0:¬((nx.length:Int)=0):=by omega
 generalize(nx.getD t []).length=rl at *;clear tr h1 wg
 rcases hcase with⟨rfl,hx⟩|⟨rfl,rfl⟩|⟨rfl,hx⟩|⟨u0,u1,u2⟩
 ·have hx2:¬((t:Int)<ac.length):=by omega
  obtain _|n:=n;omega;simp -implicitDefEqProofs (maxSteps:=2000000) (disch:=try exact Dz) only[↓DN,↓kRet,UP,simprocAttr,↓kd1,↓kd2,↓kd3,l1,h2,b2,h3,t3,tb,hn0,hx2,h7,g7,↓st_out,↓st_keep,↓st_trim,Ao,gF,gA,Tryz.f48]
 ·obtain _|n:=n;omega;simp -implicitDefEqProofs (maxSteps:=2000000) (disch:=try exact Dz) only[↓DN,↓kRet,UP,simprocAttr,↓kd1,↓kd2,↓kd3,l1,h2,b2,h3,t3,t4,tb,hti,ht0,hn0,hd7,h7,g7,↓st_out,↓st_keep,↓st_trim,Ao,gF,gA,Tryz.f48]
 ·by_cases hy:(nx.length:Int)<12
  ·by_cases hy2:(t:Int)<ac.length
   ·obtain rfl:rl=0:=by omega
    obtain _|n:=n;omega;simp -implicitDefEqProofs (maxSteps:=2000000) (disch:=try exact Dz) only[↓DN,↓kRet,UP,simprocAttr,↓kd1,↓kd2,↓kd3,l1,h2,b2,h3,t3,t4,tb,hti,ht0,hn0,hy,hy2,hd7,h7,g7,↓st_out,↓st_keep,↓st_trim,Ao,gF,gA,Tryz.f48]
   ·obtain _|n:=n;omega;simp -implicitDefEqProofs (maxSteps:=2000000) (disch:=try exact Dz) only[↓DN,↓kRet,UP,simprocAttr,↓kd1,↓kd2,↓kd3,l1,h2,b2,h3,t3,tb,hn0,hy,hy2,h7,g7,↓st_out,↓st_keep,↓st_trim,Ao,gF,gA,Tryz.f48]
  ·obtain _|n:=n;omega;simp -implicitDefEqProofs (maxSteps:=2000000) (disch:=try exact Dz) only[↓DN,↓kRet,UP,simprocAttr,↓kd1,↓kd2,↓kd3,l1,h2,b2,h3,t3,tb,hn0,hy,h7,g7,↓st_out,↓st_keep,↓st_trim,Ao,gF,gA,Tryz.f48]
 ·obtain _|n:=n;omega;simp -implicitDefEqProofs (maxSteps:=2000000) (disch:=try exact Dz) only[↓DN,↓kRet,UP,simprocAttr,↓kd1,↓kd2,↓kd3,l1,h2,b2,h3,t3,tb,hn0,u0,u1,u2,h7,g7,↓st_out,↓st_keep,↓st_trim,Ao,gF,gA,Tryz.f48]
theorem aJ8{c:List UInt8}(hc:c.length<=2000)(al:Int)(nx:List (List Int))(ac:List Bool)(hs:bF nx)(h1:1<=nx.length)(ha:ac.length<=4294967290)(p:Int)(t:Nat)(hta:t<ac.length)
  (kd1:(Dw 1 49 [nI (nx.length)] (nI t) c p (p+1)))
  (kd2:(Dw 1 49 [nI 4] (nI 0) c (p+1) (p+1+1))):(Dw 4 48 [autD al nx ac] (autD al nx (ac.set t (!(ac.getD t false)))) c p (p+1+1)):=by
 intro R L n hq k hn hL;refine cD FT (by simp[autD,idsA,idsL]) (by simp[autD,idsA,idsL]) ?_;have hnl:=hs.1;obtain⟨N,T1,T2,T3,w⟩:=kW (.box [nI al,.d (.ivs nx.length (aN nx)),.d (.ivs ac.length (aJ ac))]) (.box [nI 0,.sl 2 0 0 0,.sl 3 0 0 0]) al nx ac;have kd3:=fun {R:Type} {n:Nat} {o1:O} {k:KA R} (hn:2<=n)=>mX (R:=R) (L:=L) (n:=n) (o1:=o1) (al:=al) (k:=k) w.h1 hs h1 (by omega) hn hL;obtain⟨hN,hT1,l1,h2,b2,h3,l3,t3,t4,t5,tr,tb,e3,wg⟩:=w;clear e3;clear hT1;obtain⟨T4,h4⟩:∃T,T3.set 5 (.arr (aJ (ac.set t (!(ac.getD t false)))) 1 0)=T:=⟨_,rfl⟩
 obtain⟨l4,g4,k4⟩:=cK h4 (by omega);have t43:T4[3]? =some (.box [nI 0,.sl 2 0 0 0,.sl 3 0 0 0]):=by rw[k4 _ (by omega),t3]
 have t4b:T4[N+1+1]? =some (.box [nI al,.sl 5 0 0 nx.length,.sl 6 0 0 ac.length]):=by rw[k4 _ (by omega),tb]
 have hset:bH (aJ ac) t [.bool (!(ac.getD t false))]=aJ (ac.set t (!(ac.getD t false))):=aFB hta
 have st_sto:∀ {call:aZ} {thaw:List Nat} {dst:Option Tmp} {x y:Operand},memD env call thaw dst (.store 4 x y) (rdO c (p+1+1)::T3) [.ptr 6 0 t,.d (.bool (!(ac.getD t false)))]=some (.d .undef,rdO c (p+1+1)::T4,{ ids:=[6],ro:=false,wr:=[6]}):=by
  intro call thaw dst x y;rw[LP kr kr rfl (h:=rdO c (p+1+1)::T3) (id:=6) (cs:=aJ ac) (esz:=1) t5 (by rw[eP];omega)];rw[Bn,hset,h4]
 have hl2:(ac.set t (!(ac.getD t false))).length=ac.length:=by simp
 obtain⟨T7,h2',h7,g7,st_out,st_keep,st_trim⟩:=aAd (c:=c) (p:=p+1+1) (al:=al) (nx:=nx) (ac:=ac.set t (!(ac.getD t false))) t43 (by rw[k4 _ (by omega),t4]) g4 (fun i r hr=>by rw[k4 _ (by omega)];exact tr i r hr);unfold autD at st_out|-;rw[hl2]at st_out h7 g7|-;have hbh:=FS hta;have hti:(t:Int)<ac.length:=by omega
 have ht0:(0:Int)<=t:=by omega
 have hn0:¬((nx.length:Int)=0):=by omega
 clear tr h1 wg k4 l4 hset hta;obtain _|n:=n;omega;simp -implicitDefEqProofs (maxSteps:=2000000) (disch:=try exact Dz) only[↓DN,↓kRet,UP,simprocAttr,↓kd1,↓kd2,↓kd3,l1,h2,b2,h3,t5,tb,hti,ht0,hn0,hbh,↓st_sto,t4b,t43,h7,g7,↓st_out,↓st_keep,↓st_trim,Ao,gF,gA,Tryz.f48]
theorem aG3{c:List UInt8}(hc:c.length<=2000)(al:Int)(nx:List (List Int))(ac:List Bool)(hs:bF nx)(h1:1<=nx.length)(ha:ac.length<=4294967290)(p v:Int)(t j:Nat)(ht:t<nx.length)(hj:j<(nx.getD t []).length)
  (kd1:(Dw 1 49 [nI (nx.length)] (nI t) c p (p+1)))
  (kd2:(Dw 1 49 [nI 4] (nI 1) c (p+1) (p+1+1)))
  (kd4:(Dw 1 49 [nI ((nx.getD t []).length:Int)] (nI j) c (p+1+1) (p+1+1+1)))
  (kd5:(Dw 1 49 [nI (nx.length)] (nI v) c (p+1+1+1) (p+1+1+1+1))):(Dw 4 48 [autD al nx ac] (autD al (nx.set t ((nx.getD t []).set j v)) ac) c p (p+1+1+1+1)):=by
 intro R L n hq k hn hL;refine cD FT (by simp[autD,idsA,idsL]) (by simp[autD,idsA,idsL]) ?_;have hnl:=hs.1;obtain⟨N,T1,T2,T3,w⟩:=kW (.box [nI al,.d (.ivs nx.length (aN nx)),.d (.ivs ac.length (aJ ac))]) (.box [nI 0,.sl 2 0 0 0,.sl 3 0 0 0]) al nx ac;have kd3:=fun {R:Type} {n:Nat} {o1:O} {k:KA R} (hn:2<=n)=>mX (R:=R) (L:=L) (n:=n) (o1:=o1) (al:=al) (k:=k) w.h1 hs h1 (by omega) hn hL;obtain⟨hN,hT1,l1,h2,b2,h3,l3,t3,t4,t5,tr,tb,e3,wg⟩:=w;clear e3;clear hT1;have hrow:nx[t]? =some (nx.getD t []):=by rw[Aa,Ae ht];rfl
 have hrl:=oX hs ht;generalize hrw:nx.getD t []=row at *;have hd7:((aC 7 nx++aF 0).drop t).head? =some (.sl (t+7) 0 0 row.length):=by rw[kP ht,hrw]
 have t3r:T3[t+6]? =some (.arr (ints row) 1 0):=tr _ _ hrow;obtain⟨T4,h4⟩:∃T,T3.set (t+6) (.arr (ints (row.set j v)) 1 0)=T:=⟨_,rfl⟩
 obtain⟨l4,g4,k4⟩:=cK h4 (by omega);have t43:T4[3]? =some (.box [nI 0,.sl 2 0 0 0,.sl 3 0 0 0]):=by rw[k4 _ (by omega),t3]
 have t4b:T4[N+1+1]? =some (.box [nI al,.sl 5 0 0 nx.length,.sl 6 0 0 ac.length]):=by rw[k4 _ (by omega),tb]
 have hset:bH (ints row) j [.int .i64 v]=ints (row.set j v):=by
  unfold bH;exact aAB hj
 have st_sto:∀ {call:aZ} {thaw:List Nat} {dst:Option Tmp} {x y:Operand},memD env call thaw dst (.store 3 x y) (rdO c (p+1+1+1+1)::T3) [.ptr (t+7) 0 j,nI v]=some (.d .undef,rdO c (p+1+1+1+1)::T4,{ ids:=[t+7],ro:=false,wr:=[t+7]}):=by
  intro call thaw dst x y;rw[LP kr kr rfl (h:=rdO c (p+1+1+1+1)::T3) (id:=t+7) (cs:=ints row) (esz:=1) (by rw[show t+7=t+6+1 by omega,At];exact t3r) (by simp[ints];omega)];rw[show t+7=t+6+1 by omega,Bn,hset,h4]
 have hrefs:aC 7 (nx.set t (row.set j v))=aC 7 nx:=CA (by rw[hrw];simp);have hlen:(nx.set t (row.set j v)).length=nx.length:=by simp
 obtain⟨T7,h2',h7,g7,st_out,st_keep,st_trim⟩:=aAd (c:=c) (p:=p+1+1+1+1) (al:=al) (nx:=nx.set t (row.set j v)) (ac:=ac) t43 (by rw[hrefs,k4 _ (by omega),t4]) (by rw[k4 _ (by omega),t5]) (fun i r hr=>by
  rw[Ch]at hr
  by_cases e:t=i
  ·subst e;rw[if_pos rfl,if_pos ht]at hr;cases hr;exact g4
  ·rw[if_neg e]at hr;rw[k4 _ (by omega)];exact tr i r hr)
 unfold autD at st_out|-;rw[hlen]at st_out h7 g7|-;have hti:(t:Int)<nx.length:=by omega
 have ht0:(0:Int)<=t:=by omega
 have hn0:¬((nx.length:Int)=0):=by omega
 have hji:(j:Int)<row.length:=by omega
 have hj0:(0:Int)<=j:=by omega
 have hr0:(0:Int)<row.length:=by omega
 clear tr h1 wg k4 l4 hset hrow hrefs;obtain _|n:=n;omega;simp -implicitDefEqProofs (maxSteps:=2000000) (disch:=try exact Dz) only[↓DN,↓kRet,UP,simprocAttr,↓kd1,↓kd2,↓kd3,↓kd4,↓kd5,l1,h2,b2,h3,l3,t4,tb,t3r,hti,ht0,hn0,hji,hj0,hr0,hd7,↓st_sto,t4b,t43,h7,g7,↓st_out,↓st_keep,↓st_trim,Br,Ao,gF,gA,Tryz.f48]
theorem aIS{c:List UInt8}(hc:c.length<=2000)(al:Int)(nx:List (List Int))(ac:List Bool)(hs:bF nx)(ha:ac.length<=4294967290)(p:Int)(t:Nat)(ht:t<nx.length)(h12:nx.length<12)(hta:t<ac.length){row:List Int}(hrw:nx.getD t []=row)(hr0:0<row.length)(hrl:row.length<=4294967290){bt:Bool}(hbt:ac.getD t false=bt)
  (kd1:(Dw 1 49 [nI (nx.length)] (nI t) c p (p+1)))
  (kd2:(Dw 1 49 [nI 4] (nI 2) c (p+1) (p+1+1))):(Dw 4 48 [autD al nx ac] (autD al (nx.set t (row.set 0 nx.length)++[row]) (ac++[bt])) c p (p+1+1)):=by
 intro R L n hq k hn hL;refine cD FT (by simp[autD,idsA,idsL]) (by simp[autD,idsA,idsL]) ?_;have hnl:=hs.1;have h1:1<=nx.length:=by omega
 obtain⟨N,T1,T2,T3,w⟩:=kW (.box [nI al,.d (.ivs nx.length (aN nx)),.d (.ivs ac.length (aJ ac))]) (.box [nI 0,.sl 2 0 0 0,.sl 3 0 0 0]) al nx ac;have kd3:=fun {R:Type} {n:Nat} {o1:O} {k:KA R} (hn:2<=n)=>mX (R:=R) (L:=L) (n:=n) (o1:=o1) (al:=al) (k:=k) w.h1 hs h1 (by omega) hn hL;obtain⟨hN,hT1,l1,h2,b2,h3,l3,t3,t4,t5,tr,tb,e3,wg⟩:=w;simp only[eJ,idsL,idsA,Ac,Ad,Am,Av,Ag]at wg;clear e3;clear hT1;have hrow:nx[t]? =some row:=by rw[<-hrw,Aa,Ae ht];rfl
 have hd7:((aC 7 nx++aF 0).drop t).head? =some (.sl (t+7) 0 0 row.length):=by rw[kP ht,hrw]
 have hlv:(aC 7 nx++aF 0).length=nx.length:=by rw[Af,gR];rfl
 have htk:(aC 7 nx++aF 0).take nx.length=aC 7 nx:=FA rfl;have t3r:T3[t+6]? =some (.arr (ints row) 1 0):=tr _ _ hrow;obtain⟨T4,h4⟩:∃T,T3++[.arr [] 1 0]=T:=⟨_,rfl⟩
 obtain⟨l4,g4,k4⟩:=j2 h4;rw[l3]at l4 g4 k4;obtain⟨T5,h5⟩:∃T,T4.set (N+1+1+1) (.arr (ints row) 1 1)=T:=⟨_,rfl⟩
 obtain⟨l5,g5,k5⟩:=cK h5 (by omega);obtain⟨T6,h6⟩:∃T,T5++[.vec [.sl (N+1+1+1+1) 1 0 row.length] 1 0]=T:=⟨_,rfl⟩
 obtain⟨l6,g6,k6⟩:=j2 h6;rw[l5,l4]at l6 g6 k6;obtain⟨T7,h7⟩:∃T,T6.set 4 (.vec (aC 7 nx++[.sl (N+1+1+1+1) 1 0 row.length]) 1 1)=T:=⟨_,rfl⟩
 obtain⟨l7,g7,k7⟩:=cK h7 (by omega);obtain⟨T8,h8⟩:∃T,T7.set (N+1+1) (.box [nI al,.sl 5 1 0 (nx.length+1),.sl 6 0 0 ac.length])=T:=⟨_,rfl⟩
 obtain⟨l8,g8,k8⟩:=cK h8 (by omega);obtain⟨T9,h9⟩:∃T,T8++[.arr [.bool bt] 1 0]=T:=⟨_,rfl⟩
 obtain⟨l9,g9,k9⟩:=j2 h9;rw[l8,l7,l6]at l9 g9 k9;obtain⟨T10,h10⟩:∃T,T9.set 5 (.arr (aJ (ac++[bt])) 1 1)=T:=⟨_,rfl⟩
 obtain⟨l10,g10,k10⟩:=cK h10 (by omega);obtain⟨T11,h11⟩:∃T,T10.set (N+1+1) (.box [nI al,.sl 5 1 0 (nx.length+1),.sl 6 1 0 (ac.length+1)])=T:=⟨_,rfl⟩
 obtain⟨l11,g11,k11⟩:=cK h11 (by omega);obtain⟨T12,h12'⟩:∃T,T11.set (t+6) (.arr (ints (row.set 0 nx.length)) 1 0)=T:=⟨_,rfl⟩
 obtain⟨l12,g12,k12⟩:=cK h12' (by omega);obtain⟨T13,h13⟩:∃T,T12.set 3 (.box [nI al,.sl 5 1 0 (nx.length+1),.sl 6 1 0 (ac.length+1)])=T:=⟨_,rfl⟩
 obtain⟨l13,g13,k13⟩:=cK h13 (by omega);have w4:wgt T4=wgt T3:=by rw[<-h4,AY];simp[eJ]
 have w5:wgt T5<=wgt T4:=by rw[<-h5];have:=jY (h:=T4) (i:=N+1+1+1) (o:=.arr (ints row) 1 1);simpa [eJ]using this
 have w6:wgt T6=wgt T5+1:=by rw[<-h6,AY];simp[eJ,idsL,idsA]
 have w7:wgt T7<=wgt T6+nx.length+1:=by
  rw[<-h7];have:=jY (h:=T6) (i:=4) (o:=.vec (aC 7 nx++[.sl (N+1+1+1+1) 1 0 row.length]) 1 1);simp only[eJ,bM,bY,idsL,idsA,Af,Ds,Ad,Ac]at this;omega
 have w8:wgt T8<=wgt T7+2:=by
  rw[<-h8];have:=jY (h:=T7) (i:=N+1+1) (o:=.box [nI al,.sl 5 1 0 (nx.length+1),.sl 6 0 0 ac.length])
  simpa [eJ,idsL,idsA]using this
 have w9:wgt T9=wgt T8:=by rw[<-h9,AY];simp[eJ]
 have w10:wgt T10<=wgt T9:=by rw[<-h10];have:=jY (h:=T9) (i:=5) (o:=.arr (aJ (ac++[bt])) 1 1);simpa [eJ]using this
 have t4b:T4[N+1+1]? =some (.box [nI al,.sl 5 0 0 nx.length,.sl 6 0 0 ac.length]):=by rw[k4 _ (by omega),tb]
 have t44:T4[4]? =some (.vec (aC 7 nx++aF 0) 1 0):=by rw[k4 _ (by omega),t4]
 have t4r:T4[t+6]? =some (.arr (ints row) 1 0):=by rw[k4 _ (by omega),t3r]
 have t64:T6[4]? =some (.vec (aC 7 nx++aF 0) 1 0):=by rw[k6 _ (by omega),k5 _ (by omega),t44]
 have t6e:T6[N+1+1+1]? =some (.arr (ints row) 1 1):=by rw[k6 _ (by omega),g5]
 have t7b:T7[N+1+1]? =some (.box [nI al,.sl 5 0 0 nx.length,.sl 6 0 0 ac.length]):=by rw[k7 _ (by omega),k6 _ (by omega),k5 _ (by omega),t4b]
 have t85:T8[5]? =some (.arr (aJ ac) 1 0):=by rw[k8 _ (by omega),k7 _ (by omega),k6 _ (by omega),k5 _ (by omega),k4 _ (by omega),t5]
 have t9b:T9[N+1+1]? =some (.box [nI al,.sl 5 1 0 (nx.length+1),.sl 6 0 0 ac.length]):=by rw[k9 _ (by omega),g8]
 have t95:T9[5]? =some (.arr (aJ ac) 1 0):=by rw[k9 _ (by omega),t85]
 have t10b:T10[N+1+1]? =some (.box [nI al,.sl 5 1 0 (nx.length+1),.sl 6 0 0 ac.length]):=by rw[k10 _ (by omega),t9b]
 have t94:T9[4]? =some (.vec (aC 7 nx++[.sl (N+1+1+1+1) 1 0 row.length]) 1 1):=by rw[k9 _ (by omega),k8 _ (by omega),g7]
 have t114:T11[4]? =some (.vec (aC 7 nx++[.sl (N+1+1+1+1) 1 0 row.length]) 1 1):=by rw[k11 _ (by omega),k10 _ (by omega),t94]
 have tr9:∀(i:Nat) (r:List Int),nx[i]? =some r->T9[i+6]? =some (.arr (ints r) 1 0):=by
  intro i r hr;have hi:i<nx.length:=(As.1 hr).1;rw[k9 _ (by omega),k8 _ (by omega),k7 _ (by omega),k6 _ (by omega),k5 _ (by omega),k4 _ (by omega)];exact tr i r hr
 have t11r:T11[t+6]? =some (.arr (ints row) 1 0):=by rw[k11 _ (by omega),k10 _ (by omega)];exact tr9 _ _ hrow
 have t12b:T12[N+1+1]? =some (.box [nI al,.sl 5 1 0 (nx.length+1),.sl 6 1 0 (ac.length+1)]):=by rw[k12 _ (by omega),g11]
 have t123:T12[3]? =some (.box [nI 0,.sl 2 0 0 0,.sl 3 0 0 0]):=by rw[k12 _ (by omega),k11 _ (by omega),k10 _ (by omega),k9 _ (by omega),k8 _ (by omega),k7 _ (by omega),k6 _ (by omega),k5 _ (by omega),k4 _ (by omega),t3]
 have up:∀(T:H) (i:Nat) (o:O),T[i]? =some o->(rdO c (p+1+1)::T)[i+1]? =some o:=fun T i o h=>by rw[At];exact h
 have row6:∀i,i<nx.length->T6[i+6]? =some (.arr (ints (nx.getD i [])) 1 0):=by
  intro i hi;rw[k6 _ (by omega),k5 _ (by omega),k4 _ (by omega)];refine tr i _ ?_;rw[Aa,Ae hi];rfl
 have st_app1:∀ {call:aZ} {thaw:List Nat} {dst:Option Tmp} {args:Array Operand},memD env call thaw dst (.call ⟨.builtin .append,args,#[80,80]⟩) (rdO c (p+1+1)::T4) [.sl (N+1+1+1+1) 0 0 0,.sl (t+7) 0 0 row.length]=some (.sl (N+1+1+1+1) 1 0 row.length,rdO c (p+1+1)::T5,{ ids:=[N+1+1+1+1,t+7],ro:=false,wr:=[N+1+1+1+1]}):=by
  intro call thaw dst args;rw[K8 (e:=3) (e0:=1) (n2:=row.length) (len:=0) (cs:=[]) (src:=ints row) rfl V7 kr (up T4 _ _ g4) (.inr rfl) (up T4 (t+6) _ t4r) (by simp[ints]) (by simp) (by unfold bK;omega) (by omega)];rw[Bn,<-h5];simp
 have st_vec:∀ {call:aZ} {thaw:List Nat} {dst:Option Tmp} {x:Operand},Shut ((keeps thaw dst&& !logs thaw dst)=true)->memD env call thaw dst (.buildSlice 23 1 #[(0,x)]) (rdO c (p+1+1)::T5) [.sl (N+1+1+1+1) 1 0 row.length]=some (.sl (N+1+1+1+1+1) 0 0 1,rdO c (p+1+1)::T6,{ ids:=[N+1+1+1+1,N+1+1+1+1+1],ro:=false}):=by
  intro call thaw dst x hk;rw[aFi (e:=80) (cs:=ints row) (es:=1) hk.it rfl kr SV kr (up T5 _ _ g5)];rw[Av,h6,Ad,l5,l4]
 have ok65:Okay (rdO c (p+1+1)::T6) 5:=PL (x:=aF 0) (up T6 4 _ t64) (fun j hj=>oG (up T6 (j+6) _ (row6 j hj))) (by intro q hq;simp[dM]at hq)
 have ok6e:Okay (rdO c (p+1+1)::T6) (N+1+1+1+1+1):=aHu (up T6 _ _ g6) (by
  intro q hq;simp[idsL,idsA]at hq;subst hq;exact oG (up T6 _ _ t6e))
 obtain⟨o1,ho1⟩:∃o,o=aD aG (rdO c (p+1+1)::T6) [5,N+1+1+1+1+1] []:=⟨_,rfl⟩
 have st_app2:∀ {call:aZ} {thaw:List Nat} {dst:Option Tmp} {args:Array Operand},memD env call thaw dst (.call ⟨.builtin .append,args,#[23,23]⟩) (rdO c (p+1+1)::T6) [.sl 5 0 0 nx.length,.sl (N+1+1+1+1+1) 0 0 1]=some (.sl 5 1 0 (nx.length+1),rdO c (p+1+1)::T7,{ ids:=o1,ro:=false,wr:=[5]}):=by
  intro call thaw dst args;rw[SU (e:=80) rfl SV kr (id:=5) (id2:=N+1+1+1+1+1) (g:=0) (g2:=0) (len:=nx.length) (cs:=aC 7 nx++aF 0) (c:=.sl (N+1+1+1+1) 1 0 row.length) (up T6 4 _ t64) (up T6 _ _ g6) (by omega) (by unfold bK;omega) ok65 ok6e (by rw[lW];simp only[eJ,idsL,idsA,Am,Ac];omega),<-ho1,htk];rw[Bn,h7]
 have row7:∀i,i<nx.length->T7[i+6]? =some (.arr (ints (nx.getD i [])) 1 0):=fun i hi=>by rw[k7 _ (by omega)];exact row6 i hi
 have t7e:T7[N+1+1+1]? =some (.arr (ints row) 1 1):=by rw[k7 _ (by omega),t6e]
 have ok75:Okay (rdO c (p+1+1)::T7) 5:=PL (up T7 4 _ g7) (fun j hj=>oG (up T7 (j+6) _ (row7 j hj))) (by
  intro q hq;simp[idsL,idsA]at hq;subst hq;exact oG (up T7 _ _ t7e))
 have ok7b:Okay (rdO c (p+1+1)::T7) (N+2+1):=aIJ (up T7 _ _ t7b) (by
  intro q hq;simp[idsL,idsA]at hq
  rcases hq with rfl|rfl
  ·exact ok75
  ·exact oG (up T7 5 _ (by rw[k7 _ (by omega),k6 _ (by omega),k5 _ (by omega),k4 _ (by omega),t5])))
 obtain⟨o2,ho2⟩:∃o,o=aD aG (rdO c (p+1+1)::T7) [N+2+1,5] []:=⟨_,rfl⟩
 have st_sto:∀ {call:aZ} {thaw:List Nat} {dst:Option Tmp} {x y:Operand},memD env call thaw dst (.store 23 x y) (rdO c (p+1+1)::T7) [.ptr (N+2+1) 0 1,.sl 5 1 0 (nx.length+1)]=some (.d .undef,rdO c (p+1+1)::T8,{ ids:=o2,ro:=false,wr:=o2}):=by
  intro call thaw dst x y;rw[uB kr kr (h:=rdO c (p+1+1)::T7) (id:=N+2+1) (id2:=5) (off:=1) (cs:=[nI al,.sl 5 0 0 nx.length,.sl 6 0 0 ac.length]) (up T7 _ _ t7b) (by simp) ok7b ok75 (by rw[lW];simp only[eJ,idsL,idsA,Am,Ac];omega),<-ho2];rw[Bn];unfold bH;rw[<-h8];rfl
 have hbh:(((aJ ac).drop t).map A.d).head? =some (.d (.bool bt)):=by rw[FS hta,hbt]
 have st_app3:∀ {call:aZ} {thaw:List Nat} {dst:Option Tmp} {args:Array Operand},memD env call thaw dst (.call ⟨.builtin .append,args,#[24,24]⟩) (rdO c (p+1+1)::T9) [.sl 6 0 0 ac.length,.sl (N+1+1+1+1+1+1) 0 0 1]=some (.sl 6 1 0 (ac.length+1),rdO c (p+1+1)::T10,{ ids:=[6,N+1+1+1+1+1+1],ro:=false,wr:=[6]}):=by
  intro call thaw dst args;rw[K8 (e:=4) (e0:=1) (n2:=1) (len:=ac.length) (cs:=aJ ac) (src:=[.bool bt]) rfl aIb kr (up T9 5 _ t95) (.inr rfl) (up T9 _ _ g9) rfl (by rw[eP];omega) (by unfold bK;omega) (by omega)];rw[Bn,sS (Ab _),uF,h10]
 have row10:∀i,i<nx.length->T10[i+6]? =some (.arr (ints (nx.getD i [])) 1 0):=fun i hi=>by
  rw[k10 _ (by omega),k9 _ (by omega),k8 _ (by omega)];exact row7 i hi
 have ok105:Okay (rdO c (p+1+1)::T10) 5:=PL (up T10 4 _ (by rw[k10 _ (by omega),t94])) (fun j hj=>oG (up T10 (j+6) _ (row10 j hj))) (by
  intro q hq;simp[idsL,idsA]at hq;subst hq;exact oG (up T10 _ _ (by rw[k10 _ (by omega),k9 _ (by omega),k8 _ (by omega),t7e])))
 have ok106:Okay (rdO c (p+1+1)::T10) 6:=oG (up T10 5 _ g10)
 have ok10b:Okay (rdO c (p+1+1)::T10) (N+2+1):=aIJ (up T10 _ _ t10b) (by
  intro q hq;simp[idsL,idsA]at hq
  rcases hq with rfl|rfl
  ·exact ok105
  ·exact ok106)
 obtain⟨o3,ho3⟩:∃o,o=aD aG (rdO c (p+1+1)::T10) [N+2+1,6] []:=⟨_,rfl⟩
 have st_sto2:∀ {call:aZ} {thaw:List Nat} {dst:Option Tmp} {x y:Operand},memD env call thaw dst (.store 24 x y) (rdO c (p+1+1)::T10) [.ptr (N+2+1) 0 2,.sl 6 1 0 (ac.length+1)]=some (.d .undef,rdO c (p+1+1)::T11,{ ids:=o3,ro:=false,wr:=o3}):=by
  intro call thaw dst x y;rw[uB kr kr (h:=rdO c (p+1+1)::T10) (id:=N+2+1) (id2:=6) (off:=2) (cs:=[nI al,.sl 5 1 0 (nx.length+1),.sl 6 0 0 ac.length]) (up T10 _ _ t10b) (by simp) ok10b ok106 (by rw[lW];simp only[eJ,idsL,idsA,Am,Ac];omega),<-ho3];rw[Bn];unfold bH;rw[<-h11];rfl
 have hcl1:∀(ops:List Oper) (w:List Nat),w=[N+1+1+1+1]->oV [(1,2),(2,4),(2,6),(2,7),(1,8),(1,9)] ops [{},{ ids:=[N+2+1],ro:=true},{ ids:=[N+1+1+1+1],ro:=false},{},{ ids:=[N+2+1],ro:=true},{},{ ids:=[5],ro:=true},{ ids:=[5],ro:=true},{ ids:=[N+1+1+1+1,t+7],ro:=false,wr:=[N+1+1+1+1]},{ ids:=[N+1+1+1+1,N+1+1+1+1+1],ro:=false},{ ids:=o1,ro:=false,wr:=[5]},{},{ ids:=o2,ro:=false}]=true->eV ops (([]:List Foot)++[({}:Foot)]++[({ ids:=idsA (A.ptr (N+2+1) 0 1)}:Foot)]++[({ ids:=[N+1+1+1+1],ro:=false,wr:=w}:Foot)]++[({}:Foot)]++[({ ids:=idsA (A.ptr (N+2+1) 0 1)}:Foot)]++[({}:Foot)]++[({ ids:=idsA (A.sl 5 0 0 nx.length)}:Foot)]++[({ ids:=idsA (A.ptr 5 0 t)}:Foot)]++[({ ids:=[N+1+1+1+1,t+7],ro:=false,wr:=[N+1+1+1+1]}:Foot)]++[({ ids:=[N+1+1+1+1,N+1+1+1+1+1],ro:=false}:Foot)]++[({ ids:=o1,ro:=false,wr:=[5]}:Foot)]++[({}:Foot)]++[({ ids:=o2,ro:=false}:Foot)])=true:=by
  intro ops w hw hm;subst hw
  have key:eV ops [{},{ ids:=[N+2+1],ro:=true},{ ids:=[N+1+1+1+1],ro:=false},{},{ ids:=[N+2+1],ro:=true},{},{ ids:=[5],ro:=true},{ ids:=[5],ro:=true},{ ids:=[N+1+1+1+1,t+7],ro:=false,wr:=[N+1+1+1+1]},{ ids:=[N+1+1+1+1,N+1+1+1+1+1],ro:=false},{ ids:=o1,ro:=false,wr:=[5]},{},{ ids:=o2,ro:=false}]=true:=by
   refine yD _ hm ?_;intro q hq;simp only[Au,Bo,or_false]at hq
   rcases hq with rfl|rfl|rfl|rfl|rfl|rfl<;>simp[kS]<;>omega
  exact key
 have hcl2:∀(ops:List Oper) (w:List Nat),w=[N+1+1+1+1+1+1]->oV [(1,7)] ops [{},{ ids:=[N+2+1],ro:=true},{},{ ids:=[N+2+1],ro:=true},{},{ ids:=[6],ro:=true},{ ids:=[6],ro:=true},{ ids:=[N+1+1+1+1+1+1],ro:=false},{ ids:=[6,N+1+1+1+1+1+1],ro:=false,wr:=[6]},{},{ ids:=o3,ro:=false}]=true->eV ops (([]:List Foot)++[({}:Foot)]++[({ ids:=idsA (A.ptr (N+2+1) 0 2)}:Foot)]++[({}:Foot)]++[({ ids:=idsA (A.ptr (N+2+1) 0 2)}:Foot)]++[({}:Foot)]++[({ ids:=idsA (A.sl 6 0 0 ac.length)}:Foot)]++[({ ids:=idsA (A.ptr 6 0 t)}:Foot)]++[({ ids:=[N+1+1+1+1+1+1],ro:=false,wr:=w}:Foot)]++[({ ids:=[6,N+1+1+1+1+1+1],ro:=false,wr:=[6]}:Foot)]++[({}:Foot)]++[({ ids:=o3,ro:=false}:Foot)])=true:=by
  intro ops w hw hm;subst hw
  have key:eV ops [{},{ ids:=[N+2+1],ro:=true},{},{ ids:=[N+2+1],ro:=true},{},{ ids:=[6],ro:=true},{ ids:=[6],ro:=true},{ ids:=[N+1+1+1+1+1+1],ro:=false},{ ids:=[6,N+1+1+1+1+1+1],ro:=false,wr:=[6]},{},{ ids:=o3,ro:=false}]=true:=by
   refine yD _ hm ?_;intro q hq;simp only[Au,Bo,or_false]at hq
   rcases hq with rfl<;>simp[kS]<;>omega
  exact key
 have hlen:(nx.set t (row.set 0 nx.length)++[row]).length=nx.length+1:=by simp
 have hlen2:(ac++[bt]).length=ac.length+1:=by simp
 have hrefs:aC 7 (nx.set t (row.set 0 nx.length))=aC 7 nx:=CA (by rw[hrw];simp)
 have hv:rd1 (rdO c (p+1+1)::T13) (.sl 5 1 0 (nx.length+1))=some (.ivs (nx.set t (row.set 0 nx.length)++[row]).length (aN (nx.set t (row.set 0 nx.length)++[row]))):=by
  refine wM (cs:=aC 7 (nx.set t (row.set 0 nx.length))++[.sl (N+1+1+1+1) 1 0 row.length]) ?_ ?_ hlen.symm
  ·rw[hrefs];exact up T13 4 _ (by rw[k13 _ (by omega),k12 _ (by omega),t114])
  ·refine aHb (fun i r hr=> ?_) (up T13 _ _ (by rw[k13 _ (by omega),k12 _ (by omega),k11 _ (by omega),k10 _ (by omega),k9 _ (by omega),k8 _ (by omega),t7e]));refine up T13 (i+6) _ ?_;rw[Ch]at hr
   by_cases e:t=i
   ·subst e;rw[if_pos rfl,if_pos ht]at hr;cases hr;rw[k13 _ (by omega)];exact g12
   ·rw[if_neg e]at hr;have hi:i<nx.length:=(As.1 hr).1;rw[k13 _ (by omega),k12 _ (by omega),k11 _ (by omega),k10 _ (by omega)];exact tr9 i r hr
 have hw:rd1 (rdO c (p+1+1)::T13) (.sl 6 1 0 (ac.length+1))=some (.ivs (ac++[bt]).length (aJ (ac++[bt]))):=
  oB (up T13 5 _ (by rw[k13 _ (by omega),k12 _ (by omega),k11 _ (by omega),g10])) hlen2.symm
 obtain⟨h2',st_out,st_keep,st_trim⟩:=rS (al:=al) hv hw (by omega) (by omega);unfold autD at st_out|-;rw[hlen,hlen2]at st_out|-;have hd7x:((aC 7 nx++[A.sl (N+1+1+1+1) 1 0 row.length]).drop t).head? =some (.sl (t+7) 0 0 row.length):=by rw[aJU ht,hrw]
 have hput:∀v:Int,(ints row).drop 1=ints (row.drop 1):=fun v=>by simp[ints]
 have hset0:D.int .i64 (nx.length:Int)::List.drop 1 (ints row)=ints (row.set 0 nx.length):=by
  cases row with
  |nil=>simp at hr0
  |cons x xs=>simp[ints]
 have hti:(t:Int)<nx.length:=by omega
 have hti1:(t:Int)<(nx.length:Int)+1:=by omega
 have ht0:(0:Int)<=t:=by omega
 have hn0:¬((nx.length:Int)=0):=by omega
 have hn12:(nx.length:Int)<12:=by omega
 have hta':(t:Int)<ac.length:=by omega
 have hr0':(0:Int)<row.length:=by omega
 have hr1:1<=(ints row).length:=by simp[ints];omega
 have l8':T8.length=N+1+1+1+1+1:=by omega
 clear hv hw k4 k5 k6 k7 k8 k9 k10 k11 k12 k13 tr tr9 h1 l4 l5 l6 l7 l8 l9 l10 l11 l12 l13 wg w4 w5 w6 w7 w8 w9 w10 hrow ok65 ok6e ok75 ok7b ok105 ok106 ok10b row6 row7 row10 ho1 ho2 ho3 up hlv htk hrefs hput;obtain _|n:=n;omega;simp -implicitDefEqProofs (maxSteps:=2000000) (disch:=first|assumption|(refine Shut.mk ?_;exact hcl1 _ _ kr kr)|(refine Shut.mk ?_;exact hcl2 _ _ kr kr)|(refine Shut.mk ?_;kernel_rfl)|omega|(simp only[GT];done)|(simp only[LN]<;>omega)|fail) only[↓DN,↓kRet,UP,simprocAttr,↓kd1,↓kd2,↓kd3,l1,h2,b2,h3,l3,t4,tb,hti,ht0,hn0,hn12,hta',hr0',hd7,h4,t4b,t44,↓st_app1,↓st_vec,↓st_app2,↓st_sto,g8,t85,l8',hbh,h9,↓st_app3,↓st_sto2,g11,t114,hd7x,t11r,hset0,h12',t12b,t123,h13,g13,↓st_out,↓st_keep,↓st_trim,Br,Ao,gF,gA,Tryz.f48]
theorem aJf{c:List UInt8}(hc:c.length<=2000){B:Nat}(hB:B<=4294966000)(al:Int)(nx:List (List Int))(ac:List Bool)(hb:AutB B nx ac)(h1:1<=nx.length)(p:Int)(hp:0<=p)(hp2:p<=890000000):
  ∃(nx2:List (List Int)) (ac2:List Bool) (q:Int),AutB (B+1) nx2 ac2/\1<=nx2.length/\p<=q/\q<=p+4/\(Dw 4 48 [autD al nx ac] (autD al nx2 ac2) c p q):=by
 have hs:=hb.short (by omega);have hn:=hb.n;have hba:=hb.a;obtain⟨k,k0,k1,_,kd1⟩:=fA hc p nx.length hp (by omega);obtain⟨u,u0,u1,_,kd2⟩:=fA hc (p+1) 4 (by omega) (by omega);have k1:=k1 (by omega);obtain⟨t,rfl⟩:∃t:Nat,k=t:=⟨k.toNat,by omega⟩
 have ht:t<nx.length:=by omega
 have hrt:=hb.at t;have same:=fun hcase=>aGy hc al nx ac hs h1 (by omega) p u t ht hcase kd1 kd2
 by_cases hu0:u=0
 ·by_cases hta:t<ac.length
  ·subst hu0;refine⟨nx,_,_,⟨by omega,by rw[Bl];omega,fun r hr=> ?_⟩,h1,by omega,by omega,aJ8 hc al nx ac hs h1 (by omega) p t hta kd1 kd2⟩;have:=hb.r r hr;omega
  ·exact⟨nx,ac,_,hb.mono (by omega),h1,by omega,by omega,same (.inl ⟨hu0,by omega⟩)⟩
 by_cases hu1:u=1
 ·by_cases h0:(nx.getD t []).length=0
  ·exact⟨nx,ac,_,hb.mono (by omega),h1,by omega,by omega,same (.inr (.inl ⟨hu1,h0⟩))⟩
  ·subst hu1;obtain⟨v,v0,v1,_,kd4⟩:=fA hc (p+1+1) (nx.getD t []).length (by omega) (by omega);have v1:=v1 (by omega);obtain⟨j,rfl⟩:∃j:Nat,v=j:=⟨v.toNat,by omega⟩
   obtain⟨w,w0,w1,_,kd5⟩:=fA hc (p+1+1+1) nx.length (by omega) (by omega);refine⟨_,ac,_,⟨by rw[Bl];omega,by omega,fun r hr=> ?_⟩,by rw[Bl];exact h1,by omega,by omega,aG3 hc al nx ac hs h1 (by omega) p w t j ht (by omega) kd1 kd2 kd4 kd5⟩
   rcases Dm hr with h|h
   ·have:=hb.r r h;omega
   ·rw[h,Bl];omega
 by_cases hu2:u=2
 ·by_cases h3:nx.length<12/\t<ac.length/\0<(nx.getD t []).length
  ·subst hu2;refine⟨_,_,_,⟨?_,?_,fun r hr=> ?_⟩,?_,by omega,by omega,aIS hc al nx ac hs (by omega) p t ht h3.1 h3.2.1 rfl h3.2.2 (by omega) rfl kd1 kd2⟩
   ·rw[Af,Bl,Ad,Ac];omega
   ·rw[Af,Ad,Ac];omega
   ·rcases Al.1 hr with h|h
    ·rcases Dm h with h|h
     ·have:=hb.r r h;omega
     ·rw[h,Bl];omega
    ·simp only[Bk]at h;rw[h];omega
   ·rw[Af,Bl,Ad,Ac];omega
  ·exact⟨nx,ac,_,hb.mono (by omega),h1,by omega,by omega,same (.inr (.inr (.inl ⟨hu2,by omega⟩)))⟩
 exact⟨nx,ac,_,hb.mono (by omega),h1,by omega,by omega,same (.inr (.inr (.inr ⟨hu0,hu1,hu2⟩)))⟩
theorem vX{R:Type}{L n:Nat}{hq:H}{al:Int}{k:KA R}(hn:2<=n)(hL:2^60<=L):a6 env (aA env L n) hq 85 [.agg [nI al,.d (.ivs 0 []),.d (.ivs 0 [])]] k=k (.agg [nI al,.sl hq.length 0 0 0,.sl (hq.length+1) 0 0 0]) (hq++[.arr [] 0 0,.arr [] 1 0]):=by
 have he:aA env L n 85 [.agg [nI al,.d (.ivs 0 []),.d (.ivs 0 [])]] []=some (.agg [nI al,.sl 0 0 0 0,.sl 1 0 0 0],[.arr [] 0 0,.arr [] 1 0]):=aDg hn al [] (by simp) hL
 have hcall:b8 (aA env L n) env.hint [] 85 [.agg [nI al,.d (.ivs 0 []),.d (.ivs 0 [])]]=some (.agg [nI al,.sl 0 0 0 0,.sl 1 0 0 0],[.arr [] 0 0,.arr [] 1 0]):=by
  have hf:fB [] [.agg [nI al,.d (.ivs 0 []),.d (.ivs 0 [])]]=some ([.agg [nI al,.d (.ivs 0 []),.d (.ivs 0 [])]],[]):=rfl;unfold b8;rw[u3];simp only[hf,he];rfl
 have hids:idsL [A.agg [nI al,.d (.ivs 0 []),.d (.ivs 0 [])]]=[]:=rfl;unfold a6;rw[hids,FN,iT _ hids];have hp:pack hq []=[]:=rfl;rw[hp,hcall];simp only[Ac,Nat.zero_le,true_and,closed,Cb,Bu,if_true,bG];simp[mapA,aE,back,mapO]
theorem aJR{R:Type}{L n m:Nat}{y1 y2:D}{al:Int}{k:KE R}:aM env (aA env L n) L 1 (W32 (W32 (W16 (W2 (W1 [1002,0,0,0,0,0,0,0,0,0,0,0,0,0,0,0,0,0,0,0,0,0,1002]))))) Bz20 (nF 0) Bz35 (m+1) (Y4 (.ptr 1 0 0::.ptr 2 0 0::nI 0::Y32 (Y32 (Y32 (Y8 (Y2 (Y1 ([])))))))) [.box [.d y1,.d y2],.box [nI 0,.sl 3 0 0 0,.sl 4 0 0 0],.box [nI al,.sl 5 0 0 0,.sl 6 0 0 0],.arr [] 0 0,.arr [] 0 0,.arr [] 0 0,.arr [] 1 0] k
  =k (.exit 1) (Y4 (.ptr 1 0 0::.ptr 2 0 0::nI 0::Y32 (Y32 (Y32 (Y8 (Y2 (Y1 ([])))))))) [.box [.d y1,.d y2],.box [nI 0,.sl 3 0 0 0,.sl 4 0 0 0],.box [nI al,.sl 5 0 0 0,.sl 6 0 0 0],.arr [] 0 0,.arr [] 0 0,.arr [] 0 0,.arr [] 1 0]:=by
 simp -implicitDefEqProofs (maxSteps:=2000000) (disch:=try exact Dz) only[↓DN,↓kRet,UP,simprocAttr,Aj,vW,u6,Tryz.f59]
theorem aMx{c:List UInt8}(hc:c.length<=2000)(al p:Int)(hp:0<=p)(hp2:p<=890000000):∃(al2:Int) (ac2:List Bool) (q:Int),ac2.length<=1/\p<=q/\q<=p+4/\(Dw 4 59 [autD al [] []] (autD al2 [] ac2) c p q):=by
 obtain⟨k,k0,_,k1,kd1⟩:=fA hc p 0 hp (by omega);obtain rfl:k=0:=k1 (by omega);obtain⟨u,u0,u1,_,kd2⟩:=fA hc (p+1) 30 (by omega) (by omega);have e0:aN []=[]:=rfl;have e1:aJ []=[]:=rfl;have loop_a:=fun {R:Type} {n:Nat} {y1 y2:D} {al:Int} {k:KE R} {L:Nat} (hL:2^60<=L)=>(show L-1+1=L by omega)▸aJR (R:=R) (L:=L) (n:=n) (m:=L-1) (y1:=y1) (y2:=y2) (al:=al) (k:=k)
 by_cases h0:u=0
 ·subst h0;obtain⟨al2,_,kd4⟩:=zE hc [64,-1,1,63,0] (by simp) (by simp) (p+1+1) (by omega) (by omega);simp only[ints,Ai,Ap,Ad,Ac,Ag,Nat.reduceAdd]at kd4;refine⟨al2,[],p+1+1+1,by simp,by omega,by omega,fun R L n hq k hn hL=>cD jZ (by simp[autD,idsA,idsL]) (by simp[autD,idsA,idsL]) ?_⟩;simp only[autD,e0,e1,Ac];obtain _|n:=n;omega;simp -implicitDefEqProofs (maxSteps:=2000000) (disch:=try exact Dz) only[↓DN,↓kRet,UP,simprocAttr,↓kd1,↓kd2,↓vX,↓kd4,dI,dO,Tryz.f59]
 by_cases h1:u=1
 ·subst h1;have e2:aJ [true]=[.bool true]:=rfl;refine⟨al,[true],p+1+1,by simp,by omega,by omega,fun R L n hq k hn hL=>cD jZ (by simp[autD,idsA,idsL]) (by simp[autD,idsA,idsL]) ?_⟩;simp only[autD,e0,e1,e2,Ac,Ad];obtain _|n:=n;omega;simp -implicitDefEqProofs (maxSteps:=2000000) (disch:=try exact Dz) only[↓DN,↓kRet,UP,simprocAttr,↓kd1,↓kd2,↓vX,dI,dO,Tryz.f59]
 refine⟨al,[],p+1+1,by simp,by omega,by omega,fun R L n hq k hn hL=>cD jZ (by simp[autD,idsA,idsL]) (by simp[autD,idsA,idsL]) ?_⟩;simp only[autD,e0,e1,Ac];have loop_b:=fun {R:Type} {n:Nat} {y1 y2:D} {al:Int} {k:KE R}=>loop_a (R:=R) (n:=n) (y1:=y1) (y2:=y2) (al:=al) (k:=k) hL
 by_cases h2:u=2
 ·subst h2;obtain _|n:=n;omega;simp -implicitDefEqProofs (maxSteps:=2000000) (disch:=try exact Dz) only[↓DN,↓kRet,UP,simprocAttr,↓kd1,↓kd2,↓vX,Aj,dI,dO,Tryz.f59]
 by_cases h3:u=3
 ·subst h3;obtain _|n:=n;omega;simp -implicitDefEqProofs (maxSteps:=2000000) (disch:=try exact Dz) only[↓DN,↓kRet,UP,simprocAttr,↓kd1,↓kd2,↓vX,Aj,dI,dO,Tryz.f59]
 by_cases h4:u=4
 ·subst h4;obtain _|n:=n;omega;simp -implicitDefEqProofs (maxSteps:=2000000) (disch:=try exact Dz) only[↓DN,↓kRet,UP,simprocAttr,↓kd1,↓kd2,↓vX,dI,dO,Tryz.f59]
 by_cases h5:u=5
 ·subst h5;obtain _|n:=n;omega;simp -implicitDefEqProofs (maxSteps:=2000000) (disch:=try exact Dz) only[↓DN,↓kRet,UP,simprocAttr,↓kd1,↓kd2,↓vX,↓loop_b,dI,dO,Tryz.f59]
 obtain _|n:=n;omega;simp -implicitDefEqProofs (maxSteps:=2000000) (disch:=try exact Dz) only[↓DN,↓kRet,UP,simprocAttr,↓kd1,↓kd2,↓vX,h0,h1,h2,h3,h4,h5,dI,dO,Tryz.f59]
theorem aOG{c:List UInt8}(hc:c.length<=2000){B:Nat}(hB:B<=4294966000)(al:Int)(nx:List (List Int))(ac:List Bool)(hb:AutB B nx ac)(h1:1<=nx.length\/nx=[]/\ac=[])(p:Int)(hp:0<=p)(hp2:p<=890000000):
  ∃(al2:Int) (nx2:List (List Int)) (ac2:List Bool) (q:Int),AutB (B+13) nx2 ac2/\p<=q/\q<=p+4/\(Dw 4 59 [autD al nx ac] (autD al2 nx2 ac2) c p q):=by
 rcases h1 with h1|⟨rfl,rfl⟩
 ·exact aLo hc hB al nx ac hb h1 p hp hp2
 ·obtain⟨al2,ac2,q,a,b,d,e⟩:=aMx hc al p hp hp2;exact⟨al2,[],ac2,q,⟨by simp,by omega,by simp⟩,b,d,e⟩
theorem J8:(env.hint 28).mode=0:=kr
theorem aLz:(env.hint 29).mode=0:=kr
theorem aJE{c:List UInt8}(hc:c.length<=2000)(p:Int)(hp:0<=p)(hp2:p<=900000000):∃x:Int,-1<=x/\x<=3/\(Dw 3 29 [] (nI x) c p (p+1)):=by
 obtain⟨x,hx,kd⟩:=zE hc [0,1,0,2,0,1,-1,3] (by simp) (by simp) p hp (by omega);simp only[ints,Ai,Ap,Ad,Ac,Ag,Nat.reduceAdd]at kd;simp at hx;refine⟨x,by omega,by omega,fun R L n hq k hn hL=>cD aLz rfl rfl ?_⟩;obtain _|n:=n;omega;simp -implicitDefEqProofs (maxSteps:=2000000) (disch:=try exact Dz) only[↓DN,↓kAsg,↓kRet,UP,simprocAttr,↓kd,aGz,R5,Tryz.f29]
theorem aMg{c:List UInt8}(hc:c.length<=2000)(p:Int)(hp:0<=p)(hp2:p<=700000000):
  ∃(al:Int) (nx:List (List Int)) (ac:List Bool) (q:Int),AutB 45 nx ac/\p<=q/\q<=p+200/\(Dw 16 28 [] (autD al nx ac) c p q):=by
 obtain⟨al,nx,ac,q,g1,g2,g3,g4,g5,g6,kd1⟩:=aNg hc p (by omega) (by omega);have b0:AutB 12 nx ac:=⟨by omega,by omega,fun r hr=>by have:=g4 r hr;have:=b9 al;omega⟩
 obtain⟨u,u0,u1,_,kd2⟩:=fA hc q 3 (by omega) (by omega)
 obtain⟨nx1,ac1,q1,b1,n1,r1,r2,kd3,no3⟩:∃(nx1:List (List Int)) (ac1:List Bool) (q1:Int),AutB 13 nx1 ac1/\1<=nx1.length/\q+1<=q1/\q1<=q+5/\(u=0->(Dw 4 48 [autD al nx ac] (autD al nx1 ac1) c (q+1) q1))/\(¬u=0->nx1=nx/\ac1=ac/\q1=q+1):=by
  by_cases hu:u=0
  ·obtain⟨nx1,ac1,q1,b1,n1,r1,r2,kd⟩:=aJf hc (B:=12) (by omega) al nx ac b0 g1 (q+1) (by omega) (by omega);exact⟨nx1,ac1,q1,b1,n1,r1,by omega,fun _=>kd,fun h=>absurd hu h⟩
  ·exact⟨nx,ac,q+1,b0.mono (by omega),g1,by omega,by omega,fun h=>absurd h hu,fun _=>⟨rfl,rfl,rfl⟩⟩
 obtain⟨w,w0,w1,_,kd4⟩:=fA hc q1 24 (by omega) (by omega);clear g4 b0;unfold autD at kd1 kd3|-
 by_cases hw0:w=0
 ·subst hw0;obtain⟨al2,nx2,ac2,q2,b2,e2,s1,s2,kd5⟩:=aEr hc (B:=13) (by omega) al nx1 ac1 b1 n1 (q1+1) (by omega) (by omega);obtain⟨al3,nx3,ac3,q3,b3,s3,s4,kd6⟩:=aOG hc (B:=26) (by omega) al2 nx2 ac2 b2 e2 q2 (by omega) (by omega);refine⟨al3,nx3,ac3,q3,b3.mono (by omega),by omega,by omega,fun R L n hq k hn hL=>cD J8 (by simp[idsL]) (by simp[idsA,idsL]) ?_⟩;unfold autD at kd5 kd6;clear b1 b2 b3 e2
  by_cases hu:u=0
  ·have kd3:=kd3 hu;subst hu;clear no3;obtain _|n:=n;omega;simp -implicitDefEqProofs (maxSteps:=2000000) (disch:=try exact Dz) only[↓DN,↓kRet,UP,simprocAttr,↓kd1,↓kd2,↓kd3,↓kd4,↓kd5,↓kd6,j3,jW,Tryz.f28]
  ·obtain⟨rfl,rfl,rfl⟩:=no3 hu;clear kd3;obtain _|n:=n;omega;simp -implicitDefEqProofs (maxSteps:=2000000) (disch:=try exact Dz) only[↓DN,↓kRet,UP,simprocAttr,↓kd1,↓kd2,hu,↓kd4,↓kd5,↓kd6,j3,jW,Tryz.f28]
 by_cases hw1:w=1
 ·subst hw1;obtain⟨nx2,ac2,q2,e1,e2,e3,e4,e5,kd5⟩:=aQ1 hc (q1+1) (by omega) (by omega);refine⟨3,nx2,ac2,q2,⟨by omega,by omega,fun r hr=>by have:=e3 r hr;have:=b9 3;omega⟩,by omega,by omega,fun R L n hq k hn hL=>cD J8 (by simp[idsL]) (by simp[idsA,idsL]) ?_⟩;unfold autD at kd5;clear b1 e3
  by_cases hu:u=0
  ·have kd3:=kd3 hu;subst hu;clear no3;obtain _|n:=n;omega;simp -implicitDefEqProofs (maxSteps:=2000000) (disch:=try exact Dz) only[↓DN,↓kRet,UP,simprocAttr,↓kd1,↓kd2,↓kd3,↓kd4,↓kd5,j3,jW,Tryz.f28]
  ·obtain⟨rfl,rfl,rfl⟩:=no3 hu;clear kd3;obtain _|n:=n;omega;simp -implicitDefEqProofs (maxSteps:=2000000) (disch:=try exact Dz) only[↓DN,↓kRet,UP,simprocAttr,↓kd1,↓kd2,hu,↓kd4,↓kd5,j3,jW,Tryz.f28]
 by_cases hw2:w=2
 ·subst hw2;obtain⟨nx2,ac2,q2,e1,e2,e3,e4,e5,he⟩:=DX hc 63 5 (s:=5) rfl (by omega) (by omega) (q1+1) (by omega) (by omega);have kd5:=fun {R:Type} {L n:Nat} {hq:H} {k:KA R} (hn:3<=n) (hL:2^60<=L)=>L5 (R:=R) (L:=L) (n:=n) (hq:=hq) (k:=k) hn hL he;simp only[autA,autO]at kd5;refine⟨63,nx2,ac2,q2,⟨by omega,by omega,fun r hr=>by have:=e3 r hr;have:=b9 63;omega⟩,by omega,by omega,fun R L n hq k hn hL=>cD J8 (by simp[idsL]) (by simp[idsA,idsL]) ?_⟩
  have hH:Has (rdO c q2::.arr [] 0 0::.arr [] 0 0::.box [nI 63,.sl 7 0 0 nx2.length,.sl 8 0 0 ac2.length]::.arr [] 0 0::.arr [] 0 0::.box [nI 63,.sl 7 0 0 nx2.length,.sl 8 0 0 ac2.length]::.vec (aC 9 nx2++aF 0) 1 0::.arr (aJ ac2) 1 0::aI nx2) 7 nx2 ac2:=by
   have:=NH (h:=[rdO c q2,.arr [] 0 0,.arr [] 0 0,.box [nI 63,.sl 7 0 0 nx2.length,.sl 8 0 0 ac2.length],.arr [] 0 0,.arr [] 0 0,.box [nI 63,.sl 7 0 0 nx2.length,.sl 8 0 0 ac2.length]]) (v:=7) (rs:=nx2) (ac:=ac2) (p:=[]) rfl
   simpa using this
  obtain⟨h2,st_out,st_keep,st_trim⟩:=NC (n:=nx2.length) (m:=ac2.length) (al:=63) hH (by omega) rfl rfl;unfold autD at st_out;clear b1 e3 he hH
  by_cases hu:u=0
  ·have kd3:=kd3 hu;subst hu;clear no3;obtain _|n:=n;omega;simp -implicitDefEqProofs (maxSteps:=2000000) (disch:=try exact Dz) only[↓DN,↓kRet,UP,simprocAttr,↓kd1,↓kd2,↓kd3,↓kd4,↓kd5,↓st_out,↓st_keep,↓st_trim,j3,jW,Tryz.f28]
  ·obtain⟨rfl,rfl,rfl⟩:=no3 hu;clear kd3;obtain _|n:=n;omega;simp -implicitDefEqProofs (maxSteps:=2000000) (disch:=try exact Dz) only[↓DN,↓kRet,UP,simprocAttr,↓kd1,↓kd2,hu,↓kd4,↓kd5,↓st_out,↓st_keep,↓st_trim,j3,jW,Tryz.f28]
 ·refine⟨al,nx1,ac1,q1+1,b1.mono (by omega),by omega,by omega,fun R L n hq k hn hL=>cD J8 (by simp[idsL]) (by simp[idsA,idsL]) ?_⟩;clear b1
  by_cases hu:u=0
  ·have kd3:=kd3 hu;subst hu;clear no3;obtain _|n:=n;omega;simp -implicitDefEqProofs (maxSteps:=2000000) (disch:=try exact Dz) only[↓DN,↓kRet,UP,simprocAttr,↓kd1,↓kd2,↓kd3,↓kd4,hw0,hw1,hw2,j3,jW,Tryz.f28]
  ·obtain⟨rfl,rfl,rfl⟩:=no3 hu;clear kd3;obtain _|n:=n;omega;simp -implicitDefEqProofs (maxSteps:=2000000) (disch:=try exact Dz) only[↓DN,↓kRet,UP,simprocAttr,↓kd1,↓kd2,hu,↓kd4,hw0,hw1,hw2,j3,jW,Tryz.f28]
theorem aAv(c0:List UInt8)(hc0:c0.length<=4294967296):∃(al:Int) (nx:List (List Int)) (ac:List Bool) (x:Int),AutB 45 nx ac/\ -1<=x/\x<=3/\∀(R:Type) (L n:Nat) (hq:H) (k:KA R),18<=n->2^60<=L->a6 env (aA env L n) hq 8 [.d (.ivs c0.length (bI c0))] k=k (.tup [autD al nx ac,nI x]) hq:=by
 have hc:=aUi c0;generalize hcs:src c0=c at hc;obtain⟨al,nx,ac,q,b,g2,g3,kd1⟩:=aMg hc 0 (by omega) (by omega);obtain⟨x,x0,x1,kd2⟩:=aJE hc q (by omega) (by omega);refine⟨al,nx,ac,x,b,x0,x1,fun R L n hq k hn hL=>c8 rfl ?_ rfl (.inr rfl)⟩;have kd_a:=fun {R:Type} {hq:H} {k:KA R} {i:Nat} {L n:Nat}=> @aNz L n _ _ _ _ _ _ _ rfl rfl kd1 R hq k i;have kd_b:=fun {R:Type} {hq:H} {k:KA R} {i:Nat} {L n:Nat}=> @aNz L n _ _ _ _ _ _ _ rfl rfl kd2 R hq k i;clear kd1 kd2;unfold autD at kd_a|-;obtain _|n:=n;omega;simp -implicitDefEqProofs (maxSteps:=2000000) (disch:=try exact Dz) only[↓DN,↓kAsg,↓kRet,UP,simprocAttr,↓aQX,hcs,↓kd_a,↓kd_b,Br,U9,EP,Tryz.f8]
section
def qV:List Int->List Int->Prop
 |a::x,b::y=>a<b\/a=b/\qV x y
 |_,_=>False
def slt(x y:List Int):Prop:=x.length<y.length\/x.length=y.length/\qV x y
theorem aFI:∀x:List Int,¬qV x x
 | [],h=>h
 |a::x,h=>by
  rcases h with h|⟨_,h⟩
  ·omega
  ·exact aFI x h
theorem YA:∀ {x y z:List Int},qV x y->qV y z->qV x z
 | [],_,_,h,_=>h.elim
 |_::_,[],_,h,_=>h.elim
 |_::_,_::_,[],_,h=>h.elim
 |a::x,b::y,c::z,h,k=>by
  rcases h with h|⟨rfl,h⟩
  ·rcases k with k|⟨rfl,k⟩
   ·exact .inl (by omega)
   ·exact .inl h
  ·rcases k with k|⟨rfl,k⟩
   ·exact .inl k
   ·exact .inr ⟨rfl,YA h k⟩
theorem aEz:∀ {x y:List Int},x.length=y.length->x=y\/qV x y\/qV y x
 | [],[],_=>.inl rfl
 | [],_::_,h=>by simp at h
 |_::_,[],h=>by simp at h
 |a::x,b::y,h=>by
  rcases Int.lt_trichotomy a b with h1|h1|h1
  ·exact .inr (.inl (.inl h1))
  ·subst h1
   rcases aEz (x:=x) (y:=y) (by simpa using h)with h2|h2|h2
   ·exact .inl (by rw[h2])
   ·exact .inr (.inl (.inr ⟨rfl,h2⟩))
   ·exact .inr (.inr (.inr ⟨rfl,h2⟩))
  ·exact .inr (.inr (.inl h1))
theorem aEc(x:List Int):¬slt x x:=by
 intro h
 rcases h with h|⟨_,h⟩
 ·omega
 ·exact aFI x h
theorem JJ{x y z:List Int}(h:slt x y)(k:slt y z):slt x z:=by
 rcases h with h|⟨h1,h⟩<;>rcases k with k|⟨k1,k⟩
 ·exact .inl (by omega)
 ·exact .inl (by omega)
 ·exact .inl (by omega)
 ·exact .inr ⟨by omega,YA h k⟩
theorem aKi(x y:List Int):x=y\/slt x y\/slt y x:=by
 rcases Dc x.length y.length with h|h|h
 ·exact .inr (.inl (.inl h))
 ·rcases aEz h with k|k|k
  ·exact .inl k
  ·exact .inr (.inl (.inr ⟨h,k⟩))
  ·exact .inr (.inr (.inr ⟨h.symm,k⟩))
 ·exact .inr (.inr (.inl h))
theorem FL:∀ {u v:List Int} {a b:Int},u.length=v.length->(qV (u++[a]) (v++[b])↔qV u v\/u=v/\a<b)
 | [],[],a,b,_=>by simp[qV]
 | [],_::_,a,b,h=>by simp at h
 |_::_,[],a,b,h=>by simp at h
 |x::u,y::v,a,b,h=>by
  have ih:=FL (u:=u) (v:=v) (a:=a) (b:=b) (by simpa using h);simp only[Av,qV,ih,List.cons.injEq]
  constructor
  ·rintro(k|⟨rfl,k|⟨rfl,k⟩⟩)
   ·exact .inl (.inl k)
   ·exact .inl (.inr ⟨rfl,k⟩)
   ·exact .inr ⟨⟨rfl,rfl⟩,k⟩
  ·rintro((k|⟨rfl,k⟩)|⟨⟨rfl,rfl⟩,k⟩)
   ·exact .inl k
   ·exact .inr ⟨rfl,.inl k⟩
   ·exact .inr ⟨rfl,.inr ⟨rfl,k⟩⟩
theorem OJ{u v:List Int}{a b:Int}:slt (u++[a]) (v++[b])↔slt u v\/u=v/\a<b:=by
 unfold slt;simp only[Af,Ad,Ac]
 constructor
 ·rintro(h|⟨h,k⟩)
  ·exact .inl (.inl (by omega))
  ·have hl:u.length=v.length:=by omega
   rcases(FL hl).1 k with k|k
   ·exact .inl (.inr ⟨hl,k⟩)
   ·exact .inr k
 ·rintro((h|⟨h,k⟩)|⟨rfl,k⟩)
  ·exact .inl (by omega)
  ·exact .inr ⟨by omega,(FL h).2 (.inl k)⟩
  ·exact .inr ⟨rfl,(FL rfl).2 (.inr ⟨rfl,k⟩)⟩
def Path(nx:Int->Int->List Int)(ls:List Int):Int->List Int->Int->Prop
 |v,[],u=>v=u
 |v,l::w,u=>l∈ls/\∃m∈nx v l,Path nx ls m w u
section
variable{nx:Int->Int->List Int}{ls:List Int}
theorem aG9:∀ {x y:List Int} {v u:Int},Path nx ls v (x++y) u↔∃m,Path nx ls v x m/\Path nx ls m y u
 | [],y,v,u=>by simp[Path]
 |l::x,y,v,u=>by
  simp only[Av,Path,aG9 (x:=x)]
  constructor
  ·rintro⟨h,m,hm,q,h1,h2⟩;exact⟨q,⟨h,m,hm,h1⟩,h2⟩
  ·rintro⟨q,⟨h,m,hm,h1⟩,h2⟩;exact⟨h,m,hm,q,h1,h2⟩
theorem aEP{w:List Int}{l v u:Int}:Path nx ls v (w++[l]) u↔l∈ls/\∃m,Path nx ls v w m/\u∈nx m l:=by
 rw[aG9];simp only[Path]
 constructor
 ·rintro⟨m,h1,h2,q,h3,rfl⟩;exact⟨h2,m,h1,h3⟩
 ·rintro⟨h2,m,h1,h3⟩;exact⟨m,h1,h2,u,h3,rfl⟩
def tH(nx:Int->Int->List Int)(ls start w:List Int)(u:Int):Prop:=∃s∈start,Path nx ls s w u
def Hits(nx:Int->Int->List Int)(ls start:List Int)(gl:Int->Bool)(w:List Int):Prop:=∃u,tH nx ls start w u/\gl u=true
def WV(P:List Int->Prop)(w:List Int):Prop:=P w/\∀x,P x->¬slt x w
theorem aHL{P:List Int->Prop}{x y:List Int}(hx:WV P x)(hy:WV P y):x=y:=by
 rcases aKi x y with h|h|h
 ·exact h
 ·exact(hy.2 x hx.1 h).elim
 ·exact(hx.2 y hy.1 h).elim
def FJ(P:List Int->Prop)(r:List Int×Bool):Prop:=(r.2=true/\WV P r.1)\/(r=([],false)/\∀w,¬P w)
theorem rY{P:List Int->Prop}{r q:List Int×Bool}(hr:FJ P r)(hq:FJ P q):r=q:=by
 rcases hr with⟨h1,h2⟩|⟨h1,h2⟩<;>rcases hq with⟨k1,k2⟩|⟨k1,k2⟩
 ·obtain⟨a,b⟩:=r;obtain⟨c,d⟩:=q;simp only at h1 k1 h2 k2;subst h1;subst k1;rw[aHL h2 k2]
 ·exact(k2 _ h2.1).elim
 ·exact(h2 _ k2.1).elim
 ·rw[h1,k1]
theorem aCE{P Q:List Int->Prop}{r:List Int×Bool}(h:∀w,P w↔Q w)(hr:FJ P r):FJ Q r:=by
 have:P=Q:=funext fun w=>propext (h w);rw[<-this];exact hr
end
end
end Ev
end Go.Proofs.YthlkcebdfbjdoaaGreat
