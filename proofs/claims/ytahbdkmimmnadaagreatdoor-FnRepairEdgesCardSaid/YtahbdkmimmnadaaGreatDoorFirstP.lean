/-
  Searching for an edge, dropping it.
-/
import Derived.Test.YtahbdkmimmnadaaGreatDoorDistG
import Derived.Test.YtahbdkmimmnadaaGreatDoorPartsN
import Derived.Test.YtahbdkmimmnadaaGreatDoorSysI
import Derived.Test.YtahbdkmimmnadaaGreatDoorEdges
import Derived.Test.YtahbdkmimmnadaaGreatDoorPartsA
set_option linter.unusedSimpArgs false
set_option linter.unusedVariables false
set_option linter.unusedSectionVars false
set_option maxRecDepth 8000
set_option maxHeartbeats 4000000
namespace Go.Proofs.YtahbdkmimmnadaaGreatDoor
namespace Ev
section
variable{R:Type}{L n:Nat}
theorem N6{h:H}{n:Int}{K:IntKind}:gM env.P h 165 3 (.d (.int K n))=some (nI (IntKind.i64.wrap n),h):=wC aFt aEB
theorem aC0{i j:Nat}:((i:Int)+(j:Int)).fdiv (2^min 1 IntKind.u64.bits)=(((i+j)/2:Nat):Int):=by
 have:(2:Int)^(min 1 IntKind.u64.bits)=2:=by simp[IntKind.bits]
 rw[this,Int.fdiv_eq_ediv_of_nonneg _ om];omega
theorem aLX(hn:5<=n)(hL:2^60<=L){l:List Edge}{a b c:Int}(hl:l.length<=4294967296){k:KE R}:∀(q i j m:Nat) (hij:i<=j) (hj:j<=l.length) (hq:j-i<=q) (hm:q<m),
  aV env (aA env L n) L 0 [] Bz12 (cI 0) Bz35 m (.d (.ivs l.length (aJ l))::Y1 (.d (.fn 76 [])::Y1 (.ptr 0 0 0::Y1 (nI 0::.d (.bool false)::nI (l.length)::nI i::nI j::Y32 (Y4 (Y2 ([]))))))) [.box [nI a,nI b,nI c]] k
  =k (.exit 0) (.d (.ivs l.length (aJ l))::Y1 (.d (.fn 76 [])::Y1 (.ptr 0 0 0::Y1 (nI 0::.d (.bool false)::nI (l.length)::nI (bsF (fun h=>bY (l.getD h default) ⟨a,b,c⟩) q i j:Nat)::nI (bsF (fun h=>bY (l.getD h default) ⟨a,b,c⟩) q i j:Nat)::Y32 (Y4 (Y2 ([]))))))) [.box [nI a,nI b,nI c]]:=by
 intro q
 induction q with
 |zero=>
  intro i j m hij hj hq hm;obtain _|m:=m;omega;obtain rfl:i=j:=om
  simp-implicitDefEqProofs (maxSteps:=9^7) (disch:=try exact Dz) only[↓DN,↓kRet,UP,simprocAttr,Al,bW,bL,Tryz.f75]<;>rfl
 |succ q ih=>
  intro i j m hij hj hq hm;obtain _|m:=m;omega
  by_cases h1:i<j
  ·have hc:(i:Int)<(j:Int):=om;have hk:(i+j)/2<l.length:=om;have hlt:=aOM (e:=l.getD ((i+j)/2) default) (f:=⟨a,b,c⟩)
   cases hb:bY (l.getD ((i+j)/2) default) ⟨a,b,c⟩with
   |true=>
    rw[hb]at hlt;have hlt:=of_decide_eq_true hlt;have e1:(((i+j)/2:Nat):Int)+1=(((i+j)/2+1:Nat):Int):=rfl;have ih':=ih ((i+j)/2+1) j m om hj om om
    simp-implicitDefEqProofs (maxSteps:=9^7) (disch:=try exact Dz) only[↓DN,↓kRet,UP,simprocAttr,LE,hc,↓CB,↓N6,ZO,aC0,↓j4,hlt,e1,↓ih',bW,bL,Tryz.f75];simp only[bsF,h1,hb,if_true]
   |false=>
    rw[hb]at hlt;have hlt:=of_decide_eq_false hlt;have ih':=ih i ((i+j)/2) m om om om om
    simp-implicitDefEqProofs (maxSteps:=9^7) (disch:=try exact Dz) only[↓DN,↓kRet,UP,simprocAttr,LE,hc,↓CB,↓N6,ZO,aC0,↓j4,hlt,↓ih',bW,bL,Tryz.f75];simp only[bsF,h1,hb,if_true,Aj,if_false]
  ·have hc:¬(i:Int)<(j:Int):=om;obtain rfl:i=j:=om
   simp-implicitDefEqProofs (maxSteps:=9^7) (disch:=try exact Dz) only[↓DN,↓kRet,UP,simprocAttr,hc,bW,bL,Tryz.f75];simp only[bsF,Nat.lt_irrefl,if_false]
theorem S4{R:Type}{L n m:Nat}(hn:5<=n)(hL:2^60<=L){l:List Edge}{a b c:Int}(hl:l.length<=4294967296){k:KE R}(hm:l.length<m):
  aV env (aA env L n) L 0 [] Bz12 (cI 0) Bz35 m (.d (.ivs l.length (aJ l))::Y1 (.d (.fn 76 [])::Y1 (.ptr 0 0 0::Y1 (nI 0::.d (.bool false)::nI (l.length)::nI 0::nI (l.length)::Y32 (Y4 (Y2 ([]))))))) [.box [nI a,nI b,nI c]] k
  =k (.exit 0) (.d (.ivs l.length (aJ l))::Y1 (.d (.fn 76 [])::Y1 (.ptr 0 0 0::Y1 (nI 0::.d (.bool false)::nI (l.length)::nI (bsE l ⟨a,b,c⟩:Nat)::nI (bsE l ⟨a,b,c⟩:Nat)::Y32 (Y4 (Y2 ([]))))))) [.box [nI a,nI b,nI c]]:=
 aLX hn hL hl l.length 0 l.length m (Ck _) (Ad _) om hm
theorem fM(hn:6<=n)(l:List Edge)(a b c:Int)(hl:l.length<=4294967296)(hL:2^60<=L):aA env L n 75 [.d (.ivs l.length (aJ l)),.agg [nI a,nI b,nI c],.d (.fn 76 [])] []=some (.tup [nI (bsE l ⟨a,b,c⟩:Nat),.d (.bool (hitE l ⟨a,b,c⟩))],[]):=by
 unfold hitE;have hle:=aPi (l:=l) (e:=⟨a,b,c⟩)
 by_cases h1:bsE l ⟨a,b,c⟩<l.length
 ·have hc:((bsE l ⟨a,b,c⟩:Nat):Int)<(l.length:Int):=om;have hd:decide (bsE l ⟨a,b,c⟩<l.length)=true:=by simp[h1]
  have hz:decide (cmpE (l.getD (bsE l ⟨a,b,c⟩) default) ⟨a,b,c⟩=0)=decide (l.getD (bsE l ⟨a,b,c⟩) default=⟨a,b,c⟩):=by simp only[aLp]
  obtain _|n:=n;omega
  simp-implicitDefEqProofs (maxSteps:=9^7) (disch:=try exact Dz) only[↓DN,↓kAsg,↓kRet,UP,simprocAttr,LE,↓j4,↓S4,hc,hd,hz,fK,dJ,Tryz.f75]
 ·have hc:¬((bsE l ⟨a,b,c⟩:Nat):Int)<(l.length:Int):=om;have hd:decide (bsE l ⟨a,b,c⟩<l.length)=false:=by simp[h1]
  obtain _|n:=n;omega
  simp-implicitDefEqProofs (maxSteps:=9^7) (disch:=try exact Dz) only[↓DN,↓kAsg,↓kRet,UP,simprocAttr,↓S4,hc,hd,fK,dJ,Tryz.f75]
theorem lF:type_of% fun {L} l a b c hl hL=>kt fun hn=> @fM L _ hn l a b c hl hL:=fun {L} l a b c hl hL=>kt fun hn=> @fM L _ hn l a b c hl hL
theorem aHt{L:Nat}{x:D}{a b c:Int}:KV L 75 [.d x,.agg [nI a,nI b,nI c],.clo 76 []]:=fun _ _ _ _=>d7 c9
theorem aLS{h:H}{id:Nat}{o:O}(hi:h[id]? =some o):h.set id o=h:=by
 apply Cn;intro j;rw[Co];obtain⟨hl,he⟩:=Ar.1 hi
 by_cases e:id=j
 ·subst e;simp[hl,he]
 ·simp[e]
theorem YN{R:Type}{E:Env}{call:aW}{h h2:H}{f:FuncId}{args:List A}{r:A}{k:KA R}(hs:args.all wO=true)(hm:(E.hint f).mode=0)(hc:call f args []=some (r,h2)):
  aU E call h f args k=k (mapA (back [] h.length h2.length) r) (h++h2.map (mapO (back [] h.length h2.length))):=by
 have hcall:bJ call E.hint [] f args=some (r,h2):=by
  unfold bJ;rw[hm];exact hc
 unfold aU;rw[x8 hs,EC,gG _ (x8 hs)];have:pack h []=[]:=rfl;rw[this,hcall];simp only[Aa,Ck,true_and,closed,Ce,Bm,if_true,bA]
theorem aB0{l:List Edge}(hl:l.length<=4294967296):lY 3 [.d (.ivs l.length (aJ l))] []=some (.sl 0 0 0 l.length,[.arr (aJ l) 3 0]):=by
 have h2:bT [] 3 (.d (.ivs l.length (aJ l)))=some (l.length,aJ l):=by
  simp only[bT,uM,if_true]
 have h3:l.length<=bF:=by unfold bF;omega
 simp only[lY,h2,h3,if_true]<;>rfl
theorem wI{hq:H}{k:KA R}(hn:1<=n)(l:List Edge)(hl:l.length<=4294967296):
  aU env (aA env L n) hq 79 [.d (.ivs l.length (aJ l))] k=k (.sl hq.length 0 0 l.length) (hq++[.arr (aJ l) 3 0]):=by
 obtain _|n:=n;omega;rw[YN rfl gT (by rw[wJ];exact aB0 hl)];simp[mapA,back,mapO]
theorem xS{R:Type}{L n id g:Nat}{hq:H}{k:KA R}(hn:1<=n)(l:List Edge)(i j:Nat)(hi:hq[id]? =some (.arr (aJ l) 3 g))(hl:l.length<=4294967296)(hij:i<j)(hj:j<=l.length):
  aU env (aA env L n) hq 78 [.sl id g 0 l.length,nI i,nI j] k=k (.sl id (g+1) 0 (l.take i++l.drop j).length) (hq.set id (.arr (aJ (l.take i++l.drop j)) 3 (g+1))):=by
 obtain _|n:=n;omega;have hlen:(l.take i++l.drop j).length=l.length-(j-i):=by simp only[Ah,Cf,Ba];omega
 have hd:zL 3 [.sl 0 g 0 l.length,nI i,nI j] [.arr (aJ l) 3 g]=some (.sl 0 (g+1) 0 (l.take i++l.drop j).length,[.arr (aJ (l.take i++l.drop j)) 3 (g+1)]):=by
  have c:True/\True/\True/\(0:Int)<=i/\(i:Int)<j/\(j:Int)<=l.length/\l.length<=bF/\l.length*3<=(aJ l).length:=⟨trivial,trivial,trivial,by omega,by omega,by omega,by unfold bF;omega,by rw[uM];omega⟩
  simp only[zL,Ch];rw[if_pos c];simp only[Cd,hlen,Ci,jL,yF,rW];rw[Bx (l:=l.drop j) sm]
 have hc:aA env L (n+1) 78 (aE (aH [id]) [.sl id g 0 l.length,nI i,nI j]) [.arr (aJ l) 3 g]=some (.sl 0 (g+1) 0 (l.take i++l.drop j).length,[.arr (aJ (l.take i++l.drop j)) 3 (g+1)]):=by
  rw[uT]
  simpa [aE,mapA,aH]using hd
 have hre:aC aD hq [id] []=[id]:=by
  have e1:aC aD hq [id] []=match hq[id]? with
   |some (.box cs)=>aC (aD-1) hq ([]++idsL cs) ([]++[id])
   |some (.vec cs _ _)=>aC (aD-1) hq ([]++idsL cs) ([]++[id])
   |some .void=>aC (aD-1) hq [] []
   |some _=>aC (aD-1) hq [] ([]++[id])
   |none=>aC (aD-1) hq [] []:=rfl
  rw[e1,hi];rfl
 have hpk:pack hq [id]=[.arr (aJ l) 3 g]:=by
  simp only[pack,Ag,Ak,Ab,hi];rfl
 unfold aU;have hid:idsL [A.sl id g 0 l.length,nI i,nI j]=[id]:=by simp[idsL,idsA]
 rw[hid,hre,hpk]
 have hc2:bJ (aA env L (n+1)) env.hint [.arr (aJ l) 3 g] 78 (aE (aH [id]) [.sl id g 0 l.length,nI i,nI j])=some (.sl 0 (g+1) 0 (l.take i++l.drop j).length,[.arr (aJ (l.take i++l.drop j)) 3 (g+1)]):=by
  unfold bJ;rw[gJ];exact hc
 rw[hc2]
 have hcl:closed hq [id] [id]=true:=by
  simp only[closed,Bt,Ce,hi];simp
 simp only[Ac,Aa,Ad,hcl,and_self,if_true];simp[mapA,back,bA,mapO]
end
theorem aHM{l:List Edge}{n:Nat}{u:Int}{h:H}(hn:n=l.length)(h0:0<=u)(h1:u<=l.length):gE env.P h 29 (.d (.ivs n (aJ l))) none (some u)=some (.d (.ivs (l.take u.toNat).length (aJ (l.take u.toNat)))):=by
 have hu:env.P.underlying 29=some (.slice 53):=kr;have hc:env.P.cellsOf 53=3:=kr;subst hn
 have hb:lJ l.length none (some u)=some (0,u.toNat):=by
  unfold lJ;simp only[Option.getD_none,Bh];rw[if_pos om];rfl
 have hl:(l.take u.toNat).length=u.toNat:=by rw[Cf];omega
 simp only[gE,hu,hc,hb,Nat.zero_lt_succ,if_true,Ax,Nat.sub_zero,Nat.zero_mul,Ay,jL,hl]
theorem aEc{l:List Edge}{n:Nat}{u:Int}{h:H}(hn:n=l.length)(h0:0<=u)(h1:u<=l.length):gE env.P h 29 (.d (.ivs n (aJ l))) (some u) none=some (.d (.ivs (l.drop u.toNat).length (aJ (l.drop u.toNat)))):=by
 have hu:env.P.underlying 29=some (.slice 53):=kr;have hc:env.P.cellsOf 53=3:=kr;subst hn
 have hb:lJ l.length (some u) none=some (u.toNat,l.length):=by
  unfold lJ;simp only[Option.getD_none,Bh];rw[if_pos om];simp
 have hl:(l.drop u.toNat).length=l.length-u.toNat:=by rw[Ba]
 simp only[gE,hu,hc,hb,Nat.zero_lt_succ,if_true,Ax,jL,yF,hl];rw[Bx sm]
theorem S7{L n:Nat}(hn:1<=n)(al st:Int)(l:List Edge)(i:Nat)(hl:l.length<=4294967296)(hi:i<l.length)(hL:2^60<=L):aA env L n 57 [.agg [nI al,nI st,.d (.ivs l.length (aJ l))],nI i] []=some (.agg [nI al,nI st,.d (.ivs (l.take i++l.drop (i+1)).length (aJ (l.take i++l.drop (i+1))))],[]):=by
 have e1:(i:Int)+1=((i+1:Nat):Int):=rfl;obtain _|n:=n;omega
 simp-implicitDefEqProofs (maxSteps:=9^7) (disch:=try exact Dz) only[↓DN,↓kRet,UP,simprocAttr,LE,↓aHM,↓aEc,e1,aEX,V1,Tryz.f57]
theorem aGS:type_of% fun {L} al st l i hl hi hL=>ks fun hn=> @S7 L _ hn al st l i hl hi hL:=fun {L} al st l i hl hi hL=>ks fun hn=> @S7 L _ hn al st l i hl hi hL
def t3(e:Edge):Int×Int×Int:=(e.fr,e.lt,e.to)
def e3(x:Int×Int×Int):Edge:=⟨x.1,x.2.1,x.2.2⟩




theorem aGX{l:List Edge}(h:sG l):l.Nodup:=by
 refine List.Pairwise.imp ?_ h;intro a b hab e;subst e;rw[sH]at hab;cases hab
section
theorem R2:AOK cZ:=by
 show iT 0 [[]] [true]=true
 decide
def brkG(P:List Sys)(b:Aut):List Int×Bool:=MX (nxBk P cZ b) (glBk cZ b) (aG (parA P)) [0] (cL P*b.nx.length).toNat
theorem aPw{a b:Int}(ha:fQ a=true)(hb:fQ b=true):fQ (iOr .i64 a b)=true:=by
 unfold fQ at *;simp only[decide_eq_true_eq]at *;obtain⟨x,rfl⟩:∃x:Nat,a=x:=⟨a.toNat,by omega⟩
 obtain⟨y,rfl⟩:∃y:Nat,b=y:=⟨b.toNat,by omega⟩
 rw[aBK om om];have:x|||y<2^6:=Nat.or_lt_two_pow om om;omega
theorem aCw:∀ {P:List Sys} {z:Int},fQ z=true->(∀s∈P,cF s=true)->fQ (P.foldl (fun z s=>iOr .i64 z s.al) z)=true
 | [],_,h,_=>h
 |s::P,z,h,hs=>by
  rw[Ct];exact aCw (aPw h (jP.1 (hs s Bl)).1) fun x hx=>hs x (Bi _ hx)
theorem GG{P:List Sys}(hv:bR P=true):0<=parA P/\parA P<=63:=by
 obtain⟨_,_,hs⟩:=eT hv;have:=aCw (z:=0) dc hs;unfold fQ at this;unfold parA
 simpa using this
theorem aFv:∀(zs:List Int) (v:Int),(∀z∈zs,0<z)->0<=v->∀i,i<zs.length->0<=(decR zs v).getD i 0/\(decR zs v).getD i 0<zs.getD i 0
 | [],_,_,_,i,hi=>by simp at hi
 |z::zs,v,hz,hv,0,_=>by
  have h:=hz z Bl;exact mB hv h
 |z::zs,v,hz,hv,i+1,hi=>by
  have h:=hz z Bl;exact aFv zs (v.tdiv z) (fun y hy=>hz y (Bi _ hy)) (Cz hv om) i (by simpa using hi)
theorem aMC{zs:List Int}{v:Int}(hz:∀z∈zs,0<z)(hv:0<=v){i:Nat}(hi:i<zs.length):0<=(decN zs v).getD i 0/\(decN zs v).getD i 0<zs.getD i 0:=by
 have hl:(decR zs.reverse v).length=zs.length:=by rw[N2,List.length_reverse]
 have h:=aFv zs.reverse v (fun z h=>hz z (Dn.1 h)) hv (zs.length-1-i) (by rw[List.length_reverse];omega)
 have e1:(decN zs v).getD i 0=(decR zs.reverse v).getD (zs.length-1-i) 0:=by
  unfold decN;rw[Ab,List.getElem?_reverse om,hl,Ab]
 have e2:zs.reverse.getD (zs.length-1-i) 0=zs.getD i 0:=by
  rw[Ab,List.getElem?_reverse om,Ab,show zs.length-1-(zs.length-1-i)=i by omega]
 rw[e1,<-e2];exact h
theorem aJW{zs:List Int}{z v:Int}:decN (zs++[z]) v=decN zs (v.tdiv z)++[v.tmod z]:=by
 unfold decN;rw[List.reverse_append];simp[decR]
theorem aCj:∀(zs:List Int),encN zs (List.replicate zs.length 0) 0=0
 | []=>rfl
 |z::zs=>by
  rw[Ac,Dr,encN,Int.zero_mul,Int.zero_add];exact aCj zs
theorem aJ8:∀(zs:List Int),MH zs (List.replicate zs.length 0) 0
 | []=>trivial
 |z::zs=>by
  rw[Ac,Dr,MH];refine⟨by rw[Int.zero_mul];omega,by rw[Int.zero_mul];omega,?_⟩;rw[Int.zero_mul,Int.zero_add];exact aJ8 zs
theorem aGs{l:List Edge}(h:l.Nodup)(q c:Int):(eX l q c).Nodup:=by
 unfold eX;refine List.pairwise_map.2 ((h.filter _).imp_of_mem fun {a b} ha hb hab e=>hab ?_);have h1:=(Dl.1 ha).2;have h2:=(Dl.1 hb).2;simp only[Ap,decide_eq_true_eq]at h1 h2;obtain⟨a1,a2,a3⟩:=a;obtain⟨b1,b2,b3⟩:=b;simp only at h1 h2 e;obtain⟨rfl,rfl⟩:=h1;obtain⟨rfl,rfl⟩:=h2;rw[e]
theorem aF5{s:Sys}(h:cF s=true){l q:Int}(hq:0<=q/\q<s.st):(choS s l q).length<=16:=by
 obtain⟨_,s1,s2,_,s3⟩:=jP.1 h;have hr:=M5 (l:=l) h hq;refine Bf (JF (N:=s.st.toNat) ?_ fun x hx=> ?_) om
 ·unfold choS
  split
  ·exact aGs (aGX s3) q l
  ·simp
 ·have:=hr x hx;omega
theorem aIK:∀ {ms:List Mb} {v:Int},(∀m∈ms,0<m.1/\∀q,0<=q->q<m.1->(m.2 q).length<=16)->0<=v->(nxR ms v).length<=16^ms.length
 | [],v,_,_=>by simp[nxR]
 |m::ms,v,h,hv=>by
  obtain⟨hz,hc⟩:=h m Bl;have hr:=mB hv hz;rw[nxR,NL,Ac,Nat.pow_succ];exact Nat.mul_le_mul (aIK (fun m hm=>h m (Bi _ hm)) (Cz hv om)) (hc _ hr.1 hr.2)
theorem aDw{l:Int}(hl:0<=l/\l<6):∀ {P:List Sys},(∀s∈P,cF s=true)->SameMs (P.map (sysI l)) (P.map (sysS l))
 | [],_=>.nil
 |s::P,h=>.cons (aNd (h s Bl) hl) (aDw hl fun s hs=>h s (Bi _ hs))
theorem aJj{P:List Sys}{l:Int}:totR (P.reverse.map (sysS l))=cL P:=by
 rw[MU,List.map_reverse,List.foldr_reverse,List.foldl_map];rfl
theorem H5:∀ {P:List Sys} {z:Int},0<z->(∀s∈P,cF s=true)->0<P.foldl (fun z s=>z*s.st) z
 | [],z,hz,_=>hz
 |s::P,z,hz,h=>by
  obtain⟨_,s1,_,_,_⟩:=jP.1 (h s Bl);rw[Ct];exact H5 (Int.mul_pos hz om) fun s hs=>h s (Bi _ hs)
def nxSp(P:List Sys)(b:Aut)(v l:Int):List Int:=mulN (nxR (P.reverse.map (sysS l)) (v.tdiv b.nx.length)) b.nx.length [goI b.al b.nx (v.tmod b.nx.length) l]
def glSp(b:Aut)(v:Int):Bool:=!b.ac.getD (v.tmod b.nx.length).toNat false
theorem NJ{P:List Sys}{b:Aut}(hs:∀s∈P,cF s=true)(hb:AOK b){v l:Int}(hl:0<=l/\l<6)(hv:0<=v):∀m∈nxSp P b v l,0<=m/\m<cL P*b.nx.length:=by
 obtain⟨_,_,b1,b2,_⟩:=nN hb;intro m hm;obtain⟨o,ho,c,hc,rfl⟩:=z7.1 hm;rw[Cc]at hc;have hr:=mB hv (z:=(b.nx.length:Int)) om;have hg:=L4 hb hr.1 hr.2 hl.1 hl.2
 have ho2:=aBY (ms:=P.reverse.map (sysS l)) (fun m hm=>by
  obtain⟨s,hs2,rfl⟩:=Bv.1 hm;have hso:=hs s (Dn.1 hs2);obtain⟨_,s1,s2,_,_⟩:=jP.1 hso;exact⟨by show 0<s.st;omega,fun q h0 h1=>M5 hso ⟨h0,h1⟩⟩) (Cz hv om) o ho
 rw[aJj]at ho2;subst hc;exact aIQ ho2 hg
theorem aMG{P:List Sys}{b:Aut}(h3:P.length<=3)(hs:∀s∈P,cF s=true){v l:Int}(hv:0<=v):(nxSp P b v l).length<=4096:=by
 unfold nxSp;rw[NL,Bu,By];refine Bf (aIK (fun m hm=> ?_) (Cz hv (Int.natCast_nonneg _))) ?_
 ·obtain⟨s,hs2,rfl⟩:=Bv.1 hm;have hso:=hs s (Dn.1 hs2);obtain⟨_,s1,s2,_,_⟩:=jP.1 hso;exact⟨by show 0<s.st;omega,fun q h0 h1=>aF5 hso ⟨h0,h1⟩⟩
 ·rw[Aw,List.length_reverse];exact Bf (Nat.pow_le_pow_right dc h3) dc
theorem MO{P:List Sys}{b:Aut}(hs:∀s∈P,cF s=true){v l:Int}(hl:0<=l/\l<6)(hv:0<=v)(m:Int):m∈nxBk P cZ b v l↔m∈nxSp P b v l:=by
 have hg:=L4 (l:=l) R2 (q:=0) om (by show(0:Int)<1;omega) hl.1 hl.2
 have hg0:goI cZ.al cZ.nx 0 l=0:=by
  have h1:((cZ.nx.length:Nat):Int)=1:=rfl;omega
 have e1:((cZ.nx.length:Nat):Int)=1:=rfl;unfold nxBk nxSp;rw[e1,Int.tdiv_one,Int.tmod_one,hg0,Int.zero_mul,Int.zero_add,z7];simp only[Bv,Cc,Int.mul_one];have key:=fun x=>aNu (x:=x) (v:=v.tdiv b.nx.length) (aDw hl (P:=P.reverse) fun s h=>hs s (Dn.1 h)) (Cz hv (Int.natCast_nonneg _))
 constructor
 ·rintro⟨y,hy,rfl⟩;exact⟨y,(key y).1 (aBV.1 hy),_,rfl,rfl⟩
 ·rintro⟨y,hy,_,rfl,rfl⟩;exact⟨y,aBV.2 ((key y).2 hy),rfl⟩
theorem aL8{b:Aut}(v:Int):glBk cZ b v=glSp b v:=by
 have e1:((cZ.nx.length:Nat):Int)=1:=rfl;unfold glBk glSp;rw[e1,Int.tmod_one];rfl
section
variable{P:List Sys}{b:Aut}(hv:bR P=true)(hb:AOK b)
include hv hb
theorem aBI:0<cL P*b.nx.length:=by
 obtain⟨h3,h1,hs⟩:=eT hv;obtain⟨_,_,b1,b2,_⟩:=nN hb;exact Int.mul_pos (H5 om hs) om
theorem aIg:∀v c:Int,0<=v->v<((cL P*b.nx.length).toNat:Nat)->c∈aG (parA P)->∀m∈nxSp P b v c,0<=m/\m<((cL P*b.nx.length).toNat:Nat):=by
 obtain⟨h3,h1,hs⟩:=eT hv;have hpos:=aBI hv hb;have et:(((cL P*b.nx.length).toNat:Nat):Int)=cL P*b.nx.length:=Int.toNat_of_nonneg om;intro v c h0 _ hc;have:=kA c hc;rw[et];exact NJ hs hb om h0
theorem aPv:TL (Hits (nxSp P b) (aG (parA P)) [0] (glSp b)) (brkG P b):=by
 obtain⟨h3,h1,hs⟩:=eT hv;have hpos:=aBI hv hb;have hr:=aIg hv hb
 have hr2:∀v c:Int,0<=v->v<((cL P*b.nx.length).toNat:Nat)->c∈aG (parA P)->∀m∈nxBk P cZ b v c,0<=m/\m<((cL P*b.nx.length).toNat:Nat):=by
  intro v c h0 h1 hc m hm;have:=kA c hc;exact hr v c h0 h1 hc m ((MO hs om h0 m).1 hm)
 have hI:∀v l m:Int,0<=v->l∈aG (parA P)->m∈nxBk P cZ b v l->0<=m:=by
  intro v l m h0 hl hm;have:=kA l hl;exact(NJ hs hb om h0 m ((MO hs om h0 m).1 hm)).1
 have hh:Hits (nxBk P cZ b) (aG (parA P)) [0] (glBk cZ b)=Hits (nxSp P b) (aG (parA P)) [0] (glSp b):=by
  funext w
  refine propext (aKa (I:=fun v=>0<=v) hI (fun v l h0 hl m=> ?_) (fun s hs=>by simp at hs;omega) (fun v _=>aL8 v) (aIa hI) w);have:=kA l hl;exact MO hs om h0 m
 rw[<-hh];exact aOk (WB _) hr2 (fun n hn=>by simp at hn;omega) sm
theorem aMb:YU (nxSp P b) (glSp b) (aG (parA P)) (cL P*b.nx.length).toNat 0=brkG P b:=by
 have hpos:=aBI hv hb;exact aFm (aML (aIg hv hb) (WB _) (Int.le_refl 0) om) (aPv hv hb)
end
end
section
variable{R:Type}{L n:Nat}
theorem aMK{R:Type}{L n id:Nat}{hq:H}{k:KA R}(hn:5<=n)(hL:2^60<=L){P:List Sys}(hP:cP P)(hv:bR P=true){a b:Aut}(ha:AOK a)(hb:AOK b)(x c:Int)(o:List Int)(hx:inBk P a b x)(hc0:0<=c)(hc6:c<6)(ho:o.length<=4200000000)(hid:hq[id]? =some (.arr (ints o) 1 0)):
  aU env (aA env L n) hq 149 (nI x::nI c::.sl id 0 0 o.length::[tabP a,.iptr [.int .i64 b.nx.length],.iptr [.int .i64 a.nx.length],tabP b,parP P].map A.d) k
  =k (.sl id 1 0 (o++nxBk P a b x c).length) (hq.set id (.arr (ints (o++nxBk P a b x c)) 1 1)):=by
 refine ZU hid (by simp[idsL,idsA]) m5 ?_;have hpl:aH [id] id=some 0:=by simp[aH]
 simp only[Ag,Ak,aE,mapA,hpl];exact PP hn hL hP hv ha hb hx hc0 hc6 o ho
theorem aNy{hq:H}{k:KA R}(hn:1<=n){P:List Sys}(hv:bR P=true){a b:Aut}(ha:AOK a)(hb:AOK b){rs:List D}(x:Int)(hx:inBk P a b x):
  aU env (aA env L n) hq 151 (nI x::[.iptr [.iptr [.int .i64 a.al,.ivs a.nx.length rs,.ivs a.ac.length (aK a.ac)]],.iptr [.int .i64 b.nx.length],.iptr [.int .i64 a.nx.length],autP b].map A.d) k=k (.d (.bool (glBk a b x))) hq:=
 cW rfl (PM hn hv ha hb hx) rfl (.inl rfl)
theorem aOL{k:KA R}{o0 o1 o2 o3 o4 o7:O}(hn:3<=n)(hL:2^60<=L):aU env (aA env L n) [o0,o1,o2,o3,o4,.arr [.nils] 1 0,.arr [.bool true] 1 0,o7] 89 [.agg [nI 0,.sl 5 0 0 1,.sl 6 0 0 1]] k=k (.d (.ivs 1 (ints (o9 0 [[]])))) [o0,o1,o2,o3,o4,.ice [.nils] 1 0,.ice [.bool true] 1 0,o7]:=
 wN (ids:=[5,6]) (ord:=[5,6]) (blk2:=[.ice [.nils] 1 0,.ice [.bool true] 1 0]) zN rfl rfl rfl rfl rfl (aBZ hn hL) rfl (Ad _) rfl
theorem aPl:env.P.underlying 169=some (.pointer 33):=kr
theorem aMR{h:H}:cH env .eql 169 h (.d .nilp) (.d .nilp)=some (.d (.bool true),h):=by
 simp[cH,aBin,aNil,aPl,eqlA]
theorem X7{L:Nat}{a b:A}{id g o len f1 f2:Nat}{c1 c2:List A}:KV L 152 [a,.sl id g o len,b,.clo f1 c1,.clo f2 c2]:=fun _ _ _ _=>d7 uZ
theorem YG(hn:14<=n)(hL:2^60<=L){P:List Sys}(hP:cP P)(hv:bR P=true){b:Aut}(hb:AOK b):
  aA env L n 82 [.d (.ivs P.length (sysD P)),.d .nilp,.agg [nI b.al,.d (.ivs b.nx.length (aN b.nx)),.d (.ivs b.ac.length (aK b.ac))]] []=some (.tup [.d (.str (txt (brkG P b).1)),.d (.bool (brkG P b).2)],[]):=by
 obtain⟨h3,h1,hs⟩:=eT hv;obtain⟨sz0,sz1⟩:=JJ h3 hs;obtain⟨sb,wb,b1,b2,b3⟩:=nN hb;have hlb:=wY b.al b.nx;have hp0:0<cL P:=H5 om hs;have hpos:0<cL P*b.nx.length:=Int.mul_pos hp0 om
 have hle:cL P*b.nx.length<=49152:=by
  have t1:cL P*b.nx.length<=4096*12:=Cy (Cq sz1 om) (Do om om);omega
 have et:(((cL P*b.nx.length).toNat:Nat):Int)=cL P*b.nx.length:=Int.toNat_of_nonneg om
 have hin:∀x,inBk P cZ b x↔0<=x/\x<cL P*b.nx.length:=by
  intro x;have e1:((cZ.nx.length:Nat):Int)=1:=rfl;unfold inBk;rw[e1,Int.mul_one]
 have hp:=fun {n:Nat} (hn:9<=n)=> @aBW L n 2 hn hL (inBk P cZ b) (glBk cZ b) 149 151 [tabP cZ,.iptr [.int .i64 b.nx.length],.iptr [.int .i64 cZ.nx.length],tabP b,parP P] [.iptr [.iptr [.int .i64 cZ.al,.ivs cZ.nx.length [.nils],.ivs cZ.ac.length (aK cZ.ac)]],.iptr [.int .i64 b.nx.length],.iptr [.int .i64 cZ.nx.length],autP b] (cL P*b.nx.length).toNat (nxBk P cZ b) (fun _ _=>1) (aG (parA P)) [0]
  (fun {R n id hq k} x c o h4 hI h0 h6 ho hid=>aMK om hL hP hv R2 hb x c o hI h0 h6 ho hid)
  (fun {R n hq k} x h2 hI=>aNy om hv R2 hb x hI)
  (fun x hI=>by rw[et];exact(hin x).1 hI) om (fun x hx=>by simp at hx;subst hx;exact(hin 0).2 ⟨Int.le_refl 0,hpos⟩) (fun x c hI h0 h6 y hy=>(hin y).2 (NJ hs hb ⟨h0,h6⟩ hI.1 y ((MO hs ⟨h0,h6⟩ hI.1 y).1 hy))) (fun x c=>by unfold nxBk;rw[Aw];exact aBx h3 hs) kA (dF _) sm (by simp only[Ac,Aa];omega)
 have kl_p:=fun {R:Type} {n:Nat} {k:A->Option R} (hn:9<=n)=>uU (k:=k) (hp (n:=n) hn) rfl;have er:MX (nxBk P cZ b) (glBk cZ b) (aG (parA P)) [0] (cL P*b.nx.length).toNat=brkG P b:=rfl;rw[er,et]at kl_p;have e2:cZ.nx.length=1:=rfl;have e3:cZ.ac.length=1:=rfl;have e4:cZ.al=0:=rfl;have e5:cZ.nx=[[]]:=rfl;have e6:aK cZ.ac=[.bool true]:=rfl;have hi1:∀v:Int,ints [v]=[.int .i64 v]:=fun _=>rfl;simp only[hi1,Ac,Aa,Af,tabP,autP,parP,e3,e4,e5,e6,Int.natCast_one]at kl_p;obtain⟨r0,r1⟩:=GG hv
 have hor:iOr .i64 (parA P) 0=parA P:=by
  obtain⟨z,hz⟩:∃z:Nat,parA P=z:=⟨(parA P).toNat,by omega⟩
  rw[hz,show(0:Int)=((0:Nat):Int)from rfl,aBK om om,Nat.or_zero]
 have hw1:IntKind.i64.wrap (cL P*1)=cL P:=by rw[Int.mul_one];exact dW om om
 have hw2:IntKind.i64.wrap (cL P*b.nx.length)=cL P*b.nx.length:=dW om om;clear hp er hin;generalize brkG P b=r at *;obtain _|n:=n;omega
 simp-implicitDefEqProofs (maxSteps:=9^7) (disch:=try exact Dz) only[↓DN,↓kAsg,↓kRet,UP,simprocAttr,↓aEr,↓BZ,↓aGR,↓aAU,↓nB,hv,aMR,↓aOL,↓X7,↓kl_p,hor,hw2,Int.mul_one,X1,HY,Tryz.f82]
end
theorem aIV{e:Edge}{l:List Edge}{q c:Int}(h1:e.fr=q)(h2:e.lt=c):eX (e::l) q c=e.to::eX l q c:=by
 unfold eX;rw[Em (by simp[h1,h2]),Ag]
theorem aA7{e:Edge}{l:List Edge}{q c:Int}(h:¬(e.fr=q/\e.lt=c)):eX (e::l) q c=eX l q c:=by
 unfold eX;rw[El (by simpa using h)]
theorem aKt{R:Type}{L n:Nat}(hn:1<=n){q l:Int}{es:List Edge}(hl:es.length<=4294967296){k:KE R}:∀(j i m:Nat) (o:List Int) (len:Nat) (hi:i+j=es.length) (hm:j<m) (hlen:len=o.length) (ho:o.length+j<=4294967296),
  aV env (aA env L n) L 0 [] Bz43 (zQ 0) (U2 (Z2 (U4 (Z4 (U32 (U32 (U2 (U1 ([]))))))))) m (Y2 (nI q::nI l::Y4 (.d .nils::.sl 0 0 0 len::.d (.ivs es.length (aJ es))::nI i::Y32 (Y32 (Y2 (Y1 ([]))))))) [.arr (ints o) 1 0] k
  =k (.exit 0) (Y2 (nI q::nI l::Y4 (.d .nils::.sl 0 0 0 (o++eX (es.drop i) q l).length::.d (.ivs es.length (aJ es))::nI (es.length)::Y32 (Y32 (Y2 (Y1 ([]))))))) [.arr (ints (o++eX (es.drop i) q l)) 1 0]:=by
 intro j
 induction j with
 |zero=>
  intro i m o len hi hm hlen ho;obtain _|m:=m;omega;obtain rfl:i=es.length:=om;subst hlen
  simp-implicitDefEqProofs (maxSteps:=9^7) (disch:=try exact Dz) only[↓DN,↓kRet,UP,simprocAttr,Al,lN,lK,Tryz.f252];simp[eX]
 |succ j ih=>
  intro i m o len hi hm hlen ho;obtain _|m:=m;omega;subst hlen;have hk:i<es.length:=om;have hc:(i:Int)<es.length:=om;have hi0:(0:Int)<=i:=om;rw[bM hk (d:=default)]
  by_cases h1:(es.getD i default).fr=q
  ·by_cases h2:(es.getD i default).lt=l
   ·have e:eX (es.getD i default::es.drop (i+1)) q l=(es.getD i default).to::eX (es.drop (i+1)) q l:=aIV h1 h2;have ih':=ih (i+1) m (o++[(es.getD i default).to]) (o.length+1) om om sm (by rw[Ah,Bu];omega);rw[cs1 i]at ih';rw[e];simp only[Ao,At,Am]at ih';clear ih e
    simp-implicitDefEqProofs (maxSteps:=9^7) (disch:=try exact Dz) only[↓DN,↓kRet,UP,simprocAttr,LE,hc,hi0,h1,h2,↓ih',lN,lK,Tryz.f252]
   ·have e:eX (es.getD i default::es.drop (i+1)) q l=eX (es.drop (i+1)) q l:=aA7 fun h=>h2 h.2;have ih':=ih (i+1) m o o.length om om rfl om;rw[cs1 i]at ih';rw[e];clear ih e
    simp-implicitDefEqProofs (maxSteps:=9^7) (disch:=try exact Dz) only[↓DN,↓kRet,UP,simprocAttr,LE,hc,hi0,h1,h2,↓ih',lN,lK,Tryz.f252]
  ·have e:eX (es.getD i default::es.drop (i+1)) q l=eX (es.drop (i+1)) q l:=aA7 fun h=>h1 h.1;have ih':=ih (i+1) m o o.length om om rfl om;rw[cs1 i]at ih';rw[e];clear ih e
   simp-implicitDefEqProofs (maxSteps:=9^7) (disch:=try exact Dz) only[↓DN,↓kRet,UP,simprocAttr,LE,hc,hi0,h1,↓ih',lN,lK,Tryz.f252]
theorem aAk{L n:Nat}(hn:5<=n)(hL:2^60<=L)(N:Net)(i:Nat)(q l:Int)(hi:i<N.ps.length)(h1:N.ps.length<=1000)(s:Sys)(hsy:N.ps.getD i default=s)(hes:s.es.length<=4294967296)(h0:0<=l)(h6:l<6):
  aA env L n 252 [.agg [.d (.ivs N.ps.length (sysD N.ps)),.d (.ivs N.us.length (jV N.us)),.d (.ivs N.start.length (ints N.start)),nI N.ls,nI N.kind,nI N.goal],nI i,nI q,nI l] []=some (.d (.ivs (choS s l q).length (ints (choS s l q))),[]):=by
 have g1:=aLx hi;have g2:=aAc hi;rw[hsy]at g1 g2;have hc:¬((N.ps.length:Int)<=i):=om;have hc1:(i:Int)<N.ps.length:=om;have hi0:(0:Int)<=i:=om;have loop_c:=fun {R n k} hn=> @aKt R L n hn q l s.es hes k s.es.length 0 L [] 0 om om rfl (by simp;omega);simp only[Ay,Av,Am,i7]at loop_c;clear hsy;unfold choS
 cases hb:dT s.al l with
 |true=>
  simp only[if_true];generalize eX s.es q l=w at *;have e4:(ints w).take w.length=ints w:=fJ (Ad _);obtain _|n:=n;omega
  simp-implicitDefEqProofs (maxSteps:=9^7) (disch:=try exact Dz) only[↓DN,↓kAsg,↓kRet,UP,simprocAttr,↓j8,NE,Ba,Bg,hc,hc1,hi0,g1,g2,hb,↓loop_c,e4,zF,uL,Tryz.f252]
 |false=>
  simp only[Aj,if_false];obtain _|n:=n;omega
  simp-implicitDefEqProofs (maxSteps:=9^7) (disch:=try exact Dz) only[↓DN,↓kAsg,↓kRet,UP,simprocAttr,↓j8,NE,Ba,Bg,hc,hc1,hi0,g1,hb,zF,uL,Tryz.f252]<;>rfl
section
variable{R:Type}{L n:Nat}
theorem UJ(hn:1<=n){c1 c2 c3 c5 c6:D}{al:Int}{zs:List Int}(hzl:zs.length<=1000)(hpr:∀i,i<=zs.length->0<=(zs.take i).foldl (·*·) 1/\(zs.take i).foldl (·*·) 1<=65536){k:KE R}:∀(j i m:Nat) (hi:i+j=zs.length) (hm:j<m),
  aV env (aA env L n) L 0 [] Bz2 (eM 0) (U1 (Z4 (Z2 (U32 (U32 (U32 (U4 ([])))))))) m (Y1 (.ptr 0 0 0::.d (.str [])::.d (.bool false)::.d (.ivs zs.length (ints zs))::nI ((zs.take i).foldl (·*·) 1)::nI i::Y32 (Y32 (Y32 (Y4 ([])))))) [.box [.d c1,.d c2,.d c3,nI al,.d c5,.d c6]] k
  =k (.exit 0) (Y1 (.ptr 0 0 0::.d (.str [])::.d (.bool false)::.d (.ivs zs.length (ints zs))::nI (zs.foldl (·*·) 1)::nI (zs.length)::Y32 (Y32 (Y32 (Y4 ([])))))) [.box [.d c1,.d c2,.d c3,nI al,.d c5,.d c6]]:=by
 intro j
 induction j with
 |zero=>
  intro i m hi hm;obtain _|m:=m;omega;obtain rfl:i=zs.length:=om;rw[Cv]
  simp-implicitDefEqProofs (maxSteps:=9^7) (disch:=try exact Dz) only[↓DN,↓kRet,UP,simprocAttr,Al,F3,B8,Tryz.f83]
 |succ j ih=>
  intro i m hi hm;obtain _|m:=m;omega;have hk:i<zs.length:=om;have hc:(i:Int)<zs.length:=om;have hi0:(0:Int)<=i:=om;have ih':=ih (i+1) m om om;obtain⟨p0,p1⟩:=hpr (i+1) om
  have e:(zs.take (i+1)).foldl (·*·) 1=(zs.take i).foldl (·*·) 1*zs.getD i 0:=by
   rw[Dt,Ae hk,List.foldl_append,Ab,Ae hk];rfl
  rw[e]at ih' p0 p1;rw[cs1 i]at ih';clear ih e;generalize(zs.take i).foldl (·*·) 1=t at *
  simp-implicitDefEqProofs (maxSteps:=9^7) (disch:=try exact Dz) only[↓DN,↓kRet,UP,simprocAttr,hc,hi0,↓ih',F3,B8,Tryz.f83]
theorem UH(hn:4<=n)(hL:2^60<=L){c1 c2 c3 c5 c6:D}{al:Int}{zs:List Int}{tab:List (List (List Int))}{tt i6:Nat}{gl:Int->Bool}(hzl:zs.length<=1000)(htt:tt<=65536)(hzp:∀z∈zs,0<z/\z<=65536)(htl:tab.length=tt)
  (kl_x:∀(v:Nat),v<tt->∀ {R:Type} {n:Nat} {k:A->Option R},2<=n->uI (aA env L n) 156 [.agg [.d c1,.d c2,.d c3,nI al,.d c5,.d c6],.d (.ivs zs.length (ints (decN zs v))),.d (.ivs (tab.getD v []).length (aN (tab.getD v [])))] k=k (.d (.bool (gl v))))
  {k:KE R}:∀(j v m:Nat) (o:List Int) (len:Nat) (hp:v+j=tt) (hm:j<m) (hlen:len=tt) (ho:o.length=tt),
  aV env (aA env L n) L 0 [] Bz2 (eM 1) (U1 (Z8 (Z1 (U32 (U32 (U32 (U1 ([])))))))) m (Y1 (.ptr 0 0 0::.d (.str [])::.d (.bool false)::.d (.ivs zs.length (ints zs))::nI tt::nI i6::.d (.ivs tab.length (tabD tab))::.sl 1 0 0 len::nI v::Y32 (Y32 (Y32 (Y1 ([])))))) [.box [.d c1,.d c2,.d c3,nI al,.d c5,.d c6],.arr (ints o) 1 0] k
  =k (.exit 2) (Y1 (.ptr 0 0 0::.d (.str [])::.d (.bool false)::.d (.ivs zs.length (ints zs))::nI tt::nI i6::.d (.ivs tab.length (tabD tab))::.sl 1 0 0 len::nI tt::Y32 (Y32 (Y32 (Y1 ([])))))) [.box [.d c1,.d c2,.d c3,nI al,.d c5,.d c6],.arr (ints (o.take v++(List.range' v j).map (d6 gl))) 1 0]:=by
 intro j
 induction j with
 |zero=>
  intro v m o len hp hm hlen ho;obtain _|m:=m;omega;obtain rfl:v=tt:=om;subst hlen
  simp-implicitDefEqProofs (maxSteps:=9^7) (disch:=try exact Dz) only[↓DN,↓kRet,UP,simprocAttr,Al,vF,uF,Tryz.f83];have e1:o.take len=o:=Bx om;simp[e1]
 |succ j ih=>
  intro v m o len hp hm hlen ho;obtain _|m:=m;omega;subst hlen;have hk:v<o.length:=om;have hkt:v<tab.length:=om;have hc:(v:Int)<len:=om;have hv0:(0:Int)<=v:=om;have hdl:=zH zs v;have kc_d:=@OJ L zs v hzp hzl hv0 om hL;have kl_y:=fun {R:Type} {n:Nat} {k:A->Option R} (hn:2<=n)=>kl_x v om (R:=R) (n:=n) (k:=k) hn;have kv_f:=fun {R:Type} {n:Nat} {hq:H} {args:List A} {k:KA R}=>d7 (E:=env) (call:=aA env L n) (h:=hq) (k:=k) (args:=args) zG;rw[Dq,Ag];generalize decN zs v=ss at *
  by_cases hg:gl v=true
  ·have ih':=ih (v+1) m ((o.set v (-1)).set v 0) len om om rfl (by simpa using ho);rw[cs1 v,aIi (by simpa using hk),List.take_set_of_le (Ad v)]at ih';rw[show d6 gl v=0 by unfold d6;rw[if_pos hg]];rw[hg]at kl_y;clear ih kl_x
   simp-implicitDefEqProofs (maxSteps:=9^7) (disch:=try exact Dz) only[↓DN,↓kRet,UP,simprocAttr,TE,hc,hv0,↓kc_d,↓kv_f,↓kl_y,↓aIq,↓ih',vF,uF,Tryz.f83]
  ·have ih':=ih (v+1) m (o.set v (-1)) len om om rfl (by simpa using ho);rw[cs1 v,aIi (by simpa using hk)]at ih';rw[show d6 gl v= -1 by unfold d6;rw[if_neg hg]];rw[Bool.not_eq_true]at hg;rw[hg]at kl_y;clear ih kl_x
   simp-implicitDefEqProofs (maxSteps:=9^7) (disch:=try exact Dz) only[↓DN,↓kRet,UP,simprocAttr,TE,hc,hv0,↓kc_d,↓kv_f,↓kl_y,↓aIq,↓ih',vF,uF,Tryz.f83]
theorem S8(hn:5<=n)(hL:2^60<=L){c1 c2 c3 c5 c6:D}{al d:Int}{zs ls dist at_:List Int}{o:List UInt8}{tab:List (List (List Int))}{aL i6 e:Nat}{i9:Int}(ht:AJ tab aL)(hd:dist.length=aL)(htt:aL<=65536)(hat:at_.length<=65536)(har:∀x∈at_,0<=x/\x<aL)(hkk:∀kk,kk<ls.length->∀i,i<aL->kk<(tab.getD i []).length/\((tab.getD i []).getD kk []).length<=4096)(hd0:0<d)(hd1:d<=4294967296)(hls:ls.length<=6)(he:e<ls.length)(he1:bB tab dist e (d-1) at_ []≠[]){k:KE R}:∀(j kk m:Nat) (hp:kk+j=e) (hm:j<m) (hz:∀f,kk<=f->f<e->bB tab dist f (d-1) at_ []=[]),
  aV env (aA env L n) L 0 [] Bz2 (eM 3) Bz33 m (Y1 (.ptr 0 0 0::.d (.str [])::.d (.bool false)::.d (.ivs zs.length (ints zs))::nI aL::nI i6::.d (.ivs tab.length (tabD tab))::.sl 1 0 0 dist.length::nI i9::.d (.ivs at_.length (ints at_))::.d (.ivs ls.length (ints ls))::.d (.str o)::nI d::nI kk::.d (.ivs (bB tab dist kk (d-1) at_ []).length (ints (bB tab dist kk (d-1) at_ [])))::Y32 (Y32 (Y16 (Y8 (Y2 (Y1 ([])))))))) [.box [.d c1,.d c2,.d c3,nI al,.d c5,.d c6],.ice (ints dist) 1 0] k
  =k (.exit 6) (Y1 (.ptr 0 0 0::.d (.str [])::.d (.bool false)::.d (.ivs zs.length (ints zs))::nI aL::nI i6::.d (.ivs tab.length (tabD tab))::.sl 1 0 0 dist.length::nI i9::.d (.ivs at_.length (ints at_))::.d (.ivs ls.length (ints ls))::.d (.str o)::nI d::nI e::.d (.ivs (bB tab dist e (d-1) at_ []).length (ints (bB tab dist e (d-1) at_ [])))::Y32 (Y32 (Y16 (Y8 (Y2 (Y1 ([])))))))) [.box [.d c1,.d c2,.d c3,nI al,.d c5,.d c6],.ice (ints dist) 1 0]:=by
 intro j
 induction j with
 |zero=>
  intro kk m hp hm hz;obtain _|m:=m;omega;obtain rfl:kk=e:=om;generalize bB tab dist kk (d-1) at_ []=w at *
  have hw:¬((w.length:Int)=0):=by
   have:=Eb.2 he1;omega
  simp-implicitDefEqProofs (maxSteps:=9^7) (disch:=try exact Dz) only[↓DN,↓kRet,UP,simprocAttr,hw,oN,o6,Tryz.f83]
 |succ j ih=>
  intro kk m hp hm hz;obtain _|m:=m;omega;have h0:=hz kk (Ad _) om;have ih':=ih (kk+1) m om om (fun f h1 h2=>hz f om h2);have kc_c:=fun {R:Type} {n:Nat} {k:KA R} (hn:4<=n)=> @wN R env (aA env L n) [.box [.d c1,.d c2,.d c3,nI al,.d c5,.d c6],.ice (ints dist) 1 0] [.ice (ints dist) 1 0] [.ice (ints dist) 1 0] [.box [.d c1,.d c2,.d c3,nI al,.d c5,.d c6],.ice (ints dist) 1 0] 160 [.d (.ivs tab.length (tabD tab)),.sl 1 0 0 dist.length,.d (.ivs at_.length (ints at_)),nI ((kk+1:Nat):Int),nI (d-1)] [.d (.ivs tab.length (tabD tab)),.d (.ivs dist.length (ints dist)),.d (.ivs at_.length (ints at_)),nI ((kk+1:Nat):Int),nI (d-1)] _ k [1] [1] jU rfl kr rfl (by simp[fA,frzA,frz,frz0,aE,mapA,aH,deep,gW,fJ]) rfl (@uH L n hn hL tab dist at_ (d-1) (kk+1) aL ht hd htt hat har (hkk (kk+1) om)) rfl sm rfl;rw[cs1 kk]at ih' kc_c;rw[h0];clear ih hkk har ht hz;generalize bB tab dist (kk+1) (d-1) at_ []=w at *
  simp-implicitDefEqProofs (maxSteps:=9^7) (disch:=try exact Dz) only[↓DN,↓kRet,UP,simprocAttr,↓kc_c,↓ih',oN,o6,Tryz.f83]
theorem R0(hn:5<=n)(hL:2^60<=L){c1 c2 c3 c5 c6:D}{al d:Int}{zs ls dist at_:List Int}{o:List UInt8}{tab:List (List (List Int))}{aL i6 e:Nat}{i9:Int}(ht:AJ tab aL)(hd:dist.length=aL)(htt:aL<=65536)(hat:at_.length<=65536)(har:∀x∈at_,0<=x/\x<aL)(hkk:∀kk,kk<ls.length->∀i,i<aL->kk<(tab.getD i []).length/\((tab.getD i []).getD kk []).length<=4096)(hd0:0<d)(hd1:d<=4294967296)(hls:ls.length<=6)(he:e<ls.length)(he1:bB tab dist e (d-1) at_ []≠[]){k:KE R}:∀(j kk m:Nat) (hp:kk+j=e) (hm:j<m) (hz:∀f,kk<=f->f<e->bB tab dist f (d-1) at_ []=[]),
  aV env (aA env L n) L 0 [] Bz2 (eM 3) Bz33 m (Y1 (.ptr 0 0 0::.d (.str [])::.d (.bool false)::.d (.ivs zs.length (ints zs))::nI aL::nI i6::.d (.ivs tab.length (tabD tab))::.sl 1 0 0 dist.length::nI i9::.sl 2 0 0 at_.length::.d (.ivs ls.length (ints ls))::.d (.str o)::nI d::nI kk::.d (.ivs (bB tab dist kk (d-1) at_ []).length (ints (bB tab dist kk (d-1) at_ [])))::Y32 (Y32 (Y16 (Y8 (Y2 (Y1 ([])))))))) [.box [.d c1,.d c2,.d c3,nI al,.d c5,.d c6],.ice (ints dist) 1 0,.ice (ints at_) 1 0] k
  =k (.exit 6) (Y1 (.ptr 0 0 0::.d (.str [])::.d (.bool false)::.d (.ivs zs.length (ints zs))::nI aL::nI i6::.d (.ivs tab.length (tabD tab))::.sl 1 0 0 dist.length::nI i9::.sl 2 0 0 at_.length::.d (.ivs ls.length (ints ls))::.d (.str o)::nI d::nI e::.d (.ivs (bB tab dist e (d-1) at_ []).length (ints (bB tab dist e (d-1) at_ [])))::Y32 (Y32 (Y16 (Y8 (Y2 (Y1 ([])))))))) [.box [.d c1,.d c2,.d c3,nI al,.d c5,.d c6],.ice (ints dist) 1 0,.ice (ints at_) 1 0]:=by
 intro j
 induction j with
 |zero=>
  intro kk m hp hm hz;obtain _|m:=m;omega;obtain rfl:kk=e:=om;generalize bB tab dist kk (d-1) at_ []=w at *
  have hw:¬((w.length:Int)=0):=by
   have:=Eb.2 he1;omega
  simp-implicitDefEqProofs (maxSteps:=9^7) (disch:=try exact Dz) only[↓DN,↓kRet,UP,simprocAttr,hw,oN,o6,Tryz.f83]
 |succ j ih=>
  intro kk m hp hm hz;obtain _|m:=m;omega;have h0:=hz kk (Ad _) om;have ih':=ih (kk+1) m om om (fun f h1 h2=>hz f om h2);have kc_c:=fun {R:Type} {n:Nat} {k:KA R} (hn:4<=n)=> @wN R env (aA env L n) [.box [.d c1,.d c2,.d c3,nI al,.d c5,.d c6],.ice (ints dist) 1 0,.ice (ints at_) 1 0] [.ice (ints dist) 1 0,.ice (ints at_) 1 0] [.ice (ints dist) 1 0,.ice (ints at_) 1 0] [.box [.d c1,.d c2,.d c3,nI al,.d c5,.d c6],.ice (ints dist) 1 0,.ice (ints at_) 1 0] 160 [.d (.ivs tab.length (tabD tab)),.sl 1 0 0 dist.length,(.sl 2 0 0 at_.length),nI ((kk+1:Nat):Int),nI (d-1)] [.d (.ivs tab.length (tabD tab)),.d (.ivs dist.length (ints dist)),.d (.ivs at_.length (ints at_)),nI ((kk+1:Nat):Int),nI (d-1)] _ k [1,2] [1,2] jU rfl kr rfl (by simp[fA,frzA,frz,frz0,aE,mapA,aH,deep,gW,fJ]) rfl (@uH L n hn hL tab dist at_ (d-1) (kk+1) aL ht hd htt hat har (hkk (kk+1) om)) rfl sm rfl;rw[cs1 kk]at ih' kc_c;rw[h0];clear ih hkk har ht hz;generalize bB tab dist (kk+1) (d-1) at_ []=w at *
  simp-implicitDefEqProofs (maxSteps:=9^7) (disch:=try exact Dz) only[↓DN,↓kRet,UP,simprocAttr,↓kc_c,↓ih',oN,o6,Tryz.f83]
theorem QH(hn:6<=n)(hL:2^60<=L){c1 c2 c3 c5 c6:D}{al:Int}{zs ls dist:List Int}{tab:List (List (List Int))}{aL i6:Nat}{i9:Int}(ht:AJ tab aL)(hd:dist.length=aL)(htt:aL<=65536)(hkk:∀kk,kk<ls.length->∀i,i<aL->kk<(tab.getD i []).length/\((tab.getD i []).getD kk []).length<=4096)(hls:ls.length<=6)(hlr:∀c∈ls,0<=c/\c<=5){Q:Nat->List Int->Prop}
  (hQ:∀d at_,Q (d+1) at_->at_.length<=65536/\(∀x∈at_,0<=x/\x<aL)/\(∃e,e<ls.length/\bB tab dist e d at_ []≠[])/\∀e,e<ls.length->bB tab dist e d at_ []≠[]->Q d (bB tab dist e d at_ [])) {k:KE R}:∀(j:Nat) (d:Int) (m:Nat) (at_:List Int) (o:List UInt8) (hj:(j:Int)=d) (hm:j<m) (hd1:d<=16777300) (hat:Q j at_) (ho:o.length+j<=100000000),
  aV env (aA env L n) L 0 [] Bz2 (eM 2) Bz14 m (Y1 (.ptr 0 0 0::.d (.str [])::.d (.bool false)::.d (.ivs zs.length (ints zs))::nI aL::nI i6::.d (.ivs tab.length (tabD tab))::.sl 1 0 0 dist.length::nI i9::.d (.ivs at_.length (ints at_))::.d (.ivs ls.length (ints ls))::.d (.str o)::nI d::Y32 (Y32 (Y16 (Y8 (Y4 (Y1 ([])))))))) [.box [.d c1,.d c2,.d c3,nI al,.d c5,.d c6],.ice (ints dist) 1 0] k
  =k (.exit 4) (Y1 (.ptr 0 0 0::.d (.str [])::.d (.bool false)::.d (.ivs zs.length (ints zs))::nI aL::nI i6::.d (.ivs tab.length (tabD tab))::.sl 1 0 0 dist.length::nI i9::.d (.ivs (gEnd tab dist ls j at_).length (ints (gEnd tab dist ls j at_)))::.d (.ivs ls.length (ints ls))::.d (.str ((o++txt (m7 tab dist ls j at_))))::nI 0::Y32 (Y32 (Y16 (Y8 (Y4 (Y1 ([])))))))) [.box [.d c1,.d c2,.d c3,nI al,.d c5,.d c6],.ice (ints dist) 1 0]:=by
 intro j
 induction j with
 |zero=>
  intro d m at_ o hj hm hd1 hat ho;obtain _|m:=m;omega;obtain rfl:d=0:=om;simp only[gEnd,m7,txt,Ak,Ai]
  simp-implicitDefEqProofs (maxSteps:=9^7) (disch:=try exact Dz) only[↓DN,↓kRet,UP,simprocAttr,Al,nT,oY,Tryz.f83]
 |succ j ih=>
  intro d m at_ o hj hm hd1 hat ho;obtain _|m:=m;omega;obtain⟨q1,q2,q3,q4⟩:=hQ j at_ hat;obtain⟨e,e1,e2,e3,e4⟩:=ZF q3;have hd0:0<d:=om;have hat2:=q4 e e1 e3;have hj:(j:Int)=d-1:=om;simp only[gEnd,m7,e2];rw[hj]at hat2|-;have kc_c:=fun {R:Type} {n:Nat} {k:KA R} (hn:4<=n)=> @wN R env (aA env L n) [.box [.d c1,.d c2,.d c3,nI al,.d c5,.d c6],.ice (ints dist) 1 0] [.ice (ints dist) 1 0] [.ice (ints dist) 1 0] [.box [.d c1,.d c2,.d c3,nI al,.d c5,.d c6],.ice (ints dist) 1 0] 160 [.d (.ivs tab.length (tabD tab)),.sl 1 0 0 dist.length,.d (.ivs at_.length (ints at_)),nI ((0:Nat):Int),nI (d-1)] [.d (.ivs tab.length (tabD tab)),.d (.ivs dist.length (ints dist)),.d (.ivs at_.length (ints at_)),nI ((0:Nat):Int),nI (d-1)] _ k [1] [1] jU rfl kr rfl (by simp[fA,frzA,frz,frz0,aE,mapA,aH,deep,gW,fJ]) rfl (@uH L n hn hL tab dist at_ (d-1) 0 aL ht hd htt q1 q2 (hkk 0 om)) rfl sm rfl;have loop_c:=fun {R:Type} {n:Nat} (hn:5<=n) {k:KE R}=> @S8 R L n hn hL c1 c2 c3 c5 c6 al d zs ls dist at_ o tab aL i6 e i9 ht hd htt q1 q2 hkk om om hls e1 (by rw[<-hj];exact e3) k e 0 L om om (fun f _ h=>by rw[<-hj];exact e4 f h);simp only[Av]at kc_c loop_c;obtain⟨l0,l5⟩:=hlr _ (fV e1);have hc:(e:Int)<ls.length:=om;have he0:(0:Int)<=e:=om;have ih':=ih (d-1) m (bB tab dist e (d-1) at_ []) (o++[sB (ls.getD e 0)]) hj om om hat2 (by simp;omega);simp only[txt,Ag,Ao,At,Am]at ih'|-;clear ih hkk ht hQ hat hat2 q2 q3 q4 e2 e3 e4 hlr;generalize bB tab dist e (d-1) at_ []=w at *;generalize bB tab dist 0 (d-1) at_ []=w0 at *
  simp-implicitDefEqProofs (maxSteps:=9^7) (disch:=try exact Dz) only[↓DN,↓kAsg,↓kRet,UP,simprocAttr,↓VV,hc,he0,hd0,↓kc_c,↓loop_c,↓ih',nT,oY,Tryz.f83]
theorem TA{R:Type}{L n m:Nat}{c1 c2 c3 c5 c6:D}{al:Int}{zs ls dist:List Int}{tab:List (List (List Int))}{aL i6:Nat}{i9:Int}{d:Int}{o:List UInt8}{at_:List Int}(hd:¬0<d){k:KE R}:
  aV env (aA env L n) L 0 [] Bz2 (eM 2) Bz14 (m+1) (Y1 (.ptr 0 0 0::.d (.str [])::.d (.bool false)::.d (.ivs zs.length (ints zs))::nI aL::nI i6::.d (.ivs tab.length (tabD tab))::.sl 1 0 0 dist.length::nI i9::.sl 2 0 0 at_.length::.d (.ivs ls.length (ints ls))::.d (.str o)::nI d::Y32 (Y32 (Y16 (Y8 (Y4 (Y1 ([])))))))) [.box [.d c1,.d c2,.d c3,nI al,.d c5,.d c6],.arr (ints dist) 1 0,.arr (ints at_) 1 0] k
  =k (.exit 4) (Y1 (.ptr 0 0 0::.d (.str [])::.d (.bool false)::.d (.ivs zs.length (ints zs))::nI aL::nI i6::.d (.ivs tab.length (tabD tab))::.sl 1 0 0 dist.length::nI i9::.sl 2 0 0 at_.length::.d (.ivs ls.length (ints ls))::.d (.str o)::nI d::Y32 (Y32 (Y16 (Y8 (Y4 (Y1 ([])))))))) [.box [.d c1,.d c2,.d c3,nI al,.d c5,.d c6],.arr (ints dist) 1 0,.arr (ints at_) 1 0]:=by
 simp-implicitDefEqProofs (maxSteps:=9^7) (disch:=try exact Dz) only[↓DN,↓kRet,UP,simprocAttr,hd,nT,oY,Tryz.f83]
theorem P8(hn:6<=n)(hL:2^60<=L){c1 c2 c3 c5 c6:D}{al:Int}{zs ls dist:List Int}{tab:List (List (List Int))}{aL i6:Nat}{i9:Int}(ht:AJ tab aL)(hd:dist.length=aL)(htt:aL<=65536)(hkk:∀kk,kk<ls.length->∀i,i<aL->kk<(tab.getD i []).length/\((tab.getD i []).getD kk []).length<=4096)(hls:ls.length<=6)(hlr:∀c∈ls,0<=c/\c<=5){Q:Nat->List Int->Prop}
  (hQ:∀d at_,Q (d+1) at_->at_.length<=65536/\(∀x∈at_,0<=x/\x<aL)/\(∃e,e<ls.length/\bB tab dist e d at_ []≠[])/\∀e,e<ls.length->bB tab dist e d at_ []≠[]->Q d (bB tab dist e d at_ [])) {k:KE R} (j:Nat) (d:Int) (m:Nat) (at_:List Int) (o:List UInt8) (hj:((j+1:Nat):Int)=d) (hm:j+1<m) (hd1:d<=16777300) (hat:Q (j+1) at_) (ho:o.length+(j+1)<=100000000):
  aV env (aA env L n) L 0 [] Bz2 (eM 2) Bz14 m (Y1 (.ptr 0 0 0::.d (.str [])::.d (.bool false)::.d (.ivs zs.length (ints zs))::nI aL::nI i6::.d (.ivs tab.length (tabD tab))::.sl 1 0 0 dist.length::nI i9::.sl 2 0 0 at_.length::.d (.ivs ls.length (ints ls))::.d (.str o)::nI d::Y32 (Y32 (Y16 (Y8 (Y4 (Y1 ([])))))))) [.box [.d c1,.d c2,.d c3,nI al,.d c5,.d c6],.arr (ints dist) 1 0,.arr (ints at_) 1 0] k
  =k (.exit 4) (Y1 (.ptr 0 0 0::.d (.str [])::.d (.bool false)::.d (.ivs zs.length (ints zs))::nI aL::nI i6::.d (.ivs tab.length (tabD tab))::.sl 1 0 0 dist.length::nI i9::.d (.ivs (gEnd tab dist ls (j+1) at_).length (ints (gEnd tab dist ls (j+1) at_)))::.d (.ivs ls.length (ints ls))::.d (.str ((o++txt (m7 tab dist ls (j+1) at_))))::nI 0::Y32 (Y32 (Y16 (Y8 (Y4 (Y1 ([])))))))) [.box [.d c1,.d c2,.d c3,nI al,.d c5,.d c6],.ice (ints dist) 1 0]:=by
  obtain _|m:=m;omega;obtain⟨q1,q2,q3,q4⟩:=hQ j at_ hat;obtain⟨e,e1,e2,e3,e4⟩:=ZF q3;have hd0:0<d:=om;have hat2:=q4 e e1 e3;have hj:(j:Int)=d-1:=om;simp only[gEnd,m7,e2];rw[hj]at hat2|-;have kc_c:=fun {R:Type} {n:Nat} {k:KA R} (hn:4<=n)=> @wN R env (aA env L n) [.box [.d c1,.d c2,.d c3,nI al,.d c5,.d c6],.arr (ints dist) 1 0,.arr (ints at_) 1 0] [.arr (ints dist) 1 0,.arr (ints at_) 1 0] [.ice (ints dist) 1 0,.ice (ints at_) 1 0] [.box [.d c1,.d c2,.d c3,nI al,.d c5,.d c6],.ice (ints dist) 1 0,.ice (ints at_) 1 0] 160 [.d (.ivs tab.length (tabD tab)),.sl 1 0 0 dist.length,(.sl 2 0 0 at_.length),nI ((0:Nat):Int),nI (d-1)] [.d (.ivs tab.length (tabD tab)),.d (.ivs dist.length (ints dist)),.d (.ivs at_.length (ints at_)),nI ((0:Nat):Int),nI (d-1)] _ k [1,2] [1,2] jU rfl kr rfl (by simp[fA,frzA,frz,frz0,aE,mapA,aH,deep,gW,fJ]) rfl (@uH L n hn hL tab dist at_ (d-1) 0 aL ht hd htt q1 q2 (hkk 0 om)) rfl sm rfl;have loop_c:=fun {R:Type} {n:Nat} (hn:5<=n) {k:KE R}=> @R0 R L n hn hL c1 c2 c3 c5 c6 al d zs ls dist at_ o tab aL i6 e i9 ht hd htt q1 q2 hkk om om hls e1 (by rw[<-hj];exact e3) k e 0 L om om (fun f _ h=>by rw[<-hj];exact e4 f h);simp only[Av]at kc_c loop_c;obtain⟨l0,l5⟩:=hlr _ (fV e1);have hc:(e:Int)<ls.length:=om;have he0:(0:Int)<=e:=om;have ih':=fun {R:Type} {n:Nat} (hn:6<=n) {k:KE R}=> @QH R L n hn hL c1 c2 c3 c5 c6 al zs ls dist tab aL i6 i9 ht hd htt hkk hls hlr Q hQ k j (d-1) m (bB tab dist e (d-1) at_ []) (o++[sB (ls.getD e 0)]) hj om om hat2 (by simp;omega)
  simp only[txt,Ag,Ao,At,Am]at ih'|-;clear hkk ht hQ hat hat2 q2 q3 q4 e2 e3 e4 hlr;generalize bB tab dist e (d-1) at_ []=w at *;generalize bB tab dist 0 (d-1) at_ []=w0 at *
  simp-implicitDefEqProofs (maxSteps:=9^7) (disch:=try exact Dz) only[↓DN,↓kAsg,↓kRet,UP,simprocAttr,↓VV,hc,he0,hd0,↓kc_c,↓loop_c,↓ih',nT,oY,Tryz.f83]
theorem aEf(hn:11<=n)(hL:2^60<=L){n1 n2:Nat}{d1 d2:List D}{kd go:Int}{al s:Int}{start zs:List Int}{nx:Int->Int->List Int}{gl:Int->Bool}{tt:Nat}(hzl:zs.length<=1000)(hsl:start.length=zs.length)(hpr:∀i,i<=zs.length->0<=(zs.take i).foldl (·*·) 1/\(zs.take i).foldl (·*·) 1<=65536)(hzt:zs.foldl (·*·) (1:Int)=(tt:Int))(hzp:∀z∈zs,0<z/\z<=65536)(hen:MH zs start 0)(hes:encN zs start 0=s)(hs0:0<=s)(hs1:s<tt)
  (he_z:∀ {n:Nat},2<=n->aA env L n 154 [.agg [.d (.ivs n1 d1),.d (.ivs n2 d2),.d (.ivs start.length (ints start)),nI al,nI kd,nI go]] []=some (.d (.ivs zs.length (ints zs)),[]))
  (kc_x:∀(v:Nat) (l:Int),v<tt->l∈aG al->∀ {R:Type} {n:Nat} {hq:H} {k:KA R},7<=n->aU env (aA env L n) hq 212 [.agg [.d (.ivs n1 d1),.d (.ivs n2 d2),.d (.ivs start.length (ints start)),nI al,nI kd,nI go],.d (.ivs zs.length (ints zs)),.d (.ivs zs.length (ints (decN zs v))),nI l] k=k (.d (.ivs (nx v l).length (ints (nx v l)))) hq)
  (kl_x:∀(v:Nat),v<tt->∀ {R:Type} {n:Nat} {k:A->Option R},2<=n->uI (aA env L n) 156 [.agg [.d (.ivs n1 d1),.d (.ivs n2 d2),.d (.ivs start.length (ints start)),nI al,nI kd,nI go],.d (.ivs zs.length (ints (decN zs v))),.d (.ivs ((movT nx (aG al) tt).getD v []).length (aN ((movT nx (aG al) tt).getD v [])))] k=k (.d (.bool (gl v))))
  (hw:∀v c:Int,0<=v->v<tt->c∈aG al->(nx v c).length<=4096/\∀m∈nx v c,0<=m/\m<tt):
  aA env L n 83 [.agg [.d (.ivs n1 d1),.d (.ivs n2 d2),.d (.ivs start.length (ints start)),nI al,nI kd,nI go]] []=some (.tup [.d (.str (txt (YU nx gl (aG al) tt s).1)),.d (.bool (YU nx gl (aG al) tt s).2)],[]):=by
 have htt:tt<=65536:=by have:=(hpr zs.length (Ad _)).2;rw[Cv,hzt]at this;omega
 have hrng:∀v c:Int,0<=v->v<tt->c∈aG al->∀m∈nx v c,0<=m/\m<tt:=fun v c h1 h2 h3=>(hw v c h1 h2 h3).2;have hT:=X0 hrng;have hF:=aNF (gl:=gl) hT;have hq:=aOW hT hF htt;have hls:=dF al;have hTl:(movT nx (aG al) tt).length=tt:=by simp[movT]
 have hTin:AJ (movT nx (aG al) tt) tt:=by
  refine⟨hTl,fun i hi=> ?_⟩;rw[hT.row i hi];refine⟨by simp;omega,fun r hr=> ?_⟩;obtain⟨c,hc,rfl⟩:=Bv.1 hr;have:=hw i c om om hc;exact⟨by omega,this.2⟩
 have hkk:∀kk,kk<(aG al).length->∀i,i<tt->kk<((movT nx (aG al) tt).getD i []).length/\(((movT nx (aG al) tt).getD i []).getD kk []).length<=4096:=by
  intro kk hk i hi;rw[hT.row i hi];refine⟨by simpa using hk,?_⟩;rw[Ab,Bc,Ae hk];exact(hw i _ om om (Bd hk)).1
 have kc_z:=fun {R:Type} {n:Nat} (hn:2<=n) {hq:H} {k:KA R}=>cW (E:=env) (call:=aA env L n) (h:=hq) (k:=k) rfl (he_z hn) rfl (.inr rfl);have loop_a:=fun {R:Type} {n:Nat} (hn:1<=n) {k:KE R}=> @UJ R L n hn (.ivs n1 d1) (.ivs n2 d2) (.ivs start.length (ints start)) (.int .i64 kd) (.int .i64 go) al zs hzl hpr k zs.length 0 L om om;have kc_m:=fun {R:Type} {n:Nat} (hn:9<=n) {hq:H} {k:KA R}=>cW (E:=env) (call:=aA env L n) (h:=hq) (k:=k) rfl (@aEU L n hn hL n1 n2 start.length d1 d2 (ints start) kd go zs al nx tt hzl htt hzp kc_x) rfl (.inr rfl);have loop_b:=fun {R:Type} {n:Nat} (hn:4<=n) {k:KE R}=> @UH R L n hn hL (.ivs n1 d1) (.ivs n2 d2) (.ivs start.length (ints start)) (.int .i64 kd) (.int .i64 go) al zs (movT nx (aG al) tt) tt zs.length gl hzl htt hzp hTl kl_x k tt 0 L (List.replicate tt 0) tt om om rfl sm;have hd0:((List.range tt).map (d6 gl)).length=tt:=sm;have hd1:(dL (movT nx (aG al) tt) (tt+1) 1 ((List.range tt).map (d6 gl))).length=tt:=hF.1
 have kc_d:∀ {R:Type} {n:Nat} (hn:4<=n) {k:KA R},aU env (aA env L n) [.box [.d (.ivs n1 d1),.d (.ivs n2 d2),.d (.ivs start.length (ints start)),nI al,nI kd,nI go],.arr (ints ((List.range tt).map (d6 gl))) 1 0] 158 [.d (.ivs (movT nx (aG al) tt).length (tabD (movT nx (aG al) tt))),.sl 1 0 0 ((List.range tt).map (d6 gl)).length] k=k (.tup []) [.box [.d (.ivs n1 d1),.d (.ivs n2 d2),.d (.ivs start.length (ints start)),nI al,nI kd,nI go],.arr (ints (dL (movT nx (aG al) tt) (tt+1) 1 ((List.range tt).map (d6 gl)))) 1 0]:=fun {R n} hn {k}=>aCi (id:=1) rfl rfl B6 rfl (aHX hn hL hTin htt _ hd0);have kc_e:=fun {R:Type} {n:Nat} (hn:2<=n) {hq:H} {k:KA R}=> @aD6 R L n hq k hn zs start hzl hsl hen hL
 have hQ0:0<=(dL (movT nx (aG al) tt) (tt+1) 1 ((List.range tt).map (d6 gl))).getD s.toNat 0->Qs nx (aG al) gl tt ((dL (movT nx (aG al) tt) (tt+1) 1 ((List.range tt).map (d6 gl))).getD s.toNat 0).toNat [s]:=by
  intro h;refine⟨fun v hv=> ?_,by simp,by simp;omega⟩;simp at hv;subst hv;exact⟨⟨hs0,hs1⟩,(FL hF hs0 hs1).1 om⟩
 have hdb:(dL (movT nx (aG al) tt) (tt+1) 1 ((List.range tt).map (d6 gl))).getD s.toNat 0<=16777300:=by
  have hk:s.toNat<(dL (movT nx (aG al) tt) (tt+1) 1 ((List.range tt).map (d6 gl))).length:=om;refine aAr (B:=16777300) _ _ _ om (fun x hx=> ?_) _ (fV hk);obtain⟨v,_,rfl⟩:=Bv.1 hx;unfold d6
  split<;>omega
 simp only[Av,List.take_zero,List.foldl_nil,Am,hzt,<-List.range_eq_range']at loop_a loop_b;rw[hes]at kc_e;have em:(List.range tt).map (fun(x:Nat)=>(aG al).map (nx x))=movT nx (aG al) tt:=rfl;rw[em]at kc_m;rw[hTl]at kc_d loop_b;rw[hd0]at kc_d;unfold YU Y7;have loop_2:=fun {R:Type} {n:Nat} (hn:6<=n) {k:KE R} (j:Nat) (hj) (hm) (h1) (h2) (h3)=> @P8 R L n hn hL (.ivs n1 d1) (.ivs n2 d2) (.ivs start.length (ints start)) (.int .i64 kd) (.int .i64 go) al zs (aG al) _ _ tt zs.length tt hTin hd1 htt hkk hls (fun c hc=>kA c hc) _ hq k j ((dL (movT nx (aG al) tt) (tt+1) 1 ((List.range tt).map (d6 gl))).getD s.toNat 0) L [s] [] hj hm h1 h2 h3;rw[hTl,hd1]at loop_2;clear hkk hTin kl_x kc_x he_z hw hrng
 have hgt0:0<(dL (movT nx (aG al) tt) (tt+1) 1 ((List.range tt).map (d6 gl))).getD s.toNat 0->Qs nx (aG al) gl tt (((dL (movT nx (aG al) tt) (tt+1) 1 ((List.range tt).map (d6 gl))).getD s.toNat 0).toNat-1+1) [s]:=by
  intro h;have h2:=hQ0 om;rw[show((dL (movT nx (aG al) tt) (tt+1) 1 ((List.range tt).map (d6 gl))).getD s.toNat 0).toNat-1+1=((dL (movT nx (aG al) tt) (tt+1) 1 ((List.range tt).map (d6 gl))).getD s.toNat 0).toNat by omega];exact h2
 have loop_2:=fun {R:Type} {n:Nat} (hn:6<=n) {k:KE R} (h:0<(dL (movT nx (aG al) tt) (tt+1) 1 ((List.range tt).map (d6 gl))).getD s.toNat 0)=>loop_2 (R:=R) (n:=n) hn (k:=k) (((dL (movT nx (aG al) tt) (tt+1) 1 ((List.range tt).map (d6 gl))).getD s.toNat 0).toNat-1) om om hdb (hgt0 h) (by simp only[Aa];omega);clear hT hF hq hQ0 hgt0;generalize dL (movT nx (aG al) tt) (tt+1) 1 ((List.range tt).map (d6 gl))=dist at *;generalize movT nx (aG al) tt=tab at *;generalize(List.range tt).map (d6 gl)=dz at *;have hrep:(List.replicate tt (0:Int)).length=tt:=sm;have hsn:s.toNat<dist.length:=om;have hs2:s<(dist.length:Int):=om;have hs3:s<(tt:Int):=om;have htt0:(0:Int)<=tt:=om;have esn:ints [s]=[.int .i64 s]:=rfl;have e1:[s].length=1:=rfl;rw[esn,e1]at loop_2;have loop_z:=fun {R:Type} {n m:Nat} {k:KE R} (h:¬0<dist.getD s.toNat 0)=> @TA R L n m (.ivs n1 d1) (.ivs n2 d2) (.ivs start.length (ints start)) (.int .i64 kd) (.int .i64 go) al zs (aG al) dist tab tt zs.length tt (dist.getD s.toNat 0) [] [s] h k;rw[hTl,hd1,esn,e1]at loop_z;generalize hdd:dist.getD s.toNat 0=d at *;obtain _|L:=L;omega
 rcases Int.lt_trichotomy d 0 with hlt|heq|hgt
 ·have loop_z:=fun {R:Type} {n m:Nat} {k:KE R}=>loop_z (R:=R) (n:=n) (m:=m) (k:=k) om;have hne:¬d=0:=om;rw[if_pos hlt];clear loop_2;obtain _|n:=n;omega
  simp-implicitDefEqProofs (maxSteps:=9^7) (disch:=try exact Dz) only[↓DN,↓kAsg,↓kRet,UP,simprocAttr,↓bX,↓kc_z,↓loop_a,↓kc_m,↓AN,↓loop_b,↓kc_d,↓kc_e,↓loop_z,hdd,hne,hs0,hs3,F7,AK,Tryz.f83]<;>rfl
 ·subst heq;have loop_z:=fun {R:Type} {n m:Nat} {k:KE R}=>loop_z (R:=R) (n:=n) (m:=m) (k:=k) om;rw[if_neg om];clear loop_2;obtain _|n:=n;omega
  simp-implicitDefEqProofs (maxSteps:=9^7) (disch:=try exact Dz) only[↓DN,↓kAsg,↓kRet,UP,simprocAttr,↓bX,↓kc_z,↓loop_a,↓kc_m,↓AN,↓loop_b,↓kc_d,↓kc_e,↓loop_z,hdd,hs0,hs3,F7,AK,Tryz.f83]<;>rfl
 ·have loop_y:=fun {R:Type} {n:Nat} (hn:6<=n) {k:KE R}=>loop_2 (R:=R) (n:=n) hn (k:=k) hgt;rw[if_neg om];simp only[Am]at loop_y;have ed:d.toNat-1+1=d.toNat:=om;rw[ed]at loop_y;clear loop_2 loop_z;generalize gEnd tab dist (aG al) d.toNat [s]=ge at *;generalize m7 tab dist (aG al) d.toNat [s]=gr at *;obtain _|n:=n;omega
  simp-implicitDefEqProofs (maxSteps:=9^7) (disch:=try exact Dz) only[↓DN,↓kAsg,↓kRet,UP,simprocAttr,↓bX,↓kc_z,↓loop_a,↓kc_m,↓AN,↓loop_b,↓kc_d,↓kc_e,↓loop_y,hdd,hs0,hs3,F7,AK,Tryz.f83]
end
end Ev
end Go.Proofs.YtahbdkmimmnadaaGreatDoor
