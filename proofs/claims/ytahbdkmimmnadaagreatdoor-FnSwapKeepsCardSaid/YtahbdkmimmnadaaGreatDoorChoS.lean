/-
  The least automaton: plain laws.
-/
import Derived.Test.YtahbdkmimmnadaaGreatDoorClassL
import Derived.Test.YtahbdkmimmnadaaGreatDoorLeast
import Derived.Test.YtahbdkmimmnadaaGreatDoorPartsN
import Derived.Test.YtahbdkmimmnadaaGreatDoorPathZ
import Derived.Test.YtahbdkmimmnadaaGreatDoorNetY
set_option linter.unusedSimpArgs false
set_option linter.unusedVariables false
set_option linter.unusedSectionVars false
set_option maxRecDepth 8000
set_option maxHeartbeats 4000000
namespace Go.Proofs.YtahbdkmimmnadaaGreatDoor
namespace Ev
def quoG(a:Aut)(cl:List Int):Nat->Nat->List (List Int)->List Bool->List (List Int)×List Bool
 |0,_,d,b=>(d,b)
 |j+1,q,d,b=>if cl.getD q 0<d.length then quoG a cl j (q+1) d b else quoG a cl j (q+1) (d++[(a.nx.getD q []).map (clA cl)]) (b++[acQ a q])
def quoA(a:Aut):Aut:=⟨a.al,(quoG a (DT a) a.nx.length 0 [] []).1,(quoG a (DT a) a.nx.length 0 [] []).2⟩
structure Quo(a:Aut)(l:List (List Int))(cl:List Int)(q:Nat)(d:List (List Int))(b:List Bool):Prop where
 len:d.length=(aCU (l.take q)).length
 blen:b.length=d.length
 low:∀p,p<q->0<=cl.getD p 0/\cl.getD p 0<d.length
 row:∀p,p<q->d.getD (cl.getD p 0).toNat []=(a.nx.getD p []).map (clA cl)
 acc:∀p,p<q->b.getD (cl.getD p 0).toNat false=acQ a p
 mem:∀r∈d,∃p,p<q/\r=(a.nx.getD p []).map (clA cl)
structure QuoOK(a:Aut):Prop where
 ok:AOK (quoA a)
 zero:(DT a).getD 0 0=0
 low:∀q:Nat,q<a.nx.length->0<=(DT a).getD q 0/\(DT a).getD q 0<(quoA a).nx.length
 go:∀q:Nat,q<a.nx.length->∀l∈aC a.al,goS (quoA a) ((DT a).getD q 0) l=clA (DT a) (goS a q l)
 acc:∀q:Nat,q<a.nx.length->acQ (quoA a) ((DT a).getD q 0)=acQ a q
section
def swA(a:Aut)(x y:Int):Aut:=⟨bO a.al x y,f7 a.al a.nx x y (aC (bO a.al x y)) 0 a.nx.length,a.ac⟩
def swW(x y:Int)(w:List Int):List Int:=w.map fun l=>cH l x y
section
variable{a:Aut}{x y:Int}
theorem aHA(h:AOK a)(hx:aT x=true)(hy:aT y=true):AOK (swA a x y):=aDX h hx hy
theorem aKv:(swA a x y).nx.length=a.nx.length:=sR
theorem aJd{al l:Int}(h:l∈aC al):aT l=true:=by
 obtain⟨⟨h0,h1⟩,_⟩:=kL.1 h;exact mO.2 ⟨h0,h1⟩
theorem aNz(w:List Int):swW x y (swW x y w)=w:=by
 unfold swW;rw[List.map_map]
 have:((fun l=>cH l x y)∘fun l=>cH l x y)=id:=by
  funext l;exact ML
 rw[this,List.map_id]
end
end
section
def swSy(x y:Int)(s:Sys):Sys:=⟨bO s.al x y,s.st,kH (s.es.map (gP x y))⟩
theorem aO8:∀(a b:Fin 64) (m:Fin 6),bG (iOr .i64 (a.val:Int) (b.val:Int)) (m.val:Int)=(bG (a.val:Int) (m.val:Int)||bG (b.val:Int) (m.val:Int)):=by decide+kernel
theorem aQ1{a b m:Int}(ha:bH a=true)(hb:bH b=true)(hm:aT m=true):bG (iOr .i64 a b) m=(bG a m||bG b m):=by
 unfold bH at ha hb;simp only[decide_eq_true_eq]at ha hb;have hm:=cU.1 hm;have:=aO8 ⟨a.toNat,by omega⟩ ⟨b.toNat,by omega⟩ ⟨m.toNat,by omega⟩
 simpa [Cn ha.1,Cn hb.1,Cn hm.1]using this
theorem UE{m:Int}(hm:aT m=true):∀ {P:List Sys} {z:Int},bH z=true->(∀s∈P,bK s=true)->bG (P.foldl (fun z s=>iOr .i64 z s.al) z) m=(bG z m||P.any fun s=>bG s.al m)
 | [],z,_,_=>by simp
 |s::P,z,hz,hs=>by
  have ha:=(dK.1 (hs s Bg)).1;rw[Co,UE hm (aOg hz ha) fun t ht=>hs t (Bc _ ht),aQ1 hz ha hm,List.any_cons,Bool.or_assoc]
section
variable{x y:Int}(hx:aT x=true)(hy:aT y=true)
include hx hy
theorem aRX{s:Sys}(h:bK s=true):bK (swSy x y s)=true:=aMb (al:=s.al) (st:=s.st) (l:=s.es) h hx hy
theorem aPf{s:Sys}(h:bK s=true){l q v:Int}(hl:aT l=true):v∈choS (swSy x y s) l q↔v∈choS s (cH l x y) q:=by
 have ha:=(dK.1 h).1;unfold choS;rw[show(swSy x y s).al=bO s.al x y from rfl,pK ha hx hy hl]
 by_cases hb:bG s.al (cH l x y)=true
 ·rw[if_pos hb,if_pos hb];unfold eV;simp only[Bf,Cz,Aj,decide_eq_true_eq]
  constructor
  ·rintro⟨e,⟨he,h1,h2⟩,h3⟩;obtain⟨e0,he0,rfl⟩:=Bf.1 ((yK _).mem_iff.1 he);refine⟨e0,⟨he0,h1,?_⟩,h3⟩;have h2:cH e0.lt x y=l:=h2;rw[<-h2,uI]
  ·rintro⟨e,⟨he,h1,h2⟩,h3⟩;refine⟨gP x y e,⟨(yK _).mem_iff.2 (List.mem_map_of_mem he),h1,?_⟩,h3⟩;show cH e.lt x y=l;rw[h2,uI]
 ·rw[if_neg hb,if_neg hb]
theorem aBq{P:List Sys}(h:bQ P=true):bQ (P.map (swSy x y))=true:=by
 obtain⟨h3,h1,hs⟩:=dH h;unfold bQ;simp only[Aj,decide_eq_true_eq,Bh,Ar];refine⟨⟨h1,h3⟩,fun s h=> ?_⟩;obtain⟨t,ht,rfl⟩:=Bf.1 h;exact aRX hx hy (hs t ht)
theorem aLg{P:List Sys}(h:bQ P=true){l:Int}(hl:aT l=true):bG (parA (P.map (swSy x y))) l=bG (parA P) (cH l x y):=by
 obtain⟨_,_,hs⟩:=dH h;obtain⟨_,_,hs2⟩:=dH (aBq hx hy h);unfold parA;rw[UE hl dc hs2,UE (y3 hl hx hy) dc hs];have h0:bG 0 l=bG 0 (cH l x y):=by simp[bG]
 rw[h0,List.any_map]
 congr 1
 rw[Bool.eq_iff_iff,List.any_eq_true,List.any_eq_true]
 constructor
 ·rintro⟨s,h1,h2⟩;exact⟨s,h1,by rw[<-pK (dK.1 (hs s h1)).1 hx hy hl];exact h2⟩
 ·rintro⟨s,h1,h2⟩;exact⟨s,h1,by show bG (bO s.al x y) l=true;rw[pK (dK.1 (hs s h1)).1 hx hy hl];exact h2⟩
theorem aKN{P:List Sys}(h:bQ P=true){l:Int}:l∈aC (parA (P.map (swSy x y)))↔aT l=true/\cH l x y∈aC (parA P):=by
 rw[kL,kL,mO]
 constructor
 ·rintro⟨h1,h2⟩;have hl:=mO.2 h1;rw[aLg hx hy h hl]at h2;exact⟨h1,mO.1 (y3 hl hx hy),h2⟩
 ·rintro⟨h1,_,h2⟩;exact⟨h1,by rw[aLg hx hy h (mO.2 h1)];exact h2⟩
end
end
section
section
variable{x y:Int}(hx:aT x=true)(hy:aT y=true)
include hx hy
theorem aSc{b:Aut}(hb:AOK b){q l:Int}(q0:0<=q)(q1:q<b.nx.length)(hl:aT l=true):goI (swA b x y).al (swA b x y).nx q l=goI b.al b.nx q (cH l x y):=by
 have ha:=(nY hb).2.2.2;obtain⟨l0,l1⟩:=mO.1 hl
 by_cases hbt:bG (bO b.al x y) l=true
 ·exact aLR q0 q1 l0 l1 hbt
 ·unfold goI;rw[show(swA b x y).al=bO b.al x y from rfl,if_neg hbt];rw[pK ha hx hy hl]at hbt;rw[if_neg hbt]
theorem aFh{l:Int}(hl:aT l=true):∀ {P:List Sys},(∀s∈P,bK s=true)->SameMs ((P.map (swSy x y)).map (sysS l)) (P.map (sysS (cH l x y)))
 | [],_=>.nil
 |s::P,h=>by
  have hs:=h s Bg;have h1:=(dK.1 hs).2.1;exact .cons ⟨rfl,by show 0<s.st;omega,fun q _ _ v=>aPf hx hy hs hl⟩ (aFh hl fun t ht=>h t (Bc _ ht))
theorem aIv{P:List Sys}{b:Aut}(hv:bQ P=true)(hb:AOK b){v l:Int}(hl:aT l=true)(h0:0<=v)(m:Int):m∈nxSp (P.map (swSy x y)) (swA b x y) v l↔m∈nxSp P b v (cH l x y):=by
 obtain⟨_,_,hs⟩:=dH hv;obtain⟨_,_,b1,_,_⟩:=eX hb;have hr:=j0 h0 (z:=(b.nx.length:Int)) om;have hd:0<=v.tdiv b.nx.length:=Cl h0 (Int.natCast_nonneg _);have key:=fun z=>aHE (x:=z) (v:=v.tdiv b.nx.length) (aFh hx hy hl (P:=P.reverse) fun s h=>hs s (Cq.1 h)) hd;unfold nxSp;rw[aKv,aSc hx hy hb hr.1 hr.2 hl,<-List.map_reverse,oP,oP]
 constructor
 ·rintro⟨o,ho,c,hc,rfl⟩;exact⟨o,(key o).1 ho,c,hc,rfl⟩
 ·rintro⟨o,ho,c,hc,rfl⟩;exact⟨o,(key o).2 ho,c,hc,rfl⟩
theorem PI{P:List Sys}{b:Aut}(hv:bQ P=true)(hb:AOK b):∀(w:List Int) (v u:Int),0<=v->(∀l∈w,aT l=true)->(Path (nxSp (P.map (swSy x y)) (swA b x y)) (aC (parA (P.map (swSy x y)))) v w u↔Path (nxSp P b) (aC (parA P)) v (swW x y w) u)
 | [],_,_,_,_=>Iff.rfl
 |l::w,v,u,h0,hw=>by
  obtain⟨h3,_,hs⟩:=dH hv;have hl:=hw l Bg;have hwt:=fun z hz=>hw z (Bc _ hz);have e:swW x y (l::w)=cH l x y::swW x y w:=rfl;rw[e];simp only[Path];have hin:=cU.1 (y3 hl hx hy)
  constructor
  ·rintro⟨g1,m,g2,g3⟩;have g4:=(aIv hx hy hv hb hl h0 m).1 g2;exact⟨((aKN hx hy hv).1 g1).2,m,g4,(PI hv hb w m u (BO hs hb om h0 m g4).1 hwt).1 g3⟩
  ·rintro⟨g1,m,g2,g3⟩;exact⟨(aKN hx hy hv).2 ⟨hl,g1⟩,m,(aIv hx hy hv hb hl h0 m).2 g2,(PI hv hb w m u (BO hs hb om h0 m g2).1 hwt).2 g3⟩
end
theorem rJ{nx:Int->Int->List Int}{ls:List Int}:∀(w:List Int) (v u:Int),Path nx ls v w u->∀l∈w,l∈ls
 | [],_,_,_,l,h=>by cases h
 |a::w,v,u,hp,l,h=>by
  simp only[Path]at hp;obtain⟨ha,m,_,hp⟩:=hp
  rcases Au.1 h with rfl|h
  ·exact ha
  ·exact rJ w m u hp l h
section
variable{x y:Int}(hx:aT x=true)(hy:aT y=true)
include hx hy
theorem aOQ{P:List Sys}{b:Aut}(hv:bQ P=true)(hb:AOK b)(w:List Int):Hits (nxSp (P.map (swSy x y)) (swA b x y)) (aC (parA (P.map (swSy x y)))) [0] (glSp (swA b x y)) w↔Hits (nxSp P b) (aC (parA P)) [0] (glSp b) (swW x y w):=by
 have hg:∀v,glSp (swA b x y) v=glSp b v:=by
  intro v;unfold glSp;rw[aKv];rfl
 constructor
 ·rintro⟨u,⟨s,hs,hp⟩,hu⟩;have hl:=fun l h=>aJd (rJ w s u hp l h);rw[Bi]at hs;subst hs;exact⟨u,⟨0,Bi.2 rfl,(PI hx hy hv hb w 0 u (Cb 0) hl).1 hp⟩,by rw[<-hg];exact hu⟩
 ·rintro⟨u,⟨s,hs,hp⟩,hu⟩
  have hl:∀l∈w,aT l=true:=by
   intro l h;have h2:cH l x y∈swW x y w:=List.mem_map_of_mem h;have h3:=aJd (rJ _ s u hp _ h2);have h4:=y3 h3 hx hy
   rwa [uI]at h4
  rw[Bi]at hs;subst hs;exact⟨u,⟨0,Bi.2 rfl,(PI hx hy hv hb w 0 u (Cb 0) hl).2 hp⟩,by rw[hg];exact hu⟩
theorem aKP{P:List Sys}{b:Aut}(hv:bQ P=true)(hb:AOK b):(brkG (P.map (swSy x y)) (swA b x y)).2=(brkG P b).2/\(brkG (P.map (swSy x y)) (swA b x y)).1.length=(brkG P b).1.length/\((brkG P b).2=true->Hits (nxSp (P.map (swSy x y)) (swA b x y)) (aC (parA (P.map (swSy x y)))) [0] (glSp (swA b x y)) (swW x y (brkG P b).1)):=by
 have hh:=aOQ hx hy hv hb;have f1:=VU (aBq hx hy hv) (aHA hb hx hy);have f2:=VU hv hb;generalize brkG (P.map (swSy x y)) (swA b x y)=r at *;generalize brkG P b=s at *;have hl:∀w:List Int,(swW x y w).length=w.length:=fun w=>Ar _;have up:∀w,Hits (nxSp P b) (aC (parA P)) [0] (glSp b) w->Hits (nxSp (P.map (swSy x y)) (swA b x y)) (aC (parA (P.map (swSy x y)))) [0] (glSp (swA b x y)) (swW x y w):=fun w h=>(hh _).2 (by rw[aNz];exact h)
 rcases f1 with⟨a1,a2,a3⟩|⟨a1,a2⟩<;>rcases f2 with⟨b1,b2,b3⟩|⟨b1,b2⟩
 ·refine⟨by rw[a1,b1],?_,fun _=>up _ b2⟩;have h1:=a3 _ (up _ b2);have h2:=b3 _ ((hh _).1 a2);unfold slt at h1 h2;rw[hl]at h1 h2;omega
 ·exact absurd ((hh _).1 a2) (b2 _)
 ·exact absurd (up _ b2) (a2 _)
 ·rw[a1,b1];exact⟨rfl,rfl,fun h=>by cases h⟩
end
end
theorem aRk{al q:Int}{rs:List (List Int)}{w:List UInt8}{i:Nat}(h:i<w.length):stGo al rs (w.drop i) q=stGo al rs (w.drop (i+1)) (goI al rs q (ltr (w.getD i 0))):=by
 rw[bP h (d:=0)];rfl
theorem X4{R:Type}{L n:Nat}(hn:1<=n){al:Int}{rs:List (List Int)}{ac:List Bool}{w:List UInt8}(hok:d9 al rs ac=true)(hw:eZ al w=true){k:KE R}:∀(i q:Int) (m:Nat) (h0:0<=i) (hi:i<=w.length) (hm:(w.length:Int)-i<m) (hq0:0<=q) (hq1:q<rs.length),
  aS env (aA env L n) L 0 [] Bz37 (zO 0) (U1 (Z1 (U2 (Z2 (Z1 (U8 (U4 (U2 (Z2 (U8 (U4 ([])))))))))))) m (Y1 (.d (.str w)::Y2 (nI 0::.d (.ivs rs.length (ints (gJ al rs)))::nI q::Y8 (Y4 (Y2 (nI (w.length)::nI i::Y8 (Y4 ([])))))))) [] k
  =k (.exit 0) (Y1 (.d (.str w)::Y2 (nI 0::.d (.ivs rs.length (ints (gJ al rs)))::nI (stGo al rs (w.drop i.toNat) q)::Y8 (Y4 (Y2 (nI (w.length)::nI (w.length)::Y8 (Y4 ([])))))))) []:=by
 intro i q m h0 hi hm hq0 hq1;have htl:=oG al rs;have hlen:=nY hok;obtain⟨hal,hwl,hin⟩:=V7 hw;obtain⟨j,hj⟩:∃j:Nat,(j:Int)=(w.length:Int)-i:=⟨((w.length:Int)-i).toNat,by omega⟩
 induction j generalizing i q m with
 |zero=>
  obtain _|m:=m;omega;obtain rfl:i=w.length:=om
  simp-implicitDefEqProofs (maxSteps:=9^7) (disch:=try exact Dz) only[↓DN,↓kRet,UP,simprocAttr,Ak,AO,wS,Tryz.f165];simp only[Bl,stGo,List.foldl_nil]
 |succ j ih=>
  obtain _|m:=m;omega;have hc:i<w.length:=om;have hk:i.toNat<w.length:=om;have hb:w.getD i.toNat 0∈w:=by rw[Aa,Ae hk];exact Ba hk
  obtain⟨hb1,hb2⟩:=hin _ hb;have hl6:=mO.1 hb1;have hg:=aAJ hok hq0 hq1 hl6.1 hl6.2;have e1:(i+1).toNat=i.toNat+1:=om;have ih':=ih (i+1) (goI al rs q (ltr (w.getD i.toNat 0))) m om om om hg.1 hg.2 om;have hb3:aT (ltr (w.getD i.toNat 0))=true:=hb1;have hl0:=hl6.1;have hl1:=hl6.2;have hcl:(ltr (w.getD i.toNat 0)).toNat<=(List.drop (q.toNat*6) (ints (gJ al rs))).length:=by rw[Bj,fE,htl];omega
  rw[aRk hk,<-e1];clear ih hg hl6 hb hin hw hok
  simp-implicitDefEqProofs (maxSteps:=9^7) (disch:=try exact Dz) only[↓DN,↓kRet,UP,simprocAttr,↓jZ,hc,hb3,XV,htl,↓ih',AO,wS,Tryz.f165]
theorem MB{L n:Nat}(hn:5<=n)(al:Int)(rs:List (List Int))(ac:List Bool)(w:List UInt8)(hs:bN rs)(ha:ac.length<=4294967296)(hwl:w.length<=4294967295)(hL:2^60<=L):aA env L n 165 [.agg [nI al,.d (.ivs rs.length (aP rs)),.d (.ivs ac.length (aK ac))],.d (.str w)] []=some (nI (GG al rs ac w),[]):=by
 have hl:=hs.1;unfold GG
 cases hv:d9 al rs ac with
 |false=>
  obtain _|n:=n;omega
  simp-implicitDefEqProofs (maxSteps:=9^7) (disch:=try exact Dz) only[↓DN,↓kAsg,↓kRet,UP,simprocAttr,↓bU,hv,x7,sX,Tryz.f165]
 |true=>
  cases hw:eZ al w with
  |false=>
   obtain _|n:=n;omega
   simp-implicitDefEqProofs (maxSteps:=9^7) (disch:=try exact Dz) only[↓DN,↓kAsg,↓kRet,UP,simprocAttr,↓bU,↓jY,hv,hw,x7,sX,Tryz.f165]
  |true=>
   have hwd:=yJ hv;have hlen:=nY hv;have loop_a:=fun {R:Type} {n:Nat} (hn:1<=n) {k:KE R}=>X4 (R:=R) (L:=L) (n:=n) hn (k:=k) hv hw 0 0 L om om om om om;simp only[Cf,Ax]at loop_a;obtain _|n:=n;omega
   simp-implicitDefEqProofs (maxSteps:=9^7) (disch:=try exact Dz) only[↓DN,↓kAsg,↓kRet,UP,simprocAttr,↓bU,↓jY,↓HR,hv,hw,↓loop_a,x7,sX,Tryz.f165]
theorem aCT:type_of% fun {L} al rs ac w hs ha hwl hL=>ks fun hn=> @MB L _ hn al rs ac w hs ha hwl hL:=fun {L} al rs ac w hs ha hwl hL=>ks fun hn=> @MB L _ hn al rs ac w hs ha hwl hL
def accW(a:Aut)(w:List UInt8):Bool:=a.ac.getD (stGo a.al a.nx w 0).toNat false
theorem aIJ{a:Aut}(ha:AOK a):∀(w:List UInt8) (q:Int),(∀b∈w,okB b=true)->0<=q->q<a.nx.length->0<=stGo a.al a.nx w q/\stGo a.al a.nx w q<a.nx.length
 | [],q,_,h0,h1=>⟨h0,h1⟩
 |b::w,q,hw,h0,h1=>by
  have hl:=mO.1 (hw b Bg);have hg:=aAJ ha h0 h1 hl.1 hl.2;exact aIJ ha w _ (fun x hx=>hw x (Bc _ hx)) hg.1 hg.2
theorem aRO{a:Aut}(ha:AOK a){w:List UInt8}(hw:eZ a.al w=true):0<=stGo a.al a.nx w 0/\stGo a.al a.nx w 0<a.ac.length:=by
 obtain⟨_,_,a1,_,a3⟩:=eX ha;obtain⟨_,_,h3⟩:=V7 hw;have:=aIJ ha w 0 (fun b hb=>(h3 b hb).1) om om;omega
theorem IW{L n:Nat}(hn:6<=n)(a:Aut)(w:List UInt8)(ha:AOK a)(hw:eZ a.al w=true)(hL:2^60<=L):aA env L n 97 [.agg [nI a.al,.d (.ivs a.nx.length (aP a.nx)),.d (.ivs a.ac.length (aK a.ac))],.d (.str w)] []=some (.d (.bool (accW a w)),[]):=by
 obtain⟨sa,wa,a1,a2,a3⟩:=eX ha;obtain⟨r0,r1⟩:=aRO ha hw;obtain⟨_,hwl,_⟩:=V7 hw;have kc_s:=@aCT L a.al a.nx a.ac w sa om om hL
 have e:GG a.al a.nx a.ac w=stGo a.al a.nx w 0:=by
  unfold GG;rw[show d9 a.al a.nx a.ac=true from ha,hw];rfl
 rw[e]at kc_s;unfold accW;clear wa ha hw e;generalize stGo a.al a.nx w 0=q at *;obtain _|n:=n;omega
 simp-implicitDefEqProofs (maxSteps:=9^7) (disch:=try exact Dz) only[↓DN,↓kAsg,↓kRet,UP,simprocAttr,LA,r0,r1,↓kc_s,aAy,KZ,Tryz.f97]
theorem aAU:type_of% fun {L} a w ha hw hL=>ks fun hn=> @IW L _ hn a w ha hw hL:=fun {L} a w ha hw hL=>ks fun hn=> @IW L _ hn a w ha hw hL
section
variable{R:Type}{L n:Nat}
def hasT(s:Sys)(w:List UInt8):Bool:=!decide (pW s w=0)
theorem RQ(hn:8<=n)(s:Sys)(w:List UInt8)(hl:s.es.length<=4294967296)(hL:2^60<=L):aA env L n 92 [.agg [nI s.al,nI s.st,.d (.ivs s.es.length (aJ s.es))],.d (.str w)] []=some (.d (.bool (hasT s w)),[]):=by
 have kc_x:=@aA1 L s.al s.st s.es w hl hL;have es:(⟨s.al,s.st,s.es⟩:Sys)=s:=rfl;rw[es]at kc_x;unfold hasT
 by_cases h:pW s w=0
 ·rw[h]at kc_x|-;obtain _|n:=n;omega
  simp-implicitDefEqProofs (maxSteps:=9^7) (disch:=try exact Dz) only[↓DN,↓kAsg,↓kRet,UP,simprocAttr,↓kc_x,RS,JB,Tryz.f92]
 ·have h2:¬((pW s w:Nat):Int)=0:=om;obtain _|n:=n;omega
  simp-implicitDefEqProofs (maxSteps:=9^7) (disch:=try exact Dz) only[↓DN,↓kAsg,↓kRet,UP,simprocAttr,↓kc_x,h,h2,RS,JB,Tryz.f92]
theorem aGV:type_of% fun {L} s w hl hL=>ks fun hn=> @RQ L _ hn s w hl hL:=fun {L} s w hl hL=>ks fun hn=> @RQ L _ hn s w hl hL
def InW(a:Aut)(w:List UInt8):Prop:=eZ a.al (w.filter (inB a.al))=true
theorem SD(hn:8<=n)(a:Aut)(w:List UInt8)(ha:AOK a)(hw:mI w=true)(hl:w.length<=60000)(hwf:InW a w)(hL:2^60<=L):aA env L n 37 [.agg [nI a.al,.d (.ivs a.nx.length (aP a.nx)),.d (.ivs a.ac.length (aK a.ac))],.d (.str w)] []=some (.d (.bool (!accW a (w.filter (inB a.al)))),[]):=by
 obtain⟨sa,wa,a1,a2,a3⟩:=eX ha;have hac:a.ac.length<=4294967296:=om;have kc_x:=@aAU L a (w.filter (inB a.al)) ha hwf hL;have hv:d9 a.al a.nx a.ac=true:=ha;generalize accW a (w.filter (inB a.al))=r at *;obtain _|n:=n;omega
 simp-implicitDefEqProofs (maxSteps:=9^7) (disch:=try exact Dz) only[↓DN,↓kAsg,↓kRet,UP,simprocAttr,↓bU,↓nE,↓RG,hv,hw,↓kc_x,SS,CN,Tryz.f37]
theorem SG{hq:H}{k:KA R}(hn:8<=n)(a:Aut)(w:List UInt8)(ha:AOK a)(hw:mI w=true)(hl:w.length<=60000)(hwf:InW a w)(hL:2^60<=L):aW env (aA env L n) hq 37 [.agg [nI a.al,.d (.ivs a.nx.length (aP a.nx)),.d (.ivs a.ac.length (aK a.ac))],.d (.str w)] k=k (.d (.bool (!accW a (w.filter (inB a.al))))) hq:=
 cS rfl (SD hn a w ha hw hl hwf hL) rfl (.inl rfl)
end
section
section
variable{nx:Int->Int->List Int}{ls:List Int}
inductive Via(nx:Int->Int->List Int)(ls:List Int):Int->List Int->List Int->Int->Prop
 |nil {v:Int}:Via nx ls v [] [] v
 |cons {v l m u:Int} {ns w:List Int} (hl:l∈ls) (hm:m∈nx v l) (h:Via nx ls m ns w u):Via nx ls v (m::ns) (l::w) u
theorem aO5{v u:Int}{ns w:List Int}(h:Via nx ls v ns w u):Path nx ls v w u/\ns.length=w.length:=by
 induction h with
 |nil=>exact⟨rfl,rfl⟩
 |cons hl hm _ ih=>exact⟨⟨hl,_,hm,ih.1⟩,congrArg (·+1) ih.2⟩
theorem aSb{v u x:Int}{ns w:List Int}(h:Via nx ls v ns w u)(hn:(v::ns).Nodup)(hx:x∈v::ns):∃ns2 w2,Via nx ls x ns2 w2 u/\(x::ns2).Nodup:=by
 induction h with
 |nil=>
  rw[Bi]at hx;subst hx;exact⟨[],[],.nil,hn⟩
 |cons hl hm h ih=>
  rcases Au.1 hx with rfl|hx
  ·exact⟨_,_,.cons hl hm h,hn⟩
  ·exact ih (Dj.1 hn).2 hx
theorem aNp:∀ {w:List Int} {v u:Int},Path nx ls v w u->∃ns w2,Via nx ls v ns w2 u/\(v::ns).Nodup
 | [],v,u,h=>by
  have h:v=u:=h;subst h;exact⟨[],[],.nil,by simp⟩
 |l::w,v,u,h=>by
  obtain⟨hl,m,hm,hp⟩:=h;obtain⟨ns,w2,h1,h2⟩:=aNp hp
  by_cases hv:v∈m::ns
  ·exact aSb h1 h2 hv
  ·exact⟨m::ns,l::w2,.cons hl hm h1,Dj.2 ⟨hv,h2⟩⟩
theorem aQX{N:Nat}(hr:∀v c:Int,0<=v->v<N->c∈ls->∀m∈nx v c,0<=m/\m<N){v u:Int}{ns w:List Int}(h:Via nx ls v ns w u)(h0:0<=v)(h1:v<N):∀x∈v::ns,0<=x/\x<N:=by
 induction h with
 |nil=>
  intro x hx;rw[Bi]at hx;omega
 |cons hl hm h ih=>
  intro x hx;have:=hr _ _ h0 h1 hl _ hm
  rcases Au.1 hx with rfl|hx
  ·omega
  ·exact ih this.1 this.2 x hx
theorem aJC{gl:Int->Bool}{N:Nat}(hr:∀v c:Int,0<=v->v<N->c∈ls->∀m∈nx v c,0<=m/\m<N){s:Int}(h0:0<=s)(h1:s<N){w:List Int}(h:J2 (Hits nx ls [s] gl) w):w.length<N:=by
 obtain⟨⟨u,⟨t,ht,hp⟩,hu⟩,hmin⟩:=h;rw[Bi]at ht;subst ht;obtain⟨ns,w2,h2,h3⟩:=aNp hp;obtain⟨g1,g2⟩:=aO5 h2;have g3:=CY h3 (aQX hr h2 h0 h1);have g4:=hmin w2 ⟨u,⟨t,Bi.2 rfl,g1⟩,hu⟩;unfold slt at g4;rw[Ac]at g3;omega
end
theorem aRy{o z c:Int}(hz:0<z)(ho:0<=o)(h0:0<=c)(h1:c<z):(o*z+c).tdiv z=o/\(o*z+c).tmod z=c:=by
 have hn:0<=o*z+c:=by have:=Cd ho (Int.le_of_lt hz);omega
 rw[Int.tdiv_eq_ediv_of_nonneg hn,Int.tmod_eq_emod_of_nonneg hn,Int.add_comm,Int.add_mul_ediv_right _ _ om,Int.add_mul_emod_self_right,Int.ediv_eq_zero_of_lt h0 h1,Int.emod_eq_of_lt h0 h1];exact⟨Int.zero_add _,rfl⟩
theorem aBh{A B:Int->Int->List Int}{ls:List Int}{z:Int}(hz:0<z)(hA:∀v l,0<=v->l∈ls->∀o∈A v l,0<=o)(hB:∀q l,0<=q->q<z->l∈ls->∀c∈B q l,0<=c/\c<z):∀(w:List Int) (v u:Int),0<=v->Path (fun v l=>mulN (A (v.tdiv z) l) z (B (v.tmod z) l)) ls v w u->Path A ls (v.tdiv z) w (u.tdiv z)/\Path B ls (v.tmod z) w (u.tmod z)
 | [],v,u,_,h=>by
  have h:v=u:=h;subst h;exact⟨rfl,rfl⟩
 |l::w,v,u,h0,h=>by
  obtain⟨hl,m,hm,hp⟩:=h;obtain⟨o,ho,c,hc,rfl⟩:=oP.1 hm;have hr:=j0 h0 hz;have ho0:=hA _ l (Cl h0 (Int.le_of_lt hz)) hl o ho;have hc0:=hB _ l hr.1 hr.2 hl c hc;obtain⟨e1,e2⟩:=aRy hz ho0 hc0.1 hc0.2;have hn:0<=o*z+c:=by have:=Cd ho0 (Int.le_of_lt hz);omega
  obtain⟨p1,p2⟩:=aBh hz hA hB w _ u hn hp;rw[e1]at p1;rw[e2]at p2;exact⟨⟨hl,o,ho,p1⟩,⟨hl,c,hc,p2⟩⟩
theorem aID{R:List Sys}(hs:∀s∈R,bK s=true){v l:Int}(h0:0<=v):∀o∈nxR (R.map (sysS l)) v,0<=o:=by
 intro o ho;refine(XQ (fun m hm=> ?_) h0 o ho).1;obtain⟨s,hs2,rfl⟩:=Bf.1 hm;have hso:=hs s hs2;obtain⟨_,s1,s2,_,_⟩:=dK.1 hso;exact⟨by show 0<s.st;omega,fun q h0 h1=>wB hso ⟨h0,h1⟩⟩
theorem aE6{ls w:List Int}:∀ {R:List Sys} {v u:Int},(∀s∈R,bK s=true)->0<=v->Path (fun v l=>nxR (R.map (sysS l)) v) ls v w u->∀s∈R,∃v2 u2,(v=0->v2=0)/\Path (fun q l=>choS s l q) ls v2 w u2
 | [],_,_,_,_,_,s,hs=>by cases hs
 |t::R,v,u,hs,h0,hp,s,hm=>by
  have ht:=hs t Bg;have hR:=fun s h=>hs s (Bc _ h);obtain⟨_,s1,s2,_,_⟩:=dK.1 ht;have hp:Path (fun v l=>mulN (nxR (R.map (sysS l)) (v.tdiv t.st)) t.st (choS t l (v.tmod t.st))) ls v w u:=hp;obtain⟨p1,p2⟩:=aBh (A:=fun v l=>nxR (R.map (sysS l)) v) (B:=fun q l=>choS t l q) (z:=t.st) om (fun v l h _=>aID hR h) (fun q l h0 h1 _=>wB ht ⟨h0,h1⟩) w v u h0 hp
  rcases Au.1 hm with rfl|hm
  ·exact⟨_,_,fun h=>by rw[h];exact Int.zero_tmod _,p2⟩
  ·obtain⟨v2,u2,g1,g2⟩:=aE6 hR (Cl h0 om) p1 s hm;exact⟨v2,u2,fun h=>g1 (by rw[h];exact Int.zero_tdiv _),g2⟩
theorem M8{al l:Int}(h0:0<=l)(h1:l<=5):inB al (gC l)=bG al l:=by
 unfold inB okB;rw[LP h0 h1];simp[aT];omega
theorem aNU{a:Aut}{al:Int}:∀(w:List Int) (q u:Int),Path (fun q l=>[goI a.al a.nx q l]) (aC al) q w u->stGo a.al a.nx ((txt w).filter (inB a.al)) q=u
 | [],q,u,h=>h
 |l::w,q,u,h=>by
  obtain⟨hl,m,hm,hp⟩:=h;have hb:=d7 l hl;rw[Bi]at hm;subst hm;have ih:=aNU w _ u hp;show stGo a.al a.nx ((gC l::txt w).filter (inB a.al)) q=u
  by_cases hbt:bG a.al l=true
  ·rw[El (by rw[M8 hb.1 hb.2];exact hbt)];show stGo a.al a.nx ((txt w).filter (inB a.al)) (goI a.al a.nx q (ltr (gC l)))=u;rw[LP hb.1 hb.2];exact ih
  ·rw[Ek (by rw[M8 hb.1 hb.2];exact hbt)];have e:goI a.al a.nx q l=q:=by unfold goI;rw[if_neg hbt]
   rw[e]at ih;exact ih
def V5(l:List Edge)(w:List UInt8)(s:Nat):Nat:=w.foldl (fun s b=>BX l b s) s
theorem aCH{l:List Edge}:∀w:List UInt8,V5 l w 0=0
 | []=>rfl
 |b::w=>by
  show V5 l w (BX l b 0)=0;exact aCH w
theorem aB8{l:List Edge}{w:List UInt8}:∀(j i s:Nat),i+j=w.length+1->(saGo l w j i s).2=V5 l (w.drop i) s
 |0,i,s,h=>by
  rw[List.drop_of_length_le om];rfl
 |j+1,i,s,h=>by
  unfold saGo
  by_cases h1:i<w.length
  ·by_cases h2:s=0
   ·rw[if_neg om,h2,aCH]
   ·rw[if_pos ⟨h1,h2⟩,aB8 j (i+1) _ om,Da h1,Aa,Ae h1];rfl
  ·rw[if_neg om,List.drop_of_length_le om];rfl
theorem aBC{m:Nat->Nat}{k j:Nat}(hm:(m k).testBit j=true):∀(q s o:Nat) (h:s<2^64) (hq:s<=q),s.testBit k=true->(sV m q s o).testBit j=true
 |0,s,o,h,hq,hk=>by
  obtain rfl:s=0:=om;simp at hk
 |q+1,s,o,h,hq,hk=>by
  unfold sV
  split
  ·rename_i h0;subst h0;simp at hk
  ·rename_i h0
   have:=BV h0
   by_cases he:k=Lib.ctz 64 s
   ·subst he;rw[UB,Nat.testBit_or,Nat.testBit_or,hm];simp
   ·refine aBC hm q _ _ om om ?_;rw[MA h0 h,hk];simp[he]
theorem aPZ{s:Sys}(h:bK s=true){l q c:Int}(h0:0<=l)(h1:l<=5)(hb:bG s.al l=true)(hq:0<=q)(hc:c∈choS s l q){S:Nat}(hS:S<65536)(hqS:S.testBit q.toNat=true):(BX s.es.reverse (gC l) S).testBit c.toNat=true/\BX s.es.reverse (gC l) S<65536:=by
 have hmv:=G9 h;unfold BX;rw[LP h0 h1];refine⟨aBC (k:=q.toNat) ?_ S S 0 om (Ad _) hqS,aAH (w:=16) (fun k=>hmv _) S S 0 om⟩;unfold choS at hc;rw[if_pos hb]at hc;unfold eV at hc;obtain⟨e,he,rfl⟩:=Bf.1 hc;obtain⟨he1,he2⟩:=Cz.1 he;simp only[Aj,decide_eq_true_eq]at he2;exact aJm.2 ⟨e,he1,by rw[he2.1,he2.2],rfl⟩
theorem VD{s:Sys}{al:Int}(h:bK s=true):∀(w:List Int) (q u:Int) (S:Nat),0<=q->q<s.st->S<65536->S.testBit q.toNat=true->Path (fun q l=>choS s l q) (aC al) q w u->V5 s.es.reverse ((txt w).filter (inB s.al)) S≠0
 | [],q,u,S,_,_,_,hb,_=>by
  intro h0;have h0:S=0:=h0;rw[h0]at hb;simp at hb
 |l::w,q,u,S,q0,q1,hS,hb,hp=>by
  obtain⟨hl,m,hm,hp⟩:=hp;have hlb:=d7 l hl;have hmr:=wB h ⟨q0,q1⟩ m hm;show V5 s.es.reverse ((gC l::txt w).filter (inB s.al)) S≠0
  by_cases hbt:bG s.al l=true
  ·rw[El (by rw[M8 hlb.1 hlb.2];exact hbt)];have hst:=aPZ h hlb.1 hlb.2 hbt q0 hm hS hb;exact VD h w m u _ hmr.1 hmr.2 hst.2 hst.1 hp
  ·rw[Ek (by rw[M8 hlb.1 hlb.2];exact hbt)];have hm:m∈choS s l q:=hm;unfold choS at hm;rw[if_neg hbt,Bi]at hm;subst hm;exact VD h w m u S q0 q1 hS hb hp
theorem aRh{al:Int}(ha:bH al=true){w:List Int}(hw:∀l∈w,l∈aC al)(hl:w.length<=50000):eZ al (txt w)=true/\mI (txt w)=true:=by
 have key:∀b∈txt w,inB al b=true:=by
  intro b hb;obtain⟨l,hlm,rfl⟩:=Bf.1 hb;have hb:=d7 l (hw l hlm);rw[M8 hb.1 hb.2];exact(kL.1 (hw l hlm)).2
 have hlen:(txt w).length=w.length:=by unfold txt;rw[Ar]
 constructor
 ·unfold eZ;simp only[Aj,decide_eq_true_eq,Bh];exact⟨⟨ha,by omega⟩,key⟩
 ·unfold mI;simp only[Aj,decide_eq_true_eq,Bh];refine⟨by omega,fun b hb=> ?_⟩;have:=key b hb;unfold inB at this;simp only[Aj]at this;exact this.1
theorem aFc{al:Int}(ha:bH al=true){w:List UInt8}(hl:w.length<=50000):eZ al (w.filter (inB al))=true:=by
 have:=List.length_filter_le (inB al) w;unfold eZ;simp only[Aj,decide_eq_true_eq,Bh,Cz];exact⟨⟨ha,by omega⟩,fun b hb=>hb.2⟩
theorem aEC{P:List Sys}{b:Aut}(hv:bQ P=true)(hb:AOK b){w:List Int}(hl:w.length<=50000)(h:Hits (nxSp P b) (aC (parA P)) [0] (glSp b) w):
  eZ (parA P) (txt w)=true/\mI (txt w)=true/\(∀s∈P,hasT s ((txt w).filter (inB s.al))=true)/\InW b (txt w)/\accW b ((txt w).filter (inB b.al))=false:=by
 obtain⟨_,_,hs⟩:=dH hv;obtain⟨_,_,b1,_,_⟩:=eX hb;obtain⟨u,⟨t,ht,hp⟩,hu⟩:=h;rw[Bi]at ht;subst ht
 have hpa:bH (parA P)=true:=by
  have:=P0 hv;unfold bH;simp only[decide_eq_true_eq];omega
 obtain⟨w1,w2⟩:=aRh hpa (rJ w _ u hp) hl;have hlen:(txt w).length=w.length:=by unfold txt;rw[Ar]
 have hsR:∀s∈P.reverse,bK s=true:=fun s h=>hs s (Cq.1 h)
 obtain⟨p1,p2⟩:=aBh (A:=fun v l=>nxR (P.reverse.map (sysS l)) v) (B:=fun q l=>[goI b.al b.nx q l]) (z:=(b.nx.length:Int)) om (fun v l h _=>aID hsR h) (fun q l h0 h1 hl c hc=>by
  rw[Bi]at hc;subst hc;have:=d7 l hl;exact GK hb h0 h1 this.1 om) w 0 u (Cb 0) hp
 rw[Int.zero_tdiv]at p1;rw[Int.zero_tmod]at p2;refine⟨w1,w2,fun s hm=> ?_,aFc (nY hb).2.2.2 om,?_⟩
 ·obtain⟨v2,u2,g1,g2⟩:=aE6 hsR (Cb 0) p1 s (Cq.2 hm);have hso:=hs s hm;obtain⟨sa,s1,_,_,_⟩:=dK.1 hso;rw[g1 rfl]at g2;have hne:=VD hso w 0 u2 1 (Cb 0) om om dc g2;unfold hasT pW;rw[hso,aFc sa om,Bx,if_pos rfl,aB8 _ _ _ om,Ax];simp only[hne,decide_false,Bool.not_false]
 ·unfold accW;rw[aNU w 0 _ p2];unfold glSp at hu
  simpa using hu
theorem aQY{P:List Sys}{b:Aut}(hv:bQ P=true)(hb:AOK b):(brkG P b).1.length<=50000:=by
 obtain⟨h3,_,hs⟩:=dH hv;obtain⟨_,_,b1,b2,_⟩:=eX hb;obtain⟨z0,z1⟩:=CK h3 hs;have hpos:=XO hv hb;have hm:cI P*b.nx.length<=4096*12:=Int.mul_le_mul z1 om om om
 rcases VU hv hb with⟨_,h2⟩|⟨h1,_⟩
 ·have:=aJC (aDS hv hb) (Cb 0) om h2;omega
 ·rw[h1];simp
end
section
variable{R:Type}{L n:Nat}
def AllT(P:List Sys)(w:List UInt8):Prop:=∀s∈P,hasT s (w.filter (inB s.al))=true
theorem aPU(hn:9<=n)(hL:2^60<=L){P:List Sys}{w:List UInt8}(hP:cW P)(hw:w.length<=60000)(ht:AllT P w){k:KE R}:∀(j i m:Nat) (hi:i+j=P.length) (hm:j<m),
  aS env (aA env L n) L 0 [] Bz36 (t7 0) (U1 (Z1 (U2 (Z1 (U8 (U4 (Z2 (Z1 (U8 (U2 (U1 ([])))))))))))) m (Y1 (.d (.str w)::Y2 (.d (.bool false)::Y8 (Y4 (.d (.ivs P.length (sysD P))::nI (P.length)::nI i::Y8 (Y2 (Y1 ([])))))))) [] k
  =k (.exit 0) (Y1 (.d (.str w)::Y2 (.d (.bool false)::Y8 (Y4 (.d (.ivs P.length (sysD P))::nI (P.length)::nI (P.length)::Y8 (Y2 (Y1 ([])))))))) []:=by
 have hP1:=hP.1;intro j
 induction j with
 |zero=>
  intro i m hi hm;obtain _|m:=m;omega;obtain rfl:i=P.length:=om
  simp-implicitDefEqProofs (maxSteps:=9^7) (disch:=try exact Dz) only[↓DN,↓kRet,UP,simprocAttr,Ak,xD,rW,Tryz.f35]
 |succ j ih=>
  intro i m hi hm;obtain _|m:=m;omega;have hk:i<P.length:=om;have hc:(i:Int)<P.length:=om;have hi0:(0:Int)<=i:=om;have g:=tG hk;have hes:=XT hP hk;have hts:hasT (P.getD i default) (w.filter (inB (P.getD i default).al))=true:=ht _ (HE hk);have h3:3<=P.length*3-i*3:=om;have ih':=ih (i+1) m om om;rw[cs1 i]at ih';clear ih;generalize P.getD i default=s at *;have kc_h:=@aGV L s (w.filter (inB s.al)) hes hL;rw[hts]at kc_h;have kc_r:=@RG L w s.al hw hL;generalize w.filter (inB s.al)=v at *
  simp-implicitDefEqProofs (maxSteps:=9^7) (disch:=try exact Dz) only[↓DN,↓kRet,UP,simprocAttr,NE,Ar,Bj,h3,hc,hi0,g,↓kc_h,↓kc_r,↓ih',xD,rW,Tryz.f35]
theorem YE(hn:13<=n)(P:List Sys)(w:List UInt8)(hP:cW P)(hv:bQ P=true)(hw:eZ (parA P) w=true)(hwl:w.length<=60000)(ht:AllT P w)(hL:2^60<=L):aA env L n 35 [.d (.ivs P.length (sysD P)),.d (.str w)] []=some (.d (.bool true),[]):=by
 have loop_a:=fun {R n k} hn=> @aPU R L n hn hL P w hP hwl ht k P.length 0 L om (by have:=hP.1;omega);simp only[Aw]at loop_a;clear ht;obtain _|n:=n;omega
 simp-implicitDefEqProofs (maxSteps:=9^7) (disch:=try exact Dz) only[↓DN,↓kAsg,↓kRet,UP,simprocAttr,↓lO,↓eT,↓jY,hv,hw,↓loop_a,X3,I6,Tryz.f35]
theorem YB{k:A->Option R}(hn:13<=n)(P:List Sys)(w:List UInt8)(hP:cW P)(hv:bQ P=true)(hw:eZ (parA P) w=true)(hwl:w.length<=60000)(ht:AllT P w)(hL:2^60<=L):mU (aA env L n) 35 [.d (.ivs P.length (sysD P)),.d (.str w)] k=k (.d (.bool true)):=
 oQ (YE hn P w hP hv hw hwl ht hL) rfl
end
theorem X2{L n:Nat}(hn:7<=n)(al st x y:Int)(l:List Edge)(hl:l.length<=4294967296)(hL:2^60<=L)(h1:bK ⟨al,st,l⟩=true)(h2:aT x=true)(h3:aT y=true):aA env L n 33 [.agg [nI al,nI st,.d (.ivs l.length (aJ l))],nI x,nI y] []=some (.tup [.agg [nI (bO al x y),nI st,.d (.ivs (kH (l.map (gP x y))).length (aJ (kH (l.map (gP x y)))))],.d (.bool true)],[]):=by
 have hml:(l.map (gP x y)).length=l.length:=Ar _;have hsl:(kH (l.map (gP x y))).length=l.length:=by rw[aFQ,hml]
 have hec:=aI8 (l.map (gP x y));have loop_t:=fun {R n k} hn=> @NB R L n L hn hL (bO al x y) st x y l hl k om;have kc_s:=fun {R:Type} {n id:Nat} {hq:H} {k:KA R} (hn:1<=n)=> @aPT R L n id hq k hn (l.map (gP x y));rw[hml]at kc_s loop_t;generalize l.map (gP x y)=w at *;generalize kH w=v at *
 have hle:l.length*eL w<=l.length*3:=by
  rcases hec with⟨h,_⟩|h<;>rw[h]<;>omega
 have htk:(aJ v).take (l.length*eL w)=aJ v:=by
  refine Ca ?_;rw[vJ,hsl]
  rcases hec with⟨_,h⟩|h
  ·rw[h]at hml;simp only[Ab]at hml;omega
  ·rw[h];omega
 obtain _|n:=n;omega
 simp-implicitDefEqProofs (maxSteps:=9^7) (disch:=try exact Dz) only[↓DN,↓kAsg,↓kRet,UP,simprocAttr,↓lB,↓fF,↓kB,LE,h1,h2,h3,hsl,↓kc_s,↓loop_t,hle,htk,aBD,ND,Tryz.f33]
theorem X0{R:Type}{L n:Nat}{hq:H}{k:KA R}(hn:7<=n)(al st x y:Int)(l:List Edge)(hl:l.length<=4294967296)(hL:2^60<=L)(h1:bK ⟨al,st,l⟩=true)(h2:aT x=true)(h3:aT y=true):
  aW env (aA env L n) hq 33 [.agg [nI al,nI st,.d (.ivs l.length (aJ l))],nI x,nI y] k
  =k (.tup [.agg [nI (bO al x y),nI st,.d (.ivs (kH (l.map (gP x y))).length (aJ (kH (l.map (gP x y)))))],.d (.bool true)]) hq:=
 cS rfl (X2 hn al st x y l hl hL h1 h2 h3) rfl (.inr rfl)
section
variable{R:Type}{L n:Nat}
theorem MQ(hn:4<=n)(hL:2^60<=L){al al2 x y q:Int}{rs:List (List Int)}{z d e:Nat}{cs2 cn:List D}(hs:bN rs)(hq0:0<=q)(hq1:q<rs.length)(hx0:0<=x)(hx1:x<=5)(hy0:0<=y)(hy1:y<=5){ls:List Int}(hls:∀v∈ls,0<=v/\v<=5)(hll:ls.length<=6){k:KE R}:∀(j:Nat) (i:Int) (m:Nat) (r:List Int) (len:Nat) (h0:0<=i) (hi:i+j=ls.length) (hm:j<m) (hr:r.length<=6-j) (hlen:len=r.length),
  aS env (aA env L n) L 0 (W8 (W2 (W1 [2]))) Bz6 (jQ 1) (U1 (Z2 (U2 (U1 (Z4 (Z2 (U16 (U8 (U4 (U1 (Z2 (U4 (Z2 (Z1 (U16 (U8 ([]))))))))))))))))) m (Y1 (nI x::nI y::Y2 (Y1 (.ptr 0 0 0::.d (.bool false)::.d (.ivs rs.length (ints (gJ al rs)))::.ptr 1 0 0::nI q::.sl 2 0 0 len::Y16 (Y8 (Y4 (Y1 (nI (rs.length)::nI q::Y4 (.d (.ivs ls.length (ints ls))::nI (ls.length)::nI i::Y16 (Y8 ([]))))))))))) [.box [nI 0,.sl 3 0 0 0,.sl 4 0 0 0],.box [nI al2,.sl 5 0 0 d,.sl 6 0 0 z],.arr (ints r) 1 0,.arr [] 0 0,.arr [] 0 0,.arr cn e 0,.arr cs2 1 0] k
  =k (.exit 2) (Y1 (nI x::nI y::Y2 (Y1 (.ptr 0 0 0::.d (.bool false)::.d (.ivs rs.length (ints (gJ al rs)))::.ptr 1 0 0::nI q::.sl 2 0 0 (r.length+(m8 al rs x y (ls.drop i.toNat) q).length)::Y16 (Y8 (Y4 (Y1 (nI (rs.length)::nI q::Y4 (.d (.ivs ls.length (ints ls))::nI (ls.length)::nI (ls.length)::Y16 (Y8 ([]))))))))))) [.box [nI 0,.sl 3 0 0 0,.sl 4 0 0 0],.box [nI al2,.sl 5 0 0 d,.sl 6 0 0 z],.arr (ints (r++m8 al rs x y (ls.drop i.toNat) q)) 1 0,.arr [] 0 0,.arr [] 0 0,.arr cn e 0,.arr cs2 1 0]:=by
 intro j;have hrl:=hs.1;have htl:=oG al rs
 induction j with
 |zero=>
  intro i m r len h0 hi hm hr hlen;obtain _|m:=m;omega;obtain rfl:i=ls.length:=om
  simp-implicitDefEqProofs (maxSteps:=9^7) (disch:=try exact Dz) only[↓DN,↓kRet,UP,simprocAttr,Ak,hlen,uX,qJ,Tryz.f34];simp only[Bl,m8,Al,Ah,Ab,Bm]
 |succ j ih=>
  intro i m r len h0 hi hm hr hlen;obtain _|m:=m;omega;subst hlen;have hc:i<ls.length:=om;have hk:i.toNat<ls.length:=om;have hv:=aAq hls hk;have hs1:=LM hv.1 hx0 hy0;have hs2:=aAw (b:=5) hv.2 hx1 hy1;have hs3:cH (ls.getD i.toNat 0) x y<6:=om;have e1:(i+1).toNat=i.toNat+1:=om;have hrr:(r++[goI al rs q (cH (ls.getD i.toNat 0) x y)]).length<=6-j:=by simp;omega
  have hr6:r.length<=6:=om;have hcl:(cH (ls.getD i.toNat 0) x y).toNat<=(List.drop (q.toNat*6) (ints (gJ al rs))).length:=by rw[Bj,fE,htl];omega
  clear hv
  simp-implicitDefEqProofs (maxSteps:=9^7) (disch:=try exact Dz) only[↓DN,↓kRet,UP,simprocAttr,↓yZ,hc,XV,htl,Cp,↓ih,uX,qJ,Tryz.f34];rw[aOU hk,e1];simp only[Ao,As,Am,Ac,Dd,Ck 1]
theorem MV(hn:4<=n)(hL:2^60<=L){al al2 x y:Int}{rs:List (List Int)}{z:Nat}{cs2:List D}(hs:bN rs)(hx0:0<=x)(hx1:x<=5)(hy0:0<=y)(hy1:y<=5){ls:List Int}(hle:ls=aC al2)(hls:∀v∈ls,0<=v/\v<=5)(hll:ls.length<=6)(ha2:bH al2=true){k:KE R}:∀(j:Nat) (i:Int) (m:Nat) (d:List (List Int)) (len e:Nat) (h0:0<=i) (hi:i+j=rs.length) (hm:j<m) (hd:(d.length:Int)<=i) (hlen:len=d.length) (he:e=eR d),
  aS env (aA env L n) L 0 (W8 (W2 (W1 [2]))) Bz6 (jQ 0) (U1 (Z2 (U2 (U1 (Z4 (U16 (U8 (U4 (U2 (U1 (Z2 (U16 (U8 (U4 (U2 (U1 ([]))))))))))))))))) m (Y1 (nI x::nI y::Y2 (Y1 (.ptr 0 0 0::.d (.bool false)::.d (.ivs rs.length (ints (gJ al rs)))::.ptr 1 0 0::Y16 (Y8 (Y4 (Y2 (Y1 (nI (rs.length)::nI i::Y16 (Y8 (Y4 (Y2 (Y1 ([])))))))))))))) [.box [nI 0,.sl 2 0 0 0,.sl 3 0 0 0],.box [nI al2,.sl 4 0 0 len,.sl 5 0 0 z],.arr [] 0 0,.arr [] 0 0,.arr (aP d) e 0,.arr cs2 1 0] k
  =k (.exit 0) (Y1 (nI x::nI y::Y2 (Y1 (.ptr 0 0 0::.d (.bool false)::.d (.ivs rs.length (ints (gJ al rs)))::.ptr 1 0 0::Y16 (Y8 (Y4 (Y2 (Y1 (nI (rs.length)::nI (rs.length)::Y16 (Y8 (Y4 (Y2 (Y1 ([])))))))))))))) [.box [nI 0,.sl 2 0 0 0,.sl 3 0 0 0],.box [nI al2,.sl 4 0 0 (d++f7 al rs x y ls i.toNat j).length,.sl 5 0 0 z],.arr [] 0 0,.arr [] 0 0,.arr (aP (d++f7 al rs x y ls i.toNat j)) (eR (d++f7 al rs x y ls i.toNat j)) 0,.arr cs2 1 0]:=by
 intro j;have hrl:=hs.1
 induction j with
 |zero=>
  intro i m d len e h0 hi hm hd hlen he;obtain _|m:=m;omega;obtain rfl:i=rs.length:=om;subst hlen;subst he;have e1:f7 al rs x y ls (rs.length:Int).toNat 0=[]:=rfl;rw[e1,Ah]
  simp-implicitDefEqProofs (maxSteps:=9^7) (disch:=try exact Dz) only[↓DN,↓kRet,UP,simprocAttr,Ak,mT,lK,Tryz.f34]
 |succ j ih=>
  intro i m d len e h0 hi hm hd hlen he;obtain _|m:=m;omega;subst hlen;have hc:i<rs.length:=om;have hk:i.toNat<rs.length:=om;have e1:(i+1).toNat=i.toNat+1:=om;have e2:((i.toNat:Nat):Int)=i:=om;have loop_a:=fun {R:Type} {k:KE R}=>MQ (R:=R) (L:=L) (n:=n) hn hL (al:=al) (al2:=al2) (q:=i) (z:=z) (cs2:=cs2) (cn:=aP d) (e:=e) (d:=d.length) hs h0 hc hx0 hx1 hy0 hy1 hls hll (k:=k) ls.length 0 L [] 0 om om om sm rfl;simp only[Cf,Ax,Am,Ab,Ag,gY]at loop_a;have hd2:((d++[m8 al rs x y ls i]).length:Int)<=i+1:=by simp;omega
  have hd3:d.length<=4294967295:=om;have ht:(aP d).take d.length=aP d:=CH (Ad _);have hrw:(m8 al rs x y ls i).length<=6:=by rw[aFN];exact hll
  have he2:1=eR (d++[m8 al rs x y ls i]):=aQW.symm;have hl2:d.length+1=(d++[m8 al rs x y ls i]).length:=sm;rw[aJ1,e2];subst hle
  rcases aQr d with h1|h1
  ·have he0:e=0:=om;subst he0
   simp-implicitDefEqProofs (maxSteps:=9^7) (disch:=try exact Dz) only[↓DN,↓kAsg,↓kRet,UP,simprocAttr,↓gI,LA,hc,↓loop_a,ht,WY,↓ih,mT,lK,Tryz.f34];rw[e1];simp only[Ao,As,Am,Dd,Ck 1]
  ·have he0:e=1:=om;subst he0
   simp-implicitDefEqProofs (maxSteps:=9^7) (disch:=try exact Dz) only[↓DN,↓kAsg,↓kRet,UP,simprocAttr,↓gI,LA,hc,↓loop_a,ht,WY,↓ih,mT,lK,Tryz.f34];rw[e1];simp only[Ao,As,Am,Dd,Ck 1]
theorem aDO{l:List Bool}(hl:l.length<=4294967296):HK 1 [.d (.ivs l.length (aK l))] []=some (.sl 0 0 0 l.length,[.arr (aK l) 1 0]):=by
 have h2:cG [] 1 (.d (.ivs l.length (aK l)))=some (l.length,aK l):=by
  simp only[cG,gU,Bu,if_true]
 have h3:l.length<=bI:=by unfold bI;omega
 simp only[HK,h2,h3,if_true]<;>rfl
theorem aL8{R:Type}{E:Env}{call:aX}{h h2:H}{f:FuncId}{args:List A}{r:A}{k:KA R}(hs:args.all x4=true)(hm:(E.hint f).mode=0)(hc:call f args []=some (r,h2)):
  aW E call h f args k=k (mapA (back [] h.length h2.length) r) (h++h2.map (mapO (back [] h.length h2.length))):=by
 have hid:=F3 hs;unfold aW;rw[hid,GD,gB _ hid];have hpk:pack h []=[]:=rfl;rw[hpk];unfold bV;rw[hm,hc];simp only[Ab,Cw,true_and,closed,Cc,Bx,if_true,bE]
theorem F1{hq:H}{k:KA R}(hn:1<=n)(l:List Bool)(hl:l.length<=4294967296):
  aW env (aA env L n) hq 90 [.d (.ivs l.length (aK l))] k=k (.sl hq.length 0 0 l.length) (hq++[.arr (aK l) 1 0]):=by
 obtain _|n:=n;omega;rw[aL8 rfl jN (by rw[CS];exact aDO hl)];simp[mapA,back,mapO]
theorem WW(hn:6<=n)(al x y:Int)(rs:List (List Int))(ac:List Bool)(hs:bN rs)(ha:ac.length<=4294967296)(hL:2^60<=L):aA env L n 34 [.agg [nI al,.d (.ivs rs.length (aP rs)),.d (.ivs ac.length (aK ac))],nI x,nI y] []=some (.tup [.agg [nI (OU al x y (kY al rs ac x y)),.d (.ivs (C9 al rs x y (kY al rs ac x y)).length (aP (C9 al rs x y (kY al rs ac x y)))),.d (.ivs (CP ac (kY al rs ac x y)).length (aK (CP ac (kY al rs ac x y))))],.d (.bool (kY al rs ac x y))],[]):=by
 have hrl:=hs.1;unfold kY
 cases hv:d9 al rs ac with
 |false=>
  obtain _|n:=n;omega
  simp-implicitDefEqProofs (maxSteps:=9^7) (disch:=try exact Dz) only[↓DN,↓kAsg,↓kRet,UP,simprocAttr,↓bU,hv,OU,C9,CP,CI,VT,mA,kC,Tryz.f34]
 |true=>
  cases hx:aT x with
  |false=>
   obtain _|n:=n;omega
   simp-implicitDefEqProofs (maxSteps:=9^7) (disch:=try exact Dz) only[↓DN,↓kAsg,↓kRet,UP,simprocAttr,↓bU,↓fF,hv,hx,OU,C9,CP,CI,VT,mA,kC,Tryz.f34]
  |true=>
   cases hy:aT y with
   |false=>
    obtain _|n:=n;omega
    simp-implicitDefEqProofs (maxSteps:=9^7) (disch:=try exact Dz) only[↓DN,↓kAsg,↓kRet,UP,simprocAttr,↓bU,↓fF,hv,hx,hy,OU,C9,CP,CI,VT,mA,kC,Tryz.f34]
   |true=>
    have bx:=cU.1 hx;have by':=cU.1 hy
    have hw:=yJ hv;have hll:=dD (bO al x y);have hal:=(nY hv).2.2.2;have loop_a:=fun {R:Type} {n:Nat} (hn:4<=n) {k:KE R}=>MV (R:=R) (L:=L) (n:=n) hn hL (al:=al) (al2:=bO al x y) (z:=ac.length) (cs2:=aK ac) hs bx.1 bx.2 by'.1 by'.2 (ls:=aC (bO al x y)) rfl d7 hll (qO hal hx hy) (k:=k) rs.length 0 L [] 0 0 om om om sm rfl rfl
    simp only[Cf,Am,CI]at loop_a;have hrn:(f7 al rs x y (aC (bO al x y)) 0 rs.length).length=rs.length:=sR;have htk:∀z,z=rs.length->(aP (f7 al rs x y (aC (bO al x y)) 0 rs.length)).take z=aP (f7 al rs x y (aC (bO al x y)) 0 rs.length):=fun z hz=>CH (by rw[hrn];omega);have htk2:=htk rs.length rfl;have hbt:(aK ac).take ac.length=aK ac:=zP (Ad _)
    rcases aQr (f7 al rs x y (aC (bO al x y)) 0 rs.length)with h1|h1
    ·have hlen:=nY hv
     have:eR (f7 al rs x y (aC (bO al x y)) 0 rs.length)=1:=by
      unfold eR;rw[if_neg (by intro hc;rw[hc]at hrn;simp at hrn;omega)]
     omega
    ·obtain _|n:=n;omega
     simp-implicitDefEqProofs (maxSteps:=9^7) (disch:=try exact Dz) only[↓DN,↓kAsg,↓kRet,UP,simprocAttr,↓bU,↓fF,↓HR,↓kB,↓F1,LA,hv,hx,hy,↓loop_a,h1,hrn,htk2,hbt,OU,C9,CP,mA,kC,Tryz.f34]
theorem VC{hq:H}{k:KA R}(hn:6<=n)(al x y:Int)(rs:List (List Int))(ac:List Bool)(hs:bN rs)(ha:ac.length<=4294967296)(hL:2^60<=L):aW env (aA env L n) hq 34 [.agg [nI al,.d (.ivs rs.length (aP rs)),.d (.ivs ac.length (aK ac))],nI x,nI y] k=k (.tup [.agg [nI (OU al x y (kY al rs ac x y)),.d (.ivs (C9 al rs x y (kY al rs ac x y)).length (aP (C9 al rs x y (kY al rs ac x y)))),.d (.ivs (CP ac (kY al rs ac x y)).length (aK (CP ac (kY al rs ac x y))))],.d (.bool (kY al rs ac x y))]) hq:=
 cS rfl (WW hn al x y rs ac hs ha hL) rfl (.inr rfl)
end
section
variable{R:Type}{L n:Nat}
theorem aPs{R:Type}{L n id:Nat}{hq:H}{k:KA R}(hn:5<=n)(hL:2^60<=L){P:List Sys}(hP:cW P)(hv:bQ P=true){a b:Aut}(ha:AOK a)(hb:AOK b)(x c:Int)(o:List Int)(hx:inBk P a b x)(hc0:0<=c)(hc6:c<6)(ho:o.length<=4200000000)(hid:hq[id]? =some (.arr (ints o) 1 0)):
  aW env (aA env L n) hq 149 (nI x::nI c::.sl id 0 0 o.length::[tabP a,.iptr [.int .i64 b.nx.length],.iptr [.int .i64 a.nx.length],tabP b,parP P].map A.d) k
  =k (.sl id 1 0 (o++nxBk P a b x c).length) (hq.set id (.arr (ints (o++nxBk P a b x c)) 1 1)):=by
 refine aBE hid (by simp[idsL,idsA]) nK ?_;have hpl:aH [id] id=some 0:=by simp[aH]
 simp only[Af,Al,aE,mapA,hpl];exact SJ hn hL hP hv ha hb hx hc0 hc6 o ho
theorem aPo{hq:H}{k:KA R}(hn:1<=n){P:List Sys}(hv:bQ P=true){a b:Aut}(ha:AOK a)(hb:AOK b){rs:List D}(x:Int)(hx:inBk P a b x):
  aW env (aA env L n) hq 151 (nI x::[.iptr [.iptr [.int .i64 a.al,.ivs a.nx.length rs,.ivs a.ac.length (aK a.ac)]],.iptr [.int .i64 b.nx.length],.iptr [.int .i64 a.nx.length],autP b].map A.d) k=k (.d (.bool (glBk a b x))) hq:=
 cS rfl (SK hn hv ha hb hx) rfl (.inl rfl)
theorem aR7{k:KA R}{o0 o1 o2 o3 o4 o7:O}(hn:3<=n)(hL:2^60<=L):aW env (aA env L n) [o0,o1,o2,o3,o4,.arr [.nils] 1 0,.arr [.bool true] 1 0,o7] 89 [.agg [nI 0,.sl 5 0 0 1,.sl 6 0 0 1]] k=k (.d (.ivs 1 (ints (gJ 0 [[]])))) [o0,o1,o2,o3,o4,.ice [.nils] 1 0,.ice [.bool true] 1 0,o7]:=
 yT (ids:=[5,6]) (ord:=[5,6]) (blk2:=[.ice [.nils] 1 0,.ice [.bool true] 1 0]) A6 rfl rfl rfl rfl rfl (aD3 hn hL) rfl (Ad _) rfl
theorem aSp:env.P.underlying 169=some (.pointer 33):=kr
theorem aPO{h:H}:cA env .eql 169 h (.d .nilp) (.d .nilp)=some (.d (.bool true),h):=by
 simp[cA,aBin,aNil,aSp,eqlA]
theorem aAi{L:Nat}{a b:A}{id g o len f1 f2:Nat}{c1 c2:List A}:KV L 152 [a,.sl id g o len,b,.clo f1 c1,.clo f2 c2]:=fun _ _ _ _=>fI wA
theorem aA0(hn:14<=n)(hL:2^60<=L){P:List Sys}(hP:cW P)(hv:bQ P=true){b:Aut}(hb:AOK b):
  aA env L n 82 [.d (.ivs P.length (sysD P)),.d .nilp,.agg [nI b.al,.d (.ivs b.nx.length (aP b.nx)),.d (.ivs b.ac.length (aK b.ac))]] []=some (.tup [.d (.str (txt (brkG P b).1)),.d (.bool (brkG P b).2)],[]):=by
 obtain⟨h3,h1,hs⟩:=dH hv;obtain⟨sz0,sz1⟩:=CK h3 hs;obtain⟨sb,wb,b1,b2,b3⟩:=eX hb;have hlb:=oG b.al b.nx;have hp0:0<cI P:=KM om hs;have hpos:0<cI P*b.nx.length:=Int.mul_pos hp0 om
 have hle:cI P*b.nx.length<=49152:=by
  have t1:cI P*b.nx.length<=4096*12:=Cy (Cm sz1 om) (Dn om om);omega
 have et:(((cI P*b.nx.length).toNat:Nat):Int)=cI P*b.nx.length:=Cn om
 have hin:∀x,inBk P cV b x↔0<=x/\x<cI P*b.nx.length:=by
  intro x;have e1:((cV.nx.length:Nat):Int)=1:=rfl;unfold inBk;rw[e1,Int.mul_one]
 have hp:=fun {n:Nat} (hn:9<=n)=> @aEe L n 2 hn hL (inBk P cV b) (glBk cV b) 149 151 [tabP cV,.iptr [.int .i64 b.nx.length],.iptr [.int .i64 cV.nx.length],tabP b,parP P] [.iptr [.iptr [.int .i64 cV.al,.ivs cV.nx.length [.nils],.ivs cV.ac.length (aK cV.ac)]],.iptr [.int .i64 b.nx.length],.iptr [.int .i64 cV.nx.length],autP b] (cI P*b.nx.length).toNat (nxBk P cV b) (fun _ _=>1) (aC (parA P)) [0]
  (fun {R n id hq k} x c o h4 hI h0 h6 ho hid=>aPs om hL hP hv WQ hb x c o hI h0 h6 ho hid)
  (fun {R n hq k} x h2 hI=>aPo om hv WQ hb x hI)
  (fun x hI=>by rw[et];exact(hin x).1 hI) om (fun x hx=>by simp at hx;subst hx;exact(hin 0).2 ⟨Cb 0,hpos⟩) (fun x c hI h0 h6 y hy=>(hin y).2 (BO hs hb ⟨h0,h6⟩ hI.1 y ((O5 hs ⟨h0,h6⟩ hI.1 y).1 hy))) (fun x c=>by unfold nxBk;rw[Ar];exact aDy h3 hs) d7 (dD _) sm (by simp only[Ac,Ab];omega)
 have kl_p:=fun {R:Type} {n:Nat} {k:A->Option R} (hn:9<=n)=>oQ (k:=k) (hp (n:=n) hn) rfl;have er:QK (nxBk P cV b) (glBk cV b) (aC (parA P)) [0] (cI P*b.nx.length).toNat=brkG P b:=rfl;rw[er,et]at kl_p;have e2:cV.nx.length=1:=rfl;have e3:cV.ac.length=1:=rfl;have e4:cV.al=0:=rfl;have e5:cV.nx=[[]]:=rfl;have e6:aK cV.ac=[.bool true]:=rfl;have hi1:∀v:Int,ints [v]=[.int .i64 v]:=fun _=>rfl;simp only[hi1,Ac,Ab,Ag,tabP,autP,parP,e3,e4,e5,e6,Int.natCast_one]at kl_p;obtain⟨r0,r1⟩:=P0 hv
 have hor:iOr .i64 (parA P) 0=parA P:=by
  obtain⟨z,hz⟩:∃z:Nat,parA P=z:=⟨(parA P).toNat,by omega⟩
  rw[hz,show(0:Int)=((0:Nat):Int)from rfl,XB om om,Nat.or_zero]
 have hw1:IntKind.i64.wrap (cI P*1)=cI P:=by rw[Int.mul_one];exact dM om om
 have hw2:IntKind.i64.wrap (cI P*b.nx.length)=cI P*b.nx.length:=dM om om;clear hp er hin;generalize brkG P b=r at *;obtain _|n:=n;omega
 simp-implicitDefEqProofs (maxSteps:=9^7) (disch:=try exact Dz) only[↓DN,↓kAsg,↓kRet,UP,simprocAttr,↓aGe,↓eT,↓HR,↓aB9,↓gI,hv,aPO,↓aR7,↓aAi,↓kl_p,hor,hw2,Int.mul_one,aAv,J4,Tryz.f82]
end
theorem aMs{e:Edge}{l:List Edge}{q c:Int}(h1:e.fr=q)(h2:e.lt=c):eV (e::l) q c=e.to::eV l q c:=by
 unfold eV;rw[El (by simp[h1,h2]),Af]
theorem aBS{e:Edge}{l:List Edge}{q c:Int}(h:¬(e.fr=q/\e.lt=c)):eV (e::l) q c=eV l q c:=by
 unfold eV;rw[Ek (by simpa using h)]
theorem aOi{R:Type}{L n:Nat}(hn:1<=n){q l:Int}{es:List Edge}(hl:es.length<=4294967296){k:KE R}:∀(j i m:Nat) (o:List Int) (len:Nat) (hi:i+j=es.length) (hm:j<m) (hlen:len=o.length) (ho:o.length+j<=4294967296),
  aS env (aA env L n) L 0 [] Bz47 (A2 0) (U2 (Z2 (U4 (Z4 (U32 (U32 (U2 (U1 ([]))))))))) m (Y2 (nI q::nI l::Y4 (.d .nils::.sl 0 0 0 len::.d (.ivs es.length (aJ es))::nI i::Y32 (Y32 (Y2 (Y1 ([]))))))) [.arr (ints o) 1 0] k
  =k (.exit 0) (Y2 (nI q::nI l::Y4 (.d .nils::.sl 0 0 0 (o++eV (es.drop i) q l).length::.d (.ivs es.length (aJ es))::nI (es.length)::Y32 (Y32 (Y2 (Y1 ([]))))))) [.arr (ints (o++eV (es.drop i) q l)) 1 0]:=by
 intro j
 induction j with
 |zero=>
  intro i m o len hi hm hlen ho;obtain _|m:=m;omega;obtain rfl:i=es.length:=om;subst hlen
  simp-implicitDefEqProofs (maxSteps:=9^7) (disch:=try exact Dz) only[↓DN,↓kRet,UP,simprocAttr,Ak,lX,lY,Tryz.f252];simp[eV]
 |succ j ih=>
  intro i m o len hi hm hlen ho;obtain _|m:=m;omega;subst hlen;have hk:i<es.length:=om;have hc:(i:Int)<es.length:=om;have hi0:(0:Int)<=i:=om;rw[bP hk (d:=default)]
  by_cases h1:(es.getD i default).fr=q
  ·by_cases h2:(es.getD i default).lt=l
   ·have e:eV (es.getD i default::es.drop (i+1)) q l=(es.getD i default).to::eV (es.drop (i+1)) q l:=aMs h1 h2;have ih':=ih (i+1) m (o++[(es.getD i default).to]) (o.length+1) om om sm (by rw[Ai,Ci];omega);rw[cs1 i]at ih';rw[e];simp only[Ao,As,Am]at ih';clear ih e
    simp-implicitDefEqProofs (maxSteps:=9^7) (disch:=try exact Dz) only[↓DN,↓kRet,UP,simprocAttr,LE,hc,hi0,h1,h2,↓ih',lX,lY,Tryz.f252]
   ·have e:eV (es.getD i default::es.drop (i+1)) q l=eV (es.drop (i+1)) q l:=aBS fun h=>h2 h.2;have ih':=ih (i+1) m o o.length om om rfl om;rw[cs1 i]at ih';rw[e];clear ih e
    simp-implicitDefEqProofs (maxSteps:=9^7) (disch:=try exact Dz) only[↓DN,↓kRet,UP,simprocAttr,LE,hc,hi0,h1,h2,↓ih',lX,lY,Tryz.f252]
  ·have e:eV (es.getD i default::es.drop (i+1)) q l=eV (es.drop (i+1)) q l:=aBS fun h=>h1 h.1;have ih':=ih (i+1) m o o.length om om rfl om;rw[cs1 i]at ih';rw[e];clear ih e
   simp-implicitDefEqProofs (maxSteps:=9^7) (disch:=try exact Dz) only[↓DN,↓kRet,UP,simprocAttr,LE,hc,hi0,h1,↓ih',lX,lY,Tryz.f252]
theorem aDu{L n:Nat}(hn:5<=n)(hL:2^60<=L)(N:Net)(i:Nat)(q l:Int)(hi:i<N.ps.length)(h1:N.ps.length<=1000)(s:Sys)(hsy:N.ps.getD i default=s)(hes:s.es.length<=4294967296)(h0:0<=l)(h6:l<6):
  aA env L n 252 [.agg [.d (.ivs N.ps.length (sysD N.ps)),.d (.ivs N.us.length (jW N.us)),.d (.ivs N.start.length (ints N.start)),nI N.ls,nI N.kind,nI N.goal],nI i,nI q,nI l] []=some (.d (.ivs (choS s l q).length (ints (choS s l q))),[]):=by
 have g1:=aNY hi;have g2:=aSS hi;rw[hsy]at g1 g2;have hc:¬((N.ps.length:Int)<=i):=om;have hc1:(i:Int)<N.ps.length:=om;have hi0:(0:Int)<=i:=om;have loop_c:=fun {R n k} hn=> @aOi R L n hn q l s.es hes k s.es.length 0 L [] 0 om om rfl (by simp;omega);simp only[Ax,Aw,Am,gY]at loop_c;clear hsy;unfold choS
 cases hb:bG s.al l with
 |true=>
  simp only[if_true];generalize eV s.es q l=w at *;have e4:(ints w).take w.length=ints w:=eW (Ad _);obtain _|n:=n;omega
  simp-implicitDefEqProofs (maxSteps:=9^7) (disch:=try exact Dz) only[↓DN,↓kAsg,↓kRet,UP,simprocAttr,↓kF,NE,Bj,Br,hc,hc1,hi0,g1,g2,hb,↓loop_c,e4,BM,vN,Tryz.f252]
 |false=>
  simp only[Ap,if_false];obtain _|n:=n;omega
  simp-implicitDefEqProofs (maxSteps:=9^7) (disch:=try exact Dz) only[↓DN,↓kAsg,↓kRet,UP,simprocAttr,↓kF,NE,Bj,Br,hc,hc1,hi0,g1,hb,BM,vN,Tryz.f252]<;>rfl
end Ev
end Go.Proofs.YtahbdkmimmnadaaGreatDoor
