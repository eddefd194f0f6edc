/-
  Products as the reference searches them: what the search of a product of automata finds.
-/
import Derived.Test.YthlkcebdfbjdoaaGreatNetQ
set_option linter.unusedSimpArgs false
set_option linter.unusedVariables false
set_option maxRecDepth 8000
set_option maxHeartbeats 4000000
namespace Go.Proofs.YthlkcebdfbjdoaaGreat
namespace Ev
theorem jD:∀ {N:Nat} {l:List Int},l.Nodup->(∀x∈l,0<=x/\x<N)->l.length<=N
 |0,l,_,hr=>by
  cases l with
  |nil=>exact Ab _
  |cons x l=>have:=hr x Bi;omega
 |N+1,l,hn,hr=>by
  by_cases h:(N:Int)∈l
  ·have h1:=jD (N:=N) (l:=l.erase (N:Int)) (hn.erase (N:Int)) (fun x hx=>by
    rw[hn.mem_erase_iff]at hx;have:=hr x hx.2;omega)
   rw[List.length_erase_of_mem h]at h1;omega
  ·have h1:=jD (N:=N) hn (fun x hx=>by
    have:=hr x hx;have:x≠N:=fun e=>h (e▸hx);omega)
   omega
theorem O7{dist:List Int}{d:Int}:∀(ms out:List Int),out.Nodup->(addC dist d ms out).Nodup
 | [],out,h=>h
 |m::ms,out,h=>by
  unfold addC
  split
  ·rename_i hc
   refine O7 ms _ ?_;rw[Dt];exact⟨h,by simp,fun a ha b hb=>by simp at hb;subst hb;exact fun e=>hc.2 (e▸ha)⟩
  ·exact O7 ms out h
theorem UO{tab:List (List (List Int))}{dist:List Int}{k:Nat}{d:Int}:∀(vs out:List Int),out.Nodup->(bJ tab dist k d vs out).Nodup
 | [],out,h=>h
 |v::vs,out,h=>UO vs _ (O7 _ _ h)
section
variable{nx:Int->Int->List Int}{gl:Int->Bool}{ls:List Int}{aO:Nat}{tab:List (List (List Int))}
theorem aUS:aAV nx ls gl aO ((List.range aO).map (d8 gl)) 0:=by
 refine⟨by simp,fun i hi=> ?_⟩
 have e:((List.range aO).map (d8 gl)).getD i 0=d8 gl i:=by
  rw[Aa,Bd,List.getElem?_range hi];rfl
 rw[e]
 by_cases hg:gl i=true
 ·refine .inl ⟨0,Ab _,by unfold d8;rw[if_pos hg];rfl,VO.2 hg,fun e he=>by omega⟩
 ·refine .inr ⟨by unfold d8;rw[if_neg hg],fun e he ha=> ?_⟩;obtain rfl:e=0:=by omega
  exact hg (VO.1 ha)
theorem aRG(ht:Tab nx ls aO tab):Full nx ls gl aO (dS tab (aO+1) 1 ((List.range aO).map (d8 gl))):=by
 have:=aPR ht (aO+1) 0 ((List.range aO).map (d8 gl)) aUS (by
  have:=List.countP_le_length (p:=fun(x:Int)=>decide (x<0)) (l:=(List.range aO).map (d8 gl));simp at this|-;omega)
 simpa using this
theorem PS{d B:Int}(hd:d<=B):∀(j i:Nat) (q:List Int×Bool),(∀x∈q.1,x<=B)->∀x∈(dZ tab d j i q).1,x<=B
 |0,_,q,h=>h
 |j+1,i,q,h=>by
  simp only[dZ]
  split
  ·refine PS hd j _ _ fun x hx=> ?_
   rcases Dm hx with hx|rfl
   ·exact h x hx
   ·exact hd
  ·exact PS hd j _ q h
theorem aCF{B:Int}:∀(j:Nat) (d:Int) (dist:List Int),d+j<=B+1->(∀x∈dist,x<=B)->∀x∈dS tab j d dist,x<=B
 |0,d,dist,_,h=>h
 |j+1,d,dist,hd,h=>by
  have hr:=PS (tab:=tab) (d:=d) (B:=B) (by omega) dist.length 0 (dist,false) h;simp only[dS]
  split
  ·exact aCF j (d+1) _ (by omega) hr
  ·exact hr
def Qs(nx:Int->Int->List Int)(ls:List Int)(gl:Int->Bool)(aO d:Nat)(at_:List Int):Prop:=(∀v∈at_,(0<=v/\v<aO)/\Far nx ls gl v d)/\at_≠[]/\at_.length<=aO
theorem aUq(ht:Tab nx ls aO tab){dist:List Int}(hf:Full nx ls gl aO dist)(htt:aO<=16777216):∀d at_,Qs nx ls gl aO (d+1) at_->at_.length<=16777216/\(∀x∈at_,0<=x/\x<aO)/\(∃e,e<ls.length/\bJ tab dist e d at_ []≠[])/\∀e,e<ls.length->bJ tab dist e d at_ []≠[]->Qs nx ls gl aO d (bJ tab dist e d at_ []):=by
 intro d at_ ⟨h1,h2,h3⟩
 have hmem:∀k x,k<ls.length->(x∈bJ tab dist k d at_ []↔∃v∈at_,x∈nx v (ls.getD k 0)/\(0<=x/\x<aO)/\Far nx ls gl x d):=by
  intro k x hk;rw[PP];simp only[Bo,false_or];have hl:ls.getD k 0∈ls:=by rw[Aa,Ae hk];exact Az hk
  constructor
  ·rintro⟨v,hv,g1,g2⟩;have hr:=(h1 v hv).1;rw[WE ht hr.1 hr.2 hk]at g1;have hx:=ht.rng v _ hr.1 hr.2 hl x g1;exact⟨v,hv,g1,hx,(GG hf hx.1 hx.2).1 g2⟩
  ·rintro⟨v,hv,g1,g2,g3⟩;have hr:=(h1 v hv).1;refine⟨v,hv,?_,(GG hf g2.1 g2.2).2 g3⟩;rw[WE ht hr.1 hr.2 hk];exact g1
 refine⟨by omega,fun x hx=>(h1 x hx).1,?_,?_⟩
 ·obtain⟨v,hv⟩:=List.exists_mem_of_ne_nil _ h2;obtain⟨hr,hfar⟩:=h1 v hv;obtain⟨l,hl,m,hm,hfm⟩:=N8 hfar;obtain⟨e,he,rfl⟩:=Cl hl;refine⟨e,he,fun hc=> ?_⟩;have hl2:ls.getD e 0=ls[e]:=by rw[Aa,Ae he];rfl
  have:m∈bJ tab dist e d at_ []:=(hmem e m he).2 ⟨v,hv,by rw[hl2];exact hm,ht.rng v _ hr.1 hr.2 hl m hm,hfm⟩;rw[hc]at this;cases this
 ·intro e he hne;refine⟨fun x hx=> ?_,hne,?_⟩
  ·obtain⟨v,hv,g1,g2,g3⟩:=(hmem e x he).1 hx;exact⟨g2,g3⟩
  ·refine jD (UO _ _ (by simp)) fun x hx=> ?_;obtain⟨v,hv,g1,g2,g3⟩:=(hmem e x he).1 hx;exact g2
end
def movT(nx:Int->Int->List Int)(ls:List Int)(aO:Nat):List (List (List Int)):=(List.range aO).map fun(v:Nat)=>ls.map (nx v)
def WO(nx:Int->Int->List Int)(gl:Int->Bool)(ls:List Int)(aO:Nat)(s:Int):List Int×Bool:=
 aBv (movT nx ls aO) ls (dS (movT nx ls aO) (aO+1) 1 ((List.range aO).map (d8 gl))) s
theorem aAL{nx:Int->Int->List Int}{ls:List Int}{aO:Nat}(hr:∀v c:Int,0<=v->v<aO->c∈ls->∀m∈nx v c,0<=m/\m<aO):Tab nx ls aO (movT nx ls aO):=by
 refine⟨by simp[movT],fun v hv=> ?_,hr⟩;rw[movT,Aa,Bd,List.getElem?_range hv];rfl
theorem aIM{nx:Int->Int->List Int}{gl:Int->Bool}{ls:List Int}{aO:Nat}{s:Int}(hr:∀v c:Int,0<=v->v<aO->c∈ls->∀m∈nx v c,0<=m/\m<aO)(ha:ls.Pairwise (·<·))(h0:0<=s)(h1:s<aO):FJ (Hits nx ls [s] gl) (WO nx gl ls aO s):=
 aQp (aAL hr) (aRG (aAL hr)) ha h0 h1
theorem S3{L n:Nat}(hn:11<=n)(hL:2^60<=L){n2:Nat}{d2:List D}{kd go:Int}{al s:Int}{start zs:List Int}{nx:Int->Int->List Int}{gl:Int->Bool}{tt:Nat}(hzl:zs.length<=1000)(hsl:start.length=zs.length)(hpr:∀i,i<=zs.length->0<=(zs.take i).foldl (·*·) 1/\(zs.take i).foldl (·*·) 1<=16777216)(hzt:zs.foldl (·*·) (1:Int)=(tt:Int))(hzp:∀z∈zs,0<z/\z<=65536)(hen:OQ zs start 0)(hes:encN zs start 0=s)(hs0:0<=s)(hs1:s<tt)
  (he_z:∀ {n:Nat},2<=n->aA env L n 129 [.agg [.d (.ivs 0 []),.d (.ivs n2 d2),.d (.ivs start.length (ints start)),nI al,nI kd,nI go]] []=some (.d (.ivs zs.length (ints zs)),[]))
  (kc_x:∀(v:Nat) (l:Int),v<tt->l∈aB al->∀ {R:Type} {n:Nat} {hq:H} {k:KA R},7<=n->a6 env (aA env L n) hq 150 [.agg [.d (.ivs 0 []),.d (.ivs n2 d2),.d (.ivs start.length (ints start)),nI al,nI kd,nI go],.d (.ivs zs.length (ints zs)),.d (.ivs zs.length (ints (decN zs v))),nI l] k=k (.d (.ivs (nx v l).length (ints (nx v l)))) hq)
  (kl_x:∀(v:Nat),v<tt->∀ {R:Type} {n:Nat} {k:A->Option R},2<=n->qK (aA env L n) 131 [.agg [.d (.ivs 0 []),.d (.ivs n2 d2),.d (.ivs start.length (ints start)),nI al,nI kd,nI go],.d (.ivs zs.length (ints (decN zs v))),.d (.ivs ((movT nx (aB al) tt).getD v []).length (aN ((movT nx (aB al) tt).getD v [])))] k=k (.d (.bool (gl v))))
  (hw:∀v c:Int,0<=v->v<tt->c∈aB al->(nx v c).length<=64/\∀m∈nx v c,0<=m/\m<tt):
  aA env L n 105 [.agg [.d .nils,.d (.ivs n2 d2),.d (.ivs start.length (ints start)),nI al,nI kd,nI go]] []=some (.tup [.d (.str (txt (WO nx gl (aB al) tt s).1)),.d (.bool (WO nx gl (aB al) tt s).2)],[]):=by
 have htt:tt<=16777216:=by have:=(hpr zs.length (Ab _)).2;rw[Cr,hzt]at this;omega
 have hrng:∀v c:Int,0<=v->v<tt->c∈aB al->∀m∈nx v c,0<=m/\m<tt:=fun v c h1 h2 h3=>(hw v c h1 h2 h3).2;have hT:=aAL hrng;have hF:=aRG (gl:=gl) hT;have hq:=aUq hT hF htt;have hls:=b9 al;have hTl:(movT nx (aB al) tt).length=tt:=by simp[movT]
 have hTin:BQ (movT nx (aB al) tt) tt:=by
  refine⟨hTl,fun i hi=> ?_⟩;rw[hT.row i hi];refine⟨by simp;omega,fun r hr=> ?_⟩;obtain⟨c,hc,rfl⟩:=Bq.1 hr;have:=hw i c (by omega) (by omega) hc;exact⟨by omega,this.2⟩
 have hkk:∀kk,kk<(aB al).length->∀i,i<tt->kk<((movT nx (aB al) tt).getD i []).length/\(((movT nx (aB al) tt).getD i []).getD kk []).length<=64:=by
  intro kk hk i hi;rw[hT.row i hi];refine⟨by simpa using hk,?_⟩;rw[Aa,Bd,Ae hk];exact(hw i _ (by omega) (by omega) (Az hk)).1
 have kc_z:=fun {R:Type} {n:Nat} (hn:2<=n) {k:KA R}=> @tB R env (aA env L n) [.arr [] 0 0,.box [.sl 0 0 0 0,.d (.ivs n2 d2),.d (.ivs start.length (ints start)),nI al,nI kd,nI go]] [.arr [] 0 0] [.ice [] 0 0] [.ice [] 0 0,.box [.sl 0 0 0 0,.d (.ivs n2 d2),.d (.ivs start.length (ints start)),nI al,nI kd,nI go]] 129 [.agg [.sl 0 0 0 0,.d (.ivs n2 d2),.d (.ivs start.length (ints start)),nI al,nI kd,nI go]] [.agg [.d (.ivs 0 []),.d (.ivs n2 d2),.d (.ivs start.length (ints start)),nI al,nI kd,nI go]] _ k [0] [0] AT rfl kr rfl rfl rfl (he_z hn) rfl (by simp) rfl;have loop_a:=fun {R:Type} {n:Nat} (hn:1<=n) {k:KE R}=> @ZV R L n hn (.ivs n2 d2) (.ivs start.length (ints start)) (.int .i64 kd) (.int .i64 go) al zs hzl hpr k zs.length 0 L (by omega) (by omega);have kc_m:=fun {R:Type} {n:Nat} (hn:9<=n) {k:KA R}=> @tB R env (aA env L n) [.box [.sl 1 0 0 0,.d (.ivs n2 d2),.d (.ivs start.length (ints start)),nI al,nI kd,nI go],.ice [] 0 0] [.ice [] 0 0] [.ice [] 0 0] [.box [.sl 1 0 0 0,.d (.ivs n2 d2),.d (.ivs start.length (ints start)),nI al,nI kd,nI go],.ice [] 0 0] 130 [.agg [.sl 1 0 0 0,.d (.ivs n2 d2),.d (.ivs start.length (ints start)),nI al,nI kd,nI go],.d (.ivs zs.length (ints zs)),nI tt] [.agg [.d (.ivs 0 []),.d (.ivs n2 d2),.d (.ivs start.length (ints start)),nI al,nI kd,nI go],.d (.ivs zs.length (ints zs)),nI tt] _ k [1] [1] A7 rfl kr rfl rfl rfl (aIG hn hL hzl htt hzp kc_x) rfl (by simp) rfl
 have loop_b:=fun {R:Type} {n:Nat} (hn:4<=n) {k:KE R}=> @aAn R L n hn hL (.ivs n2 d2) (.ivs start.length (ints start)) (.int .i64 kd) (.int .i64 go) al zs (movT nx (aB al) tt) tt zs.length gl hzl htt hzp hTl kl_x k tt 0 L (List.replicate tt 0) tt (by omega) (by omega) rfl (by simp);have hd0:((List.range tt).map (d8 gl)).length=tt:=by simp
 have hd1:(dS (movT nx (aB al) tt) (tt+1) 1 ((List.range tt).map (d8 gl))).length=tt:=hF.1;have kc_d:∀ {R:Type} {n:Nat} (hn:4<=n) {k:KA R},a6 env (aA env L n) [.box [.sl 2 0 0 0,.d (.ivs n2 d2),.d (.ivs start.length (ints start)),nI al,nI kd,nI go],.arr (ints ((List.range tt).map (d8 gl))) 1 0,.ice [] 0 0] 133 [.d (.ivs (movT nx (aB al) tt).length (tabD (movT nx (aB al) tt))),.sl 1 0 0 ((List.range tt).map (d8 gl)).length] k=k (.tup []) [.box [.sl 2 0 0 0,.d (.ivs n2 d2),.d (.ivs start.length (ints start)),nI al,nI kd,nI go],.arr (ints (dS (movT nx (aB al) tt) (tt+1) 1 ((List.range tt).map (d8 gl)))) 1 0,.ice [] 0 0]:=fun {R n} hn {k}=>UL (id:=1) rfl rfl DZ rfl (aJq hn hL hTin htt _ hd0);have kc_e:=fun {R:Type} {n:Nat} (hn:2<=n) {hq:H} {k:KA R}=> @aGj R L n hq k hn zs start hzl hsl hen hL
 have hQ0:0<=(dS (movT nx (aB al) tt) (tt+1) 1 ((List.range tt).map (d8 gl))).getD s.toNat 0->Qs nx (aB al) gl tt ((dS (movT nx (aB al) tt) (tt+1) 1 ((List.range tt).map (d8 gl))).getD s.toNat 0).toNat [s]:=by
  intro h;refine⟨fun v hv=> ?_,by simp,by simp;omega⟩;simp at hv;subst hv;exact⟨⟨hs0,hs1⟩,(GG hF hs0 hs1).1 (by omega)⟩
 have hdb:(dS (movT nx (aB al) tt) (tt+1) 1 ((List.range tt).map (d8 gl))).getD s.toNat 0<=16777300:=by
  have hk:s.toNat<(dS (movT nx (aB al) tt) (tt+1) 1 ((List.range tt).map (d8 gl))).length:=by omega
  refine aCF (B:=16777300) _ _ _ (by omega) (fun x hx=> ?_) _ (lN hk);obtain⟨v,_,rfl⟩:=Bq.1 hx;unfold d8
  split<;>omega
 simp only[Aq,List.take_zero,List.foldl_nil,Am,hzt,<-List.range_eq_range']at loop_a loop_b;rw[hes]at kc_e;have em:(List.range tt).map (fun(x:Nat)=>(aB al).map (nx x))=movT nx (aB al) tt:=rfl;rw[em]at kc_m;rw[hTl]at kc_d loop_b;rw[hd0]at kc_d;unfold WO aBv;have loop_2:=fun {R:Type} {n:Nat} (hn:6<=n) {k:KE R} (j:Nat) (hj) (hm) (h1) (h2) (h3)=> @WX R L n hn hL (.ivs n2 d2) (.ivs start.length (ints start)) (.int .i64 kd) (.int .i64 go) al zs (aB al) _ _ tt zs.length tt hTin hd1 htt hkk hls (fun c hc=>cQ c hc) _ hq k j ((dS (movT nx (aB al) tt) (tt+1) 1 ((List.range tt).map (d8 gl))).getD s.toNat 0) L [s] [] hj hm h1 h2 h3;rw[hTl,hd1]at loop_2;clear hkk hTin kl_x kc_x he_z hw hrng
 have hgt0:0<(dS (movT nx (aB al) tt) (tt+1) 1 ((List.range tt).map (d8 gl))).getD s.toNat 0->Qs nx (aB al) gl tt (((dS (movT nx (aB al) tt) (tt+1) 1 ((List.range tt).map (d8 gl))).getD s.toNat 0).toNat-1+1) [s]:=by
  intro h;have h2:=hQ0 (by omega);rw[show((dS (movT nx (aB al) tt) (tt+1) 1 ((List.range tt).map (d8 gl))).getD s.toNat 0).toNat-1+1=((dS (movT nx (aB al) tt) (tt+1) 1 ((List.range tt).map (d8 gl))).getD s.toNat 0).toNat by omega];exact h2
 have loop_2:=fun {R:Type} {n:Nat} (hn:6<=n) {k:KE R} (h:0<(dS (movT nx (aB al) tt) (tt+1) 1 ((List.range tt).map (d8 gl))).getD s.toNat 0)=>loop_2 (R:=R) (n:=n) hn (k:=k) (((dS (movT nx (aB al) tt) (tt+1) 1 ((List.range tt).map (d8 gl))).getD s.toNat 0).toNat-1) (by omega) (by omega) hdb (hgt0 h) (by simp only[Ac];omega);clear hT hF hq hQ0 hgt0;generalize dS (movT nx (aB al) tt) (tt+1) 1 ((List.range tt).map (d8 gl))=dist at *;generalize movT nx (aB al) tt=tab at *;generalize(List.range tt).map (d8 gl)=dz at *;have hrep:(List.replicate tt (0:Int)).length=tt:=by simp
 have hsn:s.toNat<dist.length:=by omega
 have hs2:s<(dist.length:Int):=by omega
 have hs3:s<(tt:Int):=by omega
 have htt0:(0:Int)<=tt:=by omega
 have esn:ints [s]=[.int .i64 s]:=rfl;have e1:[s].length=1:=rfl;rw[esn,e1]at loop_2;have loop_z:=fun {R:Type} {n m:Nat} {k:KE R} (h:¬0<dist.getD s.toNat 0)=> @W7 R L n m (.ivs n2 d2) (.ivs start.length (ints start)) (.int .i64 kd) (.int .i64 go) al zs (aB al) dist tab tt zs.length tt (dist.getD s.toNat 0) [] [s] h k;rw[hTl,hd1,esn,e1]at loop_z;generalize hdd:dist.getD s.toNat 0=d at *;obtain _|L:=L;omega
 rcases Int.lt_trichotomy d 0 with hlt|heq|hgt
 ·have loop_z:=fun {R:Type} {n m:Nat} {k:KE R}=>loop_z (R:=R) (n:=n) (m:=m) (k:=k) (by omega);have hne:¬d=0:=by omega
  rw[if_pos hlt];clear loop_2;obtain _|n:=n;omega;simp -implicitDefEqProofs (maxSteps:=2000000) (disch:=try exact Dz) only[↓DN,↓kAsg,↓kRet,UP,simprocAttr,↓gP,↓kc_z,↓loop_a,↓kc_m,↓K7,↓loop_b,↓kc_d,↓kc_e,↓loop_z,hdd,hne,hs0,hs3,GQ,BS,Tryz.f105];rfl
 ·subst heq;have loop_z:=fun {R:Type} {n m:Nat} {k:KE R}=>loop_z (R:=R) (n:=n) (m:=m) (k:=k) (by omega);rw[if_neg (by omega)];clear loop_2;obtain _|n:=n;omega;simp -implicitDefEqProofs (maxSteps:=2000000) (disch:=try exact Dz) only[↓DN,↓kAsg,↓kRet,UP,simprocAttr,↓gP,↓kc_z,↓loop_a,↓kc_m,↓K7,↓loop_b,↓kc_d,↓kc_e,↓loop_z,hdd,hs0,hs3,GQ,BS,Tryz.f105];rfl
 ·have loop_y:=fun {R:Type} {n:Nat} (hn:6<=n) {k:KE R}=>loop_2 (R:=R) (n:=n) hn (k:=k) hgt;rw[if_neg (by omega)];simp only[Am]at loop_y;have ed:d.toNat-1+1=d.toNat:=by omega
  rw[ed]at loop_y;clear loop_2 loop_z;generalize gEnd tab dist (aB al) d.toNat [s]=ge at *;generalize nJ tab dist (aB al) d.toNat [s]=gr at *;obtain _|n:=n;omega;simp -implicitDefEqProofs (maxSteps:=2000000) (disch:=try exact Dz) only[↓DN,↓kAsg,↓kRet,UP,simprocAttr,↓gP,↓kc_z,↓loop_a,↓kc_m,↓K7,↓loop_b,↓kc_d,↓kc_e,↓loop_y,hdd,hs0,hs3,GQ,BS,Tryz.f105]
end Ev
end Go.Proofs.YthlkcebdfbjdoaaGreat
