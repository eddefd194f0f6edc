/-
  A search for a goal, walked: the word that was found, the bN.
-/
import Derived.Test.YthlkcebdfbjdoaaGreatSuiteL
import Derived.Test.YthlkcebdfbjdoaaGreatTwo
set_option linter.unusedSimpArgs false
set_option linter.unusedVariables false
set_option maxRecDepth 8000
set_option maxHeartbeats 4000000
namespace Go.Proofs.YthlkcebdfbjdoaaGreat
namespace Ev
section
variable{R:Type}{L n:Nat}
theorem aOX{l:List UInt8}{i j p:Nat}(hi:i<l.length)(hj:j<l.length):(swp l i j).getD p 0=if p=j then l.getD i 0 else if p=i then l.getD j 0 else l.getD p 0:=by
 unfold swp;simp only[Aa,Cg,Bl]
 by_cases h1:p=j
 ·subst h1;simp[hj]
 ·have h1':¬j=p:=fun h=>h1 h.symm
  by_cases h2:p=i
  ·subst h2;simp[hi,h1,h1']
  ·have h2':¬i=p:=fun h=>h2 h.symm;simp only[h1,h1',h2,h2',if_false]
theorem aHi:∀(q:Nat) (i j:Int) (l:List UInt8),0<=i->j<l.length->j-i<=q->∀p:Nat,p<l.length->(revG q i j l).2.2.getD p 0=if i<=p/\(p:Int)<=j then l.getD (i+j-p).toNat 0 else l.getD p 0
 |0,i,j,l,h0,h1,h2,p,hp=>by
  unfold revG
  split
  ·rename_i h
   rw[show(i+j-p).toNat=p by omega]
  ·rfl
 |q+1,i,j,l,h0,h1,h2,p,hp=>by
  unfold revG
  split
  ·rename_i hlt
   have hg:=fun(x:Nat)=>aOX (l:=l) (i:=i.toNat) (j:=j.toNat) (p:=x) om om;rw[aHi q (i+1) (j-1) _ om (by rw[zI];omega) om p (by rw[zI];exact hp)]
   by_cases c1:i+1<=(p:Int)/\(p:Int)<=j-1
   ·rw[if_pos c1,hg,if_neg (by omega:¬(i+1+(j-1)-(p:Int)).toNat=j.toNat),if_neg (by omega:¬(i+1+(j-1)-(p:Int)).toNat=i.toNat),if_pos (by omega:i<=(p:Int)/\(p:Int)<=j)]
    congr 1
    omega
   ·rw[if_neg c1,hg]
    by_cases c2:p=j.toNat
    ·rw[if_pos c2,if_pos (by omega:i<=(p:Int)/\(p:Int)<=j)]
     congr 1
     omega
    ·rw[if_neg c2]
     by_cases c3:p=i.toNat
     ·rw[if_pos c3,if_pos (by omega:i<=(p:Int)/\(p:Int)<=j)]
      congr 1
      omega
     ·rw[if_neg c3,if_neg (by omega:¬(i<=(p:Int)/\(p:Int)<=j))]
  ·rename_i hlt
   split
   ·rename_i h
    rw[show(i+j-p).toNat=p by omega]
   ·rfl
theorem aNL(l:List UInt8):(revG (l.length+1) 0 ((l.length:Int)-1) l).2.2=l.reverse:=by
 have hl:=(aBw (l.length+1) 0 ((l.length:Int)-1) l (Int.le_refl _) om).1;apply List.ext_getElem
 ·rw[hl,List.length_reverse]
 ·intro p h1 h2;rw[hl]at h1;have:=aHi (l.length+1) 0 ((l.length:Int)-1) l (Int.le_refl _) om om p h1;rw[if_pos om,Aa,Ae (by rw[hl];exact h1),Aa,Ae om]at this;simp only[Bb]at this;rw[this,List.getElem_reverse]
  congr 1
  omega
theorem aEK{l:List PStep}{k:Nat}(h:k<l.length):(((bZ l).drop (k*3)).map A.d).head? =some (.d (.int .i64 (l.getD k default).par)):=by
 rw[AQ,b7 h (d:=default)];rfl
theorem aMk{l:List PStep}{k:Nat}(h:k<l.length):(((bZ l).drop (k*3+1)).map A.d).head? =some (.d (.int .i64 (l.getD k default).lt)):=by
 rw[<-Ci,AQ,b7 h (d:=default)];rfl
def aFK(st:List PStep):Nat->Nat->Nat
 |0,i=>i
 |j+1,i=>if 0<=(st.getD i default).par then aFK st j (st.getD i default).par.toNat else i
def Tree(st:List PStep):Prop:=∀k,k<st.length->((st.getD k default).par<(k:Int))/\(0<=(st.getD k default).lt/\(st.getD k default).lt<=5)
theorem aEG(st:List PStep):∀(j i:Nat),(fW st j i).length<=j
 |0,i=>Ab _
 |j+1,i=>by
  unfold fW
  split
  ·have:=aEG st j (st.getD i default).par.toNat;simp only[Af,Ad,Ac];omega
  ·simp
theorem aCj(hn:2<=n){st:List PStep}(ht:Tree st)(hs:st.length<=16777216){k:KE R}:∀(j i m:Nat) (o:List UInt8) (len:Nat) (hi:i<st.length) (hj:i<j) (hm:j<=m) (hlen:len=o.length) (ho:o.length+i<=20000000),
  aS env (aA env L n) L 0 [0,0,0,2] Bz38 (C6 0) (Z1 (U1 (Z2 (Z1 (U16 (U8 (U2 (U1 ([]))))))))) m (.d (.ivs st.length (bZ st))::Y1 (.d (.str [])::.sl 0 0 0 len::nI i::Y16 (Y8 (Y2 (Y1 ([])))))) [.arr (bD o) 1 0] k
  =k (.exit 0) (.d (.ivs st.length (bZ st))::Y1 (.d (.str [])::.sl 0 0 0 (o++(txt (fW st j i)).reverse).length::nI ((aFK st j i:Nat):Int)::Y16 (Y8 (Y2 (Y1 ([])))))) [.arr (bD (o++(txt (fW st j i)).reverse)) 1 0]:=by
 intro j
 induction j with
 |zero=>intro i m o len hi hj;omega
 |succ j ih=>
  intro i m o len hi hj hm hlen ho;obtain _|m:=m;omega;subst hlen;obtain⟨t1,t2,t3⟩:=ht i hi;have hc:(i:Int)<st.length:=om
  by_cases hp:0<=(st.getD i default).par
  ·have ih':=ih (st.getD i default).par.toNat m (o++[bR (st.getD i default).lt]) (o.length+1) om om om sm (by rw[Af,Co];omega);rw[show(((st.getD i default).par.toNat:Nat):Int)=(st.getD i default).par by omega]at ih';have h5:(((st.getD i default).par.toNat:Nat):Int)=(st.getD i default).par:=om;unfold fW aFK;rw[if_pos hp,if_pos hp];clear ih;have e:(txt (fW st j (st.getD i default).par.toNat++[(st.getD i default).lt])).reverse=[bR (st.getD i default).lt]++(txt (fW st j (st.getD i default).par.toNat)).reverse:=by simp[txt]
   rw[e,<-Am];have g1:=aEK hi;have g2:=aMk hi;generalize st.getD i default=s at *
   simp-implicitDefEqProofs (maxSteps:=9^7) (disch:=try exact Dz) only[↓DN,↓kRet,UP,simprocAttr,PE,Ce,Ci,hc,hp,g1,g2,↓H8,↓ih',DK,zP,Tryz.f127]
  ·unfold fW aFK;rw[if_neg hp,if_neg hp];have g1:=aEK hi;simp only[txt,Ap,List.reverse_nil,Ai]
   simp-implicitDefEqProofs (maxSteps:=9^7) (disch:=try exact Dz) only[↓DN,↓kRet,UP,simprocAttr,PE,hc,hp,g1,DK,zP,Tryz.f127]
theorem PA(hn:3<=n)(st:List PStep)(ht:Tree st)(hs:st.length<=16777216)(h0:0<st.length)(hL:2^60<=L):aA env L n 127 [.d (.ivs st.length (bZ st))] []=some (.d (.str (VF st)),[]):=by
 have loop_w:=fun {R n k} hn=> @aCj R L n hn st ht hs k st.length (st.length-1) L [] 0 om om om rfl (by simp;omega);simp only[Ao,aKe]at loop_w;have hwl:=aEG st st.length (st.length-1);have hb:(txt (fW st st.length (st.length-1))).reverse.length<=2147483648:=by simp[txt];omega
 have hrr:(txt (fW st st.length (st.length-1))).reverse.reverse=VF st:=by rw[List.reverse_reverse];rfl
 have hwlen:(txt (fW st st.length (st.length-1))).reverse.length=(VF st).length:=by simp[VF]
 generalize(txt (fW st st.length (st.length-1))).reverse=w at *
 have e1:IntKind.i64.wrap ((st.length:Int)-1)=((st.length-1:Nat):Int):=by
  rw[show(st.length:Int)-1=((st.length-1:Nat):Int) by omega];exact wS om om
 have kc_r:=fun {R:Type} {n id g:Nat} {hq:H} {k:KA R} (hn:1<=n) (hi:hq[id]? =some (.arr (bD w) 1 g))=> @aP3 R L n id g hq k hn w hi hb hL;have er:=aNL w;rw[hrr]at er;simp only[er]at kc_r;simp only[hwlen]at kc_r;simp only[hwlen]at loop_w;have h1:(1:Int)<=st.length:=om;obtain _|n:=n;omega
 simp-implicitDefEqProofs (maxSteps:=9^7) (disch:=try exact Dz) only[↓DN,↓kAsg,↓kRet,UP,simprocAttr,↓loop_w,e1,↓kc_r,↓zW,aFy,RX,Tryz.f127]
theorem aFH:type_of% fun {L} st ht hs h0 hL=>kt fun hn=> @PA L _ hn st ht hs h0 hL:=fun {L} st ht hs h0 hL=>kt fun hn=> @PA L _ hn st ht hs h0 hL
theorem aAV{L:Nat}{id0 g0 o0 len0:Nat}:KV L 127 [.sl id0 g0 o0 len0]:=fun _ _ _ _=>dA xR
theorem aFM{st:List PStep}{p l:Int}{f:List Int}:st.length<=(addP st p l f).length:=by unfold addP;split<;>simp
theorem aGa{st:List PStep}{i:Nat}{l:Int}{f:List Int}(ht:Tree st)(hi:i<st.length)(hl:0<=l/\l<=5):Tree (addP st i l f):=by
 unfold addP
 split
 ·exact ht
 ·intro k hk;simp only[Af,Ad,Ac]at hk
  by_cases h:k<st.length
  ·rw[kO h];exact ht k h
  ·obtain rfl:k=st.length:=om;rw[TK];exact⟨by show(i:Int)<_;omega,hl⟩
theorem aKp(hn:5<=n)(hL:2^60<=L){I:Int->Prop}{gl:Int->Bool}{nf gf:FuncId}{caps gcaps:List D}{size:Nat}{nx:Int->Int->List Int}{ls ns:List Int}{ii:Nat}
  (kc_n:∀ {R:Type} {n id:Nat} {hq:H} {k:KA R} (x c:Int) (o:List Int),4<=n->I x->0<=c->c<6->o.length<=2147483648->hq[id]? =some (.arr (ints o) 1 0)->aW env (aA env L n) hq nf (nI x::nI c::.sl id 0 0 o.length::caps.map A.d) k=k (.sl id (nx x c).length 0 (o++nx x c).length) (hq.set id (.arr (ints (o++nx x c)) 1 (nx x c).length)))
  (kc_g:∀ {R:Type} {n:Nat} {hq:H} {k:KA R} (x:Int),2<=n->I x->aW env (aA env L n) hq gf (nI x::gcaps.map A.d) k=k (.d (.bool (gl x))) hq)
  (hr:∀x,I x->0<=x/\x<size) (hsz:size<=16777216) (hI:∀x∈ns,I x) (hx:∀x c,I x->0<=c->c<6->∀y∈nx x c,I y) (hw:∀x c,(nx x c).length<=64) (hls:∀c∈ls,0<=c/\c<=5) (hll:ls.length<=6) (hnl:ns.length<=size) {k:KE R}:∀(j q m:Nat) (seen:List Bool) (st:List PStep) (sn:Nat) (hi:q+j=ls.length) (hm:j<m) (hg:PGood I size seen st) (htr:Tree st) (hii:ii<st.length) (hns:(st.getD ii default).ns=ns) (hsn:sn=st.length),
  aS env (aA env L n) L 0 (W16 (W2 [2])) Bz2 (iQ 1) (U2 (Z2 (U4 (U2 (Z2 (U1 (Z2 (Z1 (U16 (U1 (Z2 (Z1 (U16 (U8 (U2 (U1 ([]))))))))))))))))) m (Y2 (.d (.ivs ls.length (ints ls))::.d (.fn nf caps)::Y4 (Y2 (.d (.str [])::.d (.bool false)::Y1 (.ptr 0 0 0::.clo 126 [.ptr 1 0 0,.ptr 2 0 0,.ptr 0 0 0]::nI ii::Y16 (Y1 (.d (.ivs ls.length (ints ls))::nI (ls.length)::nI q::Y16 (Y8 (Y2 (Y1 ([]))))))))))) [.box [.sl 3 0 0 sn],.box [.sl 4 0 0 size],.box [.d (.fn gf gcaps)],.arr (bZ st) 3 0,.arr (cZ seen) 1 0] k
  =if(ltG nx gl ns ii (ls.drop q) (seen,st)).1=true then
    k .ret (Y2 (.d (.ivs ls.length (ints ls))::.d (.fn nf caps)::Y4 (Y2 (.d (.str ((VF (ltG nx gl ns ii (ls.drop q) (seen,st)).2.2)))::.d (.bool true)::Y1 (.ptr 0 0 0::.clo 126 [.ptr 1 0 0,.ptr 2 0 0,.ptr 0 0 0]::nI ii::Y16 (Y1 (.d (.ivs ls.length (ints ls))::nI (ls.length)::nI ((q+ltI nx gl ns ii (ls.drop q) (seen,st):Nat):Int)::Y16 (Y8 (Y2 (Y1 ([]))))))))))) [.box [.sl 3 0 0 (ltG nx gl ns ii (ls.drop q) (seen,st)).2.2.length],.box [.sl 4 0 0 size],.box [.d (.fn gf gcaps)],.arr (bZ (ltG nx gl ns ii (ls.drop q) (seen,st)).2.2) 3 0,.arr (cZ (ltG nx gl ns ii (ls.drop q) (seen,st)).2.1) 1 0]
   else k (.exit 2) (Y2 (.d (.ivs ls.length (ints ls))::.d (.fn nf caps)::Y4 (Y2 (.d (.str [])::.d (.bool false)::Y1 (.ptr 0 0 0::.clo 126 [.ptr 1 0 0,.ptr 2 0 0,.ptr 0 0 0]::nI ii::Y16 (Y1 (.d (.ivs ls.length (ints ls))::nI (ls.length)::nI (ls.length)::Y16 (Y8 (Y2 (Y1 ([]))))))))))) [.box [.sl 3 0 0 (ltG nx gl ns ii (ls.drop q) (seen,st)).2.2.length],.box [.sl 4 0 0 size],.box [.d (.fn gf gcaps)],.arr (bZ (ltG nx gl ns ii (ls.drop q) (seen,st)).2.2) 3 0,.arr (cZ (ltG nx gl ns ii (ls.drop q) (seen,st)).2.1) 1 0]:=by
 intro j
 induction j with
 |zero=>
  intro q m seen st sn hi hm hg htr hii hns hsn;obtain _|m:=m;omega;obtain rfl:q=ls.length:=om;subst hsn
  simp-implicitDefEqProofs (maxSteps:=9^7) (disch:=try exact Dz) only[↓DN,↓kRet,UP,simprocAttr,Aj,rB,pG,Tryz.f94];simp only[Bz,ltG,Ak,if_false]
 |succ j ih=>
  intro q m seen st sn hi hm hg htr hii hns hsn;obtain _|m:=m;omega;subst hsn;have hc:(q:Int)<ls.length:=om;have hk:q<ls.length:=om;have hmem:ls.getD q 0∈ls:=by rw[Aa,Ae hk];exact Az hk
  obtain⟨c0,c5⟩:=hls _ hmem;have c6:ls.getD q 0<6:=om;have hiI:(ii:Int)<st.length:=om;have hroom:=hg.room;have hstl:st.length<=4294967290:=om;rw[b7 hk (d:=0)]
  have hI2:∀y∈flat nx ns (ls.getD q 0),I y:=by
   intro y hy;obtain⟨x,h1,h2⟩:=Di.1 hy;exact hx x (ls.getD q 0) (hI x h1) c0 c6 y h2
  have hfl:=aGL (c:=ls.getD q 0) hw ns;have hfl2:(flat nx ns (ls.getD q 0)).length<=4294967290:=om;obtain⟨g1,g2,g3⟩:=KY (gl:=gl) hg hI2 hr (ii:Int) (ls.getD q 0);have htr2:Tree (addP st ii (ls.getD q 0) (visG gl (flat nx ns (ls.getD q 0)) seen [] false).2.1):=aGa htr hii ⟨c0,c5⟩;have hlen2:=aFM (st:=st) (p:=(ii:Int)) (l:=ls.getD q 0) (f:=(visG gl (flat nx ns (ls.getD q 0)) seen [] false).2.1);have ih':=ih (q+1) m (visG gl (flat nx ns (ls.getD q 0)) seen [] false).1 (addP st ii (ls.getD q 0) (visG gl (flat nx ns (ls.getD q 0)) seen [] false).2.1) _ om om g1 htr2 om (by rw[aNQ hii];exact hns) rfl;have e4:((q+1:Nat):Int)=(q:Int)+1:=om;rw[e4]at ih';have loop_c:=fun {R:Type} {n:Nat} (hn:4<=n) {k:KE R}=> @aKO R L n hn hL I nf caps (.fn gf gcaps) size nx ls ns (bZ st) seen st.length ii q (ls.getD q 0) (fun {R n id hq k}=>kc_n) hI hw c0 c6 om k ns.length 0 L [] 0 om om sm rfl;simp only[Bc,Ao,nR,Aq]at loop_c;have kc_v:=fun {R n k} hn=> @aPK R L n k hn hL I gl gf gcaps size (ii:Int) (ls.getD q 0) (flat nx ns (ls.getD q 0)) (fun {R n hq k}=>kc_g) hI2 hr om hfl2 seen hg.len st hstl;have hroom2:=g1.room;have kl_w:=@aFH L _ htr2 om om hL;simp only[ltG,ltI];clear ih hmem g1 g2 g3 hg hI hI2 hx hw hls hr kc_n kc_g hroom2;generalize flat nx ns (ls.getD q 0)=fm at *;generalize visG gl fm seen [] false=v at *;obtain⟨v1,v2,v3⟩:=v;simp only at ih' kc_v kl_w|-
  cases v3 with
  |true=>
   simp-implicitDefEqProofs (maxSteps:=9^7) (disch:=try exact Dz) only[↓DN,↓kAsg,↓kRet,UP,simprocAttr,↓aAV,PE,hc,hiI,hns,↓loop_c,↓kc_v,↓kl_w,rB,pG,Tryz.f94]
  |false=>
   simp only[Ak,if_false];generalize ltI nx gl ns (ii:Int) (ls.drop (q+1)) (v1,addP st ii (ls.getD q 0) v2)=T at *;rw[show q+(T+1)=q+1+T by omega]
   simp-implicitDefEqProofs (maxSteps:=9^7) (disch:=try exact Dz) only[↓DN,↓kAsg,↓kRet,UP,simprocAttr,PE,hc,hiI,hns,↓loop_c,↓kc_v,↓ih',rB,pG,Tryz.f94]
theorem RS{nx:Int->Int->List Int}{gl:Int->Bool}{ns:List Int}{i:Nat}:∀(ls:List Int) (hls:∀c∈ls,0<=c/\c<=5) (seen:List Bool) (st:List PStep),Tree st->i<st.length->Tree (ltG nx gl ns i ls (seen,st)).2.2
 | [],_,_,_,h,_=>h
 |l::ls,hls,seen,st,h,hi=>by
  have h2:Tree (addP st i l (visG gl (flat nx ns l) seen [] false).2.1):=aGa h hi (hls l Bi);unfold ltG
  split
  ·exact h2
  ·exact RS ls (fun c hc=>hls c (Be _ hc)) _ _ h2 (Dd hi aFM)
theorem aKJ(hn:6<=n)(hL:2^60<=L){I:Int->Prop}{gl:Int->Bool}{nf gf:FuncId}{caps gcaps:List D}{size:Nat}{nx:Int->Int->List Int}{ls:List Int}
  (kc_n:∀ {R:Type} {n id:Nat} {hq:H} {k:KA R} (x c:Int) (o:List Int),4<=n->I x->0<=c->c<6->o.length<=2147483648->hq[id]? =some (.arr (ints o) 1 0)->aW env (aA env L n) hq nf (nI x::nI c::.sl id 0 0 o.length::caps.map A.d) k=k (.sl id (nx x c).length 0 (o++nx x c).length) (hq.set id (.arr (ints (o++nx x c)) 1 (nx x c).length)))
  (kc_g:∀ {R:Type} {n:Nat} {hq:H} {k:KA R} (x:Int),2<=n->I x->aW env (aA env L n) hq gf (nI x::gcaps.map A.d) k=k (.d (.bool (gl x))) hq)
  (hr:∀x,I x->0<=x/\x<size) (hsz:size<=16777216) (hx:∀x c,I x->0<=c->c<6->∀y∈nx x c,I y) (hw:∀x c,(nx x c).length<=64) (hls:∀c∈ls,0<=c/\c<=5) (hll:ls.length<=6) {k:KE R}:∀(j i m:Nat) (seen:List Bool) (st:List PStep) (sn:Nat) (hi:st.length+gE seen<=i+j) (hi2:i<=st.length) (hm:j<m) (hg:PGood I size seen st) (htr:Tree st) (hsn:sn=st.length),
  aS env (aA env L n) L 0 (W16 (W2 [2])) Bz2 (iQ 0) (U2 (Z2 (U4 (U2 (Z2 (U1 (Z2 (Z1 (U32 (U8 (U4 (U2 (U1 ([])))))))))))))) m (Y2 (.d (.ivs ls.length (ints ls))::.d (.fn nf caps)::Y4 (Y2 (.d (.str [])::.d (.bool false)::Y1 (.ptr 0 0 0::.clo 126 [.ptr 1 0 0,.ptr 2 0 0,.ptr 0 0 0]::nI i::Y32 (Y8 (Y4 (Y2 (Y1 ([])))))))))) [.box [.sl 3 0 0 sn],.box [.sl 4 0 0 size],.box [.d (.fn gf gcaps)],.arr (bZ st) 3 0,.arr (cZ seen) 1 0] k
  =if(outG nx gl ls j i (seen,st)).1=true then
    k .ret (Y2 (.d (.ivs ls.length (ints ls))::.d (.fn nf caps)::Y4 (Y2 (.d (.str ((VF (outG nx gl ls j i (seen,st)).2.2)))::.d (.bool true)::Y1 (.ptr 0 0 0::.clo 126 [.ptr 1 0 0,.ptr 2 0 0,.ptr 0 0 0]::nI ((outI nx gl ls j i (seen,st):Nat):Int)::Y32 (Y8 (Y4 (Y2 (Y1 ([])))))))))) [.box [.sl 3 0 0 (outG nx gl ls j i (seen,st)).2.2.length],.box [.sl 4 0 0 size],.box [.d (.fn gf gcaps)],.arr (bZ (outG nx gl ls j i (seen,st)).2.2) 3 0,.arr (cZ (outG nx gl ls j i (seen,st)).2.1) 1 0]
   else k (.exit 0) (Y2 (.d (.ivs ls.length (ints ls))::.d (.fn nf caps)::Y4 (Y2 (.d (.str [])::.d (.bool false)::Y1 (.ptr 0 0 0::.clo 126 [.ptr 1 0 0,.ptr 2 0 0,.ptr 0 0 0]::nI ((outI nx gl ls j i (seen,st):Nat):Int)::Y32 (Y8 (Y4 (Y2 (Y1 ([])))))))))) [.box [.sl 3 0 0 (outG nx gl ls j i (seen,st)).2.2.length],.box [.sl 4 0 0 size],.box [.d (.fn gf gcaps)],.arr (bZ (outG nx gl ls j i (seen,st)).2.2) 3 0,.arr (cZ (outG nx gl ls j i (seen,st)).2.1) 1 0]:=by
 intro j
 induction j with
 |zero=>
  intro i m seen st sn hi hi2 hm hg htr hsn;obtain _|m:=m;omega;obtain rfl:i=st.length:=om;subst hsn;simp only[outG,outI,Ak,if_false]
  simp-implicitDefEqProofs (maxSteps:=9^7) (disch:=try exact Dz) only[↓DN,↓kRet,UP,simprocAttr,Aj,lM,lF,Tryz.f94]
 |succ j ih=>
  intro i m seen st sn hi hi2 hm hg htr hsn;obtain _|m:=m;omega;subst hsn
  by_cases hc:i<st.length
  ·have hci:(i:Int)<st.length:=om;have hroom:=hg.room;have hmem:st.getD i default∈st:=by rw[Aa,Ae hc];exact Az hc
   have hI:=hg.node _ hmem;have hnl:=hg.wide _ hmem;obtain⟨k1,k2,k3⟩:=O2 (gl:=gl) (nx:=nx) (p:=(i:Int)) hr hI ls (seen,st) (fun x c h1 h2=>hx x c h1 (hls c h2).1 (by have:=(hls c h2).2;omega)) hg;have ktr:=RS (gl:=gl) (nx:=nx) (ns:=(st.getD i default).ns) ls hls seen st htr hc;have loop_b:=fun {R:Type} {n:Nat} (hn:5<=n) {k:KE R}=> @aKp R L n hn hL I gl nf gf caps gcaps size nx ls (st.getD i default).ns i (fun {R n id hq k}=>kc_n) (fun {R n hq k}=>kc_g) hr hsz hI hx hw hls hll hnl k ls.length 0 L seen st st.length om om hg htr hc rfl rfl;simp only[Bc,Aq,Ag]at loop_b;have ih':=ih (i+1) m (ltG nx gl (st.getD i default).ns i ls (seen,st)).2.1 (ltG nx gl (st.getD i default).ns i ls (seen,st)).2.2 _ (by have:(ltG nx gl (st.getD i default).ns i ls (seen,st)).2.2.length+gE (ltG nx gl (st.getD i default).ns i ls (seen,st)).2.1<=st.length+gE seen:=k2;omega) (by have:st.length<=(ltG nx gl (st.getD i default).ns i ls (seen,st)).2.2.length:=k3;omega) om k1 ktr rfl;have e4:((i+1:Nat):Int)=(i:Int)+1:=om;rw[e4]at ih';simp only[outG,outI,hc,if_true];clear ih hmem k1 k2 k3 ktr hg hI hx hw hls hr kc_n kc_g hnl;generalize ltI nx gl (st.getD i default).ns (i:Int) ls (seen,st)=T at *;generalize ltG nx gl (st.getD i default).ns (i:Int) ls (seen,st)=w at *;obtain⟨w0,w1,w2⟩:=w;simp only at ih' loop_b|-;have hll3:ls.length<=4294967290:=om
   cases w0 with
   |true=>
    simp only[if_true]at loop_b
    simp-implicitDefEqProofs (maxSteps:=9^7) (disch:=try exact Dz) only[↓DN,↓kRet,UP,simprocAttr,hci,↓loop_b,lM,lF,Tryz.f94]
   |false=>
    simp only[Ak,if_false]at loop_b|-
    simp-implicitDefEqProofs (maxSteps:=9^7) (disch:=try exact Dz) only[↓DN,↓kRet,UP,simprocAttr,hci,↓loop_b,↓ih',lM,lF,Tryz.f94]
  ·obtain rfl:i=st.length:=om;simp only[outG,outI,hc,Ak,if_false]
   simp-implicitDefEqProofs (maxSteps:=9^7) (disch:=try exact Dz) only[↓DN,↓kRet,UP,simprocAttr,Aj,lM,lF,Tryz.f94]
theorem NI{n:Int}{h:H}(h0:0<=n)(h1:n<=4294967296):gO env.P h 24 n n=some (.sl h.length 0 0 n.toNat,h++[.arr (cZ (List.replicate n.toNat false)) 1 0]):=by
 have hm:n<=(bG:Nat):=by unfold bG;omega
 have he:cR env.P 24=some 4:=kr;have hz:dF env.P 4=some (.d (.bool false)):=kr;have hok:eP env.P 4=true:=kr;have hc:env.P.cellsOf 4=1:=kr;simp only[gO,he,hz,aV,xE,Ax,hok,h0,hm,hc,Int.le_refl,and_self,if_true,cZ,List.map_replicate,List.flatten_replicate_singleton]
theorem K5(hn:7<=n)(hL:2^60<=L){I:Int->Prop}{gl:Int->Bool}{nf gf:FuncId}{caps gcaps:List D}{size:Nat}{nx:Int->Int->List Int}{ls ns:List Int}
  (kc_n:∀ {R:Type} {n id:Nat} {hq:H} {k:KA R} (x c:Int) (o:List Int),4<=n->I x->0<=c->c<6->o.length<=2147483648->hq[id]? =some (.arr (ints o) 1 0)->aW env (aA env L n) hq nf (nI x::nI c::.sl id 0 0 o.length::caps.map A.d) k=k (.sl id (nx x c).length 0 (o++nx x c).length) (hq.set id (.arr (ints (o++nx x c)) 1 (nx x c).length)))
  (kc_g:∀ {R:Type} {n:Nat} {hq:H} {k:KA R} (x:Int),2<=n->I x->aW env (aA env L n) hq gf (nI x::gcaps.map A.d) k=k (.d (.bool (gl x))) hq)
  (hr:∀x,I x->0<=x/\x<size) (hsz:size<=16777216) (hI:∀x∈ns,I x) (hx:∀x c,I x->0<=c->c<6->∀y∈nx x c,I y) (hw:∀x c,(nx x c).length<=64) (hls:∀c∈ls,0<=c/\c<=5) (hll:ls.length<=6) (hne:ns≠[]) (hnl:ns.length<=size):
  aA env L n 94 [nI size,.d (.ivs ns.length (ints ns)),.d (.ivs ls.length (ints ls)),.d (.fn nf caps),.d (.fn gf gcaps)] []=some (.tup [.d (.str (txt (DX nx gl ls ns size).1)),.d (.bool (DX nx gl ls ns size).2)],[]):=by
 have hs0:(0:Int)<=size:=om;have hs1:(size:Int)<=4294967296:=om;have kc_v:=fun {R:Type} {n:Nat} {k:KA R} {p l:Int} (hn:4<=n)=> @aOZ R L n k hn hL I gl gf gcaps size p l ns (fun {R n hq k}=>kc_g) hI hr om om hne;have hu:gE (List.replicate size false)=size:=by simp[gE]
 have hg0:PGood I size (List.replicate size false) []:=⟨by simp,by simp,by rw[hu];simp,by simp⟩
 obtain⟨g1,g2,g3⟩:=KY (gl:=gl) hg0 hI hr (-1) 0;have hpos:=aHu (size:=size) hne;rw[<-(wX gl ns (List.replicate size false) [] false).2]at hpos;unfold DX;generalize visG gl ns (List.replicate size false) [] false=r at *;obtain⟨r0,r1,r2⟩:=r;simp only at g1 g2 g3 hpos kc_v|-
 have ha:addP [] (-1) 0 r1=[⟨-1,0,r1⟩]:=by
  unfold addP;rw[if_neg (Du.1 hpos)];rfl
 rw[ha]at g1 g2
 have htr:Tree [⟨-1,0,r1⟩]:=by
  intro k hk;obtain rfl:k=0:=by simpa using hk
  exact⟨by show(-1:Int)<_;omega,by show(0:Int)<=0/\(0:Int)<=5;decide⟩
 have loop_a:=fun {R:Type} {n:Nat} (hn:6<=n) {k:KE R}=> @aKJ R L n hn hL I gl nf gf caps gcaps size nx ls (fun {R n id hq k}=>kc_n) (fun {R n hq k}=>kc_g) hr hsz hx hw hls hll k (size+1) 0 L r0 [⟨-1,0,r1⟩] 1 (by rw[hu]at g2;simp only[Ac,Ag]at g2;omega) sm om g1 htr rfl;simp only[Aq]at loop_a;have ee:(bZ [⟨-1,0,r1⟩])=[.int .i64 (-1),.int .i64 0,.ivs r1.length (ints r1)]:=rfl;rw[ha];clear g1 g2 g3 hg0 hI hx hw hls hr kc_n kc_g htr
 cases r2 with
 |true=>
  obtain _|n:=n;omega
  simp-implicitDefEqProofs (maxSteps:=9^7) (disch:=try exact Dz) only[↓DN,↓kAsg,↓kRet,UP,simprocAttr,↓NI,↓kc_v,AF,t7,Tryz.f94]<;>rfl
 |false=>
  simp only[Ak,if_false];generalize outI nx gl ls (size+1) 0 (r0,[⟨-1,0,r1⟩])=T at *;generalize outG nx gl ls (size+1) 0 (r0,[⟨-1,0,r1⟩])=w at *;obtain⟨w0,w1,w2⟩:=w;simp only at loop_a|-
  cases w0 with
  |true=>
   simp only[if_true]at loop_a|-;obtain _|n:=n;omega
   simp-implicitDefEqProofs (maxSteps:=9^7) (disch:=try exact Dz) only[↓DN,↓kAsg,↓kRet,UP,simprocAttr,↓NI,↓kc_v,↓loop_a,AF,t7,Tryz.f94]<;>rfl
  |false=>
   simp only[Ak,if_false]at loop_a|-;obtain _|n:=n;omega
   simp-implicitDefEqProofs (maxSteps:=9^7) (disch:=try exact Dz) only[↓DN,↓kAsg,↓kRet,UP,simprocAttr,↓NI,↓kc_v,↓loop_a,AF,t7,Tryz.f94]<;>rfl
end
section
variable{R:Type}{L n:Nat}
theorem bK{a:Aut}(h:AOK a):bB a.nx/\uR (aB a.al).length a.nx/\1<=a.nx.length/\a.nx.length<=12/\a.ac.length=a.nx.length:=by
 obtain⟨a1,a2,a3,a4⟩:=j8 h;have aw:=xH h;exact⟨⟨by omega,fun r hr=>by have:=aw r hr;have:=bV a.al;omega⟩,aw,a1,a2,a3⟩
def tabP(a:Aut):D:=.iptr [.ivs a.nx.length (ints (wD a.al a.nx))]
def autP(a:Aut):D:=.iptr [.int .i64 a.al,.ivs a.nx.length (aL a.nx),.ivs a.ac.length (aJ a.ac)]
def inP(a b:Aut)(x:Int):Prop:=0<=x/\x<(a.nx.length:Int)*b.nx.length
theorem QG(hn:1<=n){a b:Aut}(ha:AOK a)(hb:AOK b){x c:Int}(hx:inP a b x)(hc0:0<=c)(hc6:c<6)(o:List Int)(ho:o.length<=2147483648):
  aA env L n 93 [nI x,nI c,.sl 0 0 0 o.length,.d (tabP a),.d (.iptr [.int .i64 b.nx.length]),.d (tabP b)] [.arr (ints o) 1 0]=some (.sl 0 (nxT a b x c).length 0 (o++nxT a b x c).length,[.arr (ints (o++nxT a b x c)) 1 (nxT a b x c).length]):=by
 obtain⟨sa,wa,a1,a2,a3⟩:=bK ha;obtain⟨sb,wb,b1,b2,b3⟩:=bK hb;obtain⟨p,q⟩:=zT (na:=a.nx.length) (nb:=b.nx.length) om hx.1 hx.2;have ga:=mI ha p.1 p.2 hc0 hc6;have gb:=mI hb q.1 q.2 hc0 hc6;have hla:=lK a.al a.nx;have hlb:=lK b.al b.nx;have hta:=aDq (al:=a.al) p.1 p.2 hc0 hc6;have htb:=aDq (al:=b.al) q.1 q.2 hc0 hc6;rw[Ci]at hta htb
 have hprod:(a.nx.length:Int)*b.nx.length<=144:=by
  have h1:(a.nx.length:Int)*b.nx.length<=12*b.nx.length:=Dv om om;omega
 have hx1:=hx.2;have hin:=EM ga gb;have hm0:0<=goI a.al a.nx (x.tdiv b.nx.length) c*b.nx.length:=Int.mul_nonneg ga.1 om;have hb0:¬(b.nx.length:Int)=0:=om;unfold nxT tabP;have d1:(x.tdiv b.nx.length).toNat*6<=a.nx.length*6:=om;have d2:(x.tmod b.nx.length).toNat*6<=b.nx.length*6:=om;have d3:c.toNat<a.nx.length*6-(x.tdiv b.nx.length).toNat*6:=om;have d4:c.toNat<b.nx.length*6-(x.tmod b.nx.length).toNat*6:=om;generalize goI a.al a.nx (x.tdiv b.nx.length) c=g1 at *;generalize goI b.al b.nx (x.tmod b.nx.length) c=g2 at *;obtain⟨x0,x1⟩:=hx;obtain⟨p0,p1⟩:=p;obtain⟨q0,q1⟩:=q;have xs:x<=144:=om;have hl1:((List.length [g1*(b.nx.length:Int)+g2]))=1:=rfl;clear ha hb sa sb wa wb x1;obtain _|n:=n;omega
 simp-implicitDefEqProofs (maxSteps:=9^7) (disch:=try exact Dz) only[↓DN,↓kAsg,↓kRet,UP,simprocAttr,hla,hlb,hta,htb,p0,p1,q0,q1,Ce,Ci,hl1,QC,B4,Tryz.f93]
theorem aKP{R:Type}{L n id:Nat}{hq:H}{k:KA R}(hn:1<=n){a b:Aut}(ha:AOK a)(hb:AOK b)(x c:Int)(o:List Int)(hx:inP a b x)(hc0:0<=c)(hc6:c<6)(ho:o.length<=2147483648)(hid:hq[id]? =some (.arr (ints o) 1 0)):
  aW env (aA env L n) hq 93 (nI x::nI c::.sl id 0 0 o.length::[tabP a,.iptr [.int .i64 b.nx.length],tabP b].map A.d) k
  =k (.sl id (nxT a b x c).length 0 (o++nxT a b x c).length) (hq.set id (.arr (ints (o++nxT a b x c)) 1 (nxT a b x c).length)):=by
 refine OP hid (by simp[idsL,idsA]) mJ ?_;have hpl:aI [id] id=some 0:=by simp[aI]
 simp only[Ah,Ap,aE,mapA,hpl];exact QG hn ha hb hx hc0 hc6 o ho
theorem aQC:dM env.P 74=some false:=kr
theorem QP(hn:2<=n){a b:Aut}{f:Bool->Bool->Bool}{go:FuncId}(hm:(env.hint go).mode=0)(kc_o:∀(x y:Bool) {R:Type} {n:Nat} {hq:H} {k:KA R},1<=n->aW env (aA env L n) hq go [.d (.bool x),.d (.bool y)] k=k (.d (.bool (f x y))) hq)(ha:AOK a)(hb:AOK b){x:Int}(hx:inP a b x):
  aA env L n 95 [nI x,.d (.iptr [.fn go []]),.d (autP a),.d (.iptr [.int .i64 b.nx.length]),.d (autP b)] []=some (.d (.bool (glT f a b x)),[]):=by
 obtain⟨sa,wa,a1,a2,a3⟩:=bK ha;obtain⟨sb,wb,b1,b2,b3⟩:=bK hb;obtain⟨p,q⟩:=zT (na:=a.nx.length) (nb:=b.nx.length) om hx.1 hx.2
 have hprod:(a.nx.length:Int)*b.nx.length<=144:=by
  have h1:(a.nx.length:Int)*b.nx.length<=12*b.nx.length:=Dv om om;omega
 have hb0:¬(b.nx.length:Int)=0:=om;have e1:(x.tdiv b.nx.length).toNat<a.ac.length:=om;have e2:(x.tmod b.nx.length).toNat<b.ac.length:=om;have e3:x.tdiv b.nx.length<(a.ac.length:Int):=om;have e4:x.tmod b.nx.length<(b.ac.length:Int):=om;obtain⟨x0,x1⟩:=hx;obtain⟨p0,p1⟩:=p;obtain⟨q0,q1⟩:=q;have xs:x<=144:=om;have kc_p:=fun {R:Type} {n:Nat} {hq:H} {k:KA R} (hn:1<=n)=>kc_o (a.ac.getD (x.tdiv b.nx.length).toNat false) (b.ac.getD (x.tmod b.nx.length).toNat false) (R:=R) (n:=n) (hq:=hq) (k:=k) hn;unfold glT autP;clear ha hb sa sb wa wb x1 kc_o;obtain _|n:=n;omega
 simp-implicitDefEqProofs (maxSteps:=9^7) (disch:=try exact Dz) only[↓DN,↓kAsg,↓kRet,UP,simprocAttr,LA,aQC,hm,p0,e3,q0,e4,e1,e2,↓kc_p,QI,B7,Tryz.f95]
theorem aKg{hq:H}{k:KA R}(hn:2<=n){a b:Aut}{f:Bool->Bool->Bool}{go:FuncId}(hm:(env.hint go).mode=0)(kc_o:∀(x y:Bool) {R:Type} {n:Nat} {hq:H} {k:KA R},1<=n->aW env (aA env L n) hq go [.d (.bool x),.d (.bool y)] k=k (.d (.bool (f x y))) hq)(ha:AOK a)(hb:AOK b)(x:Int)(hx:inP a b x):
  aW env (aA env L n) hq 95 (nI x::[.iptr [.fn go []],autP a,.iptr [.int .i64 b.nx.length],autP b].map A.d) k=k (.d (.bool (glT f a b x))) hq:=
 cK rfl (QP hn hm kc_o ha hb hx) rfl (.inl rfl)
theorem ZX{L:Nat}{a b:A}{id g o len f1 f2:Nat}{c1 c2:List A}:KV L 94 [a,.sl id g o len,b,.clo f1 c1,.clo f2 c2]:=fun _ _ _ _=>dA oD
theorem aQB{v:Int}:ints [v]=[.int .i64 v]:=rfl
theorem YT(hn:8<=n)(hL:2^60<=L){a b:Aut}{f:Bool->Bool->Bool}{go:FuncId}(hm:(env.hint go).mode=0)(kc_o:∀(x y:Bool) {R:Type} {n:Nat} {hq:H} {k:KA R},1<=n->aW env (aA env L n) hq go [.d (.bool x),.d (.bool y)] k=k (.d (.bool (f x y))) hq)(ha:AOK a)(hb:AOK b){i j:Int}(hi:0<=i/\i<a.nx.length)(hj:0<=j/\j<b.nx.length):
  aA env L n 56 [.agg [nI a.al,.d (.ivs a.nx.length (aL a.nx)),.d (.ivs a.ac.length (aJ a.ac))],.agg [nI b.al,.d (.ivs b.nx.length (aL b.nx)),.d (.ivs b.ac.length (aJ b.ac))],nI i,nI j,.d (.fn go [])] []=some (.tup [.d (.str (txt (twoG f a b i j).1)),.d (.bool (twoG f a b i j).2)],[]):=by
 obtain⟨sa,wa,a1,a2,a3⟩:=bK ha;obtain⟨sb,wb,b1,b2,b3⟩:=bK hb
 have hprod:(a.nx.length:Int)*b.nx.length<=144:=by
  have h1:(a.nx.length:Int)*b.nx.length<=12*b.nx.length:=Dv om om;omega
 have hprodN:a.nx.length*b.nx.length<=144:=by
  have:=hprod;rw[<-Cc]at this;omega
 have hin:=EM hi hj
 have hp:=fun {n:Nat} (hn:7<=n)=> @K5 L n hn hL (inP a b) (glT f a b) 93 95 [tabP a,.iptr [.int .i64 b.nx.length],tabP b] [.iptr [.fn go []],autP a,.iptr [.int .i64 b.nx.length],autP b] (a.nx.length*b.nx.length) (nxT a b) (aB a.al) [i*b.nx.length+j]
  (fun {R n id hq k} x c o h4 hI h0 h6 ho hid=>aKP om ha hb x c o hI h0 h6 ho hid)
  (fun {R n hq k} x h2 hI=>aKg h2 hm kc_o ha hb x hI)
  (fun x hI=>by rw[Cc];exact hI) om (fun x hx=>by simp at hx;subst hx;exact hin) (fun x c hI h0 h6 y hy=>VJ ha hb hI.1 hI.2 ⟨h0,h6⟩ y hy) (fun x c=>by simp[nxT]) cF (bV a.al) sm (by
   have:0<(a.nx.length:Int)*b.nx.length:=Int.mul_pos om om;rw[<-Cc]at this;simp only[Ad,Ac];omega)
 have kl_p:=fun {R:Type} {n:Nat} {k:A->Option R} (hn:7<=n)=>kQ (k:=k) (hp (n:=n) hn) rfl;have er:DX (nxT a b) (glT f a b) (aB a.al) [i*b.nx.length+j] (a.nx.length*b.nx.length)=twoG f a b i j:=rfl;rw[er]at kl_p;simp only[aQB,Ad,Ac,Ag,Cc,tabP,autP]at kl_p;have hi2:0<=i*(b.nx.length:Int):=Int.mul_nonneg hi.1 om;obtain⟨i0,i1⟩:=hi;obtain⟨j0,j1⟩:=hj;obtain⟨n0,n1⟩:=hin;have hm0:0<=(a.nx.length:Int)*b.nx.length:=om;have hla:=lK a.al a.nx;have hlb:=lK b.al b.nx;clear hp kc_o ha hb er;generalize twoG f a b i j=r at *;obtain _|n:=n;omega
 simp-implicitDefEqProofs (maxSteps:=9^7) (disch:=try exact Dz) only[↓DN,↓kAsg,↓kRet,UP,simprocAttr,↓SH,↓kF,↓ZX,↓kl_p,Y5,JG,Tryz.f56]
def LQ(a:Aut)(i j:Int):Bool:=cY a.al a.nx a.ac&&(decide (0<=i)&&decide (i<a.nx.length))&&(decide (0<=j)&&decide (j<a.nx.length))
def jB(a:Aut)(i j:Int):List Int×Bool:=if LQ a i j=true then twoG (fun x y=>x !=y) a a i j else([],false)
theorem QB(hn:1<=n)(x y:Bool):aA env L n 83 [.d (.bool x),.d (.bool y)] []=some (.d (.bool (x !=y)),[]):=by
 obtain _|n:=n;omega
 simp-implicitDefEqProofs (maxSteps:=9^7) (disch:=try exact Dz) only[↓DN,↓kAsg,↓kRet,UP,simprocAttr,QR,BV,Tryz.f83]
 all_goals (cases x<;>cases y<;>rfl)
theorem QO{hq:H}{k:KA R}(hn:1<=n)(x y:Bool):aW env (aA env L n) hq 83 [.d (.bool x),.d (.bool y)] k=k (.d (.bool (x !=y))) hq:=
 cK rfl (QB hn x y) rfl (.inl rfl)
theorem GH(hn:9<=n)(a:Aut)(i j:Int)(hs:bB a.nx)(hac:a.ac.length<=4294967296)(hL:2^60<=L):aA env L n 46 [.agg [nI a.al,.d (.ivs a.nx.length (aL a.nx)),.d (.ivs a.ac.length (aJ a.ac))],nI i,nI j] []=some (.tup [.d (.str (txt (jB a i j).1)),.d (.bool (jB a i j).2)],[]):=by
 have hrl:=hs.1;unfold jB LQ
 cases hv:cY a.al a.nx a.ac with
 |false=>
  simp only[Cu,Ak,if_false,txt,Ap];obtain _|n:=n;omega
  simp-implicitDefEqProofs (maxSteps:=9^7) (disch:=try exact Dz) only[↓DN,↓kAsg,↓kRet,UP,simprocAttr,↓bM,hv,iO,f5,Tryz.f46]
 |true=>
  by_cases h1:0<=i
  ·by_cases h2:i<a.nx.length
   ·by_cases h3:0<=j
    ·by_cases h4:j<a.nx.length
     ·simp only[h1,h2,h3,h4,decide_true,Bu,if_true];have kl_b:=fun {R:Type} {n:Nat} {k:A->Option R} (hn:8<=n)=>kQ (call:=aA env L n) (k:=k) (f:=56) (@YT L n hn hL a a (fun x y=>x !=y) 83 m6 (fun x y {R n hq k} hn=>QO hn x y) hv hv i j ⟨h1,h2⟩ ⟨h3,h4⟩) rfl;have kv_l:=fun {R:Type} {n:Nat} {hq:H} {args:List A} {k:KA R}=>dA (E:=env) (call:=aA env L n) (h:=hq) (k:=k) (args:=args) qY;generalize twoG (fun x y=>x !=y) a a i j=r at *;have g1:¬i<0:=om;have g2:¬(a.nx.length:Int)<=i:=om;have g3:¬j<0:=om;have g4:¬(a.nx.length:Int)<=j:=om;obtain _|n:=n;omega
      simp-implicitDefEqProofs (maxSteps:=9^7) (disch:=try exact Dz) only[↓DN,↓kAsg,↓kRet,UP,simprocAttr,↓bM,hv,g1,g2,g3,g4,↓kv_l,↓kl_b,iO,f5,Tryz.f46]
     ·simp only[h1,h2,h3,h4,decide_true,decide_false,Bu,Dg,Ak,if_false,txt,Ap];have g1:¬i<0:=om;have g2:¬(a.nx.length:Int)<=i:=om;have g3:¬j<0:=om;have g4:(a.nx.length:Int)<=j:=om;obtain _|n:=n;omega
      simp-implicitDefEqProofs (maxSteps:=9^7) (disch:=try exact Dz) only[↓DN,↓kAsg,↓kRet,UP,simprocAttr,↓bM,hv,g1,g2,g3,g4,iO,f5,Tryz.f46]
    ·simp only[h1,h2,h3,decide_true,decide_false,Bu,Dg,Cu,Ak,if_false,txt,Ap];have g1:¬i<0:=om;have g2:¬(a.nx.length:Int)<=i:=om;have g3:j<0:=om;obtain _|n:=n;omega
     simp-implicitDefEqProofs (maxSteps:=9^7) (disch:=try exact Dz) only[↓DN,↓kAsg,↓kRet,UP,simprocAttr,↓bM,hv,g1,g2,g3,iO,f5,Tryz.f46]
   ·simp only[h1,h2,decide_true,decide_false,Dg,Cu,Ak,if_false,txt,Ap];have g1:¬i<0:=om;have g2:(a.nx.length:Int)<=i:=om;obtain _|n:=n;omega
    simp-implicitDefEqProofs (maxSteps:=9^7) (disch:=try exact Dz) only[↓DN,↓kAsg,↓kRet,UP,simprocAttr,↓bM,hv,g1,g2,iO,f5,Tryz.f46]
  ·simp only[h1,decide_false,Dg,Cu,Ak,if_false,txt,Ap];have g1:i<0:=om;obtain _|n:=n;omega
   simp-implicitDefEqProofs (maxSteps:=9^7) (disch:=try exact Dz) only[↓DN,↓kAsg,↓kRet,UP,simprocAttr,↓bM,hv,g1,iO,f5,Tryz.f46]
theorem aAa:type_of% fun {L} a i j hs hac hL=>ks fun hn=> @GH L _ hn a i j hs hac hL:=fun {L} a i j hs hac hL=>ks fun hn=> @GH L _ hn a i j hs hac hL
theorem RV(hn:1<=n)(al:Int)(rs:List (List Int))(z:Nat)(cs:List D)(hrl:rs.length<=4294967296)(i:Int):aA env L n 104 [.agg [nI al,.d (.ivs rs.length (aL rs)),.d (.ivs z cs)],nI i] []=some (.d (.bool (decide (0<=i)&&decide (i<rs.length))),[]):=by
 by_cases h1:0<=i
 ·by_cases h2:i<rs.length
  ·simp only[h1,h2,decide_true,Bu];obtain _|n:=n;omega
   simp-implicitDefEqProofs (maxSteps:=9^7) (disch:=try exact Dz) only[↓DN,↓kAsg,↓kRet,UP,simprocAttr,h1,h2,F5,AO,Tryz.f104]
  ·simp only[h1,h2,decide_true,decide_false,Dg];obtain _|n:=n;omega
   simp-implicitDefEqProofs (maxSteps:=9^7) (disch:=try exact Dz) only[↓DN,↓kAsg,↓kRet,UP,simprocAttr,h1,h2,F5,AO,Tryz.f104]
 ·simp only[h1,decide_false,Cu];obtain _|n:=n;omega
  simp-implicitDefEqProofs (maxSteps:=9^7) (disch:=try exact Dz) only[↓DN,↓kAsg,↓kRet,UP,simprocAttr,h1,F5,AO,Tryz.f104]
theorem rJ:type_of% fun {L} al rs z cs hrl i=>ks fun hn=> @RV L _ hn al rs z cs hrl i:=fun {L} al rs z cs hrl i=>ks fun hn=> @RV L _ hn al rs z cs hrl i
theorem HJ(hn:12<=n)(a:Aut)(i j:Int)(hs:bB a.nx)(hac:a.ac.length<=4294967296)(hL:2^60<=L):aA env L n 75 [.agg [nI a.al,.d (.ivs a.nx.length (aL a.nx)),.d (.ivs a.ac.length (aJ a.ac))],nI i,nI j] []=some (.tup [.d (.str (txt (jB a i j).1)),.d (.bool (jB a i j).2)],[]):=by
 have hrl:=hs.1;unfold jB LQ
 cases hv:cY a.al a.nx a.ac with
 |false=>
  simp only[Cu,Ak,if_false,txt,Ap];obtain _|n:=n;omega
  simp-implicitDefEqProofs (maxSteps:=9^7) (disch:=try exact Dz) only[↓DN,↓kAsg,↓kRet,UP,simprocAttr,↓bL,hv,oF,lD,Tryz.f75]
 |true=>
  by_cases h1:0<=i/\i<a.nx.length
  ·by_cases h3:0<=j/\j<a.nx.length
   ·obtain⟨h1,h2⟩:=h1;obtain⟨h3,h4⟩:=h3;simp only[h1,h2,h3,h4,decide_true,Bu,if_true];have kc_b:=fun {R:Type} {n:Nat} {k:A->Option R} (hn:11<=n)=>kQ (call:=aA env L n) (k:=k) (f:=105) (@aFn L n hn hL a a i j 1 hv hv rfl ⟨h1,h2⟩ ⟨h3,h4⟩ (.inl rfl)) rfl;simp only[if_true,fV,ints,Ah,Ap]at kc_b;have kl_b:=fun {R:Type} {n:Nat} {k:A->Option R} (hn:11<=n)=>kc_b (R:=R) (n:=n) (k:=k) hn;have kv_l:=fun {R:Type} {n:Nat} {hq:H} {args:List A} {k:KA R}=>dA (E:=env) (call:=aA env L n) (h:=hq) (k:=k) (args:=args) sE;clear kc_b;generalize twoG (fun x y=>x !=y) a a i j=r at *;obtain _|n:=n;omega
    simp-implicitDefEqProofs (maxSteps:=9^7) (disch:=try exact Dz) only[↓DN,↓kAsg,↓kRet,UP,simprocAttr,↓bL,↓rJ,hv,h1,h2,h3,h4,↓kv_l,↓kl_b,oF,lD,Tryz.f75]
   ·have e3:(decide (0<=j)&&decide (j<a.nx.length))=false:=by
     rw[Bool.and_eq_false_iff,decide_eq_false_iff_not,decide_eq_false_iff_not];omega
    obtain⟨h1,h2⟩:=h1;simp only[h1,h2,e3,decide_true,Bu,Dg,Ak,if_false,txt,Ap];obtain _|n:=n;omega
    simp-implicitDefEqProofs (maxSteps:=9^7) (disch:=try exact Dz) only[↓DN,↓kAsg,↓kRet,UP,simprocAttr,↓bL,↓rJ,hv,h1,h2,e3,oF,lD,Tryz.f75]
  ·have e3:(decide (0<=i)&&decide (i<a.nx.length))=false:=by
    rw[Bool.and_eq_false_iff,decide_eq_false_iff_not,decide_eq_false_iff_not];omega
   simp only[e3,Dg,Cu,Ak,if_false,txt,Ap];obtain _|n:=n;omega
   simp-implicitDefEqProofs (maxSteps:=9^7) (disch:=try exact Dz) only[↓DN,↓kAsg,↓kRet,UP,simprocAttr,↓bL,↓rJ,hv,e3,oF,lD,Tryz.f75]
theorem YR:type_of% fun {L} a i j hs hac hL=>ks fun hn=> @HJ L _ hn a i j hs hac hL:=fun {L} a i j hs hac hL=>ks fun hn=> @HJ L _ hn a i j hs hac hL
end
end Ev
end Go.Proofs.YthlkcebdfbjdoaaGreat
