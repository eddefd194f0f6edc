/-
  A search through nodes, walked: one visit, which asks for a goal.
-/
import Derived.Test.YtppffbehejpglaaGreatDoorAutG
import Derived.Test.YtppffbehejpglaaGreatDoorWordAt
import Derived.Test.YtppffbehejpglaaGreatDoorAutM
import Derived.Test.YtppffbehejpglaaGreatDoorSafe
set_option linter.unusedSimpArgs false
set_option linter.unusedVariables false
set_option linter.unusedSectionVars false
set_option maxRecDepth 8000
set_option maxHeartbeats 4000000
namespace Go.Proofs.YtppffbehejpglaaGreatDoor
namespace Ev
section
variable{R:Type}{L n:Nat}
def visF:List Int->List Bool->List Int->List Bool×List Int
 | [],s,f=>(s,f)
 |n::ns,s,f=>if s.getD n.toNat false=true then visF ns s f else visF ns (s.set n.toNat true) (f++[n])
def iH(s:List Bool):Nat:=s.count false
theorem aEJ:∀(ns:List Int) (s:List Bool) (f:List Int),(visF ns s f).1.length=s.length
 | [],s,f=>rfl
 |n::ns,s,f=>by
  unfold visF
  split
  ·exact aEJ ns s f
  ·rw[aEJ ns];simp
theorem aC8:∀ {s:List Bool} {k:Nat},s.getD k false=false->k<s.length->iH (s.set k true)+1=iH s
 | [],k,h,hk=>by simp at hk
 |b::s,0,h,hk=>by
  simp at h;subst h;simp[iH]
 |b::s,k+1,h,hk=>by
  have ih:=aC8 (s:=s) (k:=k) (by simpa using h) (by simpa using hk);simp only[iH]at ih|-;simp only[Bt,List.count_cons];omega
theorem J6:∀(ns:List Int) (s:List Bool) (f:List Int),(∀n∈ns,0<=n/\n<s.length)->(visF ns s f).2.length+iH (visF ns s f).1=f.length+iH s
 | [],s,f,h=>rfl
 |n::ns,s,f,h=>by
  unfold visF
  split
  ·exact J6 ns s f fun m hm=>h m (Az _ hm)
  ·rename_i h1
   have h2:=h n Bd;rw[J6 ns _ _ fun m hm=>by simpa using h m (Az _ hm)];have:=aC8 (s:=s) (k:=n.toNat) (by simpa using h1) om;simp only[Af,Ae,Ac];omega
theorem aDl:∀(ns:List Int) (s:List Bool) (f:List Int) (x:Int),x∈(visF ns s f).2->x∈f\/x∈ns
 | [],s,f,x,h=>.inl h
 |n::ns,s,f,x,h=>by
  unfold visF at h
  split at h
  ·rcases aDl ns s f x h with h|h
   ·exact .inl h
   ·exact .inr (Az _ h)
  ·rcases aDl ns _ _ x h with h|h
   ·rcases Ak.1 h with h|h
    ·exact .inl h
    ·simp at h;subst h;exact .inr Bd
   ·exact .inr (Az _ h)
theorem Y3(s:List Bool):iH s<=s.length:=List.count_le_length
structure PGood(I:Int->Prop)(size:Nat)(s:List Bool)(st:List PStep):Prop where
 len:s.length=size
 node:∀p∈st,∀n∈p.ns,I n
 room:st.length+iH s<=size
 wide:∀p∈st,p.ns.length<=size
theorem aQC{I:Int->Prop}{size:Nat}{s:List Bool}{st:List PStep}(h:PGood I size s st){ns:List Int}(hI:∀n∈ns,I n)(hr:∀n,I n->0<=n/\n<size)(p l:Int):
  PGood I size (visF ns s []).1 (addP st p l (visF ns s []).2)/\(addP st p l (visF ns s []).2).length+iH (visF ns s []).1<=st.length+iH s/\st.length<=(addP st p l (visF ns s []).2).length:=by
 have hc:=J6 ns s [] fun n hn=>by
  have:=hr n (hI n hn);rw[h.len];exact this
 have hm:=aDl ns s [];have hl:=aEJ ns s [];have hu:=Y3 s;rw[h.len]at hu;have hroom:=h.room;simp only[Ac,Ag]at hc;unfold addP
 split
 ·rename_i hf
  rw[hf]at hc;simp only[Ac,Ag]at hc;exact⟨⟨by rw[hl,h.len],h.node,by omega,h.wide⟩,by omega,by omega⟩
 ·rename_i hf
  have hpos:0<(visF ns s []).2.length:=Ei.2 hf;refine⟨⟨by rw[hl,h.len],?_,by simp only[Af,Ae,Ac];omega,?_⟩,by simp only[Af,Ae,Ac];omega,by simp⟩
  ·intro q hq n hn
   rcases Ak.1 hq with hq|hq
   ·exact h.node q hq n hn
   ·simp at hq;subst hq
    rcases hm n hn with h1|h1
    ·cases h1
    ·exact hI n h1
  ·intro q hq
   rcases Ak.1 hq with hq|hq
   ·exact h.wide q hq
   ·simp at hq;subst hq;show(visF ns s []).2.length<=size;omega
theorem A8(gl:Int->Bool):∀(ns:List Int) (s:List Bool) (f:List Int) (b:Bool),(visG gl ns s f b).1=(visF ns s f).1/\(visG gl ns s f b).2.1=(visF ns s f).2
 | [],s,f,b=>⟨rfl,rfl⟩
 |n::ns,s,f,b=>by
  unfold visG visF
  split
  ·exact A8 gl ns s f b
  ·exact A8 gl ns _ _ _
theorem PR{I:Int->Prop}{gl:Int->Bool}{size:Nat}{s:List Bool}{st:List PStep}(h:PGood I size s st){ns:List Int}(hI:∀n∈ns,I n)(hr:∀n,I n->0<=n/\n<size)(p l:Int):
  PGood I size (visG gl ns s [] false).1 (addP st p l (visG gl ns s [] false).2.1)/\(addP st p l (visG gl ns s [] false).2.1).length+iH (visG gl ns s [] false).1<=st.length+iH s/\st.length<=(addP st p l (visG gl ns s [] false).2.1).length:=by
 obtain⟨e1,e2⟩:=A8 gl ns s [] false;rw[e1,e2];exact aQC h hI hr p l
theorem VL{I:Int->Prop}{gl:Int->Bool}{size:Nat}{nx:Int->Int->List Int}{ns:List Int}{p:Int}(hr:∀n,I n->0<=n/\n<size)(hn:∀n∈ns,I n):∀(ls:List Int) (q:List Bool×List PStep),(∀n m,I n->m∈ls->∀y∈nx n m,I y)->PGood I size q.1 q.2->
  PGood I size (ltG nx gl ns p ls q).2.1 (ltG nx gl ns p ls q).2.2/\(ltG nx gl ns p ls q).2.2.length+iH (ltG nx gl ns p ls q).2.1<=q.2.length+iH q.1/\q.2.length<=(ltG nx gl ns p ls q).2.2.length
 | [],q,hx,h=>⟨h,Ab _,Ab _⟩
 |l::ls,q,hx,h=>by
  have hI:∀m∈flat nx ns l,I m:=by
   intro m hm;obtain⟨n,h1,h2⟩:=Ck.1 hm;exact hx n l (hn n h1) Bd m h2
  obtain⟨g1,g2,g3⟩:=PR (gl:=gl) h hI hr p l;unfold ltG
  split
  ·exact⟨g1,g2,g3⟩
  ·obtain⟨k1,k2,k3⟩:=VL (gl:=gl) (p:=p) hr hn ls (_,_) (fun n m h1 h2=>hx n m h1 (Az _ h2)) g1;exact⟨k1,Bp k2 g2,Bp g3 k3⟩
def cD:List PStep->List D
 | []=>[]
 |p::l=>.int .i64 p.par::.int .i64 p.lt::.ivs p.ns.length (ints p.ns)::cD l
theorem xX:∀ {l:List PStep},(cD l).length=l.length*3
 | []=>rfl
 |p::l=>by simp only[cD,Ae,xX (l:=l)];omega
theorem aFg:∀ {a b:List PStep},cD a++cD b=cD (a++b)
 | [],b=>rfl
 |p::a,b=>by simp only[cD,Ax,aFg (a:=a)]
theorem aQs{l:List PStep}{p t:Int}{ns:List Int}{z:Nat}(h:z=ns.length):cD l++[.int .i64 p,.int .i64 t,.ivs z (ints ns)]=cD (l++[⟨p,t,ns⟩]):=by
 subst h;rw[<-aFg];rfl
theorem D5:∀ {l:List PStep} {k:Nat},(cD l).drop (k*3)=cD (l.drop k)
 |l,0=>by simp
 | [],k+1=>by simp[cD]
 |p::l,k+1=>by
  rw[Cc,Nat.one_mul];simp only[cD,Ds];exact D5
theorem UO{l:List PStep}{k:Nat}(h:l.length<=k):(cD l).take (k*3)=cD l:=Ce (by rw[xX];omega)
theorem aCa{l:List PStep}{k:Nat}(h:k<l.length):(((cD l).drop (k*3+2)).map A.d).head? =some (.d (.ivs (l.getD k default).ns.length (ints (l.getD k default).ns))):=by
 rw[<-Cl,D5,cC h (d:=default)];rfl
def dB(l:List Bool):List D:=l.map .bool
theorem aAA{l:List Bool}:(dB l).length=l.length:=by simp[dB]
theorem aG2{l:List Bool}{k:Nat}(h:k<l.length):(((dB l).drop k).map A.d).head? =some (.d (.bool (l.getD k false))):=by
 rw[List.head?_map,Di,dB,Bh,Aa,Ad h];rfl
theorem aI6{l:List Bool}{k:Nat}{v:Bool}(h:k<l.length):bK (dB l) k [.bool v]=dB (l.set k v):=BI _ l k v h
theorem XZ{a b c:O}{h:H}{g e k:Nat}{l:List Bool}{v:Bool}(hk:k<l.length):gY env.P (a::b::c::.arr (dB l) e g::h) 4 (.ptr 3 g k) (.d (.bool v))=some (a::b::c::.arr (dB (l.set k v)) e g::h):=by
 rw[mM (id:=3) rfl aNJ aRS rfl (by rw[aAA];exact hk),aI6 hk];rfl
theorem YD{a b c d:O}{h:H}{g e k:Nat}{l:List Bool}{v:Bool}(hk:k<l.length):gY env.P (a::b::c::d::.arr (dB l) e g::h) 4 (.ptr 4 g k) (.d (.bool v))=some (a::b::c::d::.arr (dB (l.set k v)) e g::h):=by
 rw[mM (id:=4) rfl aNJ aRS rfl (by rw[aAA];exact hk),aI6 hk];rfl
theorem rng5:List.range 5=[0,1,2,3,4]:=rfl
theorem rng6:List.range 6=[0,1,2,3,4,5]:=rfl
theorem aK0:dZ env.P 57=some false:=kr
theorem PE:type_of% (AI rng5 (AI rng6 (AI @xX (AI @UO (AI @aCa @aG2))))):=
 ⟨rng5,rng6,@xX,@UO,@aCa,@aG2⟩
theorem aRH(hn:3<=n)(hL:2^60<=L){I:Int->Prop}{gl:Int->Bool}{gf:FuncId}{caps:List D}{size:Nat}{p l:Int}{ns:List Int}{sc:List D}{se sg sn:Nat}(kc_g:∀ {R:Type} {n:Nat} {hq:H} {k:KA R} (x:Int),2<=n->I x->aX env (aA env L n) hq gf (nI x::caps.map A.d) k=k (.d (.bool (gl x))) hq)(hI:∀x∈ns,I x)(hr:∀x,I x->0<=x/\x<size)(hsz:size<=4294967296)(hnl:ns.length<=4294967290){k:KE R}:∀(j i m:Nat) (seen:List Bool) (f:List Int) (b:Bool) (len:Nat) (hi:i+j=ns.length) (hm:j<m) (hs:seen.length=size) (hf:f.length<=i) (hlen:len=f.length),
  aT env (aA env L n) L (5) (W8 (W2 [2])) Bz11 (n4 0) Bz28 m (nI p::nI l::Y1 (.ptr 0 0 0::.ptr 1 0 0::.ptr 2 0 0::Y2 (Y1 (.d (.bool false)::.sl 5 0 0 len::.d (.bool b)::Y2 (.d (.ivs ns.length (ints ns))::nI (ns.length)::nI i::Y32 (Y1 ([]))))))) [.box [.sl 3 0 0 size],.box [.d (.fn gf caps)],.box [.sl 4 sg 0 sn],.arr (dB seen) 1 0,.arr sc se sg,.arr (ints f) 1 0] k
  =k (.exit 0) (nI p::nI l::Y1 (.ptr 0 0 0::.ptr 1 0 0::.ptr 2 0 0::Y2 (Y1 (.d (.bool false)::.sl 5 0 0 (visG gl (ns.drop i) seen f b).2.1.length::.d (.bool (((visG gl (ns.drop i) seen f b).2.2)))::Y2 (.d (.ivs ns.length (ints ns))::nI (ns.length)::nI (ns.length)::Y32 (Y1 ([]))))))) [.box [.sl 3 0 0 size],.box [.d (.fn gf caps)],.box [.sl 4 sg 0 sn],.arr (dB (visG gl (ns.drop i) seen f b).1) 1 0,.arr sc se sg,.arr (ints (visG gl (ns.drop i) seen f b).2.1) 1 0]:=by
 intro j
 induction j with
 |zero=>
  intro i m seen f b len hi hm hs hf hlen;obtain _|m:=m;omega;obtain rfl:i=ns.length:=om;subst hlen
  simp-implicitDefEqProofs (maxSteps:=9^7) (disch:=try exact Dz) only[↓DN,↓kRet,UP,simprocAttr,PE,Ah,cI,cM,Tryz.f123];simp only[Bu,visG]
 |succ j ih=>
  intro i m seen f b len hi hm hs hf hlen;obtain _|m:=m;omega;subst hlen;have hc:(i:Int)<ns.length:=om;have hk:i<ns.length:=om;have hmem:ns.getD i 0∈ns:=by rw[Aa,Ad hk];exact At hk
  have hIx:=hI _ hmem;obtain⟨b1,b2⟩:=hr _ hIx;have b3:(ns.getD i 0).toNat<seen.length:=om;have e4:((i+1:Nat):Int)=(i:Int)+1:=om;rw[cC hk (d:=0)]
  cases hb:seen.getD (ns.getD i 0).toNat false with
  |true=>
   have ih':=ih (i+1) m seen f b f.length om om hs om rfl;rw[e4]at ih';clear ih hmem
   simp-implicitDefEqProofs (maxSteps:=9^7) (disch:=try exact Dz) only[↓DN,↓kRet,UP,simprocAttr,PE,hc,b1,b2,hb,↓ih',cI,cM,Tryz.f123];simp only[visG,hb,if_true]
  |false=>
   cases b with
   |true=>
    have ih':=ih (i+1) m (seen.set (ns.getD i 0).toNat true) (f++[ns.getD i 0]) true (f.length+1) om om (by simp[hs]) (by simp;omega) smp;rw[e4]at ih';clear ih hmem
    simp-implicitDefEqProofs (maxSteps:=9^7) (disch:=try exact Dz) only[↓DN,↓kRet,UP,simprocAttr,PE,hc,b1,b2,hb,↓XZ,↓ih',cI,cM,Tryz.f123];simp only[visG,hb,Al,if_false,Bool.true_or]
   |false=>
    cases hg:gl (ns.getD i 0)with
    |true=>
     have ih':=ih (i+1) m (seen.set (ns.getD i 0).toNat true) (f++[ns.getD i 0]) true (f.length+1) om om (by simp[hs]) (by simp;omega) smp;rw[e4]at ih';clear ih hmem
     simp-implicitDefEqProofs (maxSteps:=9^7) (disch:=try exact Dz) only[↓DN,↓kRet,UP,simprocAttr,PE,aK0,hc,b1,b2,hb,hg,↓XZ,↓kc_g,↓ih',cI,cM,Tryz.f123];simp only[visG,hb,hg,Al,if_false,Bool.or_true]
    |false=>
     have ih':=ih (i+1) m (seen.set (ns.getD i 0).toNat true) (f++[ns.getD i 0]) false (f.length+1) om om (by simp[hs]) (by simp;omega) smp;rw[e4]at ih';clear ih hmem
     simp-implicitDefEqProofs (maxSteps:=9^7) (disch:=try exact Dz) only[↓DN,↓kRet,UP,simprocAttr,PE,aK0,hc,b1,b2,hb,hg,↓XZ,↓kc_g,↓ih',cI,cM,Tryz.f123];simp only[visG,hb,hg,Al,if_false,Bool.or_false]
theorem aRG(hn:3<=n)(hL:2^60<=L){I:Int->Prop}{gl:Int->Bool}{gf:FuncId}{caps:List D}{size:Nat}{p l:Int}{ns:List Int}{sc:List D}{se sg sn:Nat}(kc_g:∀ {R:Type} {n:Nat} {hq:H} {k:KA R} (x:Int),2<=n->I x->aX env (aA env L n) hq gf (nI x::caps.map A.d) k=k (.d (.bool (gl x))) hq)(hI:∀x∈ns,I x)(hr:∀x,I x->0<=x/\x<size)(hsz:size<=4294967296)(hnl:ns.length<=4294967290){k:KE R}:∀(j i m:Nat) (seen:List Bool) (f:List Int) (b:Bool) (len:Nat) (hi:i+j=ns.length) (hm:j<m) (hs:seen.length=size) (hf:f.length<=i) (hlen:len=f.length),
  aT env (aA env L n) L (6) (W8 (W2 [2])) Bz11 (n4 0) Bz28 m (nI p::nI l::Y1 (.ptr 0 0 0::.ptr 1 0 0::.ptr 2 0 0::Y2 (Y1 (.d (.bool false)::.sl 6 0 0 len::.d (.bool b)::Y2 (.sl 3 0 0 ns.length::nI (ns.length)::nI i::Y32 (Y1 ([]))))))) [.box [.sl 4 0 0 size],.box [.d (.fn gf caps)],.box [.sl 5 sg 0 sn],.arr (ints ns) 1 0,.arr (dB seen) 1 0,.arr sc se sg,.arr (ints f) 1 0] k
  =k (.exit 0) (nI p::nI l::Y1 (.ptr 0 0 0::.ptr 1 0 0::.ptr 2 0 0::Y2 (Y1 (.d (.bool false)::.sl 6 0 0 (visG gl (ns.drop i) seen f b).2.1.length::.d (.bool (((visG gl (ns.drop i) seen f b).2.2)))::Y2 (.sl 3 0 0 ns.length::nI (ns.length)::nI (ns.length)::Y32 (Y1 ([]))))))) [.box [.sl 4 0 0 size],.box [.d (.fn gf caps)],.box [.sl 5 sg 0 sn],.arr (ints ns) 1 0,.arr (dB (visG gl (ns.drop i) seen f b).1) 1 0,.arr sc se sg,.arr (ints (visG gl (ns.drop i) seen f b).2.1) 1 0]:=by
 intro j
 induction j with
 |zero=>
  intro i m seen f b len hi hm hs hf hlen;obtain _|m:=m;omega;obtain rfl:i=ns.length:=om;subst hlen
  simp-implicitDefEqProofs (maxSteps:=9^7) (disch:=try exact Dz) only[↓DN,↓kRet,UP,simprocAttr,PE,Ah,cI,cM,Tryz.f123];simp only[Bu,visG]
 |succ j ih=>
  intro i m seen f b len hi hm hs hf hlen;obtain _|m:=m;omega;subst hlen;have hc:(i:Int)<ns.length:=om;have hk:i<ns.length:=om;have hmem:ns.getD i 0∈ns:=by rw[Aa,Ad hk];exact At hk
  have hIx:=hI _ hmem;obtain⟨b1,b2⟩:=hr _ hIx;have b3:(ns.getD i 0).toNat<seen.length:=om;have e4:((i+1:Nat):Int)=(i:Int)+1:=om;rw[cC hk (d:=0)]
  cases hb:seen.getD (ns.getD i 0).toNat false with
  |true=>
   have ih':=ih (i+1) m seen f b f.length om om hs om rfl;rw[e4]at ih';clear ih hmem
   simp-implicitDefEqProofs (maxSteps:=9^7) (disch:=try exact Dz) only[↓DN,↓kRet,UP,simprocAttr,PE,hc,b1,b2,hb,↓ih',cI,cM,Tryz.f123];simp only[visG,hb,if_true]
  |false=>
   cases b with
   |true=>
    have ih':=ih (i+1) m (seen.set (ns.getD i 0).toNat true) (f++[ns.getD i 0]) true (f.length+1) om om (by simp[hs]) (by simp;omega) smp;rw[e4]at ih';clear ih hmem
    simp-implicitDefEqProofs (maxSteps:=9^7) (disch:=try exact Dz) only[↓DN,↓kRet,UP,simprocAttr,PE,hc,b1,b2,hb,↓YD,↓ih',cI,cM,Tryz.f123];simp only[visG,hb,Al,if_false,Bool.true_or]
   |false=>
    cases hg:gl (ns.getD i 0)with
    |true=>
     have ih':=ih (i+1) m (seen.set (ns.getD i 0).toNat true) (f++[ns.getD i 0]) true (f.length+1) om om (by simp[hs]) (by simp;omega) smp;rw[e4]at ih';clear ih hmem
     simp-implicitDefEqProofs (maxSteps:=9^7) (disch:=try exact Dz) only[↓DN,↓kRet,UP,simprocAttr,PE,aK0,hc,b1,b2,hb,hg,↓YD,↓kc_g,↓ih',cI,cM,Tryz.f123];simp only[visG,hb,hg,Al,if_false,Bool.or_true]
    |false=>
     have ih':=ih (i+1) m (seen.set (ns.getD i 0).toNat true) (f++[ns.getD i 0]) false (f.length+1) om om (by simp[hs]) (by simp;omega) smp;rw[e4]at ih';clear ih hmem
     simp-implicitDefEqProofs (maxSteps:=9^7) (disch:=try exact Dz) only[↓DN,↓kRet,UP,simprocAttr,PE,aK0,hc,b1,b2,hb,hg,↓YD,↓kc_g,↓ih',cI,cM,Tryz.f123];simp only[visG,hb,hg,Al,if_false,Bool.or_false]
theorem aWf(hn:4<=n)(hL:2^60<=L){I:Int->Prop}{gl:Int->Bool}{gf:FuncId}{caps:List D}{size:Nat}{p l:Int}{ns:List Int}(kc_g:∀ {R:Type} {n:Nat} {hq:H} {k:KA R} (x:Int),2<=n->I x->aX env (aA env L n) hq gf (nI x::caps.map A.d) k=k (.d (.bool (gl x))) hq)(hI:∀x∈ns,I x)(hr:∀x,I x->0<=x/\x<size)(hsz:size<=4294967290)(hnl:ns.length<=4294967290)(seen:List Bool)(hs:seen.length=size)(r:List Bool×List Int×Bool)(he:visG gl ns seen [] false=r)(hpos:(0:Int)<r.2.1.length):
  aA env L n 123 [nI p,nI l,.d (.ivs ns.length (ints ns)),.ptr 0 0 0,.ptr 1 0 0,.ptr 2 0 0] [.box [.sl 3 0 0 size],.box [.d (.fn gf caps)],.box [.sl 4 0 0 0],.arr (dB seen) 1 0,.arr [] 0 0]
  =some (.d (.bool r.2.2),[.box [.sl 3 0 0 size],.box [.d (.fn gf caps)],.box [.sl 4 1 0 1],.arr (dB r.1) 1 0,.arr (cD [⟨p,l,r.2.1⟩]) 3 1]):=by
 have loop_c:=fun {R:Type} {n:Nat} (hn:3<=n) {k:KE R}=> @aRH R L n hn hL I gl gf caps size p l ns [] 0 0 0 (fun {R n hq k}=>kc_g) hI hr om hnl k ns.length 0 L seen [] false 0 om om hs smp rfl;simp only[Ba,he,kG,Ap]at loop_c
 have hb:r.2.1.length<=size:=by
  have h1:=J6 ns seen [] fun x hx=>by rw[hs];exact hr x (hI x hx)
  have h2:=Y3 seen;rw[<-(A8 gl ns seen [] false).1,<-(A8 gl ns seen [] false).2,he]at h1;simp only[Ac,Ag]at h1;omega
 have et:(ints r.2.1).take r.2.1.length=ints r.2.1:=cK (Ab _);obtain _|n:=n;omega
 simp-implicitDefEqProofs (maxSteps:=9^7) (disch:=try exact Dz) only[↓DN,↓kAsg,↓kRet,UP,simprocAttr,PE,↓loop_c,hpos,et,wE,qN,Tryz.f123]<;>rfl
theorem aWI(hn:4<=n)(hL:2^60<=L){I:Int->Prop}{gl:Int->Bool}{gf:FuncId}{caps:List D}{size:Nat}{p l:Int}{ns:List Int}(kc_g:∀ {R:Type} {n:Nat} {hq:H} {k:KA R} (x:Int),2<=n->I x->aX env (aA env L n) hq gf (nI x::caps.map A.d) k=k (.d (.bool (gl x))) hq)(hI:∀x∈ns,I x)(hr:∀x,I x->0<=x/\x<size)(hsz:size<=4294967290)(hnl:ns.length<=4294967290)(seen:List Bool)(hs:seen.length=size)(st:List PStep)(hst:st.length<=4294967290)(r:List Bool×List Int×Bool)(he:visG gl ns seen [] false=r):
  aA env L n 123 [nI p,nI l,.sl 3 0 0 ns.length,.ptr 0 0 0,.ptr 1 0 0,.ptr 2 0 0] [.box [.sl 4 0 0 size],.box [.d (.fn gf caps)],.box [.sl 5 0 0 st.length],.arr (ints ns) 1 0,.arr (dB seen) 1 0,.arr (cD st) 3 0]
  =some (.d (.bool r.2.2),[.box [.sl 4 0 0 size],.box [.d (.fn gf caps)],.box [.sl 5 (if r.2.1=[]then 0 else 1) 0 (addP st p l r.2.1).length],.arr (ints ns) 1 0,.arr (dB r.1) 1 0,.arr (cD (addP st p l r.2.1)) 3 (if r.2.1=[]then 0 else 1)]):=by
 have loop_c:=fun {R:Type} {n:Nat} (hn:3<=n) {k:KE R}=> @aRG R L n hn hL I gl gf caps size p l ns (cD st) 3 0 st.length (fun {R n hq k}=>kc_g) hI hr om hnl k ns.length 0 L seen [] false 0 om om hs smp rfl;simp only[Ba,he,kG,Ap]at loop_c
 have hb:r.2.1.length<=size:=by
  have h1:=J6 ns seen [] fun x hx=>by rw[hs];exact hr x (hI x hx)
  have h2:=Y3 seen;rw[<-(A8 gl ns seen [] false).1,<-(A8 gl ns seen [] false).2,he]at h1;simp only[Ac,Ag]at h1;omega
 have et:(ints r.2.1).take r.2.1.length=ints r.2.1:=cK (Ab _);have es:(cD st).take (st.length*3)=cD st:=UO (Ab _);unfold addP
 by_cases hf:r.2.1=[]
 ·rw[if_pos hf,if_pos hf];have hz:r.2.1.length=0:=by rw[hf];rfl
  rw[hz]at loop_c;obtain _|n:=n;omega
  simp-implicitDefEqProofs (maxSteps:=9^7) (disch:=try exact Dz) only[↓DN,↓kAsg,↓kRet,UP,simprocAttr,PE,↓loop_c,Ap,Ah,wE,qN,Tryz.f123]
 ·rw[if_neg hf,if_neg hf];have hpos:(0:Int)<r.2.1.length:=by have:=Ei.2 hf;omega
  obtain _|n:=n;omega
  simp-implicitDefEqProofs (maxSteps:=9^7) (disch:=try exact Dz) only[↓DN,↓kAsg,↓kRet,UP,simprocAttr,PE,↓loop_c,hpos,et,es,aQs,wE,qN,Tryz.f123]
end
theorem aTF{st:List PStep}{p l:Int}{f:List Int}{i:Nat}(h:i<st.length):(addP st p l f).getD i default=st.getD i default:=by
 unfold addP
 split
 ·rfl
 ·exact kC h
theorem aTB{nx:Int->Int->List Int}{l:Int}:flat nx [] l=[]:=rfl
theorem aJ9{nx:Int->Int->List Int}{n l:Int}{ns:List Int}:flat nx (n::ns) l=nx n l++flat nx ns l:=rfl
theorem aM0{nx:Int->Int->List Int}{c:Int}(hw:∀x c,(nx x c).length<=4096):∀ns:List Int,(flat nx ns c).length<=4096*ns.length
 | []=>by simp[flat]
 |x::ns=>by simp only[aJ9,Af,Ae];have:=hw x c;have:=aM0 (c:=c) hw ns;omega
def ltI(nx:Int->Int->List Int)(gl:Int->Bool)(ns:List Int)(p:Int):List Int->List Bool×List PStep->Nat
 | [],_=>0
 |l::ls,q=>if(visG gl (flat nx ns l) q.1 [] false).2.2=true then 0 else ltI nx gl ns p ls ((visG gl (flat nx ns l) q.1 [] false).1,addP q.2 p l (visG gl (flat nx ns l) q.1 [] false).2.1)+1
def outI(nx:Int->Int->List Int)(gl:Int->Bool)(ls:List Int):Nat->Nat->List Bool×List PStep->Nat
 |0,i,_=>i
 |j+1,i,q=>if i<q.2.length then
   (if(ltG nx gl (q.2.getD i default).ns i ls q).1=true then i
    else outI nx gl ls j (i+1) (ltG nx gl (q.2.getD i default).ns i ls q).2)
  else i
def txt(w:List Int):List UInt8:=w.map bU
def aBl(st:List PStep):List UInt8:=txt (gM st st.length (st.length-1))
theorem UJ{R:Type}{E:Env}{call:aZ}{h:H}{f:FuncId}{args:List A}{len:Nat}{k:KA R}{id e g e2 g2:Nat}{cs cs2:List D}(hi:h[id]? =some (.arr cs e g))(hid:idsL args=[id])(hm:(E.hint f).mode=0)(he:call f (aG (aJ [id]) args) [.arr cs e g]=some (.sl 0 g2 0 len,[.arr cs2 e2 g2])):
  aX E call h f args k=k (.sl id g2 0 len) (h.set id (.arr cs2 e2 g2)):=by
 have hre:aF aI h [id] []=[id]:=by
  have e1:aF aI h [id] []=match h[id]? with
   |some (.box cs)=>aF (aI-1) h ([]++idsL cs) ([]++[id])
   |some (.vec cs _ _)=>aF (aI-1) h ([]++idsL cs) ([]++[id])
   |some .void=>aF (aI-1) h [] []
   |some _=>aF (aI-1) h [] ([]++[id])
   |none=>aF (aI-1) h [] []:=rfl
  rw[e1,hi];rfl
 have hpk:pack h [id]=[.arr cs e g]:=by
  simp only[pack,Aj,As,Aa,hi];rfl
 unfold aX;rw[hid,hre,hpk]
 have hc:bY call E.hint [.arr cs e g] f (aG (aJ [id]) args)=some (.sl 0 g2 0 len,[.arr cs2 e2 g2]):=by
  unfold bY;rw[hm];exact he
 rw[hc]
 have hcl:closed h [id] [id]=true:=by
  simp only[closed,Bx,Cd,hi];simp
 have hb:back [id] h.length 1 0=some id:=rfl;simp only[Ae,Ac,Ab,hcl,and_self,if_true,mapA,Ag,hb];simp only[bJ,mapO,As,Ai]
theorem aQv{R:Type}{L n dn:Nat}(hn:dn+4<=n)(hL:2^60<=L){I:Int->Prop}{nf:FuncId}{caps:List D}{gb:D}{size:Nat}{nx:Int->Int->List Int}{gn:Int->Int->Nat}{ls ns:List Int}{sc:List D}{seen:List Bool}{sn ii q:Nat}{c:Int}
  (kc_n:∀ {R:Type} {n id:Nat} {hq:H} {k:KA R} (x c:Int) (o:List Int),dn+4<=n->I x->0<=c->c<6->o.length<=4200000000->hq[id]? =some (.arr (ints o) 1 0)->aX env (aA env L n) hq nf (nI x::nI c::.sl id 0 0 o.length::caps.map A.d) k=k (.sl id (gn x c) 0 (o++nx x c).length) (hq.set id (.arr (ints (o++nx x c)) 1 (gn x c))))
  (hI:∀x∈ns,I x) (hw:∀x c,(nx x c).length<=4096) (hc0:0<=c) (hc6:c<6) (hnl:ns.length<=1000000) {k:KE R}:∀(j i m:Nat) (o:List Int) (len:Nat) (hi:i+j=ns.length) (hm:j<m) (ho:o.length<=4096*i) (hlen:len=o.length),
  aT env (aA env L n) L 0 (W16 (W2 [2])) Bz3 (jE 2) (U2 (Z2 (U4 (U2 (Z2 (U1 (Z2 (Z1 (U1 (Z2 (U8 (U4 (U2 (Z2 (Z1 (U4 (U2 (U1 (Z2 (Z1 (U16 (U1 ([]))))))))))))))))))))))) m (Y2 (.d (.ivs ls.length (ints ls))::.d (.fn nf caps)::Y4 (Y2 (.d (.str [])::.d (.bool false)::Y1 (.ptr 0 0 0::.clo 123 [.ptr 1 0 0,.ptr 2 0 0,.ptr 0 0 0]::nI ii::Y1 (nI c::.sl 3 0 0 len::Y8 (Y4 (Y2 (.d (.ivs ls.length (ints ls))::nI (ls.length)::nI q::Y4 (Y2 (Y1 (.d (.ivs ns.length (ints ns))::nI (ns.length)::nI i::Y16 (Y1 ([])))))))))))))) [.box [.sl 4 0 0 sn],.box [.sl 5 0 0 size],.box [.d gb],.arr (ints o) 1 0,.arr sc 3 0,.arr (dB seen) 1 0] k
  =k (.exit 4) (Y2 (.d (.ivs ls.length (ints ls))::.d (.fn nf caps)::Y4 (Y2 (.d (.str [])::.d (.bool false)::Y1 (.ptr 0 0 0::.clo 123 [.ptr 1 0 0,.ptr 2 0 0,.ptr 0 0 0]::nI ii::Y1 (nI c::.sl 3 0 0 (o++flat nx (ns.drop i) c).length::Y8 (Y4 (Y2 (.d (.ivs ls.length (ints ls))::nI (ls.length)::nI q::Y4 (Y2 (Y1 (.d (.ivs ns.length (ints ns))::nI (ns.length)::nI (ns.length)::Y16 (Y1 ([])))))))))))))) [.box [.sl 4 0 0 sn],.box [.sl 5 0 0 size],.box [.d gb],.arr (ints (o++flat nx (ns.drop i) c)) 1 0,.arr sc 3 0,.arr (dB seen) 1 0]:=by
 intro j
 induction j with
 |zero=>
  intro i m o len hi hm ho hlen;obtain _|m:=m;omega;obtain rfl:i=ns.length:=om;subst hlen
  simp-implicitDefEqProofs (maxSteps:=9^7) (disch:=try exact Dz) only[↓DN,↓kRet,UP,simprocAttr,Ah,F9,BD,Tryz.f93];simp only[Bu,aTB,Ai,Ac,By]
 |succ j ih=>
  intro i m o len hi hm ho hlen;obtain _|m:=m;omega;subst hlen;have hc:(i:Int)<ns.length:=om;have hk:i<ns.length:=om;have hmem:ns.getD i 0∈ns:=by rw[Aa,Ad hk];exact At hk
  have hIx:=hI _ hmem;have hww:=hw (ns.getD i 0) c;have hob:o.length<=4200000000:=om;have e4:((i+1:Nat):Int)=(i:Int)+1:=om;have ih':=ih (i+1) m (o++nx (ns.getD i 0) c) (o.length+(nx (ns.getD i 0) c).length) om om (by rw[Af];omega) (by rw[Af]);rw[e4]at ih';rw[cC hk (d:=0)];simp only[aJ9,<-Ao];have kc_m:=fun {R:Type} {n id:Nat} {hq:H} {k:KA R} (h4:dn+4<=n) (hg:hq[id]? =some (.arr (ints o) 1 0))=> @kc_n R n id hq k (ns.getD i 0) c o h4 hIx hc0 hc6 hob hg;clear ih hmem kc_n;generalize nx (ns.getD i 0) c=w at *
  simp-implicitDefEqProofs (maxSteps:=9^7) (disch:=try exact Dz) only[↓DN,↓kRet,UP,simprocAttr,hc,↓kc_m,↓ih',F9,BD,Tryz.f93]
theorem aAz:∀(ns:List Int) (s:List Bool) (f:List Int),f.length<=(visF ns s f).2.length
 | [],s,f=>Ab _
 |n::ns,s,f=>by
  unfold visF
  split
  ·exact aAz ns s f
  ·have:=aAz ns (s.set n.toNat true) (f++[n]);simp only[Af,Ae,Ac]at this;omega
theorem aLB{ns:List Int}{size:Nat}(h:ns≠[]):0<(visF ns (List.replicate size false) []).2.length:=by
 cases ns with
 |nil=>exact absurd rfl h
 |cons n ns=>
  have e:(List.replicate size false).getD n.toNat false=false:=by
   rw[Aa,List.getElem?_replicate]
   split<;>rfl
  unfold visF;rw[e];have:=aAz ns ((List.replicate size false).set n.toNat true) ([]++[n]);simp only[Af,Ae,Ac]at this;simp only[Al,if_false];omega
theorem aWA{R:Type}{L n:Nat}{k:KA R}(hn:4<=n)(hL:2^60<=L){I:Int->Prop}{gl:Int->Bool}{gf:FuncId}{caps:List D}{size:Nat}{p l:Int}{ns:List Int}(kc_g:∀ {R:Type} {n:Nat} {hq:H} {k:KA R} (x:Int),2<=n->I x->aX env (aA env L n) hq gf (nI x::caps.map A.d) k=k (.d (.bool (gl x))) hq)(hI:∀x∈ns,I x)(hr:∀x,I x->0<=x/\x<size)(hsz:size<=4294967290)(hnl:ns.length<=4294967290)(hne:ns≠[]):
  L0 env (aA env L n) [.box [.d (.fn gf caps)],.arr (dB (List.replicate size false)) 1 0,.arr [] 0 0,.box [.sl 1 0 0 size],.arr [] 0 0,.box [.sl 4 0 0 0]] 123 [.ptr 3 0 0,.ptr 0 0 0,.ptr 5 0 0] [nI p,nI l,.d (.ivs ns.length (ints ns))] k
  =k (.d (.bool (visG gl ns (List.replicate size false) [] false).2.2)) [.box [.d (.fn gf caps)],.arr (dB (visG gl ns (List.replicate size false) [] false).1) 1 0,.arr [] 0 0,.box [.sl 1 0 0 size],.arr (cD [⟨p,l,(visG gl ns (List.replicate size false) [] false).2.1⟩]) 3 1,.box [.sl 4 1 0 1]]:=by
 have he:=aWf (gl:=gl) (p:=p) (l:=l) hn hL (fun {R n hq k}=>kc_g) hI hr hsz hnl (List.replicate size false) smp _ rfl (by have:=aLB (size:=size) hne;rw[(A8 gl ns _ [] false).2];omega);unfold L0;generalize List.replicate size false=sz at *;generalize hh:[O.box [.d (.fn gf caps)],.arr (dB sz) 1 0,.arr [] 0 0,.box [.sl 1 0 0 size],.arr [] 0 0,.box [.sl 4 0 0 0]]=h;have hre:aF aI h (idsL [A.ptr 3 0 0,.ptr 0 0 0,.ptr 5 0 0]++idsL [A.d (.int .i64 p),nI l,.d (.ivs ns.length (ints ns))]) []=[3,0,5,1,4]:=by subst hh;rfl
 have hpk:pack h [3,0,5,1,4]=[.box [.sl 3 0 0 size],.box [.d (.fn gf caps)],.box [.sl 4 0 0 0],.arr (dB sz) 1 0,.arr [] 0 0]:=by subst hh;rfl
 have hma:aG (aJ [3,0,5,1,4]) [A.d (.int .i64 p),nI l,.d (.ivs ns.length (ints ns))]++aG (aJ [3,0,5,1,4]) [A.ptr 3 0 0,.ptr 0 0 0,.ptr 5 0 0]=[nI p,nI l,.d (.ivs ns.length (ints ns)),.ptr 0 0 0,.ptr 1 0 0,.ptr 2 0 0]:=rfl
 have hca:∀h f args,bY (aA env L n) env.hint h f args=if(env.hint f).mode=0 then aA env L n f args h else bY (aA env L n) env.hint h f args:=by
  intro h f args
  split
  ·rename_i hm
   unfold bY;rw[hm];rfl
  ·rfl
 rw[hre,hpk,hma,hca,if_pos mA,he];have hcl:closed h [3,0,5,1,4] (idsL [A.ptr 3 0 0,.ptr 0 0 0,.ptr 5 0 0]++idsL [A.d (.int .i64 p),nI l,.d (.ivs ns.length (ints ns))])=true:=by subst hh;rfl
 subst hh;simp only[hcl,Ae,Ac,Ab,and_self,if_true]<;>rfl
def gV(r:List Bool×List Int×Bool):Nat:=if r.2.1=[]then 0 else 1
theorem aV9{R:Type}{L n:Nat}{k:KA R}(hn:4<=n)(hL:2^60<=L){I:Int->Prop}{gl:Int->Bool}{gf:FuncId}{caps:List D}{size:Nat}{p l:Int}{ns:List Int}(kc_g:∀ {R:Type} {n:Nat} {hq:H} {k:KA R} (x:Int),2<=n->I x->aX env (aA env L n) hq gf (nI x::caps.map A.d) k=k (.d (.bool (gl x))) hq)(hI:∀x∈ns,I x)(hr:∀x,I x->0<=x/\x<size)(hsz:size<=4294967290)(hnl:ns.length<=4294967290)(seen:List Bool)(hs:seen.length=size)(st:List PStep)(hst:st.length<=4294967290):
  L0 env (aA env L n) [.box [.sl 4 0 0 st.length],.box [.sl 5 0 0 size],.box [.d (.fn gf caps)],.arr (ints ns) 1 0,.arr (cD st) 3 0,.arr (dB seen) 1 0] 123 [.ptr 1 0 0,.ptr 2 0 0,.ptr 0 0 0] [nI p,nI l,.sl 3 0 0 ns.length] k
  =k (.d (.bool (visG gl ns seen [] false).2.2)) [.box [.sl 4 (gV (visG gl ns seen [] false)) 0 (addP st p l (visG gl ns seen [] false).2.1).length],.box [.sl 5 0 0 size],.box [.d (.fn gf caps)],.arr (ints ns) 1 0,.arr (cD (addP st p l (visG gl ns seen [] false).2.1)) 3 (gV (visG gl ns seen [] false)),.arr (dB (visG gl ns seen [] false).1) 1 0]:=by
 have he:=aWI (gl:=gl) (p:=p) (l:=l) hn hL (fun {R n hq k}=>kc_g) hI hr hsz hnl seen hs st hst _ rfl;unfold L0;generalize hh:[O.box [.sl 4 0 0 st.length],.box [.sl 5 0 0 size],.box [.d (.fn gf caps)],.arr (ints ns) 1 0,.arr (cD st) 3 0,.arr (dB seen) 1 0]=h;have hre:aF aI h (idsL [A.ptr 1 0 0,.ptr 2 0 0,.ptr 0 0 0]++idsL [A.d (.int .i64 p),nI l,.sl 3 0 0 ns.length]) []=[1,2,0,3,5,4]:=by subst hh;rfl
 have hpk:pack h [1,2,0,3,5,4]=[.box [.sl 4 0 0 size],.box [.d (.fn gf caps)],.box [.sl 5 0 0 st.length],.arr (ints ns) 1 0,.arr (dB seen) 1 0,.arr (cD st) 3 0]:=by subst hh;rfl
 have hma:aG (aJ [1,2,0,3,5,4]) [A.d (.int .i64 p),nI l,.sl 3 0 0 ns.length]++aG (aJ [1,2,0,3,5,4]) [A.ptr 1 0 0,.ptr 2 0 0,.ptr 0 0 0]=[nI p,nI l,.sl 3 0 0 ns.length,.ptr 0 0 0,.ptr 1 0 0,.ptr 2 0 0]:=rfl
 have hca:∀h f args,bY (aA env L n) env.hint h f args=if(env.hint f).mode=0 then aA env L n f args h else bY (aA env L n) env.hint h f args:=by
  intro h f args
  split
  ·rename_i hm
   unfold bY;rw[hm];rfl
  ·rfl
 rw[hre,hpk,hma,hca,if_pos mA,he];have hcl:closed h [1,2,0,3,5,4] (idsL [A.ptr 1 0 0,.ptr 2 0 0,.ptr 0 0 0]++idsL [A.d (.int .i64 p),nI l,.sl 3 0 0 ns.length])=true:=by subst hh;rfl
 subst hh;simp only[hcl,Ae,Ac,Ab,and_self,if_true]<;>rfl
section
variable{R:Type}{L n:Nat}
structure OkN(N:Net)(states:List Int)(i:Nat):Prop where
 hi:i<N.us.length
 hs:N.ps.length+i<states.length
 ha:(N.us.getD i default).ac.length<=4294967290
 q0:0<=states.getD (N.ps.length+i) 0
 q1:states.getD (N.ps.length+i) 0<(N.us.getD i default).ac.length
theorem aNt(hn:2<=n)(N:Net)(states:List Int)(mvs:List (List Int))(hk:N.kind=0\/N.kind=1\/N.kind=2\/N.kind=3)(h1:N.ps.length<=1000)(h2:N.us.length<=1000)(hs2:states.length<=4000)(ho:OkN N states 0)(ho2:N.kind=1\/N.kind=2->OkN N states 1)(hL:2^60<=L):aA env L n 137 [.agg [.d (.ivs N.ps.length (sysD N.ps)),.d (.ivs N.us.length (gN N.us)),.d (.ivs N.start.length (ints N.start)),nI N.ls,nI N.kind,nI N.goal],.d (.ivs states.length (ints states)),.d (.ivs mvs.length (aE mvs))] []=some (.d (.bool (QO N states mvs)),[]):=by
 have kc_a:=fun {R n hq k} hn=> @aJf R L n hq k hn N states 0 ho.hi h1 h2 ho.hs hs2 ho.ha ho.q0 ho.q1 hL;simp only[Ap]at kc_a;have kc_b:=fun(hx:OkN N states 1) {R:Type} {n:Nat} {hq:H} {k:KA R} (hn:1<=n)=> @aJf R L n hq k hn N states 1 hx.hi h1 h2 hx.hs hs2 hx.ha hx.q0 hx.q1 hL;simp only[show((1:Nat):Int)=1 from rfl]at kc_b;unfold QO
 rcases hk with hk|hk|hk|hk
 ·rw[hk]at kc_a|-;clear kc_b ho2;generalize okN N states 0=b0 at *;obtain _|n:=n;omega
  simp-implicitDefEqProofs (maxSteps:=9^7) (disch:=try exact Dz) only[↓DN,↓kAsg,↓kRet,UP,simprocAttr,↓kc_a,oL,nC,Tryz.f137]
 ·have kc_b:=fun {R:Type} {n:Nat} {hq:H} {k:KA R} (hn:1<=n)=>kc_b (ho2 (.inl hk)) (R:=R) (n:=n) (hq:=hq) (k:=k) hn;rw[hk]at kc_a kc_b|-;generalize okN N states 0=b0 at *;generalize okN N states 1=b1 at *;obtain _|n:=n;omega
  simp-implicitDefEqProofs (maxSteps:=9^7) (disch:=try exact Dz) only[↓DN,↓kAsg,↓kRet,UP,simprocAttr,↓kc_a,↓kc_b,oL,nC,Tryz.f137]
  all_goals (cases b0<;>cases b1<;>rfl)
 ·have kc_b:=fun {R:Type} {n:Nat} {hq:H} {k:KA R} (hn:1<=n)=>kc_b (ho2 (.inr hk)) (R:=R) (n:=n) (hq:=hq) (k:=k) hn;rw[hk]at kc_a kc_b|-;generalize okN N states 0=b0 at *;generalize okN N states 1=b1 at *
  cases b0 with
  |true=>
   obtain _|n:=n;omega
   simp-implicitDefEqProofs (maxSteps:=9^7) (disch:=try exact Dz) only[↓DN,↓kAsg,↓kRet,UP,simprocAttr,↓kc_a,↓kc_b,oL,nC,Tryz.f137]
  |false=>
   obtain _|n:=n;omega
   simp-implicitDefEqProofs (maxSteps:=9^7) (disch:=try exact Dz) only[↓DN,↓kAsg,↓kRet,UP,simprocAttr,↓kc_a,oL,nC,Tryz.f137]
 ·rw[hk]at kc_a|-;clear kc_b ho2;generalize okN N states 0=b0 at *;obtain _|n:=n;omega
  simp-implicitDefEqProofs (maxSteps:=9^7) (disch:=try exact Dz) only[↓DN,↓kAsg,↓kRet,UP,simprocAttr,↓kc_a,oL,nC,Tryz.f137]
theorem aKl(hn:1<=n)(N:Net)(states:List Int)(mvs:List (List Int))(hk:N.kind=5)(h1:N.ps.length<=1000)(hs:N.ps.length<states.length)(hs2:states.length<=4000):aA env L n 137 [.agg [.d (.ivs N.ps.length (sysD N.ps)),.d (.ivs N.us.length (gN N.us)),.d (.ivs N.start.length (ints N.start)),nI N.ls,nI N.kind,nI N.goal],.d (.ivs states.length (ints states)),.d (.ivs mvs.length (aE mvs))] []=some (.d (.bool (QO N states mvs)),[]):=by
 unfold QO;rw[hk];have hc:(N.ps.length:Int)<states.length:=om;have hc0:(0:Int)<=N.ps.length:=om;obtain _|n:=n;omega
 simp-implicitDefEqProofs (maxSteps:=9^7) (disch:=try exact Dz) only[↓DN,↓kAsg,↓kRet,UP,simprocAttr,hc,hc0,oL,nC,Tryz.f137]
theorem kP{R:Type}{E:Env}{call:aZ}{h blk blk2 h2:H}{f:FuncId}{args fs:List A}{r:A}{k:KA R}{ids ord:List Nat}(hm:(E.hint f).mode=2)(hids:idsL args=ids)(hre:aF aI h ids []=ord)(hpk:pack h ord=blk)(hf:d8 blk (aG (aJ ord) args)=some (fs,blk2))(hcl:closed h ord ids=true)(hc:call f fs []=some (r,[]))(hr:idsA r=[])(hl:ord.length<=blk2.length)(hpb:bJ (back ord h.length blk2.length) h ord blk2=h2):
  aX E call h f args k=k r h2:=by
 unfold aX;rw[hids,hre,hpk]
 have hc:bY call E.hint blk f (aG (aJ ord) args)=some (r,blk2):=by
  unfold bY;rw[hm];simp only[hf,hc]
 rw[hc];simp only[hl,hcl,and_self,if_true,tA r hr,hpb]
theorem aDt(hn:1<=n){c2 c3 c5 c6:D}{al:Int}{zs:List Int}(hzl:zs.length<=1000)(hpr:∀i,i<=zs.length->0<=(zs.take i).foldl (·*·) 1/\(zs.take i).foldl (·*·) 1<=65536){k:KE R}:∀(j i m:Nat) (hi:i+j=zs.length) (hm:j<m),
  aT env (aA env L n) L 0 [] Bz1 (eB 0) (U1 (Z4 (Z2 (U32 (U32 (U32 (U4 ([])))))))) m (Y1 (.ptr 0 0 0::.d (.str [])::.d (.bool false)::.d (.ivs zs.length (ints zs))::nI ((zs.take i).foldl (·*·) 1)::nI i::Y32 (Y32 (Y32 (Y4 ([])))))) [.box [.sl 1 0 0 0,.d c2,.d c3,nI al,.d c5,.d c6],.ice [] 0 0] k
  =k (.exit 0) (Y1 (.ptr 0 0 0::.d (.str [])::.d (.bool false)::.d (.ivs zs.length (ints zs))::nI (zs.foldl (·*·) 1)::nI (zs.length)::Y32 (Y32 (Y32 (Y4 ([])))))) [.box [.sl 1 0 0 0,.d c2,.d c3,nI al,.d c5,.d c6],.ice [] 0 0]:=by
 intro j
 induction j with
 |zero=>
  intro i m hi hm;obtain _|m:=m;omega;obtain rfl:i=zs.length:=om;rw[Cu]
  simp-implicitDefEqProofs (maxSteps:=9^7) (disch:=try exact Dz) only[↓DN,↓kRet,UP,simprocAttr,Ah,MA,GO,Tryz.f118]
 |succ j ih=>
  intro i m hi hm;obtain _|m:=m;omega;have hk:i<zs.length:=om;have hc:(i:Int)<zs.length:=om;have hi0:(0:Int)<=i:=om;have ih':=ih (i+1) m om om;obtain⟨p0,p1⟩:=hpr (i+1) om
  have e:(zs.take (i+1)).foldl (·*·) 1=(zs.take i).foldl (·*·) 1*zs.getD i 0:=by
   rw[Cz,Ad hk,Ek,Aa,Ad hk];rfl
  rw[e]at ih' p0 p1;rw[cs1 i]at ih';clear ih e;generalize(zs.take i).foldl (·*·) 1=t at *
  simp-implicitDefEqProofs (maxSteps:=9^7) (disch:=try exact Dz) only[↓DN,↓kRet,UP,simprocAttr,hc,hi0,↓ih',MA,GO,Tryz.f118]
def dM(gl:Int->Bool)(v:Nat):Int:=if gl v=true then 0 else -1
theorem aEA(hn:4<=n)(hL:2^60<=L){c2 c3 c5 c6:D}{al:Int}{zs:List Int}{tab:List (List (List Int))}{tt i6:Nat}{gl:Int->Bool}(hzl:zs.length<=1000)(htt:tt<=65536)(hzp:∀z∈zs,0<z/\z<=65536)(htl:tab.length=tt)
  (kl_x:∀(v:Nat),v<tt->∀ {R:Type} {n:Nat} {k:A->Option R},2<=n->xW (aA env L n) 137 [.agg [.d (.ivs 0 []),.d c2,.d c3,nI al,.d c5,.d c6],.d (.ivs zs.length (ints (decN zs v))),.d (.ivs (tab.getD v []).length (aE (tab.getD v [])))] k=k (.d (.bool (gl v))))
  {k:KE R}:∀(j v m:Nat) (o:List Int) (len:Nat) (hp:v+j=tt) (hm:j<m) (hlen:len=tt) (ho:o.length=tt),
  aT env (aA env L n) L 0 [] Bz1 (eB 1) (U1 (Z8 (Z1 (U32 (U32 (U32 (U1 ([])))))))) m (Y1 (.ptr 0 0 0::.d (.str [])::.d (.bool false)::.d (.ivs zs.length (ints zs))::nI tt::nI i6::.d (.ivs tab.length (tabD tab))::.sl 1 0 0 len::nI v::Y32 (Y32 (Y32 (Y1 ([])))))) [.box [.sl 2 0 0 0,.d c2,.d c3,nI al,.d c5,.d c6],.arr (ints o) 1 0,.ice [] 0 0] k
  =k (.exit 2) (Y1 (.ptr 0 0 0::.d (.str [])::.d (.bool false)::.d (.ivs zs.length (ints zs))::nI tt::nI i6::.d (.ivs tab.length (tabD tab))::.sl 1 0 0 len::nI tt::Y32 (Y32 (Y32 (Y1 ([])))))) [.box [.sl 2 0 0 0,.d c2,.d c3,nI al,.d c5,.d c6],.arr (ints (o.take v++(List.range' v j).map (dM gl))) 1 0,.ice [] 0 0]:=by
 intro j
 induction j with
 |zero=>
  intro v m o len hp hm hlen ho;obtain _|m:=m;omega;obtain rfl:v=tt:=om;subst hlen
  simp-implicitDefEqProofs (maxSteps:=9^7) (disch:=try exact Dz) only[↓DN,↓kRet,UP,simprocAttr,Ah,yM,xS,Tryz.f118];have e1:o.take len=o:=Ce om;simp[e1]
 |succ j ih=>
  intro v m o len hp hm hlen ho;obtain _|m:=m;omega;subst hlen;have hk:v<o.length:=om;have hkt:v<tab.length:=om;have hc:(v:Int)<len:=om;have hv0:(0:Int)<=v:=om;have hdl:=aDm zs v;have kc_d:=@WH L zs v hzp hzl hv0 om hL;have kl_y:=fun {R:Type} {n:Nat} {k:A->Option R} (hn:2<=n)=>kl_x v om (R:=R) (n:=n) (k:=k) hn;have kv_f:=fun {R:Type} {n:Nat} {hq:H} {args:List A} {k:KA R}=>d7 (E:=env) (call:=aA env L n) (h:=hq) (k:=k) (args:=args) DK;rw[Ec,Aj];generalize decN zs v=ss at *
  by_cases hg:gl v=true
  ·have ih':=ih (v+1) m ((o.set v (-1)).set v 0) len om om rfl (by simpa using ho);rw[cs1 v,aO2 (by simpa using hk),List.take_set_of_le (Ab v)]at ih';rw[show dM gl v=0 by unfold dM;rw[if_pos hg]];rw[hg]at kl_y;clear ih kl_x
   simp-implicitDefEqProofs (maxSteps:=9^7) (disch:=try exact Dz) only[↓DN,↓kRet,UP,simprocAttr,TE,hc,hv0,↓kc_d,↓kv_f,↓kl_y,↓aPw,↓ih',yM,xS,Tryz.f118]
  ·have ih':=ih (v+1) m (o.set v (-1)) len om om rfl (by simpa using ho);rw[cs1 v,aO2 (by simpa using hk)]at ih';rw[show dM gl v= -1 by unfold dM;rw[if_neg hg]];rw[Bool.not_eq_true]at hg;rw[hg]at kl_y;clear ih kl_x
   simp-implicitDefEqProofs (maxSteps:=9^7) (disch:=try exact Dz) only[↓DN,↓kRet,UP,simprocAttr,TE,hc,hv0,↓kc_d,↓kv_f,↓kl_y,↓aPw,↓ih',yM,xS,Tryz.f118]
theorem aBL(hn:5<=n)(hL:2^60<=L){c2 c3 c5 c6:D}{al d:Int}{zs ls dist at_:List Int}{o:List UInt8}{tab:List (List (List Int))}{aN i6 e:Nat}{i9:Int}(ht:D7 tab aN)(hd:dist.length=aN)(htt:aN<=65536)(hat:at_.length<=65536)(har:∀x∈at_,0<=x/\x<aN)(hkk:∀kk,kk<ls.length->∀i,i<aN->kk<(tab.getD i []).length/\((tab.getD i []).getD kk []).length<=4096)(hd0:0<d)(hd1:d<=4294967296)(hls:ls.length<=6)(he:e<ls.length)(he1:bL tab dist e (d-1) at_ []≠[]){k:KE R}:∀(j kk m:Nat) (hp:kk+j=e) (hm:j<m) (hz:∀f,kk<=f->f<e->bL tab dist f (d-1) at_ []=[]),
  aT env (aA env L n) L 0 [] Bz1 (eB 3) Bz32 m (Y1 (.ptr 0 0 0::.d (.str [])::.d (.bool false)::.d (.ivs zs.length (ints zs))::nI aN::nI i6::.d (.ivs tab.length (tabD tab))::.sl 1 0 0 dist.length::nI i9::.d (.ivs at_.length (ints at_))::.d (.ivs ls.length (ints ls))::.d (.str o)::nI d::nI kk::.d (.ivs (bL tab dist kk (d-1) at_ []).length (ints (bL tab dist kk (d-1) at_ [])))::Y32 (Y32 (Y16 (Y8 (Y2 (Y1 ([])))))))) [.box [.sl 2 0 0 0,.d c2,.d c3,nI al,.d c5,.d c6],.ice (ints dist) 1 0,.ice [] 0 0] k
  =k (.exit 6) (Y1 (.ptr 0 0 0::.d (.str [])::.d (.bool false)::.d (.ivs zs.length (ints zs))::nI aN::nI i6::.d (.ivs tab.length (tabD tab))::.sl 1 0 0 dist.length::nI i9::.d (.ivs at_.length (ints at_))::.d (.ivs ls.length (ints ls))::.d (.str o)::nI d::nI e::.d (.ivs (bL tab dist e (d-1) at_ []).length (ints (bL tab dist e (d-1) at_ [])))::Y32 (Y32 (Y16 (Y8 (Y2 (Y1 ([])))))))) [.box [.sl 2 0 0 0,.d c2,.d c3,nI al,.d c5,.d c6],.ice (ints dist) 1 0,.ice [] 0 0]:=by
 intro j
 induction j with
 |zero=>
  intro kk m hp hm hz;obtain _|m:=m;omega;obtain rfl:kk=e:=om;generalize bL tab dist kk (d-1) at_ []=w at *
  have hw:¬((w.length:Int)=0):=by
   have:=Ei.2 he1;omega
  simp-implicitDefEqProofs (maxSteps:=9^7) (disch:=try exact Dz) only[↓DN,↓kRet,UP,simprocAttr,hw,qF,qU,Tryz.f118]
 |succ j ih=>
  intro kk m hp hm hz;obtain _|m:=m;omega;have h0:=hz kk (Ab _) om;have ih':=ih (kk+1) m om om (fun f h1 h2=>hz f om h2);have kc_c:=fun {R:Type} {n:Nat} {k:KA R} (hn:4<=n)=> @kP R env (aA env L n) [.box [.sl 2 0 0 0,.d c2,.d c3,nI al,.d c5,.d c6],.ice (ints dist) 1 0,.ice [] 0 0] [.ice (ints dist) 1 0] [.ice (ints dist) 1 0] [.box [.sl 2 0 0 0,.d c2,.d c3,nI al,.d c5,.d c6],.ice (ints dist) 1 0,.ice [] 0 0] 141 [.d (.ivs tab.length (tabD tab)),.sl 1 0 0 dist.length,.d (.ivs at_.length (ints at_)),nI ((kk+1:Nat):Int),nI (d-1)] [.d (.ivs tab.length (tabD tab)),.d (.ivs dist.length (ints dist)),.d (.ivs at_.length (ints at_)),nI ((kk+1:Nat):Int),nI (d-1)] _ k [1] [1] j9 rfl kr rfl (by simp[d8,frzA,frz,frz0,aG,mapA,aJ,deep,dG,cK]) rfl (@xR L n hn hL tab dist at_ (d-1) (kk+1) aN ht hd htt hat har (hkk (kk+1) om)) rfl smp rfl;rw[cs1 kk]at ih' kc_c;rw[h0];clear ih hkk har ht hz;generalize bL tab dist (kk+1) (d-1) at_ []=w at *
  simp-implicitDefEqProofs (maxSteps:=9^7) (disch:=try exact Dz) only[↓DN,↓kRet,UP,simprocAttr,↓kc_c,↓ih',qF,qU,Tryz.f118]
theorem aBF(hn:5<=n)(hL:2^60<=L){c2 c3 c5 c6:D}{al d:Int}{zs ls dist at_:List Int}{o:List UInt8}{tab:List (List (List Int))}{aN i6 e:Nat}{i9:Int}(ht:D7 tab aN)(hd:dist.length=aN)(htt:aN<=65536)(hat:at_.length<=65536)(har:∀x∈at_,0<=x/\x<aN)(hkk:∀kk,kk<ls.length->∀i,i<aN->kk<(tab.getD i []).length/\((tab.getD i []).getD kk []).length<=4096)(hd0:0<d)(hd1:d<=4294967296)(hls:ls.length<=6)(he:e<ls.length)(he1:bL tab dist e (d-1) at_ []≠[]){k:KE R}:∀(j kk m:Nat) (hp:kk+j=e) (hm:j<m) (hz:∀f,kk<=f->f<e->bL tab dist f (d-1) at_ []=[]),
  aT env (aA env L n) L 0 [] Bz1 (eB 3) Bz32 m (Y1 (.ptr 0 0 0::.d (.str [])::.d (.bool false)::.d (.ivs zs.length (ints zs))::nI aN::nI i6::.d (.ivs tab.length (tabD tab))::.sl 1 0 0 dist.length::nI i9::.sl 2 0 0 at_.length::.d (.ivs ls.length (ints ls))::.d (.str o)::nI d::nI kk::.d (.ivs (bL tab dist kk (d-1) at_ []).length (ints (bL tab dist kk (d-1) at_ [])))::Y32 (Y32 (Y16 (Y8 (Y2 (Y1 ([])))))))) [.box [.sl 3 0 0 0,.d c2,.d c3,nI al,.d c5,.d c6],.ice (ints dist) 1 0,.ice (ints at_) 1 0,.ice [] 0 0] k
  =k (.exit 6) (Y1 (.ptr 0 0 0::.d (.str [])::.d (.bool false)::.d (.ivs zs.length (ints zs))::nI aN::nI i6::.d (.ivs tab.length (tabD tab))::.sl 1 0 0 dist.length::nI i9::.sl 2 0 0 at_.length::.d (.ivs ls.length (ints ls))::.d (.str o)::nI d::nI e::.d (.ivs (bL tab dist e (d-1) at_ []).length (ints (bL tab dist e (d-1) at_ [])))::Y32 (Y32 (Y16 (Y8 (Y2 (Y1 ([])))))))) [.box [.sl 3 0 0 0,.d c2,.d c3,nI al,.d c5,.d c6],.ice (ints dist) 1 0,.ice (ints at_) 1 0,.ice [] 0 0]:=by
 intro j
 induction j with
 |zero=>
  intro kk m hp hm hz;obtain _|m:=m;omega;obtain rfl:kk=e:=om;generalize bL tab dist kk (d-1) at_ []=w at *
  have hw:¬((w.length:Int)=0):=by
   have:=Ei.2 he1;omega
  simp-implicitDefEqProofs (maxSteps:=9^7) (disch:=try exact Dz) only[↓DN,↓kRet,UP,simprocAttr,hw,qF,qU,Tryz.f118]
 |succ j ih=>
  intro kk m hp hm hz;obtain _|m:=m;omega;have h0:=hz kk (Ab _) om;have ih':=ih (kk+1) m om om (fun f h1 h2=>hz f om h2);have kc_c:=fun {R:Type} {n:Nat} {k:KA R} (hn:4<=n)=> @kP R env (aA env L n) [.box [.sl 3 0 0 0,.d c2,.d c3,nI al,.d c5,.d c6],.ice (ints dist) 1 0,.ice (ints at_) 1 0,.ice [] 0 0] [.ice (ints dist) 1 0,.ice (ints at_) 1 0] [.ice (ints dist) 1 0,.ice (ints at_) 1 0] [.box [.sl 3 0 0 0,.d c2,.d c3,nI al,.d c5,.d c6],.ice (ints dist) 1 0,.ice (ints at_) 1 0,.ice [] 0 0] 141 [.d (.ivs tab.length (tabD tab)),.sl 1 0 0 dist.length,(.sl 2 0 0 at_.length),nI ((kk+1:Nat):Int),nI (d-1)] [.d (.ivs tab.length (tabD tab)),.d (.ivs dist.length (ints dist)),.d (.ivs at_.length (ints at_)),nI ((kk+1:Nat):Int),nI (d-1)] _ k [1,2] [1,2] j9 rfl kr rfl (by simp[d8,frzA,frz,frz0,aG,mapA,aJ,deep,dG,cK]) rfl (@xR L n hn hL tab dist at_ (d-1) (kk+1) aN ht hd htt hat har (hkk (kk+1) om)) rfl smp rfl;rw[cs1 kk]at ih' kc_c;rw[h0];clear ih hkk har ht hz;generalize bL tab dist (kk+1) (d-1) at_ []=w at *
  simp-implicitDefEqProofs (maxSteps:=9^7) (disch:=try exact Dz) only[↓DN,↓kRet,UP,simprocAttr,↓kc_c,↓ih',qF,qU,Tryz.f118]
end
end Ev
end Go.Proofs.YtppffbehejpglaaGreatDoor
