/-
  The words that cover, walked: the program's.
-/
import Derived.Test.YtppffbehejpglaaGreatAnyD
import Derived.Test.YtppffbehejpglaaGreatShlx
import Derived.Test.YtppffbehejpglaaGreatMemS
import Derived.Test.YtppffbehejpglaaGreatSuiteS
set_option linter.unusedSimpArgs false
set_option linter.unusedVariables false
set_option linter.unusedSectionVars false
set_option maxRecDepth 8000
set_option maxHeartbeats 4000000
namespace Go.Proofs.YtppffbehejpglaaGreat
namespace Ev
theorem aCL:∀l:List Str,C0 (aM l)=some l
 | []=>rfl
 |s::l=>by
  show(C0 (aM l)).map (s::·)=_;rw[aCL l];rfl
theorem aME{a:Aut}{j i:Nat}(h:(oneG a (i:Nat)).2=true):gX a (j+1) i=txt (oneG a (i:Nat)).1::gX a j (i+1):=by
 simp[gX,Du,h]
theorem aNH{a:Aut}{j i:Nat}(h:(oneG a (i:Nat)).2=false):gX a (j+1) i=gX a j (i+1):=by
 simp[gX,Du,h]
theorem aOb(l:List Str):(aCJ l).length=l.length:=List.length_mergeSort _
theorem aNm{l:List Str}(hl:l.length<=4294967296):H6 27 [.sl 0 0 0 l.length,.clo 27 []] [.arr (aM l) 1 0]=some (.tup [],[.arr (aM (aCJ l)) 1 0]):=by
 have h1:True/\True/\True/\(l.length=0\/True)/\l.length<=(aM l).length/\l.length<=bH:=by
  refine⟨trivial,trivial,trivial,.inr trivial,by rw[dZ];omega,by unfold bH;omega⟩
 have h2:C0 ((aM l).take l.length)=some l:=by rw[gG (Ab _),aCL]
 have h3:(aM l).drop l.length=[]:=by rw[aNn,Bw];rfl
 simp only[H6,Cp];rw[if_pos h1];simp only[h2,h3,Aj,Ci]<;>rfl
theorem wJ{R:Type}{L n id:Nat}{hq:H}{k:KA R}(hn:1<=n)(l:List Str)(hi:hq[id]? =some (.arr (aM l) 1 0))(hl:l.length<=4294967296):
  aW env (aA env L n) hq 52 [.sl id 0 0 l.length,.clo 27 []] k=k (.tup []) (hq.set id (.arr (aM (aCJ l)) 1 0)):=by
 obtain _|n:=n;omega;exact VZ hi (by simp[idsL,idsA]) fA (by simp[idsA,idsL]) (by rw[uP];simpa [aF,mapA,aJ]using aNm hl)
theorem Y6{R:Type}{L n:Nat}(hn:9<=n)(hL:2^60<=L){a:Aut}(ha:AOK a){k:KE R}:∀(q i m:Nat) (o:List Str) (len:Nat) (hq:i+q=a.nx.length) (hm:q<m) (hlen:len=o.length) (ho:o.length+q<=100000),
  aR env (aA env L n) L 0 [0,0,0,2] Bz52 (yO 0) (U1 (Z2 (Z1 (U8 (Z2 (U16 (U1 ([])))))))) m (Y1 (.ptr 0 0 0::.d .nils::.sl 1 0 0 len::Y8 (nI (a.nx.length)::nI i::Y16 (Y1 ([]))))) [.box [nI a.al,.d (.ivs a.nx.length (aG a.nx)),.d (.ivs a.ac.length (aD a.ac))],.arr (aM o) 1 0] k
  =k (.exit 0) (Y1 (.ptr 0 0 0::.d .nils::.sl 1 0 0 (o++gX a q i).length::Y8 (nI (a.nx.length)::nI (a.nx.length:Int)::Y16 (Y1 ([]))))) [.box [nI a.al,.d (.ivs a.nx.length (aG a.nx)),.d (.ivs a.ac.length (aD a.ac))],.arr (aM (o++gX a q i)) 1 0]:=by
 obtain⟨sa,wa,a1,a2,a3⟩:=aV ha;have hac:a.ac.length<=4294967296:=om;have hal:=sa.1;intro q
 induction q with
 |zero=>
  intro i m o len hq hm hlen ho;obtain _|m:=m;omega;obtain rfl:i=a.nx.length:=om;subst hlen;have e:gX a 0 a.nx.length=[]:=rfl;rw[e,Aj]
  simp-implicitDefEqProofs (maxSteps:=9^7) (disch:=try exact Dz) only[↓DN,↓kRet,UP,simprocAttr,Ah,qL,pB,Tryz.f24]
 |succ q ih=>
  intro i m o len hq hm hlen ho;obtain _|m:=m;omega;subst hlen;have hc:(i:Int)<a.nx.length:=om;have kc_s:=@aDA L a i sa hac hL;have hacc:accG a (i:Nat)=oneG a (i:Nat):=by unfold accG;exact if_pos ha
  rw[hacc]at kc_s
  cases hb:(oneG a (i:Nat)).2 with
  |false=>
   have ih':=ih (i+1) m o o.length om om rfl om;rw[cs1 i]at ih';rw[aNH hb];rw[hb]at kc_s;clear ih;generalize gX a q (i+1)=w2 at *;generalize txt (oneG a (i:Nat)).1=w at *
   simp-implicitDefEqProofs (maxSteps:=9^7) (disch:=try exact Dz) only[↓DN,↓kRet,UP,simprocAttr,hc,↓kc_s,↓ih',qL,pB,Tryz.f24]
  |true=>
   have ih':=ih (i+1) m (o++[txt (oneG a (i:Nat)).1]) (o.length+1) om om sm (by simp;omega);rw[cs1 i]at ih';simp only[Al,Ea]at ih';rw[aME hb];rw[hb]at kc_s;clear ih;generalize gX a q (i+1)=w2 at *;generalize txt (oneG a (i:Nat)).1=w at *
   simp-implicitDefEqProofs (maxSteps:=9^7) (disch:=try exact Dz) only[↓DN,↓kRet,UP,simprocAttr,SE,hc,↓kc_s,lT,↓ih',qL,pB,Tryz.f24]
theorem aCC{L n:Nat}(hn:10<=n)(a:Aut)(hv:AOK a)(hL:2^60<=L):aA env L n 24 [.agg [nI a.al,.d (.ivs a.nx.length (aG a.nx)),.d (.ivs a.ac.length (aD a.ac))]] []=some (.sl 0 0 0 (cH a).length,[.arr (aM (cH a)) 1 0]):=by
 obtain⟨sa,wa,a1,a2,a3⟩:=aV hv;have hrl:=sa.1;have hac:a.ac.length<=4294967296:=om;have loop_c:=fun {R n k} hn=> @Y6 R L n hn hL a hv k a.nx.length 0 L [] 0 om om rfl (by simp;omega);rw[Ap]at loop_c;have hcs:=aMZ hv;have hl:=GE hv;have hl2:=aOb (gX a a.nx.length 0);rw[hcs]at hl2;have hl3:(gX a a.nx.length 0).length<=4294967296:=om;simp only[Aq,kM]at loop_c;rw[<-hl2]at loop_c;have kc_q:=fun {R:Type} {n id:Nat} {hq:H} {k:KA R} (hn:1<=n) (hi:hq[id]? =some (.arr (aM (gX a a.nx.length 0)) 1 0))=> @wJ R L n id hq k hn (gX a a.nx.length 0) hi hl3;rw[hcs,<-hl2]at kc_q;unfold AOK at hv;clear hcs;generalize gX a a.nx.length 0=w0 at *;generalize cH a=w at *;have e4:(aM w).take w.length=aM w:=gG (Ab _);obtain _|n:=n;omega
 simp-implicitDefEqProofs (maxSteps:=9^7) (disch:=try exact Dz) only[↓DN,↓kAsg,↓kRet,UP,simprocAttr,↓bA,hv,↓loop_c,↓kc_q,aCS,PP,Tryz.f24]
theorem RQ{R:Type}{E:Env}{call:aX}{h h2:H}{f:FuncId}{args:List A}{r:A}{k:KA R}(hs:args.all pD=true)(hm:(E.hint f).mode=3)(hc:call f args []=some (r,h2))(hcl:(lC r&&h2.all j6)=true):
  aW E call h f args k=k (mapA (back [] h.length h2.length) r) (h++h2.map (mapO (back [] h.length h2.length))):=by
 have hcall:bS call E.hint [] f args=some (mapA (back [] 0 h2.length) r,h2.map (mapO (back [] 0 h2.length))):=by
  unfold bS;rw[hm];simp only[vS hs,hc,hcl,if_true,Ac,Ap]
 unfold aW;rw[sY hs,oM,eD _ (sY hs)];have:pack h []=[]:=rfl;rw[this,hcall]
 have hb:∀i,(back [] 0 h2.length i).bind (back [] h.length h2.length)=back [] h.length h2.length i:=by
  intro i;unfold back;simp only[Ac,Ca,if_false,Nat.sub_zero,Ag]
  split
  ·rename_i hi;simp[hi]
  ·rfl
 simp only[Ac,Co,true_and,closed,Bz,Bt,if_true,bG,Ao];rw[aF3 hb,List.map_map]
 congr 2
 apply Ec;intro o _;exact aOL hb o
theorem aEI(l:List Str):j6 (.arr (aM l) 1 0)=true:=by
 simp only[j6,aM,List.all_map,Bg];intro x _;rfl
theorem aAG{R:Type}{E:Env}{call:aX}{h:H}{f:FuncId}{args:List A}{l:List Str}{k:KA R}(hs:args.all pD=true)(hm:(E.hint f).mode=3)(hc:call f args []=some (.sl 0 0 0 l.length,[.arr (aM l) 1 0])):
  aW E call h f args k=k (.sl h.length 0 0 l.length) (h++[.arr (aM l) 1 0]):=by
 rw[RQ hs hm hc (by simp only[lC,Bu,Bz,aEI,Bt])];simp[mapA,back,mapO]
section
variable{R:Type}{L n:Nat}
theorem aMF{l:Int}{h:H}:eQ env.P h 5 21 (.d (.int .u8 ((cN l).toNat:Int)))=some (.d (.int .i32 ((cN l).toNat:Int)),h):=by
 have e:IntKind.i32.wrap ((cN l).toNat:Int)=((cN l).toNat:Int):=IntWalk.i32_in _ (by have:=toNat_lt (cN l);constructor<;>omega);have hu:env.P.underlying 21=some (.int .i32):=kr;rw[x5 YM hu,e]
theorem aM3{l:Int}(h0:0<=l)(h5:l<=5){h:H}:eQ env.P h 21 9 (.d (.int .i32 ((cN l).toNat:Int)))=some (.d (.str [cN l]),h):=by
 have hu:env.P.underlying 21=some (.int .i32):=kr;have hs:env.P.underlying 9=some .string:=kr
 have e:(Utf8.encode ((cN l).toNat:Int)).data.toList=[cN l]:=by
  rcases(show l=0\/l=1\/l=2\/l=3\/l=4\/l=5 by omega)with rfl|rfl|rfl|rfl|rfl|rfl<;>kernel_rfl
 unfold eQ;rw[hu,hs];simp only[e]
theorem WG(hn:2<=n)(hL:2^60<=L){ls:List Int}(hls:∀l∈ls,0<=l/\l<=5)(hl:ls.length<=6){al x:Int}{f e c p:Nat}{w:Str}(hw:w.length<=100000){k:KE R}:∀(j q m:Nat) (o:List Str) (len g:Nat) (hq:q+j=ls.length) (hm:j<m) (hlen:len=o.length) (hg:g=o.length+1) (ho:o.length+j<=100000),
  aR env (aA env L n) L 0 (W8 (W4 [2002])) Bz4 (i8 2) (Z2 (U2 (Z4 (U1 (Z1 (U8 (U4 (Z2 (Z1 (U4 (Z2 (Z1 (U16 ([])))))))))))))) m (nI al::nI x::Y2 (.d .nils::.sl 0 g 0 len::nI f::nI e::Y1 (.d (.str w)::Y8 (Y4 (.sl 0 (e+1) f c::nI c::nI p::Y4 (.d (.ivs ls.length (ints ls))::nI (ls.length:Int)::nI q::Y16 ([]))))))) [.log (aM o)] k
  =k (.exit 4) (nI al::nI x::Y2 (.d .nils::.sl 0 ((o++chG (ls.drop q) w).length+1) 0 (o++chG (ls.drop q) w).length::nI f::nI e::Y1 (.d (.str w)::Y8 (Y4 (.sl 0 (e+1) f c::nI c::nI p::Y4 (.d (.ivs ls.length (ints ls))::nI (ls.length:Int)::nI (ls.length:Int)::Y16 ([]))))))) [.log (aM (o++chG (ls.drop q) w))]:=by
 intro j
 induction j with
 |zero=>
  intro q m o len g hq hm hlen hg ho;obtain _|m:=m;omega;obtain rfl:q=ls.length:=om;subst hlen;subst hg;have e:o++chG (ls.drop ls.length) w=o:=by simp[chG]
  rw[e]
  simp-implicitDefEqProofs (maxSteps:=9^7) (disch:=try exact Dz) only[↓DN,↓kRet,UP,simprocAttr,Ah,CS,zM,Tryz.f22]
 |succ j ih=>
  intro q m o len g hq hm hlen hg ho;obtain _|m:=m;omega;subst hlen;subst hg;have hk:q<ls.length:=om;have hc:(q:Int)<ls.length:=om;have hq0:(0:Int)<=q:=om;have hmem:ls.getD q 0∈ls:=by rw[Aa,Ad hk];exact At _
  obtain⟨b0,b1⟩:=hls _ hmem
  have e:o++chG (ls.drop q) w=(o++[w++[cN (ls.getD q 0)]])++chG (ls.drop (q+1)) w:=by
   rw[cB hk (d:=0)];simp[chG]
  have ih':=ih (q+1) m (o++[w++[cN (ls.getD q 0)]]) (o.length+1) (o.length+1+1) om om sm sm (by simp;omega);rw[cs1 q]at ih';rw[e];clear ih e hmem hls;generalize hb:ls.getD q 0=b at *;have kc_t:=@LX L b b0 b1;have conv_r:=fun {h:H}=> @aM3 b b0 b1 h;generalize o++[w++[cN b]]++chG (ls.drop (q+1)) w=z at *;have hol:(aM o).length=o.length:=dZ
  simp-implicitDefEqProofs (maxSteps:=9^7) (disch:=try exact Dz) only[↓DN,↓kRet,UP,simprocAttr,hc,hq0,hb,hol,↓kc_t,↓aMF,↓conv_r,lT,↓ih',CS,zM,Tryz.f22]
theorem W7(hn:2<=n)(hL:2^60<=L){al x:Int}{f e c:Nat}{vs:List Str}(hv:vs.length=c)(hvw:∀w∈vs,w.length<=100000)(hfe:f+c=e)(he:e<=1000000000){k:KE R}:∀(j p m:Nat) (o:List Str) (len g:Nat) (hp:p+j=c) (hm:j<m) (hlen:len=o.length) (hg:g=o.length+1) (ho:o.length+6*j<=90000) (hoe:e<=o.length) (hod:∀i,i<c->o.getD (f+i) []=vs.getD i []),
  aR env (aA env L n) L 0 (W8 (W4 [2002])) Bz4 (i8 1) (Z2 (U2 (Z4 (U8 (U4 (U2 (Z2 (Z1 (U16 (U4 (U2 (U1 ([]))))))))))))) m (nI al::nI x::Y2 (.d .nils::.sl 0 g 0 len::nI f::nI e::Y8 (Y4 (Y2 (.sl 0 (e+1) f c::nI c::nI p::Y16 (Y4 (Y2 (Y1 ([]))))))))) [.log (aM o)] k
  =k (.exit 2) (nI al::nI x::Y2 (.d .nils::.sl 0 ((o++(vs.drop p).flatMap (chG (aB al))).length+1) 0 (o++(vs.drop p).flatMap (chG (aB al))).length::nI f::nI e::Y8 (Y4 (Y2 (.sl 0 (e+1) f c::nI c::nI c::Y16 (Y4 (Y2 (Y1 ([]))))))))) [.log (aM (o++(vs.drop p).flatMap (chG (aB al))))]:=by
 have hl6:=bQ al;intro j
 induction j with
 |zero=>
  intro p m o len g hp hm hlen hg ho hoe hod;obtain _|m:=m;omega;obtain rfl:p=c:=om;subst hlen;subst hg;have e:o++(vs.drop p).flatMap (chG (aB al))=o:=by rw[List.drop_of_length_le om];simp
  rw[e]
  simp-implicitDefEqProofs (maxSteps:=9^7) (disch:=try exact Dz) only[↓DN,↓kRet,UP,simprocAttr,Ah,DB,zR,Tryz.f22]
 |succ j ih=>
  intro p m o len g hp hm hlen hg ho hoe hod;obtain _|m:=m;omega;subst hlen;subst hg;have hk:p<vs.length:=om;have hc:(p:Int)<c:=om;have hp0:(0:Int)<=p:=om;have hw:=hvw _ (d7 hk)
  have hgd:(((aM o).drop (f+p)).take 1)=[.str (vs.getD p [])]:=by
   have:=hod p om;have hlt:f+p<o.length:=om
   have h1:(aM o).drop (f+p)=.str (o.getD (f+p) [])::(aM o).drop (f+p+1):=by
    rw[Df (by rw[dZ];exact hlt)]
    congr 1
    simp[aM,Aa,Ad hlt]
   rw[h1,this];rfl
  have loop_c:=fun {R n k} hn=> @WG R L n hn hL (aB al) cK hl6 al x f e c p (vs.getD p []) hw k (aB al).length 0 L o o.length (o.length+1) om om rfl rfl om;rw[Ba]at loop_c;simp only[Aq]at loop_c;have hcl:(chG (aB al) (vs.getD p [])).length<=6:=by rw[aMl];exact hl6
  have he2:o++(vs.drop p).flatMap (chG (aB al))=(o++chG (aB al) (vs.getD p []))++(vs.drop (p+1)).flatMap (chG (aB al)):=by
   rw[cB hk (d:=[]),List.flatMap_cons,Al]
  have ih':=ih (p+1) m (o++chG (aB al) (vs.getD p [])) _ _ om om rfl rfl (by rw[Af];omega) (by rw[Af];omega) (fun i hi=>by
   rw[<-hod i hi,Aa,Bc om,<-Aa])
  rw[cs1 p]at ih';rw[he2];have hol:(aM o).length=o.length:=dZ;have hg0:0<e+1:=om;have hg1:e+1<=o.length+1:=om;clear ih he2 hod hvw;generalize vs.getD p []=w at *;generalize o++chG (aB al) w++(vs.drop (p+1)).flatMap (chG (aB al))=z at *;generalize o++chG (aB al) w=o2 at *;have hf1:f+p+1<e+1:=om
  simp-implicitDefEqProofs (maxSteps:=9^7) (disch:=try exact Dz) only[↓DN,↓kRet,UP,simprocAttr,↓kS,hc,hp0,hol,hgd,hg0,hg1,hf1,↓loop_c,↓ih',DB,zR,Tryz.f22]
theorem aPS{o:List Str}{f c:Nat}(hf:f<=o.length)(hc:o.length-f=c):gQ env.P [.log (aM o)] 31 (.sl 0 (o.length+1) 0 o.length) (some (f:Int)) (some (o.length:Int))=some (.sl 0 (o.length+1) f c):=by
 have hu:env.P.underlying 31=some (.slice 9):=kr;have hs:env.P.cellsOf 9=1:=kr
 have hb:qA o.length (some (f:Int)) (some (o.length:Int))=some (f,o.length):=by
  unfold qA;simp only[Bb];rw[if_pos ⟨by omega,by omega,by omega⟩];simp
 have h1:0<o.length+1/\o.length+1<=(aM o).length+1/\True:=⟨by omega,by rw[dZ];omega,trivial⟩
 simp only[gQ,hu,Cp,hs,hb,Az,hc,Ag];rw[if_pos h1]
theorem V3(hn:3<=n)(hL:2^60<=L){al:Int}{k:KE R}:∀(j t m:Nat) (o:List Str) (len g f:Nat) (ht:t+j<=3) (hm:j<m) (hlen:len=o.length) (hg:g=o.length+1) (ho:o=midG (aB al) t) (hf:f+(lvG (aB al) t).length=o.length),
  aR env (aA env L n) L 0 (W8 (W4 [2002])) Bz4 (i8 0) (Z2 (U2 (Z2 (Z1 (U32 (U8 (U1 ([])))))))) m (nI al::nI j::Y2 (.d .nils::.sl 0 g 0 len::nI f::Y32 (Y8 (Y1 ([]))))) [.log (aM o)] k
  =k (.exit 0) (nI al::nI 0::Y2 (.d .nils::.sl 0 ((midG (aB al) (t+j)).length+1) 0 (midG (aB al) (t+j)).length::nI (((midG (aB al) (t+j)).length-(lvG (aB al) (t+j)).length:Nat):Int)::Y32 (Y8 (Y1 ([]))))) [.log (aM (midG (aB al) (t+j)))]:=by
 have hl6:=bQ al;intro j
 induction j with
 |zero=>
  intro t m o len g f ht hm hlen hg ho hf;obtain _|m:=m;omega;subst hlen;subst hg;rw[show t+0=t from rfl,<-ho,show o.length-(lvG (aB al) t).length=f by omega];clear ho hf
  simp-implicitDefEqProofs (maxSteps:=9^7) (disch:=try exact Dz) only[↓DN,↓kRet,UP,simprocAttr,Ah,CR,yG,Tryz.f22]
 |succ j ih=>
  intro t m o len g f ht hm hlen hg ho hf;obtain _|m:=m;omega;subst hlen;subst hg;have hs:=FZ hl6 t om;have hs2:=FZ hl6 (t+1) om;have hsp:midG (aB al) (t+1)=o++lvG (aB al) (t+1):=by rw[ho];rfl
  have hol:o.length<=259:=by rw[ho];exact hs
  obtain⟨p,hp⟩:=aNX (ls:=aB al) t;rw[<-ho]at hp;have hpl:p.length=f:=by have:=congrArg List.length hp;rw[Af]at this;omega
  have hod:∀i,i<(lvG (aB al) t).length->o.getD (f+i) []=(lvG (aB al) t).getD i []:=by
   intro i hi;rw[hp,Aa,Bn om,show f+i-p.length=i by omega,<-Aa]
  have loop_c:=fun {R n k} hn=> @W7 R L n hn hL al ((j+1:Nat):Int) f o.length (lvG (aB al) t).length (lvG (aB al) t) rfl (fun w hw=>by have:=(IN t w hw).1;omega) hf om k (lvG (aB al) t).length 0 L o o.length (o.length+1) om om rfl rfl om om hod;rw[Ba]at loop_c;have e1:o++(lvG (aB al) t).flatMap (chG (aB al))=midG (aB al) (t+1):=by rw[hsp];rfl
  rw[e1]at loop_c;have ih':=ih (t+1) m (midG (aB al) (t+1)) _ _ o.length om om rfl rfl rfl (by rw[hsp,Af]);rw[show t+1+j=t+(j+1) by omega]at ih';have e2:((j+1:Nat):Int)-1=(j:Int):=om;have hj1:(0:Int)<((j+1:Nat):Int):=om;have hj2:((j+1:Nat):Int)<=3:=om;simp only[Aq]at loop_c;have hfo:(f:Int)<=o.length:=om;have hf0:(0:Int)<=f:=om;have hsub:o.length-f=(lvG (aB al) t).length:=om;have hol2:(aM o).length=o.length:=dZ;have hfn:f<=o.length:=om;clear ih hod hp hsp e1 ho;generalize midG (aB al) (t+1)=o2 at *;generalize(midG (aB al) (t+(j+1))).length-(lvG (aB al) (t+(j+1))).length=zf at *;generalize midG (aB al) (t+(j+1))=z at *;generalize(lvG (aB al) t).length=c at *;generalize((j+1:Nat):Int)=x at *;have conv_s:=@aPS o f c hfn hsub
  simp-implicitDefEqProofs (maxSteps:=9^7) (disch:=try exact Dz) only[↓DN,↓kRet,UP,simprocAttr,hj1,↓conv_s,e2,↓loop_c,↓ih',CR,yG,Tryz.f22]
theorem O3(hn:4<=n)(al:Int)(x:Nat)(hx:x<=3)(hL:2^60<=L):aA env L n 22 [nI al,nI x] []=some (.d (.ivs (midG (aB al) x).length (aM (midG (aB al) x))),[]):=by
 have loop_c:=fun {R n k} hn=> @V3 R L n hn hL al k x 0 L [[]] 1 2 0 om om rfl rfl rfl rfl;have e1:aM [[]]=[.str []]:=rfl;rw[e1,Ag]at loop_c;simp only[Aq]at loop_c;generalize(midG (aB al) x).length-(lvG (aB al) x).length=f at *;generalize midG (aB al) x=w at *;have e4:(aM w).take w.length=aM w:=gG (Ab _);have hol2:(aM w).length=w.length:=dZ;obtain _|n:=n;omega
 simp-implicitDefEqProofs (maxSteps:=9^7) (disch:=try exact Dz) only[↓DN,↓kAsg,↓kRet,UP,simprocAttr,e4,hol2,↓loop_c,Ab,aFc,SA,Tryz.f22]
theorem aE1:type_of% fun {L} al x hx hL=>ks fun hn=> @O3 L _ hn al x hx hL:=fun {L} al x hx hL=>ks fun hn=> @O3 L _ hn al x hx hL
def setS(o:List Str):List (D×D):=o.map fun w=>(.str w,.bool true)
theorem QN{o:List Str}:(setS o).length=o.length:=Ao _
theorem aGA:∀o:List Str,CT (setS o)=some o
 | []=>rfl
 |w::o=>by
  show(CT (setS o)).map (w::·)=_;rw[aGA o];rfl
theorem aIC{x:Str}:∀(o:List Str) (pre:List (D×D)),∃r,CB .string (.str x) (setS o) pre.length=some r/\vE (pre++setS o) (.str x) (.bool true) r=pre++setS (insW o x)
 | [],pre=>⟨none,rfl,by simp[vE,setS,insW]⟩
 |y::o,pre=>by
  by_cases h:x=y
  ·subst h;refine⟨some pre.length,by simp[setS,CB,P7],?_⟩;have e:insW (x::o) x=x::o:=if_pos Bi;rw[e];show(pre++(D.str x,D.bool true)::setS o).set pre.length (.str x,.bool true)=pre++(D.str x,D.bool true)::setS o;rw[Do _ _ (Ab _),Bh,Ci]
  ·obtain⟨r,h1,h2⟩:=aIC (x:=x) o (pre++[(.str y,.bool true)]);have hb:(x==y)=false:=by simpa using h
   have e:insW (y::o) x=y::insW o x:=by
    unfold insW
    by_cases hm:x∈o
    ·rw[if_pos hm,if_pos (Be _ hm)]
    ·rw[if_neg hm,if_neg fun h3=>(Av.1 h3).elim h hm];rfl
   refine⟨r,?_,?_⟩
   ·rw[Af,Cu]at h1;simp only[setS,Ai,CB,P7,hb];exact h1
   ·rw[e];rw[Al,Al]at h2;exact h2
theorem map_set:mapT env.P 46=some (.string,4):=kr
theorem aR8{T:H}{o:List Str}{x:Str}:oT env.P (.mp (setS o)::T) 46 (.mp 0) (.d (.str x)) (.d (.bool true))=some (.d .undef,.mp (setS (insW o x))::T):=by
 obtain⟨r,h1,h2⟩:=aIC (x:=x) o [];have h1:CB .string (.str x) (setS o) 0=some r:=h1;have h2:vE (setS o) (.str x) (.bool true) r=setS (insW o x):=h2;unfold oT;simp only[map_set,Cp,aDi,z8,Bt,if_true,h1,h2,Ci]
theorem aP9{R:Type}{s:List A}{k:A->Option R}:kv s (.const .nilFunc) k=k (.d .nilfn):=rfl
theorem aIY(hn:1<=n){es:List (D×D)}:aA env L n 26 [.mp 0] [.mp es]=some (.clo 54 [.ptr 1 0 0],[.mp es,.box [.mp 0]]):=by
 obtain _|n:=n;omega
 simp-implicitDefEqProofs (maxSteps:=9^7) (disch:=try exact Dz) only[↓DN,↓kAsg,↓kRet,UP,simprocAttr,↓aP9,oR,iD,Tryz.f26]
theorem aRR{es:List (D×D)}{x y:O}{k:KA R}(hn:1<=n):aW env (aA env L n) [.mp es,x,y] 26 [.mp 0] k=k (.clo 54 [.ptr 3 0 0]) [.mp es,x,y,.box [.mp 0]]:=by
 have hre:aE aI [.mp es,x,y] (idsL [.mp 0]) []=[0]:=rfl;have hpk:pack [.mp es,x,y] [0]=[.mp es]:=rfl;have hma:aF (aJ [0]) [.mp 0]=[.mp 0]:=rfl
 have hc:bS (aA env L n) env.hint [.mp es] 26 [.mp 0]=some (.clo 54 [.ptr 1 0 0],[.mp es,.box [.mp 0]]):=by
  unfold bS;rw[dN];exact aIY hn
 unfold aW;rw[hre,hpk,hma,hc];rfl
theorem aKJ{o:List Str}(h0:0<o.length)(h1:o.length<=4294967296)(hw:∀s∈o,s.length<=4294967296):A3 54 27 [.clo 54 [.ptr 0 0 0],.clo 27 []] [.box [.mp 1],.mp (setS o)]=some (.sl 2 0 0 o.length,[.box [.mp 1],.mp (setS o),.arr (aM (o.mergeSort leX)) 1 0]):=by
 have h2:o.all (fun s=>decide (s.length<=bH))=true:=Bg.2 fun s hs=>decide_eq_true (hw s hs)
 have h3:True/\True/\True/\True/\0<(setS o).length/\(setS o).length<=bH:=by
  rw[QN];exact⟨trivial,trivial,trivial,trivial,h0,h1⟩
 simp only[A3,Cp,Aw,aGA,h2,if_true];rw[if_pos h3,QN];rfl
theorem aPj{o:List Str}{x y:O}{k:KA R}(hn:1<=n)(h0:0<o.length)(h1:o.length<=4294967296)(hw:∀s∈o,s.length<=4294967296):aW env (aA env L n) [.mp (setS o),x,y,.box [.mp 0]] 25 [.clo 54 [.ptr 3 0 0],.clo 27 []] k=k (.sl 4 0 0 o.length) [.mp (setS o),x,y,.box [.mp 0],.arr (aM (o.mergeSort leX)) 1 0]:=by
 obtain _|n:=n;omega;have hre:aE aI [.mp (setS o),x,y,.box [.mp 0]] (idsL [.clo 54 [.ptr 3 0 0],.clo 27 []]) []=[3,0]:=rfl;have hpk:pack [.mp (setS o),x,y,.box [.mp 0]] [3,0]=[.box [.mp 1],.mp (setS o)]:=rfl;have hma:aF (aJ [3,0]) [.clo 54 [.ptr 3 0 0],.clo 27 []]=[.clo 54 [.ptr 0 0 0],.clo 27 []]:=rfl
 have hc:bS (aA env L (n+1)) env.hint [.box [.mp 1],.mp (setS o)] 25 [.clo 54 [.ptr 0 0 0],.clo 27 []]=some (.sl 2 0 0 o.length,[.box [.mp 1],.mp (setS o),.arr (aM (o.mergeSort leX)) 1 0]):=by
  unfold bS;rw[iJ];show aA env L (n+1) _ _ _=_;rw[AG];exact aKJ h0 h1 hw
 unfold aW;rw[hre,hpk,hma,hc];rfl
theorem WT(hn:1<=n)(hL:2^60<=L){cov mids ends:List Str}(hP:Parts cov mids ends){i q:Nat}{c mm:Str}(hc:c.length<=1000)(hmm:mm.length<=1000){k:KE R}:∀(j p m:Nat) (o:List Str) (hp:p+j=ends.length) (hm:j<m),
  aR env (aA env L n) L 0 [] Bz1 (iZ 2) (U4 (Z4 (Z1 (U1 (Z1 (U1 (Z1 (U16 (U4 (U2 (Z2 (Z1 (U2 (U1 (Z2 (Z1 (U2 (U1 (Z2 (Z1 (U16 (U2 ([]))))))))))))))))))))))) m (Y4 (.d .nils::.d (.bool false)::.mp 0::.d (.ivs mids.length (aM mids))::.sl 1 0 0 ends.length::Y1 (.d (.str c)::Y1 (.d (.str mm)::Y16 (Y4 (Y2 (.sl 2 0 0 cov.length::nI (cov.length)::nI i::Y2 (Y1 (.d (.ivs mids.length (aM mids))::nI (mids.length)::nI q::Y2 (Y1 (.sl 1 0 0 ends.length::nI (ends.length)::nI p::Y16 (Y2 ([]))))))))))))) [.mp (setS o),.arr (aM ends) 1 0,.arr (aM cov) 1 0] k
  =k (.exit 4) (Y4 (.d .nils::.d (.bool false)::.mp 0::.d (.ivs mids.length (aM mids))::.sl 1 0 0 ends.length::Y1 (.d (.str c)::Y1 (.d (.str mm)::Y16 (Y4 (Y2 (.sl 2 0 0 cov.length::nI (cov.length)::nI i::Y2 (Y1 (.d (.ivs mids.length (aM mids))::nI (mids.length)::nI q::Y2 (Y1 (.sl 1 0 0 ends.length::nI (ends.length)::nI (ends.length)::Y16 (Y2 ([]))))))))))))) [.mp (setS (c7 o (endL c mm (ends.drop p)))),.arr (aM ends) 1 0,.arr (aM cov) 1 0]:=by
 have hne:=hP.ne;intro j
 induction j with
 |zero=>
  intro p m o hp hm;obtain _|m:=m;omega;obtain rfl:p=ends.length:=om;have e:c7 o (endL c mm (ends.drop ends.length))=o:=by rw[Bw];rfl
  rw[e]
  simp-implicitDefEqProofs (maxSteps:=9^7) (disch:=try exact Dz) only[↓DN,↓kRet,UP,simprocAttr,Ah,C6,zY,Tryz.f7]
 |succ j ih=>
  intro p m o hp hm;obtain _|m:=m;omega;have hk:p<ends.length:=om;have hc1:(p:Int)<ends.length:=om;have hp0:(0:Int)<=p:=om;have hel:=hP.e _ (d7 hk);have hcm:(c++mm).length<=2000:=by rw[Af];omega
  have e:c7 o (endL c mm (ends.drop p))=c7 (insW o (c++mm++ends.getD p [])) (endL c mm (ends.drop (p+1))):=by
   rw[cB hk (d:=[])];rfl
  have ih':=ih (p+1) m (insW o (c++mm++ends.getD p [])) om om;rw[cs1 p]at ih';rw[e];clear ih e hP;generalize hei:ends.getD p []=w at *;generalize c7 (insW o (c++mm++w)) (endL c mm (ends.drop (p+1)))=z at *
  simp-implicitDefEqProofs (maxSteps:=9^7) (disch:=try exact Dz) only[↓DN,↓kRet,UP,simprocAttr,SE,hc1,hp0,hei,aR8,↓ih',C6,zY,Tryz.f7]
theorem UG(hn:1<=n)(hL:2^60<=L){cov mids ends:List Str}(hP:Parts cov mids ends){i:Nat}{c:Str}(hc:c.length<=1000){k:KE R}:∀(j p m:Nat) (o:List Str) (hp:p+j=mids.length) (hm:j<m),
  aR env (aA env L n) L 0 [] Bz1 (iZ 1) (U4 (Z4 (Z1 (U1 (Z1 (U16 (U8 (Z2 (Z1 (U2 (U1 (Z2 (Z1 (U16 (U8 ([])))))))))))))))) m (Y4 (.d .nils::.d (.bool false)::.mp 0::.d (.ivs mids.length (aM mids))::.sl 1 0 0 ends.length::Y1 (.d (.str c)::Y16 (Y8 (.sl 2 0 0 cov.length::nI (cov.length)::nI i::Y2 (Y1 (.d (.ivs mids.length (aM mids))::nI (mids.length)::nI p::Y16 (Y8 ([]))))))))) [.mp (setS o),.arr (aM ends) 1 0,.arr (aM cov) 1 0] k
  =k (if(run3 (midF c ends) mids j p o).1=true then .exit 2 else .ret) (Y4 (.d .nils::.d (.bool false)::.mp 0::.d (.ivs mids.length (aM mids))::.sl 1 0 0 ends.length::Y1 (.d (.str c)::Y16 (Y8 (.sl 2 0 0 cov.length::nI (cov.length)::nI i::Y2 (Y1 (.d (.ivs mids.length (aM mids))::nI (mids.length)::nI ((run3 (midF c ends) mids j p o).2.1:Int)::Y16 (Y8 ([]))))))))) [.mp (setS (run3 (midF c ends) mids j p o).2.2),.arr (aM ends) 1 0,.arr (aM cov) 1 0]:=by
 have hne:=hP.ne;have hnm:=hP.nm;intro j
 induction j with
 |zero=>
  intro p m o hp hm;obtain _|m:=m;omega;obtain rfl:p=mids.length:=om;have e:∀f,run3 f mids 0 mids.length o=(true,mids.length,o):=fun _=>rfl;rw[e];simp only[if_true]
  simp-implicitDefEqProofs (maxSteps:=9^7) (disch:=try exact Dz) only[↓DN,↓kRet,UP,simprocAttr,Ah,rR,qV,Tryz.f7]
 |succ j ih=>
  intro p m o hp hm;obtain _|m:=m;omega;have hk:p<mids.length:=om;have hc1:(p:Int)<mids.length:=om;have hp0:(0:Int)<=p:=om;have hml:=hP.m _ (d7 hk);have loop_c:=fun {R n k} hn=> @WT R L n hn hL cov mids ends hP i p c (mids.getD p []) hc hml k ends.length 0 L o om om;rw[Ba]at loop_c;simp only[Aq]at loop_c;have hz:midF c ends (mids.getD p []) o=(!decide (3000<(c7 o (endL c (mids.getD p []) ends)).length),c7 o (endL c (mids.getD p []) ends)):=rfl
  by_cases hb1:3000<(c7 o (endL c (mids.getD p []) ends)).length
  ·have hb2:(3000:Int)<(c7 o (endL c (mids.getD p []) ends)).length:=om;rw[GW (by rw[hz,decide_eq_true hb1];rfl),hz];simp only[Ak,if_false];clear ih hz hP;generalize hei:mids.getD p []=w at *;generalize c7 o (endL c w ends)=z at *
   simp-implicitDefEqProofs (maxSteps:=9^7) (disch:=try exact Dz) only[↓DN,↓kAsg,↓kRet,UP,simprocAttr,SE,hc1,hp0,hei,hb2,QN,↓loop_c,rR,qV,Tryz.f7]
  ·have hb2:¬(3000:Int)<(c7 o (endL c (mids.getD p []) ends)).length:=om;rw[BI (by rw[hz,decide_eq_false hb1];rfl),hz];have ih':=ih (p+1) m (c7 o (endL c (mids.getD p []) ends)) om om;rw[cs1 p]at ih';simp only;clear ih hz hP;generalize hei:mids.getD p []=w at *;generalize c7 o (endL c w ends)=z at *;generalize run3 (midF c ends) mids j (p+1) z=z2 at *
   simp-implicitDefEqProofs (maxSteps:=9^7) (disch:=try exact Dz) only[↓DN,↓kRet,UP,simprocAttr,SE,hc1,hp0,hei,hb2,QN,↓loop_c,↓ih',rR,qV,Tryz.f7]
theorem WM(hn:1<=n)(hL:2^60<=L){cov mids ends:List Str}(hP:Parts cov mids ends){k:KE R}:∀(j p m:Nat) (o:List Str) (hp:p+j=cov.length) (hm:j<m),
  aR env (aA env L n) L 0 [] Bz1 (iZ 0) (U4 (Z4 (Z1 (U16 (U8 (U2 (Z2 (Z1 (U16 (U8 (U4 (U2 ([]))))))))))))) m (Y4 (.d .nils::.d (.bool false)::.mp 0::.d (.ivs mids.length (aM mids))::.sl 1 0 0 ends.length::Y16 (Y8 (Y2 (.sl 2 0 0 cov.length::nI (cov.length)::nI p::Y16 (Y8 (Y4 (Y2 ([]))))))))) [.mp (setS o),.arr (aM ends) 1 0,.arr (aM cov) 1 0] k
  =k (if(run3 (covF mids ends) cov j p o).1=true then .exit 0 else .ret) (Y4 (.d .nils::.d (.bool false)::.mp 0::.d (.ivs mids.length (aM mids))::.sl 1 0 0 ends.length::Y16 (Y8 (Y2 (.sl 2 0 0 cov.length::nI (cov.length)::nI ((run3 (covF mids ends) cov j p o).2.1:Int)::Y16 (Y8 (Y4 (Y2 ([]))))))))) [.mp (setS (run3 (covF mids ends) cov j p o).2.2),.arr (aM ends) 1 0,.arr (aM cov) 1 0]:=by
 have hne:=hP.ne;have hnm:=hP.nm;have hnc:=hP.nc;intro j
 induction j with
 |zero=>
  intro p m o hp hm;obtain _|m:=m;omega;obtain rfl:p=cov.length:=om;have e:∀f,run3 f cov 0 cov.length o=(true,cov.length,o):=fun _=>rfl;rw[e];simp only[if_true]
  simp-implicitDefEqProofs (maxSteps:=9^7) (disch:=try exact Dz) only[↓DN,↓kRet,UP,simprocAttr,Ah,sF,rA,Tryz.f7]
 |succ j ih=>
  intro p m o hp hm;obtain _|m:=m;omega;have hk:p<cov.length:=om;have hc1:(p:Int)<cov.length:=om;have hp0:(0:Int)<=p:=om;have hcl:=hP.c _ (d7 hk);have loop_c:=fun {R n k} hn=> @UG R L n hn hL cov mids ends hP p (cov.getD p []) hcl k mids.length 0 L o om om;simp only[Aq]at loop_c;have hz:covF mids ends (cov.getD p []) o=((run3 (midF (cov.getD p []) ends) mids mids.length 0 o).1,(run3 (midF (cov.getD p []) ends) mids mids.length 0 o).2.2):=rfl
  cases hb:(run3 (midF (cov.getD p []) ends) mids mids.length 0 o).1 with
  |false=>
   rw[GW (by rw[hz,hb]),hz];rw[hb]at loop_c;simp only[Ak,if_false]at loop_c|-;clear ih hz hb hP;generalize hei:cov.getD p []=w at *;generalize run3 (midF w ends) mids mids.length 0 o=z at *
   simp-implicitDefEqProofs (maxSteps:=9^7) (disch:=try exact Dz) only[↓DN,↓kRet,UP,simprocAttr,SE,hc1,hp0,hei,↓loop_c,sF,rA,Tryz.f7]
  |true=>
   rw[BI (by rw[hz,hb]),hz];have ih':=ih (p+1) m (run3 (midF (cov.getD p []) ends) mids mids.length 0 o).2.2 om om;rw[cs1 p]at ih';rw[hb]at loop_c;simp only[if_true]at loop_c|-;clear ih hz hb hP;generalize hei:cov.getD p []=w at *;generalize run3 (midF w ends) mids mids.length 0 o=z at *;generalize run3 (covF mids ends) cov j (p+1) z.2.2=z2 at *
   simp-implicitDefEqProofs (maxSteps:=9^7) (disch:=try exact Dz) only[↓DN,↓kRet,UP,simprocAttr,SE,hc1,hp0,hei,↓loop_c,↓ih',sF,rA,Tryz.f7]
theorem aN0{a:Aut}(h:AOK a){e:Nat}(he:e<=2):0<(c7 [] (covL (cH a) (midG (aB a.al) (e+1)) (sepW a))).length/\∀s∈c7 [] (covL (cH a) (midG (aB a.al) (e+1)) (sepW a)),s.length<=4294967296:=by
 obtain⟨_,_,a1,a2,_⟩:=aV h
 have key:∀s,s∈c7 [] (covL (cH a) (midG (aB a.al) (e+1)) (sepW a))↔∃c∈cH a,∃m∈midG (aB a.al) (e+1),∃w∈sepW a,s=c++m++w:=by
  intro s;rw[UO];simp only[Br,false_or,covL,midL,endL,Eb,Bf]
  constructor
  ·rintro⟨c,hc,m,hm,e,he,rfl⟩;exact⟨c,hc,m,hm,e,he,rfl⟩
  ·rintro⟨c,hc,m,hm,e,he,rfl⟩;exact⟨c,hc,m,hm,e,he,rfl⟩
 constructor
 ·have h1:=GE h;have h2:=Q5 h
  have h3:∀k,[]∈midG (aB a.al) k:=by
   intro k
   induction k with
   |zero=>simp[midG]
   |succ k ih=>exact Am.2 (.inl ih)
  exact Em ((key _).2 ⟨_,d7 (k:=0) om,_,h3 _,_,d7 (k:=0) om,rfl⟩)
 ·intro s hs;obtain⟨c,hc,m,hm,w,hw,rfl⟩:=(key s).1 hs;have:=(aKi h hc hm hw).1;omega
theorem aEj(hn:15<=n)(a:Aut)(hv:AOK a)(e:Nat)(he:e<=2)(hL:2^60<=L):aA env L n 7 [.agg [nI a.al,.d (.ivs a.nx.length (aG a.nx)),.d (.ivs a.ac.length (aD a.ac))],nI e] []=match eM a e with
  |some l=>some (.tup [.sl 0 0 0 l.length,.d (.bool true)],[.arr (aM l) 1 0])
  |none=>some (.tup [.d (.ivs 0 []),.d (.bool false)],[]):=by
 obtain⟨sa,wa,a1,a2,a3⟩:=aV hv;have hrl:=sa.1;have hP:=aIN hv he;have e1:eM a e=sB (cH a) (midG (aB a.al) (e+1)) (sepW a):=if_pos ⟨hv,by omega,by omega⟩;rw[e1];have kc_c:=fun {R:Type} {n:Nat} {hq:H} {k:KA R} (hn:10<=n)=>aAG (h:=hq) (k:=k) rfl uN (aCC (L:=L) hn a hv hL);have kc_w:=fun {R:Type} {n:Nat} {hq:H} {k:KA R} (hn:10<=n)=>aAG (h:=hq) (k:=k) rfl mR (QQ (L:=L) hn a hv hL);have kc_m:=@aE1 L a.al (e+1) om hL;rw[cs1 e]at kc_m;have hcn:=hP.nc;have loop_c:=fun {R n k} hn=> @WM R L n hn hL _ _ _ hP k (cH a).length 0 L [] om om;have es:setS []=[]:=rfl;rw[es]at loop_c;have hr:=QC (f:=covF (midG (aB a.al) (e+1)) (sepW a)) (ws:=cH a) (cH a).length 0 [] om;rw[Ba]at hr;have hs:=aMw (cov:=cH a) (mids:=midG (aB a.al) (e+1)) (ends:=sepW a);rw[hr]at hs;rw[aLU]at hr;obtain⟨f1,f2⟩:=aN0 hv he;have he0:(0:Int)<=e:=om;have hx0:¬(e:Int)<0:=om;have hx1:¬2<(e:Int):=om;have hve:bX a.al a.nx a.ac=true:=hv;simp only[Aq]at loop_c;rw[<-hs];have hac:a.ac.length<=4294967296:=om;clear hs e1 hP wa;generalize c7 [] (covL (cH a) (midG (aB a.al) (e+1)) (sepW a))=S at *;generalize cH a=cov at *;generalize midG (aB a.al) (e+1)=mids at *;generalize sepW a=ends at *;generalize run3 (covF mids ends) cov cov.length 0 []=z at *
 cases hb:z.1 with
 |false=>
  rw[hb]at loop_c;simp only[Da,Ak,if_false]at loop_c|-;obtain _|n:=n;omega
  simp-implicitDefEqProofs (maxSteps:=9^7) (disch:=try exact Dz) only[↓DN,↓kAsg,↓kRet,UP,simprocAttr,↓bA,hve,hx0,hx1,↓kc_c,↓kc_w,↓kc_m,↓loop_c,nF,lN,Tryz.f7]
 |true=>
  rw[hb]at loop_c hr;simp only[if_true]at loop_c hr|-
  have hS:S=z.2.2/\S.length<=3000:=by
   split at hr
   ·cases hr
   ·injection hr with hr;exact⟨hr,by omega⟩
  obtain⟨rfl,hS2⟩:=hS;have kc_q:=fun {R:Type} {n:Nat} {x y:O} {k:KA R} (hn:1<=n)=> @aPj R L n z.2.2 x y k hn f1 om f2;have hml:(z.2.2.mergeSort leX).length=z.2.2.length:=List.length_mergeSort _;rw[<-hml]at kc_q;simp only[Az];clear hr f1 f2;generalize z.2.2.mergeSort leX=l at *;have e4:(aM l).take l.length=aM l:=gG (Ab _);obtain _|n:=n;omega
  simp-implicitDefEqProofs (maxSteps:=9^7) (disch:=try exact Dz) only[↓DN,↓kAsg,↓kRet,UP,simprocAttr,↓bA,hve,hx0,hx1,↓kc_c,↓kc_w,↓kc_m,↓aRR,↓kc_q,↓loop_c,nF,lN,Tryz.f7]
theorem aEV(hn:15<=n)(a:Aut)(x:Int)(hs:aY a.nx)(hac:a.ac.length<=4294967296)(hv:¬(bX a.al a.nx a.ac=true/\0<=x/\x<=2))(hL:2^60<=L):aA env L n 7 [.agg [nI a.al,.d (.ivs a.nx.length (aG a.nx)),.d (.ivs a.ac.length (aD a.ac))],nI x] []=some (.tup [.d (.ivs 0 []),.d (.bool false)],[]):=by
 have hrl:=hs.1
 cases hve:bX a.al a.nx a.ac with
 |false=>
  obtain _|n:=n;omega
  simp-implicitDefEqProofs (maxSteps:=9^7) (disch:=try exact Dz) only[↓DN,↓kAsg,↓kRet,UP,simprocAttr,↓bA,hve,nF,lN,Tryz.f7]
 |true=>
  by_cases hx0:x<0
  ·obtain _|n:=n;omega
   simp-implicitDefEqProofs (maxSteps:=9^7) (disch:=try exact Dz) only[↓DN,↓kAsg,↓kRet,UP,simprocAttr,↓bA,hve,hx0,nF,lN,Tryz.f7]
  ·have hx1:2<x:=by
    apply Eg;intro h;exact hv ⟨hve,by omega,by omega⟩
   obtain _|n:=n;omega
   simp-implicitDefEqProofs (maxSteps:=9^7) (disch:=try exact Dz) only[↓DN,↓kAsg,↓kRet,UP,simprocAttr,↓bA,hve,hx0,hx1,nF,lN,Tryz.f7]
theorem OA(hn:15<=n)(a:Aut)(x:Int)(hs:aY a.nx)(hac:a.ac.length<=4294967296)(hL:2^60<=L):aA env L n 7 [.agg [nI a.al,.d (.ivs a.nx.length (aG a.nx)),.d (.ivs a.ac.length (aD a.ac))],nI x] []=match eM a x with
  |some l=>some (.tup [.sl 0 0 0 l.length,.d (.bool true)],[.arr (aM l) 1 0])
  |none=>some (.tup [.d (.ivs 0 []),.d (.bool false)],[]):=by
 by_cases hv:bX a.al a.nx a.ac=true/\0<=x/\x<=2
 ·obtain⟨e,rfl⟩:∃e:Nat,x=e:=⟨x.toNat,by omega⟩
  exact aEj hn a hv.1 e om hL
 ·rw[aEV hn a x hs hac hv hL,show eM a x=none from if_neg hv]
end
end Ev
end Go.Proofs.YtppffbehejpglaaGreat
