/-
  The words that cover, walked: the program's.
-/
import Derived.Test.YtppffbehejpglaaGreatDoorAnyD
import Derived.Test.YtppffbehejpglaaGreatDoorTop
import Derived.Test.YtppffbehejpglaaGreatDoorMemS
import Derived.Test.YtppffbehejpglaaGreatDoorSuiteS
import Derived.Test.YtppffbehejpglaaGreatDoorTrimL
import Derived.Test.YtppffbehejpglaaGreatDoorAutG
set_option linter.unusedSimpArgs false
set_option linter.unusedVariables false
set_option linter.unusedSectionVars false
set_option maxRecDepth 8000
set_option maxHeartbeats 4000000
namespace Go.Proofs.YtppffbehejpglaaGreatDoor
namespace Ev
theorem aE4:∀l:List Str,EY (aM l)=some l
 | []=>rfl
 |s::l=>by
  show(EY (aM l)).map (s::·)=_;rw[aE4 l];rfl
theorem aQ9{a:Aut}{j i:Nat}(h:(oneG a (i:Nat)).2=true):gT a (j+1) i=txt (oneG a (i:Nat)).1::gT a j (i+1):=by
 simp[gT,Ec,h]
theorem aP5{a:Aut}{j i:Nat}(h:(oneG a (i:Nat)).2=false):gT a (j+1) i=gT a j (i+1):=by
 simp[gT,Ec,h]
theorem aR0(l:List Str):(aHh l).length=l.length:=List.length_mergeSort _
theorem aQk{l:List Str}(hl:l.length<=4294967296):MK 21 [.sl 0 0 0 l.length,.clo 21 []] [.arr (aM l) 1 0]=some (.tup [],[.arr (aM (aHh l)) 1 0]):=by
 have h1:True/\True/\True/\(l.length=0\/True)/\l.length<=(aM l).length/\l.length<=bI:=by
  refine⟨trivial,trivial,trivial,.inr trivial,by rw[eA];omega,by unfold bI;omega⟩
 have h2:EY ((aM l).take l.length)=some l:=by rw[iE (Ab _),aE4]
 have h3:(aM l).drop l.length=[]:=by rw[aQW,Bu];rfl
 simp only[MK,Cs];rw[if_pos h1];simp only[h2,h3,Ai,Cj]<;>rfl
theorem yH{R:Type}{L n id:Nat}{hq:H}{k:KA R}(hn:1<=n)(l:List Str)(hi:hq[id]? =some (.arr (aM l) 1 0))(hl:l.length<=4294967296):
  aX env (aA env L n) hq 41 [.sl id 0 0 l.length,.clo 21 []] k=k (.tup []) (hq.set id (.arr (aM (aHh l)) 1 0)):=by
 obtain _|n:=n;omega;exact aAh hi (by simp[idsL,idsA]) fD (by simp[idsA,idsL]) (by rw[wD];simpa [aG,mapA,aJ]using aQk hl)
theorem aBT{R:Type}{L n:Nat}(hn:9<=n)(hL:2^60<=L){a:Aut}(ha:AOK a){k:KE R}:∀(q i m:Nat) (o:List Str) (len:Nat) (hq:i+q=a.nx.length) (hm:q<m) (hlen:len=o.length) (ho:o.length+q<=100000),
  aT env (aA env L n) L 0 [0,0,0,2] Bz55 (zV 0) (U1 (Z2 (Z1 (U8 (Z2 (U16 (U1 ([])))))))) m (Y1 (.ptr 0 0 0::.d .nils::.sl 1 0 0 len::Y8 (nI (a.nx.length)::nI i::Y16 (Y1 ([]))))) [.box [nI a.al,.d (.ivs a.nx.length (aE a.nx)),.d (.ivs a.ac.length (aD a.ac))],.arr (aM o) 1 0] k
  =k (.exit 0) (Y1 (.ptr 0 0 0::.d .nils::.sl 1 0 0 (o++gT a q i).length::Y8 (nI (a.nx.length)::nI (a.nx.length:Int)::Y16 (Y1 ([]))))) [.box [nI a.al,.d (.ivs a.nx.length (aE a.nx)),.d (.ivs a.ac.length (aD a.ac))],.arr (aM (o++gT a q i)) 1 0]:=by
 obtain⟨sa,wa,a1,a2,a3⟩:=aR ha;have hac:a.ac.length<=4294967296:=om;have hal:=sa.1;intro q
 induction q with
 |zero=>
  intro i m o len hq hm hlen ho;obtain _|m:=m;omega;obtain rfl:i=a.nx.length:=om;subst hlen;have e:gT a 0 a.nx.length=[]:=rfl;rw[e,Ai]
  simp-implicitDefEqProofs (maxSteps:=9^7) (disch:=try exact Dz) only[↓DN,↓kRet,UP,simprocAttr,Ah,rW,qL,Tryz.f18]
 |succ q ih=>
  intro i m o len hq hm hlen ho;obtain _|m:=m;omega;subst hlen;have hc:(i:Int)<a.nx.length:=om;have kc_s:=@aF2 L a i sa hac hL;have hacc:accG a (i:Nat)=oneG a (i:Nat):=by unfold accG;exact if_pos ha
  rw[hacc]at kc_s
  cases hb:(oneG a (i:Nat)).2 with
  |false=>
   have ih':=ih (i+1) m o o.length om om rfl om;rw[cs1 i]at ih';rw[aP5 hb];rw[hb]at kc_s;clear ih;generalize gT a q (i+1)=w2 at *;generalize txt (oneG a (i:Nat)).1=w at *
   simp-implicitDefEqProofs (maxSteps:=9^7) (disch:=try exact Dz) only[↓DN,↓kRet,UP,simprocAttr,hc,↓kc_s,↓ih',rW,qL,Tryz.f18]
  |true=>
   have ih':=ih (i+1) m (o++[txt (oneG a (i:Nat)).1]) (o.length+1) om om smp (by simp;omega);rw[cs1 i]at ih';simp only[Ao,Do]at ih';rw[aQ9 hb];rw[hb]at kc_s;clear ih;generalize gT a q (i+1)=w2 at *;generalize txt (oneG a (i:Nat)).1=w at *
   simp-implicitDefEqProofs (maxSteps:=9^7) (disch:=try exact Dz) only[↓DN,↓kRet,UP,simprocAttr,SE,hc,↓kc_s,mV,↓ih',rW,qL,Tryz.f18]
theorem aFe{L n:Nat}(hn:10<=n)(a:Aut)(hv:AOK a)(hL:2^60<=L):aA env L n 18 [.agg [nI a.al,.d (.ivs a.nx.length (aE a.nx)),.d (.ivs a.ac.length (aD a.ac))]] []=some (.sl 0 0 0 (bX a).length,[.arr (aM (bX a)) 1 0]):=by
 obtain⟨sa,wa,a1,a2,a3⟩:=aR hv;have hrl:=sa.1;have hac:a.ac.length<=4294967296:=om;have loop_c:=fun {R n k} hn=> @aBT R L n hn hL a hv k a.nx.length 0 L [] 0 om om rfl (by simp;omega);rw[Aq]at loop_c;have hcs:=aQj hv;have hl:=H3 hv;have hl2:=aR0 (gT a a.nx.length 0);rw[hcs]at hl2;have hl3:(gT a a.nx.length 0).length<=4294967296:=om;simp only[Ap,lF]at loop_c;rw[<-hl2]at loop_c;have kc_q:=fun {R:Type} {n id:Nat} {hq:H} {k:KA R} (hn:1<=n) (hi:hq[id]? =some (.arr (aM (gT a a.nx.length 0)) 1 0))=> @yH R L n id hq k hn (gT a a.nx.length 0) hi hl3;rw[hcs,<-hl2]at kc_q;unfold AOK at hv;clear hcs;generalize gT a a.nx.length 0=w0 at *;generalize bX a=w at *;have e4:(aM w).take w.length=aM w:=iE (Ab _);obtain _|n:=n;omega
 simp-implicitDefEqProofs (maxSteps:=9^7) (disch:=try exact Dz) only[↓DN,↓kAsg,↓kRet,UP,simprocAttr,↓a8,hv,↓loop_c,↓kc_q,aGT,R8,Tryz.f18]
theorem U9{R:Type}{E:Env}{call:aZ}{h h2:H}{f:FuncId}{args:List A}{r:A}{k:KA R}(hs:args.all sN=true)(hm:(E.hint f).mode=3)(hc:call f args []=some (r,h2))(hcl:(lW r&&h2.all kL)=true):
  aX E call h f args k=k (mapA (back [] h.length h2.length) r) (h++h2.map (mapO (back [] h.length h2.length))):=by
 have hcall:bY call E.hint [] f args=some (mapA (back [] 0 h2.length) r,h2.map (mapO (back [] 0 h2.length))):=by
  unfold bY;rw[hm];simp only[xC hs,hc,hcl,if_true,Ac,Aq]
 unfold aX;rw[AX hs,AB,fU _ (AX hs)];have:pack h []=[]:=rfl;rw[this,hcall]
 have hb:∀i,(back [] 0 h2.length i).bind (back [] h.length h2.length)=back [] h.length h2.length i:=by
  intro i;unfold back;simp only[Ac,Cb,if_false,Nat.sub_zero,Ag]
  split
  ·rename_i hi;simp[hi]
  ·rfl
 simp only[Ac,Nat.zero_le,true_and,closed,Cd,Bq,if_true,bJ,Am];rw[aI1 hb,List.map_map]
 congr 2
 apply Cw;intro o _;exact aSF hb o
theorem aGk(l:List Str):kL (.arr (aM l) 1 0)=true:=by
 simp only[kL,aM,List.all_map,Bk];intro x _;rfl
theorem aCn{R:Type}{E:Env}{call:aZ}{h:H}{f:FuncId}{args:List A}{l:List Str}{k:KA R}(hs:args.all sN=true)(hm:(E.hint f).mode=3)(hc:call f args []=some (.sl 0 0 0 l.length,[.arr (aM l) 1 0])):
  aX E call h f args k=k (.sl h.length 0 0 l.length) (h++[.arr (aM l) 1 0]):=by
 rw[U9 hs hm hc (by simp only[lW,Bx,Cd,aGk,Bq])];simp[mapA,back,mapO]
section
variable{R:Type}{L n:Nat}
theorem aQK{l:Int}{h:H}:eP env.P h 5 21 (.d (.int .u8 ((bU l).toNat:Int)))=some (.d (.int .i32 ((bU l).toNat:Int)),h):=by
 have e:IntKind.i32.wrap ((bU l).toNat:Int)=((bU l).toNat:Int):=IntWalk.i32_in _ (by have:=toNat_lt (bU l);constructor<;>omega);have hu:env.P.underlying 21=some (.int .i32):=kr;rw[yS aBv hu,e]
theorem aQD{l:Int}(h0:0<=l)(h5:l<=5){h:H}:eP env.P h 21 9 (.d (.int .i32 ((bU l).toNat:Int)))=some (.d (.str [bU l]),h):=by
 have hu:env.P.underlying 21=some (.int .i32):=kr;have hs:env.P.underlying 9=some .string:=kr
 have e:(Utf8.encode ((bU l).toNat:Int)).data.toList=[bU l]:=by
  rcases(show l=0\/l=1\/l=2\/l=3\/l=4\/l=5 by omega)with rfl|rfl|rfl|rfl|rfl|rfl<;>kernel_rfl
 unfold eP;rw[hu,hs];simp only[e]
theorem aA2(hn:2<=n)(hL:2^60<=L){ls:List Int}(hls:∀l∈ls,0<=l/\l<=5)(hl:ls.length<=6){al x:Int}{f e c p:Nat}{w:Str}(hw:w.length<=100000){k:KE R}:∀(j q m:Nat) (o:List Str) (len g:Nat) (hq:q+j=ls.length) (hm:j<m) (hlen:len=o.length) (hg:g=o.length+1) (ho:o.length+j<=100000),
  aT env (aA env L n) L 0 (W8 (W4 [2002])) Bz6 (jL 2) (Z2 (U2 (Z4 (U1 (Z1 (U8 (U4 (Z2 (Z1 (U4 (Z2 (Z1 (U16 ([])))))))))))))) m (nI al::nI x::Y2 (.d .nils::.sl 0 g 0 len::nI f::nI e::Y1 (.d (.str w)::Y8 (Y4 (.sl 0 (e+1) f c::nI c::nI p::Y4 (.d (.ivs ls.length (ints ls))::nI (ls.length:Int)::nI q::Y16 ([]))))))) [.log (aM o)] k
  =k (.exit 4) (nI al::nI x::Y2 (.d .nils::.sl 0 ((o++chG (ls.drop q) w).length+1) 0 (o++chG (ls.drop q) w).length::nI f::nI e::Y1 (.d (.str w)::Y8 (Y4 (.sl 0 (e+1) f c::nI c::nI p::Y4 (.d (.ivs ls.length (ints ls))::nI (ls.length:Int)::nI (ls.length:Int)::Y16 ([]))))))) [.log (aM (o++chG (ls.drop q) w))]:=by
 intro j
 induction j with
 |zero=>
  intro q m o len g hq hm hlen hg ho;obtain _|m:=m;omega;obtain rfl:q=ls.length:=om;subst hlen;subst hg;have e:o++chG (ls.drop ls.length) w=o:=by simp[chG]
  rw[e]
  simp-implicitDefEqProofs (maxSteps:=9^7) (disch:=try exact Dz) only[↓DN,↓kRet,UP,simprocAttr,Ah,FB,BQ,Tryz.f16]
 |succ j ih=>
  intro q m o len g hq hm hlen hg ho;obtain _|m:=m;omega;subst hlen;subst hg;have hk:q<ls.length:=om;have hc:(q:Int)<ls.length:=om;have hq0:(0:Int)<=q:=om;have hmem:ls.getD q 0∈ls:=by rw[Aa,Ad hk];exact At _
  obtain⟨b0,b1⟩:=hls _ hmem
  have e:o++chG (ls.drop q) w=(o++[w++[bU (ls.getD q 0)]])++chG (ls.drop (q+1)) w:=by
   rw[cC hk (d:=0)];simp[chG]
  have ih':=ih (q+1) m (o++[w++[bU (ls.getD q 0)]]) (o.length+1) (o.length+1+1) om om smp smp (by simp;omega);rw[cs1 q]at ih';rw[e];clear ih e hmem hls;generalize hb:ls.getD q 0=b at *;have kc_t:=@N4 L b b0 b1;have conv_r:=fun {h:H}=> @aQD b b0 b1 h;generalize o++[w++[bU b]]++chG (ls.drop (q+1)) w=z at *;have hol:(aM o).length=o.length:=eA
  simp-implicitDefEqProofs (maxSteps:=9^7) (disch:=try exact Dz) only[↓DN,↓kRet,UP,simprocAttr,hc,hq0,hb,hol,↓kc_t,↓aQK,↓conv_r,mV,↓ih',FB,BQ,Tryz.f16]
theorem aAF(hn:2<=n)(hL:2^60<=L){al x:Int}{f e c:Nat}{vs:List Str}(hv:vs.length=c)(hvw:∀w∈vs,w.length<=100000)(hfe:f+c=e)(he:e<=1000000000){k:KE R}:∀(j p m:Nat) (o:List Str) (len g:Nat) (hp:p+j=c) (hm:j<m) (hlen:len=o.length) (hg:g=o.length+1) (ho:o.length+6*j<=90000) (hoe:e<=o.length) (hod:∀i,i<c->o.getD (f+i) []=vs.getD i []),
  aT env (aA env L n) L 0 (W8 (W4 [2002])) Bz6 (jL 1) (Z2 (U2 (Z4 (U8 (U4 (U2 (Z2 (Z1 (U16 (U4 (U2 (U1 ([]))))))))))))) m (nI al::nI x::Y2 (.d .nils::.sl 0 g 0 len::nI f::nI e::Y8 (Y4 (Y2 (.sl 0 (e+1) f c::nI c::nI p::Y16 (Y4 (Y2 (Y1 ([]))))))))) [.log (aM o)] k
  =k (.exit 2) (nI al::nI x::Y2 (.d .nils::.sl 0 ((o++(vs.drop p).flatMap (chG (aB al))).length+1) 0 (o++(vs.drop p).flatMap (chG (aB al))).length::nI f::nI e::Y8 (Y4 (Y2 (.sl 0 (e+1) f c::nI c::nI c::Y16 (Y4 (Y2 (Y1 ([]))))))))) [.log (aM (o++(vs.drop p).flatMap (chG (aB al))))]:=by
 have hl6:=bO al;intro j
 induction j with
 |zero=>
  intro p m o len g hp hm hlen hg ho hoe hod;obtain _|m:=m;omega;obtain rfl:p=c:=om;subst hlen;subst hg;have e:o++(vs.drop p).flatMap (chG (aB al))=o:=by rw[List.drop_of_length_le om];simp
  rw[e]
  simp-implicitDefEqProofs (maxSteps:=9^7) (disch:=try exact Dz) only[↓DN,↓kRet,UP,simprocAttr,Ah,FT,BV,Tryz.f16]
 |succ j ih=>
  intro p m o len g hp hm hlen hg ho hoe hod;obtain _|m:=m;omega;subst hlen;subst hg;have hk:p<vs.length:=om;have hc:(p:Int)<c:=om;have hp0:(0:Int)<=p:=om;have hw:=hvw _ (d5 hk)
  have hgd:(((aM o).drop (f+p)).take 1)=[.str (vs.getD p [])]:=by
   have:=hod p om;have hlt:f+p<o.length:=om
   have h1:(aM o).drop (f+p)=.str (o.getD (f+p) [])::(aM o).drop (f+p+1):=by
    rw[Dt (by rw[eA];exact hlt)]
    congr 1
    simp[aM,Aa,Ad hlt]
   rw[h1,this];rfl
  have loop_c:=fun {R n k} hn=> @aA2 R L n hn hL (aB al) b9 hl6 al x f e c p (vs.getD p []) hw k (aB al).length 0 L o o.length (o.length+1) om om rfl rfl om;rw[Ba]at loop_c;simp only[Ap]at loop_c;have hcl:(chG (aB al) (vs.getD p [])).length<=6:=by rw[aPr];exact hl6
  have he2:o++(vs.drop p).flatMap (chG (aB al))=(o++chG (aB al) (vs.getD p []))++(vs.drop (p+1)).flatMap (chG (aB al)):=by
   rw[cC hk (d:=[]),List.flatMap_cons,Ao]
  have ih':=ih (p+1) m (o++chG (aB al) (vs.getD p [])) _ _ om om rfl rfl (by rw[Af];omega) (by rw[Af];omega) (fun i hi=>by
   rw[<-hod i hi,Aa,Be om,<-Aa])
  rw[cs1 p]at ih';rw[he2];have hol:(aM o).length=o.length:=eA;have hg0:0<e+1:=om;have hg1:e+1<=o.length+1:=om;clear ih he2 hod hvw;generalize vs.getD p []=w at *;generalize o++chG (aB al) w++(vs.drop (p+1)).flatMap (chG (aB al))=z at *;generalize o++chG (aB al) w=o2 at *;have hf1:f+p+1<e+1:=om
  simp-implicitDefEqProofs (maxSteps:=9^7) (disch:=try exact Dz) only[↓DN,↓kRet,UP,simprocAttr,↓jD,hc,hp0,hol,hgd,hg0,hg1,hf1,↓loop_c,↓ih',FT,BV,Tryz.f16]
theorem aTg{o:List Str}{f c:Nat}(hf:f<=o.length)(hc:o.length-f=c):eN env.P [.log (aM o)] 30 (.sl 0 (o.length+1) 0 o.length) (some (f:Int)) (some (o.length:Int))=some (.sl 0 (o.length+1) f c):=by
 have hu:env.P.underlying 30=some (.slice 9):=kr;have hs:env.P.cellsOf 9=1:=kr
 have hb:lH o.length (some (f:Int)) (some (o.length:Int))=some (f,o.length):=by
  unfold lH;simp only[Bg];rw[if_pos ⟨by omega,by omega,by omega⟩];simp
 have h1:0<o.length+1/\o.length+1<=(aM o).length+1/\True:=⟨by omega,by rw[eA];omega,trivial⟩
 simp only[eN,hu,Cs,hs,hb,Bb,hc,Ag];rw[if_pos h1]
theorem aAW(hn:3<=n)(hL:2^60<=L){al:Int}{k:KE R}:∀(j t m:Nat) (o:List Str) (len g f:Nat) (ht:t+j<=3) (hm:j<m) (hlen:len=o.length) (hg:g=o.length+1) (ho:o=midG (aB al) t) (hf:f+(lvG (aB al) t).length=o.length),
  aT env (aA env L n) L 0 (W8 (W4 [2002])) Bz6 (jL 0) (Z2 (U2 (Z2 (Z1 (U32 (U8 (U1 ([])))))))) m (nI al::nI j::Y2 (.d .nils::.sl 0 g 0 len::nI f::Y32 (Y8 (Y1 ([]))))) [.log (aM o)] k
  =k (.exit 0) (nI al::nI 0::Y2 (.d .nils::.sl 0 ((midG (aB al) (t+j)).length+1) 0 (midG (aB al) (t+j)).length::nI (((midG (aB al) (t+j)).length-(lvG (aB al) (t+j)).length:Nat):Int)::Y32 (Y8 (Y1 ([]))))) [.log (aM (midG (aB al) (t+j)))]:=by
 have hl6:=bO al;intro j
 induction j with
 |zero=>
  intro t m o len g f ht hm hlen hg ho hf;obtain _|m:=m;omega;subst hlen;subst hg;rw[show t+0=t from rfl,<-ho,show o.length-(lvG (aB al) t).length=f by omega];clear ho hf
  simp-implicitDefEqProofs (maxSteps:=9^7) (disch:=try exact Dz) only[↓DN,↓kRet,UP,simprocAttr,Ah,FX,z6,Tryz.f16]
 |succ j ih=>
  intro t m o len g f ht hm hlen hg ho hf;obtain _|m:=m;omega;subst hlen;subst hg;have hs:=IR hl6 t om;have hs2:=IR hl6 (t+1) om;have hsp:midG (aB al) (t+1)=o++lvG (aB al) (t+1):=by rw[ho];rfl
  have hol:o.length<=259:=by rw[ho];exact hs
  obtain⟨p,hp⟩:=aSt (ls:=aB al) t;rw[<-ho]at hp;have hpl:p.length=f:=by have:=congrArg List.length hp;rw[Af]at this;omega
  have hod:∀i,i<(lvG (aB al) t).length->o.getD (f+i) []=(lvG (aB al) t).getD i []:=by
   intro i hi;rw[hp,Aa,Bo om,show f+i-p.length=i by omega,<-Aa]
  have loop_c:=fun {R n k} hn=> @aAF R L n hn hL al ((j+1:Nat):Int) f o.length (lvG (aB al) t).length (lvG (aB al) t) rfl (fun w hw=>by have:=(KL t w hw).1;omega) hf om k (lvG (aB al) t).length 0 L o o.length (o.length+1) om om rfl rfl om om hod;rw[Ba]at loop_c;have e1:o++(lvG (aB al) t).flatMap (chG (aB al))=midG (aB al) (t+1):=by rw[hsp];rfl
  rw[e1]at loop_c;have ih':=ih (t+1) m (midG (aB al) (t+1)) _ _ o.length om om rfl rfl rfl (by rw[hsp,Af]);rw[show t+1+j=t+(j+1) by omega]at ih';have e2:((j+1:Nat):Int)-1=(j:Int):=om;have hj1:(0:Int)<((j+1:Nat):Int):=om;have hj2:((j+1:Nat):Int)<=3:=om;simp only[Ap]at loop_c;have hfo:(f:Int)<=o.length:=om;have hf0:(0:Int)<=f:=om;have hsub:o.length-f=(lvG (aB al) t).length:=om;have hol2:(aM o).length=o.length:=eA;have hfn:f<=o.length:=om;clear ih hod hp hsp e1 ho;generalize midG (aB al) (t+1)=o2 at *;generalize(midG (aB al) (t+(j+1))).length-(lvG (aB al) (t+(j+1))).length=zf at *;generalize midG (aB al) (t+(j+1))=z at *;generalize(lvG (aB al) t).length=c at *;generalize((j+1:Nat):Int)=x at *;have conv_s:=@aTg o f c hfn hsub
  simp-implicitDefEqProofs (maxSteps:=9^7) (disch:=try exact Dz) only[↓DN,↓kRet,UP,simprocAttr,hj1,↓conv_s,e2,↓loop_c,↓ih',FX,z6,Tryz.f16]
theorem SY(hn:4<=n)(al:Int)(x:Nat)(hx:x<=3)(hL:2^60<=L):aA env L n 16 [nI al,nI x] []=some (.d (.ivs (midG (aB al) x).length (aM (midG (aB al) x))),[]):=by
 have loop_c:=fun {R n k} hn=> @aAW R L n hn hL al k x 0 L [[]] 1 2 0 om om rfl rfl rfl rfl;have e1:aM [[]]=[.str []]:=rfl;rw[e1,Ag]at loop_c;simp only[Ap]at loop_c;generalize(midG (aB al) x).length-(lvG (aB al) x).length=f at *;generalize midG (aB al) x=w at *;have e4:(aM w).take w.length=aM w:=iE (Ab _);have hol2:(aM w).length=w.length:=eA;obtain _|n:=n;omega
 simp-implicitDefEqProofs (maxSteps:=9^7) (disch:=try exact Dz) only[↓DN,↓kAsg,↓kRet,UP,simprocAttr,e4,hol2,↓loop_c,Ab,aIg,VR,Tryz.f16]
theorem aHp:type_of% fun {L} al x hx hL=>ks fun hn=> @SY L _ hn al x hx hL:=fun {L} al x hx hL=>ks fun hn=> @SY L _ hn al x hx hL
def setS(o:List Str):List (D×D):=o.map fun w=>(.str w,.bool true)
theorem TQ{o:List Str}:(setS o).length=o.length:=Am _
theorem aJ8:∀o:List Str,ES (setS o)=some o
 | []=>rfl
 |w::o=>by
  show(ES (setS o)).map (w::·)=_;rw[aJ8 o];rfl
theorem aMu{x:Str}:∀(o:List Str) (pre:List (D×D)),∃r,nR .string (.str x) (setS o) pre.length=some r/\qR (pre++setS o) (.str x) (.bool true) r=pre++setS (insW o x)
 | [],pre=>⟨none,rfl,by simp[qR,setS,insW]⟩
 |y::o,pre=>by
  by_cases h:x=y
  ·subst h;refine⟨some pre.length,by simp[setS,nR,IG],?_⟩;have e:insW (x::o) x=x::o:=if_pos Bd;rw[e];show(pre++(D.str x,D.bool true)::setS o).set pre.length (.str x,.bool true)=pre++(D.str x,D.bool true)::setS o;rw[Dn _ _ (Ab _),Bj,Cj]
  ·obtain⟨r,h1,h2⟩:=aMu (x:=x) o (pre++[(.str y,.bool true)]);have hb:(x==y)=false:=by simpa using h
   have e:insW (y::o) x=y::insW o x:=by
    unfold insW
    by_cases hm:x∈o
    ·rw[if_pos hm,if_pos (Az _ hm)]
    ·rw[if_neg hm,if_neg fun h3=>(Au.1 h3).elim h hm];rfl
   refine⟨r,?_,?_⟩
   ·rw[Af,Da]at h1;simp only[setS,Aj,nR,IG,hb];exact h1
   ·rw[e];rw[Ao,Ao]at h2;exact h2
theorem map_set:mapT env.P 40=some (.string,4):=kr
theorem aWs{T:H}{o:List Str}{x:Str}:d6 env.P (.mp (setS o)::T) 40 (.mp 0) (.d (.str x)) (.d (.bool true))=some (.d .undef,.mp (setS (insW o x))::T):=by
 obtain⟨r,h1,h2⟩:=aMu (x:=x) o [];have h1:nR .string (.str x) (setS o) 0=some r:=h1;have h2:qR (setS o) (.str x) (.bool true) r=setS (insW o x):=h2;unfold d6;simp only[map_set,Cs,ID,qI,Bq,if_true,h1,h2,Cj]
theorem aTV{R:Type}{s:List A}{k:A->Option R}:kv s (.const .nilFunc) k=k (.d .nilfn):=rfl
theorem aLJ(hn:1<=n){es:List (D×D)}:aA env L n 20 [.mp 0] [.mp es]=some (.clo 43 [.ptr 1 0 0],[.mp es,.box [.mp 0]]):=by
 obtain _|n:=n;omega
 simp-implicitDefEqProofs (maxSteps:=9^7) (disch:=try exact Dz) only[↓DN,↓kAsg,↓kRet,UP,simprocAttr,↓aTV,pQ,iQ,Tryz.f20]
theorem aVy{es:List (D×D)}{x y:O}{k:KA R}(hn:1<=n):aX env (aA env L n) [.mp es,x,y] 20 [.mp 0] k=k (.clo 43 [.ptr 3 0 0]) [.mp es,x,y,.box [.mp 0]]:=by
 have hre:aF aI [.mp es,x,y] (idsL [.mp 0]) []=[0]:=rfl;have hpk:pack [.mp es,x,y] [0]=[.mp es]:=rfl;have hma:aG (aJ [0]) [.mp 0]=[.mp 0]:=rfl
 have hc:bY (aA env L n) env.hint [.mp es] 20 [.mp 0]=some (.clo 43 [.ptr 1 0 0],[.mp es,.box [.mp 0]]):=by
  unfold bY;rw[dP];exact aLJ hn
 unfold aX;rw[hre,hpk,hma,hc];rfl
theorem aOI{o:List Str}(h0:0<o.length)(h1:o.length<=4294967296)(hw:∀s∈o,s.length<=4294967296):CZ 43 21 [.clo 43 [.ptr 0 0 0],.clo 21 []] [.box [.mp 1],.mp (setS o)]=some (.sl 2 0 0 o.length,[.box [.mp 1],.mp (setS o),.arr (aM (o.mergeSort leX)) 1 0]):=by
 have h2:o.all (fun s=>decide (s.length<=bI))=true:=Bk.2 fun s hs=>decide_eq_true (hw s hs)
 have h3:True/\True/\True/\True/\0<(setS o).length/\(setS o).length<=bI:=by
  rw[TQ];exact⟨trivial,trivial,trivial,trivial,h0,h1⟩
 simp only[CZ,Cs,Ay,aJ8,h2,if_true];rw[if_pos h3,TQ];rfl
theorem aRq{o:List Str}{x y:O}{k:KA R}(hn:1<=n)(h0:0<o.length)(h1:o.length<=4294967296)(hw:∀s∈o,s.length<=4294967296):aX env (aA env L n) [.mp (setS o),x,y,.box [.mp 0]] 19 [.clo 43 [.ptr 3 0 0],.clo 21 []] k=k (.sl 4 0 0 o.length) [.mp (setS o),x,y,.box [.mp 0],.arr (aM (o.mergeSort leX)) 1 0]:=by
 obtain _|n:=n;omega;have hre:aF aI [.mp (setS o),x,y,.box [.mp 0]] (idsL [.clo 43 [.ptr 3 0 0],.clo 21 []]) []=[3,0]:=rfl;have hpk:pack [.mp (setS o),x,y,.box [.mp 0]] [3,0]=[.box [.mp 1],.mp (setS o)]:=rfl;have hma:aG (aJ [3,0]) [.clo 43 [.ptr 3 0 0],.clo 21 []]=[.clo 43 [.ptr 0 0 0],.clo 21 []]:=rfl
 have hc:bY (aA env L (n+1)) env.hint [.box [.mp 1],.mp (setS o)] 19 [.clo 43 [.ptr 0 0 0],.clo 21 []]=some (.sl 2 0 0 o.length,[.box [.mp 1],.mp (setS o),.arr (aM (o.mergeSort leX)) 1 0]):=by
  unfold bY;rw[iU];show aA env L (n+1) _ _ _=_;rw[B1];exact aOI h0 h1 hw
 unfold aX;rw[hre,hpk,hma,hc];rfl
theorem aAm(hn:1<=n)(hL:2^60<=L){cov mids ends:List Str}(hP:Parts cov mids ends){i q:Nat}{c mm:Str}(hc:c.length<=1000)(hmm:mm.length<=1000){k:KE R}:∀(j p m:Nat) (o:List Str) (hp:p+j=ends.length) (hm:j<m),
  aT env (aA env L n) L 0 [] Bz2 (jC 2) (U4 (Z4 (Z1 (U1 (Z1 (U1 (Z1 (U16 (U4 (U2 (Z2 (Z1 (U2 (U1 (Z2 (Z1 (U2 (U1 (Z2 (Z1 (U16 (U2 ([]))))))))))))))))))))))) m (Y4 (.d .nils::.d (.bool false)::.mp 0::.d (.ivs mids.length (aM mids))::.sl 1 0 0 ends.length::Y1 (.d (.str c)::Y1 (.d (.str mm)::Y16 (Y4 (Y2 (.sl 2 0 0 cov.length::nI (cov.length)::nI i::Y2 (Y1 (.d (.ivs mids.length (aM mids))::nI (mids.length)::nI q::Y2 (Y1 (.sl 1 0 0 ends.length::nI (ends.length)::nI p::Y16 (Y2 ([]))))))))))))) [.mp (setS o),.arr (aM ends) 1 0,.arr (aM cov) 1 0] k
  =k (.exit 4) (Y4 (.d .nils::.d (.bool false)::.mp 0::.d (.ivs mids.length (aM mids))::.sl 1 0 0 ends.length::Y1 (.d (.str c)::Y1 (.d (.str mm)::Y16 (Y4 (Y2 (.sl 2 0 0 cov.length::nI (cov.length)::nI i::Y2 (Y1 (.d (.ivs mids.length (aM mids))::nI (mids.length)::nI q::Y2 (Y1 (.sl 1 0 0 ends.length::nI (ends.length)::nI (ends.length)::Y16 (Y2 ([]))))))))))))) [.mp (setS (cZ o (endL c mm (ends.drop p)))),.arr (aM ends) 1 0,.arr (aM cov) 1 0]:=by
 have hne:=hP.ne;intro j
 induction j with
 |zero=>
  intro p m o hp hm;obtain _|m:=m;omega;obtain rfl:p=ends.length:=om;have e:cZ o (endL c mm (ends.drop ends.length))=o:=by rw[Bu];rfl
  rw[e]
  simp-implicitDefEqProofs (maxSteps:=9^7) (disch:=try exact Dz) only[↓DN,↓kRet,UP,simprocAttr,Ah,EQ,zY,Tryz.f7]
 |succ j ih=>
  intro p m o hp hm;obtain _|m:=m;omega;have hk:p<ends.length:=om;have hc1:(p:Int)<ends.length:=om;have hp0:(0:Int)<=p:=om;have hel:=hP.e _ (d5 hk);have hcm:(c++mm).length<=2000:=by rw[Af];omega
  have e:cZ o (endL c mm (ends.drop p))=cZ (insW o (c++mm++ends.getD p [])) (endL c mm (ends.drop (p+1))):=by
   rw[cC hk (d:=[])];rfl
  have ih':=ih (p+1) m (insW o (c++mm++ends.getD p [])) om om;rw[cs1 p]at ih';rw[e];clear ih e hP;generalize hei:ends.getD p []=w at *;generalize cZ (insW o (c++mm++w)) (endL c mm (ends.drop (p+1)))=z at *
  simp-implicitDefEqProofs (maxSteps:=9^7) (disch:=try exact Dz) only[↓DN,↓kRet,UP,simprocAttr,SE,hc1,hp0,hei,aWs,↓ih',EQ,zY,Tryz.f7]
theorem aAZ(hn:1<=n)(hL:2^60<=L){cov mids ends:List Str}(hP:Parts cov mids ends){i:Nat}{c:Str}(hc:c.length<=1000){k:KE R}:∀(j p m:Nat) (o:List Str) (hp:p+j=mids.length) (hm:j<m),
  aT env (aA env L n) L 0 [] Bz2 (jC 1) (U4 (Z4 (Z1 (U1 (Z1 (U16 (U8 (Z2 (Z1 (U2 (U1 (Z2 (Z1 (U16 (U8 ([])))))))))))))))) m (Y4 (.d .nils::.d (.bool false)::.mp 0::.d (.ivs mids.length (aM mids))::.sl 1 0 0 ends.length::Y1 (.d (.str c)::Y16 (Y8 (.sl 2 0 0 cov.length::nI (cov.length)::nI i::Y2 (Y1 (.d (.ivs mids.length (aM mids))::nI (mids.length)::nI p::Y16 (Y8 ([]))))))))) [.mp (setS o),.arr (aM ends) 1 0,.arr (aM cov) 1 0] k
  =k (if(run3 (midF c ends) mids j p o).1=true then .exit 2 else .ret) (Y4 (.d .nils::.d (.bool false)::.mp 0::.d (.ivs mids.length (aM mids))::.sl 1 0 0 ends.length::Y1 (.d (.str c)::Y16 (Y8 (.sl 2 0 0 cov.length::nI (cov.length)::nI i::Y2 (Y1 (.d (.ivs mids.length (aM mids))::nI (mids.length)::nI ((run3 (midF c ends) mids j p o).2.1:Int)::Y16 (Y8 ([]))))))))) [.mp (setS (run3 (midF c ends) mids j p o).2.2),.arr (aM ends) 1 0,.arr (aM cov) 1 0]:=by
 have hne:=hP.ne;have hnm:=hP.nm;intro j
 induction j with
 |zero=>
  intro p m o hp hm;obtain _|m:=m;omega;obtain rfl:p=mids.length:=om;have e:∀f,run3 f mids 0 mids.length o=(true,mids.length,o):=fun _=>rfl;rw[e];simp only[if_true]
  simp-implicitDefEqProofs (maxSteps:=9^7) (disch:=try exact Dz) only[↓DN,↓kRet,UP,simprocAttr,Ah,tP,sQ,Tryz.f7]
 |succ j ih=>
  intro p m o hp hm;obtain _|m:=m;omega;have hk:p<mids.length:=om;have hc1:(p:Int)<mids.length:=om;have hp0:(0:Int)<=p:=om;have hml:=hP.m _ (d5 hk);have loop_c:=fun {R n k} hn=> @aAm R L n hn hL cov mids ends hP i p c (mids.getD p []) hc hml k ends.length 0 L o om om;rw[Ba]at loop_c;simp only[Ap]at loop_c;have hz:midF c ends (mids.getD p []) o=(!decide (3000<(cZ o (endL c (mids.getD p []) ends)).length),cZ o (endL c (mids.getD p []) ends)):=rfl
  by_cases hb1:3000<(cZ o (endL c (mids.getD p []) ends)).length
  ·have hb2:(3000:Int)<(cZ o (endL c (mids.getD p []) ends)).length:=om;rw[I8 (by rw[hz,decide_eq_true hb1];rfl),hz];simp only[Al,if_false];clear ih hz hP;generalize hei:mids.getD p []=w at *;generalize cZ o (endL c w ends)=z at *
   simp-implicitDefEqProofs (maxSteps:=9^7) (disch:=try exact Dz) only[↓DN,↓kAsg,↓kRet,UP,simprocAttr,SE,hc1,hp0,hei,hb2,TQ,↓loop_c,tP,sQ,Tryz.f7]
  ·have hb2:¬(3000:Int)<(cZ o (endL c (mids.getD p []) ends)).length:=om;rw[CQ (by rw[hz,decide_eq_false hb1];rfl),hz];have ih':=ih (p+1) m (cZ o (endL c (mids.getD p []) ends)) om om;rw[cs1 p]at ih';simp only;clear ih hz hP;generalize hei:mids.getD p []=w at *;generalize cZ o (endL c w ends)=z at *;generalize run3 (midF c ends) mids j (p+1) z=z2 at *
   simp-implicitDefEqProofs (maxSteps:=9^7) (disch:=try exact Dz) only[↓DN,↓kRet,UP,simprocAttr,SE,hc1,hp0,hei,hb2,TQ,↓loop_c,↓ih',tP,sQ,Tryz.f7]
theorem XU(hn:1<=n)(hL:2^60<=L){cov mids ends:List Str}(hP:Parts cov mids ends){k:KE R}:∀(j p m:Nat) (o:List Str) (hp:p+j=cov.length) (hm:j<m),
  aT env (aA env L n) L 0 [] Bz2 (jC 0) (U4 (Z4 (Z1 (U16 (U8 (U2 (Z2 (Z1 (U16 (U8 (U4 (U2 ([]))))))))))))) m (Y4 (.d .nils::.d (.bool false)::.mp 0::.d (.ivs mids.length (aM mids))::.sl 1 0 0 ends.length::Y16 (Y8 (Y2 (.sl 2 0 0 cov.length::nI (cov.length)::nI p::Y16 (Y8 (Y4 (Y2 ([]))))))))) [.mp (setS o),.arr (aM ends) 1 0,.arr (aM cov) 1 0] k
  =k (if(run3 (covF mids ends) cov j p o).1=true then .exit 0 else .ret) (Y4 (.d .nils::.d (.bool false)::.mp 0::.d (.ivs mids.length (aM mids))::.sl 1 0 0 ends.length::Y16 (Y8 (Y2 (.sl 2 0 0 cov.length::nI (cov.length)::nI ((run3 (covF mids ends) cov j p o).2.1:Int)::Y16 (Y8 (Y4 (Y2 ([]))))))))) [.mp (setS (run3 (covF mids ends) cov j p o).2.2),.arr (aM ends) 1 0,.arr (aM cov) 1 0]:=by
 have hne:=hP.ne;have hnm:=hP.nm;have hnc:=hP.nc;intro j
 induction j with
 |zero=>
  intro p m o hp hm;obtain _|m:=m;omega;obtain rfl:p=cov.length:=om;have e:∀f,run3 f cov 0 cov.length o=(true,cov.length,o):=fun _=>rfl;rw[e];simp only[if_true]
  simp-implicitDefEqProofs (maxSteps:=9^7) (disch:=try exact Dz) only[↓DN,↓kRet,UP,simprocAttr,Ah,tW,r9,Tryz.f7]
 |succ j ih=>
  intro p m o hp hm;obtain _|m:=m;omega;have hk:p<cov.length:=om;have hc1:(p:Int)<cov.length:=om;have hp0:(0:Int)<=p:=om;have hcl:=hP.c _ (d5 hk);have loop_c:=fun {R n k} hn=> @aAZ R L n hn hL cov mids ends hP p (cov.getD p []) hcl k mids.length 0 L o om om;simp only[Ap]at loop_c;have hz:covF mids ends (cov.getD p []) o=((run3 (midF (cov.getD p []) ends) mids mids.length 0 o).1,(run3 (midF (cov.getD p []) ends) mids mids.length 0 o).2.2):=rfl
  cases hb:(run3 (midF (cov.getD p []) ends) mids mids.length 0 o).1 with
  |false=>
   rw[I8 (by rw[hz,hb]),hz];rw[hb]at loop_c;simp only[Al,if_false]at loop_c|-;clear ih hz hb hP;generalize hei:cov.getD p []=w at *;generalize run3 (midF w ends) mids mids.length 0 o=z at *
   simp-implicitDefEqProofs (maxSteps:=9^7) (disch:=try exact Dz) only[↓DN,↓kRet,UP,simprocAttr,SE,hc1,hp0,hei,↓loop_c,tW,r9,Tryz.f7]
  |true=>
   rw[CQ (by rw[hz,hb]),hz];have ih':=ih (p+1) m (run3 (midF (cov.getD p []) ends) mids mids.length 0 o).2.2 om om;rw[cs1 p]at ih';rw[hb]at loop_c;simp only[if_true]at loop_c|-;clear ih hz hb hP;generalize hei:cov.getD p []=w at *;generalize run3 (midF w ends) mids mids.length 0 o=z at *;generalize run3 (covF mids ends) cov j (p+1) z.2.2=z2 at *
   simp-implicitDefEqProofs (maxSteps:=9^7) (disch:=try exact Dz) only[↓DN,↓kRet,UP,simprocAttr,SE,hc1,hp0,hei,↓loop_c,↓ih',tW,r9,Tryz.f7]
theorem aSE{a:Aut}(h:AOK a){e:Nat}(he:e<=2):0<(cZ [] (covL (bX a) (midG (aB a.al) (e+1)) (sepW a))).length/\∀s∈cZ [] (covL (bX a) (midG (aB a.al) (e+1)) (sepW a)),s.length<=4294967296:=by
 obtain⟨_,_,a1,a2,_⟩:=aR h
 have key:∀s,s∈cZ [] (covL (bX a) (midG (aB a.al) (e+1)) (sepW a))↔∃c∈bX a,∃m∈midG (aB a.al) (e+1),∃w∈sepW a,s=c++m++w:=by
  intro s;rw[YW];simp only[Bv,false_or,covL,midL,endL,Ck,Av]
  constructor
  ·rintro⟨c,hc,m,hm,e,he,rfl⟩;exact⟨c,hc,m,hm,e,he,rfl⟩
  ·rintro⟨c,hc,m,hm,e,he,rfl⟩;exact⟨c,hc,m,hm,e,he,rfl⟩
 constructor
 ·have h1:=H3 h;have h2:=TV h
  have h3:∀k,[]∈midG (aB a.al) k:=by
   intro k
   induction k with
   |zero=>simp[midG]
   |succ k ih=>exact Ak.2 (.inl ih)
  exact Em ((key _).2 ⟨_,d5 (k:=0) om,_,h3 _,_,d5 (k:=0) om,rfl⟩)
 ·intro s hs;obtain⟨c,hc,m,hm,w,hw,rfl⟩:=(key s).1 hs;have:=(aNj h hc hm hw).1;omega
theorem aFL(hn:15<=n)(a:Aut)(hv:AOK a)(e:Nat)(he:e<=2)(hL:2^60<=L):aA env L n 7 [.agg [nI a.al,.d (.ivs a.nx.length (aE a.nx)),.d (.ivs a.ac.length (aD a.ac))],nI e] []=match dJ a e with
  |some l=>some (.tup [.sl 0 0 0 l.length,.d (.bool true)],[.arr (aM l) 1 0])
  |none=>some (.tup [.d (.ivs 0 []),.d (.bool false)],[]):=by
 obtain⟨sa,wa,a1,a2,a3⟩:=aR hv;have hrl:=sa.1;have hP:=aLe hv he;have e1:dJ a e=tN (bX a) (midG (aB a.al) (e+1)) (sepW a):=if_pos ⟨hv,by omega,by omega⟩;rw[e1];have kc_c:=fun {R:Type} {n:Nat} {hq:H} {k:KA R} (hn:10<=n)=>aCn (h:=hq) (k:=k) rfl wB (aFe (L:=L) hn a hv hL);have kc_w:=fun {R:Type} {n:Nat} {hq:H} {k:KA R} (hn:10<=n)=>aCn (h:=hq) (k:=k) rfl nF (TH (L:=L) hn a hv hL);have kc_m:=@aHp L a.al (e+1) om hL;rw[cs1 e]at kc_m;have hcn:=hP.nc;have loop_c:=fun {R n k} hn=> @XU R L n hn hL _ _ _ hP k (bX a).length 0 L [] om om;have es:setS []=[]:=rfl;rw[es]at loop_c;have hr:=TC (f:=covF (midG (aB a.al) (e+1)) (sepW a)) (ws:=bX a) (bX a).length 0 [] om;rw[Ba]at hr;have hs:=aP0 (cov:=bX a) (mids:=midG (aB a.al) (e+1)) (ends:=sepW a);rw[hr]at hs;rw[aPE]at hr;obtain⟨f1,f2⟩:=aSE hv he;have he0:(0:Int)<=e:=om;have hx0:¬(e:Int)<0:=om;have hx1:¬2<(e:Int):=om;have hve:cA a.al a.nx a.ac=true:=hv;simp only[Ap]at loop_c;rw[<-hs];have hac:a.ac.length<=4294967296:=om;clear hs e1 hP wa;generalize cZ [] (covL (bX a) (midG (aB a.al) (e+1)) (sepW a))=S at *;generalize bX a=cov at *;generalize midG (aB a.al) (e+1)=mids at *;generalize sepW a=ends at *;generalize run3 (covF mids ends) cov cov.length 0 []=z at *
 cases hb:z.1 with
 |false=>
  rw[hb]at loop_c;simp only[Dh,Al,if_false]at loop_c|-;obtain _|n:=n;omega
  simp-implicitDefEqProofs (maxSteps:=9^7) (disch:=try exact Dz) only[↓DN,↓kAsg,↓kRet,UP,simprocAttr,↓a8,hve,hx0,hx1,↓kc_c,↓kc_w,↓kc_m,↓loop_c,oX,mI,Tryz.f7]
 |true=>
  rw[hb]at loop_c hr;simp only[if_true]at loop_c hr|-
  have hS:S=z.2.2/\S.length<=3000:=by
   split at hr
   ·cases hr
   ·injection hr with hr;exact⟨hr,by omega⟩
  obtain⟨rfl,hS2⟩:=hS;have kc_q:=fun {R:Type} {n:Nat} {x y:O} {k:KA R} (hn:1<=n)=> @aRq R L n z.2.2 x y k hn f1 om f2;have hml:(z.2.2.mergeSort leX).length=z.2.2.length:=List.length_mergeSort _;rw[<-hml]at kc_q;simp only[Bb];clear hr f1 f2;generalize z.2.2.mergeSort leX=l at *;have e4:(aM l).take l.length=aM l:=iE (Ab _);obtain _|n:=n;omega
  simp-implicitDefEqProofs (maxSteps:=9^7) (disch:=try exact Dz) only[↓DN,↓kAsg,↓kRet,UP,simprocAttr,↓a8,hve,hx0,hx1,↓kc_c,↓kc_w,↓kc_m,↓aVy,↓kc_q,↓loop_c,oX,mI,Tryz.f7]
theorem aIh(hn:15<=n)(a:Aut)(x:Int)(hs:aW a.nx)(hac:a.ac.length<=4294967296)(hv:¬(cA a.al a.nx a.ac=true/\0<=x/\x<=2))(hL:2^60<=L):aA env L n 7 [.agg [nI a.al,.d (.ivs a.nx.length (aE a.nx)),.d (.ivs a.ac.length (aD a.ac))],nI x] []=some (.tup [.d (.ivs 0 []),.d (.bool false)],[]):=by
 have hrl:=hs.1
 cases hve:cA a.al a.nx a.ac with
 |false=>
  obtain _|n:=n;omega
  simp-implicitDefEqProofs (maxSteps:=9^7) (disch:=try exact Dz) only[↓DN,↓kAsg,↓kRet,UP,simprocAttr,↓a8,hve,oX,mI,Tryz.f7]
 |true=>
  by_cases hx0:x<0
  ·obtain _|n:=n;omega
   simp-implicitDefEqProofs (maxSteps:=9^7) (disch:=try exact Dz) only[↓DN,↓kAsg,↓kRet,UP,simprocAttr,↓a8,hve,hx0,oX,mI,Tryz.f7]
  ·have hx1:2<x:=by
    apply Dv;intro h;exact hv ⟨hve,by omega,by omega⟩
   obtain _|n:=n;omega
   simp-implicitDefEqProofs (maxSteps:=9^7) (disch:=try exact Dz) only[↓DN,↓kAsg,↓kRet,UP,simprocAttr,↓a8,hve,hx0,hx1,oX,mI,Tryz.f7]
theorem RZ(hn:15<=n)(a:Aut)(x:Int)(hs:aW a.nx)(hac:a.ac.length<=4294967296)(hL:2^60<=L):aA env L n 7 [.agg [nI a.al,.d (.ivs a.nx.length (aE a.nx)),.d (.ivs a.ac.length (aD a.ac))],nI x] []=match dJ a x with
  |some l=>some (.tup [.sl 0 0 0 l.length,.d (.bool true)],[.arr (aM l) 1 0])
  |none=>some (.tup [.d (.ivs 0 []),.d (.bool false)],[]):=by
 by_cases hv:cA a.al a.nx a.ac=true/\0<=x/\x<=2
 ·obtain⟨e,rfl⟩:∃e:Nat,x=e:=⟨x.toNat,by omega⟩
  exact aFL hn a hv.1 e om hL
 ·rw[aIh hn a x hs hac hv hL,show dJ a x=none from if_neg hv]
end
theorem aGY{a:Aut}{x:Int}{l:List Str}(h:dJ a x=some l)(w:Str):w∈l↔∃c∈bX a,∃m∈midG (aB a.al) (x.toNat+1),∃e∈sepW a,w=c++m++e:=by
 unfold dJ at h
 split at h
 ·exact aR8 h w
 ·cases h
theorem FC{a:Aut}{x:Int}{l:List Str}(h:dJ a x=some l):AOK a/\0<=x/\x<=2/\pY l/\l.length<=3000:=by
 unfold dJ at h
 split at h
 ·rename_i hc
  exact⟨hc.1,hc.2.1,hc.2.2,aUC h⟩
 ·cases h
theorem RR{ls:List Int}:∀k,[]∈midG ls k
 |0=>by simp[midG]
 |k+1=>Ak.2 (.inl (RR k))
theorem aWj{a:Aut}(h:AOK a):[]∈bX a:=by
 have:=aUU h;rw[<-this.first];exact d5 this.pos
theorem X4{a:Aut}{i:Int}:∀(q j:Nat) (o:List Str) (w:Str),w∈o->w∈sepJ a i q j o
 |0,_,_,_,h=>h
 |q+1,j,o,w,h=>by
  unfold sepJ
  split
  ·exact X4 q (j+1) _ w (Ak.2 (.inl h))
  ·exact X4 q (j+1) o w h
theorem aJT{a:Aut}:∀(q i:Nat) (o:List Str) (w:Str),w∈o->w∈sepA a q i o
 |0,_,_,_,h=>h
 |q+1,i,o,w,h=>by unfold sepA;exact aJT q (i+1) _ w (X4 _ _ o w h)
theorem aPm(a:Aut):[]∈sepW a:=aJT _ _ _ _ (Bf.2 rfl)
theorem aC9{a:Aut}{x:Int}{l:List Str}(h:dJ a x=some l){w:Str}(hw:w∈l):(w.length:Int)<=2*a.nx.length+x/\dQ a.al w=true/\dR w=true:=by
 obtain⟨hv,h0,h2,_,_⟩:=FC h;obtain⟨_,_,a1,a2,_⟩:=aR hv;obtain⟨c,hc,m,hm,e,he,rfl⟩:=(aGY h w).1 hw;have:=aNj hv hc hm he;have h3:=this.1;exact⟨by omega,this.ok (fK hv).2.2.2 om⟩
theorem aCi{R:Type}{E:Env}{call:aZ}{h:H}{f:FuncId}{args:List A}{l:List Str}{b:Bool}{k:KA R}(hs:args.all sN=true)(hm:(E.hint f).mode=3)(hc:call f args []=some (.tup [.sl 0 0 0 l.length,.d (.bool b)],[.arr (aM l) 1 0])):
  aX E call h f args k=k (.tup [.sl h.length 0 0 l.length,.d (.bool b)]) (h++[.arr (aM l) 1 0]):=by
 rw[U9 hs hm hc (by simp only[lW,j6,wN,Bx,Cd,aGk,Bq])];simp[mapA,aG,back,mapO]
theorem VN{R:Type}{E:Env}{call:aZ}{h:H}{f:FuncId}{args:List A}{b:Bool}{k:KA R}(hs:args.all sN=true)(hm:(E.hint f).mode=3)(hc:call f args []=some (.tup [.d (.ivs 0 []),.d (.bool b)],[])):
  aX E call h f args k=k (.tup [.d (.ivs 0 []),.d (.bool b)]) h:=by
 rw[U9 hs hm hc rfl];simp[mapA,aG]
theorem aPg{al q:Int}{rs:List (List Int)}{w:List UInt8}{i:Nat}(h:i<w.length):stGo al rs (w.drop i) q=stGo al rs (w.drop (i+1)) (goI al rs q (ltr (w.getD i 0))):=by
 rw[cC h (d:=0)];rfl
theorem aBE{R:Type}{L n:Nat}(hn:1<=n){al:Int}{rs:List (List Int)}{ac:List Bool}{w:List UInt8}(hok:cA al rs ac=true)(hw:dQ al w=true){k:KE R}:∀(i q:Int) (m:Nat) (h0:0<=i) (hi:i<=w.length) (hm:(w.length:Int)-i<m) (hq0:0<=q) (hq1:q<rs.length),
  aT env (aA env L n) L 0 [] Bz37 (A6 0) (U1 (Z1 (U2 (Z2 (Z1 (U8 (U4 (U2 (Z2 (U8 (U4 ([])))))))))))) m (Y1 (.d (.str w)::Y2 (nI 0::.d (.ivs rs.length (ints (iI al rs)))::nI q::Y8 (Y4 (Y2 (nI (w.length)::nI i::Y8 (Y4 ([])))))))) [] k
  =k (.exit 0) (Y1 (.d (.str w)::Y2 (nI 0::.d (.ivs rs.length (ints (iI al rs)))::nI (stGo al rs (w.drop i.toNat) q)::Y8 (Y4 (Y2 (nI (w.length)::nI (w.length)::Y8 (Y4 ([])))))))) []:=by
 intro i q m h0 hi hm hq0 hq1;have htl:=hU al rs;have hlen:=fK hok;obtain⟨hal,hwl,hin⟩:=mR hw;obtain⟨j,hj⟩:∃j:Nat,(j:Int)=(w.length:Int)-i:=⟨((w.length:Int)-i).toNat,by omega⟩
 induction j generalizing i q m with
 |zero=>
  obtain _|m:=m;omega;obtain rfl:i=w.length:=om
  simp-implicitDefEqProofs (maxSteps:=9^7) (disch:=try exact Dz) only[↓DN,↓kRet,UP,simprocAttr,Ah,B9,x4,Tryz.f67];simp only[Bu,stGo,List.foldl_nil]
 |succ j ih=>
  obtain _|m:=m;omega;have hc:i<w.length:=om;have hk:i.toNat<w.length:=om;have hb:w.getD i.toNat 0∈w:=by rw[Aa,Ad hk];exact At hk
  obtain⟨hb1,hb2⟩:=hin _ hb;have hl6:=UU.1 hb1;have hg:=aDx hok hq0 hq1 hl6.1 hl6.2;have e1:(i+1).toNat=i.toNat+1:=om;have ih':=ih (i+1) (goI al rs q (ltr (w.getD i.toNat 0))) m om om om hg.1 hg.2 om;have hb3:fA (ltr (w.getD i.toNat 0))=true:=hb1;have hl0:=hl6.1;have hl1:=hl6.2;have hcl:(ltr (w.getD i.toNat 0)).toNat<=(List.drop (q.toNat*6) (ints (iI al rs))).length:=by rw[Cg,dG,htl];omega
  rw[aPg hk,<-e1];clear ih hg hl6 hb hin hw hok
  simp-implicitDefEqProofs (maxSteps:=9^7) (disch:=try exact Dz) only[↓DN,↓kRet,UP,simprocAttr,↓G0,hc,hb3,QW,htl,↓ih',B9,x4,Tryz.f67]
theorem OB{L n:Nat}(hn:5<=n)(al:Int)(rs:List (List Int))(ac:List Bool)(w:List UInt8)(hs:aW rs)(ha:ac.length<=4294967296)(hwl:w.length<=4294967295)(hL:2^60<=L):aA env L n 67 [.agg [nI al,.d (.ivs rs.length (aE rs)),.d (.ivs ac.length (aD ac))],.d (.str w)] []=some (nI (qB al rs ac w),[]):=by
 have hl:=hs.1;unfold qB
 cases hv:cA al rs ac with
 |false=>
  obtain _|n:=n;omega
  simp-implicitDefEqProofs (maxSteps:=9^7) (disch:=try exact Dz) only[↓DN,↓kAsg,↓kRet,UP,simprocAttr,↓a8,hv,A4,vI,Tryz.f67]
 |true=>
  cases hw:dQ al w with
  |false=>
   obtain _|n:=n;omega
   simp-implicitDefEqProofs (maxSteps:=9^7) (disch:=try exact Dz) only[↓DN,↓kAsg,↓kRet,UP,simprocAttr,↓a8,↓O5,hv,hw,A4,vI,Tryz.f67]
  |true=>
   have hwd:=qE hv;have hlen:=fK hv;have loop_a:=fun {R:Type} {n:Nat} (hn:1<=n) {k:KE R}=>aBE (R:=R) (L:=L) (n:=n) hn (k:=k) hv hw 0 0 L om om om om om;simp only[Df,Ba]at loop_a;obtain _|n:=n;omega
   simp-implicitDefEqProofs (maxSteps:=9^7) (disch:=try exact Dz) only[↓DN,↓kAsg,↓kRet,UP,simprocAttr,↓a8,↓O5,↓BZ,hv,hw,↓loop_a,A4,vI,Tryz.f67]
theorem aFD:type_of% fun {L} al rs ac w hs ha hwl hL=>ks fun hn=> @OB L _ hn al rs ac w hs ha hwl hL:=fun {L} al rs ac w hs ha hwl hL=>ks fun hn=> @OB L _ hn al rs ac w hs ha hwl hL
section
variable{R:Type}{L n:Nat}
theorem aTY:∀(x a:Fin 64),(∀m:Fin 6,cN (x.val:Int) (m.val:Int)=true->cN (a.val:Int) (m.val:Int)=true)->iAnd .i64 (x.val:Int) (a.val:Int)=(x.val:Int):=by decide+kernel
theorem aVL{x a:Int}(hx:cP x=true)(ha:cP a=true)(h:∀m:Int,fA m=true->cN x m=true->cN a m=true):iAnd .i64 x a=x:=by
 unfold cP at hx ha;simp only[decide_eq_true_eq]at hx ha
 have:=aTY ⟨x.toNat,by omega⟩ ⟨a.toNat,by omega⟩ (fun m=>by
  simp only[Bl hx.1,Bl ha.1];exact h m.val (zL.2 (by have:=m.isLt;omega)))
 simpa only[Bl hx.1,Bl ha.1]using this
theorem aR7{al:Int}{w:List UInt8}(h:dQ al w=true):dR w=true:=by
 obtain⟨_,h2,h3⟩:=mR h;unfold dR;simp only[Ar,decide_eq_true_eq,Bk];exact⟨h2,fun b hb=>(h3 b hb).1⟩
theorem aQN{al:Int}{w:List UInt8}(h:dQ al w=true):cP (y8 w)=true/\iAnd .i64 (y8 w) al=y8 w:=by
 obtain⟨h1,h2,h3⟩:=mR h
 have hl:∀l∈w.map ltr,fA l=true:=by
  intro l hl;obtain⟨b,hb,rfl⟩:=Av.1 hl;exact(h3 b hb).1
 have hA:cP (y8 w)=true:=aOo hl;refine⟨hA,aVL hA h1 fun m hm hb=> ?_⟩;unfold y8 at hb;rw[aS6 hl hm,List.any_eq_true]at hb;obtain⟨l,hlm,hd⟩:=hb;simp only[decide_eq_true_eq]at hd;obtain⟨b,hb,rfl⟩:=Av.1 hlm;rw[hd];exact(h3 b hb).2
def accW(a:Aut)(w:List UInt8):Bool:=a.ac.getD (stGo a.al a.nx w 0).toNat false
theorem aMS{a:Aut}(ha:AOK a):∀(w:List UInt8) (q:Int),(∀b∈w,okB b=true)->0<=q->q<a.nx.length->0<=stGo a.al a.nx w q/\stGo a.al a.nx w q<a.nx.length
 | [],q,_,h0,h1=>⟨h0,h1⟩
 |b::w,q,hw,h0,h1=>by
  have hl:=UU.1 (hw b Bd);have hg:=aDx ha h0 h1 hl.1 hl.2;exact aMS ha w _ (fun x hx=>hw x (Az _ hx)) hg.1 hg.2
theorem aOJ{a:Aut}(ha:AOK a){w:List UInt8}(hw:dQ a.al w=true):0<=stGo a.al a.nx w 0/\stGo a.al a.nx w 0<a.ac.length:=by
 obtain⟨_,_,a1,_,a3⟩:=aR ha;obtain⟨_,_,h3⟩:=mR hw;have:=aMS ha w 0 (fun b hb=>(h3 b hb).1) om om;omega
theorem J0(hn:6<=n)(a:Aut)(w:List UInt8)(ha:AOK a)(hw:dQ a.al w=true)(hL:2^60<=L):aA env L n 34 [.agg [nI a.al,.d (.ivs a.nx.length (aE a.nx)),.d (.ivs a.ac.length (aD a.ac))],.d (.str w)] []=some (.d (.bool (accW a w)),[]):=by
 obtain⟨sa,wa,a1,a2,a3⟩:=aR ha;obtain⟨r0,r1⟩:=aOJ ha hw;obtain⟨_,hwl,_⟩:=mR hw;have kc_s:=@aFD L a.al a.nx a.ac w sa om om hL
 have e:qB a.al a.nx a.ac w=stGo a.al a.nx w 0:=by
  unfold qB;rw[show cA a.al a.nx a.ac=true from ha,hw];rfl
 rw[e]at kc_s;unfold accW;clear wa ha hw e;generalize stGo a.al a.nx w 0=q at *;obtain _|n:=n;omega
 simp-implicitDefEqProofs (maxSteps:=9^7) (disch:=try exact Dz) only[↓DN,↓kAsg,↓kRet,UP,simprocAttr,LA,r0,r1,↓kc_s,aEg,NJ,Tryz.f34]
theorem LE:type_of% fun {L} a w ha hw hL=>ks fun hn=> @J0 L _ hn a w ha hw hL:=fun {L} a w ha hw hL=>ks fun hn=> @J0 L _ hn a w ha hw hL
theorem aBN(hn:2<=n){s:List UInt8}(hs:s.length<=50000)(ha:s.all okB=true){k:KE R}:∀(i o:Int) (m:Nat) (h0:0<=i) (hi:i<=s.length) (hm:(s.length:Int)-i<m),
  aT env (aA env L n) L 0 [] (U1 (Z1 (U4 (Z16 ([]))))) (BG 0) (Z1 (U1 (Z4 (U16 ([]))))) m (.d (.str s)::Y1 (nI 0::.d (.bool false)::nI o::nI i::Y16 ([]))) [] k
  =k (.exit 0) (.d (.str s)::Y1 (nI 0::.d (.bool false)::nI ((s.drop i.toNat).foldl (fun o b=>iOr .i64 o (bitI (ltr b))) o)::nI (s.length)::Y16 ([]))) []:=by
 intro i o m h0 hi hm;obtain⟨j,hj⟩:∃j:Nat,(j:Int)=(s.length:Int)-i:=⟨((s.length:Int)-i).toNat,by omega⟩
 induction j generalizing i m o with
 |zero=>
  obtain _|m:=m;omega;obtain rfl:i=s.length:=om
  simp-implicitDefEqProofs (maxSteps:=9^7) (disch:=try exact Dz) only[↓DN,↓kRet,UP,simprocAttr,Ah,CI,yO,Tryz.f143];simp only[Bu,List.foldl_nil]
 |succ j ih=>
  obtain _|m:=m;omega;have hc:i<s.length:=om;have hk:i.toNat<s.length:=om;have e1:(i+1).toNat=i.toNat+1:=om;have hb:=aW9 (d:=0) ha hk;have hsl:=zL.1 hb;have hsl0:=hsl.1;have hsl1:ltr (s.getD i.toNat 0)<=9223372036854775807:=om;rw[aUi hk (d:=0),<-e1];have ih':=ih (i+1) (iOr .i64 o (bitI (ltr (s.getD i.toNat 0)))) m om om om om;clear ih hsl
  simp-implicitDefEqProofs (maxSteps:=9^7) (disch:=try exact Dz) only[↓DN,↓kRet,UP,simprocAttr,↓FL,↓aPO,hc,↓ih',CI,yO,Tryz.f143]
theorem N0(hn:4<=n)(s:List UInt8)(hw:dR s=true)(hL:2^60<=L):aA env L n 143 [.d (.str s)] []=some (.tup [nI (y8 s),.d (.bool true)],[]):=by
 have hw':=hw;unfold dR at hw';simp only[Ar,decide_eq_true_eq]at hw';obtain⟨hw1,hw2⟩:=hw'
 have e:s.foldl (fun o b=>iOr .i64 o (bitI (ltr b))) 0=y8 s:=by
  unfold y8 aK1;rw[List.foldl_map]
 have loop_a:=fun {R n k} hn=> @aBN R L n hn s hw1 hw2 k 0 0 L om om om;simp only[Df,Ba,e]at loop_a;obtain _|n:=n;omega
 simp-implicitDefEqProofs (maxSteps:=9^7) (disch:=try exact Dz) only[↓DN,↓kAsg,↓kRet,UP,simprocAttr,↓u9,hw,↓loop_a,aE7,RG,Tryz.f143]
theorem aHa:type_of% fun {L} s hw hL=>ks fun hn=> @N0 L _ hn s hw hL:=fun {L} s hw hL=>ks fun hn=> @N0 L _ hn s hw hL
theorem NG(hn:5<=n)(s:List UInt8)(al:Int)(hw:dQ al s=true)(hL:2^60<=L):aA env L n 120 [.d (.str s),nI al] []=some (.d (.bool true),[]):=by
 have h1:=aR7 hw;obtain⟨h2,h3⟩:=aQN hw;have h4:=(mR hw).1;obtain _|n:=n;omega
 simp-implicitDefEqProofs (maxSteps:=9^7) (disch:=try exact Dz) only[↓DN,↓kAsg,↓kRet,UP,simprocAttr,↓aHa,↓hY,h3,h4,aF4,R3,Tryz.f120]
theorem aG6:type_of% fun {L} s al hw hL=>ks fun hn=> @NG L _ hn s al hw hL:=fun {L} s al hw hL=>ks fun hn=> @NG L _ hn s al hw hL
theorem aLX(hn:4<=n)(hL:2^60<=L){a:Aut}{w:List UInt8}(ha:AOK a)(hw:dQ a.al w=true){k:KE R}:∀(i q:Int) (m:Nat) (h0:0<=i) (hi:i<=w.length) (hm:(w.length:Int)-i<m) (hq0:0<=q) (hq1:q<a.nx.length),
  aT env (aA env L n) L 0 [] Bz53 (TU 0) (U1 (Z2 (Z1 (U2 (Z2 (U8 (U4 (U1 ([]))))))))) m (Y1 (nI q::.d (.str w)::.ptr 0 0 0::Y2 (nI 0::nI i::Y8 (Y4 (Y1 ([])))))) [.box [nI a.al,.d (.ivs a.nx.length (aE a.nx)),.d (.ivs a.ac.length (aD a.ac))]] k
  =k (.exit 0) (Y1 (nI (stGo a.al a.nx (w.drop i.toNat) q)::.d (.str w)::.ptr 0 0 0::Y2 (nI 0::nI (w.length)::Y8 (Y4 (Y1 ([])))))) [.box [nI a.al,.d (.ivs a.nx.length (aE a.nx)),.d (.ivs a.ac.length (aD a.ac))]]:=by
 intro i q m h0 hi hm hq0 hq1;obtain⟨sa,wa,a1,a2,a3⟩:=aR ha;obtain⟨hal,hwl,hin⟩:=mR hw;obtain⟨j,hj⟩:∃j:Nat,(j:Int)=(w.length:Int)-i:=⟨((w.length:Int)-i).toNat,by omega⟩
 induction j generalizing i q m with
 |zero=>
  obtain _|m:=m;omega;obtain rfl:i=w.length:=om
  simp-implicitDefEqProofs (maxSteps:=9^7) (disch:=try exact Dz) only[↓DN,↓kRet,UP,simprocAttr,Ah,SA,QF,Tryz.f121];simp only[Bu,stGo,List.foldl_nil]
 |succ j ih=>
  obtain _|m:=m;omega;have hc:i<w.length:=om;have hk:i.toNat<w.length:=om;have hb:w.getD i.toNat 0∈w:=by rw[Aa,Ad hk];exact At hk
  have hl6:=UU.1 (hin _ hb).1;have hg:=aDx ha hq0 hq1 hl6.1 hl6.2;have e1:(i+1).toNat=i.toNat+1:=om;have ih':=ih (i+1) (goI a.al a.nx q (ltr (w.getD i.toNat 0))) m om om om hg.1 hg.2 om;have kc_g:=@aIA L a.al q (ltr (w.getD i.toNat 0)) a.nx a.ac.length (aD a.ac) sa (qE ha) hq0 hq1 hl6.1 hl6.2 hL;rw[aPg hk,<-e1];clear ih hg hl6 hb hin
  simp-implicitDefEqProofs (maxSteps:=9^7) (disch:=try exact Dz) only[↓DN,↓kRet,UP,simprocAttr,↓FL,hc,↓kc_g,Bj,↓ih',SA,QF,Tryz.f121]
theorem aF7(hn:5<=n)(a:Aut)(w:List UInt8)(ha:AOK a)(hw:dQ a.al w=true)(hL:2^60<=L):aA env L n 121 [.agg [nI a.al,.d (.ivs a.nx.length (aE a.nx)),.d (.ivs a.ac.length (aD a.ac))],nI 0,.d (.str w)] []=some (nI (stGo a.al a.nx w 0),[]):=by
 obtain⟨_,_,a1,_,_⟩:=aR ha;obtain⟨_,hwl,_⟩:=mR hw;have loop_a:=fun {R n k} hn=> @aLX R L n hn hL a w ha hw k 0 0 L om om om om om;simp only[Df,Ba]at loop_a;obtain _|n:=n;omega
 simp-implicitDefEqProofs (maxSteps:=9^7) (disch:=try exact Dz) only[↓DN,↓kAsg,↓kRet,UP,simprocAttr,↓loop_a,aQM,aIW,Tryz.f121]
theorem aQ8:type_of% fun {L} a w ha hw hL=>ks fun hn=> @aF7 L _ hn a w ha hw hL:=fun {L} a w ha hw hL=>ks fun hn=> @aF7 L _ hn a w ha hw hL
theorem KH(hn:9<=n)(a:Aut)(w:List UInt8)(ha:AOK a)(hw:dQ a.al w=true)(hL:2^60<=L):aA env L n 52 [.agg [nI a.al,.d (.ivs a.nx.length (aE a.nx)),.d (.ivs a.ac.length (aD a.ac))],.d (.str w)] []=some (.d (.bool (accW a w)),[]):=by
 obtain⟨sa,wa,a1,a2,a3⟩:=aR ha;obtain⟨r0,r1⟩:=aOJ ha hw;have hrl:=sa.1;have hac:a.ac.length<=4294967296:=om
 have ev:∀ {n:Nat},8<=n->aA env L n 87 [.agg [nI a.al,.d (.ivs a.nx.length (aE a.nx)),.d (.ivs a.ac.length (aD a.ac))],.d (.str w)] []=some (nI (stGo a.al a.nx w 0),[]):=by
  intro n hn;have hve:cA a.al a.nx a.ac=true:=ha;have kc_r:=@aQ8 L a w ha hw hL;have kc_w:=@aG6 L w a.al hw hL;clear r0 r1;obtain _|n:=n;omega
  simp-implicitDefEqProofs (maxSteps:=9^7) (disch:=try exact Dz) only[↓DN,↓kAsg,↓kRet,UP,simprocAttr,↓bB,hve,↓kc_r,↓kc_w,aFC,Q6,Tryz.f87]
 have kc_s:=fun {R:Type} {n:Nat} {hq:H} {k:KA R} (hn:8<=n)=>bS (E:=env) (call:=aA env L n) (h:=hq) (k:=k) (f:=87) rfl (ev hn) rfl (.inl rfl);unfold accW;clear wa ha hw ev;generalize stGo a.al a.nx w 0=q at *;obtain _|n:=n;omega
 simp-implicitDefEqProofs (maxSteps:=9^7) (disch:=try exact Dz) only[↓DN,↓kAsg,↓kRet,UP,simprocAttr,LA,r0,r1,↓kc_s,aDM,O8,Tryz.f52]
theorem LY:type_of% fun {L} a w ha hw hL=>ks fun hn=> @KH L _ hn a w ha hw hL:=fun {L} a w ha hw hL=>ks fun hn=> @KH L _ hn a w ha hw hL
end
section
variable{R:Type}{L n:Nat}
def jS(a b:Aut):Bool:=cA a.al a.nx a.ac&&cA b.al b.nx b.ac&&decide (a.al=b.al)
theorem m6{a b:Aut}:jS a b=true↔AOK a/\AOK b/\a.al=b.al:=by
 unfold jS AOK;simp only[Ar,decide_eq_true_eq,and_assoc]
def pB(a b:Aut)(l:List Str)(i:Nat):Bool:=!(accW a (l.getD i [])==accW b (l.getD i []))
def aFY(a b:Aut)(l:List Str):Str×Bool:=match seek (pB a b l) l.length 0 with
 |none=>([],false)
 |some q=>(l.getD q [],true)
def qQ(a b:Aut)(x:Int):Str×Bool:=match dJ a x with
 |none=>([],false)
 |some l=>if jS a b=true then aFY a b l else([],false)
theorem K6(hn:6<=n)(a b:Aut)(sa:aW a.nx)(sb:aW b.nx)(ha:a.ac.length<=4294967296)(hb:b.ac.length<=4294967296)(hL:2^60<=L):aA env L n 14 [.agg [nI a.al,.d (.ivs a.nx.length (aE a.nx)),.d (.ivs a.ac.length (aD a.ac))],.agg [nI b.al,.d (.ivs b.nx.length (aE b.nx)),.d (.ivs b.ac.length (aD b.ac))]] []=some (.d (.bool (jS a b)),[]):=by
 have hra:=sa.1;have hrb:=sb.1;unfold jS
 cases h1:cA a.al a.nx a.ac with
 |false=>
  obtain _|n:=n;omega
  simp-implicitDefEqProofs (maxSteps:=9^7) (disch:=try exact Dz) only[↓DN,↓kAsg,↓kRet,UP,simprocAttr,↓a8,h1,yD,sX,Tryz.f14]
 |true=>
  cases h2:cA b.al b.nx b.ac with
  |false=>
   obtain _|n:=n;omega
   simp-implicitDefEqProofs (maxSteps:=9^7) (disch:=try exact Dz) only[↓DN,↓kAsg,↓kRet,UP,simprocAttr,↓a8,h1,h2,yD,sX,Tryz.f14]
  |true=>
   obtain _|n:=n;omega
   simp-implicitDefEqProofs (maxSteps:=9^7) (disch:=try exact Dz) only[↓DN,↓kAsg,↓kRet,UP,simprocAttr,↓a8,h1,h2,yD,sX,Tryz.f14]
theorem pV:type_of% fun {L} a b sa sb ha hb hL=>ks fun hn=> @K6 L _ hn a b sa sb ha hb hL:=fun {L} a b sa sb ha hb hL=>ks fun hn=> @K6 L _ hn a b sa sb ha hb hL
theorem XC(hn:7<=n)(hL:2^60<=L){a b:Aut}{l:List Str}(hl:l.length<=3000)(ha:AOK a)(hb:AOK b)(hal:a.al=b.al)(hok:∀w∈l,dQ a.al w=true){k:KE R}:∀(j i m:Nat) (hi:i+j=l.length) (hm:j<m),
  aT env (aA env L n) L 0 [] Bz34 (wH 0) (U2 (U1 (Z2 (U1 (Z2 (U16 (U2 (Z2 (Z1 (U8 (U4 ([])))))))))))) m (Y2 (Y1 (.ptr 0 0 0::.ptr 1 0 0::Y1 (.d (.str ([]))::.d (.bool false)::Y16 (Y2 (.sl 2 0 0 l.length::nI (l.length)::nI i::Y8 (Y4 ([])))))))) [.box [nI a.al,.d (.ivs a.nx.length (aE a.nx)),.d (.ivs a.ac.length (aD a.ac))],.box [nI b.al,.d (.ivs b.nx.length (aE b.nx)),.d (.ivs b.ac.length (aD b.ac))],.arr (aM l) 1 0] k
  =match seek (pB a b l) j i with
   |none=>k (.exit 0) (Y2 (Y1 (.ptr 0 0 0::.ptr 1 0 0::Y1 (.d (.str ([]))::.d (.bool false)::Y16 (Y2 (.sl 2 0 0 l.length::nI (l.length)::nI (l.length)::Y8 (Y4 ([])))))))) [.box [nI a.al,.d (.ivs a.nx.length (aE a.nx)),.d (.ivs a.ac.length (aD a.ac))],.box [nI b.al,.d (.ivs b.nx.length (aE b.nx)),.d (.ivs b.ac.length (aD b.ac))],.arr (aM l) 1 0]
   |some q=>k .ret (Y2 (Y1 (.ptr 0 0 0::.ptr 1 0 0::Y1 (.d (.str ((l.getD q [])))::.d (.bool true)::Y16 (Y2 (.sl 2 0 0 l.length::nI (l.length)::nI q::Y8 (Y4 ([])))))))) [.box [nI a.al,.d (.ivs a.nx.length (aE a.nx)),.d (.ivs a.ac.length (aD a.ac))],.box [nI b.al,.d (.ivs b.nx.length (aE b.nx)),.d (.ivs b.ac.length (aD b.ac))],.arr (aM l) 1 0]:=by
 intro j
 induction j with
 |zero=>
  intro i m hi hm;obtain _|m:=m;omega;obtain rfl:i=l.length:=om
  simp-implicitDefEqProofs (maxSteps:=9^7) (disch:=try exact Dz) only[↓DN,↓kRet,UP,simprocAttr,Ah,pF,mN,Tryz.f13]<;>rfl
 |succ j ih=>
  intro i m hi hm;obtain _|m:=m;omega;have hc:(i:Int)<l.length:=om;have hi0:(0:Int)<=i:=om;have hw:=hok _ (d5 (show i<l.length by omega));have kc_a:=@LE L a (l.getD i []) ha hw hL;have kc_b:=@LE L b (l.getD i []) hb (by rw[<-hal];exact hw) hL;have hwr:pB a b l i= !(accW a (l.getD i [])==accW b (l.getD i [])):=rfl
  by_cases hz:(accW a (l.getD i [])==accW b (l.getD i []))=true
  ·rw[hz]at hwr;rw[jK hwr];have ih':=ih (i+1) m om om;rw[cs1 i]at ih';clear ih hok hw hwr ha hb;generalize accW a (l.getD i [])=x at *;generalize accW b (l.getD i [])=y at *;generalize hwi:l.getD i []=w at *
   simp-implicitDefEqProofs (maxSteps:=9^7) (disch:=try exact Dz) only[↓DN,↓kRet,UP,simprocAttr,SE,hc,hi0,hwi,hz,↓kc_a,↓kc_b,Bj,↓ih',pF,mN,Tryz.f13]
  ·rw[Bool.not_eq_true]at hz;rw[hz]at hwr;rw[fX hwr];clear ih hok hw hwr ha hb;generalize accW a (l.getD i [])=x at *;generalize accW b (l.getD i [])=y at *;generalize hwi:l.getD i []=w at *
   simp-implicitDefEqProofs (maxSteps:=9^7) (disch:=try exact Dz) only[↓DN,↓kAsg,↓kRet,UP,simprocAttr,SE,hc,hi0,hwi,hz,↓kc_a,↓kc_b,Bj,pF,mN,Tryz.f13]
theorem HZ(hn:16<=n)(a b:Aut)(x:Int)(sa:aW a.nx)(sb:aW b.nx)(ha:a.ac.length<=4294967296)(hb:b.ac.length<=4294967296)(hL:2^60<=L):aA env L n 13 [.agg [nI a.al,.d (.ivs a.nx.length (aE a.nx)),.d (.ivs a.ac.length (aD a.ac))],.agg [nI b.al,.d (.ivs b.nx.length (aE b.nx)),.d (.ivs b.ac.length (aD b.ac))],nI x] []=some (.tup [.d (.str (qQ a b x).1),.d (.bool (qQ a b x).2)],[]):=by
 have hra:=sa.1;have hrb:=sb.1;have hI:=fun {n:Nat} (hn:15<=n)=>RZ (L:=L) hn a x sa ha hL;unfold qQ
 cases hG:dJ a x with
 |none=>
  rw[hG]at hI;have kc_1:=fun {R:Type} {n:Nat} {hq:H} {k:KA R} (hn:15<=n)=>VN (h:=hq) (k:=k) rfl jF (hI hn);clear hI;obtain _|n:=n;omega
  simp-implicitDefEqProofs (maxSteps:=9^7) (disch:=try exact Dz) only[↓DN,↓kAsg,↓kRet,UP,simprocAttr,↓kc_1,nV,lU,Tryz.f13]
 |some l=>
  rw[hG]at hI;have kc_1:=fun {R:Type} {n:Nat} {hq:H} {k:KA R} (hn:15<=n)=>aCi (h:=hq) (k:=k) rfl jF (hI hn);have kc_c:=@pV L a b sa sb ha hb hL;obtain⟨hv,y0,_,_,hl⟩:=FC hG;clear hI
  cases hcm:jS a b with
  |false=>
   rw[hcm]at kc_c;simp only[Al,if_false];obtain _|n:=n;omega
   simp-implicitDefEqProofs (maxSteps:=9^7) (disch:=try exact Dz) only[↓DN,↓kAsg,↓kRet,UP,simprocAttr,↓kc_1,↓kc_c,nV,lU,Tryz.f13]
  |true=>
   rw[hcm]at kc_c;obtain⟨va,vb,hal⟩:=m6.1 hcm;have loop_a:=fun {R n k} hn=> @XC R L n hn hL a b l hl va vb hal (fun w hw=>(aC9 hG hw).2.1) k l.length 0 L om om;simp only[Ap]at loop_a;simp only[if_true];unfold aFY;clear hv va vb hG
   cases hs:seek (pB a b l) l.length 0 with
   |none=>
    simp only[hs]at loop_a;obtain _|n:=n;omega
    simp-implicitDefEqProofs (maxSteps:=9^7) (disch:=try exact Dz) only[↓DN,↓kAsg,↓kRet,UP,simprocAttr,↓kc_1,↓kc_c,↓loop_a,nV,lU,Tryz.f13]
   |some q=>
    simp only[hs]at loop_a;obtain _|n:=n;omega
    simp-implicitDefEqProofs (maxSteps:=9^7) (disch:=try exact Dz) only[↓DN,↓kAsg,↓kRet,UP,simprocAttr,↓kc_1,↓kc_c,↓loop_a,nV,lU,Tryz.f13]
theorem aBM:type_of% fun {L} a b x sa sb ha hb hL=>ks fun hn=> @HZ L _ hn a b x sa sb ha hb hL:=fun {L} a b x sa sb ha hb hL=>ks fun hn=> @HZ L _ hn a b x sa sb ha hb hL
theorem aGu(hn:6<=n)(a b:Aut)(sa:aW a.nx)(sb:aW b.nx)(ha:a.ac.length<=4294967296)(hb:b.ac.length<=4294967296)(hL:2^60<=L):aA env L n 24 [.agg [nI a.al,.d (.ivs a.nx.length (aE a.nx)),.d (.ivs a.ac.length (aD a.ac))],.agg [nI b.al,.d (.ivs b.nx.length (aE b.nx)),.d (.ivs b.ac.length (aD b.ac))]] []=some (.d (.bool (jS a b)),[]):=by
 have hra:=sa.1;have hrb:=sb.1;unfold jS
 cases h1:cA a.al a.nx a.ac with
 |false=>
  obtain _|n:=n;omega
  simp-implicitDefEqProofs (maxSteps:=9^7) (disch:=try exact Dz) only[↓DN,↓kAsg,↓kRet,UP,simprocAttr,↓bB,h1,UM,PA,Tryz.f24]
 |true=>
  cases h2:cA b.al b.nx b.ac with
  |false=>
   obtain _|n:=n;omega
   simp-implicitDefEqProofs (maxSteps:=9^7) (disch:=try exact Dz) only[↓DN,↓kAsg,↓kRet,UP,simprocAttr,↓bB,h1,h2,UM,PA,Tryz.f24]
  |true=>
   obtain _|n:=n;omega
   simp-implicitDefEqProofs (maxSteps:=9^7) (disch:=try exact Dz) only[↓DN,↓kAsg,↓kRet,UP,simprocAttr,↓bB,h1,h2,UM,PA,Tryz.f24]
theorem aFy:type_of% fun {L} a b sa sb ha hb hL=>ks fun hn=> @aGu L _ hn a b sa sb ha hb hL:=fun {L} a b sa sb ha hb hL=>ks fun hn=> @aGu L _ hn a b sa sb ha hb hL
theorem XK(hn:9<=n)(hL:2^60<=L){a b:Aut}{l:List Str}(hl:l.length<=3000)(ha:AOK a)(hb:AOK b)(hal:a.al=b.al)(hok:∀w∈l,dQ a.al w=true){k:KE R}:∀(j i m:Nat) (hi:i+j=l.length) (hm:j<m),
  aT env (aA env L n) L 0 [] Bz35 (wF 0) (U2 (U1 (Z2 (U1 (Z2 (Z1 (U1 (Z1 (U32 (U4 (U1 ([])))))))))))) m (Y2 (Y1 (.ptr 0 0 0::.ptr 1 0 0::Y1 (.d (.str ([]))::.d (.bool false)::.d (.ivs l.length (aM l))::Y1 (nI i::Y32 (Y4 (Y1 ([])))))))) [.box [nI a.al,.d (.ivs a.nx.length (aE a.nx)),.d (.ivs a.ac.length (aD a.ac))],.box [nI b.al,.d (.ivs b.nx.length (aE b.nx)),.d (.ivs b.ac.length (aD b.ac))]] k
  =match seek (pB a b l) j i with
   |none=>k (.exit 0) (Y2 (Y1 (.ptr 0 0 0::.ptr 1 0 0::Y1 (.d (.str ([]))::.d (.bool false)::.d (.ivs l.length (aM l))::Y1 (nI (l.length)::Y32 (Y4 (Y1 ([])))))))) [.box [nI a.al,.d (.ivs a.nx.length (aE a.nx)),.d (.ivs a.ac.length (aD a.ac))],.box [nI b.al,.d (.ivs b.nx.length (aE b.nx)),.d (.ivs b.ac.length (aD b.ac))]]
   |some q=>k .ret (Y2 (Y1 (.ptr 0 0 0::.ptr 1 0 0::Y1 (.d (.str ((l.getD q [])))::.d (.bool true)::.d (.ivs l.length (aM l))::Y1 (nI q::Y32 (Y4 (Y1 ([])))))))) [.box [nI a.al,.d (.ivs a.nx.length (aE a.nx)),.d (.ivs a.ac.length (aD a.ac))],.box [nI b.al,.d (.ivs b.nx.length (aE b.nx)),.d (.ivs b.ac.length (aD b.ac))]]:=by
 intro j
 induction j with
 |zero=>
  intro i m hi hm;obtain _|m:=m;omega;obtain rfl:i=l.length:=om
  simp-implicitDefEqProofs (maxSteps:=9^7) (disch:=try exact Dz) only[↓DN,↓kRet,UP,simprocAttr,Ah,o8,mL,Tryz.f23]<;>rfl
 |succ j ih=>
  intro i m hi hm;obtain _|m:=m;omega;have hc:(i:Int)<l.length:=om;have hi0:(0:Int)<=i:=om;have hw:=hok _ (d5 (show i<l.length by omega));have kc_a:=@LY L a (l.getD i []) ha hw hL;have kc_b:=@LY L b (l.getD i []) hb (by rw[<-hal];exact hw) hL;have hwr:pB a b l i= !(accW a (l.getD i [])==accW b (l.getD i [])):=rfl
  by_cases hz:(accW a (l.getD i [])==accW b (l.getD i []))=true
  ·rw[hz]at hwr;rw[jK hwr];have ih':=ih (i+1) m om om;rw[cs1 i]at ih';clear ih hok hw hwr ha hb;generalize accW a (l.getD i [])=x at *;generalize accW b (l.getD i [])=y at *;generalize hwi:l.getD i []=w at *
   simp-implicitDefEqProofs (maxSteps:=9^7) (disch:=try exact Dz) only[↓DN,↓kRet,UP,simprocAttr,SE,hc,hi0,hwi,hz,↓kc_a,↓kc_b,Bj,↓ih',o8,mL,Tryz.f23]
  ·rw[Bool.not_eq_true]at hz;rw[hz]at hwr;rw[fX hwr];clear ih hok hw hwr ha hb;generalize accW a (l.getD i [])=x at *;generalize accW b (l.getD i [])=y at *;generalize hwi:l.getD i []=w at *
   simp-implicitDefEqProofs (maxSteps:=9^7) (disch:=try exact Dz) only[↓DN,↓kAsg,↓kRet,UP,simprocAttr,SE,hc,hi0,hwi,hz,↓kc_a,↓kc_b,Bj,o8,mL,Tryz.f23]
theorem HB(hn:16<=n)(a b:Aut)(x:Int)(sa:aW a.nx)(sb:aW b.nx)(ha:a.ac.length<=4294967296)(hb:b.ac.length<=4294967296)(hL:2^60<=L):aA env L n 23 [.agg [nI a.al,.d (.ivs a.nx.length (aE a.nx)),.d (.ivs a.ac.length (aD a.ac))],.agg [nI b.al,.d (.ivs b.nx.length (aE b.nx)),.d (.ivs b.ac.length (aD b.ac))],nI x] []=some (.tup [.d (.str (qQ a b x).1),.d (.bool (qQ a b x).2)],[]):=by
 have hra:=sa.1;have hrb:=sb.1;have kc_1:=@SM L a x sa ha hL;unfold qQ
 cases hG:dJ a x with
 |none=>
  rw[hG]at kc_1;simp only[Option.getD_none,Cn,Ac,lF]at kc_1;obtain _|n:=n;omega
  simp-implicitDefEqProofs (maxSteps:=9^7) (disch:=try exact Dz) only[↓DN,↓kAsg,↓kRet,UP,simprocAttr,↓kc_1,nY,lV,Tryz.f23]
 |some l=>
  rw[hG]at kc_1;simp only[Bg,Cv]at kc_1;have kc_c:=@aFy L a b sa sb ha hb hL;obtain⟨hv,y0,_,_,hl⟩:=FC hG
  cases hcm:jS a b with
  |false=>
   rw[hcm]at kc_c;simp only[Al,if_false];obtain _|n:=n;omega
   simp-implicitDefEqProofs (maxSteps:=9^7) (disch:=try exact Dz) only[↓DN,↓kAsg,↓kRet,UP,simprocAttr,↓kc_1,↓kc_c,nY,lV,Tryz.f23]
  |true=>
   rw[hcm]at kc_c;obtain⟨va,vb,hal⟩:=m6.1 hcm;have loop_a:=fun {R n k} hn=> @XK R L n hn hL a b l hl va vb hal (fun w hw=>(aC9 hG hw).2.1) k l.length 0 L om om;simp only[Ap]at loop_a;simp only[if_true];unfold aFY;clear hv va vb hG
   cases hs:seek (pB a b l) l.length 0 with
   |none=>
    simp only[hs]at loop_a;obtain _|n:=n;omega
    simp-implicitDefEqProofs (maxSteps:=9^7) (disch:=try exact Dz) only[↓DN,↓kAsg,↓kRet,UP,simprocAttr,↓kc_1,↓kc_c,↓loop_a,nY,lV,Tryz.f23]
   |some q=>
    simp only[hs]at loop_a;obtain _|n:=n;omega
    simp-implicitDefEqProofs (maxSteps:=9^7) (disch:=try exact Dz) only[↓DN,↓kAsg,↓kRet,UP,simprocAttr,↓kc_1,↓kc_c,↓loop_a,nY,lV,Tryz.f23]
theorem aBV:type_of% fun {L} a b x sa sb ha hb hL=>ks fun hn=> @HB L _ hn a b x sa sb ha hb hL:=fun {L} a b x sa sb ha hb hL=>ks fun hn=> @HB L _ hn a b x sa sb ha hb hL
def nS(a b:Aut)(x:Int):Bool:=(dJ a x).isSome&&jS a b&& !(qQ a b x).2
theorem KD(hn:17<=n)(a b:Aut)(x:Int)(sa:aW a.nx)(sb:aW b.nx)(ha:a.ac.length<=4294967296)(hb:b.ac.length<=4294967296)(hL:2^60<=L):aA env L n 6 [.agg [nI a.al,.d (.ivs a.nx.length (aE a.nx)),.d (.ivs a.ac.length (aD a.ac))],.agg [nI b.al,.d (.ivs b.nx.length (aE b.nx)),.d (.ivs b.ac.length (aD b.ac))],nI x] []=some (.d (.bool (nS a b x)),[]):=by
 have hra:=sa.1;have hrb:=sb.1;have hI:=fun {n:Nat} (hn:15<=n)=>RZ (L:=L) hn a x sa ha hL;have kc_f:=@aBM L a b x sa sb ha hb hL;have kc_c:=@pV L a b sa sb ha hb hL;unfold nS;generalize qQ a b x=f at *;obtain⟨w,ok⟩:=f;simp only at kc_f|-
 cases hG:dJ a x with
 |none=>
  rw[hG]at hI;have kc_1:=fun {R:Type} {n:Nat} {hq:H} {k:KA R} (hn:15<=n)=>VN (h:=hq) (k:=k) rfl jF (hI hn);clear hI;simp only[Cn,Co];obtain _|n:=n;omega
  simp-implicitDefEqProofs (maxSteps:=9^7) (disch:=try exact Dz) only[↓DN,↓kAsg,↓kRet,UP,simprocAttr,↓kc_1,↓kc_f,x6,r8,Tryz.f6]
 |some l=>
  rw[hG]at hI;have kc_1:=fun {R:Type} {n:Nat} {hq:H} {k:KA R} (hn:15<=n)=>aCi (h:=hq) (k:=k) rfl jF (hI hn);clear hI;simp only[Cv,Bool.true_and]
  cases hcm:jS a b with
  |false=>
   rw[hcm]at kc_c;simp only[Co];obtain _|n:=n;omega
   simp-implicitDefEqProofs (maxSteps:=9^7) (disch:=try exact Dz) only[↓DN,↓kAsg,↓kRet,UP,simprocAttr,↓kc_1,↓kc_f,↓kc_c,x6,r8,Tryz.f6]
  |true=>
   rw[hcm]at kc_c;simp only[Bool.true_and];obtain _|n:=n;omega
   simp-implicitDefEqProofs (maxSteps:=9^7) (disch:=try exact Dz) only[↓DN,↓kAsg,↓kRet,UP,simprocAttr,↓kc_1,↓kc_f,↓kc_c,x6,r8,Tryz.f6]
theorem LD:type_of% fun {L} a b x sa sb ha hb hL=>ks fun hn=> @KD L _ hn a b x sa sb ha hb hL:=fun {L} a b x sa sb ha hb hL=>ks fun hn=> @KD L _ hn a b x sa sb ha hb hL
theorem KZ(hn:17<=n)(a b:Aut)(x:Int)(sa:aW a.nx)(sb:aW b.nx)(ha:a.ac.length<=4294967296)(hb:b.ac.length<=4294967296)(hL:2^60<=L):aA env L n 8 [.agg [nI a.al,.d (.ivs a.nx.length (aE a.nx)),.d (.ivs a.ac.length (aD a.ac))],.agg [nI b.al,.d (.ivs b.nx.length (aE b.nx)),.d (.ivs b.ac.length (aD b.ac))],nI x] []=some (.d (.bool (nS a b x)),[]):=by
 have hra:=sa.1;have hrb:=sb.1;have kc_1:=@SM L a x sa ha hL;have kc_f:=@aBV L a b x sa sb ha hb hL;have kc_c:=@aFy L a b sa sb ha hb hL;unfold nS;generalize qQ a b x=f at *;obtain⟨w,ok⟩:=f;simp only at kc_f|-;generalize dJ a x=S at *
 cases hS:S.isSome with
 |false=>
  rw[hS]at kc_1;simp only[Co];obtain _|n:=n;omega
  simp-implicitDefEqProofs (maxSteps:=9^7) (disch:=try exact Dz) only[↓DN,↓kAsg,↓kRet,UP,simprocAttr,↓kc_1,↓kc_f,yB,r7,Tryz.f8]
 |true=>
  rw[hS]at kc_1;simp only[Bool.true_and]
  cases hcm:jS a b with
  |false=>
   rw[hcm]at kc_c;simp only[Co];obtain _|n:=n;omega
   simp-implicitDefEqProofs (maxSteps:=9^7) (disch:=try exact Dz) only[↓DN,↓kAsg,↓kRet,UP,simprocAttr,↓kc_1,↓kc_f,↓kc_c,yB,r7,Tryz.f8]
  |true=>
   rw[hcm]at kc_c;simp only[Bool.true_and];obtain _|n:=n;omega
   simp-implicitDefEqProofs (maxSteps:=9^7) (disch:=try exact Dz) only[↓DN,↓kAsg,↓kRet,UP,simprocAttr,↓kc_1,↓kc_f,↓kc_c,yB,r7,Tryz.f8]
theorem aDY:type_of% fun {L} a b x sa sb ha hb hL=>ks fun hn=> @KZ L _ hn a b x sa sb ha hb hL:=fun {L} a b x sa sb ha hb hL=>ks fun hn=> @KZ L _ hn a b x sa sb ha hb hL
end
end Ev
end Go.Proofs.YtppffbehejpglaaGreatDoor
