/-
  Memory that is not written out: operations on it, and what is read off it.
-/
import Derived.Test.YtppffbehejpglaaGreatDoorMemS
set_option linter.unusedSimpArgs false
set_option linter.unusedVariables false
set_option maxRecDepth 8000
set_option maxHeartbeats 4000000
namespace Go.Proofs.YtppffbehejpglaaGreatDoor
namespace Ev
theorem PP{f:A->Option D}:∀ {cs:List A} {ds:List D},cs.length=ds.length->(∀(i:Nat) (a:A) (x:D),cs[i]? =some a->ds[i]? =some x->f a=some x)->fS f cs=some ds
 | [],[],_,_=>rfl
 | [],_::_,h,_=>by cases h
 |_::_,[],h,_=>by cases h
 |a::cs,x::ds,h,hf=>by
  have h0:=hf 0 a x rfl rfl;have h1:=PP (f:=f) (cs:=cs) (ds:=ds) (by simpa using h) (fun i b y hb hy=>hf (i+1) b y (by simpa using hb) (by simpa using hy));simp only[fS,h0,h1]
theorem y9{h:H}{v gv n:Nat}{cs:List A}{rs:List (List Int)}(hv:h[v]? =some (.vec cs 1 gv))(hc:fS (rd0 h) cs=some (aE rs))(hn:n=rs.length):rd1 h (.sl v gv 0 n)=some (.ivs rs.length (aE rs)):=by
 subst hn;have hl:=UB hc;have hr:(aE rs).length=rs.length:=by simp[aE]
 simp only[rd1,hv,hc,Bb,Ba,Ag,Ch];rw[if_pos ⟨trivial,by omega⟩]
 congr 2
 exact Ce om
theorem pL{h:H}{v gv n:Nat}{ac:List Bool}(hv:h[v]? =some (.arr (aD ac) 1 gv))(hn:n=ac.length):rd1 h (.sl v gv 0 n)=some (.ivs ac.length (aD ac)):=by
 subst hn;have hr:(aD ac).length=ac.length:=by simp[aD]
 simp only[rd1,rd0,hv,Ba,Ag,Ch];rw[if_pos ⟨trivial,by omega⟩]
 congr 2
 exact Ce om
theorem aD9{rs:List (List Int)}{i:Nat}{x:D}(h:(aE rs)[i]? =some x):∃r,rs[i]? =some r/\x=rowD r:=by
 unfold aE at h;rw[Bh]at h
 cases hr:rs[i]? with
 |none=>rw[hr]at h;cases h
 |some r=>rw[hr]at h;simp at h;exact⟨r,rfl,h.symm⟩
theorem UR:∀ {rs:List (List Int)} {b i:Nat} {a:A},(aC b rs)[i]? =some a->∃r,rs[i]? =some r/\a=.sl (b+i) 0 0 r.length
 | [],b,i,a,h=>by simp[aC]at h
 |r::rs,b,0,a,h=>by simp[aC]at h;exact⟨r,rfl,h.symm⟩
 |r::rs,b,i+1,a,h=>by
  simp only[aC,Ay]at h;obtain⟨q,h1,h2⟩:=UR h;exact⟨q,by simpa using h1,by rw[h2];congr 1;omega⟩
theorem jT:∀ {h:H} {i:Nat} {o:O},wgt (h.set i o)<=wgt h+(dV o).length
 | [],i,o=>by simp[wgt]
 |x::h,0,o=>by
  have e1:=rN [o] h;have e2:=rN [x] h;have e3:wgt [o]=(dV o).length:=by cases o<;>simp[wgt,dV]
  simp only[Cj];simp only[Do]at e1 e2;omega
 |x::h,i+1,o=>by
  have ih:=jT (h:=h) (i:=i) (o:=o);have e1:=rN [x] (h.set i o);have e2:=rN [x] h;simp only[Bt];simp only[Do]at e1 e2;omega
theorem mH{o:O}{h:H}:wgt (o::h)=(dV o).length+wgt h:=by
 cases o<;>simp[wgt,dV]
theorem CX{o:O}{h:H}:wgt (h++[o])=wgt h+(dV o).length:=by
 rw[rN,mH];rfl
structure Cpy(y z:O)(al:Int)(nx:List (List Int))(ac:List Bool)(N:Nat)(T1 T2 T3:H):Prop where
 hN:N=nx.length+6
 h1:y::.arr [] 0 0::.arr [] 0 0::z::autO 5 nx ac=T1
 l1:T1.length=N
 h2:T1++[.arr [] 0 0,.arr [] 0 0,.box [nI 0,.sl (N+1) 0 0 0,.sl (N+1+1) 0 0 0]]=T2
 b2:T2[N+1+1]? =some (.box [nI 0,.sl (N+1) 0 0 0,.sl (N+1+1) 0 0 0])
 h3:T2.set (N+1+1) (.box [nI al,.sl 5 0 0 nx.length,.sl 6 0 0 ac.length])=T3
 l3:T3.length=N+1+1+1
 t3:T3[3]? =some z
 t4:T3[4]? =some (.vec (aC 7 nx++aH 0) 1 0)
 t5:T3[5]? =some (.arr (aD ac) 1 0)
 tr:∀(i:Nat) (r:List Int),nx[i]? =some r->T3[i+6]? =some (.arr (ints r) 1 0)
 tb:T3[N+1+1]? =some (.box [nI al,.sl 5 0 0 nx.length,.sl 6 0 0 ac.length])
 e3:T3=y::.arr [] 0 0::.arr [] 0 0::z::.vec (aC 7 nx++aH 0) 1 0::.arr (aD ac) 1 0::(aK nx++[.arr [] 0 0,.arr [] 0 0,.box [nI al,.sl 5 0 0 nx.length,.sl 6 0 0 ac.length]])
 wg:wgt T3<=nx.length+8+(dV y).length+(dV z).length
theorem lC(y z:O)(al:Int)(nx:List (List Int))(ac:List Bool):∃(N:Nat) (T1 T2 T3:H),Cpy y z al nx ac N T1 T2 T3:=by
 have l1:(y::.arr [] 0 0::.arr [] 0 0::z::autO 5 nx ac).length=nx.length+6:=by simp[TA]
 generalize hT1:y::.arr [] 0 0::.arr [] 0 0::z::autO 5 nx ac=T1 at l1;have low:∀(l:H) (i:Nat),i<nx.length+6->(T1++l)[i]? =T1[i]?:=fun l i hi=>Be om;have g2:∀a b c:O,(T1++[a,b,c])[nx.length+6+1+1]? =some c:=fun a b c=>by rw[<-l1];exact aTJ
 have g3:∀a b c d:O,(T1++[a,b,c]).set (nx.length+6+1+1) d=T1++[a,b,d]:=fun a b c d=>by rw[<-l1];exact aTR
 refine⟨nx.length+6,T1,_,_,rfl,hT1,l1,rfl,g2 _ _ _,rfl,by rw[Bs];simp[l1],?_,?_,?_,?_,?_,?_,?_⟩
 ·rw[g3,low _ _ om,<-hT1];rfl
 ·rw[g3,low _ _ om,<-hT1];rfl
 ·rw[g3,low _ _ om,<-hT1];rfl
 ·intro i r hr;have hi:i<nx.length:=(Aw.1 hr).1;rw[g3,low _ _ om,<-hT1];simp only[autO,Ay];have:=I9 (p:=[]) hr
  rwa [Ai]at this
 ·rw[g3,g2]
 ·rw[g3,<-hT1];simp[autO]
 ·rw[g3,rN,<-hT1,mH,mH,mH,mH,aVY];simp[wgt,dV,idsL,idsA];omega
theorem cF{T T':H}{i:Nat}{o:O}(h:T.set i o=T')(hi:i<T.length):T'.length=T.length/\T'[i]? =some o/\∀j,j≠i->T'[j]? =T[j]?:=by
 subst h;exact⟨Bs,En hi,fun j hj=>Dq (fun e=>hj e.symm)⟩
theorem j3{T T':H}{o:O}(h:T++[o]=T'):T'.length=T.length+1/\T'[T.length]? =some o/\∀j,j<T.length->T'[j]? =T[j]?:=by
 subst h;exact⟨by simp,by simp,fun j hj=>Be hj⟩
theorem MT{h:H}{nx:List (List Int)}(hr:∀(i:Nat) (r:List Int),nx[i]? =some r->h[i+7]? =some (.arr (ints r) 1 0)):fS (rd0 h) (aC 7 nx++aH 0)=some (aE nx):=by
 refine PP (by rw[Af,gA];simp[aH,aE]) ?_;intro i a x ha hx;obtain⟨r,hr1,rfl⟩:=aD9 hx;have hn:aH 0=[]:=rfl;rw[hn,Ai]at ha;obtain⟨r2,hr2,rfl⟩:=UR ha;rw[hr1]at hr2;cases hr2;refine aFP ?_;rw[De];exact hr i r hr1
theorem aMT{h:H}{b g:Nat}{r:List Int}(hr:h[b]? =some (.arr (ints r) 1 g)):rd0 h (.sl b g 0 r.length)=some (rowD r):=by
 have hl:(ints r).length=r.length:=by simp[ints]
 simp only[rd0,hr,Ba,Ag,Ch];rw[if_pos ⟨trivial,by omega⟩];unfold rowD
 congr 2
 exact Ce om
theorem aLP{h:H}{nx:List (List Int)}{t g:Nat}{row:List Int}(ht:t<nx.length)(hr:∀(i:Nat) (r:List Int),i≠t->nx[i]? =some r->h[i+7]? =some (.arr (ints r) 1 0))(h1:h[t+7]? =some (.arr (ints row) 1 g)){len:Nat}(hl:len=row.length):
  fS (rd0 h) ((aC 7 nx++aH 0).take t++[.sl (t+7) g 0 len]++(aC 7 nx++aH 0).drop (t+1))=some (aE (nx.set t row)):=by
 subst hl;have hn:aH 0=[]:=rfl;rw[hn,Ai];have hlr:(aC 7 nx).length=nx.length:=gA _ _
 have e:(aC 7 nx).take t++[.sl (t+7) g 0 row.length]++(aC 7 nx).drop (t+1)=(aC 7 nx).set t (.sl (t+7) g 0 row.length):=by
  rw[List.set_eq_take_append_cons_drop,if_pos om];simp
 rw[e];refine PP (by simp[hlr,aE]) ?_;intro i a x ha hx;obtain⟨r,hr1,rfl⟩:=aD9 hx;rw[Cp]at ha hr1
 by_cases hi:t=i
 ·subst hi;rw[if_pos rfl,if_pos om]at ha;rw[if_pos rfl,if_pos ht]at hr1;cases ha;cases hr1;exact aMT h1
 ·rw[if_neg hi]at ha hr1;obtain⟨r2,hr2,rfl⟩:=UR ha;rw[hr1]at hr2;cases hr2;refine aFP ?_;rw[De];exact hr i r (fun e=>hi e.symm) hr1
theorem aDc{h:H}{i:Nat}{cs:List D}{e g:Nat}(h1:h[i]? =some (.arr cs e g)):aF aI h [i] []=[i]:=by
 rw[show aI=1099511627774+1+1 from rfl,qH,yT];simp[Aa,h1,yT]
theorem aNW{h:H}{i j:Nat}{cs ds:List D}{e g e2 g2:Nat}(h1:h[i]? =some (.arr cs e g))(h2:h[j]? =some (.arr ds e2 g2))(hne:i≠j):aF aI h [i,j] []=[i,j]:=by
 rw[show aI=1099511627773+1+1+1 from rfl,qH];have hne':¬j=i:=fun e=>hne e.symm;simp[Aa,h1];rw[qH];simp[Aa,h2,hne',yT]
theorem aWp{i j:Nat}(hne:i≠j):aJ [i,j] i=some 0/\aJ [i,j] j=some 1:=by
 have hne':¬i=j:=hne;simp[aJ,hne']
theorem M3{E:Env}{call:aZ}{thaw:List Nat}{dst:Option Tmp}{args:Array Operand}{t e:TypeId}{h:H}{id id2 g g2 e0 len n2:Nat}{cs src:List D}(he:cY E.P t=some e)(hce:E.P.cellsOf e=1)(hel:fC E.P e=true)
  (h1:h[id]? =some (.arr cs e0 g)) (he0:e0=0\/e0=1) (h2:h[id2]? =some (.arr src 1 g2)) (hn2:n2=src.length) (hlen:len<=cs.length) (hmax:len+n2<=bI) (hne:id≠id2):
  memD E call thaw dst (.call ⟨.builtin .append,args,#[t,t]⟩) h [.sl id g 0 len,.sl id2 g2 0 n2]=some (.sl id (g+1) 0 (len+n2),h.set id (.arr (cs.take len++src) 1 (g+1)),{ ids:=[id,id2],ro:=false,wr:=[id]}):=by
 subst hn2;have hids:idsL [A.sl id g 0 len,A.sl id2 g2 0 src.length]=[id,id2]:=rfl;obtain⟨hk,hk2⟩:=aWp hne;have hord:=aNW h1 h2 hne;have hcl:closed h [id,id2] [id,id2]=true:=by simp[closed,h1,h2]
 have p1:=iN (h:=h) (bH hk) h1;have p2:=iN (h:=h) (bH hk2) h2;have key:=L9 (E:=E) (call:=call) (thaw:=thaw) (dst:=dst) (op:=.call ⟨.builtin .append,args,#[t,t]⟩) (h:=h) (vs:=[A.sl id g 0 len,A.sl id2 g2 0 src.length]) (a:=.sl 0 (g+1) 0 (len+src.length)) (a2:=.sl id (g+1) 0 (len+src.length)) (o:=.arr (cs.take len++src) 1 (g+1)) (o2:=.arr (cs.take len++src) 1 (g+1)) (id:=id) (k:=0) (ord:=[id,id2]) (by rw[hids];exact hord) (by rw[hids];exact hcl) hk rfl ?_ rfl rfl
 ·rw[key];rfl
 ·have hu:E.P.underlying t=some (.slice e):=by
   unfold cY at he
   split at he
   ·rename_i hq;cases he;exact hq
   ·cases he
  have hv:H5 (pack h [id,id2]) 0=false:=by simp only[H5,p1,mapO]
  have hb:aBa (pack h [id,id2]) (.sl 1 g2 0 src.length)=false:=by simp only[aBa,H5,p2,mapO]
  have hs:c7 (pack h [id,id2]) 1 (.sl 1 g2 0 src.length)=some (src.length,src):=by
   simp[c7,p2,mapO]
  simp only[aG,mapA,hk,hk2,evOp,dO,eK,cH,rJ,hv,hb,Al,if_false,m9,he,hel,if_true,hce,hs,p1,mapO,Ch,hlen,hmax,and_self,he0,hu]
theorem PU{E:Env}{call:aZ}{thaw:List Nat}{dst:Option Tmp}{x y:Operand}{t:TypeId}{h:H}{id g off esz:Nat}{cs:List D}{z:D}(ht:E.P.cellsOf t=1)(hi:(E.P.info? t).isSome=true)(hz:dT (.d z)=true)
  (h1:h[id]? =some (.arr cs esz g)) (hoff:off+1<=cs.length):
  memD E call thaw dst (.store t x y) h [.ptr id g off,.d z]=some (.d .undef,h.set id (.arr (bK cs off [z]) esz g),{ ids:=[id],ro:=false,wr:=[id]}):=by
 have hids:idsL [A.ptr id g off,A.d z]=[id]:=rfl;have hk:aJ [id] id=some 0:=by simp[aJ]
 have hord:=aDc h1;have hcl:closed h [id] [id]=true:=by simp[closed,h1]
 have p1:=iN (h:=h) (bH hk) h1;have key:=L9 (E:=E) (call:=call) (thaw:=thaw) (dst:=dst) (op:=.store t x y) (h:=h) (vs:=[A.ptr id g off,A.d z]) (a:=.d .undef) (a2:=.d .undef) (o:=.arr (bK cs off [z]) esz g) (o2:=.arr (bK cs off [z]) esz g) (id:=id) (k:=0) (ord:=[id]) (by rw[hids];exact hord) (by rw[hids];exact hcl) hk rfl ?_ rfl rfl
 ·rw[key];rfl
 ·have hf:frzL (pack h [id]) [A.d z]=some ([z],pack h [id]):=by
   unfold frzL;simp only[eD];have:frz deep (pack h [id]) (.d z)=some (z,pack h [id]):=rfl;rw[this]
  simp only[aG,mapA,hk,evOp,dO,two,gY,a6,Ae,Ac,Ag,ht,hi,Bx,Cd,hz,Bq,and_self,if_true,p1,mapO,hf,hoff,Bb]
theorem aN9{E:Env}{call:aZ}{thaw:List Nat}{dst:Option Tmp}{x y:Operand}{t:TypeId}{h:H}{id id2 off g g2 o len:Nat}{cs:List A}(ht:E.P.cellsOf t=1)(hi:(E.P.info? t).isSome=true)
  (h1:h[id]? =some (.vec cs 1 g2)) (hoff:off+1<=cs.length) (ok1:Okay h id) (ok2:Okay h id2) (hw:2+wgt h<=1099511627776):
  memD E call thaw dst (.store t x y) h [.ptr id g2 off,.sl id2 g o len]=some (.d .undef,h.set id (.vec (bK cs off [.sl id2 g o len]) 1 g2),{ ids:=aF aI h [id,id2] [],ro:=false,wr:=aF aI h [id,id2] []}):=by
 have hids:idsL [A.ptr id g2 off,A.sl id2 g o len]=[id,id2]:=rfl;obtain⟨c1,c2,c3⟩:=aA3 (h:=h) (ids:=[id,id2]) (by intro i hi;simp at hi;rcases hi with rfl|rfl;exact ok1;exact ok2) (by simpa using hw);obtain⟨ord,hord⟩:∃ord,aF aI h [id,id2] []=ord:=⟨_,rfl⟩
 rw[hord]at c1 c2 c3|-;obtain⟨k,hk⟩:=cB (c2 id smp);obtain⟨k2,hk2⟩:=cB (c2 id2 smp);have p1:=iN (h:=h) (bH hk) h1
 have bk:∀xs:List A,(∀i∈idsL xs,i∈ord)->aG (fun(k:Nat)=>ord[k]?) (aG (aJ ord) xs)=xs:=by
  intro xs hx;rw[lG (q:=fun i=>(aJ ord i).bind fun k=>ord[k]?) (fun _=>rfl)];apply fF;intro i hi;obtain⟨j,hj⟩:=cB (hx i hi);simp only[hj,Dl];exact bH hj
 have hcs:∀i∈idsL cs,i∈ord:=by
  have:=c3 id (c2 id smp)
  simpa only[kids,h1]using this
 have split_cs:∀q:Nat,(∀i∈idsL (cs.take q),i∈ord)/\(∀i∈idsL (cs.drop q),i∈ord):=by
  intro q;have:=List.take_append_drop q cs
  constructor
  ·intro i hi;refine hcs i ?_;rw[<-this,bN,Ak];exact .inl hi
  ·intro i hi;refine hcs i ?_;rw[<-this,bN,Ak];exact .inr hi
 have hnew:∀i∈idsL (bK cs off [.sl id2 g o len]),i∈ord:=by
  intro i hi;unfold bK at hi;rw[bN,bN,Ak,Ak]at hi
  rcases hi with(hi|hi)|hi
  ·exact(split_cs _).1 i hi
  ·simp[idsL,idsA]at hi;subst hi;exact c2 i smp
  ·exact(split_cs _).2 i hi
 have hmr:bK (aG (aJ ord) cs) off [.sl k2 g o len]=aG (aJ ord) (bK cs off [.sl id2 g o len]):=by
  unfold bK;rw[cR,cR,H4,VE];simp only[aG,mapA,hk2,Ae,Ac]
 have key:=L9 (E:=E) (call:=call) (thaw:=thaw) (dst:=dst) (op:=.store t x y) (h:=h) (vs:=[A.ptr id g2 off,A.sl id2 g o len]) (a:=.d .undef) (a2:=.d .undef) (o:=.vec (aG (aJ ord) (bK cs off [.sl id2 g o len])) 1 g2) (o2:=.vec (bK cs off [.sl id2 g o len]) 1 g2) (id:=id) (k:=k) (ord:=ord) (by rw[hids];exact hord) (by rw[hids];exact c1) hk rfl ?_ (by simp only[mapA]) (by simp only[mapO,bk _ hnew])
 ·rw[key];rfl
 ·have hoff2:off+1<=(aG (aJ ord) cs).length:=by rw[FM];exact hoff
  simp only[aG,mapA,hk,hk2,evOp,dO,two,gY,a6,Ae,Ac,Ag,ht,hi,Bx,Cd,dT,Bq,and_self,if_true,p1,mapO,hoff2,hmr,Bb]
theorem aIB{E:Env}{call:aZ}{thaw:List Nat}{dst:Option Tmp}{t e:TypeId}{x:Operand}{h:H}{id g len:Nat}{cs:List D}{es:Nat}(hk0:(keeps thaw dst&& !logs thaw dst)=true)(he:cY E.P t=some e)(hz:dA E.P e=some (.d .nils))(hce:E.P.cellsOf e=1)(hel:fC E.P e=true)
  (h1:h[id]? =some (.arr cs es g)):
  memD E call thaw dst (.buildSlice t 1 #[(0,x)]) h [.sl id g 0 len]=some (.sl h.length 0 0 1,h++[.vec [.sl id g 0 len] 1 0],{ ids:=[id,h.length],ro:=false}):=by
 simp only[Ar,Cx]at hk0;obtain⟨hk,hlg⟩:=hk0;have hids:idsL [A.sl id g 0 len]=[id]:=rfl;have hp:aJ [id] id=some 0:=by simp[aJ]
 have hord:=aDc h1;have hcl:closed h [id] [id]=true:=by simp[closed,h1]
 have hlt:id<h.length:=(Aw.1 h1).1;have hgd:h.getD id default=.arr cs es g:=by rw[Aa,h1];rfl
 have hpk:pack h [id]=[.arr cs es g]:=by simp only[pack,Aj,As,hgd,mapO]
 have hev:evOp E call thaw (pack h [id]) (dO dst (.buildSlice t 1 #[(0,x)])) (aG (aJ [id]) [A.sl id g 0 len])=some (.sl 1 0 0 1,[.arr cs es g,.vec [.sl 0 g 0 len] 1 0]):=by
  rw[hpk];simp only[aG,mapA,hp,evOp,dO,hk,hlg,Al,if_false,if_true,t8,he,hz,hel,hce,a6]<;>rfl
 have hset:h.set id (.arr cs es g)=h:=by
  obtain⟨_,h2⟩:=Aw.1 h1;rw[<-h2,List.set_getElem_self]
 unfold memD;rw[hids,show aI=1099511627776 from rfl]at *;rw[hord];simp only[box,hev,hcl,Ae,Ac,jV,Co,Al,if_false];have hb1:back [id] h.length 2 0=some id:=rfl;have hb2:back [id] h.length 2 1=some h.length:=by simp[back]
 simp[mapA,aG,bJ,mapO,hb1,hb2,hset,wrOf]
def pR(bad:List (Nat×Nat))(ops:List Oper)(cs:List Foot):Bool:=
 let b:=PD ops []
 let f:=fun(c:Foot)=>c.ro&&c.ids.isEmpty
 (List.range cs.length).all fun j=>(List.range j).all fun i=>(b.getD j 0).testBit i||(f (cs.getD i {})||f (cs.getD j {})||((cs.getD i {}).ro&&(cs.getD j {}).ro))||bad.contains (i,j)
theorem aMq{a b:Foot}(h:(a.ro&&a.ids.isEmpty)=true):kU a b=false/\kU b a=false:=by
 simp only[Ar,List.isEmpty_iff]at h;obtain⟨ha,hi⟩:=h;unfold kU;rw[ha,hi,aUe];simp
theorem AM{ops:List Oper}{cs:List Foot}(bad:List (Nat×Nat))(hm:pR bad ops cs=true)(hb:∀p∈bad,kU (cs.getD p.1 {}) (cs.getD p.2 {})=false):eE ops cs=true:=by
 refine aS4 ?_;unfold pR at hm;unfold pK;simp only[Bk,Ci,Bool.or_eq_true]at hm|-;intro j hj i hi
 rcases hm j hj i hi with(h|h)|h
 ·exact .inl h
 ·refine .inr ?_
  rcases h with(h|h)|h
  ·rw[(aMq h).1];rfl
  ·rw[(aMq h).2];rfl
  ·simp only[Ar]at h;rw[aTr h.1 h.2];rfl
 ·have hp:=hb (i,j) (by simpa using h);exact .inr (by rw[hp];rfl)
theorem pI{h:H}{i:Nat}{cs:List D}{e g:Nat}(hg:h[i]? =some (.arr cs e g)):Okay h i:=.mk _ _ hg smp (by rw[bQ hg];simp)
theorem aK8{h:H}{i:Nat}{cs:List A}{e g:Nat}(hg:h[i]? =some (.vec cs e g))(hk:∀q∈idsL cs,Okay h q):Okay h i:=.mk _ _ hg smp (by
 intro q hq;have:kids h i=idsL cs:=by simp only[kids,hg]
 rw[this]at hq;exact hk q hq)
theorem aLo{h:H}{i:Nat}{cs:List A}(hg:h[i]? =some (.box cs))(hk:∀q∈idsL cs,Okay h q):Okay h i:=.mk _ _ hg smp (by
 intro q hq;have:kids h i=idsL cs:=by simp only[kids,hg]
 rw[this]at hq;exact hk q hq)
theorem UE{h:H}{i:Nat}{nx:List (List Int)}{x:List A}{e g:Nat}(hg:h[i]? =some (.vec (aC 7 nx++x) e g))(hr:∀j,j<nx.length->Okay h (j+7))(hx:∀q∈idsL x,Okay h q):Okay h i:=by
 refine aK8 hg ?_;intro q hq;rw[bN,bZ,Ak,Cy]at hq
 rcases hq with hq|hq
 ·obtain⟨z,rfl⟩:∃z,q=z+7:=⟨q-7,by omega⟩
  exact hr z om
 ·exact hx q hq
theorem aMK{h:H}{nx:List (List Int)}{e g:Nat}{row:List Int}(hr:∀(i:Nat) (r:List Int),nx[i]? =some r->h[i+7]? =some (.arr (ints r) 1 0))(h1:h[e]? =some (.arr (ints row) 1 g)):
  fS (rd0 h) (aC 7 nx++[.sl e g 0 row.length])=some (aE (nx++[row])):=by
 have hlr:(aC 7 nx).length=nx.length:=gA _ _;refine PP (by simp[hlr,aE]) ?_;intro i a x ha hx;obtain⟨r,hr1,rfl⟩:=aD9 hx
 by_cases hi:i<nx.length
 ·rw[Be om]at ha hr1;obtain⟨r2,hr2,rfl⟩:=UR ha;rw[hr1]at hr2;cases hr2;refine aFP ?_;rw[De];exact hr i r hr1
 ·have hi2:i<(aC 7 nx++[A.sl e g 0 row.length]).length:=(Aw.1 ha).1;rw[Af,hlr]at hi2;simp only[Ae,Ac]at hi2;obtain rfl:i=nx.length:=om;rw[Bo om]at ha hr1;rw[hlr]at ha;simp only[Bj,Cs,Option.some.injEq]at ha hr1;subst ha;subst hr1;exact aMT h1
theorem aN2{nx:List (List Int)}{x:A}{t:Nat}(ht:t<nx.length):((aC 7 nx++[x]).drop t).head? =some (.sl (t+7) 0 0 (nx.getD t []).length):=by
 have h:=kO ht;have hn:aH 0=[]:=rfl;have hlr:(aC 7 nx).length=nx.length:=gA _ _;rw[hn,Ai,Di]at h;rw[Di,Be om];exact h
theorem nB{R:Type}{L n:Nat}{o1 o2 o3 o4 o5:O}{al:Int}{rs:List (List Int)}{ac:List Bool}{T1:H}{k:KA R}(hT:o2::o3::o4::o5::autO 5 rs ac=T1)(hs:aW rs)(h1:1<=rs.length)(ha:ac.length<=4294967295)(hn:2<=n)(hL:2^60<=L):
  aX env (aA env L n) [o1,o2,o3,o4,o5] 60 [.agg [nI al,.d (.ivs rs.length (aE rs)),.d (.ivs ac.length (aD ac))]] k=k (.agg [nI al,.sl 5 0 0 rs.length,.sl 6 0 0 ac.length]) (o1::T1):=by
 rw[aAv hs h1 ha hn hL,<-hT];rfl
theorem aQ5{c:List UInt8}(hc:c.length<=2000)(al:Int)(nx:List (List Int))(ac:List Bool)(hs:aW nx)(h1:1<=nx.length)(ha:ac.length<=4294967290)(p t:Int)
  (kd1:(Dw 1 30 [nI (nx.length)] (nI t) c p (p+1)))
  (kd2:(Dw 1 30 [nI 30] (nI 1) c (p+1) (p+1+1))):(Dw 4 57 [autD al nx ac] (autD al nx (ac++[true])) c p (p+1+1)):=by
 intro R L n hq k hn hL;refine b7 jZ (by simp[autD,idsA,idsL]) (by simp[autD,idsA,idsL]) ?_;have hnl:=hs.1;obtain⟨N,T1,T2,T3,w⟩:=lC (.box [nI al,.d (.ivs nx.length (aE nx)),.d (.ivs ac.length (aD ac))]) (.box [nI 0,.sl 2 0 0 0,.sl 3 0 0 0]) al nx ac;have kd3:=fun {R:Type} {n:Nat} {o1:O} {k:KA R} (hn:2<=n)=>nB (R:=R) (L:=L) (n:=n) (o1:=o1) (al:=al) (k:=k) w.h1 hs h1 om hn hL;obtain⟨hN,hT1,l1,h2,b2,h3,l3,t3,t4,t5,tr,tb,e3,wg⟩:=w;clear e3;clear hT1;obtain⟨T4,h4⟩:∃T,T3++[.arr [.bool true] 1 0]=T:=⟨_,rfl⟩
 obtain⟨l4,g4,k4⟩:=j3 h4;rw[l3]at l4 g4 k4;have t45:=k4 5 om;rw[t5]at t45;obtain⟨T5,h5⟩:∃T,T4.set 5 (.arr (aD (ac++[true])) 1 1)=T:=⟨_,rfl⟩
 obtain⟨l5,g5,k5⟩:=cF h5 om;obtain⟨T6,h6⟩:∃T,T5.set (N+1+1) (.box [nI al,.sl 5 0 0 nx.length,.sl 6 1 0 (ac.length+1)])=T:=⟨_,rfl⟩
 obtain⟨l6,g6,k6⟩:=cF h6 om;obtain⟨T7,h7⟩:∃T,T6.set 3 (.box [nI al,.sl 5 0 0 nx.length,.sl 6 1 0 (ac.length+1)])=T:=⟨_,rfl⟩
 obtain⟨l7,g7,k7⟩:=cF h7 om;have t5b:T5[N+1+1]? =some (.box [nI al,.sl 5 0 0 nx.length,.sl 6 0 0 ac.length]):=by rw[k5 _ om,k4 _ om,tb]
 have t63:T6[3]? =some (.box [nI 0,.sl 2 0 0 0,.sl 3 0 0 0]):=by rw[k6 _ om,k5 _ om,k4 _ om,t3]
 have look:∀i,i≠5->i≠3->i<N+2->T7[i]? =T3[i]?:=fun i i5 i3 hi=>by rw[k7 _ i3,k6 _ om,k5 _ i5,k4 _ om]
 have hv:rd1 (rdO c (p+1+1)::T7) (.sl 5 0 0 nx.length)=some (.ivs nx.length (aE nx)):=by
  refine y9 (cs:=aC 7 nx++aH 0) ?_ (MT fun i r hr=> ?_) rfl
  ·rw[Ay,look 4 om om om,t4]
  ·have hi:i<nx.length:=(Aw.1 hr).1;rw[show i+7=i+6+1 by omega,Ay,look _ om om om];exact tr i r hr
 have hw:rd1 (rdO c (p+1+1)::T7) (.sl 6 1 0 (ac.length+1))=some (.ivs (ac++[true]).length (aD (ac++[true]))):=by
  refine pL ?_ smp;rw[Ay,k7 _ om,k6 _ om,g5]
 obtain⟨h2',st_out,st_keep,st_trim⟩:=tC (al:=al) hv hw om om;unfold autD at st_out|-;clear hv hw look k4 k5 k6 k7 tr h1 l4 l5 l6 l7 hN;obtain _|n:=n;omega
 simp-implicitDefEqProofs (maxSteps:=9^7) (disch:=try exact Dz) only[↓DN,↓kRet,UP,simprocAttr,LA,↓kd1,↓kd2,↓kd3,l1,h2,b2,h3,l3,tb,h4,g4,t45,h5,t5b,h6,g6,t63,h7,g7,xD,↓st_out,↓st_keep,↓st_trim,Ao,cV,c9,Tryz.f57]
theorem aLS{c:List UInt8}(hc:c.length<=2000)(al:Int)(nx:List (List Int))(ac:List Bool)(hs:aW nx)(h1:1<=nx.length)(ha:ac.length<=4294967290)(p t:Int)
  (kd1:(Dw 1 30 [nI (nx.length)] (nI t) c p (p+1)))
  (kd2:(Dw 1 30 [nI 30] (nI 4) c (p+1) (p+1+1))):(Dw 4 57 [autD al nx ac] (autD al [] []) c p (p+1+1)):=by
 intro R L n hq k hn hL;refine b7 jZ (by simp[autD,idsA,idsL]) (by simp[autD,idsA,idsL]) ?_;have hnl:=hs.1;obtain⟨N,T1,T2,T3,w⟩:=lC (.box [nI al,.d (.ivs nx.length (aE nx)),.d (.ivs ac.length (aD ac))]) (.box [nI 0,.sl 2 0 0 0,.sl 3 0 0 0]) al nx ac;have kd3:=fun {R:Type} {n:Nat} {o1:O} {k:KA R} (hn:2<=n)=>nB (R:=R) (L:=L) (n:=n) (o1:=o1) (al:=al) (k:=k) w.h1 hs h1 om hn hL;obtain⟨hN,hT1,l1,h2,b2,h3,l3,t3,t4,t5,tr,tb,e3,wg⟩:=w;clear e3;clear hT1;obtain⟨T4,h4⟩:∃T,T3++[.vec [] 1 0]=T:=⟨_,rfl⟩
 obtain⟨l4,g4,k4⟩:=j3 h4;rw[l3]at l4 g4 k4;obtain⟨T5,h5⟩:∃T,T4.set (N+1+1) (.box [nI al,.sl (N+4) 0 0 0,.sl 6 0 0 ac.length])=T:=⟨_,rfl⟩
 obtain⟨l5,g5,k5⟩:=cF h5 om;obtain⟨T6,h6⟩:∃T,T5++[.arr [] 1 0]=T:=⟨_,rfl⟩
 obtain⟨l6,g6,k6⟩:=j3 h6;rw[l5,l4]at l6 g6 k6;obtain⟨T7,h7⟩:∃T,T6.set (N+1+1) (.box [nI al,.sl (N+4) 0 0 0,.sl (N+5) 0 0 0])=T:=⟨_,rfl⟩
 obtain⟨l7,g7,k7⟩:=cF h7 om;obtain⟨T8,h8⟩:∃T,T7.set 3 (.box [nI al,.sl (N+4) 0 0 0,.sl (N+5) 0 0 0])=T:=⟨_,rfl⟩
 obtain⟨l8,g8,k8⟩:=cF h8 om;have t4b:T4[N+1+1]? =some (.box [nI al,.sl 5 0 0 nx.length,.sl 6 0 0 ac.length]):=by rw[k4 _ om,tb]
 have t6b:T6[N+1+1]? =some (.box [nI al,.sl (N+4) 0 0 0,.sl 6 0 0 ac.length]):=by rw[k6 _ om,g5]
 have t73:T7[3]? =some (.box [nI 0,.sl 2 0 0 0,.sl 3 0 0 0]):=by rw[k7 _ om,k6 _ om,k5 _ om,k4 _ om,t3]
 rw[l4]at l5
 have hv:rd1 (rdO c (p+1+1)::T8) (.sl (N+4) 0 0 0)=some (.ivs ([]:List (List Int)).length (aE [])):=by
  refine y9 (cs:=[]) ?_ rfl rfl;rw[Ay,k8 _ om,k7 _ om,k6 _ om,k5 _ om,g4]
 have hw:rd1 (rdO c (p+1+1)::T8) (.sl (N+5) 0 0 0)=some (.ivs ([]:List Bool).length (aD [])):=by
  refine pL ?_ rfl;rw[Ay,k8 _ om,k7 _ om,g6];rfl
 obtain⟨h2',st_out,st_keep,st_trim⟩:=tC (al:=al) hv hw om om;unfold autD at st_out|-;clear hv hw k4 k5 k6 k7 k8 tr h1 l4 l6 l7 l8 hN;obtain _|n:=n;omega
 simp-implicitDefEqProofs (maxSteps:=9^7) (disch:=try exact Dz) only[↓DN,↓kRet,UP,simprocAttr,↓kd1,↓kd2,↓kd3,l1,h2,b2,h3,l3,tb,h4,t4b,h5,l5,t6b,h6,t73,h7,g7,h8,g8,↓st_out,↓st_keep,↓st_trim,Ao,cV,c9,Tryz.f57]
theorem aNQ{c:List UInt8}(hc:c.length<=2000)(al:Int)(nx:List (List Int))(ac:List Bool)(hs:aW nx)(h1:1<=nx.length)(ha:ac.length<=4294967290)(p:Int)(t:Nat)(ht:t<nx.length)(hr:(nx.getD t []).length<=4294967290)
  (kd1:(Dw 1 30 [nI (nx.length)] (nI t) c p (p+1)))
  (kd2:(Dw 1 30 [nI 30] (nI 2) c (p+1) (p+1+1))):(Dw 4 57 [autD al nx ac] (autD al (nx.set t (nx.getD t []++[0])) ac) c p (p+1+1)):=by
 intro R L n hq k hn hL;refine b7 jZ (by simp[autD,idsA,idsL]) (by simp[autD,idsA,idsL]) ?_;have hnl:=hs.1;obtain⟨N,T1,T2,T3,w⟩:=lC (.box [nI al,.d (.ivs nx.length (aE nx)),.d (.ivs ac.length (aD ac))]) (.box [nI 0,.sl 2 0 0 0,.sl 3 0 0 0]) al nx ac;have kd3:=fun {R:Type} {n:Nat} {o1:O} {k:KA R} (hn:2<=n)=>nB (R:=R) (L:=L) (n:=n) (o1:=o1) (al:=al) (k:=k) w.h1 hs h1 om hn hL;obtain⟨hN,hT1,l1,h2,b2,h3,l3,t3,t4,t5,tr,tb,e3,wg⟩:=w;clear e3;simp only[dV,idsL,idsA,Ac,Ae,Aq,Ax,Ag]at wg;clear hT1;have hrow:nx[t]? =some (nx.getD t []):=by rw[Aa,Ad ht];rfl
 generalize hrw:nx.getD t []=row at hrow hr|-;have hd7:((aC 7 nx++aH 0).drop t).head? =some (.sl (t+7) 0 0 row.length):=by rw[kO ht,hrw]
 obtain⟨T4,h4⟩:∃T,T3++[.arr [.int .i64 0] 1 0]=T:=⟨_,rfl⟩
 obtain⟨l4,g4,k4⟩:=j3 h4;rw[l3]at l4 g4 k4;have w4:wgt T4=wgt T3:=by rw[<-h4,CX];simp[dV]
 obtain⟨T5,h5⟩:∃T,T4.set (t+6) (.arr (ints (row++[0])) 1 1)=T:=⟨_,rfl⟩
 obtain⟨l5,g5,k5⟩:=cF h5 om;have w5:wgt T5<=wgt T4:=by rw[<-h5];have:=jT (h:=T4) (i:=t+6) (o:=.arr (ints (row++[0])) 1 1);simpa [dV]using this
 obtain⟨T6,h6⟩:∃T,T5.set 4 (.vec ((aC 7 nx++aH 0).take t++[.sl (t+7) 1 0 (row.length+1)]++(aC 7 nx++aH 0).drop (t+1)) 1 0)=T:=⟨_,rfl⟩
 obtain⟨l6,g6,k6⟩:=cF h6 om;obtain⟨T7,h7⟩:∃T,T6.set 3 (.box [nI al,.sl 5 0 0 nx.length,.sl 6 0 0 ac.length])=T:=⟨_,rfl⟩
 obtain⟨l7,g7,k7⟩:=cF h7 om;have t6b:T6[N+1+1]? =some (.box [nI al,.sl 5 0 0 nx.length,.sl 6 0 0 ac.length]):=by rw[k6 _ om,k5 _ om,k4 _ om,tb]
 have t63:T6[3]? =some (.box [nI 0,.sl 2 0 0 0,.sl 3 0 0 0]):=by rw[k6 _ om,k5 _ om,k4 _ om,t3]
 have t44:T4[4]? =some (.vec (aC 7 nx++aH 0) 1 0):=by rw[k4 _ om,t4]
 have t54:T5[4]? =some (.vec (aC 7 nx++aH 0) 1 0):=by rw[k5 _ om,t44]
 have t4r:T4[t+6]? =some (.arr (ints row) 1 0):=by rw[k4 _ om];exact tr _ _ hrow
 have hlv:(aC 7 nx++aH 0).length=nx.length:=by rw[Af,gA];rfl
 have st_app:∀ {call:aZ} {thaw:List Nat} {dst:Option Tmp} {args:Array Operand},memD env call thaw dst (.call ⟨.builtin .append,args,#[58,58]⟩) (rdO c (p+1+1)::T4) [.sl (t+7) 0 0 row.length,.sl (N+1+1+1+1) 0 0 1]=some (.sl (t+7) 1 0 (row.length+1),rdO c (p+1+1)::T5,{ ids:=[t+7,N+1+1+1+1],ro:=false,wr:=[t+7]}):=by
  intro call thaw dst args;rw[M3 (e:=3) (e0:=1) (n2:=1) (cs:=ints row) (src:=[.int .i64 0]) rfl OS kr (by rw[show t+7=t+6+1 by omega,Ay];exact t4r) (.inr rfl) (by rw[Ay];exact g4) rfl (by simp[ints]) (by unfold bI;omega) om];rw[show t+7=t+6+1 by omega,Bt,<-h5,show(ints row).take row.length++[D.int .i64 0]=ints (row++[0]) by rw[Ce (by simp[ints])];simp[ints]]
 have ok_row:∀(i:Nat) (r:List Int),nx[i]? =some r->Okay (rdO c (p+1+1)::T5) (i+7):=by
  intro i r hr;have hi:i<nx.length:=(Aw.1 hr).1
  by_cases e:i=t
  ·subst e;have hg:(rdO c (p+1+1)::T5)[i+7]? =some (.arr (ints (row++[0])) 1 1):=by rw[show i+7=i+6+1 by omega,Ay];exact g5
   exact .mk _ _ hg smp (by rw[bQ hg];simp)
  ·have hg:(rdO c (p+1+1)::T5)[i+7]? =some (.arr (ints r) 1 0):=by rw[show i+7=i+6+1 by omega,Ay,k5 _ om,k4 _ om];exact tr _ _ hr
   exact .mk _ _ hg smp (by rw[bQ hg];simp)
 have ok5:Okay (rdO c (p+1+1)::T5) 5:=by
  have hg:(rdO c (p+1+1)::T5)[5]? =some (.vec (aC 7 nx++aH 0) 1 0):=t54;refine .mk _ _ hg smp ?_;intro q hq;have:kids (rdO c (p+1+1)::T5) 5=List.range' 7 nx.length:=by simp only[kids,hg,bN,bZ,c8,Ai]
  rw[this,Cy]at hq;obtain⟨z,rfl⟩:∃z,q=z+7:=⟨q-7,by omega⟩
  exact ok_row z (nx[z]'om) (Ad _)
 obtain⟨o2,ho2⟩:∃o,o=aF aI (rdO c (p+1+1)::T5) [5,t+7] []:=⟨_,rfl⟩
 have st_sto:∀ {call:aZ} {thaw:List Nat} {dst:Option Tmp} {x y:Operand},memD env call thaw dst (.store 58 x y) (rdO c (p+1+1)::T5) [.ptr 5 0 t,.sl (t+7) 1 0 (row.length+1)]=some (.d .undef,rdO c (p+1+1)::T6,{ ids:=o2,ro:=false,wr:=o2}):=by
  intro call thaw dst x y;rw[aN9 kr kr (h:=rdO c (p+1+1)::T5) (id:=5) (id2:=t+7) (cs:=aC 7 nx++aH 0) t54 om ok5 (ok_row t row hrow) (by rw[mH];simp only[dV,idsL,idsA,Aq,Ac];omega),<-ho2];rw[Bt];unfold bK;rw[<-h6];rfl
 have hclash:∀(ops:List Oper),pR [(1,8),(4,8),(6,8),(7,8),(1,9),(8,10),(9,10)] ops [{},{ ids:=[N+2+1],ro:=true},{},{},{ ids:=[N+2+1],ro:=true},{},{ ids:=[5],ro:=true},{ ids:=[5],ro:=true},{ ids:=[N+1+1+1+1],ro:=false},{ ids:=[t+7,N+1+1+1+1],ro:=false,wr:=[t+7]},{ ids:=[5],ro:=true},{ ids:=o2,ro:=false,wr:=o2}]=true->eE ops [{},{ ids:=[N+2+1],ro:=true},{},{},{ ids:=[N+2+1],ro:=true},{},{ ids:=[5],ro:=true},{ ids:=[5],ro:=true},{ ids:=[N+1+1+1+1],ro:=false},{ ids:=[t+7,N+1+1+1+1],ro:=false,wr:=[t+7]},{ ids:=[5],ro:=true},{ ids:=o2,ro:=false,wr:=o2}]=true:=by
  intro ops hm;refine AM _ hm ?_;intro q hq;simp only[Au,Bv,or_false]at hq
  rcases hq with rfl|rfl|rfl|rfl|rfl|rfl|rfl<;>simp[kU]<;>omega
 have hv:rd1 (rdO c (p+1+1)::T7) (.sl 5 0 0 nx.length)=some (.ivs (nx.set t (row++[0])).length (aE (nx.set t (row++[0])))):=by
  refine y9 (cs:=(aC 7 nx++aH 0).take t++[.sl (t+7) 1 0 (row.length+1)]++(aC 7 nx++aH 0).drop (t+1)) ?_ ?_ smp
  ·rw[Ay,k7 _ om,g6]
  ·refine aLP ht (fun i r hi hr=> ?_) ?_ smp
   ·have hil:i<nx.length:=(Aw.1 hr).1;rw[show i+7=i+6+1 by omega,Ay,k7 _ om,k6 _ om,k5 _ om,k4 _ om];exact tr i r hr
   ·rw[show t+7=t+6+1 by omega,Ay,k7 _ om,k6 _ om,g5]
 have hw:rd1 (rdO c (p+1+1)::T7) (.sl 6 0 0 ac.length)=some (.ivs ac.length (aD ac)):=by
  refine pL ?_ rfl;rw[Ay,k7 _ om,k6 _ om,k5 _ om,k4 _ om,t5]
 obtain⟨h2',st_out,st_keep,st_trim⟩:=tC (al:=al) hv hw om om;have hlen:(nx.set t (row++[0])).length=nx.length:=smp;unfold autD at st_out|-;rw[hlen]at st_out|-;have hti:(t:Int)<nx.length:=om;have ht0:(0:Int)<=t:=om;have hn0:(0:Int)<nx.length:=om;clear hv hw k4 k5 k6 k7 tr h1 l4 l6 l7 ok_row ok5 w4 w5 wg ho2 hrow hlv;obtain _|n:=n;omega
 simp-implicitDefEqProofs (maxSteps:=9^7) (disch:=first|assumption|(refine Shut.mk ?_;(show eE _ _=true;with_unfolding_all exact hclash _ kr))|(refine Shut.mk ?_;kernel_rfl)|omega|(simp only[GT];done)|(simp only[LN]<;>omega)|fail) only[↓DN,↓kRet,UP,simprocAttr,↓kd1,↓kd2,↓kd3,l1,h2,b2,h3,l3,t4,tb,h4,hti,ht0,hn0,hd7,t54,↓st_app,↓st_sto,t6b,t63,h7,g7,↓st_out,↓st_keep,↓st_trim,Ao,cV,c9,Tryz.f57]
theorem aPR{c:List UInt8}(hc:c.length<=2000)(al:Int)(nx:List (List Int))(ac:List Bool)(hs:aW nx)(h1:1<=nx.length)(ha:ac.length<=4294967290)(p:Int)(t:Nat)(ht:t<nx.length)(hr:(nx.getD t []).length=0)
  (kd1:(Dw 1 30 [nI (nx.length)] (nI t) c p (p+1)))
  (kd2:(Dw 1 30 [nI 30] (nI 3) c (p+1) (p+1+1))):(Dw 4 57 [autD al nx ac] (autD al nx ac) c p (p+1+1)):=by
 intro R L n hq k hn hL;refine b7 jZ (by simp[autD,idsA,idsL]) (by simp[autD,idsA,idsL]) ?_;have hnl:=hs.1;obtain⟨N,T1,T2,T3,w⟩:=lC (.box [nI al,.d (.ivs nx.length (aE nx)),.d (.ivs ac.length (aD ac))]) (.box [nI 0,.sl 2 0 0 0,.sl 3 0 0 0]) al nx ac;have kd3:=fun {R:Type} {n:Nat} {o1:O} {k:KA R} (hn:2<=n)=>nB (R:=R) (L:=L) (n:=n) (o1:=o1) (al:=al) (k:=k) w.h1 hs h1 om hn hL;obtain⟨hN,hT1,l1,h2,b2,h3,l3,t3,t4,t5,tr,tb,e3,wg⟩:=w;clear e3;clear hT1;have hd7:((aC 7 nx++aH 0).drop t).head? =some (.sl (t+7) 0 0 0):=by rw[kO ht,hr]
 obtain⟨T7,h7⟩:∃T,T3.set 3 (.box [nI al,.sl 5 0 0 nx.length,.sl 6 0 0 ac.length])=T:=⟨_,rfl⟩
 obtain⟨l7,g7,k7⟩:=cF h7 om
 have hv:rd1 (rdO c (p+1+1)::T7) (.sl 5 0 0 nx.length)=some (.ivs nx.length (aE nx)):=by
  refine y9 (cs:=aC 7 nx++aH 0) ?_ (MT fun i r hr=> ?_) rfl
  ·rw[Ay,k7 _ om,t4]
  ·rw[show i+7=i+6+1 by omega,Ay,k7 _ om];exact tr i r hr
 have hw:rd1 (rdO c (p+1+1)::T7) (.sl 6 0 0 ac.length)=some (.ivs ac.length (aD ac)):=by
  refine pL ?_ rfl;rw[Ay,k7 _ om,t5]
 obtain⟨h2',st_out,st_keep,st_trim⟩:=tC (al:=al) hv hw om om;unfold autD at st_out|-;have hti:(t:Int)<nx.length:=om;have ht0:(0:Int)<=t:=om;have hn0:(0:Int)<nx.length:=om;clear hv hw k7 tr h1 l7 wg;obtain _|n:=n;omega
 simp-implicitDefEqProofs (maxSteps:=9^7) (disch:=try exact Dz) only[↓DN,↓kRet,UP,simprocAttr,↓kd1,↓kd2,↓kd3,l1,h2,b2,h3,t3,t4,tb,hti,ht0,hn0,hd7,h7,g7,↓st_out,↓st_keep,↓st_trim,Ao,cV,c9,Tryz.f57]
theorem aOx{c:List UInt8}(hc:c.length<=2000)(al:Int)(nx:List (List Int))(ac:List Bool)(hs:aW nx)(h1:1<=nx.length)(ha:ac.length<=4294967290)(p:Int)(hp:0<=p)(hp2:p<=900000000)(t:Nat)(ht:t<nx.length)(j:Nat)(hj:j<(nx.getD t []).length)
  (kd1:(Dw 1 30 [nI (nx.length)] (nI t) c p (p+1)))
  (kd2:(Dw 1 30 [nI 30] (nI 3) c (p+1) (p+1+1)))
  (kd4:(Dw 1 30 [nI ((nx.getD t []).length:Int)] (nI j) c (p+1+1) (p+1+1+1))):∃v:Int,(Dw 4 57 [autD al nx ac] (autD al (nx.set t ((nx.getD t []).set j v)) ac) c p (p+1+1+1+1)):=by
 obtain⟨v,_,kd5⟩:=AP hc [-1,nx.length,(nx.length:Int)-1,0] smp smp (p+1+1+1) om om;simp only[ints,Aj,As,Ae,Ac,Ag,Nat.reduceAdd]at kd5;refine⟨v,?_⟩;intro R L n hq k hn hL;refine b7 jZ (by simp[autD,idsA,idsL]) (by simp[autD,idsA,idsL]) ?_;have hnl:=hs.1;obtain⟨N,T1,T2,T3,w⟩:=lC (.box [nI al,.d (.ivs nx.length (aE nx)),.d (.ivs ac.length (aD ac))]) (.box [nI 0,.sl 2 0 0 0,.sl 3 0 0 0]) al nx ac;have kd3:=fun {R:Type} {n:Nat} {o1:O} {k:KA R} (hn:2<=n)=>nB (R:=R) (L:=L) (n:=n) (o1:=o1) (al:=al) (k:=k) w.h1 hs h1 om hn hL;obtain⟨hN,hT1,l1,h2,b2,h3,l3,t3,t4,t5,tr,tb,e3,wg⟩:=w;clear e3;clear hT1;have hrow:nx[t]? =some (nx.getD t []):=by rw[Aa,Ad ht];rfl
 have hrl:=pX hs ht;generalize hrw:nx.getD t []=row at *;have hd7:((aC 7 nx++aH 0).drop t).head? =some (.sl (t+7) 0 0 row.length):=by rw[kO ht,hrw]
 obtain⟨T4,h4⟩:∃T,T3++[.arr [.int .i64 (-1),.int .i64 nx.length,.int .i64 ((nx.length:Int)-1),.int .i64 0] 1 0]=T:=⟨_,rfl⟩
 obtain⟨l4,g4,k4⟩:=j3 h4;rw[l3]at l4 g4 k4;have g4D:T4.getD (N+1+1+1) O.void=.arr [.int .i64 (-1),.int .i64 nx.length,.int .i64 ((nx.length:Int)-1),.int .i64 0] 1 0:=by rw[Aa,g4];rfl
 have t4r:T4[t+6]? =some (.arr (ints row) 1 0):=by rw[k4 _ om];exact tr _ _ hrow
 obtain⟨T5,h5⟩:∃T,T4.set (t+6) (.arr (ints (row.set j v)) 1 0)=T:=⟨_,rfl⟩
 obtain⟨l5,g5,k5⟩:=cF h5 om;obtain⟨T7,h7⟩:∃T,T5.set 3 (.box [nI al,.sl 5 0 0 nx.length,.sl 6 0 0 ac.length])=T:=⟨_,rfl⟩
 obtain⟨l7,g7,k7⟩:=cF h7 om;have t3r:T3[t+6]? =some (.arr (ints row) 1 0):=tr _ _ hrow;have t5b:T5[N+1+1]? =some (.box [nI al,.sl 5 0 0 nx.length,.sl 6 0 0 ac.length]):=by rw[k5 _ om,k4 _ om,tb]
 have t53:T5[3]? =some (.box [nI 0,.sl 2 0 0 0,.sl 3 0 0 0]):=by rw[k5 _ om,k4 _ om,t3]
 have hset:bK (ints row) j [.int .i64 v]=ints (row.set j v):=by
  unfold bK;exact aEG hj
 have st_sto:∀ {call:aZ} {thaw:List Nat} {dst:Option Tmp} {x y:Operand},memD env call thaw dst (.store 3 x y) (rdO c (p+1+1+1+1)::T4) [.ptr (t+7) 0 j,nI v]=some (.d .undef,rdO c (p+1+1+1+1)::T5,{ ids:=[t+7],ro:=false,wr:=[t+7]}):=by
  intro call thaw dst x y;rw[PU kr kr rfl (h:=rdO c (p+1+1+1+1)::T4) (id:=t+7) (cs:=ints row) (esz:=1) (by rw[show t+7=t+6+1 by omega,Ay];exact t4r) (by simp[ints];omega)];rw[show t+7=t+6+1 by omega,Bt,hset,h5]
 have hre:∀x y:D,aF 1099511627776 (.box [.d x,.d y]::T4) [0,N+1+1+1+1] []=[0,N+1+1+1+1]:=by
  intro x y;rw[show(1099511627776:Nat)=1099511627773+1+1+1 from rfl,qH];simp[idsL,idsA];rw[qH];simp[g4,Aa,yT]
 have hclash:∀(ops:List Oper),pR [(1,10),(3,10),(4,10),(1,11),(3,11),(4,11),(11,12)] ops [{},{ ids:=[N+2+1],ro:=true},{},{ ids:=[5],ro:=true},{ ids:=[5],ro:=true},{},{},{},{},{},{ ids:=[N+1+1+1+1],ro:=false},{ ids:=[0,N+1+1+1+1],ro:=false},{ ids:=[t+7],ro:=true},{ ids:=[t+7],ro:=false}]=true->eE ops [{},{ ids:=[N+2+1],ro:=true},{},{ ids:=[5],ro:=true},{ ids:=[5],ro:=true},{},{},{},{},{},{ ids:=[N+1+1+1+1],ro:=false},{ ids:=[0,N+1+1+1+1],ro:=false},{ ids:=[t+7],ro:=true},{ ids:=[t+7],ro:=false}]=true:=by
  intro ops hm;refine AM _ hm ?_;intro q hq;simp only[Au,Bv,or_false]at hq
  rcases hq with rfl|rfl|rfl|rfl|rfl|rfl|rfl<;>simp[kU]<;>omega
 have hlen:(nx.set t (row.set j v)).length=nx.length:=smp
 have hv:rd1 (rdO c (p+1+1+1+1)::T7) (.sl 5 0 0 nx.length)=some (.ivs (nx.set t (row.set j v)).length (aE (nx.set t (row.set j v)))):=by
  refine y9 (cs:=aC 7 nx++aH 0) ?_ ?_ hlen.symm
  ·rw[Ay,k7 _ om,k5 _ om,k4 _ om,t4]
  ·rw[<-FJ (b:=7) (rs:=nx) (k:=t) (r:=row.set j v) (by rw[hrw];simp)];refine MT fun i r hr=> ?_;rw[show i+7=i+6+1 by omega,Ay];rw[Cp]at hr
   by_cases e:t=i
   ·subst e;rw[if_pos rfl,if_pos ht]at hr;cases hr;rw[k7 _ om];exact g5
   ·rw[if_neg e]at hr;have hil:i<nx.length:=(Aw.1 hr).1;rw[k7 _ om,k5 _ om,k4 _ om];exact tr i r hr
 have hw:rd1 (rdO c (p+1+1+1+1)::T7) (.sl 6 0 0 ac.length)=some (.ivs ac.length (aD ac)):=by
  refine pL ?_ rfl;rw[Ay,k7 _ om,k5 _ om,k4 _ om,t5]
 obtain⟨h2',st_out,st_keep,st_trim⟩:=tC (al:=al) hv hw om om;unfold autD at st_out|-;rw[hlen]at st_out|-;have hti:(t:Int)<nx.length:=om;have ht0:(0:Int)<=t:=om;have hn0:(0:Int)<nx.length:=om;have hji:(j:Int)<row.length:=om;have hj0:(0:Int)<=j:=om;have hr0:(0:Int)<row.length:=om;clear hv hw k4 k5 k7 tr h1 l4 l7 wg hrow;obtain _|n:=n;omega
 simp-implicitDefEqProofs (maxSteps:=9^7) (disch:=first|assumption|(refine Shut.mk ?_;(show eE _ _=true;with_unfolding_all exact hclash _ kr))|(refine Shut.mk ?_;kernel_rfl)|omega|(simp only[GT];done)|(simp only[LN]<;>omega)|fail) only[↓DN,↓kRet,UP,simprocAttr,↓kd1,↓kd2,↓kd3,↓kd4,↓kd5,l1,h2,b2,h3,l3,t4,tb,h4,t4r,hti,ht0,hn0,hji,hj0,hr0,hd7,hre,↓st_sto,t5b,t53,h7,g7,↓st_out,↓st_keep,↓st_trim,Bj,Ao,cV,c9,Tryz.f57]
end Ev
end Go.Proofs.YtppffbehejpglaaGreatDoor
