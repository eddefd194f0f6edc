/-
  What the types of the program are.
-/
import Derived.Test.YthlkcebdfbjdoaaGreatTy
import Derived.IntWalk
import Derived.Test.YthlkcebdfbjdoaaGreatEvRen
import Derived.Test.YthlkcebdfbjdoaaGreatEvPrim
import Derived.Test.YthlkcebdfbjdoaaGreatChecked
import Derived.Shelf.SlSortCmp.NoneTotal
set_option linter.unusedSimpArgs false
set_option linter.unusedVariables false
set_option linter.unusedSectionVars false
set_option maxRecDepth 1000000
set_option maxHeartbeats 4000000
namespace Go.Proofs.YthlkcebdfbjdoaaGreat
namespace Ev
theorem y9{n:Int}(h1:-9223372036854775808<=n)(h2:n<=9223372036854775807):IntKind.i64.wrap n=n:=IntWalk.i64_in n ⟨h1,h2⟩
theorem aO5{n:Int}(h1:0<=n)(h2:n<=18446744073709551615):IntKind.u64.wrap n=n:=IntWalk.u64_in n ⟨h1,h2⟩
theorem aS1{n:Int}(h1:0<=n)(h2:n<=255):IntKind.u8.wrap n=n:=IntWalk.u8_in n ⟨h1,h2⟩
theorem aM7:env.P.underlying 3=some (.int .i64):=kr
theorem aSR:env.P.underlying 69=some (.int .u64):=kr
theorem YC:env.P.underlying 5=some (.int .u8):=kr
theorem aOM:env.P.underlying 4=some .bool:=kr
theorem aI8:env.P.underlying 9=some .string:=kr
theorem aSJ:env.P.underlying 80=some (.slice 3):=kr
theorem aK1:env.P.underlying 22=some (.slice 5):=kr
theorem XL:env.P.cellsOf 3=1:=kr
theorem aLx:env.P.cellsOf 5=1:=kr
theorem aS3:eU env.P 3=true:=kr
theorem aS8:dE env.P 3=some (nI 0):=kr
theorem RY{h:H}{n:Int}{K:IntKind}:eE env.P h 3 69 (.d (.int K n))=some (.d (.int .u64 (IntKind.u64.wrap n)),h):=wZ aM7 aSR
theorem aEq{h:H}{n:Int}{K:IntKind}:eE env.P h 3 5 (.d (.int K n))=some (.d (.int .u8 (IntKind.u8.wrap n)),h):=wZ aM7 YC
theorem NX{h:H}{n:Int}{K:IntKind}:eE env.P h 5 3 (.d (.int K n))=some (nI (IntKind.i64.wrap n),h):=wZ YC aM7
def ints(l:List Int):List D:=l.map (.int .i64)
def bJ(l:List UInt8):List D:=l.map fun b=>.int .u8 b.toNat
abbrev rdO(c:List UInt8)(p:Int):O:=.box [.d (.ivs c.length (bJ c)),nI p]
abbrev Dw(m f:Nat)(xs:List A)(r:A)(c:List UInt8)(p q:Int):Prop:=∀(R:Type) (L n:Nat) (hq:H) (k:KA R),m<=n->2^60<=L->aZ env (aA env L n) (rdO c p::hq) f (.ptr 0 0 0::xs) k=k r (rdO c q::hq)
abbrev KC(d L:Nat)(f:Nat)(xs:List A)(r:A):Prop:=∀(R:Type) (n:Nat) (hq:H) (k:KA R),d<=n->aZ env (aA env L n) hq f xs k=k r hq
theorem ks{d L:Nat}{f:Nat}{xs:List A}{r:A}(h2:∀ {n:Nat},d<=n->aA env L n f xs []=some (r,[]))(h1:xs.all qX=true:=by rfl)(h3:idsA r=[]:=by rfl)(h4:hJ r=true\/((env.hint f).mode==1||(env.hint f).mode==3)=false:=by first|exact .inl rfl|exact .inr rfl):KC d L f xs r:=fun _ _ _ _ hn=>bZ h1 (h2 hn) h3 h4
abbrev KT(d L:Nat)(f:Nat)(xs:List A)(r:A):Prop:=∀(R:Type) (n:Nat) (k:A->Option R),d<=n->vM (aA env L n) f xs k=k r
theorem kt{d L:Nat}{f:Nat}{xs:List A}{r:A}(h2:∀ {n:Nat},d<=n->aA env L n f xs []=some (r,[]))(h:hJ r=true:=by rfl):KT d L f xs r:=fun _ _ _ hn=>mH (h2 hn) h
abbrev KV(L:Nat)(f:Nat)(xs:List A):Prop:=∀(R:Type) (n:Nat) (hq:H) (k:KA R),aZ env (aA env L n) hq f xs k=match box (XQ hq xs)with
 |.mk (some fs)=>vM (aA env L n) f fs fun r=>k r hq
 |_=>none
theorem aMf:cX env.P 80=some 3:=by simp only[cX,aSJ]
theorem eN{l:List Int}:(ints l).length=l.length:=by simp[ints]
theorem aGH{l:List Int}{v:Int}:ints l++[.int .i64 v]=ints (l++[v]):=by simp[ints]
theorem mD:ints []=[]:=rfl
theorem cZ{l:List Int}{k:Nat}(h:l.length<=k):(ints l).take k=ints l:=Cd (by rw[eN];exact h)
theorem WI{l:List Int}{k:Nat}(h:k<l.length):(((ints l).drop k).map A.d).head? =some (nI (l.getD k 0)):=by
 rw[List.head?_map,Cz,ints,Bd,Aa,Ae h];rfl
section
theorem xU{α:Type}(f:α->D)(l:List α)(k:Nat)(v:α)(h:k<l.length):bG (l.map f) k [f v]=(l.set k v).map f:=by
 unfold bG;rw[List.map_set];have:k<(l.map f).length:=by simpa using h
 generalize l.map f=m at *;rw[List.set_eq_take_append_cons_drop,if_pos this];simp
theorem pG{l:List UInt8}:(bJ l).length=l.length:=by simp[bJ]
theorem aMP:bJ []=[]:=rfl
theorem aPZ{e g:Nat}:O.arr [] e g=O.arr (ints []) e g:=rfl
theorem aAc{l:List UInt8}{v:UInt8}:bJ l++[.int .u8 (v.toNat:Int)]=bJ (l++[v]):=by simp[bJ]
theorem MY{l:List UInt8}{k:Nat}(h:l.length<=k):(bJ l).take k=bJ l:=Cd (by rw[pG];exact h)
theorem aAy{l:List UInt8}{k:Nat}(h:k<l.length):(((bJ l).drop k).map A.d).head? =some (.d (.int .u8 ((l.getD k 0).toNat:Int))):=by
 rw[List.head?_map,Cz,bJ,Bd,Aa,Ae h];rfl
theorem aLW{l:List UInt8}{k:Nat}{v:UInt8}(h:k<l.length):bG (bJ l) k [.int .u8 (v.toNat:Int)]=bJ (l.set k v):=xU _ l k v h
theorem aBI{l:List Int}{k:Nat}{v:Int}(h:k<l.length):bG (ints l) k [.int .i64 v]=ints (l.set k v):=xU _ l k v h
theorem aGz:∀l:List UInt8,IK (bJ l)=some l
 | []=>rfl
 |b::l=>by
  have ih:=aGz l;unfold bJ at ih|-;simp only[Ai,IK,ih,Az];simp
theorem getElem?_zero_cons {o:O} {h:H}:(o::h)[0]? =some o:=rfl
theorem NQ{l:List UInt8}{g len:Nat}{h:H}(hl:len=l.length):eE env.P (.arr (bJ l) 1 g::h) 22 9 (.sl 0 g 0 len)=some (.d (.str l),.arr (bJ l) 1 g::h):=by
 subst hl;simp only[eE,aK1,aI8,YC,cY,getElem?_zero_cons,pG,or_true,Ce,Ag,Ab,and_self,if_true,Ba,MY (Ab _),aGz,Az]
theorem aIm{α:Type}(x:α):∀n:Nat,(List.replicate n [x]).flatten=List.replicate n x
 |0=>rfl
 |n+1=>by simp[List.replicate_succ,aIm x n]
theorem KY{n:Int}{h:H}(h0:0<=n)(h1:n<=4294967296):gE env.P h 80 n n=some (.sl h.length 0 0 n.toNat,h++[.arr (ints (List.replicate n.toNat 0)) 1 0]):=by
 have hm:n<=(bK:Nat):=by unfold bK;omega
 simp only[gE,aMf,aS8,aY,x3,Az,aS3,h0,hm,XL,Int.le_refl,and_self,if_true,aIm,ints,List.map_replicate]
theorem aC2{i:Int}{s:List UInt8}(h0:0<=i)(h:i<s.length):OU env.P 9 (.d (.str s)) i=some (.d (.int .u8 ((s.getD i.toNat 0).toNat))):=by
 have hk:i.toNat<s.length:=om;simp only[OU,aI8,if_pos h0,Aa,Ae hk,Az,Bb]
theorem take_set{α:Type}{l:List α}{k:Nat}{v:α}(h:k<l.length):(l.set k v).take (k+1)=l.take k++[v]:=by
 rw[List.take_set,Ds,Ae h];simp only[Option.toList_some];have hl:(l.take k).length=k:=by rw[Bs];omega
 rw[Dt _ _ om,hl,Bh];rfl
theorem aRs{o:O}{h:H}{id:Nat}(hs:h[id]? =some o):h.set id o=h:=by
 apply Cm;intro j;rw[Cj];obtain⟨hl,he⟩:=Au.1 hs
 by_cases e:id=j
 ·subst e;simp[hl,he]
 ·simp[e]
theorem sU{h:H}{id gen off esz:Nat}{t:TypeId}{cs:List D}{d:D}(hid:h[id]? =some (.arr cs esz gen))(c1:env.P.cellsOf t=1)(hi:(env.P.info? t).isSome=true)(hd:dN (.d d)=true)(hk:off<cs.length):
  jD env.P h t (.ptr id gen off) (.d d)=some (h.set id (.arr (bG cs off [d]) esz gen)):=by
 have hc:(aY (.d d)).length=env.P.cellsOf t/\(env.P.info? t).isSome=true/\(aY (.d d)).all dN=true:=⟨by rw[c1];rfl,hi,by simp[aY,hd]⟩
 have hf:frzL h (aY (.d d))=some ([d],h):=rfl;unfold jD;rw[if_pos hc];simp only[hid,hf,c1,true_and];rw[if_pos om]
theorem aRH:(env.P.info? 5).isSome=true:=kr
theorem aQP:(env.P.info? 3).isSome=true:=kr
theorem aNQ:(env.P.info? 4).isSome=true:=kr
theorem aI9:env.P.cellsOf 4=1:=kr
theorem aQu{h:H}{g e k:Nat}{l:List UInt8}{b:UInt8}(hk:k<l.length):jD env.P (.arr (bJ l) e g::h) 5 (.ptr 0 g k) (.d (.int .u8 (b.toNat:Int)))=some (.arr (bJ (l.set k b)) e g::h):=by
 rw[sU (id:=0) rfl aLx aRH rfl (by rw[pG];exact hk),aLW hk];rfl
theorem XP{h:H}{g e k:Nat}{l:List Int}{b:Int}(hk:k<l.length):jD env.P (.arr (ints l) e g::h) 3 (.ptr 0 g k) (nI b)=some (.arr (ints (l.set k b)) e g::h):=by
 rw[sU (id:=0) rfl XL aQP rfl (by rw[eN];exact hk),aBI hk];rfl
theorem aK8{o:O}{h:H}{g e k:Nat}{l:List Int}{b:Int}(hk:k<l.length):jD env.P (o::.arr (ints l) e g::h) 3 (.ptr 1 g k) (nI b)=some (o::.arr (ints (l.set k b)) e g::h):=by
 rw[sU (id:=1) rfl XL aQP rfl (by rw[eN];exact hk),aBI hk];rfl
section
variable{t:TypeId}{h:H}{a b:List UInt8}
theorem aDR:bV env .eql t h (.d (.str a)) (.d (.str b))=some (.d (.bool (a==b)),h):=by simp[bV,aBin]
theorem aCG:bV env .neq t h (.d (.str a)) (.d (.str b))=some (.d (.bool (!(a==b))),h):=by simp[bV,aBin]
theorem aCz(hl:a.length+b.length<=4294967296):bV env .add t h (.d (.str a)) (.d (.str b))=some (.d (.str (a++b)),h):=by
 have:a.length+b.length<=bK:=hl;simp[bV,aBin,this]
theorem aCH:bV env .lss t h (.d (.str a)) (.d (.str b))=some (.d (.bool (Op.bytesLess a b)),h):=by simp[bV,aBin]
end
theorem toNat_lt(b:UInt8):b.toNat<256:=b.toNat_lt
theorem aJz{b:UInt8}:IntKind.i64.wrap (b.toNat:Int)=b.toNat:=y9 om (by have:=toNat_lt b;omega)
theorem G9{l:List UInt8}{n:Nat}{lo hi:Option Int}{h:H}(hn:n=l.length)(h0:0<=lo.getD 0)(h1:lo.getD 0<=hi.getD l.length)(h2:hi.getD l.length<=l.length):gZ env.P h 22 (.d (.ivs n (bJ l))) lo hi=some (.d (.ivs ((l.drop (lo.getD 0).toNat).take ((hi.getD l.length).toNat-(lo.getD 0).toNat)).length (bJ ((l.drop (lo.getD 0).toNat).take ((hi.getD l.length).toNat-(lo.getD 0).toNat))))):=by
 subst hn;simp only[gZ,aK1,aLx,pQ,h0,h1,h2,and_self,if_true,Ce,Az,Nat.zero_lt_one,bJ,List.map_take,List.map_drop]
 congr 3
 rw[Bs,Cf];omega
theorem aAb{l:List UInt8}{n:Nat}{u:Int}{h:H}(hn:n=l.length)(h0:0<=u)(h1:u<=l.length):gZ env.P h 22 (.d (.ivs n (bJ l))) none (some u)=some (.d (.ivs (l.take u.toNat).length (bJ (l.take u.toNat)))):=by
 rw[G9 hn sm (by simpa using h0) (by simpa using h1)];simp
theorem RU{l:List UInt8}{n:Nat}{u:Int}{h:H}(hn:n=l.length)(h0:0<=u)(h1:u<=l.length):gZ env.P h 22 (.d (.ivs n (bJ l))) (some u) none=some (.d (.ivs (l.drop u.toNat).length (bJ (l.drop u.toNat)))):=by
 rw[G9 hn (by simpa using h0) (by simpa using h1) sm];have:(List.take (l.length-u.toNat) (l.drop u.toNat))=l.drop u.toNat:=Cd sm;simp[this]
theorem aCU{h:H}{a b:Bool}:bV env .eql 4 h (.d (.bool a)) (.d (.bool b))=some (.d (.bool (a==b)),h):=by simp[bV,aBin,aNil,aOM,eqlA]
theorem aB7{h:H}{a b:Bool}:bV env .neq 4 h (.d (.bool a)) (.d (.bool b))=some (.d (.bool (!(a==b))),h):=by simp[bV,aBin,aNil,aOM,eqlA]
theorem LB:type_of% (AI @pG (AI @eN (AI @aAy (AI @WI (AI @MY (AI @cZ (AI @aAc (AI @aGH (AI @aC2 (AI @aDR (AI @aCG (AI @aCz (AI @aCH (AI @aJz (AI @aCU (AI @aB7 @Cn)))))))))))))))):=
 ⟨@pG,@eN,@aAy,@WI,@MY,@cZ,@aAc,@aGH,@aC2,@aDR,@aCG,@aCz,@aCH,@aJz,@aCU,@aB7,@Cn⟩
theorem CV:type_of% (AI @aAb @RU):=
 ⟨@aAb,@RU⟩
theorem DN:type_of% (AI @WD (AI @aCq (AI @WDD (AI @aC5 @CV)))):=
 ⟨@WD,@aCq,@WDD,@aC5,@CV⟩
theorem Dz{p:Prop}(h:p:=by first|assumption|exact⟨by kernel_rfl⟩|omega|(simp only[GT,LN]<;>omega)):p:=h
theorem UP:type_of% (AI @SLM (AI @WK (AI @UN (AI @TY (AI @LB (AI @MD @y9)))))):=
 ⟨@SLM,@WK,@UN,@TY,@LB,@MD,@y9⟩
end
def gnd:Gnd:=⟨[],false⟩
section
variable{R:Type}{L n:Nat}
def eP(x:Int):Bool:=decide (0<=x/\x<6)
def cO(x:Int):Bool:=decide (0<=x/\x<=63)
theorem JI(hn:1<=n)(a:Int):aA env L n 70 [nI a] []=some (.d (.bool (cO a)),[]):=by
 obtain _|n:=n;omega
 simp-implicitDefEqProofs (maxSteps:=9^7) (disch:=try exact Dz) only[↓DN,↓kAsg,↓kRet,UP,simprocAttr,aCg,N8,Tryz.f70]
 by_cases h:0<=a<;>simp[h,cO]
theorem gM:type_of% fun {L} a=>ks fun hn=> @JI L _ hn a:=fun {L} a=>ks fun hn=> @JI L _ hn a
theorem KM(hn:1<=n)(a:Int):aA env L n 40 [nI a] []=some (.d (.bool (cO a)),[]):=by
 obtain _|n:=n;omega
 simp-implicitDefEqProofs (maxSteps:=9^7) (disch:=try exact Dz) only[↓DN,↓kAsg,↓kRet,UP,simprocAttr,aDW,NS,Tryz.f40]
 by_cases h:0<=a<;>simp[h,cO]
theorem dV:type_of% fun {L} a=>ks fun hn=> @KM L _ hn a:=fun {L} a=>ks fun hn=> @KM L _ hn a
def cM(a i:Int):Bool:=decide ((a.fdiv (2^(min i.toNat 64))) % 2=1)
def bitI(n:Int):Int:=IntKind.i64.wrap (1*2^(min n.toNat 64))
theorem toNat_ofInt(x:Int):((BitVec.ofInt 64 x).toNat:Int)=x % 18446744073709551616:=by
 rw[BitVec.toNat_ofInt];omega
theorem aJR(x:Int):iAnd .i64 x 1=x % 2:=by
 unfold iAnd
 have h1:(BitVec.ofInt IntKind.i64.bits x&&&BitVec.ofInt IntKind.i64.bits 1).toNat=(BitVec.ofInt 64 x).toNat % 2:=by
  change (BitVec.ofInt 64 x&&&BitVec.ofInt 64 1).toNat=_
  rw[BitVec.toNat_and];exact Nat.and_one_is_mod _
 rw[h1];have h2:=toNat_ofInt x;rw[y9 om om];omega
theorem aJb:IntKind.i64.bits=64:=rfl
theorem aCd(hn:1<=n)(a i:Int)(hi:0<=i)(hi2:i<=9223372036854775807):aA env L n 101 [nI a,nI i] []=some (.d (.bool (cM a i)),[]):=by
 obtain _|n:=n;omega
 simp-implicitDefEqProofs (maxSteps:=9^7) (disch:=try exact Dz) only[↓DN,↓kAsg,↓kRet,UP,simprocAttr,↓RY,aO5,aJR,aJb,aMn,aGC,Tryz.f101]<;>rfl
theorem tD:type_of% fun {L} a i hi hi2=>ks fun hn=> @aCd L _ hn a i hi hi2:=fun {L} a i hi hi2=>ks fun hn=> @aCd L _ hn a i hi hi2
theorem aIH(hn:1<=n)(a i:Int):aA env L n 41 [nI a,nI i] []=some (.d (.bool (decide (0<=i)&&cM a i)),[]):=by
 obtain _|n:=n;omega
 simp-implicitDefEqProofs (maxSteps:=9^7) (disch:=try exact Dz) only[↓DN,↓kAsg,↓kRet,UP,simprocAttr,aJR,aJb,aP3,aLN,Tryz.f41]
 by_cases h:0<=i<;>simp[h,cM]
theorem QT:type_of% fun {L} a i=>ks fun hn=> @aIH L _ hn a i:=fun {L} a i=>ks fun hn=> @aIH L _ hn a i
theorem aB9(hn:1<=n)(i:Int)(hi:0<=i)(hi2:i<=9223372036854775807):aA env L n 155 [nI i] []=some (nI (bitI i),[]):=by
 obtain _|n:=n;omega
 simp-implicitDefEqProofs (maxSteps:=9^7) (disch:=try exact Dz) only[↓DN,↓kAsg,↓kRet,UP,simprocAttr,↓RY,aO5,aJb,aMe,aFw,Tryz.f155]<;>rfl
theorem aMb:type_of% fun {L} i hi hi2=>ks fun hn=> @aB9 L _ hn i hi hi2:=fun {L} i hi hi2=>ks fun hn=> @aB9 L _ hn i hi hi2
def aB(a:Int):List Int:=[0,1,2,3,4,5].filter (cM a)
def qL:Nat->List Int
 |0=>[]
 |j+1=>(6-((j+1:Nat):Int))::qL j
theorem wW{x:Int}:eP x=true↔0<=x/\x<=5:=by
 unfold eP;simp;omega
theorem aA5(hn:1<=n){a:Int}{k:KE R}:∀(j:Nat) (i:Int) (l:List Int) (len m:Nat),i+j=6->0<=i->j<m->len=l.length->l.length+j<100->
  aS env (aA env L n) L 0 [0,0,0,2] Bz27 (sQ 0) Bz50 m (nI a::Y1 (.d .nils::.sl 0 0 0 len::Y1 (nI i::Y8 (Y2 (Y1 ([])))))) [.arr (ints l) 1 0] k
  =k (.exit 0) (nI a::Y1 (.d .nils::.sl 0 0 0 (len+((qL j).filter (cM a)).length)::Y1 (nI 6::Y8 (Y2 (Y1 ([])))))) [.arr (ints (l++(qL j).filter (cM a))) 1 0]:=by
 intro j
 induction j with
 |zero=>
  intro i l len m hi h0 hm hl hlen;obtain _|m:=m;omega;obtain rfl:i=6:=om
  simp-implicitDefEqProofs (maxSteps:=9^7) (disch:=try exact Dz) only[↓DN,↓kRet,UP,simprocAttr,r6,rC,Tryz.f63];simp only[qL,List.filter_nil,Aj,Ac,Bu]
 |succ j ih=>
  intro i l len m hi h0 hm hl hlen;obtain _|m:=m;omega;have hc:i<6:=om;have hr:qL (j+1)=i::qL j:=by simp only[qL];congr 1;omega
  rw[hr,List.filter_cons]
  cases hb:cM a i with
  |true=>
   simp-implicitDefEqProofs (maxSteps:=9^7) (disch:=try exact Dz) only[↓DN,↓kRet,UP,simprocAttr,↓QT,↓ih,hc,hb,h0,r6,rC,Tryz.f63]
   try simp only[Al,Ax,Ao,Nat.add_assoc,Nat.add_comm 1]
  |false=>
   simp-implicitDefEqProofs (maxSteps:=9^7) (disch:=try exact Dz) only[↓DN,↓kRet,UP,simprocAttr,↓QT,↓ih,hc,hb,h0,r6,rC,Tryz.f63]
theorem O0{R:Type}{L n m:Nat}(hn:1<=n){a:Int}{k:KE R}(hm:6<m):
  aS env (aA env L n) L 0 [0,0,0,2] Bz27 (sQ 0) Bz50 m (nI a::Y1 (.d .nils::.sl 0 0 0 0::Y1 (nI 0::Y8 (Y2 (Y1 ([])))))) [.arr [] 1 0] k
  =k (.exit 0) (nI a::Y1 (.d .nils::.sl 0 0 0 (aB a).length::Y1 (nI 6::Y8 (Y2 (Y1 ([])))))) [.arr (ints (aB a)) 1 0]:=by
 have h:=aA5 (R:=R) (L:=L) hn (a:=a) (k:=k) 6 0 [] 0 m rfl om hm rfl sm;simp only[Ag,Ao]at h;exact h
theorem bP(a:Int):(aB a).length<=6:=by
 unfold aB;exact List.length_filter_le _ _
theorem ND(hn:2<=n)(a:Int)(hL:2^60<=L):aA env L n 63 [nI a] []=some (.d (.ivs (aB a).length (ints (aB a))),[]):=by
 obtain _|n:=n;omega
 simp-implicitDefEqProofs (maxSteps:=9^7) (disch:=try exact Dz) only[↓DN,↓kAsg,UP,simprocAttr,↓O0,aEt,R2,Tryz.f63]
theorem kP:type_of% fun {L} a hL=>ks fun hn=> @ND L _ hn a hL:=fun {L} a hL=>ks fun hn=> @ND L _ hn a hL
theorem aP7{l:List Int}{P:Int->Prop}(h:∀v∈l,P v){k:Nat}(hk:k<l.length):P (l.getD k 0):=by
 rw[Aa,Ae hk];exact h _ (At hk)
theorem cK{a:Int}:∀v∈aB a,0<=v/\v<=5:=by
 intro v hv;have:=(List.mem_filter.1 hv).1;simp at this;omega
end
structure Edge where
 fr:Int
 lt:Int
 to:Int
 deriving DecidableEq,Inhabited
def aS2(e:Edge):List D:=[.int .i64 e.fr,.int .i64 e.lt,.int .i64 e.to]
def aSA(l:List Edge):List D:=(l.map aS2).flatten
def cmpI(a b:Int):Int:=if a<b then -1 else if b<a then 1 else 0
def p9:List Int->Int
 | []=>0
 |a::l=>if a=0 then p9 l else a
def lz:List Int->Nat
 | []=>0
 |a::l=>if a=0 then lz l+1 else 0
theorem cA{α:Type}{l:List α}{i:Nat}{d:α}(h:i<l.length):l.drop i=l.getD i d::l.drop (i+1):=by
 rw[Dk h,Aa,Ae h];rfl
def seek(p:Nat->Bool):Nat->Nat->Option Nat
 |0,_=>none
 |j+1,i=>if p i=true then some i else seek p j (i+1)
theorem lN{p:Nat->Bool}:∀ {j i:Nat},seek p j i=none↔∀k,i<=k->k<i+j->p k=false
 |0,i=>by simp only[seek,true_iff];intro k h1 h2;omega
 |j+1,i=>by
  simp only[seek]
  by_cases hp:p i=true
  ·rw[if_pos hp];simp only[false_iff,reduceCtorEq];intro h;have:=h i (Ab _) om;rw[hp]at this;cases this
  ·rw[if_neg hp,lN]
   constructor
   ·intro h k h1 h2
    by_cases e:k=i
    ·subst e;simpa using hp
    ·exact h k om om
   ·intro h k h1 h2;exact h k om om
theorem CP{p:Nat->Bool}:∀ {j i r:Nat},seek p j i=some r->i<=r/\r<i+j/\p r=true/\∀k,i<=k->k<r->p k=false
 |0,i,r,h=>by simp[seek]at h
 |j+1,i,r,h=>by
  simp only[seek]at h
  by_cases hp:p i=true
  ·rw[if_pos hp]at h;cases h;exact⟨Ab _,by omega,hp,fun k h1 h2=>by omega⟩
  ·rw[if_neg hp]at h;obtain⟨h1,h2,h3,h4⟩:=CP h;refine⟨by omega,by omega,h3,fun k k1 k2=> ?_⟩
   by_cases e:k=i
   ·subst e;simpa using hp
   ·exact h4 k om k2
theorem eY{p:Nat->Bool}{j i:Nat}(h:p i=true):seek p (j+1) i=some i:=by simp[seek,h]
theorem gT{p:Nat->Bool}{j i:Nat}(h:p i=false):seek p (j+1) i=seek p j (i+1):=by simp[seek,h]
structure Sys where
 al:Int
 st:Int
 es:List Edge
 deriving DecidableEq,Inhabited
theorem m8{a b:UInt8}{x y:List UInt8}:Op.bytesLess (a::x) (b::y)=true↔a.toNat<b.toNat\/a=b/\Op.bytesLess x y=true:=by
 simp only[Op.bytesLess,Bool.or_eq_true,Ar,beq_iff_eq,decide_eq_true_eq]<;>rfl
theorem SG:∀x:List UInt8,¬Op.bytesLess x x=true
 | [],h=>by simp[Op.bytesLess]at h
 |a::x,h=>by
  rcases m8.1 h with h|⟨_,h⟩
  ·omega
  ·exact SG x h
theorem JP:∀ {x y z:List UInt8},Op.bytesLess x y=true->Op.bytesLess y z=true->Op.bytesLess x z=true
 |_,[],_,h,_=>by simp[Op.bytesLess]at h
 |_,_::_,[],_,k=>by simp[Op.bytesLess]at k
 | [],_::_,_::_,_,_=>by simp[Op.bytesLess]
 |a::x,b::y,c::z,h,k=>by
  rw[m8]at *
  rcases h with h|⟨rfl,h⟩<;>rcases k with k|⟨rfl,k⟩
  ·exact .inl om
  ·exact .inl h
  ·exact .inl k
  ·exact .inr ⟨rfl,JP h k⟩
theorem DX:∀(x y:List UInt8),x=y\/Op.bytesLess x y=true\/Op.bytesLess y x=true
 | [],[]=>.inl rfl
 | [],_::_=>.inr (.inl (by simp[Op.bytesLess]))
 |_::_,[]=>.inr (.inr (by simp[Op.bytesLess]))
 |a::x,b::y=>by
  rw[m8,m8]
  rcases Dc a.toNat b.toNat with h|h|h
  ·exact .inr (.inl (.inl h))
  ·have e:a=b:=UInt8.toNat_inj.1 h;subst e
   rcases DX x y with g|g|g
   ·exact .inl (by rw[g])
   ·exact .inr (.inl (.inr ⟨rfl,g⟩))
   ·exact .inr (.inr (.inr ⟨rfl,g⟩))
  ·exact .inr (.inr (.inl h))
theorem aK9{x y:List UInt8}:cmpB x y<0↔Op.bytesLess x y=true:=by
 unfold cmpB
 by_cases h1:Op.bytesLess x y=true
 ·simp[h1]
 ·by_cases h2:Op.bytesLess y x=true<;>simp[h1,h2]
theorem F6{x y:List UInt8}:cmpX x y<0↔x.length<y.length\/x.length=y.length/\Op.bytesLess x y=true:=by
 unfold cmpX;simp only[aEG]
 rcases Dc x.length y.length with h|h|h
 ·have e:HR (x.length:Int) (y.length:Int)= -1:=by unfold HR;rw[if_pos om]
  rw[e];simp[h]
 ·have e:HR (x.length:Int) (y.length:Int)=0:=by unfold HR;rw[h];simp
  rw[e,if_pos rfl,h]
  by_cases h0:cmpB x y=0
  ·rw[if_pos h0];have:=aK9 (x:=x) (y:=y);rw[h0]at this;simp only[true_and,<-this];omega
  ·rw[if_neg h0,aK9];simp
 ·have e:HR (x.length:Int) (y.length:Int)=1:=by unfold HR;rw[if_neg om,if_pos om]
  rw[e,if_neg om]
  constructor
  ·intro h2;omega
  ·rintro(h2|⟨h2,_⟩)<;>omega
theorem F8(x:List UInt8):¬cmpX x x<0:=by
 rw[F6];rintro(h|⟨_,h⟩)
 ·omega
 ·exact SG _ h
theorem rX{x y z:List UInt8}(h:cmpX x y<0)(k:cmpX y z<0):cmpX x z<0:=by
 rw[F6]at *
 rcases h with h|⟨h1,h⟩<;>rcases k with k|⟨k1,k⟩
 ·exact .inl om
 ·exact .inl om
 ·exact .inl om
 ·exact .inr ⟨by omega,JP h k⟩
theorem NK(x y:List UInt8):x=y\/cmpX x y<0\/cmpX y x<0:=by
 rw[F6,F6]
 rcases Dc x.length y.length with h|h|h
 ·exact .inr (.inl (.inl h))
 ·rcases DX x y with g|g|g
  ·exact .inl g
  ·exact .inr (.inl (.inr ⟨h,g⟩))
  ·exact .inr (.inr (.inr ⟨h.symm,g⟩))
 ·exact .inr (.inr (.inl h))
theorem aGy{x y:List UInt8}(h:cmpX x y<0):¬cmpX y x<0:=fun k=>F8 x (rX h k)
theorem LW(a b c:List UInt8)(h1:leX a b=true)(h2:leX b c=true):leX a c=true:=by
 unfold leX at *;simp only[Dh,decide_eq_false_iff_not]at *;intro h
 rcases NK a b with rfl|g|g
 ·exact h2 h
 ·exact h2 (rX h g)
 ·exact h1 g
theorem J5(a b:List UInt8):(leX a b||leX b a)=true:=by
 unfold leX
 by_cases h:cmpX b a<0
 ·have:=aGy h;simp[this]
 ·simp[h]
theorem aBF{a b:List UInt8}(h1:leX a b=true)(h2:leX b a=true):a=b:=by
 unfold leX at *;simp only[Dh,decide_eq_false_iff_not]at *
 rcases NK a b with g|g|g
 ·exact g
 ·exact(h2 g).elim
 ·exact(h1 g).elim
theorem aNC{a b:List UInt8}(h:cmpX a b<0):leX a b=true:=by
 unfold leX;simp only[Dh,decide_eq_false_iff_not];exact aGy h
theorem aS5{a b:Int}:[D.int .i64 a,.int .i64 b]=ints [a,b]:=rfl
theorem aOD{x y:List UInt8}(h1:¬Op.bytesLess x y=true):(x==y)= !Op.bytesLess y x:=by
 rw[Bool.eq_iff_iff];simp only[Dh,beq_iff_eq]
 rcases DX x y with rfl|g|g
 ·simpa using h1
 ·exact absurd g h1
 ·refine⟨fun e=> ?_,fun e=>by rw[g]at e;cases e⟩;subst e;exact absurd g h1
theorem aCF{E:Env}{t:TypeId}{h:H}{a b:List UInt8}:bV E .gtr t h (.d (.str a)) (.d (.str b))=some (.d (.bool (!(Op.bytesLess a b||a==b))),h):=by simp[bV,aBin]
theorem aMQ{E:Env}{t:TypeId}{h:H}{a b:List UInt8}:bV E .neq t h (.d (.str a)) (.d (.str b))=some (.d (.bool (!(a==b))),h):=by simp[bV,aBin]
theorem PJ{E:Env}{t:TypeId}{h:H}{a b:List UInt8}:bV E .lss t h (.d (.str a)) (.d (.str b))=some (.d (.bool (Op.bytesLess a b)),h):=by simp[bV,aBin]
section
variable{R:Type}{L n:Nat}
namespace X1
noncomputable def env1:Env:={ env with prim:=fun _=>none,eqs:=[]}
theorem e1P:env1.P=env.P:=rfl
theorem YV{args:List A}{h:H}:aA env1 L (n+1) 99 args h=cT env1 (aA env1 L n) L h.length [] ([]) aAQ JC (args++List.replicate (Tryz.f99.ntmps-args.length) (.d .undef)) h (kFin env1.P h.length false [.tmp 2]):=
 IM (mode:=1) kr Tryz.func99 kr kr aBR kr kr
theorem qE{args:List A}{h:H}:aA env1 L (n+1) 68 args h=cT env1 (aA env1 L n) L h.length [] ([]) WM mZ (args++List.replicate (Tryz.f68.ntmps-args.length) (.d .undef)) h (kFin env1.P h.length false [.tmp 4]):=
 IM (mode:=1) kr Tryz.func68 kr kr W7 kr kr
theorem NI{args:List A}{h:H}:aA env1 L (n+1) 67 args h=cT env1 (aA env1 L n) L h.length [] (false::false::true::true::false::false::true::true::true::false::false::false::false::false::false::false::false::false::[]) pH H5 (args++List.replicate (Tryz.f67.ntmps-args.length) (.d .undef)) h (kFin env1.P h.length false [.tmp 2]):=
 IM (mode:=1) kr Tryz.func67 kr kr RC kr kr
theorem rU{R:Type}{call:aX}{L nf n:Nat}{thaw:List Nat}{live m:List Bool}{s:List A}{h:H}{k:KE R}:aS env1 call L nf thaw live (pH 0) m (n+1) s h k=cT env1 call L nf thaw live pH s6 s h (X4 env1 call L nf thaw live (pH 0) m n k):=
 aC0 RC kr
theorem QF{args:List A}{h:H}:aA env1 L (n+1) 100 args h=cT env1 (aA env1 L n) L h.length [] ([]) SQ CR (args++List.replicate (Tryz.f100.ntmps-args.length) (.d .undef)) h (kFin env1.P h.length false [.tmp 2]):=
 IM (mode:=1) kr Tryz.func100 kr kr SS kr kr
theorem mG{args:List A}{h:H}:aA env1 L (n+1) 69 args h=cT env1 (aA env1 L n) L h.length [] ([]) OW j9 (args++List.replicate (Tryz.f69.ntmps-args.length) (.d .undef)) h (kFin env1.P h.length false [.tmp 4]):=
 IM (mode:=1) kr Tryz.func69 kr kr OY kr kr
theorem aET{args:List A}{h:H}:aA env1 L (n+1) 34 args h=cT env1 (aA env1 L n) L h.length [] ([]) aG8 VX (args++List.replicate (Tryz.f34.ntmps-args.length) (.d .undef)) h (kFin env1.P h.length false [.tmp 4]):=
 IM (mode:=1) kr Tryz.func34 kr kr aHs kr kr
theorem YO(hn:1<=n)(a:Int):aA env1 L n 99 [nI a] []=some (.d (.bool false),[]):=by
 obtain _|n:=n;omega;rw[YV];simp only[JC,Tryz.f99,SLM,simprocAttr]
 simp-implicitDefEqProofs (maxSteps:=9^7) (disch:=try exact Dz) only[↓DN,↓kAsg,↓kRet,e1P,UP,simprocAttr]
theorem uA{hq:H}{k:KA R}(hn:1<=n)(a:Int):aZ env1 (aA env1 L n) hq 99 [nI a] k=k (.d (.bool false)) hq:=
 bZ rfl (YO hn a) rfl (.inl rfl)
theorem SV(hn:2<=n)(a b:Int):aA env1 L n 68 [nI a,nI b] []=some (nI (cmpI a b),[]):=by
 unfold cmpI
 by_cases h1:a<b
 ·obtain _|n:=n;omega;rw[qE];simp only[mZ,Tryz.f68,SLM,simprocAttr]
  simp-implicitDefEqProofs (maxSteps:=9^7) (disch:=try exact Dz) only[↓DN,↓kAsg,↓kRet,e1P,UP,simprocAttr,↓uA,h1]
 ·by_cases h2:b<a
  ·obtain _|n:=n;omega;rw[qE];simp only[mZ,Tryz.f68,SLM,simprocAttr]
   simp-implicitDefEqProofs (maxSteps:=9^7) (disch:=try exact Dz) only[↓DN,↓kAsg,↓kRet,e1P,UP,simprocAttr,↓uA,h1,h2]
  ·obtain _|n:=n;omega;rw[qE];simp only[mZ,Tryz.f68,SLM,simprocAttr]
   simp-implicitDefEqProofs (maxSteps:=9^7) (disch:=try exact Dz) only[↓DN,↓kAsg,↓kRet,e1P,UP,simprocAttr,↓uA,h1,h2]
theorem SN{hq:H}{k:KA R}(hn:2<=n)(a b:Int):aZ env1 (aA env1 L n) hq 68 [nI a,nI b] k=k (nI (cmpI a b)) hq:=
 bZ rfl (SV hn a b) rfl (.inl rfl)
theorem II(hn:1<=n){l:List Int}(hl:l.length<=1000){k:KE R}:∀(i:Int) (m:Nat) (h0:0<=i) (hi:i<=l.length) (hm:(l.length:Int)-i<m),
  aS env1 (aA env1 L n) L 0 [] (Z2 (U2 (Z2 (U2 (U1 (Z8 (Z1 ([])))))))) (pH 0) (U2 (Z2 (U2 (Z2 (Z1 (U8 (U1 ([])))))))) m (Y2 (nI 0::nI 0::Y2 (.d (.ivs l.length (ints l))::nI (l.length)::nI i::Y8 (Y1 ([]))))) [] k
  =if p9 (l.drop i.toNat)=0 then k (.exit 0) (Y2 (nI 0::nI 0::Y2 (.d (.ivs l.length (ints l))::nI (l.length)::nI (l.length)::Y8 (Y1 ([]))))) []else k .ret (Y2 (nI (p9 (l.drop i.toNat))::nI 0::Y2 (.d (.ivs l.length (ints l))::nI (l.length)::nI (i+lz (l.drop i.toNat))::Y8 (Y1 ([]))))) []:=by
 intro i m h0 hi hm;obtain⟨j,hj⟩:∃j:Nat,(j:Int)=(l.length:Int)-i:=⟨((l.length:Int)-i).toNat,by omega⟩
 induction j generalizing i m with
 |zero=>
  obtain _|m:=m;omega;obtain rfl:i=l.length:=om;rw[rU];simp only[s6,Tryz.f67,SLM,simprocAttr]
  simp-implicitDefEqProofs (maxSteps:=9^7) (disch:=try exact Dz) only[↓DN,↓kRet,UP,simprocAttr,Ah];simp only[Bw,p9,if_true]
 |succ j ih=>
  obtain _|m:=m;omega;have hc:i<l.length:=om;have hk:i.toNat<l.length:=om;have e1:(i+1).toNat=i.toNat+1:=om;rw[cA hk (d:=0)]
  by_cases hz:l.getD i.toNat 0=0
  ·rw[rU];simp only[s6,Tryz.f67,SLM,simprocAttr]
   simp-implicitDefEqProofs (maxSteps:=9^7) (disch:=try exact Dz) only[↓DN,↓kRet,e1P,UP,simprocAttr,hc,hz,↓ih];simp only[p9,lz,if_true,e1,Int.natCast_add,Int.add_assoc,Int.add_comm 1]<;>rfl
  ·rw[rU];simp only[s6,Tryz.f67,SLM,simprocAttr]
   simp-implicitDefEqProofs (maxSteps:=9^7) (disch:=try exact Dz) only[↓DN,↓kRet,e1P,UP,simprocAttr,hc,hz];simp only[p9,lz,hz,if_false,Ap,Int.add_zero]
theorem aFb(hn:2<=n)(l:List Int)(hl:l.length<=1000)(hL:2^60<=L):aA env1 L n 67 [.d (.ivs l.length (ints l))] []=some (nI (p9 l),[]):=by
 by_cases hz:p9 l=0
 ·obtain _|n:=n;omega;rw[NI];simp only[H5,Tryz.f67,SLM,simprocAttr]
  simp-implicitDefEqProofs (maxSteps:=9^7) (disch:=try exact Dz) only[↓DN,↓kAsg,↓kRet,e1P,UP,simprocAttr,↓II,Cv,hz]
 ·obtain _|n:=n;omega;rw[NI];simp only[H5,Tryz.f67,SLM,simprocAttr]
  simp-implicitDefEqProofs (maxSteps:=9^7) (disch:=try exact Dz) only[↓DN,↓kAsg,↓kRet,e1P,UP,simprocAttr,↓II,Cv,hz]
theorem aER{k:A->Option R}(hn:2<=n)(l:List Int)(hl:l.length<=1000)(hL:2^60<=L):vM (aA env1 L n) 67 [.d (.ivs l.length (ints l))] k=k (nI (p9 l)):=
 mH (aFb hn l hl hL) rfl
theorem aAS{hq:H}{k:KA R}{id0 g0 o0 len0:Nat}:aZ env1 (aA env1 L n) hq 67 [.sl id0 g0 o0 len0] k=match box (XQ hq [.sl id0 g0 o0 len0])with
  |.mk (some fs)=>vM (aA env1 L n) 67 fs fun r=>k r hq
  |_=>none:=eB yE
theorem PA(hn:1<=n)(x:List UInt8):aA env1 L n 100 [.d (.str x)] []=some (.d (.bool false),[]):=by
 obtain _|n:=n;omega;rw[QF];simp only[CR,Tryz.f100,SLM,simprocAttr]
 simp-implicitDefEqProofs (maxSteps:=9^7) (disch:=try exact Dz) only[↓DN,↓kAsg,↓kRet,e1P,UP,simprocAttr,aMQ]
theorem oM{hq:H}{k:KA R}(hn:1<=n)(x:List UInt8):aZ env1 (aA env1 L n) hq 100 [.d (.str x)] k=k (.d (.bool false)) hq:=
 bZ rfl (PA hn x) rfl (.inl rfl)
theorem MQ(hn:2<=n)(x y:List UInt8):aA env1 L n 69 [.d (.str x),.d (.str y)] []=some (nI (cmpB x y),[]):=by
 unfold cmpB
 by_cases h1:Op.bytesLess x y=true
 ·obtain _|n:=n;omega;rw[mG];simp only[j9,Tryz.f69,SLM,simprocAttr]
  simp-implicitDefEqProofs (maxSteps:=9^7) (disch:=try exact Dz) only[↓DN,↓kAsg,↓kRet,e1P,UP,simprocAttr,↓oM,PJ,h1]
 ·have hg:=aOD h1
  by_cases h2:Op.bytesLess y x=true
  ·rw[h2,Bool.not_true]at hg;obtain _|n:=n;omega;rw[mG];simp only[j9,Tryz.f69,SLM,simprocAttr]
   simp-implicitDefEqProofs (maxSteps:=9^7) (disch:=try exact Dz) only[↓DN,↓kAsg,↓kRet,e1P,UP,simprocAttr,↓oM,PJ,aCF,h1,h2,hg]
  ·rw[Bool.eq_false_iff.2 h2,Bool.not_false]at hg;obtain _|n:=n;omega;rw[mG];simp only[j9,Tryz.f69,SLM,simprocAttr]
   simp-implicitDefEqProofs (maxSteps:=9^7) (disch:=try exact Dz) only[↓DN,↓kAsg,↓kRet,e1P,UP,simprocAttr,↓oM,PJ,aCF,h1,h2,hg]
theorem MV{hq:H}{k:KA R}(hn:2<=n)(x y:List UInt8):aZ env1 (aA env1 L n) hq 69 [.d (.str x),.d (.str y)] k=k (nI (cmpB x y)) hq:=
 bZ rfl (MQ hn x y) rfl (.inl rfl)
theorem ev1_i_shortlex(hn:4<=n)(x y:List UInt8)(hL:2^60<=L):aA env1 L n 34 [.d (.str x),.d (.str y)] []=some (nI (cmpX x y),[]):=by
 have k3:∀ {R:Type} {n:Nat} {k:A->Option R},2<=n->vM (aA env1 L n) 67 [.d (.ivs 2 (ints [cmpI x.length y.length,cmpB x y]))] k=k (nI (p9 [cmpI x.length y.length,cmpB x y])):=fun h=>aER h [cmpI x.length y.length,cmpB x y] sm hL;obtain _|n:=n;omega;rw[aET];simp only[VX,Tryz.f34,SLM,simprocAttr]
 simp-implicitDefEqProofs (maxSteps:=9^7) (disch:=try exact Dz) only[↓DN,↓kAsg,↓kRet,e1P,UP,simprocAttr,↓SN,↓MV,↓aAS,aS5,↓k3]<;>rfl
end X1
end
section
open Go.Shelf
def aJG:Go.Shelf.Ren:=⟨fun|6=>45|15=>82|14=>81|28=>116|29=>117|20=>108|21=>109|22=>110|23=>111|24=>112|25=>113|26=>114|27=>115|46=>137|47=>138|48=>139|49=>140|50=>141|57=>153|n=>n,fun|22=>29|24=>9|25=>61|3=>3|39=>69|0=>0|53=>120|55=>122|4=>4|46=>113|45=>112|50=>117|5=>5|9=>9|66=>145|70=>149|76=>160|77=>161|n=>n,fun|n=>n⟩
theorem aJI:Go.Proofs.SlLaysF.n6 Tryz.prog aJG:={
 mixed:=by kernel_rfl
 f6:=⟨Tryz.f45.name,by decide,Tryz.func45.trans (congrArg some (by kernel_rfl))⟩
 f14:=⟨Tryz.f81.name,by decide,Tryz.func81.trans (congrArg some (by kernel_rfl))⟩
 f15:=Tryz.func82.trans (congrArg some (by kernel_rfl))
 f20:=⟨Tryz.f108.name,by decide,Tryz.func108.trans (congrArg some (by kernel_rfl))⟩
 f21:=⟨Tryz.f109.name,by decide,Tryz.func109.trans (congrArg some (by kernel_rfl))⟩
 f22:=⟨Tryz.f110.name,by decide,Tryz.func110.trans (congrArg some (by kernel_rfl))⟩
 f23:=⟨Tryz.f111.name,by decide,Tryz.func111.trans (congrArg some (by kernel_rfl))⟩
 f24:=⟨Tryz.f112.name,by decide,Tryz.func112.trans (congrArg some (by kernel_rfl))⟩
 f25:=⟨Tryz.f113.name,by decide,Tryz.func113.trans (congrArg some (by kernel_rfl))⟩
 f26:=⟨Tryz.f114.name,by decide,Tryz.func114.trans (congrArg some (by kernel_rfl))⟩
 f27:=⟨Tryz.f115.name,by decide,Tryz.func115.trans (congrArg some (by kernel_rfl))⟩
 f28:=Tryz.func116.trans (congrArg some (by kernel_rfl))
 f29:=Tryz.func117.trans (congrArg some (by kernel_rfl))
 f46:=⟨Tryz.f137.name,by decide,Tryz.func137.trans (congrArg some (by kernel_rfl))⟩
 f47:=Tryz.func138.trans (congrArg some (by kernel_rfl))
 f48:=Tryz.func139.trans (congrArg some (by kernel_rfl))
 f49:=⟨Tryz.f140.name,by decide,Tryz.func140.trans (congrArg some (by kernel_rfl))⟩
 f50:=⟨Tryz.f141.name,by decide,Tryz.func141.trans (congrArg some (by kernel_rfl))⟩
 f57:=⟨Tryz.f153.name,by decide,Tryz.func153.trans (congrArg some (by kernel_rfl))⟩
 t0:=Tryz.underlying0
 a0:=Tryz.isAgg0
 z0:=Tryz.sizeOf0
 v0:=Tryz.zeroValue0
 t3:=Tryz.underlying3
 a3:=Tryz.isAgg3
 z3:=Tryz.sizeOf3
 v3:=Tryz.zeroValue3
 t4:=Tryz.underlying4
 a4:=Tryz.isAgg4
 z4:=Tryz.sizeOf4
 v4:=Tryz.zeroValue4
 t5:=Tryz.underlying5
 a5:=Tryz.isAgg5
 z5:=Tryz.sizeOf5
 v5:=Tryz.zeroValue5
 t9:=Tryz.underlying9
 a9:=Tryz.isAgg9
 z9:=Tryz.sizeOf9
 v9:=Tryz.zeroValue9
 t22:=Tryz.underlying29
 a22:=Tryz.isAgg29
 z22:=Tryz.sizeOf29
 v22:=Tryz.zeroValue29
 a24:=Tryz.isAgg9
 z24:=Tryz.sizeOf9
 t25:=Tryz.underlying61
 a25:=Tryz.isAgg61
 z25:=Tryz.sizeOf61
 v25:=Tryz.zeroValue61
 t39:=Tryz.underlying69
 a39:=Tryz.isAgg69
 z39:=Tryz.sizeOf69
 v39:=Tryz.zeroValue69
 t45:=Tryz.underlying112
 a45:=Tryz.isAgg112
 z45:=Tryz.sizeOf112
 v45:=Tryz.zeroValue112
 t46:=Tryz.underlying113
 a46:=Tryz.isAgg113
 z46:=Tryz.sizeOf113
 v46:=Tryz.zeroValue113
 t50:=Tryz.underlying117
 a50:=Tryz.isAgg117
 z50:=Tryz.sizeOf117
 v50:=Tryz.zeroValue117
 t53:=Tryz.underlying120
 a53:=Tryz.isAgg120
 z53:=Tryz.sizeOf120
 v53:=Tryz.zeroValue120
 t55:=Tryz.underlying122
 a55:=Tryz.isAgg122
 z55:=Tryz.sizeOf122
 v55:=Tryz.zeroValue122
 t66:=Tryz.underlying145
 a66:=Tryz.isAgg145
 z66:=Tryz.sizeOf145
 v66:=Tryz.zeroValue145
 t70:=Tryz.underlying149
 a70:=Tryz.isAgg149
 z70:=Tryz.sizeOf149
 v70:=Tryz.zeroValue149
 t76:=Tryz.underlying160
 a76:=Tryz.isAgg160
 z76:=Tryz.sizeOf160
 v76:=Tryz.zeroValue160
 t77:=Tryz.underlying161
 a77:=Tryz.isAgg161
 z77:=Tryz.sizeOf161
 v77:=Tryz.zeroValue161}
end
section
variable{G:Gnd}
open Go.RowKit Go.Lib Go.Sort
theorem aRx:EnvOK X1.env1:=⟨fun t n h=>by
  have:X1.env1.eqs=[]:=rfl;rw[this]at h;simp at h,by kernel_rfl⟩
theorem aSQ{w w':World}(g:Grew true w w'):∃q os,w'=grow (w.drewN q) os:=by
 refine⟨w'.drawn-w.drawn,w'.heap.extract w.heap.size w'.heap.size,?_⟩
 have h1:w'.heap=w.heap++w'.heap.extract w.heap.size w'.heap.size:=by
  apply Array.ext_getElem?;intro j;rw[Array.getElem?_append]
  by_cases h:j<w.heap.size
  ·rw[if_pos h];exact g.same j h
  ·rw[if_neg h,Array.getElem?_extract];have:=g.size
   by_cases h2:j<w'.heap.size
   ·rw[if_pos om];congr 1;omega
   ·rw[if_neg om,Array.getElem?_eq_none om]
 have h2:w.drawn+(w'.drawn-w.drawn)=w'.drawn:=by have:=g.drawn rfl;omega
 have h3:=g.os;have h4:=g.tape;have h5:=g.output;generalize w'.heap.extract w.heap.size w'.heap.size=os at h1|-;generalize w'.drawn-w.drawn=q at h2|-
 cases w' with
 |mk heap tape drawn os' output=>
  simp only at h1 h2 h3 h4 h5;subst h1;subst h2;subst h3;subst h4;subst h5;rfl
def encX(x:List UInt8):Value:=.string ⟨x.toArray⟩
theorem aQn(x y:List UInt8)(w:World):Calls Tryz.prog 34 #[encX x,encX y] w fun e w'=>e=.returned (.int .i64 (cmpX x y))/\∃q os,w'=grow (w.drewN q) os:=by
 have he:=X1.ev1_i_shortlex (L:=2^60) (n:=4) (Ab _) x y (Ab _);obtain⟨_,hc⟩:=aNi (G:=⟨[],true⟩) (E:=X1.env1) (L:=2^60) aRx (fun f g h=>by cases h) 4 _ _ _ _ _ he
 have ha:ARv [] (fun _=>none) w (fun b=>b<w.heap.size) [.d (.str x),.d (.str y)] [encX x,encX y]:=by
  simp only[ARv,AR,DR,encX];exact⟨_,_,rfl,rfl,_,_,rfl,rfl,rfl⟩
 refine(hc (fun _=>none) w (fun b=>b<w.heap.size) _ (wM (fun _ h=>h) (ground_nil _ _)) ha).mono fun e w' hh=> ?_;obtain⟨v,ρ',I',rfl,s,hv⟩:=hh;have hv:v=.int .i64 (cmpX x y):=by simpa only[AR,DR]using hv
 subst hv;exact⟨rfl,aSQ (PK s)⟩
theorem swoX:SWO (ltOf cmpX) where
 irrefl x:=by unfold ltOf;simpa using F8 x
 trans x y z h1 h2:=by unfold ltOf at *;simp only[decide_eq_true_eq]at *;exact rX h1 h2
 ntrans x y z h1 h2:=by
  unfold ltOf at *;simp only[decide_eq_false_iff_not]at *;intro h3
  rcases NK x y with rfl|g|g
  ·exact h2 h3
  ·exact h1 g
  ·exact h2 (rX g h3)
theorem totX(x y:List UInt8)(h1:ltOf cmpX x y=false)(h2:ltOf cmpX y x=false):x=y:=by
 unfold ltOf at *;simp only[decide_eq_false_iff_not]at *
 rcases NK x y with h|h|h
 ·exact h
 ·exact(h1 h).elim
 ·exact(h2 h).elim
theorem aLQ:∀(ds:List D) (l:List (List UInt8)),CS ds=some l->ds=l.map .str
 | [],l,h=>by simp only[CS,Option.some.injEq]at h;subst h;rfl
 |d::ds,l,h=>by
  cases d<;>simp only[CS,reduceCtorEq]at h
  obtain⟨l',h1,rfl⟩:=Ay.1 h;rw[aLQ ds l' h1];rfl
theorem aJs{l:List (List UInt8)}{j:Nat}(h:j<l.length):∃s,(l.map D.str)[j]? =some (.str s)/\l.toArray[j]! =s:=by
 refine⟨l[j],?_,?_⟩
 ·rw[Bd,Ae h];rfl
 ·simp[h]
theorem aGO(b len cap:Nat)(l:List (List UInt8))(hl:l.length=len)(w:World)(hH:Holds encX w b 0 l.toArray)(hb:b<w.heap.size)(hm:len<=4294967296):
  Calls Tryz.prog 45 #[.slice (some ⟨b,0,none⟩) len cap,.func (.func 34) #[] #[]] w fun e w'=>e=.returned (.tuple #[])/\∃n os,w'=sortWorld encX w b 0 n (l.mergeSort leX).toArray os:=by
 have eg:∀args w,(callFunc 34 args).run Tryz.prog w=.ok (.enter 34 args) w:=enters_of Tryz.func34 kr rfl;have hS:=Any.slices_SortFunc_total aJI encX (fun _=>rfl) cmpX swoX 34 #[] b 0 cap l.toArray w eg (fun _ _ _ _ x y=>aQn x y _) hH hb (by simp;omega) totX;have e1:l.toArray.size=len:=by simpa using hl
 rw[e1]at hS;exact hS
theorem aLV(p:Option Addr)(cap:Nat)(fv:Value)(w:World):Calls Tryz.prog 45 #[.slice p 0 cap,fv] w fun e w'=>e=.returned (.tuple #[])/\w'=w:=
 AnyF.slices_SortFunc_none { aJI with} p cap fv w
theorem aKC:IF G Tryz.prog 45 (HF 34):=by
 intro k args h x h' he;simp only at he
 split at he
 ·rename_i hk
  subst hk;refine⟨⟨_,Tryz.func45,by kernel_rfl,by kernel_rfl⟩,fun ρ w I vs r ha=> ?_⟩;unfold HF at he
  split at he
  ·rename_i id gen off len f
   split at he
   ·rename_i cs e g hid
    split at he
    ·rename_i hc
     obtain⟨rfl,rfl,rfl,he3,hcl,hmx⟩:=hc
     split at he
     ·rename_i l htr
      cases he;obtain⟨v1,rest1,rfl,hx,hr1⟩:=hZ ha
      obtain⟨v2,rest2,rfl,hv2,hr2⟩:=hZ hr1;simp only[ARv]at hr2;subst hr2;simp only[AR,ARv]at hv2 hx;obtain⟨caps,rfl,hcaps⟩:=hv2;obtain rfl:caps= #[]:=by simpa using hcaps
      obtain⟨a,cap,rfl,hs⟩:=hx;have hcs:=aLQ _ _ htr
      have hll:l.length=len:=by
       have:=congrArg List.length hcs;rw[As,Bs]at this;omega
      by_cases h0:len=0
      ·subst h0;have hl0:l=[]:=Br.1 hll;subst hl0;refine(aLV a cap _ w).mono ?_;rintro e' w' ⟨rfl,rfl⟩
       have hsame:h.set id (.arr ((List.mergeSort [] leX).map .str++cs.drop 0) e g)=h:=by
        have:(List.mergeSort [] leX).map D.str++cs.drop 0=cs:=sm;rw[this];apply Cm;intro j;rw[Cj];obtain⟨hl,hee⟩:=Au.1 hid
        by_cases e1:id=j
        ·subst e1;simp[hl,hee]
        ·simp[e1]
       rw[hsame];exact⟨_,ρ,I,rfl,.refl r,by simp[AR,ARv]⟩
      ·obtain rfl:e=1:=om;simp only[slOK,hid]at hs;obtain⟨_,hs⟩:=hs;obtain⟨hlc,hs⟩:=hs trivial
       obtain⟨b,hρ⟩:∃b,ρ id=some b:=by
        cases hb:ρ id with
        |none=>rw[hb]at hs;simp only at hs;omega
        |some b=>exact⟨b,rfl⟩
       rw[hρ]at hs;simp only at hs;obtain⟨rfl,_,C,E,fz,hbk,hC⟩:=hs.resolve_left (by omega:¬cap=0);have hO:=r.obj id _ hid;simp only[OR,hρ]at hO;obtain⟨_,hIb,C2,E2,fz2,hbk2,hun,hdr⟩:=hO;rw[hbk]at hbk2;cases hbk2;simp only[Ag]at hC;rw[eT]at hdr;have hcell:=dI hbk;have hlt:b<w.heap.size:=(Bj.1 hbk).1
       have hH:Holds encX w b 0 l.toArray:=by
        intro j hj;simp only[List.size_toArray]at hj;obtain⟨z,h1,h2⟩:=aJs hj
        have hk:cs[j]? =some (.str z):=by
         rw[<-hcs,Cw,if_pos om]at h1;exact h1
        obtain⟨v,hv,hd,_⟩:=hdr j _ hk;simp only[DR]at hd;subst hd;rw[Ag]at hv|-;refine⟨by rw[cell?_eq,hv,h2];rfl,?_⟩;have h3:=hun.1 j om;simp only[World.frozen?,hbk]
        by_cases h4:fz.1<=j<;>by_cases h5:j<fz.2<;>simp[h4,h5]
        exact h3 ⟨h4,h5⟩
       refine(aGO b len cap l hll w hH hlt hmx).mono ?_;rintro e' w' ⟨rfl,n,os,rfl⟩;have hsl:(l.mergeSort leX).length=len:=by rw[List.length_mergeSort];exact hll
       obtain⟨C',hC'⟩:∃C',C'=putCells encX 0 (l.mergeSort leX).toArray C:=⟨_,rfl⟩
       have hC's:C'.size=C.size:=by rw[hC'];simp[putCells]
       have hC'g:∀k,k<C.size->C'[k]? =if k<len then some (encX ((l.mergeSort leX).toArray[k]!))else C[k]?:=by
        intro k hk;rw[hC'];simp only[putCells,Array.getElem?_mapIdx,List.size_toArray,hsl,Nat.zero_le,true_and,Ag,Nat.sub_zero];rw[Array.getElem?_eq_getElem hk]
        by_cases hk2:k<len<;>simp[hk2]
       obtain⟨W,hW⟩:∃W,W=sortWorld encX w b 0 n (l.mergeSort leX).toArray os:=⟨_,rfl⟩
       rw[<-hW];have hWh:W.heap=(w.heap.modify b (onCells (putCells encX 0 (l.mergeSort leX).toArray)))++os:=by rw[hW];rfl
       have hWb:W.heap[b]? =some (.cells C' E fz):=by
        rw[hWh,En (by simpa using hlt),Eh,if_pos rfl,hbk,hC'];rfl
       have hWo:∀k,k<w.heap.size->k≠b->W.heap[k]? =w.heap[k]?:=by
        intro k hk hne;rw[hWh,En (by simpa using hk),Eh,if_neg (Ne.symm hne)]
       have hcsC:cs.length<=C.size:=by
        rcases Cp C.size cs.length with hlt|hge
        ·obtain⟨v,hv,_⟩:=hdr C.size _ (Ae hlt);rw[Ag,hcell]at hv;simp at hv
        ·exact hge
       have hml:((l.mergeSort leX).map D.str).length=len:=by rw[As,hsl]
       have hlen':((l.mergeSort leX).map D.str++cs.drop len).length=cs.length:=by
        rw[Af,hml,Cf];omega
       have at_id:(h.set id (.arr ((l.mergeSort leX).map .str++cs.drop len) 1 g))[id]? =some (.arr ((l.mergeSort leX).map .str++cs.drop len) 1 g):=by
        have:=(Au.1 hid).1;simp[this]
       have hpk:∀(k:Nat) (d:D),((l.mergeSort leX).map D.str++cs.drop len)[k]? =some d->∃v,C'[k]? =some v/\v.oneCell'=true/\DR w I d v:=by
        intro k d hk;have hkl:=(Au.1 hk).1;rw[hlen']at hkl;rw[hC'g k om]
        by_cases hk3:k<len
        ·obtain⟨z,h1,h2⟩:=aJs (l:=l.mergeSort leX) (j:=k) om;rw[Bc om,h1]at hk;cases hk;rw[if_pos hk3,h2];exact⟨_,rfl,rfl,by simp only[DR,encX]⟩
        ·rw[if_neg hk3];rw[Bk om,hml,List.getElem?_drop]at hk;have e5:len+(k-len)=k:=om;rw[e5]at hk;obtain⟨v,hv,hd,h1⟩:=hdr k d hk;rw[Ag,hcell]at hv;exact⟨v,hv,h1,hd⟩
       have st:=dX (w':=W) (I':=I) (o':=.arr ((l.mergeSort leX).map .str++cs.drop len) 1 g) r hid trivial (some b) (by rw[hW];rfl) (by rw[hW];rfl) (by rw[hW];rfl)
        (by rw[hWh];simp) (fun k hk hne=>hWo k hk fun e=>hne (by rw[hρ,e])) (fun _ hb=>hb) (fun _ hb=>.inl hb) (fun b' hb'=>.inl (by rw[hρ];exact hb')) (fun _ gen' off' len' a' cap' hs2=> ?_) (fun _ gen' b' hs2=> ?_) (fun hE=> ?_) (by rw[hW];show w.drawn<=w.drawn+n;omega)
       ·exact⟨_,_,I,rfl,st,by simp[AR,ARv]⟩
       ·simp only[slOK,hid]at hs2;simp only[slOK,at_id,bE];refine⟨hs2.1,fun hg=> ?_⟩;obtain⟨q1,q2⟩:=hs2.2 hg;rw[hρ]at q2;simp only at q2;refine⟨q1,?_⟩
        rcases q2 with q2|⟨q3,q4,C3,E3,fz3,q5,q6⟩
        ·exact .inl q2
        ·rw[hbk]at q5;cases q5;exact .inr ⟨q3,by rw[hlen'];exact q4,C',E,fz,hWb,by rw[hC's];exact q6⟩
       ·simp only[ptOK,hid]at hs2;simp only[ptOK,at_id,bE];exact⟨hs2.1,fun hg=>by rw[<-hρ];exact hs2.2 hg⟩
       ·simp only[OR,bE];refine⟨by omega,hIb,C',E,fz,hWb,hun.keep om,?_⟩;rw[eT];intro k d hk;obtain⟨v,hv,h1,hd⟩:=hpk k d hk;refine⟨v,?_,nG hE.imm d v hd,h1⟩;rw[Ag,dI hWb,hv]
     ·cases he
    ·cases he
   ·cases he
  ·cases he
 ·cases he
end
end Ev
end Go.Proofs.YthlkcebdfbjdoaaGreat
