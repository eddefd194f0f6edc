/-
  What the types of the program are.
-/
import Derived.Test.YthlkcebdfbjdoaaGreatTy
import Derived.IntWalk
import Derived.Test.YthlkcebdfbjdoaaGreatEvRen
import Derived.Test.YthlkcebdfbjdoaaGreatEvPrim
set_option linter.unusedSimpArgs false
set_option linter.unusedVariables false
set_option maxRecDepth 8000
set_option maxHeartbeats 4000000
namespace Go.Proofs.YthlkcebdfbjdoaaGreat
namespace Ev
theorem zD{n:Int}(h1:-9223372036854775808<=n)(h2:n<=9223372036854775807):IntKind.i64.wrap n=n:=IntWalk.i64_in n ⟨h1,h2⟩
theorem aOy{n:Int}(h1:0<=n)(h2:n<=18446744073709551615):IntKind.u64.wrap n=n:=IntWalk.u64_in n ⟨h1,h2⟩
theorem aUh{n:Int}(h1:0<=n)(h2:n<=255):IntKind.u8.wrap n=n:=IntWalk.u8_in n ⟨h1,h2⟩
theorem aNl:env.P.underlying 3=some (.int .i64):=kr
theorem aTN:env.P.underlying 69=some (.int .u64):=kr
theorem ZV:env.P.underlying 5=some (.int .u8):=kr
theorem aOW:env.P.underlying 4=some .bool:=kr
theorem aJ7:env.P.underlying 9=some .string:=kr
theorem aTC:env.P.underlying 80=some (.slice 3):=kr
theorem aMJ:env.P.underlying 22=some (.slice 5):=kr
theorem ZE:env.P.cellsOf 3=1:=kr
theorem aMz:env.P.cellsOf 5=1:=kr
theorem aUe:fA env.P 3=true:=kr
theorem aUg:dJ env.P 3=some (nI 0):=kr
theorem S4{h:H}{n:Int}{K:IntKind}:eI env.P h 3 69 (.d (.int K n))=some (.d (.int .u64 (IntKind.u64.wrap n)),h):=xF aNl aTN
theorem aF1{h:H}{n:Int}{K:IntKind}:eI env.P h 3 5 (.d (.int K n))=some (.d (.int .u8 (IntKind.u8.wrap n)),h):=xF aNl ZV
theorem PB{h:H}{n:Int}{K:IntKind}:eI env.P h 5 3 (.d (.int K n))=some (nI (IntKind.i64.wrap n),h):=xF ZV aNl
def ints(l:List Int):List D:=l.map (.int .i64)
def bJ(l:List UInt8):List D:=l.map fun b=>.int .u8 b.toNat
abbrev rdO(c:List UInt8)(p:Int):O:=.box [.d (.ivs c.length (bJ c)),nI p]
abbrev Dw(m f:Nat)(xs:List A)(r:A)(c:List UInt8)(p q:Int):Prop:=∀(R:Type) (L n:Nat) (hq:H) (k:KA R),m<=n->2^60<=L->aY env (aA env L n) (rdO c p::hq) f (.ptr 0 0 0::xs) k=k r (rdO c q::hq)
abbrev KC(d L:Nat)(f:Nat)(xs:List A)(r:A):Prop:=∀(R:Type) (n:Nat) (hq:H) (k:KA R),d<=n->aY env (aA env L n) hq f xs k=k r hq
theorem ks{d L:Nat}{f:Nat}{xs:List A}{r:A}(h2:∀ {n:Nat},d<=n->aA env L n f xs []=some (r,[]))(h1:xs.all qX=true:=by rfl)(h3:idsA r=[]:=by rfl)(h4:gX r=true\/((env.hint f).mode==1||(env.hint f).mode==3)=false:=by first|exact .inl rfl|exact .inr rfl):KC d L f xs r:=fun _ _ _ _ hn=>bX h1 (h2 hn) h3 h4
abbrev KT(d L:Nat)(f:Nat)(xs:List A)(r:A):Prop:=∀(R:Type) (n:Nat) (k:A->Option R),d<=n->rD (aA env L n) f xs k=k r
theorem kt{d L:Nat}{f:Nat}{xs:List A}{r:A}(h2:∀ {n:Nat},d<=n->aA env L n f xs []=some (r,[]))(h:gX r=true:=by rfl):KT d L f xs r:=fun _ _ _ hn=>jX (h2 hn) h
abbrev KV(L:Nat)(f:Nat)(xs:List A):Prop:=∀(R:Type) (n:Nat) (hq:H) (k:KA R),aY env (aA env L n) hq f xs k=match box (ZA hq xs)with
 |.mk (some fs)=>rD (aA env L n) f fs fun r=>k r hq
 |_=>none
theorem aNi:cX env.P 80=some 3:=by simp only[cX,aTC]
theorem eQ{l:List Int}:(ints l).length=l.length:=by simp[ints]
theorem aGo{l:List Int}{v:Int}:ints l++[.int .i64 v]=ints (l++[v]):=by simp[ints]
theorem mH:ints []=[]:=rfl
theorem c8{l:List Int}{k:Nat}(h:l.length<=k):(ints l).take k=ints l:=Ce (by rw[eQ];exact h)
theorem VC{l:List Int}{k:Nat}(h:k<l.length):(((ints l).drop k).map A.d).head? =some (nI (l.getD k 0)):=by
 rw[List.head?_map,Da,ints,Be,Aa,Ae h];rfl
section
theorem zU{α:Type}(f:α->D)(l:List α)(k:Nat)(v:α)(h:k<l.length):bG (l.map f) k [f v]=(l.set k v).map f:=by
 unfold bG;rw[List.map_set];have:k<(l.map f).length:=by simpa using h
 generalize l.map f=m at *;rw[List.set_eq_take_append_cons_drop,if_pos this];simp
theorem pR{l:List UInt8}:(bJ l).length=l.length:=by simp[bJ]
theorem aNx:bJ []=[]:=rfl
theorem aRt{e g:Nat}:O.arr [] e g=O.arr (ints []) e g:=rfl
theorem aBk{l:List UInt8}{v:UInt8}:bJ l++[.int .u8 (v.toNat:Int)]=bJ (l++[v]):=by simp[bJ]
theorem N5{l:List UInt8}{k:Nat}(h:l.length<=k):(bJ l).take k=bJ l:=Ce (by rw[pR];exact h)
theorem aAs{l:List UInt8}{k:Nat}(h:k<l.length):(((bJ l).drop k).map A.d).head? =some (.d (.int .u8 ((l.getD k 0).toNat:Int))):=by
 rw[List.head?_map,Da,bJ,Be,Aa,Ae h];rfl
theorem aOa{l:List UInt8}{k:Nat}{v:UInt8}(h:k<l.length):bG (bJ l) k [.int .u8 (v.toNat:Int)]=bJ (l.set k v):=zU _ l k v h
theorem aCw{l:List Int}{k:Nat}{v:Int}(h:k<l.length):bG (ints l) k [.int .i64 v]=ints (l.set k v):=zU _ l k v h
theorem aHx:∀l:List UInt8,JV (bJ l)=some l
 | []=>rfl
 |b::l=>by
  have ih:=aHx l;unfold bJ at ih|-;simp only[Ai,JV,ih,Az];simp
theorem getElem?_zero_cons {o:O} {h:H}:(o::h)[0]? =some o:=rfl
theorem OE{l:List UInt8}{g len:Nat}{h:H}(hl:len=l.length):eI env.P (.arr (bJ l) 1 g::h) 22 9 (.sl 0 g 0 len)=some (.d (.str l),.arr (bJ l) 1 g::h):=by
 subst hl;simp only[eI,aMJ,aJ7,ZV,cY,getElem?_zero_cons,pR,or_true,Cf,Ag,Ab,and_self,if_true,Ba,N5 (Ab _),aHx,Az]
theorem aKy{α:Type}(x:α):∀n:Nat,(List.replicate n [x]).flatten=List.replicate n x
 |0=>rfl
 |n+1=>by simp[List.replicate_succ,aKy x n]
theorem M6{n:Int}{h:H}(h0:0<=n)(h1:n<=4294967296):gW env.P h 80 n n=some (.sl h.length 0 0 n.toNat,h++[.arr (ints (List.replicate n.toNat 0)) 1 0]):=by
 have hm:n<=(bK:Nat):=by unfold bK;omega
 simp only[gW,aNi,aUg,aZ,zF,Az,aUe,h0,hm,ZE,Int.le_refl,and_self,if_true,aKy,ints,List.map_replicate]
theorem aDE{i:Int}{s:List UInt8}(h0:0<=i)(h:i<s.length):ON env.P 9 (.d (.str s)) i=some (.d (.int .u8 ((s.getD i.toNat 0).toNat))):=by
 have hk:i.toNat<s.length:=om;simp only[ON,aJ7,if_pos h0,Aa,Ae hk,Az,Bb]
theorem take_set{α:Type}{l:List α}{k:Nat}{v:α}(h:k<l.length):(l.set k v).take (k+1)=l.take k++[v]:=by
 rw[List.take_set,List.take_add_one,Ae h];simp only[Option.toList_some];have hl:(l.take k).length=k:=by rw[Bs];omega
 rw[Ds _ _ om,hl,Bi];rfl
theorem aSA{o:O}{h:H}{id:Nat}(hs:h[id]? =some o):h.set id o=h:=by
 apply Cn;intro j;rw[Cj];obtain⟨hl,he⟩:=Av.1 hs
 by_cases e:id=j
 ·subst e;simp[hl,he]
 ·simp[e]
theorem tT{h:H}{id gen off esz:Nat}{t:TypeId}{cs:List D}{d:D}(hid:h[id]? =some (.arr cs esz gen))(c1:env.P.cellsOf t=1)(hi:(env.P.info? t).isSome=true)(hd:dU (.d d)=true)(hk:off<cs.length):
  jM env.P h t (.ptr id gen off) (.d d)=some (h.set id (.arr (bG cs off [d]) esz gen)):=by
 have hc:(aZ (.d d)).length=env.P.cellsOf t/\(env.P.info? t).isSome=true/\(aZ (.d d)).all dU=true:=⟨by rw[c1];rfl,hi,by simp[aZ,hd]⟩
 have hf:frzL h (aZ (.d d))=some ([d],h):=rfl;unfold jM;rw[if_pos hc];simp only[hid,hf,c1,true_and];rw[if_pos om]
theorem aTm:(env.P.info? 5).isSome=true:=kr
theorem aRY:(env.P.info? 3).isSome=true:=kr
theorem aQi:(env.P.info? 4).isSome=true:=kr
theorem aKw:env.P.cellsOf 4=1:=kr
theorem aQz{h:H}{g e k:Nat}{l:List UInt8}{b:UInt8}(hk:k<l.length):jM env.P (.arr (bJ l) e g::h) 5 (.ptr 0 g k) (.d (.int .u8 (b.toNat:Int)))=some (.arr (bJ (l.set k b)) e g::h):=by
 rw[tT (id:=0) rfl aMz aTm rfl (by rw[pR];exact hk),aOa hk];rfl
theorem ZD{h:H}{g e k:Nat}{l:List Int}{b:Int}(hk:k<l.length):jM env.P (.arr (ints l) e g::h) 3 (.ptr 0 g k) (nI b)=some (.arr (ints (l.set k b)) e g::h):=by
 rw[tT (id:=0) rfl ZE aRY rfl (by rw[eQ];exact hk),aCw hk];rfl
theorem aMX{o:O}{h:H}{g e k:Nat}{l:List Int}{b:Int}(hk:k<l.length):jM env.P (o::.arr (ints l) e g::h) 3 (.ptr 1 g k) (nI b)=some (o::.arr (ints (l.set k b)) e g::h):=by
 rw[tT (id:=1) rfl ZE aRY rfl (by rw[eQ];exact hk),aCw hk];rfl
section
variable{t:TypeId}{h:H}{a b:List UInt8}
theorem aC3:bW env .eql t h (.d (.str a)) (.d (.str b))=some (.d (.bool (a==b)),h):=by simp[bW,aBin]
theorem aDM:bW env .neq t h (.d (.str a)) (.d (.str b))=some (.d (.bool (!(a==b))),h):=by simp[bW,aBin]
theorem aCX(hl:a.length+b.length<=4294967296):bW env .add t h (.d (.str a)) (.d (.str b))=some (.d (.str (a++b)),h):=by
 have:a.length+b.length<=bK:=hl;simp[bW,aBin,this]
theorem aEc:bW env .lss t h (.d (.str a)) (.d (.str b))=some (.d (.bool (Op.bytesLess a b)),h):=by simp[bW,aBin]
end
theorem toNat_lt(b:UInt8):b.toNat<256:=b.toNat_lt
theorem aKP{b:UInt8}:IntKind.i64.wrap (b.toNat:Int)=b.toNat:=zD om (by have:=toNat_lt b;omega)
theorem IY{l:List UInt8}{n:Nat}{lo hi:Option Int}{h:H}(hn:n=l.length)(h0:0<=lo.getD 0)(h1:lo.getD 0<=hi.getD l.length)(h2:hi.getD l.length<=l.length):gU env.P h 22 (.d (.ivs n (bJ l))) lo hi=some (.d (.ivs ((l.drop (lo.getD 0).toNat).take ((hi.getD l.length).toNat-(lo.getD 0).toNat)).length (bJ ((l.drop (lo.getD 0).toNat).take ((hi.getD l.length).toNat-(lo.getD 0).toNat))))):=by
 subst hn;simp only[gU,aMJ,aMz,pT,h0,h1,h2,and_self,if_true,Cf,Az,Nat.zero_lt_one,bJ,List.map_take,List.map_drop]
 congr 3
 rw[Bs,Cg];omega
theorem aAx{l:List UInt8}{n:Nat}{u:Int}{h:H}(hn:n=l.length)(h0:0<=u)(h1:u<=l.length):gU env.P h 22 (.d (.ivs n (bJ l))) none (some u)=some (.d (.ivs (l.take u.toNat).length (bJ (l.take u.toNat)))):=by
 rw[IY hn sm (by simpa using h0) (by simpa using h1)];simp
theorem SM{l:List UInt8}{n:Nat}{u:Int}{h:H}(hn:n=l.length)(h0:0<=u)(h1:u<=l.length):gU env.P h 22 (.d (.ivs n (bJ l))) (some u) none=some (.d (.ivs (l.drop u.toNat).length (bJ (l.drop u.toNat)))):=by
 rw[IY hn (by simpa using h0) (by simpa using h1) sm];have:(List.take (l.length-u.toNat) (l.drop u.toNat))=l.drop u.toNat:=Ce sm;simp[this]
theorem aDw{h:H}{a b:Bool}:bW env .eql 4 h (.d (.bool a)) (.d (.bool b))=some (.d (.bool (a==b)),h):=by simp[bW,aBin,aNil,aOW,eqlA]
theorem aEM{h:H}{a b:Bool}:bW env .neq 4 h (.d (.bool a)) (.d (.bool b))=some (.d (.bool (!(a==b))),h):=by simp[bW,aBin,aNil,aOW,eqlA]
theorem LB:type_of% (AI @pR (AI @eQ (AI @aAs (AI @VC (AI @N5 (AI @c8 (AI @aBk (AI @aGo (AI @aDE (AI @aC3 (AI @aDM (AI @aCX (AI @aEc (AI @aKP (AI @aDw (AI @aEM @Co)))))))))))))))):=
 ⟨@pR,@eQ,@aAs,@VC,@N5,@c8,@aBk,@aGo,@aDE,@aC3,@aDM,@aCX,@aEc,@aKP,@aDw,@aEM,@Co⟩
theorem CV:type_of% (AI @aAx @SM):=
 ⟨@aAx,@SM⟩
theorem DN:type_of% (AI @WD (AI @aEs (AI @WDD (AI @aE8 @CV)))):=
 ⟨@WD,@aEs,@WDD,@aE8,@CV⟩
theorem Dz{p:Prop}(h:p:=by first|assumption|exact⟨by kernel_rfl⟩|omega|(simp only[GT,LN]<;>omega)):p:=h
theorem UP:type_of% (AI @SLM (AI @WK (AI @UN (AI @TY (AI @LB (AI @MD @zD)))))):=
 ⟨@SLM,@WK,@UN,@TY,@LB,@MD,@zD⟩
end
def gnd:Gnd:=⟨[],false⟩
section
variable{R:Type}{L n:Nat}
def eH(x:Int):Bool:=decide (0<=x/\x<6)
def cP(x:Int):Bool:=decide (0<=x/\x<=63)
theorem ME(hn:1<=n)(a:Int):aA env L n 70 [nI a] []=some (.d (.bool (cP a)),[]):=by
 obtain _|n:=n;omega
 simp-implicitDefEqProofs (maxSteps:=9^7) (disch:=try exact Dz) only[↓DN,↓kAsg,↓kRet,UP,simprocAttr,aEf,OF,Tryz.f70]
 by_cases h:0<=a<;>simp[h,cP]
theorem gM:type_of% fun {L} a=>ks fun hn=> @ME L _ hn a:=fun {L} a=>ks fun hn=> @ME L _ hn a
theorem L5(hn:1<=n)(a:Int):aA env L n 40 [nI a] []=some (.d (.bool (cP a)),[]):=by
 obtain _|n:=n;omega
 simp-implicitDefEqProofs (maxSteps:=9^7) (disch:=try exact Dz) only[↓DN,↓kAsg,↓kRet,UP,simprocAttr,aEV,PZ,Tryz.f40]
 by_cases h:0<=a<;>simp[h,cP]
theorem dW:type_of% fun {L} a=>ks fun hn=> @L5 L _ hn a:=fun {L} a=>ks fun hn=> @L5 L _ hn a
def cN(a i:Int):Bool:=decide ((a.fdiv (2^(min i.toNat 64))) % 2=1)
def bitI(n:Int):Int:=IntKind.i64.wrap (1*2^(min n.toNat 64))
theorem toNat_ofInt(x:Int):((BitVec.ofInt 64 x).toNat:Int)=x % 18446744073709551616:=by
 rw[BitVec.toNat_ofInt];omega
theorem aJQ(x:Int):iAnd .i64 x 1=x % 2:=by
 unfold iAnd
 have h1:(BitVec.ofInt IntKind.i64.bits x&&&BitVec.ofInt IntKind.i64.bits 1).toNat=(BitVec.ofInt 64 x).toNat % 2:=by
  change (BitVec.ofInt 64 x&&&BitVec.ofInt 64 1).toNat=_
  rw[BitVec.toNat_and];exact Nat.and_one_is_mod _
 rw[h1];have h2:=toNat_ofInt x;rw[zD om om];omega
theorem aIW:IntKind.i64.bits=64:=rfl
theorem aDQ(hn:1<=n)(a i:Int)(hi:0<=i)(hi2:i<=9223372036854775807):aA env L n 101 [nI a,nI i] []=some (.d (.bool (cN a i)),[]):=by
 obtain _|n:=n;omega
 simp-implicitDefEqProofs (maxSteps:=9^7) (disch:=try exact Dz) only[↓DN,↓kAsg,↓kRet,UP,simprocAttr,↓S4,aOy,aJQ,aIW,aNK,aHE,Tryz.f101]<;>rfl
theorem tR:type_of% fun {L} a i hi hi2=>ks fun hn=> @aDQ L _ hn a i hi hi2:=fun {L} a i hi hi2=>ks fun hn=> @aDQ L _ hn a i hi hi2
theorem aJc(hn:1<=n)(a i:Int):aA env L n 41 [nI a,nI i] []=some (.d (.bool (decide (0<=i)&&cN a i)),[]):=by
 obtain _|n:=n;omega
 simp-implicitDefEqProofs (maxSteps:=9^7) (disch:=try exact Dz) only[↓DN,↓kAsg,↓kRet,UP,simprocAttr,aJQ,aIW,aQE,aMm,Tryz.f41]
 by_cases h:0<=i<;>simp[h,cN]
theorem R2:type_of% fun {L} a i=>ks fun hn=> @aJc L _ hn a i:=fun {L} a i=>ks fun hn=> @aJc L _ hn a i
theorem aEN(hn:1<=n)(i:Int)(hi:0<=i)(hi2:i<=9223372036854775807):aA env L n 155 [nI i] []=some (nI (bitI i),[]):=by
 obtain _|n:=n;omega
 simp-implicitDefEqProofs (maxSteps:=9^7) (disch:=try exact Dz) only[↓DN,↓kAsg,↓kRet,UP,simprocAttr,↓S4,aOy,aIW,aNH,aGr,Tryz.f155]<;>rfl
theorem aNW:type_of% fun {L} i hi hi2=>ks fun hn=> @aEN L _ hn i hi hi2:=fun {L} i hi hi2=>ks fun hn=> @aEN L _ hn i hi hi2
def aB(a:Int):List Int:=[0,1,2,3,4,5].filter (cN a)
def qY:Nat->List Int
 |0=>[]
 |j+1=>(6-((j+1:Nat):Int))::qY j
theorem rW{x:Int}:eH x=true↔0<=x/\x<=5:=by
 unfold eH;simp;omega
theorem aCd(hn:1<=n){a:Int}{k:KE R}:∀(j:Nat) (i:Int) (l:List Int) (len m:Nat),i+j=6->0<=i->j<m->len=l.length->l.length+j<100->
  aT env (aA env L n) L 0 [0,0,0,2] Bz27 (sY 0) Bz50 m (nI a::Y1 (.d .nils::.sl 0 0 0 len::Y1 (nI i::Y8 (Y2 (Y1 ([])))))) [.arr (ints l) 1 0] k
  =k (.exit 0) (nI a::Y1 (.d .nils::.sl 0 0 0 (len+((qY j).filter (cN a)).length)::Y1 (nI 6::Y8 (Y2 (Y1 ([])))))) [.arr (ints (l++(qY j).filter (cN a))) 1 0]:=by
 intro j
 induction j with
 |zero=>
  intro i l len m hi h0 hm hl hlen;obtain _|m:=m;omega;obtain rfl:i=6:=om
  simp-implicitDefEqProofs (maxSteps:=9^7) (disch:=try exact Dz) only[↓DN,↓kRet,UP,simprocAttr,rT,rF,Tryz.f63];simp only[qY,List.filter_nil,Aj,Ac,Bv]
 |succ j ih=>
  intro i l len m hi h0 hm hl hlen;obtain _|m:=m;omega;have hc:i<6:=om;have hr:qY (j+1)=i::qY j:=by simp only[qY];congr 1;omega
  rw[hr,List.filter_cons]
  cases hb:cN a i with
  |true=>
   simp-implicitDefEqProofs (maxSteps:=9^7) (disch:=try exact Dz) only[↓DN,↓kRet,UP,simprocAttr,↓R2,↓ih,hc,hb,h0,rT,rF,Tryz.f63]
   try simp only[Al,Ax,Ao,Nat.add_assoc,Nat.add_comm 1]
  |false=>
   simp-implicitDefEqProofs (maxSteps:=9^7) (disch:=try exact Dz) only[↓DN,↓kRet,UP,simprocAttr,↓R2,↓ih,hc,hb,h0,rT,rF,Tryz.f63]
theorem Q6{R:Type}{L n m:Nat}(hn:1<=n){a:Int}{k:KE R}(hm:6<m):
  aT env (aA env L n) L 0 [0,0,0,2] Bz27 (sY 0) Bz50 m (nI a::Y1 (.d .nils::.sl 0 0 0 0::Y1 (nI 0::Y8 (Y2 (Y1 ([])))))) [.arr [] 1 0] k
  =k (.exit 0) (nI a::Y1 (.d .nils::.sl 0 0 0 (aB a).length::Y1 (nI 6::Y8 (Y2 (Y1 ([])))))) [.arr (ints (aB a)) 1 0]:=by
 have h:=aCd (R:=R) (L:=L) hn (a:=a) (k:=k) 6 0 [] 0 m rfl om hm rfl sm;simp only[Ag,Ao]at h;exact h
theorem bQ(a:Int):(aB a).length<=6:=by
 unfold aB;exact List.length_filter_le _ _
theorem PJ(hn:2<=n)(a:Int)(hL:2^60<=L):aA env L n 63 [nI a] []=some (.d (.ivs (aB a).length (ints (aB a))),[]):=by
 obtain _|n:=n;omega
 simp-implicitDefEqProofs (maxSteps:=9^7) (disch:=try exact Dz) only[↓DN,↓kAsg,UP,simprocAttr,↓Q6,aGd,SI,Tryz.f63]
theorem kS:type_of% fun {L} a hL=>ks fun hn=> @PJ L _ hn a hL:=fun {L} a hL=>ks fun hn=> @PJ L _ hn a hL
theorem aRH{l:List Int}{P:Int->Prop}(h:∀v∈l,P v){k:Nat}(hk:k<l.length):P (l.getD k 0):=by
 rw[Aa,Ae hk];exact h _ (At hk)
theorem cD{a:Int}:∀v∈aB a,0<=v/\v<=5:=by
 intro v hv;have:=(List.mem_filter.1 hv).1;simp at this;omega
end
section
variable{R:Type}{L n:Nat}
structure Edge where
 fr:Int
 lt:Int
 to:Int
 deriving DecidableEq,Inhabited
def aUc(e:Edge):List D:=[.int .i64 e.fr,.int .i64 e.lt,.int .i64 e.to]
def aTy(l:List Edge):List D:=(l.map aUc).flatten
def cmpI(a b:Int):Int:=if a<b then -1 else if b<a then 1 else 0
theorem HI(hn:1<=n)(a:Int):aA env L n 99 [nI a] []=some (.d (.bool false),[]):=by
 obtain _|n:=n;omega
 simp-implicitDefEqProofs (maxSteps:=9^7) (disch:=try exact Dz) only[↓DN,↓kAsg,↓kRet,UP,simprocAttr,aBZ,rP,Tryz.f99]
theorem wF:type_of% fun {L} a=>ks fun hn=> @HI L _ hn a:=fun {L} a=>ks fun hn=> @HI L _ hn a
theorem C8(hn:2<=n)(a b:Int):aA env L n 68 [nI a,nI b] []=some (nI (cmpI a b),[]):=by
 unfold cmpI
 by_cases h1:a<b
 ·obtain _|n:=n;omega
  simp-implicitDefEqProofs (maxSteps:=9^7) (disch:=try exact Dz) only[↓DN,↓kAsg,↓kRet,UP,simprocAttr,↓wF,h1,sQ,eB,Tryz.f68]
 ·by_cases h2:b<a
  ·obtain _|n:=n;omega
   simp-implicitDefEqProofs (maxSteps:=9^7) (disch:=try exact Dz) only[↓DN,↓kAsg,↓kRet,UP,simprocAttr,↓wF,h1,h2,sQ,eB,Tryz.f68]
  ·obtain _|n:=n;omega
   simp-implicitDefEqProofs (maxSteps:=9^7) (disch:=try exact Dz) only[↓DN,↓kAsg,↓kRet,UP,simprocAttr,↓wF,h1,h2,sQ,eB,Tryz.f68]
theorem V0:type_of% fun {L} a b=>ks fun hn=> @C8 L _ hn a b:=fun {L} a b=>ks fun hn=> @C8 L _ hn a b
def eU:List Int->Int
 | []=>0
 |a::l=>if a=0 then eU l else a
def lz:List Int->Nat
 | []=>0
 |a::l=>if a=0 then lz l+1 else 0
theorem b8{α:Type}{l:List α}{i:Nat}{d:α}(h:i<l.length):l.drop i=l.getD i d::l.drop (i+1):=by
 rw[Dk h,Aa,Ae h];rfl
theorem M5(hn:1<=n){l:List Int}(hl:l.length<=1000){k:KE R}:∀(i:Int) (m:Nat) (h0:0<=i) (hi:i<=l.length) (hm:(l.length:Int)-i<m),
  aT env (aA env L n) L 0 [] Bz34 (iH 0) Bz58 m (Y2 (nI 0::nI 0::Y2 (.d (.ivs l.length (ints l))::nI (l.length)::nI i::Y8 (Y1 ([]))))) [] k
  =if eU (l.drop i.toNat)=0 then k (.exit 0) (Y2 (nI 0::nI 0::Y2 (.d (.ivs l.length (ints l))::nI (l.length)::nI (l.length)::Y8 (Y1 ([]))))) []else k .ret (Y2 (nI (eU (l.drop i.toNat))::nI 0::Y2 (.d (.ivs l.length (ints l))::nI (l.length)::nI (i+lz (l.drop i.toNat))::Y8 (Y1 ([]))))) []:=by
 intro i m h0 hi hm;obtain⟨j,hj⟩:∃j:Nat,(j:Int)=(l.length:Int)-i:=⟨((l.length:Int)-i).toNat,by omega⟩
 induction j generalizing i m with
 |zero=>
  obtain _|m:=m;omega;obtain rfl:i=l.length:=om
  simp-implicitDefEqProofs (maxSteps:=9^7) (disch:=try exact Dz) only[↓DN,↓kRet,UP,simprocAttr,Ah,uG,fY,Tryz.f67];simp only[Bt,eU,if_true]
 |succ j ih=>
  obtain _|m:=m;omega;have hc:i<l.length:=om;have hk:i.toNat<l.length:=om;have e1:(i+1).toNat=i.toNat+1:=om;rw[b8 hk (d:=0)]
  by_cases hz:l.getD i.toNat 0=0
  ·simp-implicitDefEqProofs (maxSteps:=9^7) (disch:=try exact Dz) only[↓DN,↓kRet,UP,simprocAttr,hc,hz,↓ih,uG,fY,Tryz.f67];simp only[eU,lz,if_true,e1,Int.natCast_add,Int.add_assoc,Int.add_comm 1]<;>rfl
  ·simp-implicitDefEqProofs (maxSteps:=9^7) (disch:=try exact Dz) only[↓DN,↓kRet,UP,simprocAttr,hc,hz,uG,fY,Tryz.f67];simp only[eU,lz,hz,if_false,Ap,Int.add_zero]
theorem aH7(hn:2<=n)(l:List Int)(hl:l.length<=1000)(hL:2^60<=L):aA env L n 67 [.d (.ivs l.length (ints l))] []=some (nI (eU l),[]):=by
 by_cases hz:eU l=0
 ·obtain _|n:=n;omega
  simp-implicitDefEqProofs (maxSteps:=9^7) (disch:=try exact Dz) only[↓DN,↓kAsg,↓kRet,UP,simprocAttr,↓M5,Cr,hz,UA,nY,Tryz.f67]
 ·obtain _|n:=n;omega
  simp-implicitDefEqProofs (maxSteps:=9^7) (disch:=try exact Dz) only[↓DN,↓kAsg,↓kRet,UP,simprocAttr,↓M5,Cr,hz,UA,nY,Tryz.f67]
theorem aH6{k:A->Option R}(hn:2<=n)(l:List Int)(hl:l.length<=1000)(hL:2^60<=L):rD (aA env L n) 67 [.d (.ivs l.length (ints l))] k=k (nI (eU l)):=
 jX (aH7 hn l hl hL) rfl
theorem aDb{L:Nat}{id0 g0 o0 len0:Nat}:KV L 67 [.sl id0 g0 o0 len0]:=fun _ _ _ _=>dD qP
def seek(p:Nat->Bool):Nat->Nat->Option Nat
 |0,_=>none
 |j+1,i=>if p i=true then some i else seek p j (i+1)
theorem lX{p:Nat->Bool}:∀ {j i:Nat},seek p j i=none↔∀k,i<=k->k<i+j->p k=false
 |0,i=>by simp only[seek,true_iff];intro k h1 h2;omega
 |j+1,i=>by
  simp only[seek]
  by_cases hp:p i=true
  ·rw[if_pos hp];simp only[false_iff,reduceCtorEq];intro h;have:=h i (Ab _) om;rw[hp]at this;cases this
  ·rw[if_neg hp,lX]
   constructor
   ·intro h k h1 h2
    by_cases e:k=i
    ·subst e;simpa using hp
    ·exact h k om om
   ·intro h k h1 h2;exact h k om om
theorem xP{p:Nat->Bool}:∀ {j i r:Nat},seek p j i=some r->i<=r/\r<i+j/\p r=true/\∀k,i<=k->k<r->p k=false
 |0,i,r,h=>by simp[seek]at h
 |j+1,i,r,h=>by
  simp only[seek]at h
  by_cases hp:p i=true
  ·rw[if_pos hp]at h;cases h;exact⟨Ab _,by omega,hp,fun k h1 h2=>by omega⟩
  ·rw[if_neg hp]at h;obtain⟨h1,h2,h3,h4⟩:=xP h;refine⟨by omega,by omega,h3,fun k k1 k2=> ?_⟩
   by_cases e:k=i
   ·subst e;simpa using hp
   ·exact h4 k om k2
theorem fD{p:Nat->Bool}{j i:Nat}(h:p i=true):seek p (j+1) i=some i:=by simp[seek,h]
theorem iB{p:Nat->Bool}{j i:Nat}(h:p i=false):seek p (j+1) i=seek p j (i+1):=by simp[seek,h]
structure Sys where
 al:Int
 st:Int
 es:List Edge
 deriving DecidableEq,Inhabited
end
theorem nJ{a b:UInt8}{x y:List UInt8}:Op.bytesLess (a::x) (b::y)=true↔a.toNat<b.toNat\/a=b/\Op.bytesLess x y=true:=by
 simp only[Op.bytesLess,Bool.or_eq_true,Aq,beq_iff_eq,decide_eq_true_eq]<;>rfl
theorem TS:∀x:List UInt8,¬Op.bytesLess x x=true
 | [],h=>by simp[Op.bytesLess]at h
 |a::x,h=>by
  rcases nJ.1 h with h|⟨_,h⟩
  ·omega
  ·exact TS x h
theorem KY:∀ {x y z:List UInt8},Op.bytesLess x y=true->Op.bytesLess y z=true->Op.bytesLess x z=true
 |_,[],_,h,_=>by simp[Op.bytesLess]at h
 |_,_::_,[],_,k=>by simp[Op.bytesLess]at k
 | [],_::_,_::_,_,_=>by simp[Op.bytesLess]
 |a::x,b::y,c::z,h,k=>by
  rw[nJ]at *
  rcases h with h|⟨rfl,h⟩<;>rcases k with k|⟨rfl,k⟩
  ·exact .inl om
  ·exact .inl h
  ·exact .inl k
  ·exact .inr ⟨rfl,KY h k⟩
theorem FF:∀(x y:List UInt8),x=y\/Op.bytesLess x y=true\/Op.bytesLess y x=true
 | [],[]=>.inl rfl
 | [],_::_=>.inr (.inl (by simp[Op.bytesLess]))
 |_::_,[]=>.inr (.inr (by simp[Op.bytesLess]))
 |a::x,b::y=>by
  rw[nJ,nJ]
  rcases Dd a.toNat b.toNat with h|h|h
  ·exact .inr (.inl (.inl h))
  ·have e:a=b:=UInt8.toNat_inj.1 h;subst e
   rcases FF x y with g|g|g
   ·exact .inl (by rw[g])
   ·exact .inr (.inl (.inr ⟨rfl,g⟩))
   ·exact .inr (.inr (.inr ⟨rfl,g⟩))
  ·exact .inr (.inr (.inl h))
theorem aMk{x y:List UInt8}:cmpB x y<0↔Op.bytesLess x y=true:=by
 unfold cmpB
 by_cases h1:Op.bytesLess x y=true
 ·simp[h1]
 ·by_cases h2:Op.bytesLess y x=true<;>simp[h1,h2]
theorem GZ{x y:List UInt8}:cmpX x y<0↔x.length<y.length\/x.length=y.length/\Op.bytesLess x y=true:=by
 unfold cmpX;simp only[aGh]
 rcases Dd x.length y.length with h|h|h
 ·have e:HR (x.length:Int) (y.length:Int)= -1:=by unfold HR;rw[if_pos om]
  rw[e];simp[h]
 ·have e:HR (x.length:Int) (y.length:Int)=0:=by unfold HR;rw[h];simp
  rw[e,if_pos rfl,h]
  by_cases h0:cmpB x y=0
  ·rw[if_pos h0];have:=aMk (x:=x) (y:=y);rw[h0]at this;simp only[true_and,<-this];omega
  ·rw[if_neg h0,aMk];simp
 ·have e:HR (x.length:Int) (y.length:Int)=1:=by unfold HR;rw[if_neg om,if_pos om]
  rw[e,if_neg om]
  constructor
  ·intro h2;omega
  ·rintro(h2|⟨h2,_⟩)<;>omega
theorem BB(x:List UInt8):¬cmpX x x<0:=by
 rw[GZ];rintro(h|⟨_,h⟩)
 ·omega
 ·exact TS _ h
theorem sD{x y z:List UInt8}(h:cmpX x y<0)(k:cmpX y z<0):cmpX x z<0:=by
 rw[GZ]at *
 rcases h with h|⟨h1,h⟩<;>rcases k with k|⟨k1,k⟩
 ·exact .inl om
 ·exact .inl om
 ·exact .inl om
 ·exact .inr ⟨by omega,KY h k⟩
theorem PH(x y:List UInt8):x=y\/cmpX x y<0\/cmpX y x<0:=by
 rw[GZ,GZ]
 rcases Dd x.length y.length with h|h|h
 ·exact .inr (.inl (.inl h))
 ·rcases FF x y with g|g|g
  ·exact .inl g
  ·exact .inr (.inl (.inr ⟨h,g⟩))
  ·exact .inr (.inr (.inr ⟨h.symm,g⟩))
 ·exact .inr (.inr (.inl h))
theorem YQ{x y:List UInt8}(h:cmpX x y<0):¬cmpX y x<0:=fun k=>BB x (sD h k)
theorem M7(a b c:List UInt8)(h1:leX a b=true)(h2:leX b c=true):leX a c=true:=by
 unfold leX at *;simp only[Di,decide_eq_false_iff_not]at *;intro h
 rcases PH a b with rfl|g|g
 ·exact h2 h
 ·exact h2 (sD h g)
 ·exact h1 g
theorem MO(a b:List UInt8):(leX a b||leX b a)=true:=by
 unfold leX
 by_cases h:cmpX b a<0
 ·have:=YQ h;simp[this]
 ·simp[h]
theorem aBJ{a b:List UInt8}(h1:leX a b=true)(h2:leX b a=true):a=b:=by
 unfold leX at *;simp only[Di,decide_eq_false_iff_not]at *
 rcases PH a b with g|g|g
 ·exact g
 ·exact(h2 g).elim
 ·exact(h1 g).elim
theorem aPy{a b:List UInt8}(h:cmpX a b<0):leX a b=true:=by
 unfold leX;simp only[Di,decide_eq_false_iff_not];exact YQ h
section
variable{R:Type}{L n:Nat}
theorem aSf{a b:Int}:[D.int .i64 a,.int .i64 b]=ints [a,b]:=rfl
theorem aG6{x y:List UInt8}(h1:¬Op.bytesLess x y=true):(x==y)= !Op.bytesLess y x:=by
 rw[Bool.eq_iff_iff];simp only[Di,beq_iff_eq]
 rcases FF x y with rfl|g|g
 ·simpa using h1
 ·exact absurd g h1
 ·refine⟨fun e=> ?_,fun e=>by rw[g]at e;cases e⟩;subst e;exact absurd g h1
theorem GQ{E:Env}{t:TypeId}{h:H}{a b:List UInt8}:bW E .gtr t h (.d (.str a)) (.d (.str b))=some (.d (.bool (!(Op.bytesLess a b||a==b))),h):=by simp[bW,aBin]
theorem aEb{E:Env}{t:TypeId}{h:H}{a b:List UInt8}:bW E .neq t h (.d (.str a)) (.d (.str b))=some (.d (.bool (!(a==b))),h):=by simp[bW,aBin]
theorem tG{E:Env}{t:TypeId}{h:H}{a b:List UInt8}:bW E .lss t h (.d (.str a)) (.d (.str b))=some (.d (.bool (Op.bytesLess a b)),h):=by simp[bW,aBin]
theorem AU(hn:1<=n)(x:List UInt8):aA env L n 100 [.d (.str x)] []=some (.d (.bool false),[]):=by
 obtain _|n:=n;omega
 simp-implicitDefEqProofs (maxSteps:=9^7) (disch:=try exact Dz) only[↓DN,↓kAsg,↓kRet,UP,simprocAttr,aEb,UI,lT,Tryz.f100]
theorem qK:type_of% fun {L} x=>ks fun hn=> @AU L _ hn x:=fun {L} x=>ks fun hn=> @AU L _ hn x
theorem x7(hn:2<=n)(x y:List UInt8):aA env L n 69 [.d (.str x),.d (.str y)] []=some (nI (cmpB x y),[]):=by
 unfold cmpB
 by_cases h1:Op.bytesLess x y=true
 ·obtain _|n:=n;omega
  simp-implicitDefEqProofs (maxSteps:=9^7) (disch:=try exact Dz) only[↓DN,↓kAsg,↓kRet,UP,simprocAttr,↓qK,tG,h1,nR,dE,Tryz.f69]
 ·have hg:=aG6 h1
  by_cases h2:Op.bytesLess y x=true
  ·rw[h2,Bool.not_true]at hg;obtain _|n:=n;omega
   simp-implicitDefEqProofs (maxSteps:=9^7) (disch:=try exact Dz) only[↓DN,↓kAsg,↓kRet,UP,simprocAttr,↓qK,tG,GQ,h1,h2,hg,nR,dE,Tryz.f69]
  ·rw[Bool.eq_false_iff.2 h2,Bool.not_false]at hg;obtain _|n:=n;omega
   simp-implicitDefEqProofs (maxSteps:=9^7) (disch:=try exact Dz) only[↓DN,↓kAsg,↓kRet,UP,simprocAttr,↓qK,tG,GQ,h1,h2,hg,nR,dE,Tryz.f69]
theorem PF:type_of% fun {L} x y=>ks fun hn=> @x7 L _ hn x y:=fun {L} x y=>ks fun hn=> @x7 L _ hn x y
theorem TT(hn:4<=n)(x y:List UInt8)(hL:2^60<=L):aA env L n 34 [.d (.str x),.d (.str y)] []=some (nI (cmpX x y),[]):=by
 have k3:∀ {R:Type} {n:Nat} {k:A->Option R},2<=n->rD (aA env L n) 67 [.d (.ivs 2 (ints [cmpI x.length y.length,cmpB x y]))] k=k (nI (eU [cmpI x.length y.length,cmpB x y])):=fun h=>aH6 h [cmpI x.length y.length,cmpB x y] sm hL;obtain _|n:=n;omega
 simp-implicitDefEqProofs (maxSteps:=9^7) (disch:=try exact Dz) only[↓DN,↓kAsg,↓kRet,UP,simprocAttr,↓V0,↓PF,↓aDb,aSf,↓k3,aIh,zC,Tryz.f34]<;>rfl
theorem aH4:type_of% fun {L} x y hL=>ks fun hn=> @TT L _ hn x y hL:=fun {L} x y hL=>ks fun hn=> @TT L _ hn x y hL
end
end Ev
end Go.Proofs.YthlkcebdfbjdoaaGreat
