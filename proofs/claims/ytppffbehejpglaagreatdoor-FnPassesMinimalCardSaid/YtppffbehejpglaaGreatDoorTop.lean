/-
  What the types of the program are.
-/
import Derived.Test.YtppffbehejpglaaGreatDoorTy
import Derived.IntWalk
import Derived.Test.YtppffbehejpglaaGreatDoorEvRun
import Derived.Lib.TrailingZeros
import Derived.Test.YtppffbehejpglaaGreatDoorEvPrim
import Derived.Test.YtppffbehejpglaaGreatDoorChecked
import Derived.Shelf.SlSortCmp.NoneTotal
import Derived.Shelf.SlIter.Collect
import Derived.Sort.OwnSorted
import Derived.Test.YtppffbehejpglaaGreatDoorEvDraw
import Derived.WalkKit
import Derived.Deep.RegionLaw
import Derived.Shelf.RegionOpenPlain
import Derived.Lib.Walk
import Derived.Lib.SliceRun
import Derived.Shelf.Spec.TrailingZeros
import Derived.Laws.StructEq
import Derived.ChangeSlices
import Derived.RowKit3
set_option linter.unusedSimpArgs false
set_option linter.unusedVariables false
set_option linter.unusedSectionVars false
set_option maxRecDepth 1000000
set_option maxHeartbeats 4000000
namespace Go.Proofs.YtppffbehejpglaaGreatDoor
namespace Ev
theorem BL{n:Int}(h1:-9223372036854775808<=n)(h2:n<=9223372036854775807):IntKind.i64.wrap n=n:=IntWalk.i64_in n ⟨h1,h2⟩
theorem aRM{n:Int}(h1:0<=n)(h2:n<=18446744073709551615):IntKind.u64.wrap n=n:=IntWalk.u64_in n ⟨h1,h2⟩
theorem aXI{n:Int}(h1:0<=n)(h2:n<=255):IntKind.u8.wrap n=n:=IntWalk.u8_in n ⟨h1,h2⟩
theorem aQt:env.P.underlying 3=some (.int .i64):=kr
theorem aWW:env.P.underlying 87=some (.int .u64):=kr
theorem aBv:env.P.underlying 5=some (.int .u8):=kr
theorem aSK:env.P.underlying 4=some .bool:=kr
theorem aDH:env.P.underlying 9=some .string:=kr
theorem aWY:env.P.underlying 58=some (.slice 3):=kr
theorem aPc:env.P.underlying 22=some (.slice 5):=kr
theorem OS:env.P.cellsOf 3=1:=kr
theorem aPa:env.P.cellsOf 5=1:=kr
theorem aXF:fC env.P 3=true:=kr
theorem aXG:dA env.P 3=some (nI 0):=kr
theorem WE{h:H}{n:Int}{K:IntKind}:eP env.P h 3 87 (.d (.int K n))=some (.d (.int .u64 (IntKind.u64.wrap n)),h):=yS aQt aWW
theorem aHZ{h:H}{n:Int}{K:IntKind}:eP env.P h 3 5 (.d (.int K n))=some (.d (.int .u8 (IntKind.u8.wrap n)),h):=yS aQt aBv
theorem SJ{h:H}{n:Int}{K:IntKind}:eP env.P h 5 3 (.d (.int K n))=some (nI (IntKind.i64.wrap n),h):=yS aBv aQt
def ints(l:List Int):List D:=l.map (.int .i64)
def bM(l:List UInt8):List D:=l.map fun b=>.int .u8 b.toNat
abbrev rdO(c:List UInt8)(p:Int):O:=.box [.d (.ivs c.length (bM c)),nI p]
abbrev Dw(m f:Nat)(xs:List A)(r:A)(c:List UInt8)(p q:Int):Prop:=∀(R:Type) (L n:Nat) (hq:H) (k:KA R),m<=n->2^60<=L->aX env (aA env L n) (rdO c p::hq) f (.ptr 0 0 0::xs) k=k r (rdO c q::hq)
abbrev KC(d L:Nat)(f:Nat)(xs:List A)(r:A):Prop:=∀(R:Type) (n:Nat) (hq:H) (k:KA R),d<=n->aX env (aA env L n) hq f xs k=k r hq
theorem ks{d L:Nat}{f:Nat}{xs:List A}{r:A}(h2:∀ {n:Nat},d<=n->aA env L n f xs []=some (r,[]))(h1:xs.all sN=true:=by rfl)(h3:idsA r=[]:=by rfl)(h4:hJ r=true\/((env.hint f).mode==1||(env.hint f).mode==3)=false:=by first|exact .inl rfl|exact .inr rfl):KC d L f xs r:=fun _ _ _ _ hn=>bS h1 (h2 hn) h3 h4
abbrev KT(d L:Nat)(f:Nat)(xs:List A)(r:A):Prop:=∀(R:Type) (n:Nat) (k:A->Option R),d<=n->xW (aA env L n) f xs k=k r
theorem kt{d L:Nat}{f:Nat}{xs:List A}{r:A}(h2:∀ {n:Nat},d<=n->aA env L n f xs []=some (r,[]))(h:hJ r=true:=by rfl):KT d L f xs r:=fun _ _ _ hn=>lT (h2 hn) h
abbrev KV(L:Nat)(f:Nat)(xs:List A):Prop:=∀(R:Type) (n:Nat) (hq:H) (k:KA R),aX env (aA env L n) hq f xs k=match box (aBc hq xs)with
 |.mk (some fs)=>xW (aA env L n) f fs fun r=>k r hq
 |_=>none
theorem aP7:cY env.P 58=some 3:=by simp only[cY,aWY]
theorem dG{l:List Int}:(ints l).length=l.length:=by simp[ints]
theorem aJm{l:List Int}{v:Int}:ints l++[.int .i64 v]=ints (l++[v]):=by simp[ints]
theorem kG:ints []=[]:=rfl
theorem cK{l:List Int}{k:Nat}(h:l.length<=k):(ints l).take k=ints l:=Ce (by rw[dG];exact h)
theorem ZG{l:List Int}{k:Nat}(h:k<l.length):(((ints l).drop k).map A.d).head? =some (nI (l.getD k 0)):=by
 rw[List.head?_map,Di,ints,Bh,Aa,Ad h];rfl
section
theorem BI{α:Type}(f:α->D)(l:List α)(k:Nat)(v:α)(h:k<l.length):bK (l.map f) k [f v]=(l.set k v).map f:=by
 unfold bK;rw[List.map_set];have:k<(l.map f).length:=by simpa using h
 generalize l.map f=m at *;rw[List.set_eq_take_append_cons_drop,if_pos this];simp
theorem qY{l:List UInt8}:(bM l).length=l.length:=by simp[bM]
theorem aQL:bM []=[]:=rfl
theorem aTQ{e g:Nat}:O.arr [] e g=O.arr (ints []) e g:=rfl
theorem aCm{l:List UInt8}{v:UInt8}:bM l++[.int .u8 (v.toNat:Int)]=bM (l++[v]):=by simp[bM]
theorem P4{l:List UInt8}{k:Nat}(h:l.length<=k):(bM l).take k=bM l:=Ce (by rw[qY];exact h)
theorem aCy{l:List UInt8}{k:Nat}(h:k<l.length):(((bM l).drop k).map A.d).head? =some (.d (.int .u8 ((l.getD k 0).toNat:Int))):=by
 rw[List.head?_map,Di,bM,Bh,Aa,Ad h];rfl
theorem aPZ{l:List UInt8}{k:Nat}{v:UInt8}(h:k<l.length):bK (bM l) k [.int .u8 (v.toNat:Int)]=bM (l.set k v):=BI _ l k v h
theorem JI{l:List Int}{k:Nat}{v:Int}(h:k<l.length):bK (ints l) k [.int .i64 v]=ints (l.set k v):=BI _ l k v h
theorem aIM:∀l:List UInt8,LV (bM l)=some l
 | []=>rfl
 |b::l=>by
  have ih:=aIM l;unfold bM at ih|-;simp only[Aj,LV,ih,Bb];simp
theorem getElem?_zero_cons {o:O} {h:H}:(o::h)[0]? =some o:=rfl
theorem QQ{l:List UInt8}{g len:Nat}{h:H}(hl:len=l.length):eP env.P (.arr (bM l) 1 g::h) 22 9 (.sl 0 g 0 len)=some (.d (.str l),.arr (bM l) 1 g::h):=by
 subst hl;simp only[eP,aPc,aDH,aBv,c7,getElem?_zero_cons,qY,or_true,Ch,Ag,Ab,and_self,if_true,Ba,P4 (Ab _),aIM,Bb]
theorem aMl{α:Type}(x:α):∀n:Nat,(List.replicate n [x]).flatten=List.replicate n x
 |0=>rfl
 |n+1=>by simp[Eh,aMl x n]
theorem tL{n:Int}{h:H}(h0:0<=n)(h1:n<=4294967296):iA env.P h 58 n n=some (.sl h.length 0 0 n.toNat,h++[.arr (ints (List.replicate n.toNat 0)) 1 0]):=by
 have hm:n<=(bI:Nat):=by unfold bI;omega
 simp only[iA,aP7,aXG,a6,zT,Bb,aXF,h0,hm,OS,Int.le_refl,and_self,if_true,aMl,ints,List.map_replicate]
theorem aGa{i:Int}{s:List UInt8}(h0:0<=i)(h:i<s.length):Q3 env.P 9 (.d (.str s)) i=some (.d (.int .u8 ((s.getD i.toNat 0).toNat))):=by
 have hk:i.toNat<s.length:=om;simp only[Q3,aDH,if_pos h0,Aa,Ad hk,Bb,Bg]
theorem take_set{α:Type}{l:List α}{k:Nat}{v:α}(h:k<l.length):(l.set k v).take (k+1)=l.take k++[v]:=by
 rw[List.take_set,Cz,Ad h];simp only[Option.toList_some];have hl:(l.take k).length=k:=by rw[Bi];omega
 rw[Dn _ _ om,hl,Bj];rfl
theorem aWm{o:O}{h:H}{id:Nat}(hs:h[id]? =some o):h.set id o=h:=by
 apply Cr;intro j;rw[Cp];obtain⟨hl,he⟩:=Aw.1 hs
 by_cases e:id=j
 ·subst e;simp[hl,he]
 ·simp[e]
theorem mM{h:H}{id gen off esz:Nat}{t:TypeId}{cs:List D}{d:D}(hid:h[id]? =some (.arr cs esz gen))(c1:env.P.cellsOf t=1)(hi:(env.P.info? t).isSome=true)(hd:dT (.d d)=true)(hk:off<cs.length):
  gY env.P h t (.ptr id gen off) (.d d)=some (h.set id (.arr (bK cs off [d]) esz gen)):=by
 have hc:(a6 (.d d)).length=env.P.cellsOf t/\(env.P.info? t).isSome=true/\(a6 (.d d)).all dT=true:=⟨by rw[c1];rfl,hi,by simp[a6,hd]⟩
 have hf:frzL h (a6 (.d d))=some ([d],h):=rfl;unfold gY;rw[if_pos hc];simp only[hid,hf,c1,true_and];rw[if_pos om]
theorem aWl:(env.P.info? 5).isSome=true:=kr
theorem aK5:(env.P.info? 3).isSome=true:=kr
theorem aRS:(env.P.info? 4).isSome=true:=kr
theorem aNJ:env.P.cellsOf 4=1:=kr
theorem aTL{h:H}{g e k:Nat}{l:List UInt8}{b:UInt8}(hk:k<l.length):gY env.P (.arr (bM l) e g::h) 5 (.ptr 0 g k) (.d (.int .u8 (b.toNat:Int)))=some (.arr (bM (l.set k b)) e g::h):=by
 rw[mM (id:=0) rfl aPa aWl rfl (by rw[qY];exact hk),aPZ hk];rfl
theorem aBm{h:H}{g e k:Nat}{l:List Int}{b:Int}(hk:k<l.length):gY env.P (.arr (ints l) e g::h) 3 (.ptr 0 g k) (nI b)=some (.arr (ints (l.set k b)) e g::h):=by
 rw[mM (id:=0) rfl OS aK5 rfl (by rw[dG];exact hk),JI hk];rfl
theorem aPw{o:O}{h:H}{g e k:Nat}{l:List Int}{b:Int}(hk:k<l.length):gY env.P (o::.arr (ints l) e g::h) 3 (.ptr 1 g k) (nI b)=some (o::.arr (ints (l.set k b)) e g::h):=by
 rw[mM (id:=1) rfl OS aK5 rfl (by rw[dG];exact hk),JI hk];rfl
section
variable{t:TypeId}{h:H}{a b:List UInt8}
theorem aFs:b6 env .eql t h (.d (.str a)) (.d (.str b))=some (.d (.bool (a==b)),h):=by simp[b6,aBin]
theorem aFF(hl:a.length+b.length<=4294967296):b6 env .add t h (.d (.str a)) (.d (.str b))=some (.d (.str (a++b)),h):=by
 have:a.length+b.length<=bI:=hl;simp[b6,aBin,this]
theorem aFo:b6 env .lss t h (.d (.str a)) (.d (.str b))=some (.d (.bool (Op.bytesLess a b)),h):=by simp[b6,aBin]
end
theorem toNat_lt(b:UInt8):b.toNat<256:=b.toNat_lt
theorem aNc{b:UInt8}:IntKind.i64.wrap (b.toNat:Int)=b.toNat:=BL om (by have:=toNat_lt b;omega)
theorem aDX{l:List UInt8}{n:Nat}{lo hi:Option Int}{h:H}(hn:n=l.length)(h0:0<=lo.getD 0)(h1:lo.getD 0<=hi.getD l.length)(h2:hi.getD l.length<=l.length):eN env.P h 22 (.d (.ivs n (bM l))) lo hi=some (.d (.ivs ((l.drop (lo.getD 0).toNat).take ((hi.getD l.length).toNat-(lo.getD 0).toNat)).length (bM ((l.drop (lo.getD 0).toNat).take ((hi.getD l.length).toNat-(lo.getD 0).toNat))))):=by
 subst hn;simp only[eN,aPc,aPa,lH,h0,h1,h2,and_self,if_true,Ch,Bb,Nat.zero_lt_one,bM,List.map_take,List.map_drop]
 congr 3
 rw[Bi,Cg];omega
theorem aIj{s:List UInt8}{lo hi:Option Int}{h:H}(h0:0<=lo.getD 0)(h1:lo.getD 0<=hi.getD s.length)(h2:hi.getD s.length<=s.length):eN env.P h 9 (.d (.str s)) lo hi=some (.d (.str ((s.drop (lo.getD 0).toNat).take ((hi.getD s.length).toNat-(lo.getD 0).toNat)))):=by
 simp only[eN,aDH,lH,h0,h1,h2,and_self,if_true,Bb]
theorem aCd{l:List UInt8}{n:Nat}{u:Int}{h:H}(hn:n=l.length)(h0:0<=u)(h1:u<=l.length):eN env.P h 22 (.d (.ivs n (bM l))) none (some u)=some (.d (.ivs (l.take u.toNat).length (bM (l.take u.toNat)))):=by
 rw[aDX hn smp (by simpa using h0) (by simpa using h1)];simp
theorem V0{s:List UInt8}{u v:Int}{h:H}(h0:0<=u)(h1:u<=v)(h2:v<=s.length):eN env.P h 9 (.d (.str s)) (some u) (some v)=some (.d (.str ((s.drop u.toNat).take (v.toNat-u.toNat)))):=by
 rw[aIj (by simpa using h0) (by simpa using h1) (by simpa using h2)];simp
theorem aFJ{h:H}{a b:Bool}:b6 env .eql 4 h (.d (.bool a)) (.d (.bool b))=some (.d (.bool (a==b)),h):=by simp[b6,aBin,aNil,aSK,eqlA]
theorem aFu{h:H}{a b:Bool}:b6 env .neq 4 h (.d (.bool a)) (.d (.bool b))=some (.d (.bool (!(a==b))),h):=by simp[b6,aBin,aNil,aSK,eqlA]
theorem LB:type_of% (AI @qY (AI @dG (AI @aCy (AI @ZG (AI @P4 (AI @cK (AI @aCm (AI @aJm (AI @aGa (AI @aFs (AI @aFF (AI @aFo (AI @aNc (AI @aFJ (AI @aFu @Ca))))))))))))))):=
 ⟨@qY,@dG,@aCy,@ZG,@P4,@cK,@aCm,@aJm,@aGa,@aFs,@aFF,@aFo,@aNc,@aFJ,@aFu,@Ca⟩
theorem CV:type_of% (AI @aCd @V0):=
 ⟨@aCd,@V0⟩
theorem DN:type_of% (AI @WD (AI @aGt (AI @WDD (AI @aGb @CV)))):=
 ⟨@WD,@aGt,@WDD,@aGb,@CV⟩
theorem Dz{p:Prop}(h:p:=by first|assumption|exact⟨by kernel_rfl⟩|omega|(simp only[GT,LN]<;>omega)):p:=h
theorem UP:type_of% (AI @SLM (AI @WK (AI @UN (AI @TY (AI @LB (AI @MD @BL)))))):=
 ⟨@SLM,@WK,@UN,@TY,@LB,@MD,@BL⟩
end
def gnd:Gnd:=⟨[(2,(Lib.deBruijn64tab.map fun(n:Nat)=>Value.int .u8 (n:Int)).toArray)],false⟩
section
variable{R:Type}{L n:Nat}
def fA(x:Int):Bool:=decide (0<=x/\x<6)
def cP(x:Int):Bool:=decide (0<=x/\x<=63)
theorem M7(hn:1<=n)(a:Int):aA env L n 78 [nI a] []=some (.d (.bool (cP a)),[]):=by
 obtain _|n:=n;omega
 simp-implicitDefEqProofs (maxSteps:=9^7) (disch:=try exact Dz) only[↓DN,↓kAsg,↓kRet,UP,simprocAttr,aFz,R0,Tryz.f78]
 by_cases h:0<=a<;>simp[h,cP]
theorem hY:type_of% fun {L} a=>ks fun hn=> @M7 L _ hn a:=fun {L} a=>ks fun hn=> @M7 L _ hn a
theorem O1(hn:1<=n)(a:Int):aA env L n 35 [nI a] []=some (.d (.bool (cP a)),[]):=by
 obtain _|n:=n;omega
 simp-implicitDefEqProofs (maxSteps:=9^7) (disch:=try exact Dz) only[↓DN,↓kAsg,↓kRet,UP,simprocAttr,aFv,QT,Tryz.f35]
 by_cases h:0<=a<;>simp[h,cP]
theorem dW:type_of% fun {L} a=>ks fun hn=> @O1 L _ hn a:=fun {L} a=>ks fun hn=> @O1 L _ hn a
def cN(a i:Int):Bool:=decide ((a.fdiv (2^(min i.toNat 64))) % 2=1)
def bitI(n:Int):Int:=IntKind.i64.wrap (1*2^(min n.toNat 64))
theorem toNat_ofInt(x:Int):((BitVec.ofInt 64 x).toNat:Int)=x % 18446744073709551616:=by
 rw[BitVec.toNat_ofInt];omega
theorem aLm(x:Int):iAnd .i64 x 1=x % 2:=by
 unfold iAnd
 have h1:(BitVec.ofInt IntKind.i64.bits x&&&BitVec.ofInt IntKind.i64.bits 1).toNat=(BitVec.ofInt 64 x).toNat % 2:=by
  change (BitVec.ofInt 64 x&&&BitVec.ofInt 64 1).toNat=_
  rw[BitVec.toNat_and];exact Nat.and_one_is_mod _
 rw[h1];have h2:=toNat_ofInt x;rw[BL om om];omega
theorem aMs:IntKind.i64.bits=64:=rfl
theorem aGq(hn:1<=n)(a i:Int)(hi:0<=i)(hi2:i<=9223372036854775807):aA env L n 115 [nI a,nI i] []=some (.d (.bool (cN a i)),[]):=by
 obtain _|n:=n;omega
 simp-implicitDefEqProofs (maxSteps:=9^7) (disch:=try exact Dz) only[↓DN,↓kAsg,↓kRet,UP,simprocAttr,↓WE,aRM,aLm,aMs,aQc,aJ4,Tryz.f115]<;>rfl
theorem uX:type_of% fun {L} a i hi hi2=>ks fun hn=> @aGq L _ hn a i hi hi2:=fun {L} a i hi hi2=>ks fun hn=> @aGq L _ hn a i hi hi2
theorem aMn(hn:1<=n)(a i:Int):aA env L n 68 [nI a,nI i] []=some (.d (.bool (decide (0<=i)&&cN a i)),[]):=by
 obtain _|n:=n;omega
 simp-implicitDefEqProofs (maxSteps:=9^7) (disch:=try exact Dz) only[↓DN,↓kAsg,↓kRet,UP,simprocAttr,aLm,aMs,aT7,aO9,Tryz.f68]
 by_cases h:0<=i<;>simp[h,cN]
theorem U7:type_of% fun {L} a i=>ks fun hn=> @aMn L _ hn a i:=fun {L} a i=>ks fun hn=> @aMn L _ hn a i
theorem aFf(hn:1<=n)(i:Int)(hi:0<=i)(hi2:i<=9223372036854775807):aA env L n 153 [nI i] []=some (nI (bitI i),[]):=by
 obtain _|n:=n;omega
 simp-implicitDefEqProofs (maxSteps:=9^7) (disch:=try exact Dz) only[↓DN,↓kAsg,↓kRet,UP,simprocAttr,↓WE,aRM,aMs,aQV,aJ7,Tryz.f153]<;>rfl
theorem aPO:type_of% fun {L} i hi hi2=>ks fun hn=> @aFf L _ hn i hi hi2:=fun {L} i hi hi2=>ks fun hn=> @aFf L _ hn i hi hi2
def aB(a:Int):List Int:=[0,1,2,3,4,5].filter (cN a)
def sM:Nat->List Int
 |0=>[]
 |j+1=>(6-((j+1:Nat):Int))::sM j
theorem zL{x:Int}:fA x=true↔0<=x/\x<=5:=by
 unfold fA;simp;omega
theorem aDL(hn:1<=n){a:Int}{k:KE R}:∀(j:Nat) (i:Int) (l:List Int) (len m:Nat),i+j=6->0<=i->j<m->len=l.length->l.length+j<100->
  aT env (aA env L n) L 0 [0,0,0,2] Bz30 (u4 0) Bz54 m (nI a::Y1 (.d .nils::.sl 0 0 0 len::Y1 (nI i::Y8 (Y2 (Y1 ([])))))) [.arr (ints l) 1 0] k
  =k (.exit 0) (nI a::Y1 (.d .nils::.sl 0 0 0 (len+((sM j).filter (cN a)).length)::Y1 (nI 6::Y8 (Y2 (Y1 ([])))))) [.arr (ints (l++(sM j).filter (cN a))) 1 0]:=by
 intro j
 induction j with
 |zero=>
  intro i l len m hi h0 hm hl hlen;obtain _|m:=m;omega;obtain rfl:i=6:=om
  simp-implicitDefEqProofs (maxSteps:=9^7) (disch:=try exact Dz) only[↓DN,↓kRet,UP,simprocAttr,tF,r5,Tryz.f36];simp only[sM,List.filter_nil,Ai,Ac,By]
 |succ j ih=>
  intro i l len m hi h0 hm hl hlen;obtain _|m:=m;omega;have hc:i<6:=om;have hr:sM (j+1)=i::sM j:=by simp only[sM];congr 1;omega
  rw[hr,List.filter_cons]
  cases hb:cN a i with
  |true=>
   simp-implicitDefEqProofs (maxSteps:=9^7) (disch:=try exact Dz) only[↓DN,↓kRet,UP,simprocAttr,↓U7,↓ih,hc,hb,h0,tF,r5,Tryz.f36]
   try simp only[Ao,Ax,Aq,Nat.add_assoc,De 1]
  |false=>
   simp-implicitDefEqProofs (maxSteps:=9^7) (disch:=try exact Dz) only[↓DN,↓kRet,UP,simprocAttr,↓U7,↓ih,hc,hb,h0,tF,r5,Tryz.f36]
theorem VG{R:Type}{L n m:Nat}(hn:1<=n){a:Int}{k:KE R}(hm:6<m):
  aT env (aA env L n) L 0 [0,0,0,2] Bz30 (u4 0) Bz54 m (nI a::Y1 (.d .nils::.sl 0 0 0 0::Y1 (nI 0::Y8 (Y2 (Y1 ([])))))) [.arr [] 1 0] k
  =k (.exit 0) (nI a::Y1 (.d .nils::.sl 0 0 0 (aB a).length::Y1 (nI 6::Y8 (Y2 (Y1 ([])))))) [.arr (ints (aB a)) 1 0]:=by
 have h:=aDL (R:=R) (L:=L) hn (a:=a) (k:=k) 6 0 [] 0 m rfl om hm rfl smp;simp only[Ag,Aq]at h;exact h
theorem bO(a:Int):(aB a).length<=6:=by
 unfold aB;exact List.length_filter_le _ _
theorem Q0(hn:2<=n)(a:Int)(hL:2^60<=L):aA env L n 36 [nI a] []=some (.d (.ivs (aB a).length (ints (aB a))),[]):=by
 obtain _|n:=n;omega
 simp-implicitDefEqProofs (maxSteps:=9^7) (disch:=try exact Dz) only[↓DN,↓kAsg,UP,simprocAttr,↓VG,aHL,V6,Tryz.f36]
theorem jD:type_of% fun {L} a hL=>ks fun hn=> @Q0 L _ hn a hL:=fun {L} a hL=>ks fun hn=> @Q0 L _ hn a hL
theorem aUD{l:List Int}{P:Int->Prop}(h:∀v∈l,P v){k:Nat}(hk:k<l.length):P (l.getD k 0):=by
 rw[Aa,Ad hk];exact h _ (At hk)
theorem b9{a:Int}:∀v∈aB a,0<=v/\v<=5:=by
 intro v hv;have:=(List.mem_filter.1 hv).1;simp at this;omega
end
structure Edge where
 fr:Int
 lt:Int
 to:Int
 deriving DecidableEq,Inhabited
def aXJ(e:Edge):List D:=[.int .i64 e.fr,.int .i64 e.lt,.int .i64 e.to]
def aXo(l:List Edge):List D:=(l.map aXJ).flatten
def cmpI(a b:Int):Int:=if a<b then -1 else if b<a then 1 else 0
def rK:List Int->Int
 | []=>0
 |a::l=>if a=0 then rK l else a
def lz:List Int->Nat
 | []=>0
 |a::l=>if a=0 then lz l+1 else 0
theorem cC{α:Type}{l:List α}{i:Nat}{d:α}(h:i<l.length):l.drop i=l.getD i d::l.drop (i+1):=by
 rw[Dt h,Aa,Ad h];rfl
def seek(p:Nat->Bool):Nat->Nat->Option Nat
 |0,_=>none
 |j+1,i=>if p i=true then some i else seek p j (i+1)
theorem kY{p:Nat->Bool}:∀ {j i:Nat},seek p j i=none↔∀k,i<=k->k<i+j->p k=false
 |0,i=>by simp only[seek,true_iff];intro k h1 h2;omega
 |j+1,i=>by
  simp only[seek]
  by_cases hp:p i=true
  ·rw[if_pos hp];simp only[false_iff,reduceCtorEq];intro h;have:=h i (Ab _) om;rw[hp]at this;cases this
  ·rw[if_neg hp,kY]
   constructor
   ·intro h k h1 h2
    by_cases e:k=i
    ·subst e;simpa using hp
    ·exact h k om om
   ·intro h k h1 h2;exact h k om om
theorem zH{p:Nat->Bool}:∀ {j i r:Nat},seek p j i=some r->i<=r/\r<i+j/\p r=true/\∀k,i<=k->k<r->p k=false
 |0,i,r,h=>by simp[seek]at h
 |j+1,i,r,h=>by
  simp only[seek]at h
  by_cases hp:p i=true
  ·rw[if_pos hp]at h;cases h;exact⟨Ab _,by omega,hp,fun k h1 h2=>by omega⟩
  ·rw[if_neg hp]at h;obtain⟨h1,h2,h3,h4⟩:=zH h;refine⟨by omega,by omega,h3,fun k k1 k2=> ?_⟩
   by_cases e:k=i
   ·subst e;simpa using hp
   ·exact h4 k om k2
theorem fX{p:Nat->Bool}{j i:Nat}(h:p i=true):seek p (j+1) i=some i:=by simp[seek,h]
theorem jK{p:Nat->Bool}{j i:Nat}(h:p i=false):seek p (j+1) i=seek p j (i+1):=by simp[seek,h]
structure Sys where
 al:Int
 st:Int
 es:List Edge
 deriving DecidableEq,Inhabited
theorem oT{a b:UInt8}{x y:List UInt8}:Op.bytesLess (a::x) (b::y)=true↔a.toNat<b.toNat\/a=b/\Op.bytesLess x y=true:=by
 simp only[Op.bytesLess,Bool.or_eq_true,Ar,beq_iff_eq,decide_eq_true_eq]<;>rfl
theorem WI:∀x:List UInt8,¬Op.bytesLess x x=true
 | [],h=>by simp[Op.bytesLess]at h
 |a::x,h=>by
  rcases oT.1 h with h|⟨_,h⟩
  ·omega
  ·exact WI x h
theorem M2:∀ {x y z:List UInt8},Op.bytesLess x y=true->Op.bytesLess y z=true->Op.bytesLess x z=true
 |_,[],_,h,_=>by simp[Op.bytesLess]at h
 |_,_::_,[],_,k=>by simp[Op.bytesLess]at k
 | [],_::_,_::_,_,_=>by simp[Op.bytesLess]
 |a::x,b::y,c::z,h,k=>by
  rw[oT]at *
  rcases h with h|⟨rfl,h⟩<;>rcases k with k|⟨rfl,k⟩
  ·exact .inl om
  ·exact .inl h
  ·exact .inl k
  ·exact .inr ⟨rfl,M2 h k⟩
theorem GY:∀(x y:List UInt8),x=y\/Op.bytesLess x y=true\/Op.bytesLess y x=true
 | [],[]=>.inl rfl
 | [],_::_=>.inr (.inl (by simp[Op.bytesLess]))
 |_::_,[]=>.inr (.inr (by simp[Op.bytesLess]))
 |a::x,b::y=>by
  rw[oT,oT]
  rcases Dd a.toNat b.toNat with h|h|h
  ·exact .inr (.inl (.inl h))
  ·have e:a=b:=UInt8.toNat_inj.1 h;subst e
   rcases GY x y with g|g|g
   ·exact .inl (by rw[g])
   ·exact .inr (.inl (.inr ⟨rfl,g⟩))
   ·exact .inr (.inr (.inr ⟨rfl,g⟩))
  ·exact .inr (.inr (.inl h))
theorem aPI{x y:List UInt8}:cmpB x y<0↔Op.bytesLess x y=true:=by
 unfold cmpB
 by_cases h1:Op.bytesLess x y=true
 ·simp[h1]
 ·by_cases h2:Op.bytesLess y x=true<;>simp[h1,h2]
theorem JD{x y:List UInt8}:cmpX x y<0↔x.length<y.length\/x.length=y.length/\Op.bytesLess x y=true:=by
 unfold cmpX;simp only[aHW]
 rcases Dd x.length y.length with h|h|h
 ·have e:MX (x.length:Int) (y.length:Int)= -1:=by unfold MX;rw[if_pos om]
  rw[e];simp[h]
 ·have e:MX (x.length:Int) (y.length:Int)=0:=by unfold MX;rw[h];simp
  rw[e,if_pos rfl,h]
  by_cases h0:cmpB x y=0
  ·rw[if_pos h0];have:=aPI (x:=x) (y:=y);rw[h0]at this;simp only[true_and,<-this];omega
  ·rw[if_neg h0,aPI];simp
 ·have e:MX (x.length:Int) (y.length:Int)=1:=by unfold MX;rw[if_neg om,if_pos om]
  rw[e,if_neg om]
  constructor
  ·intro h2;omega
  ·rintro(h2|⟨h2,_⟩)<;>omega
theorem I4(x:List UInt8):¬cmpX x x<0:=by
 rw[JD];rintro(h|⟨_,h⟩)
 ·omega
 ·exact WI _ h
theorem tS{x y z:List UInt8}(h:cmpX x y<0)(k:cmpX y z<0):cmpX x z<0:=by
 rw[JD]at *
 rcases h with h|⟨h1,h⟩<;>rcases k with k|⟨k1,k⟩
 ·exact .inl om
 ·exact .inl om
 ·exact .inl om
 ·exact .inr ⟨by omega,M2 h k⟩
theorem RK(x y:List UInt8):x=y\/cmpX x y<0\/cmpX y x<0:=by
 rw[JD,JD]
 rcases Dd x.length y.length with h|h|h
 ·exact .inr (.inl (.inl h))
 ·rcases GY x y with g|g|g
  ·exact .inl g
  ·exact .inr (.inl (.inr ⟨h,g⟩))
  ·exact .inr (.inr (.inr ⟨h.symm,g⟩))
 ·exact .inr (.inr (.inl h))
theorem aIq{x y:List UInt8}(h:cmpX x y<0):¬cmpX y x<0:=fun k=>I4 x (tS h k)
theorem NA(a b c:List UInt8)(h1:leX a b=true)(h2:leX b c=true):leX a c=true:=by
 unfold leX at *;simp only[Cx,decide_eq_false_iff_not]at *;intro h
 rcases RK a b with rfl|g|g
 ·exact h2 h
 ·exact h2 (tS h g)
 ·exact h1 g
theorem NQ(a b:List UInt8):(leX a b||leX b a)=true:=by
 unfold leX
 by_cases h:cmpX b a<0
 ·have:=aIq h;simp[this]
 ·simp[h]
theorem aEk{a b:List UInt8}(h1:leX a b=true)(h2:leX b a=true):a=b:=by
 unfold leX at *;simp only[Cx,decide_eq_false_iff_not]at *
 rcases RK a b with g|g|g
 ·exact g
 ·exact(h2 g).elim
 ·exact(h1 g).elim
theorem aS2{a b:List UInt8}(h:cmpX a b<0):leX a b=true:=by
 unfold leX;simp only[Cx,decide_eq_false_iff_not];exact aIq h
theorem aXB{a b:Int}:[D.int .i64 a,.int .i64 b]=ints [a,b]:=rfl
theorem aRk{x y:List UInt8}(h1:¬Op.bytesLess x y=true):(x==y)= !Op.bytesLess y x:=by
 rw[Bool.eq_iff_iff];simp only[Cx,beq_iff_eq]
 rcases GY x y with rfl|g|g
 ·simpa using h1
 ·exact absurd g h1
 ·refine⟨fun e=> ?_,fun e=>by rw[g]at e;cases e⟩;subst e;exact absurd g h1
theorem aF5{E:Env}{t:TypeId}{h:H}{a b:List UInt8}:b6 E .gtr t h (.d (.str a)) (.d (.str b))=some (.d (.bool (!(Op.bytesLess a b||a==b))),h):=by simp[b6,aBin]
theorem aQe{E:Env}{t:TypeId}{h:H}{a b:List UInt8}:b6 E .neq t h (.d (.str a)) (.d (.str b))=some (.d (.bool (!(a==b))),h):=by simp[b6,aBin]
theorem UC{E:Env}{t:TypeId}{h:H}{a b:List UInt8}:b6 E .lss t h (.d (.str a)) (.d (.str b))=some (.d (.bool (Op.bytesLess a b)),h):=by simp[b6,aBin]
section
variable{R:Type}{L n:Nat}
namespace X1
noncomputable def env1:Env:={ env with prim:=fun _=>none,eqs:=[]}
theorem e1P:env1.P=env.P:=rfl
theorem aBH{args:List A}{h:H}:aA env1 L (n+1) 76 args h=cT env1 (aA env1 L n) L h.length [] ([]) aEv PI (args++List.replicate (Tryz.f76.ntmps-args.length) (.d .undef)) h (kFin env1.P h.length false [.tmp 2]):=
 LT (mode:=1) kr Tryz.func76 kr kr aEf kr kr
theorem rQ{args:List A}{h:H}:aA env1 L (n+1) 45 args h=cT env1 (aA env1 L n) L h.length [] ([]) YB nO (args++List.replicate (Tryz.f45.ntmps-args.length) (.d .undef)) h (kFin env1.P h.length false [.tmp 4]):=
 LT (mode:=1) kr Tryz.func45 kr kr aAp kr kr
theorem RY{args:List A}{h:H}:aA env1 L (n+1) 44 args h=cT env1 (aA env1 L n) L h.length [] (false::false::true::true::false::false::true::true::true::false::false::false::false::false::false::false::false::false::[]) qZ JR (args++List.replicate (Tryz.f44.ntmps-args.length) (.d .undef)) h (kFin env1.P h.length false [.tmp 2]):=
 LT (mode:=1) kr Tryz.func44 kr kr WF kr kr
theorem uF{R:Type}{call:aZ}{L nf n:Nat}{thaw:List Nat}{live m:List Bool}{s:List A}{h:H}{k:KE R}:aT env1 call L nf thaw live (qZ 0) m (n+1) s h k=cT env1 call L nf thaw live qZ vH s h (aBx env1 call L nf thaw live (qZ 0) m n k):=
 aGj WF kr
theorem US{args:List A}{h:H}:aA env1 L (n+1) 77 args h=cT env1 (aA env1 L n) L h.length [] ([]) XQ EK (args++List.replicate (Tryz.f77.ntmps-args.length) (.d .undef)) h (kFin env1.P h.length false [.tmp 2]):=
 LT (mode:=1) kr Tryz.func77 kr kr XH kr kr
theorem nD{args:List A}{h:H}:aA env1 L (n+1) 46 args h=cT env1 (aA env1 L n) L h.length [] ([]) RU kT (args++List.replicate (Tryz.f46.ntmps-args.length) (.d .undef)) h (kFin env1.P h.length false [.tmp 4]):=
 LT (mode:=1) kr Tryz.func46 kr kr SI kr kr
theorem aHI{args:List A}{h:H}:aA env1 L (n+1) 21 args h=cT env1 (aA env1 L n) L h.length [] ([]) aKk ZF (args++List.replicate (Tryz.f21.ntmps-args.length) (.d .undef)) h (kFin env1.P h.length false [.tmp 4]):=
 LT (mode:=1) kr Tryz.func21 kr kr aKo kr kr
theorem aBP(hn:1<=n)(a:Int):aA env1 L n 76 [nI a] []=some (.d (.bool false),[]):=by
 obtain _|n:=n;omega;rw[aBH];simp only[PI,Tryz.f76,SLM,simprocAttr]
 simp-implicitDefEqProofs (maxSteps:=9^7) (disch:=try exact Dz) only[↓DN,↓kAsg,↓kRet,e1P,UP,simprocAttr]
theorem wC{hq:H}{k:KA R}(hn:1<=n)(a:Int):aX env1 (aA env1 L n) hq 76 [nI a] k=k (.d (.bool false)) hq:=
 bS rfl (aBP hn a) rfl (.inl rfl)
theorem XS(hn:2<=n)(a b:Int):aA env1 L n 45 [nI a,nI b] []=some (nI (cmpI a b),[]):=by
 unfold cmpI
 by_cases h1:a<b
 ·obtain _|n:=n;omega;rw[rQ];simp only[nO,Tryz.f45,SLM,simprocAttr]
  simp-implicitDefEqProofs (maxSteps:=9^7) (disch:=try exact Dz) only[↓DN,↓kAsg,↓kRet,e1P,UP,simprocAttr,↓wC,h1]
 ·by_cases h2:b<a
  ·obtain _|n:=n;omega;rw[rQ];simp only[nO,Tryz.f45,SLM,simprocAttr]
   simp-implicitDefEqProofs (maxSteps:=9^7) (disch:=try exact Dz) only[↓DN,↓kAsg,↓kRet,e1P,UP,simprocAttr,↓wC,h1,h2]
  ·obtain _|n:=n;omega;rw[rQ];simp only[nO,Tryz.f45,SLM,simprocAttr]
   simp-implicitDefEqProofs (maxSteps:=9^7) (disch:=try exact Dz) only[↓DN,↓kAsg,↓kRet,e1P,UP,simprocAttr,↓wC,h1,h2]
theorem XO{hq:H}{k:KA R}(hn:2<=n)(a b:Int):aX env1 (aA env1 L n) hq 45 [nI a,nI b] k=k (nI (cmpI a b)) hq:=
 bS rfl (XS hn a b) rfl (.inl rfl)
theorem MU(hn:1<=n){l:List Int}(hl:l.length<=1000){k:KE R}:∀(i:Int) (m:Nat) (h0:0<=i) (hi:i<=l.length) (hm:(l.length:Int)-i<m),
  aT env1 (aA env1 L n) L 0 [] (Z2 (U2 (Z2 (U2 (U1 (Z8 (Z1 ([])))))))) (qZ 0) (U2 (Z2 (U2 (Z2 (Z1 (U8 (U1 ([])))))))) m (Y2 (nI 0::nI 0::Y2 (.d (.ivs l.length (ints l))::nI (l.length)::nI i::Y8 (Y1 ([]))))) [] k
  =if rK (l.drop i.toNat)=0 then k (.exit 0) (Y2 (nI 0::nI 0::Y2 (.d (.ivs l.length (ints l))::nI (l.length)::nI (l.length)::Y8 (Y1 ([]))))) []else k .ret (Y2 (nI (rK (l.drop i.toNat))::nI 0::Y2 (.d (.ivs l.length (ints l))::nI (l.length)::nI (i+lz (l.drop i.toNat))::Y8 (Y1 ([]))))) []:=by
 intro i m h0 hi hm;obtain⟨j,hj⟩:∃j:Nat,(j:Int)=(l.length:Int)-i:=⟨((l.length:Int)-i).toNat,by omega⟩
 induction j generalizing i m with
 |zero=>
  obtain _|m:=m;omega;obtain rfl:i=l.length:=om;rw[uF];simp only[vH,Tryz.f44,SLM,simprocAttr]
  simp-implicitDefEqProofs (maxSteps:=9^7) (disch:=try exact Dz) only[↓DN,↓kRet,UP,simprocAttr,Ah];simp only[Bu,rK,if_true]
 |succ j ih=>
  obtain _|m:=m;omega;have hc:i<l.length:=om;have hk:i.toNat<l.length:=om;have e1:(i+1).toNat=i.toNat+1:=om;rw[cC hk (d:=0)]
  by_cases hz:l.getD i.toNat 0=0
  ·rw[uF];simp only[vH,Tryz.f44,SLM,simprocAttr]
   simp-implicitDefEqProofs (maxSteps:=9^7) (disch:=try exact Dz) only[↓DN,↓kRet,e1P,UP,simprocAttr,hc,hz,↓ih];simp only[rK,lz,if_true,e1,Int.natCast_add,Int.add_assoc,Int.add_comm 1]<;>rfl
  ·rw[uF];simp only[vH,Tryz.f44,SLM,simprocAttr]
   simp-implicitDefEqProofs (maxSteps:=9^7) (disch:=try exact Dz) only[↓DN,↓kRet,e1P,UP,simprocAttr,hc,hz];simp only[rK,lz,hz,if_false,Ap,Int.add_zero]
theorem aH2(hn:2<=n)(l:List Int)(hl:l.length<=1000)(hL:2^60<=L):aA env1 L n 44 [.d (.ivs l.length (ints l))] []=some (nI (rK l),[]):=by
 by_cases hz:rK l=0
 ·obtain _|n:=n;omega;rw[RY];simp only[JR,Tryz.f44,SLM,simprocAttr]
  simp-implicitDefEqProofs (maxSteps:=9^7) (disch:=try exact Dz) only[↓DN,↓kAsg,↓kRet,e1P,UP,simprocAttr,↓MU,Df,hz]
 ·obtain _|n:=n;omega;rw[RY];simp only[JR,Tryz.f44,SLM,simprocAttr]
  simp-implicitDefEqProofs (maxSteps:=9^7) (disch:=try exact Dz) only[↓DN,↓kAsg,↓kRet,e1P,UP,simprocAttr,↓MU,Df,hz]
theorem aHq{k:A->Option R}(hn:2<=n)(l:List Int)(hl:l.length<=1000)(hL:2^60<=L):xW (aA env1 L n) 44 [.d (.ivs l.length (ints l))] k=k (nI (rK l)):=
 lT (aH2 hn l hl hL) rfl
theorem aDG{hq:H}{k:KA R}{id0 g0 o0 len0:Nat}:aX env1 (aA env1 L n) hq 44 [.sl id0 g0 o0 len0] k=match box (aBc hq [.sl id0 g0 o0 len0])with
  |.mk (some fs)=>xW (aA env1 L n) 44 fs fun r=>k r hq
  |_=>none:=d7 AW
theorem UK(hn:1<=n)(x:List UInt8):aA env1 L n 77 [.d (.str x)] []=some (.d (.bool false),[]):=by
 obtain _|n:=n;omega;rw[US];simp only[EK,Tryz.f77,SLM,simprocAttr]
 simp-implicitDefEqProofs (maxSteps:=9^7) (disch:=try exact Dz) only[↓DN,↓kAsg,↓kRet,e1P,UP,simprocAttr,aQe]
theorem qP{hq:H}{k:KA R}(hn:1<=n)(x:List UInt8):aX env1 (aA env1 L n) hq 77 [.d (.str x)] k=k (.d (.bool false)) hq:=
 bS rfl (UK hn x) rfl (.inl rfl)
theorem P2(hn:2<=n)(x y:List UInt8):aA env1 L n 46 [.d (.str x),.d (.str y)] []=some (nI (cmpB x y),[]):=by
 unfold cmpB
 by_cases h1:Op.bytesLess x y=true
 ·obtain _|n:=n;omega;rw[nD];simp only[kT,Tryz.f46,SLM,simprocAttr]
  simp-implicitDefEqProofs (maxSteps:=9^7) (disch:=try exact Dz) only[↓DN,↓kAsg,↓kRet,e1P,UP,simprocAttr,↓qP,UC,h1]
 ·have hg:=aRk h1
  by_cases h2:Op.bytesLess y x=true
  ·rw[h2,Bool.not_true]at hg;obtain _|n:=n;omega;rw[nD];simp only[kT,Tryz.f46,SLM,simprocAttr]
   simp-implicitDefEqProofs (maxSteps:=9^7) (disch:=try exact Dz) only[↓DN,↓kAsg,↓kRet,e1P,UP,simprocAttr,↓qP,UC,aF5,h1,h2,hg]
  ·rw[Bool.eq_false_iff.2 h2,Bool.not_false]at hg;obtain _|n:=n;omega;rw[nD];simp only[kT,Tryz.f46,SLM,simprocAttr]
   simp-implicitDefEqProofs (maxSteps:=9^7) (disch:=try exact Dz) only[↓DN,↓kAsg,↓kRet,e1P,UP,simprocAttr,↓qP,UC,aF5,h1,h2,hg]
theorem P1{hq:H}{k:KA R}(hn:2<=n)(x y:List UInt8):aX env1 (aA env1 L n) hq 46 [.d (.str x),.d (.str y)] k=k (nI (cmpB x y)) hq:=
 bS rfl (P2 hn x y) rfl (.inl rfl)
theorem ev1_i_shortlex(hn:4<=n)(x y:List UInt8)(hL:2^60<=L):aA env1 L n 21 [.d (.str x),.d (.str y)] []=some (nI (cmpX x y),[]):=by
 have k3:∀ {R:Type} {n:Nat} {k:A->Option R},2<=n->xW (aA env1 L n) 44 [.d (.ivs 2 (ints [cmpI x.length y.length,cmpB x y]))] k=k (nI (rK [cmpI x.length y.length,cmpB x y])):=fun h=>aHq h [cmpI x.length y.length,cmpB x y] smp hL;obtain _|n:=n;omega;rw[aHI];simp only[ZF,Tryz.f21,SLM,simprocAttr]
 simp-implicitDefEqProofs (maxSteps:=9^7) (disch:=try exact Dz) only[↓DN,↓kAsg,↓kRet,e1P,UP,simprocAttr,↓XO,↓P1,↓aDG,aXB,↓k3]<;>rfl
end X1
end
section
open Go.Shelf
def aLd:Go.Shelf.Ren:=⟨fun|6=>41|15=>74|14=>73|28=>113|29=>114|20=>105|21=>106|22=>107|23=>108|24=>109|25=>110|26=>111|27=>112|46=>129|47=>130|48=>131|49=>132|50=>133|57=>149|n=>n,fun|22=>30|24=>9|25=>47|3=>3|39=>87|0=>0|53=>118|55=>120|4=>4|46=>112|45=>111|50=>92|5=>5|9=>9|66=>136|70=>140|76=>155|77=>156|n=>n,fun|n=>n⟩
theorem aNy:Go.Proofs.SlLaysF.n6 Tryz.prog aLd:={
 mixed:=by kernel_rfl
 f6:=⟨Tryz.f41.name,by decide,Tryz.func41.trans (congrArg some (by kernel_rfl))⟩
 f14:=⟨Tryz.f73.name,by decide,Tryz.func73.trans (congrArg some (by kernel_rfl))⟩
 f15:=Tryz.func74.trans (congrArg some (by kernel_rfl))
 f20:=⟨Tryz.f105.name,by decide,Tryz.func105.trans (congrArg some (by kernel_rfl))⟩
 f21:=⟨Tryz.f106.name,by decide,Tryz.func106.trans (congrArg some (by kernel_rfl))⟩
 f22:=⟨Tryz.f107.name,by decide,Tryz.func107.trans (congrArg some (by kernel_rfl))⟩
 f23:=⟨Tryz.f108.name,by decide,Tryz.func108.trans (congrArg some (by kernel_rfl))⟩
 f24:=⟨Tryz.f109.name,by decide,Tryz.func109.trans (congrArg some (by kernel_rfl))⟩
 f25:=⟨Tryz.f110.name,by decide,Tryz.func110.trans (congrArg some (by kernel_rfl))⟩
 f26:=⟨Tryz.f111.name,by decide,Tryz.func111.trans (congrArg some (by kernel_rfl))⟩
 f27:=⟨Tryz.f112.name,by decide,Tryz.func112.trans (congrArg some (by kernel_rfl))⟩
 f28:=Tryz.func113.trans (congrArg some (by kernel_rfl))
 f29:=Tryz.func114.trans (congrArg some (by kernel_rfl))
 f46:=⟨Tryz.f129.name,by decide,Tryz.func129.trans (congrArg some (by kernel_rfl))⟩
 f47:=Tryz.func130.trans (congrArg some (by kernel_rfl))
 f48:=Tryz.func131.trans (congrArg some (by kernel_rfl))
 f49:=⟨Tryz.f132.name,by decide,Tryz.func132.trans (congrArg some (by kernel_rfl))⟩
 f50:=⟨Tryz.f133.name,by decide,Tryz.func133.trans (congrArg some (by kernel_rfl))⟩
 f57:=⟨Tryz.f149.name,by decide,Tryz.func149.trans (congrArg some (by kernel_rfl))⟩
 t0:=Tryz.underlying0
 a0:=Tryz.isAgg0
 z0:=Tryz.sizeOf0
 v0:=Tryz.zeroValue0
 t3:=Tryz.underlying3
 a3:=Tryz.isAgg3
 z3:=Tryz.sizeOf3
 v3:=Tryz.zeroValue3
 t4:=Tryz.underlying4
 a4:=Tryz.isAgg4
 z4:=Tryz.sizeOf4
 v4:=Tryz.zeroValue4
 t5:=Tryz.underlying5
 a5:=Tryz.isAgg5
 z5:=Tryz.sizeOf5
 v5:=Tryz.zeroValue5
 t9:=Tryz.underlying9
 a9:=Tryz.isAgg9
 z9:=Tryz.sizeOf9
 v9:=Tryz.zeroValue9
 t22:=Tryz.underlying30
 a22:=Tryz.isAgg30
 z22:=Tryz.sizeOf30
 v22:=Tryz.zeroValue30
 a24:=Tryz.isAgg9
 z24:=Tryz.sizeOf9
 t25:=Tryz.underlying47
 a25:=Tryz.isAgg47
 z25:=Tryz.sizeOf47
 v25:=Tryz.zeroValue47
 t39:=Tryz.underlying87
 a39:=Tryz.isAgg87
 z39:=Tryz.sizeOf87
 v39:=Tryz.zeroValue87
 t45:=Tryz.underlying111
 a45:=Tryz.isAgg111
 z45:=Tryz.sizeOf111
 v45:=Tryz.zeroValue111
 t46:=Tryz.underlying112
 a46:=Tryz.isAgg112
 z46:=Tryz.sizeOf112
 v46:=Tryz.zeroValue112
 t50:=Tryz.underlying92
 a50:=Tryz.isAgg92
 z50:=Tryz.sizeOf92
 v50:=Tryz.zeroValue92
 t53:=Tryz.underlying118
 a53:=Tryz.isAgg118
 z53:=Tryz.sizeOf118
 v53:=Tryz.zeroValue118
 t55:=Tryz.underlying120
 a55:=Tryz.isAgg120
 z55:=Tryz.sizeOf120
 v55:=Tryz.zeroValue120
 t66:=Tryz.underlying136
 a66:=Tryz.isAgg136
 z66:=Tryz.sizeOf136
 v66:=Tryz.zeroValue136
 t70:=Tryz.underlying140
 a70:=Tryz.isAgg140
 z70:=Tryz.sizeOf140
 v70:=Tryz.zeroValue140
 t76:=Tryz.underlying155
 a76:=Tryz.isAgg155
 z76:=Tryz.sizeOf155
 v76:=Tryz.zeroValue155
 t77:=Tryz.underlying156
 a77:=Tryz.isAgg156
 z77:=Tryz.sizeOf156
 v77:=Tryz.zeroValue156}
end
section
variable{G:Gnd}
open Go.RowKit Go.Lib Go.Sort
theorem aWM:EnvOK X1.env1:=⟨fun t n h=>by
  have:X1.env1.eqs=[]:=rfl;rw[this]at h;simp at h,by kernel_rfl⟩
theorem aXb{w w':World}(g:Grew true w w'):∃q os,w'=grow (w.drewN q) os:=by
 refine⟨w'.drawn-w.drawn,w'.heap.extract w.heap.size w'.heap.size,?_⟩
 have h1:w'.heap=w.heap++w'.heap.extract w.heap.size w'.heap.size:=by
  apply Array.ext_getElem?;intro j;rw[Array.getElem?_append]
  by_cases h:j<w.heap.size
  ·rw[if_pos h];exact g.same j h
  ·rw[if_neg h,Array.getElem?_extract];have:=g.size
   by_cases h2:j<w'.heap.size
   ·rw[if_pos om];congr 1;omega
   ·rw[if_neg om,Array.getElem?_eq_none om]
 have h2:w.drawn+(w'.drawn-w.drawn)=w'.drawn:=by have:=g.drawn rfl;omega
 have h3:=g.os;have h4:=g.tape;have h5:=g.output;generalize w'.heap.extract w.heap.size w'.heap.size=os at h1|-;generalize w'.drawn-w.drawn=q at h2|-
 cases w' with
 |mk heap tape drawn os' output=>
  simp only at h1 h2 h3 h4 h5;subst h1;subst h2;subst h3;subst h4;subst h5;rfl
def encX(x:List UInt8):Value:=.string ⟨x.toArray⟩
theorem aTD(x y:List UInt8)(w:World):Calls Tryz.prog 21 #[encX x,encX y] w fun e w'=>e=.returned (.int .i64 (cmpX x y))/\∃q os,w'=grow (w.drewN q) os:=by
 have he:=X1.ev1_i_shortlex (L:=2^60) (n:=4) (Ab _) x y (Ab _);obtain⟨_,hc⟩:=aQq (G:=⟨[],true⟩) (E:=X1.env1) (L:=2^60) aWM (fun f g h=>by cases h) 4 _ _ _ _ _ he
 have ha:ARv [] (fun _=>none) w (fun b=>b<w.heap.size) [.d (.str x),.d (.str y)] [encX x,encX y]:=by
  simp only[ARv,AR,DR,encX];exact⟨_,_,rfl,rfl,_,_,rfl,rfl,rfl⟩
 refine(hc (fun _=>none) w (fun b=>b<w.heap.size) _ (zE (fun _ h=>h) (aQw _ _)) ha).mono fun e w' hh=> ?_;obtain⟨v,ρ',I',rfl,s,hv⟩:=hh;have hv:v=.int .i64 (cmpX x y):=by simpa only[AR,DR]using hv
 subst hv;exact⟨rfl,aXb (VB s)⟩
theorem swoX:SWO (ltOf cmpX) where
 irrefl x:=by unfold ltOf;simpa using I4 x
 trans x y z h1 h2:=by unfold ltOf at *;simp only[decide_eq_true_eq]at *;exact tS h1 h2
 ntrans x y z h1 h2:=by
  unfold ltOf at *;simp only[decide_eq_false_iff_not]at *;intro h3
  rcases RK x y with rfl|g|g
  ·exact h2 h3
  ·exact h1 g
  ·exact h2 (tS g h3)
theorem totX(x y:List UInt8)(h1:ltOf cmpX x y=false)(h2:ltOf cmpX y x=false):x=y:=by
 unfold ltOf at *;simp only[decide_eq_false_iff_not]at *
 rcases RK x y with h|h|h
 ·exact h
 ·exact(h1 h).elim
 ·exact(h2 h).elim
theorem aPf:∀(ds:List D) (l:List (List UInt8)),EY ds=some l->ds=l.map .str
 | [],l,h=>by simp only[EY,Option.some.injEq]at h;subst h;rfl
 |d::ds,l,h=>by
  cases d<;>simp only[EY,reduceCtorEq]at h
  obtain⟨l',h1,rfl⟩:=Bc.1 h;rw[aPf ds l' h1];rfl
theorem aL3{l:List (List UInt8)}{j:Nat}(h:j<l.length):∃s,(l.map D.str)[j]? =some (.str s)/\l.toArray[j]! =s:=by
 refine⟨l[j],?_,?_⟩
 ·rw[Bh,Ad h];rfl
 ·simp[h]
theorem aJi(b len cap:Nat)(l:List (List UInt8))(hl:l.length=len)(w:World)(hH:Holds encX w b 0 l.toArray)(hb:b<w.heap.size)(hm:len<=4294967296):
  Calls Tryz.prog 41 #[.slice (some ⟨b,0,none⟩) len cap,.func (.func 21) #[] #[]] w fun e w'=>e=.returned (.tuple #[])/\∃n os,w'=sortWorld encX w b 0 n (l.mergeSort leX).toArray os:=by
 have eg:∀args w,(callFunc 21 args).run Tryz.prog w=.ok (.enter 21 args) w:=enters_of Tryz.func21 kr rfl;have hS:=Any.slices_SortFunc_total aNy encX (fun _=>rfl) cmpX swoX 21 #[] b 0 cap l.toArray w eg (fun _ _ _ _ x y=>aTD x y _) hH hb (by simp;omega) totX;have e1:l.toArray.size=len:=by simpa using hl
 rw[e1]at hS;exact hS
theorem aQo(p:Option Addr)(cap:Nat)(fv:Value)(w:World):Calls Tryz.prog 41 #[.slice p 0 cap,fv] w fun e w'=>e=.returned (.tuple #[])/\w'=w:=
 AnyF.slices_SortFunc_none { aNy with} p cap fv w
theorem aOF:FK G Tryz.prog 41 (MK 21):=by
 intro k args h x h' he;simp only at he
 split at he
 ·rename_i hk
  subst hk;refine⟨⟨_,Tryz.func41,by kernel_rfl,by kernel_rfl⟩,fun ρ w I vs r ha=> ?_⟩;unfold MK at he
  split at he
  ·rename_i id gen off len f
   split at he
   ·rename_i cs e g hid
    split at he
    ·rename_i hc
     obtain⟨rfl,rfl,rfl,he3,hcl,hmx⟩:=hc
     split at he
     ·rename_i l htr
      cases he;obtain⟨v1,rest1,rfl,hx,hr1⟩:=gH ha
      obtain⟨v2,rest2,rfl,hv2,hr2⟩:=gH hr1;simp only[ARv]at hr2;subst hr2;simp only[AR,ARv]at hv2 hx;obtain⟨caps,rfl,hcaps⟩:=hv2;obtain rfl:caps= #[]:=by simpa using hcaps
      obtain⟨a,cap,rfl,hs⟩:=hx;have hcs:=aPf _ _ htr
      have hll:l.length=len:=by
       have:=congrArg List.length hcs;rw[Am,Bi]at this;omega
      by_cases h0:len=0
      ·subst h0;have hl0:l=[]:=Bw.1 hll;subst hl0;refine(aQo a cap _ w).mono ?_;rintro e' w' ⟨rfl,rfl⟩
       have hsame:h.set id (.arr ((List.mergeSort [] leX).map .str++cs.drop 0) e g)=h:=by
        have:(List.mergeSort [] leX).map D.str++cs.drop 0=cs:=smp;rw[this];apply Cr;intro j;rw[Cp];obtain⟨hl,hee⟩:=Aw.1 hid
        by_cases e1:id=j
        ·subst e1;simp[hl,hee]
        ·simp[e1]
       rw[hsame];exact⟨_,ρ,I,rfl,.refl r,by simp[AR,ARv]⟩
      ·obtain rfl:e=1:=om;simp only[slOK,hid]at hs;obtain⟨_,hs⟩:=hs;obtain⟨hlc,hs⟩:=hs trivial
       obtain⟨b,hρ⟩:∃b,ρ id=some b:=by
        cases hb:ρ id with
        |none=>rw[hb]at hs;simp only at hs;omega
        |some b=>exact⟨b,rfl⟩
       rw[hρ]at hs;simp only at hs;obtain⟨rfl,_,C,E,fz,hbk,hC⟩:=hs.resolve_left (by omega:¬cap=0);have hO:=r.obj id _ hid;simp only[OR,hρ]at hO;obtain⟨_,hIb,C2,E2,fz2,hbk2,hun,hdr⟩:=hO;rw[hbk]at hbk2;cases hbk2;simp only[Ag]at hC;rw[eX]at hdr;have hcell:=dL hbk;have hlt:b<w.heap.size:=(Bn.1 hbk).1
       have hH:Holds encX w b 0 l.toArray:=by
        intro j hj;simp only[List.size_toArray]at hj;obtain⟨z,h1,h2⟩:=aL3 hj
        have hk:cs[j]? =some (.str z):=by
         rw[<-hcs,Dg,if_pos om]at h1;exact h1
        obtain⟨v,hv,hd,_⟩:=hdr j _ hk;simp only[DR]at hd;subst hd;rw[Ag]at hv|-;refine⟨by rw[cell?_eq,hv,h2];rfl,?_⟩;have h3:=hun.1 j om;simp only[World.frozen?,hbk]
        by_cases h4:fz.1<=j<;>by_cases h5:j<fz.2<;>simp[h4,h5]
        exact h3 ⟨h4,h5⟩
       refine(aJi b len cap l hll w hH hlt hmx).mono ?_;rintro e' w' ⟨rfl,n,os,rfl⟩;have hsl:(l.mergeSort leX).length=len:=by rw[List.length_mergeSort];exact hll
       obtain⟨C',hC'⟩:∃C',C'=putCells encX 0 (l.mergeSort leX).toArray C:=⟨_,rfl⟩
       have hC's:C'.size=C.size:=by rw[hC'];simp[putCells]
       have hC'g:∀k,k<C.size->C'[k]? =if k<len then some (encX ((l.mergeSort leX).toArray[k]!))else C[k]?:=by
        intro k hk;rw[hC'];simp only[putCells,Array.getElem?_mapIdx,List.size_toArray,hsl,Nat.zero_le,true_and,Ag,Nat.sub_zero];rw[Array.getElem?_eq_getElem hk]
        by_cases hk2:k<len<;>simp[hk2]
       obtain⟨W,hW⟩:∃W,W=sortWorld encX w b 0 n (l.mergeSort leX).toArray os:=⟨_,rfl⟩
       rw[<-hW];have hWh:W.heap=(w.heap.modify b (onCells (putCells encX 0 (l.mergeSort leX).toArray)))++os:=by rw[hW];rfl
       have hWb:W.heap[b]? =some (.cells C' E fz):=by
        rw[hWh,Et (by simpa using hlt),Eo,if_pos rfl,hbk,hC'];rfl
       have hWo:∀k,k<w.heap.size->k≠b->W.heap[k]? =w.heap[k]?:=by
        intro k hk hne;rw[hWh,Et (by simpa using hk),Eo,if_neg (Ne.symm hne)]
       have hcsC:cs.length<=C.size:=by
        rcases Ct C.size cs.length with hlt|hge
        ·obtain⟨v,hv,_⟩:=hdr C.size _ (Ad hlt);rw[Ag,hcell]at hv;simp at hv
        ·exact hge
       have hml:((l.mergeSort leX).map D.str).length=len:=by rw[Am,hsl]
       have hlen':((l.mergeSort leX).map D.str++cs.drop len).length=cs.length:=by
        rw[Af,hml,Cg];omega
       have at_id:(h.set id (.arr ((l.mergeSort leX).map .str++cs.drop len) 1 g))[id]? =some (.arr ((l.mergeSort leX).map .str++cs.drop len) 1 g):=by
        have:=(Aw.1 hid).1;simp[this]
       have hpk:∀(k:Nat) (d:D),((l.mergeSort leX).map D.str++cs.drop len)[k]? =some d->∃v,C'[k]? =some v/\v.oneCell'=true/\DR w I d v:=by
        intro k d hk;have hkl:=(Aw.1 hk).1;rw[hlen']at hkl;rw[hC'g k om]
        by_cases hk3:k<len
        ·obtain⟨z,h1,h2⟩:=aL3 (l:=l.mergeSort leX) (j:=k) om;rw[Be om,h1]at hk;cases hk;rw[if_pos hk3,h2];exact⟨_,rfl,rfl,by simp only[DR,encX]⟩
        ·rw[if_neg hk3];rw[Bo om,hml,List.getElem?_drop]at hk;have e5:len+(k-len)=k:=om;rw[e5]at hk;obtain⟨v,hv,hd,h1⟩:=hdr k d hk;rw[Ag,hcell]at hv;exact⟨v,hv,h1,hd⟩
       have st:=d9 (w':=W) (I':=I) (o':=.arr ((l.mergeSort leX).map .str++cs.drop len) 1 g) r hid trivial (some b) (by rw[hW];rfl) (by rw[hW];rfl) (by rw[hW];rfl)
        (by rw[hWh];simp) (fun k hk hne=>hWo k hk fun e=>hne (by rw[hρ,e])) (fun _ hb=>hb) (fun _ hb=>.inl hb) (fun b' hb'=>.inl (by rw[hρ];exact hb')) (fun _ gen' off' len' a' cap' hs2=> ?_) (fun _ gen' b' hs2=> ?_) (fun hE=> ?_) (by rw[hW];show w.drawn<=w.drawn+n;omega)
       ·exact⟨_,_,I,rfl,st,by simp[AR,ARv]⟩
       ·simp only[slOK,hid]at hs2;simp only[slOK,at_id,bG];refine⟨hs2.1,fun hg=> ?_⟩;obtain⟨q1,q2⟩:=hs2.2 hg;rw[hρ]at q2;simp only at q2;refine⟨q1,?_⟩
        rcases q2 with q2|⟨q3,q4,C3,E3,fz3,q5,q6⟩
        ·exact .inl q2
        ·rw[hbk]at q5;cases q5;exact .inr ⟨q3,by rw[hlen'];exact q4,C',E,fz,hWb,by rw[hC's];exact q6⟩
       ·simp only[ptOK,hid]at hs2;simp only[ptOK,at_id,bG];exact⟨hs2.1,fun hg=>by rw[<-hρ];exact hs2.2 hg⟩
       ·simp only[OR,bG];refine⟨by omega,hIb,C',E,fz,hWb,hun.keep om,?_⟩;rw[eX];intro k d hk;obtain⟨v,hv,h1,hd⟩:=hpk k d hk;refine⟨v,?_,oV hE.imm d v hd,h1⟩;rw[Ag,dL hWb,hv]
     ·cases he
    ·cases he
   ·cases he
  ·cases he
 ·cases he
end
section
open Go.Shelf
def aCZ:Go.Shelf.Ren:=⟨fun|7=>20|10=>43|n=>n,fun|23=>40|26=>9|3=>4|28=>45|0=>0|27=>44|33=>66|4=>4|n=>n,fun|n=>n⟩
theorem aWa:Go.Proofs.SlLaysZ.n7 Tryz.prog aCZ:={
 mixed:=by kernel_rfl
 f7:=⟨Tryz.f20.name,by decide,Tryz.func20.trans (congrArg some (by kernel_rfl))⟩
 f10:=⟨Tryz.f43.name,by decide,Tryz.func43.trans (congrArg some (by kernel_rfl))⟩
 t0:=Tryz.underlying0
 a0:=Tryz.isAgg0
 z0:=Tryz.sizeOf0
 v0:=Tryz.zeroValue0
 t4:=Tryz.underlying4
 a4:=Tryz.isAgg4
 z4:=Tryz.sizeOf4
 v4:=Tryz.zeroValue4
 t23:=Tryz.underlying40
 a23:=Tryz.isAgg40
 z23:=Tryz.sizeOf40
 v23:=Tryz.zeroValue40
 t26:=Tryz.underlying9
 a26:=Tryz.isAgg9
 z26:=Tryz.sizeOf9
 v26:=Tryz.zeroValue9
 t27:=Tryz.underlying44
 a27:=Tryz.isAgg44
 z27:=Tryz.sizeOf44
 v27:=Tryz.zeroValue44
 t28:=Tryz.underlying45
 a28:=Tryz.isAgg45
 z28:=Tryz.sizeOf45
 v28:=Tryz.zeroValue45
 t33:=Tryz.underlying66
 a33:=Tryz.isAgg66
 z33:=Tryz.sizeOf66
 v33:=Tryz.zeroValue66}
def aOj:Go.Shelf.Ren:=⟨fun|8=>42|11=>75|n=>n,fun|26=>9|28=>45|24=>30|0=>0|33=>66|4=>4|n=>n,fun|n=>n⟩
theorem aWh:Go.Proofs.SlLaysZ.n8 Tryz.prog aOj:={
 mixed:=by kernel_rfl
 f8:=⟨Tryz.f42.name,by decide,Tryz.func42.trans (congrArg some (by kernel_rfl))⟩
 f11:=⟨Tryz.f75.name,by decide,Tryz.func75.trans (congrArg some (by kernel_rfl))⟩
 t0:=Tryz.underlying0
 a0:=Tryz.isAgg0
 z0:=Tryz.sizeOf0
 v0:=Tryz.zeroValue0
 t24:=Tryz.underlying30
 a24:=Tryz.isAgg30
 z24:=Tryz.sizeOf30
 v24:=Tryz.zeroValue30
 t26:=Tryz.underlying9
 a26:=Tryz.isAgg9
 z26:=Tryz.sizeOf9
 v26:=Tryz.zeroValue9
 t28:=Tryz.underlying45
 a28:=Tryz.isAgg45
 z28:=Tryz.sizeOf45
 v28:=Tryz.zeroValue45
 i26:=by kernel_rfl}
end
section
variable{G:Gnd}
open Go.RowKit Go.Lib Go.Sort Go.Maps Go.Shelf
open Go.WideElems (Fit rd rg pl)
theorem aCW{T:Type}(x:Lit×DataW T):∀l:List (Lit×DataW T),(DataW.insert x l).Perm (x::l)
 | []=>by simp[DataW.insert]
 |y::l=>by
  unfold DataW.insert
  split
  ·exact .refl _
  ·exact((aCW x l).cons y).trans (.swap x y l)
theorem KX{T:Type}:∀l:List (Lit×DataW T),(l.foldr DataW.insert []).Perm l
 | []=>.refl _
 |x::l=>(aCW x _).trans ((KX l).cons x)
theorem ZW{l m:List (List UInt8)}(h:l.Perm m):l.mergeSort leX=m.mergeSort leX:=
 ((List.mergeSort_perm l leX).trans (h.trans (List.mergeSort_perm m leX).symm)).eq_of_pairwise (fun x y _ _ h1 h2=>aEk h1 h2) (List.pairwise_mergeSort NA NQ _) (List.pairwise_mergeSort NA NQ _)
theorem aT0{Bm b:Nat}{M:Array MapEntry}{c:Nat}{l:List (List UInt8)}{w:World}(hBm:Bm<w.heap.size)(hm:w.cell? ⟨Bm,0,none⟩=some (.map (some b)))(hb:w.heap[b]? =some (.map M c))(hS:MapKept.Stamped M c)(hk:M.toList.map (fun x=>x.key)=l.map encX)(hlen:∀s∈l,s.length<=4294967296)(h0:0<l.length)(h1:l.length<=4294967296):
  Calls Tryz.prog 19 #[.func (.func 43) #[] #[.pointer (some ⟨Bm,0,none⟩)],.func (.func 21) #[] #[]] w fun e w'=>∃(gb cap:Nat) (cur:Array Value) (E:TypeId),e=.returned (.slice (some ⟨gb,0,none⟩) l.length cap)/\w.heap.size<=gb/\w'.heap[gb]? =some (.cells cur E (0,0))/\l.length<=cap/\cur.size=cap/\(∀(j:Nat) (s:List UInt8),(l.mergeSort leX)[j]? =some s->cur[j]? =some (encX s))/\Below w.heap.size w w':=by
 obtain⟨R,hR⟩:∃R:Value->Option (DataW Unit×List MemPlace),R=fun _=>some (.nil,[]):=⟨_,rfl⟩
 have hst:Tryz.prog.underlying 9=some .string:=kr
 have hkey:∀x∈M.toList,∃s∈l,x.key=encX s:=by
  intro x hx;have:x.key∈M.toList.map (fun x=>x.key):=Av.2 ⟨x,hx,rfl⟩;rw[hk]at this;obtain⟨s,hs,e⟩:=Av.1 this;exact⟨s,hs,e.symm⟩
 have hsz:M.size=l.length:=by
  have:=congrArg List.length hk
  simpa using this
 have hrd:∀x∈M.toList,∀s,x.key=encX s->s∈l->rd Tryz.prog 9 R x=some (.string s,.nil):=by
  intro x hx s e hs;have hl:=hlen s hs
  have hko:keyOf Tryz.prog 9 x.key=some (.string s):=by
   rw[e]
   have:=Go.WideMaps.keyOf_string_mk hst (s:=⟨s.toArray⟩) (by
    have:maxLen=9223372036854775807\/4294967296<=maxLen:=by first|exact .inr dc|exact .inl rfl
    show s.toArray.size<=maxLen;have h2:s.toArray.size=s.length:=smp;have h3:4294967296<=maxLen:=dc;omega)
   exact this
  obtain⟨key,val,born⟩:=x;exact Go.WideElems.rd_mk (R:=R) hko (yv:=(.nil,[])) (by rw[hR])
 have hFit:Fit Tryz.prog 9 R M c:=by
  refine⟨?_,hS,fun x hx=> ?_⟩
  ·have h3:4294967296<=maxLen:=dc;omega
  ·obtain⟨s,hs,e⟩:=hkey x hx;exact⟨_,hrd x hx s e hs⟩
 obtain⟨D0,hD⟩:∃D0:DataW Unit,D0=.map ((M.toList.map (rg Tryz.prog 9 R)).foldr DataW.insert []):=⟨_,rfl⟩
 have hown:w.ownsMap Tryz.prog 9 R b M.size D0:=⟨M,c,hb,hFit,Ab _,hD⟩
 have hperm:(strKeys D0).Perm l:=by
  rw[hD];show((M.toList.map (rg Tryz.prog 9 R)).foldr DataW.insert []).map (fun p=>strOf p.1)|>.Perm l;refine((KX _).map _).trans ?_
  have e:((M.toList.map (rg Tryz.prog 9 R)).map fun p=>strOf p.1).map encX=l.map encX:=by
   rw[<-hk,List.map_map,List.map_map];apply Cw;intro x hx;obtain⟨s,hs,e⟩:=hkey x hx;show encX (strOf (rg Tryz.prog 9 R x).1)=x.key;rw[Go.WideElems.rg_of (hrd x hx s e hs),e];rfl
  have inj:∀a b:List UInt8,encX a=encX b->a=b:=fun a b h=>by simpa [encX]using h
  have:=(List.map_inj_right inj).1 e;rw[this]
 have hN:Maps.size D0=l.length:=by
  rw[hD];have:=(KX (M.toList.map (rg Tryz.prog 9 R))).length_eq;rw[Am]at this;show(List.foldr DataW.insert [] (M.toList.map (rg Tryz.prog 9 R))).length=_;rw[this]
  simpa using hsz
 have hseq:SeqGives Fence.wide 1 Tryz.prog 43 #[.pointer (some ⟨Bm,0,none⟩)] encStr (fun ss=>ss.Perm (strKeys D0)) (Maps.size D0) w:=
  AnyZ.keys_gives (ρ:=aCZ) { aWa with} Fence.wide _ trivial rfl om Bm b M.size D0 w hBm hm hown
 have hmax:Maps.size D0<=maxLen:=by
  have h3:4294967296<=maxLen:=dc;omega
 have egk:∀args w,(callFunc 43 args).run Tryz.prog w=.ok (.enter 43 args) w:=enters_of Tryz.func43 kr rfl;have cColl:=AnyZ.collect_in aWh Fence.wide 3 trivial trivial rfl om 43 #[.pointer (some ⟨Bm,0,none⟩)] trivial egk (fun ss=>ss.Perm (strKeys D0)) (Maps.size D0) hmax om w hseq;refine(callsIn_wide (n:=4)).1 ?_;refine callsIn_of_wp Tryz.func19 rfl trivial ?_ rfl;simp only[Tryz.ntmps19,List.size_toArray,Ae,Ac,Nat.reduceAdd,Nat.reduceSub,Array.replicate_succ,Array.replicate_zero,List.push_toArray,List.append_toArray,Aq,Ax];have hfC:Fence.wide.fn 42:=trivial;have hfS:Fence.wide.fn 41:=trivial
 gi_wp2_with (gi_at_call 42;refine cColl.mono ?_;rintro e W ⟨v,ss,rfl,hSp,hrow,hnil,hbl⟩)
 have hsl:=(hSp.trans hperm).length_eq
 rcases hrow.2 with⟨rfl,hz⟩|⟨gb,cap,cur,rfl,hbase,hgb,r1,r2,r3,r4⟩
 ·omega
 ·obtain⟨E0,hg0⟩:∃E0,W.heap[gb]? =some (.cells cur E0 (0,0)):=⟨_,hgb⟩
  have hH:Holds encX W gb 0 ss.toArray:=holds_of_block hgb (by simpa using r4);have hgl:gb<W.heap.size:=(Bn.1 hgb).1;have cS:=callsIn_wide (n:=3)|>.2 (aJi gb ss.length cap ss rfl W hH hgl om)
  gi_wp2_with (gi_at_call 41;refine cS.mono ?_;rintro e w' ⟨rfl,nn,os,rfl⟩)
  go_ret
  rw[ZW (hSp.trans hperm)];refine⟨gb,cap,putCells encX 0 (l.mergeSort leX).toArray cur,E0,rfl,hbase,?_,by omega,?_,?_,?_⟩
  ·have h1:(sortWorld encX W gb 0 nn (ss.mergeSort leX).toArray os).heap=(W.heap.modify gb (onCells (putCells encX 0 (ss.mergeSort leX).toArray)))++os:=rfl;rw[<-ZW (hSp.trans hperm),h1,Et (by simpa using hgl),Eo,if_pos rfl,hg0];rfl
  ·simp only[putCells,Array.size_mapIdx];omega
  ·intro j s hj;have hjl:j<(l.mergeSort leX).length:=(Aw.1 hj).1;have hjl2:j<l.length:=by rw[List.length_mergeSort]at hjl;exact hjl
   simp only[putCells,Array.getElem?_mapIdx,List.size_toArray,Nat.zero_le,true_and,Ag,Nat.sub_zero];rw[Array.getElem?_eq_getElem (show j<cur.size by omega)]
   simp[]
   rw[if_pos (by simpa using hjl2)];rw[hj];rfl
  ·refine hbl.trans ⟨rfl,rfl,rfl,?_,fun k hk=> ?_⟩
   ·show _<=((W.heap.modify gb _)++os).size;simp
   ·have h1:(sortWorld encX W gb 0 nn (ss.mergeSort leX).toArray os).heap=(W.heap.modify gb (onCells (putCells encX 0 (ss.mergeSort leX).toArray)))++os:=rfl;rw[<-ZW (hSp.trans hperm),h1,Et (by have:=hbl.size;simp;omega),Eo,if_neg om]
theorem X7:∀(es:List (D×D)) (l:List (List UInt8)),ES es=some l->es.map (fun e=>dI e.1)=l.map encX
 | [],l,h=>by simp only[ES,Option.some.injEq]at h;subst h;rfl
 |(d,v)::es,l,h=>by
  cases d<;>simp only[ES,reduceCtorEq]at h
  obtain⟨l',h1,rfl⟩:=Bc.1 h;have:=X7 es l' h1;simp only[Aj,this]<;>rfl
theorem aR1:∀(es:List (D×D)) (l:List (List UInt8)),ES es=some l->es.length=l.length:=fun es l h=>by
 have:=congrArg List.length (X7 es l h)
 simpa using this
theorem aOC(hG:G.keeps=false):FK G Tryz.prog 19 (CZ 43 21):=by
 intro k args h x h' he;simp only at he
 split at he
 ·rename_i hk
  subst hk;refine⟨⟨_,Tryz.func19,by kernel_rfl,by kernel_rfl⟩,fun ρ w I vs r ha=> ?_⟩;unfold CZ at he
  split at he
  ·rename_i f id gen off c
   split at he
   ·rename_i mid hid
    split at he
    ·rename_i es hmid
     split at he
     ·rename_i hc
      obtain⟨rfl,rfl,rfl,rfl,he0,hmx⟩:=hc
      split at he
      ·rename_i l hks
       split at he
       ·rename_i hall
        cases he;obtain⟨v1,rest1,rfl,hx,hr1⟩:=gH ha
        obtain⟨v2,rest2,rfl,hv2,hr2⟩:=gH hr1;simp only[ARv]at hr2;subst hr2;simp only[AR,ARv]at hv2 hx;obtain⟨caps,rfl,hcaps⟩:=hv2;obtain rfl:caps= #[]:=by simpa using hcaps
        obtain⟨cv,rfl,pv,rest,hcv,⟨Bm,rfl,hpt⟩,rfl⟩:=hx
        obtain rfl:cv= #[.pointer (some ⟨Bm,0,none⟩)]:=by
         apply Array.toList_inj.1;simpa using hcv
        simp only[ptOK,hid]at hpt;have hO:=r.obj id _ hid;simp only[OR]at hO;obtain⟨Bm',hρ,_,C,E,fz,hbk,_,hcs⟩:=hO;rw[hpt.2]at hρ;cases hρ;obtain⟨v,hv,hm,_⟩:=hcs 0 (.mp mid) rfl;simp only[AR]at hm;obtain⟨b,rfl,hmp⟩:=hm;simp only[mpOK,hmid]at hmp;have hO2:=r.obj mid _ hmid;simp only[OR]at hO2;obtain⟨b',hρ2,_,M,c,hbm,hE,hS⟩:=hO2;rw[hmp]at hρ2;cases hρ2;have hBm:Bm<w.heap.size:=(Bn.1 hbk).1;have hcell:w.cell? ⟨Bm,0,none⟩=some (.map (some b)):=by rw[cell?_eq,hv]
        have hkl:=aR1 es l hks
        have hkm:M.toList.map (fun x=>x.key)=l.map encX:=by
         have h1:=congrArg (List.map Prod.fst) hE.1;rw[List.map_map,List.map_map]at h1;exact h1.trans (X7 es l hks)
        have hmx2:l.length<=4294967296:=by rw[<-hkl];exact hmx
        refine(aT0 hBm hcell hbm hS hkm (fun s hs=>of_decide_eq_true (Bk.1 hall s hs)) om hmx2).mono ?_;rintro e' w' ⟨gb,cap,cur,E2,rfl,hge,hgb,hcap,hcs2,hcells,hbl⟩;have g:Grew G.keeps w w':=⟨hbl.os,hbl.tape,hbl.output,hbl.size,hbl.block,fun e=>by rw[hG]at e;cases e⟩
        have hlm:(l.mergeSort leX).length=l.length:=List.length_mergeSort _
        have s1:=fH r g (.arr ((l.mergeSort leX).map .str) 1 0) (some gb) (fun b hb=>by cases hb;exact hge) (fun hE=>by
         simp only[OR,bG];refine⟨by omega,?_,cur,E2,(0,0),hgb,kW _ _,?_⟩
         ·intro hI;have:=r.imm gb hI;omega
         ·rw[eX];intro k d hk;rw[Bh]at hk;obtain⟨s,hs,rfl⟩:=Bc.1 hk;refine⟨encX s,?_,?_,rfl⟩
          ·rw[Ag,dL hgb];exact hcells k s hs
          ·simp only[DR,encX])
        refine⟨_,_,I,rfl,s1,?_⟩;simp only[AR];refine⟨some ⟨gb,0,none⟩,cap,by rw[hkl],?_⟩;have e1:(h++[O.arr ((l.mergeSort leX).map D.str) 1 0])[h.length]? =some (.arr ((l.mergeSort leX).map .str) 1 0):=smp;simp only[slOK,e1,bG];refine⟨Ab _,fun _=>⟨by omega,.inr ⟨trivial,by simp[hlm];omega,cur,E2,(0,0),hgb,by omega⟩⟩⟩
       ·cases he
      ·cases he
     ·cases he
    ·cases he
   ·cases he
  ·cases he
 ·cases he
end
section
variable{G:Gnd}
open Go.RowKit Go.Lib
end
section
open Go.RowKit
set_option maxHeartbeats 1000000 in
theorem aVv(x k idx:Nat)(w:World)(hx0:((x:Int)==0)=false)
  (key:IntKind.u64.wrap (bits BinOp.and IntKind.u64 (x:Int) (IntKind.u64.wrap (-(x:Int)))*285870213051353865)/288230376151711744=(idx:Int))
  (hi:idx<64) (hk:k<64) (hcell:w.cell? ⟨2,idx,none⟩=some (.int .u8 k)):
  Calls Tryz.prog 165 #[.int .u64 x] w fun e w'=>e=.returned (.int .i64 k)/\w'=w:=by
 go_enter Tryz.func165,Tryz.ntmps165
 go_wp2_with (simp only[key])
 go_ret
 exact⟨rfl,rfl⟩
theorem aV7(w:World):Calls Tryz.prog 165 #[.int .u64 0] w fun e w'=>e=.returned (.int .i64 64)/\w'=w:=by
 go_enter Tryz.func165,Tryz.ntmps165
 go_wp2
 go_ret
 exact⟨rfl,rfl⟩
theorem aXp(x:Nat)(hx:x<18446744073709551616)(w:World)(hT:TabAt 2 Lib.deBruijn64tab w):
  Calls Tryz.prog 165 #[.int .u64 x] w fun e w'=>e=.returned (.int .i64 (Lib.ctz 64 x))/\w'=w:=by
 by_cases hx0:x=0
 ·subst hx0;exact aV7 w
 ·obtain⟨hlow,hk⟩:=Lib.lowest_bit 64 x hx0 hx;obtain⟨hi,htab⟩:=Lib.deBruijn64_at _ hk;have hcell:=hT _ hi;rw[htab]at hcell;exact aVv x _ _ w (by simp;omega) (tz64_key x _ hx hx0 hlow) hi hk hcell
theorem aXu(x:Nat)(hx:x<18446744073709551616)(w:World)(hT:TabAt 2 Lib.deBruijn64tab w):
  Calls Tryz.prog 163 #[.int .u64 x] w fun e w'=>e=.returned (.int .i64 (Lib.ctz 64 x))/\w'=w:=by
 have c64:=aXp x hx w hT;have e29:∀args w,(callFunc 165 args).run Tryz.prog w=.ok (.enter 165 args) w:=enters_of Tryz.func165 kr rfl;have hw:IntKind.u64.wrap (x:Int)=(x:Int):=by rw[IntKind.wrap_u64];omega
 go_enter Tryz.func163,Tryz.ntmps163
 go_wp2_with (go_at_fn 165;refine c64.mono ?_;rintro e w' ⟨rfl,hw'⟩;rw[hw'])
 go_ret
 exact⟨rfl,rfl⟩
theorem aW8{w:World}{I:Nat->Prop}(hg:Ground gnd w I):TabAt 2 Lib.deBruijn64tab w:=by
 intro j hj;obtain⟨_,h2⟩:=hg 2 _ (Bf.2 rfl);have h3:=h2 j (.int .u8 (Lib.deBruijn64tab.getD j 0)) (by simp[Aa,hj]);unfold cellAt at h3;simp only[World.cell?]
 split at h3
 ·rename_i C E fz hh
  simp[hh,h3]
 ·cases h3
theorem aXg:FK gnd Tryz.prog 163 gCtz:=by
 intro k args h x h' he;simp only at he
 split at he
 ·rename_i hk
  subst hk;refine⟨⟨_,Tryz.func163,by kernel_rfl,by kernel_rfl⟩,fun ρ w I vs r ha=> ?_⟩;unfold gCtz at he
  split at he
  ·rename_i n
   split at he
   ·rename_i hn
    cases he;obtain⟨xv,rest,rfl,hx,hr⟩:=gH ha
    simp only[ARv]at hr;subst hr;have hx:xv=.int .u64 n:=by simpa only[AR,DR]using hx
    subst hx;have run:=aXu n.toNat om w (aW8 r.ground);have e1:((n.toNat:Nat):Int)=n:=om;rw[e1]at run;refine run.mono fun e w' hh=> ?_;obtain⟨rfl,rfl⟩:=hh;exact⟨_,ρ,I,rfl,.refl r,by simp only[AR,DR]⟩
   ·cases he
  ·cases he
 ·cases he
end
section
open Go.RowKit
theorem aXc:aQz Tryz.prog aHs:=by
 intro t n h;unfold aHs at h;simp at h
theorem aQ7:Tryz.prog.follows .mixedOrders=true:=kr
theorem aXw:EnvOK env:=⟨aXc,aQ7⟩
theorem aUP:∀f g,env.prim f=some g->FK gnd env.P f g:=by
 have key:∀(l:List (Nat×(List A->H->Option (A×H)))),(∀p∈l,FK gnd Tryz.prog p.1 p.2)->∀f g,l.lookup f=some g->FK gnd Tryz.prog f g:=by
  intro l
  induction l with
  |nil=>intro _ f g h;simp at h
  |cons p l ih=>
   intro hp f g h;obtain⟨k,q⟩:=p;rw[List.lookup_cons]at h
   split at h
   ·rename_i he
    have he':f=k:=by simpa using he
    cases h;subst he'
    exact hp (f,g) smp
   ·exact ih (fun p hm=>hp p (by simp[hm])) f g h
 refine key aKZ ?_;intro p hp;unfold aKZ at hp;simp only[Au,Bv,or_false]at hp
 rcases hp with rfl|rfl|rfl
 ·exact(aOC rfl)
 ·exact aOF
 ·exact aXg
def there(w:World):Nat->Prop:=fun b=>b<w.heap.size
theorem run_law{L n:Nat}{f:FuncId}{args:List A}{vs:List Value}{w:World}(he:aA env L n f args []=some (.d (.bool true),[]))(hg:Ground gnd w (there w))(ha:ARv [] (fun _=>none) w (there w) args vs):
  Calls Tryz.prog f vs.toArray w fun e w'=>e=.returned (.bool true)/\Below w.heap.size w w':=by
 obtain⟨_,hc⟩:=aQq (L:=L) aXw aUP n f args [] _ _ he;refine(hc (fun _=>none) w (there w) vs (zE (fun _ h=>h) hg) ha).mono fun e w' hh=> ?_;obtain⟨v,ρ',I',he',s,hv⟩:=hh;have hv:v=.bool true:=by simpa only[AR,DR]using hv
 subst hv;have g:=VB s;exact⟨he',g.os,g.tape,g.output,g.size,g.same⟩
def roundsMax:Nat:=2^70
theorem rounds_le:2^60<=roundsMax:=by unfold roundsMax;omega
structure IsBytes(w:World)(v:Value)(z:List UInt8):Prop where
 rel:DR w (there w) (.ivs z.length (bM z)) v
open Go.ChangeShapes Go.WideShapes in
theorem open_bytes{P:Program}{H:Type}{enc:TypeId×Value->H}{W:World}{t e:TypeId}{r:Reach}{b0:Nat}{v:Value}{d:DataW H}{p:List MemPlace}(ht:P.underlying t=some (.slice e))(he:P.underlying e=some (.int .u8))(hc:P.cellsOf e=1)(hval:Value.okWide P W r b0 t v)(hd:DataW.Trod enc P W 0 (fun _=>true) true t v d p):∃z,IsBytes W v z:=by
 obtain⟨a0,len,cap,rfl⟩:=okWide_slice ht hval;obtain⟨fuel,hf⟩:=hd
 rcases open_ints ht he hc hf with⟨h,_⟩|⟨a,len',cap',zs,h,hb,hl,hm,hz,_,hcell,hwf⟩
 ·simp[Value.cells]at h;obtain⟨rfl,rfl,rfl⟩:=h;exact⟨[],⟨by simp only[DR];exact⟨none,0,rfl,Ab _,.inl rfl⟩⟩⟩
 ·simp[Value.cells]at h;obtain⟨rfl,rfl,rfl⟩:=h;simp only[if_true]at hz;have hzl:(zs.take len).length=len:=by rw[Bi];omega
  refine⟨(zs.take len).map fun n=>UInt8.ofNat n.toNat,⟨?_⟩⟩;simp only[DR];refine⟨some a,cap,by rw[Am,hzl],by rw[Am,hzl];exact hl,?_⟩
  by_cases h0:len=0
  ·left;subst h0;simp[bM]
  ·right;have c0:=hcell 0 om;have hadd:a.add 0=a:=by simp[Addr.add]
   rw[hadd]at c0;have hs:=World.cell?_spot c0;obtain⟨b,o,sp⟩:=a;simp only at hs;subst hs;rw[cell?_eq]at c0
   have hlt:b<W.heap.size:=by
    unfold cellAt at c0
    cases hx:W.heap[b]? with
    |none=>rw[hx]at c0;cases c0
    |some o=>exact(Bn.1 hx).1
   refine⟨b,o,rfl,hlt,?_⟩;rw[eX];intro k x hk;simp only[bM,List.map_map,Bh]at hk;obtain⟨n,hn,hx⟩:=Bc.1 hk;obtain⟨hkl,hkn⟩:=Aw.1 hn;rw[hzl]at hkl;have hkz:k<zs.length:=om
   have hzn:zs.getD k 0=n:=by
    rw[Aa,Ad hkz];rw[List.getElem_take]at hkn;exact hkn
   have hc2:=hcell k hkz;rw[hzn]at hc2;have hw:=hwf n (by rw[<-hkn,List.getElem_take];exact At hkz);simp only[Lit.wf,Ar,decide_eq_true_eq]at hw;have hn0:0<=n:=hw.1;have hn1:n<=255:=hw.2
   have hadd2:(⟨b,o,none⟩:Addr).add k=⟨b,o+k,none⟩:=by
    unfold Addr.add
    by_cases hk0:k=0
    ·subst hk0;simp
    ·simp[hk0]
   rw[hadd2,cell?_eq]at hc2;refine⟨.int .u8 n,hc2,?_,rfl⟩;subst hx;simp only[Function.comp,DR]
   have:((UInt8.ofNat n.toNat).toNat:Int)=n:=by
    rw[UInt8.toNat_ofNat'];omega
   rw[this]
end
end Ev
end Go.Proofs.YtppffbehejpglaaGreatDoor
