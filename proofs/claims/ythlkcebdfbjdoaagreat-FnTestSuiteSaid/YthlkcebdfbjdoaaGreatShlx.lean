/-
  What the types of the program are.
-/
import Derived.Test.YthlkcebdfbjdoaaGreatTy
import Derived.IntWalk
import Derived.Test.YthlkcebdfbjdoaaGreatEvRen
import Derived.Test.YthlkcebdfbjdoaaGreatEvPrim
set_option linter.unusedSimpArgs false
set_option linter.unusedVariables false
set_option maxRecDepth 8000
set_option maxHeartbeats 4000000
namespace Go.Proofs.YthlkcebdfbjdoaaGreat
namespace Ev
theorem wS{n:Int}(h1:-9223372036854775808<=n)(h2:n<=9223372036854775807):IntKind.i64.wrap n=n:=IntWalk.i64_in n ⟨h1,h2⟩
theorem aMP{n:Int}(h1:0<=n)(h2:n<=18446744073709551615):IntKind.u64.wrap n=n:=IntWalk.u64_in n ⟨h1,h2⟩
theorem aQG{n:Int}(h1:0<=n)(h2:n<=255):IntKind.u8.wrap n=n:=IntWalk.u8_in n ⟨h1,h2⟩
theorem aKS:env.P.underlying 3=some (.int .i64):=kr
theorem aQy:env.P.underlying 69=some (.int .u64):=kr
theorem VQ:env.P.underlying 5=some (.int .u8):=kr
theorem aL4:env.P.underlying 4=some .bool:=kr
theorem aH1:env.P.underlying 9=some .string:=kr
theorem aQn:env.P.underlying 80=some (.slice 3):=kr
theorem aJj:env.P.underlying 22=some (.slice 5):=kr
theorem U9:env.P.cellsOf 3=1:=kr
theorem aJe:env.P.cellsOf 5=1:=kr
theorem aQH:eP env.P 3=true:=kr
theorem aQJ:dF env.P 3=some (nI 0):=kr
theorem OY{h:H}{n:Int}{K:IntKind}:eF env.P h 3 69 (.d (.int K n))=some (.d (.int .u64 (IntKind.u64.wrap n)),h):=vM aKS aQy
theorem aCW{h:H}{n:Int}{K:IntKind}:eF env.P h 3 5 (.d (.int K n))=some (.d (.int .u8 (IntKind.u8.wrap n)),h):=vM aKS VQ
theorem MR{h:H}{n:Int}{K:IntKind}:eF env.P h 5 3 (.d (.int K n))=some (nI (IntKind.i64.wrap n),h):=vM VQ aKS
def ints(l:List Int):List D:=l.map (.int .i64)
def bD(l:List UInt8):List D:=l.map fun b=>.int .u8 b.toNat
abbrev rdO(c:List UInt8)(p:Int):O:=.box [.d (.ivs c.length (bD c)),nI p]
abbrev Dw(m f:Nat)(xs:List A)(r:A)(c:List UInt8)(p q:Int):Prop:=∀(R:Type) (L n:Nat) (hq:H) (k:KA R),m<=n->2^60<=L->aW env (aA env L n) (rdO c p::hq) f (.ptr 0 0 0::xs) k=k r (rdO c q::hq)
abbrev KC(d L:Nat)(f:Nat)(xs:List A)(r:A):Prop:=∀(R:Type) (n:Nat) (hq:H) (k:KA R),d<=n->aW env (aA env L n) hq f xs k=k r hq
theorem ks{d L:Nat}{f:Nat}{xs:List A}{r:A}(h2:∀ {n:Nat},d<=n->aA env L n f xs []=some (r,[]))(h1:xs.all p8=true:=by rfl)(h3:idsA r=[]:=by rfl)(h4:gJ r=true\/((env.hint f).mode==1||(env.hint f).mode==3)=false:=by first|exact .inl rfl|exact .inr rfl):KC d L f xs r:=fun _ _ _ _ hn=>cK h1 (h2 hn) h3 h4
abbrev KT(d L:Nat)(f:Nat)(xs:List A)(r:A):Prop:=∀(R:Type) (n:Nat) (k:A->Option R),d<=n->pJ (aA env L n) f xs k=k r
theorem kt{d L:Nat}{f:Nat}{xs:List A}{r:A}(h2:∀ {n:Nat},d<=n->aA env L n f xs []=some (r,[]))(h:gJ r=true:=by rfl):KT d L f xs r:=fun _ _ _ hn=>kQ (h2 hn) h
abbrev KV(L:Nat)(f:Nat)(xs:List A):Prop:=∀(R:Type) (n:Nat) (hq:H) (k:KA R),aW env (aA env L n) hq f xs k=match box (VK hq xs)with
 |.mk (some fs)=>pJ (aA env L n) f fs fun r=>k r hq
 |_=>none
theorem aKX:cR env.P 80=some 3:=by simp only[cR,aQn]
theorem fY{l:List Int}:(ints l).length=l.length:=by simp[ints]
theorem aE5{l:List Int}{v:Int}:ints l++[.int .i64 v]=ints (l++[v]):=by simp[ints]
theorem nR:ints []=[]:=rfl
theorem dX{l:List Int}{k:Nat}(h:l.length<=k):(ints l).take k=ints l:=Cf (by rw[fY];exact h)
theorem SR{l:List Int}{k:Nat}(h:k<l.length):(((ints l).drop k).map A.d).head? =some (nI (l.getD k 0)):=by
 rw[List.head?_map,Cy,ints,Bd,Aa,Ae h];rfl
section
theorem wF{α:Type}(f:α->D)(l:List α)(k:Nat)(v:α)(h:k<l.length):bC (l.map f) k [f v]=(l.set k v).map f:=by
 unfold bC;rw[List.map_set];have:k<(l.map f).length:=by simpa using h
 generalize l.map f=m at *;rw[List.set_eq_take_append_cons_drop,if_pos this];simp
theorem oK{l:List UInt8}:(bD l).length=l.length:=by simp[bD]
theorem aKe:bD []=[]:=rfl
theorem aNf{e g:Nat}:O.arr [] e g=O.arr (ints []) e g:=rfl
theorem WS{l:List UInt8}{v:UInt8}:bD l++[.int .u8 (v.toNat:Int)]=bD (l++[v]):=by simp[bD]
theorem KR{l:List UInt8}{k:Nat}(h:l.length<=k):(bD l).take k=bD l:=Cf (by rw[oK];exact h)
theorem XZ{l:List UInt8}{k:Nat}(h:k<l.length):(((bD l).drop k).map A.d).head? =some (.d (.int .u8 ((l.getD k 0).toNat:Int))):=by
 rw[List.head?_map,Cy,bD,Bd,Aa,Ae h];rfl
theorem aJ2{l:List UInt8}{k:Nat}{v:UInt8}(h:k<l.length):bC (bD l) k [.int .u8 (v.toNat:Int)]=bD (l.set k v):=wF _ l k v h
theorem Z3{l:List Int}{k:Nat}{v:Int}(h:k<l.length):bC (ints l) k [.int .i64 v]=ints (l.set k v):=wF _ l k v h
theorem aDY:∀l:List UInt8,GS (bD l)=some l
 | []=>rfl
 |b::l=>by
  have ih:=aDY l;unfold bD at ih|-;simp only[Ah,GS,ih,Ax];simp
theorem getElem?_zero_cons {o:O} {h:H}:(o::h)[0]? =some o:=rfl
theorem zW{l:List UInt8}{g len:Nat}{h:H}(hl:len=l.length):eF env.P (.arr (bD l) 1 g::h) 22 9 (.sl 0 g 0 len)=some (.d (.str l),.arr (bD l) 1 g::h):=by
 subst hl;simp only[eF,aJj,aH1,VQ,cV,getElem?_zero_cons,oK,or_true,Cb,Ag,Ab,and_self,if_true,Bc,KR (Ab _),aDY,Ax]
theorem aFQ{α:Type}(x:α):∀n:Nat,(List.replicate n [x]).flatten=List.replicate n x
 |0=>rfl
 |n+1=>by simp[List.replicate_succ,aFQ x n]
theorem I5{n:Int}{h:H}(h0:0<=n)(h1:n<=4294967296):gO env.P h 80 n n=some (.sl h.length 0 0 n.toNat,h++[.arr (ints (List.replicate n.toNat 0)) 1 0]):=by
 have hm:n<=(bG:Nat):=by unfold bG;omega
 simp only[gO,aKX,aQJ,aV,xE,Ax,aQH,h0,hm,U9,Int.le_refl,and_self,if_true,aFQ,ints,List.map_replicate]
theorem aBd{i:Int}{s:List UInt8}(h0:0<=i)(h:i<s.length):LP env.P 9 (.d (.str s)) i=some (.d (.int .u8 ((s.getD i.toNat 0).toNat))):=by
 have hk:i.toNat<s.length:=om;simp only[LP,aH1,if_pos h0,Aa,Ae hk,Ax,Bb]
theorem take_set{α:Type}{l:List α}{k:Nat}{v:α}(h:k<l.length):(l.set k v).take (k+1)=l.take k++[v]:=by
 rw[List.take_set,List.take_add_one,Ae h];simp only[Option.toList_some];have hl:(l.take k).length=k:=by rw[Bt];omega
 rw[Do _ _ om,hl,Bq];rfl
theorem aPo{o:O}{h:H}{id:Nat}(hs:h[id]? =some o):h.set id o=h:=by
 apply Cl;intro j;rw[Cg];obtain⟨hl,he⟩:=As.1 hs
 by_cases e:id=j
 ·subst e;simp[hl,he]
 ·simp[e]
theorem rZ{h:H}{id gen off esz:Nat}{t:TypeId}{cs:List D}{d:D}(hid:h[id]? =some (.arr cs esz gen))(c1:env.P.cellsOf t=1)(hi:(env.P.info? t).isSome=true)(hd:dL (.d d)=true)(hk:off<cs.length):
  jE env.P h t (.ptr id gen off) (.d d)=some (h.set id (.arr (bC cs off [d]) esz gen)):=by
 have hc:(aV (.d d)).length=env.P.cellsOf t/\(env.P.info? t).isSome=true/\(aV (.d d)).all dL=true:=⟨by rw[c1];rfl,hi,by simp[aV,hd]⟩
 have hf:frzL h (aV (.d d))=some ([d],h):=rfl;unfold jE;rw[if_pos hc];simp only[hid,hf,c1,true_and];rw[if_pos om]
theorem aPc:(env.P.info? 5).isSome=true:=kr
theorem aOP:(env.P.info? 3).isSome=true:=kr
theorem aLj:(env.P.info? 4).isSome=true:=kr
theorem aHe:env.P.cellsOf 4=1:=kr
theorem aNR{h:H}{g e k:Nat}{l:List UInt8}{b:UInt8}(hk:k<l.length):jE env.P (.arr (bD l) e g::h) 5 (.ptr 0 g k) (.d (.int .u8 (b.toNat:Int)))=some (.arr (bD (l.set k b)) e g::h):=by
 rw[rZ (id:=0) rfl aJe aPc rfl (by rw[oK];exact hk),aJ2 hk];rfl
theorem VP{h:H}{g e k:Nat}{l:List Int}{b:Int}(hk:k<l.length):jE env.P (.arr (ints l) e g::h) 3 (.ptr 0 g k) (nI b)=some (.arr (ints (l.set k b)) e g::h):=by
 rw[rZ (id:=0) rfl U9 aOP rfl (by rw[fY];exact hk),Z3 hk];rfl
theorem aJN{o:O}{h:H}{g e k:Nat}{l:List Int}{b:Int}(hk:k<l.length):jE env.P (o::.arr (ints l) e g::h) 3 (.ptr 1 g k) (nI b)=some (o::.arr (ints (l.set k b)) e g::h):=by
 rw[rZ (id:=1) rfl U9 aOP rfl (by rw[fY];exact hk),Z3 hk];rfl
section
variable{t:TypeId}{h:H}{a b:List UInt8}
theorem aAp:bY env .eql t h (.d (.str a)) (.d (.str b))=some (.d (.bool (a==b)),h):=by simp[bY,aBin]
theorem aAO:bY env .neq t h (.d (.str a)) (.d (.str b))=some (.d (.bool (!(a==b))),h):=by simp[bY,aBin]
theorem aBJ(hl:a.length+b.length<=4294967296):bY env .add t h (.d (.str a)) (.d (.str b))=some (.d (.str (a++b)),h):=by
 have:a.length+b.length<=bG:=hl;simp[bY,aBin,this]
theorem aAj:bY env .lss t h (.d (.str a)) (.d (.str b))=some (.d (.bool (Op.bytesLess a b)),h):=by simp[bY,aBin]
end
theorem toNat_lt(b:UInt8):b.toNat<256:=b.toNat_lt
theorem aF5{b:UInt8}:IntKind.i64.wrap (b.toNat:Int)=b.toNat:=wS om (by have:=toNat_lt b;omega)
theorem F9{l:List UInt8}{n:Nat}{lo hi:Option Int}{h:H}(hn:n=l.length)(h0:0<=lo.getD 0)(h1:lo.getD 0<=hi.getD l.length)(h2:hi.getD l.length<=l.length):gG env.P h 22 (.d (.ivs n (bD l))) lo hi=some (.d (.ivs ((l.drop (lo.getD 0).toNat).take ((hi.getD l.length).toNat-(lo.getD 0).toNat)).length (bD ((l.drop (lo.getD 0).toNat).take ((hi.getD l.length).toNat-(lo.getD 0).toNat))))):=by
 subst hn;simp only[gG,aJj,aJe,oT,h0,h1,h2,and_self,if_true,Cb,Ax,Nat.zero_lt_one,bD,List.map_take,List.map_drop]
 congr 3
 rw[Bt,Ce];omega
theorem W6{l:List UInt8}{n:Nat}{u:Int}{h:H}(hn:n=l.length)(h0:0<=u)(h1:u<=l.length):gG env.P h 22 (.d (.ivs n (bD l))) none (some u)=some (.d (.ivs (l.take u.toNat).length (bD (l.take u.toNat)))):=by
 rw[F9 hn sm (by simpa using h0) (by simpa using h1)];simp
theorem P5{l:List UInt8}{n:Nat}{u:Int}{h:H}(hn:n=l.length)(h0:0<=u)(h1:u<=l.length):gG env.P h 22 (.d (.ivs n (bD l))) (some u) none=some (.d (.ivs (l.drop u.toNat).length (bD (l.drop u.toNat)))):=by
 rw[F9 hn (by simpa using h0) (by simpa using h1) sm];have:(List.take (l.length-u.toNat) (l.drop u.toNat))=l.drop u.toNat:=Cf sm;simp[this]
theorem aBH{h:H}{a b:Bool}:bY env .eql 4 h (.d (.bool a)) (.d (.bool b))=some (.d (.bool (a==b)),h):=by simp[bY,aBin,aNil,aL4,eqlA]
theorem aBT{h:H}{a b:Bool}:bY env .neq 4 h (.d (.bool a)) (.d (.bool b))=some (.d (.bool (!(a==b))),h):=by simp[bY,aBin,aNil,aL4,eqlA]
theorem LB:type_of% (AI @oK (AI @fY (AI @XZ (AI @SR (AI @KR (AI @dX (AI @WS (AI @aE5 (AI @aBd (AI @aAp (AI @aAO (AI @aBJ (AI @aAj (AI @aF5 (AI @aBH (AI @aBT @Ct)))))))))))))))):=
 ⟨@oK,@fY,@XZ,@SR,@KR,@dX,@WS,@aE5,@aBd,@aAp,@aAO,@aBJ,@aAj,@aF5,@aBH,@aBT,@Ct⟩
theorem CV:type_of% (AI @W6 @P5):=
 ⟨@W6,@P5⟩
theorem DN:type_of% (AI @WD (AI @aAl (AI @WDD (AI @aBW @CV)))):=
 ⟨@WD,@aAl,@WDD,@aBW,@CV⟩
theorem Dz{p:Prop}(h:p:=by first|assumption|exact⟨by kernel_rfl⟩|omega|(simp only[GT,LN]<;>omega)):p:=h
theorem UP:type_of% (AI @SLM (AI @WK (AI @UN (AI @TY (AI @LB (AI @MD @wS)))))):=
 ⟨@SLM,@WK,@UN,@TY,@LB,@MD,@wS⟩
end
def gnd:Gnd:=⟨[],false⟩
section
variable{R:Type}{L n:Nat}
def pW(x:Int):Bool:=decide (0<=x/\x<6)
def jF(x:Int):Bool:=decide (0<=x/\x<=63)
theorem IP(hn:1<=n)(a:Int):aA env L n 70 [nI a] []=some (.d (.bool (jF a)),[]):=by
 obtain _|n:=n;omega
 simp-implicitDefEqProofs (maxSteps:=9^7) (disch:=try exact Dz) only[↓DN,↓kAsg,↓kRet,UP,simprocAttr,aA7,MV,Tryz.f70]
 by_cases h:0<=a<;>simp[h,jF]
theorem jJ:type_of% fun {L} a=>ks fun hn=> @IP L _ hn a:=fun {L} a=>ks fun hn=> @IP L _ hn a
theorem JZ(hn:1<=n)(a:Int):aA env L n 40 [nI a] []=some (.d (.bool (jF a)),[]):=by
 obtain _|n:=n;omega
 simp-implicitDefEqProofs (maxSteps:=9^7) (disch:=try exact Dz) only[↓DN,↓kAsg,↓kRet,UP,simprocAttr,aBg,MI,Tryz.f40]
 by_cases h:0<=a<;>simp[h,jF]
theorem dR:type_of% fun {L} a=>ks fun hn=> @JZ L _ hn a:=fun {L} a=>ks fun hn=> @JZ L _ hn a
def dS(a i:Int):Bool:=decide ((a.fdiv (2^(min i.toNat 64))) % 2=1)
theorem toNat_ofInt(x:Int):((BitVec.ofInt 64 x).toNat:Int)=x % 18446744073709551616:=by
 rw[BitVec.toNat_ofInt];omega
theorem YV(x:Int):iAnd .i64 x 1=x % 2:=by
 unfold iAnd
 have h1:(BitVec.ofInt IntKind.i64.bits x&&&BitVec.ofInt IntKind.i64.bits 1).toNat=(BitVec.ofInt 64 x).toNat % 2:=by
  change (BitVec.ofInt 64 x&&&BitVec.ofInt 64 1).toNat=_
  rw[BitVec.toNat_and];exact Nat.and_one_is_mod _
 rw[h1];have h2:=toNat_ofInt x;rw[wS om om];omega
theorem aHM:IntKind.i64.bits=64:=rfl
theorem aA4(hn:1<=n)(a i:Int)(hi:0<=i)(hi2:i<=9223372036854775807):aA env L n 101 [nI a,nI i] []=some (.d (.bool (dS a i)),[]):=by
 obtain _|n:=n;omega
 simp-implicitDefEqProofs (maxSteps:=9^7) (disch:=try exact Dz) only[↓DN,↓kAsg,↓kRet,UP,simprocAttr,↓OY,aMP,YV,aHM,aK2,aEU,Tryz.f101]<;>rfl
theorem rV:type_of% fun {L} a i hi hi2=>ks fun hn=> @aA4 L _ hn a i hi hi2:=fun {L} a i hi hi2=>ks fun hn=> @aA4 L _ hn a i hi hi2
theorem aGP(hn:1<=n)(a i:Int):aA env L n 41 [nI a,nI i] []=some (.d (.bool (decide (0<=i)&&dS a i)),[]):=by
 obtain _|n:=n;omega
 simp-implicitDefEqProofs (maxSteps:=9^7) (disch:=try exact Dz) only[↓DN,↓kAsg,↓kRet,UP,simprocAttr,YV,aHM,aNV,aJn,Tryz.f41]
 by_cases h:0<=i<;>simp[h,dS]
theorem N9:type_of% fun {L} a i=>ks fun hn=> @aGP L _ hn a i:=fun {L} a i=>ks fun hn=> @aGP L _ hn a i
def aB(a:Int):List Int:=[0,1,2,3,4,5].filter (dS a)
def pF:Nat->List Int
 |0=>[]
 |j+1=>(6-((j+1:Nat):Int))::pF j
theorem aDU{x:Int}:pW x=true↔0<=x/\x<=5:=by
 unfold pW;simp;omega
theorem YP(hn:1<=n){a:Int}{k:KE R}:∀(j:Nat) (i:Int) (l:List Int) (len m:Nat),i+j=6->0<=i->j<m->len=l.length->l.length+j<100->
  aS env (aA env L n) L 0 [0,0,0,2] Bz26 (sL 0) Bz42 m (nI a::Y1 (.d .nils::.sl 0 0 0 len::Y1 (nI i::Y8 (Y2 (Y1 ([])))))) [.arr (ints l) 1 0] k
  =k (.exit 0) (nI a::Y1 (.d .nils::.sl 0 0 0 (len+((pF j).filter (dS a)).length)::Y1 (nI 6::Y8 (Y2 (Y1 ([])))))) [.arr (ints (l++(pF j).filter (dS a))) 1 0]:=by
 intro j
 induction j with
 |zero=>
  intro i l len m hi h0 hm hl hlen;obtain _|m:=m;omega;obtain rfl:i=6:=om
  simp-implicitDefEqProofs (maxSteps:=9^7) (disch:=try exact Dz) only[↓DN,↓kRet,UP,simprocAttr,qT,pM,Tryz.f63];simp only[pF,List.filter_nil,Ai,Ac,Bs]
 |succ j ih=>
  intro i l len m hi h0 hm hl hlen;obtain _|m:=m;omega;have hc:i<6:=om;have hr:pF (j+1)=i::pF j:=by simp only[pF];congr 1;omega
  rw[hr,List.filter_cons]
  cases hb:dS a i with
  |true=>
   simp-implicitDefEqProofs (maxSteps:=9^7) (disch:=try exact Dz) only[↓DN,↓kRet,UP,simprocAttr,↓N9,↓ih,hc,hb,h0,qT,pM,Tryz.f63]
   try simp only[Am,Av,Ao,Nat.add_assoc,Nat.add_comm 1]
  |false=>
   simp-implicitDefEqProofs (maxSteps:=9^7) (disch:=try exact Dz) only[↓DN,↓kRet,UP,simprocAttr,↓N9,↓ih,hc,hb,h0,qT,pM,Tryz.f63]
theorem NT{R:Type}{L n m:Nat}(hn:1<=n){a:Int}{k:KE R}(hm:6<m):
  aS env (aA env L n) L 0 [0,0,0,2] Bz26 (sL 0) Bz42 m (nI a::Y1 (.d .nils::.sl 0 0 0 0::Y1 (nI 0::Y8 (Y2 (Y1 ([])))))) [.arr [] 1 0] k
  =k (.exit 0) (nI a::Y1 (.d .nils::.sl 0 0 0 (aB a).length::Y1 (nI 6::Y8 (Y2 (Y1 ([])))))) [.arr (ints (aB a)) 1 0]:=by
 have h:=YP (R:=R) (L:=L) hn (a:=a) (k:=k) 6 0 [] 0 m rfl om hm rfl sm;simp only[Ag,Ao]at h;exact h
theorem bV(a:Int):(aB a).length<=6:=by
 unfold aB;exact List.length_filter_le _ _
theorem MB(hn:2<=n)(a:Int)(hL:2^60<=L):aA env L n 63 [nI a] []=some (.d (.ivs (aB a).length (ints (aB a))),[]):=by
 obtain _|n:=n;omega
 simp-implicitDefEqProofs (maxSteps:=9^7) (disch:=try exact Dz) only[↓DN,↓kAsg,UP,simprocAttr,↓NT,aC1,PC,Tryz.f63]
theorem kF:type_of% fun {L} a hL=>ks fun hn=> @MB L _ hn a hL:=fun {L} a hL=>ks fun hn=> @MB L _ hn a hL
theorem aNc{l:List Int}{P:Int->Prop}(h:∀v∈l,P v){k:Nat}(hk:k<l.length):P (l.getD k 0):=by
 rw[Aa,Ae hk];exact h _ (Az hk)
theorem cF{a:Int}:∀v∈aB a,0<=v/\v<=5:=by
 intro v hv;have:=(List.mem_filter.1 hv).1;simp at this;omega
end
section
variable{R:Type}{L n:Nat}
structure Edge where
 fr:Int
 lt:Int
 to:Int
 deriving DecidableEq,Inhabited
def aQD(e:Edge):List D:=[.int .i64 e.fr,.int .i64 e.lt,.int .i64 e.to]
def aP8(l:List Edge):List D:=(l.map aQD).flatten
def cmpI(a b:Int):Int:=if a<b then -1 else if b<a then 1 else 0
theorem E8(hn:1<=n)(a:Int):aA env L n 99 [nI a] []=some (.d (.bool false),[]):=by
 obtain _|n:=n;omega
 simp-implicitDefEqProofs (maxSteps:=9^7) (disch:=try exact Dz) only[↓DN,↓kAsg,↓kRet,UP,simprocAttr,ZM,pV,Tryz.f99]
theorem u7:type_of% fun {L} a=>ks fun hn=> @E8 L _ hn a:=fun {L} a=>ks fun hn=> @E8 L _ hn a
theorem AZ(hn:2<=n)(a b:Int):aA env L n 68 [nI a,nI b] []=some (nI (cmpI a b),[]):=by
 unfold cmpI
 by_cases h1:a<b
 ·obtain _|n:=n;omega
  simp-implicitDefEqProofs (maxSteps:=9^7) (disch:=try exact Dz) only[↓DN,↓kAsg,↓kRet,UP,simprocAttr,↓u7,h1,rE,dY,Tryz.f68]
 ·by_cases h2:b<a
  ·obtain _|n:=n;omega
   simp-implicitDefEqProofs (maxSteps:=9^7) (disch:=try exact Dz) only[↓DN,↓kAsg,↓kRet,UP,simprocAttr,↓u7,h1,h2,rE,dY,Tryz.f68]
  ·obtain _|n:=n;omega
   simp-implicitDefEqProofs (maxSteps:=9^7) (disch:=try exact Dz) only[↓DN,↓kAsg,↓kRet,UP,simprocAttr,↓u7,h1,h2,rE,dY,Tryz.f68]
theorem SA:type_of% fun {L} a b=>ks fun hn=> @AZ L _ hn a b:=fun {L} a b=>ks fun hn=> @AZ L _ hn a b
def eN:List Int->Int
 | []=>0
 |a::l=>if a=0 then eN l else a
def lz:List Int->Nat
 | []=>0
 |a::l=>if a=0 then lz l+1 else 0
theorem b7{α:Type}{l:List α}{i:Nat}{d:α}(h:i<l.length):l.drop i=l.getD i d::l.drop (i+1):=by
 rw[Dp h,Aa,Ae h];rfl
theorem IG(hn:1<=n){l:List Int}(hl:l.length<=1000){k:KE R}:∀(i:Int) (m:Nat) (h0:0<=i) (hi:i<=l.length) (hm:(l.length:Int)-i<m),
  aS env (aA env L n) L 0 [] Bz29 (hM 0) Bz50 m (Y2 (nI 0::nI 0::Y2 (.d (.ivs l.length (ints l))::nI (l.length)::nI i::Y8 (Y1 ([]))))) [] k
  =if eN (l.drop i.toNat)=0 then k (.exit 0) (Y2 (nI 0::nI 0::Y2 (.d (.ivs l.length (ints l))::nI (l.length)::nI (l.length)::Y8 (Y1 ([]))))) []else k .ret (Y2 (nI (eN (l.drop i.toNat))::nI 0::Y2 (.d (.ivs l.length (ints l))::nI (l.length)::nI (i+lz (l.drop i.toNat))::Y8 (Y1 ([]))))) []:=by
 intro i m h0 hi hm;obtain⟨j,hj⟩:∃j:Nat,(j:Int)=(l.length:Int)-i:=⟨((l.length:Int)-i).toNat,by omega⟩
 induction j generalizing i m with
 |zero=>
  obtain _|m:=m;omega;obtain rfl:i=l.length:=om
  simp-implicitDefEqProofs (maxSteps:=9^7) (disch:=try exact Dz) only[↓DN,↓kRet,UP,simprocAttr,Aj,s7,fU,Tryz.f67];simp only[Bz,eN,if_true]
 |succ j ih=>
  obtain _|m:=m;omega;have hc:i<l.length:=om;have hk:i.toNat<l.length:=om;have e1:(i+1).toNat=i.toNat+1:=om;rw[b7 hk (d:=0)]
  by_cases hz:l.getD i.toNat 0=0
  ·simp-implicitDefEqProofs (maxSteps:=9^7) (disch:=try exact Dz) only[↓DN,↓kRet,UP,simprocAttr,hc,hz,↓ih,s7,fU,Tryz.f67];simp only[eN,lz,if_true,e1,Int.natCast_add,Int.add_assoc,Int.add_comm 1]<;>rfl
  ·simp-implicitDefEqProofs (maxSteps:=9^7) (disch:=try exact Dz) only[↓DN,↓kRet,UP,simprocAttr,hc,hz,s7,fU,Tryz.f67];simp only[eN,lz,hz,if_false,Aq,Int.add_zero]
theorem aFr(hn:2<=n)(l:List Int)(hl:l.length<=1000)(hL:2^60<=L):aA env L n 67 [.d (.ivs l.length (ints l))] []=some (nI (eN l),[]):=by
 by_cases hz:eN l=0
 ·obtain _|n:=n;omega
  simp-implicitDefEqProofs (maxSteps:=9^7) (disch:=try exact Dz) only[↓DN,↓kAsg,↓kRet,UP,simprocAttr,↓IG,Dc,hz,PZ,m3,Tryz.f67]
 ·obtain _|n:=n;omega
  simp-implicitDefEqProofs (maxSteps:=9^7) (disch:=try exact Dz) only[↓DN,↓kAsg,↓kRet,UP,simprocAttr,↓IG,Dc,hz,PZ,m3,Tryz.f67]
theorem aFG{k:A->Option R}(hn:2<=n)(l:List Int)(hl:l.length<=1000)(hL:2^60<=L):pJ (aA env L n) 67 [.d (.ivs l.length (ints l))] k=k (nI (eN l)):=
 kQ (aFr hn l hl hL) rfl
theorem aAA{L:Nat}{id0 g0 o0 len0:Nat}:KV L 67 [.sl id0 g0 o0 len0]:=fun _ _ _ _=>dA pO
def seek(p:Nat->Bool):Nat->Nat->Option Nat
 |0,_=>none
 |j+1,i=>if p i=true then some i else seek p j (i+1)
theorem qF{p:Nat->Bool}:∀ {j i:Nat},seek p j i=none↔∀k,i<=k->k<i+j->p k=false
 |0,i=>by simp only[seek,true_iff];intro k h1 h2;omega
 |j+1,i=>by
  simp only[seek]
  by_cases hp:p i=true
  ·rw[if_pos hp];simp only[false_iff,reduceCtorEq];intro h;have:=h i (Ab _) om;rw[hp]at this;cases this
  ·rw[if_neg hp,qF]
   constructor
   ·intro h k h1 h2
    by_cases e:k=i
    ·subst e;simpa using hp
    ·exact h k om om
   ·intro h k h1 h2;exact h k om om
theorem JA{p:Nat->Bool}:∀ {j i r:Nat},seek p j i=some r->i<=r/\r<i+j/\p r=true/\∀k,i<=k->k<r->p k=false
 |0,i,r,h=>by simp[seek]at h
 |j+1,i,r,h=>by
  simp only[seek]at h
  by_cases hp:p i=true
  ·rw[if_pos hp]at h;cases h;exact⟨Ab _,by omega,hp,fun k h1 h2=>by omega⟩
  ·rw[if_neg hp]at h;obtain⟨h1,h2,h3,h4⟩:=JA h;refine⟨by omega,by omega,h3,fun k k1 k2=> ?_⟩
   by_cases e:k=i
   ·subst e;simpa using hp
   ·exact h4 k om k2
theorem jO{p:Nat->Bool}{j i:Nat}(h:p i=true):seek p (j+1) i=some i:=by simp[seek,h]
theorem lT{p:Nat->Bool}{j i:Nat}(h:p i=false):seek p (j+1) i=seek p j (i+1):=by simp[seek,h]
structure Sys where
 al:Int
 st:Int
 es:List Edge
 deriving DecidableEq,Inhabited
end
theorem mT{a b:UInt8}{x y:List UInt8}:Op.bytesLess (a::x) (b::y)=true↔a.toNat<b.toNat\/a=b/\Op.bytesLess x y=true:=by
 simp only[Op.bytesLess,Bool.or_eq_true,Ar,beq_iff_eq,decide_eq_true_eq]<;>rfl
theorem PP:∀x:List UInt8,¬Op.bytesLess x x=true
 | [],h=>by simp[Op.bytesLess]at h
 |a::x,h=>by
  rcases mT.1 h with h|⟨_,h⟩
  ·omega
  ·exact PP x h
theorem I8:∀ {x y z:List UInt8},Op.bytesLess x y=true->Op.bytesLess y z=true->Op.bytesLess x z=true
 |_,[],_,h,_=>by simp[Op.bytesLess]at h
 |_,_::_,[],_,k=>by simp[Op.bytesLess]at k
 | [],_::_,_::_,_,_=>by simp[Op.bytesLess]
 |a::x,b::y,c::z,h,k=>by
  rw[mT]at *
  rcases h with h|⟨rfl,h⟩<;>rcases k with k|⟨rfl,k⟩
  ·exact .inl om
  ·exact .inl h
  ·exact .inl k
  ·exact .inr ⟨rfl,I8 h k⟩
theorem C5:∀(x y:List UInt8),x=y\/Op.bytesLess x y=true\/Op.bytesLess y x=true
 | [],[]=>.inl rfl
 | [],_::_=>.inr (.inl (by simp[Op.bytesLess]))
 |_::_,[]=>.inr (.inr (by simp[Op.bytesLess]))
 |a::x,b::y=>by
  rw[mT,mT]
  rcases Db a.toNat b.toNat with h|h|h
  ·exact .inr (.inl (.inl h))
  ·have e:a=b:=UInt8.toNat_inj.1 h;subst e
   rcases C5 x y with g|g|g
   ·exact .inl (by rw[g])
   ·exact .inr (.inl (.inr ⟨rfl,g⟩))
   ·exact .inr (.inr (.inr ⟨rfl,g⟩))
  ·exact .inr (.inr (.inl h))
theorem aJS{x y:List UInt8}:cmpB x y<0↔Op.bytesLess x y=true:=by
 unfold cmpB
 by_cases h1:Op.bytesLess x y=true
 ·simp[h1]
 ·by_cases h2:Op.bytesLess y x=true<;>simp[h1,h2]
theorem zJ{x y:List UInt8}:cmpX x y<0↔x.length<y.length\/x.length=y.length/\Op.bytesLess x y=true:=by
 unfold cmpX;simp only[aCx]
 rcases Db x.length y.length with h|h|h
 ·have e:GK (x.length:Int) (y.length:Int)= -1:=by unfold GK;rw[if_pos om]
  rw[e];simp[h]
 ·have e:GK (x.length:Int) (y.length:Int)=0:=by unfold GK;rw[h];simp
  rw[e,if_pos rfl,h]
  by_cases h0:cmpB x y=0
  ·rw[if_pos h0];have:=aJS (x:=x) (y:=y);rw[h0]at this;simp only[true_and,<-this];omega
  ·rw[if_neg h0,aJS];simp
 ·have e:GK (x.length:Int) (y.length:Int)=1:=by unfold GK;rw[if_neg om,if_pos om]
  rw[e,if_neg om]
  constructor
  ·intro h2;omega
  ·rintro(h2|⟨h2,_⟩)<;>omega
theorem EO(x:List UInt8):¬cmpX x x<0:=by
 rw[zJ];rintro(h|⟨_,h⟩)
 ·omega
 ·exact PP _ h
theorem qP{x y z:List UInt8}(h:cmpX x y<0)(k:cmpX y z<0):cmpX x z<0:=by
 rw[zJ]at *
 rcases h with h|⟨h1,h⟩<;>rcases k with k|⟨k1,k⟩
 ·exact .inl om
 ·exact .inl om
 ·exact .inl om
 ·exact .inr ⟨by omega,I8 h k⟩
theorem L9(x y:List UInt8):x=y\/cmpX x y<0\/cmpX y x<0:=by
 rw[zJ,zJ]
 rcases Db x.length y.length with h|h|h
 ·exact .inr (.inl (.inl h))
 ·rcases C5 x y with g|g|g
  ·exact .inl g
  ·exact .inr (.inl (.inr ⟨h,g⟩))
  ·exact .inr (.inr (.inr ⟨h.symm,g⟩))
 ·exact .inr (.inr (.inl h))
theorem aD5{x y:List UInt8}(h:cmpX x y<0):¬cmpX y x<0:=fun k=>EO x (qP h k)
theorem JK(a b c:List UInt8)(h1:leX a b=true)(h2:leX b c=true):leX a c=true:=by
 unfold leX at *;simp only[Df,decide_eq_false_iff_not]at *;intro h
 rcases L9 a b with rfl|g|g
 ·exact h2 h
 ·exact h2 (qP h g)
 ·exact h1 g
theorem I9(a b:List UInt8):(leX a b||leX b a)=true:=by
 unfold leX
 by_cases h:cmpX b a<0
 ·have:=aD5 h;simp[this]
 ·simp[h]
theorem ZH{a b:List UInt8}(h1:leX a b=true)(h2:leX b a=true):a=b:=by
 unfold leX at *;simp only[Df,decide_eq_false_iff_not]at *
 rcases L9 a b with g|g|g
 ·exact g
 ·exact(h2 g).elim
 ·exact(h1 g).elim
theorem aLt{a b:List UInt8}(h:cmpX a b<0):leX a b=true:=by
 unfold leX;simp only[Df,decide_eq_false_iff_not];exact aD5 h
section
variable{R:Type}{L n:Nat}
theorem aOR{a b:Int}:[D.int .i64 a,.int .i64 b]=ints [a,b]:=rfl
theorem aD1{x y:List UInt8}(h1:¬Op.bytesLess x y=true):(x==y)= !Op.bytesLess y x:=by
 rw[Bool.eq_iff_iff];simp only[Df,beq_iff_eq]
 rcases C5 x y with rfl|g|g
 ·simpa using h1
 ·exact absurd g h1
 ·refine⟨fun e=> ?_,fun e=>by rw[g]at e;cases e⟩;subst e;exact absurd g h1
theorem D1{E:Env}{t:TypeId}{h:H}{a b:List UInt8}:bY E .gtr t h (.d (.str a)) (.d (.str b))=some (.d (.bool (!(Op.bytesLess a b||a==b))),h):=by simp[bY,aBin]
theorem aAq{E:Env}{t:TypeId}{h:H}{a b:List UInt8}:bY E .neq t h (.d (.str a)) (.d (.str b))=some (.d (.bool (!(a==b))),h):=by simp[bY,aBin]
theorem sK{E:Env}{t:TypeId}{h:H}{a b:List UInt8}:bY E .lss t h (.d (.str a)) (.d (.str b))=some (.d (.bool (Op.bytesLess a b)),h):=by simp[bY,aBin]
theorem y3(hn:1<=n)(x:List UInt8):aA env L n 100 [.d (.str x)] []=some (.d (.bool false),[]):=by
 obtain _|n:=n;omega
 simp-implicitDefEqProofs (maxSteps:=9^7) (disch:=try exact Dz) only[↓DN,↓kAsg,↓kRet,UP,simprocAttr,aAq,QQ,lE,Tryz.f100]
theorem o6:type_of% fun {L} x=>ks fun hn=> @y3 L _ hn x:=fun {L} x=>ks fun hn=> @y3 L _ hn x
theorem wB(hn:2<=n)(x y:List UInt8):aA env L n 69 [.d (.str x),.d (.str y)] []=some (nI (cmpB x y),[]):=by
 unfold cmpB
 by_cases h1:Op.bytesLess x y=true
 ·obtain _|n:=n;omega
  simp-implicitDefEqProofs (maxSteps:=9^7) (disch:=try exact Dz) only[↓DN,↓kAsg,↓kRet,UP,simprocAttr,↓o6,sK,h1,mK,c9,Tryz.f69]
 ·have hg:=aD1 h1
  by_cases h2:Op.bytesLess y x=true
  ·rw[h2,Bool.not_true]at hg;obtain _|n:=n;omega
   simp-implicitDefEqProofs (maxSteps:=9^7) (disch:=try exact Dz) only[↓DN,↓kAsg,↓kRet,UP,simprocAttr,↓o6,sK,D1,h1,h2,hg,mK,c9,Tryz.f69]
  ·rw[Bool.eq_false_iff.2 h2,Bool.not_false]at hg;obtain _|n:=n;omega
   simp-implicitDefEqProofs (maxSteps:=9^7) (disch:=try exact Dz) only[↓DN,↓kAsg,↓kRet,UP,simprocAttr,↓o6,sK,D1,h1,h2,hg,mK,c9,Tryz.f69]
theorem LS:type_of% fun {L} x y=>ks fun hn=> @wB L _ hn x y:=fun {L} x y=>ks fun hn=> @wB L _ hn x y
theorem PW(hn:4<=n)(x y:List UInt8)(hL:2^60<=L):aA env L n 34 [.d (.str x),.d (.str y)] []=some (nI (cmpX x y),[]):=by
 have k3:∀ {R:Type} {n:Nat} {k:A->Option R},2<=n->pJ (aA env L n) 67 [.d (.ivs 2 (ints [cmpI x.length y.length,cmpB x y]))] k=k (nI (eN [cmpI x.length y.length,cmpB x y])):=fun h=>aFG h [cmpI x.length y.length,cmpB x y] sm hL;obtain _|n:=n;omega
 simp-implicitDefEqProofs (maxSteps:=9^7) (disch:=try exact Dz) only[↓DN,↓kAsg,↓kRet,UP,simprocAttr,↓SA,↓LS,↓aAA,aOR,↓k3,aFD,xT,Tryz.f34]<;>rfl
theorem aFt:type_of% fun {L} x y hL=>ks fun hn=> @PW L _ hn x y hL:=fun {L} x y hL=>ks fun hn=> @PW L _ hn x y hL
end
end Ev
end Go.Proofs.YthlkcebdfbjdoaaGreat
