/-
  What the types of the program are.
-/
import Derived.Test.YthlkcebdfbjdoaaGreatTy
import Derived.IntWalk
set_option linter.unusedSimpArgs false
namespace Go.Proofs.YthlkcebdfbjdoaaGreat
namespace Ev
theorem vJ{n:Int}(h1:-9223372036854775808<=n)(h2:n<=9223372036854775807):IntKind.i64.wrap n=n:=IntWalk.i64_in n ⟨h1,h2⟩
theorem aNU{n:Int}(h1:0<=n)(h2:n<=18446744073709551615):IntKind.u64.wrap n=n:=IntWalk.u64_in n ⟨h1,h2⟩
theorem aOe{n:Int}(h1:0<=n)(h2:n<=255):IntKind.u8.wrap n=n:=IntWalk.u8_in n ⟨h1,h2⟩
theorem aHU:env.P.underlying 3=some (.int .i64):=kr
theorem aN1:env.P.underlying 69=some (.int .u64):=kr
theorem QY:env.P.underlying 5=some (.int .u8):=kr
theorem aJO:env.P.underlying 4=some .bool:=kr
theorem aFb:env.P.underlying 9=some .string:=kr
theorem aNB:env.P.underlying 80=some (.slice 3):=kr
theorem aHw:env.P.underlying 22=some (.slice 5):=kr
theorem QR:env.P.cellsOf 3=1:=kr
theorem aGK:env.P.cellsOf 5=1:=kr
theorem aN9:eX env.P 3=true:=kr
theorem aOg:dL env.P 3=some (nI 0):=kr
theorem aC2{h:H}{n:Int}{K:IntKind}:eM env.P h 3 69 (.d (.int K n))=some (.d (.int .u64 (IntKind.u64.wrap n)),h):=uB aHU aN1
theorem aAV{h:H}{n:Int}{K:IntKind}:eM env.P h 3 5 (.d (.int K n))=some (.d (.int .u8 (IntKind.u8.wrap n)),h):=uB aHU QY
theorem IK{h:H}{n:Int}{K:IntKind}:eM env.P h 5 3 (.d (.int K n))=some (nI (IntKind.i64.wrap n),h):=uB QY aHU
def ints(l:List Int):List D:=l.map (.int .i64)
def bI(l:List UInt8):List D:=l.map fun b=>.int .u8 b.toNat
abbrev rdO(c:List UInt8)(p:Int):O:=.box [.d (.ivs c.length (bI c)),nI p]
abbrev Dw(m f:Nat)(xs:List A)(r:A)(c:List UInt8)(p q:Int):Prop:=∀(R:Type) (L n:Nat) (hq:H) (k:KA R),m<=n->2^60<=L->aZ env (aA env L n) (rdO c p::hq) f (.ptr 0 0 0::xs) k=k r (rdO c q::hq)
abbrev KC(d L:Nat)(f:Nat)(xs:List A)(r:A):Prop:=∀(R:Type) (n:Nat) (hq:H) (k:KA R),d<=n->aZ env (aA env L n) hq f xs k=k r hq
theorem ks{d L:Nat}{f:Nat}{xs:List A}{r:A}(h2:∀ {n:Nat},d<=n->aA env L n f xs []=some (r,[]))(h1:xs.all oP=true:=by rfl)(h3:idsA r=[]:=by rfl)(h4:gK r=true\/((env.hint f).mode==1||(env.hint f).mode==3)=false:=by first|exact .inl rfl|exact .inr rfl):KC d L f xs r:=fun _ _ _ _ hn=>cO h1 (h2 hn) h3 h4
abbrev KT(d L:Nat)(f:Nat)(xs:List A)(r:A):Prop:=∀(R:Type) (n:Nat) (k:A->Option R),d<=n->tE (aA env L n) f xs k=k r
theorem kt{d L:Nat}{f:Nat}{xs:List A}{r:A}(h2:∀ {n:Nat},d<=n->aA env L n f xs []=some (r,[]))(h:gK r=true:=by rfl):KT d L f xs r:=fun _ _ _ hn=>lC (h2 hn) h
abbrev KV(L:Nat)(f:Nat)(xs:List A):Prop:=∀(R:Type) (n:Nat) (hq:H) (k:KA R),aZ env (aA env L n) hq f xs k=match box (QQ hq xs)with
 |.mk (some fs)=>tE (aA env L n) f fs fun r=>k r hq
 |_=>none
theorem aHD:c8 env.P 80=some 3:=by simp only[c8,aNB]
theorem gA{l:List Int}:(ints l).length=l.length:=by simp[ints]
theorem aBs{l:List Int}{v:Int}:ints l++[.int .i64 v]=ints (l++[v]):=by simp[ints]
theorem nF:ints []=[]:=rfl
theorem eC{l:List Int}{k:Nat}(h:l.length<=k):(ints l).take k=ints l:=Cf (by rw[gA];exact h)
theorem PI{l:List Int}{k:Nat}(h:k<l.length):(((ints l).drop k).map A.d).head? =some (nI (l.getD k 0)):=by
 rw[List.head?_map,Cy,ints,Bd,Aa,Ae h];rfl
section
theorem uZ{α:Type}(f:α->D)(l:List α)(k:Nat)(v:α)(h:k<l.length):bG (l.map f) k [f v]=(l.set k v).map f:=by
 unfold bG;rw[List.map_set];have:k<(l.map f).length:=by simpa using h
 generalize l.map f=m at *;rw[List.set_eq_take_append_cons_drop,if_pos this];simp
theorem nT{l:List UInt8}:(bI l).length=l.length:=by simp[bI]
theorem aH4:bI []=[]:=rfl
theorem aLH{e g:Nat}:O.arr [] e g=O.arr (ints []) e g:=rfl
theorem SL{l:List UInt8}{v:UInt8}:bI l++[.int .u8 (v.toNat:Int)]=bI (l++[v]):=by simp[bI]
theorem G4{l:List UInt8}{k:Nat}(h:l.length<=k):(bI l).take k=bI l:=Cf (by rw[nT];exact h)
theorem TO{l:List UInt8}{k:Nat}(h:k<l.length):(((bI l).drop k).map A.d).head? =some (.d (.int .u8 ((l.getD k 0).toNat:Int))):=by
 rw[List.head?_map,Cy,bI,Bd,Aa,Ae h];rfl
theorem aIg{l:List UInt8}{k:Nat}{v:UInt8}(h:k<l.length):bG (bI l) k [.int .u8 (v.toNat:Int)]=bI (l.set k v):=uZ _ l k v h
theorem UG{l:List Int}{k:Nat}{v:Int}(h:k<l.length):bG (ints l) k [.int .i64 v]=ints (l.set k v):=uZ _ l k v h
theorem aBm:∀l:List UInt8,DB (bI l)=some l
 | []=>rfl
 |b::l=>by
  have ih:=aBm l;unfold bI at ih|-;simp only[Ah,DB,ih,Ax];simp
theorem getElem?_zero_cons {o:O} {h:H}:(o::h)[0]? =some o:=rfl
theorem IY{l:List UInt8}{g len:Nat}{h:H}(hl:len=l.length):eM env.P (.arr (bI l) 1 g::h) 22 9 (.sl 0 g 0 len)=some (.d (.str l),.arr (bI l) 1 g::h):=by
 subst hl;simp only[eM,aHw,aFb,QY,dA,getElem?_zero_cons,nT,or_true,Cb,Ag,Ab,and_self,if_true,Bc,G4 (Ab _),aBm,Ax]
theorem aEM{α:Type}(x:α):∀n:Nat,(List.replicate n [x]).flatten=List.replicate n x
 |0=>rfl
 |n+1=>by simp[List.replicate_succ,aEM x n]
theorem FA{n:Int}{h:H}(h0:0<=n)(h1:n<=4294967296):gD env.P h 80 n n=some (.sl h.length 0 0 n.toNat,h++[.arr (ints (List.replicate n.toNat 0)) 1 0]):=by
 have hm:n<=(bK:Nat):=by unfold bK;omega
 simp only[gD,aHD,aOg,aW,vM,Ax,aN9,h0,hm,QR,Int.le_refl,and_self,if_true,aEM,ints,List.map_replicate]
theorem X8{i:Int}{s:List UInt8}(h0:0<=i)(h:i<s.length):H2 env.P 9 (.d (.str s)) i=some (.d (.int .u8 ((s.getD i.toNat 0).toNat))):=by
 have hk:i.toNat<s.length:=by omega
 simp only[H2,aFb,if_pos h0,Aa,Ae hk,Ax,Bb]
theorem take_set{α:Type}{l:List α}{k:Nat}{v:α}(h:k<l.length):(l.set k v).take (k+1)=l.take k++[v]:=by
 rw[List.take_set,List.take_add_one,Ae h];simp only[Option.toList_some];have hl:(l.take k).length=k:=by rw[Bs];omega
 rw[Dm _ _ (by omega),hl,By];rfl
theorem aM2{o:O}{h:H}{id:Nat}(hs:h[id]? =some o):h.set id o=h:=by
 apply Cl;intro j;rw[Cg];obtain⟨hl,he⟩:=As.1 hs
 by_cases e:id=j
 ·subst e;simp[hl,he]
 ·simp[e]
theorem rJ{h:H}{id gen off esz:Nat}{t:TypeId}{cs:List D}{d:D}(hid:h[id]? =some (.arr cs esz gen))(c1:env.P.cellsOf t=1)(hi:(env.P.info? t).isSome=true)(hd:dV (.d d)=true)(hk:off<cs.length):
  iR env.P h t (.ptr id gen off) (.d d)=some (h.set id (.arr (bG cs off [d]) esz gen)):=by
 have hc:(aW (.d d)).length=env.P.cellsOf t/\(env.P.info? t).isSome=true/\(aW (.d d)).all dV=true:=⟨by rw[c1];rfl,hi,by simp[aW,hd]⟩
 have hf:frzL h (aW (.d d))=some ([d],h):=rfl;unfold iR;rw[if_pos hc];simp only[hid,hf,c1,true_and];rw[if_pos (by omega)]
theorem aNd:(env.P.info? 5).isSome=true:=kr
theorem aLZ:(env.P.info? 3).isSome=true:=kr
theorem aI0:(env.P.info? 4).isSome=true:=kr
theorem aEW:env.P.cellsOf 4=1:=kr
theorem aLw{h:H}{g e k:Nat}{l:List UInt8}{b:UInt8}(hk:k<l.length):iR env.P (.arr (bI l) e g::h) 5 (.ptr 0 g k) (.d (.int .u8 (b.toNat:Int)))=some (.arr (bI (l.set k b)) e g::h):=by
 rw[rJ (id:=0) rfl aGK aNd rfl (by rw[nT];exact hk),aIg hk];rfl
theorem Q9{h:H}{g e k:Nat}{l:List Int}{b:Int}(hk:k<l.length):iR env.P (.arr (ints l) e g::h) 3 (.ptr 0 g k) (nI b)=some (.arr (ints (l.set k b)) e g::h):=by
 rw[rJ (id:=0) rfl QR aLZ rfl (by rw[gA];exact hk),UG hk];rfl
theorem aGR{o:O}{h:H}{g e k:Nat}{l:List Int}{b:Int}(hk:k<l.length):iR env.P (o::.arr (ints l) e g::h) 3 (.ptr 1 g k) (nI b)=some (o::.arr (ints (l.set k b)) e g::h):=by
 rw[rJ (id:=1) rfl QR aLZ rfl (by rw[gA];exact hk),UG hk];rfl
section
variable{t:TypeId}{h:H}{a b:List UInt8}
theorem YR:b6 env .eql t h (.d (.str a)) (.d (.str b))=some (.d (.bool (a==b)),h):=by simp[b6,aBin]
theorem XM:b6 env .neq t h (.d (.str a)) (.d (.str b))=some (.d (.bool (!(a==b))),h):=by simp[b6,aBin]
theorem WJ(hl:a.length+b.length<=4294967296):b6 env .add t h (.d (.str a)) (.d (.str b))=some (.d (.str (a++b)),h):=by
 have:a.length+b.length<=bK:=hl;simp[b6,aBin,this]
theorem W3:b6 env .lss t h (.d (.str a)) (.d (.str b))=some (.d (.bool (Op.bytesLess a b)),h):=by simp[b6,aBin]
end
theorem toNat_lt(b:UInt8):b.toNat<256:=b.toNat_lt
theorem aFk{b:UInt8}:IntKind.i64.wrap (b.toNat:Int)=b.toNat:=vJ (by omega) (by have:=toNat_lt b;omega)
theorem CX{l:List UInt8}{n:Nat}{lo hi:Option Int}{h:H}(hn:n=l.length)(h0:0<=lo.getD 0)(h1:lo.getD 0<=hi.getD l.length)(h2:hi.getD l.length<=l.length):gU env.P h 22 (.d (.ivs n (bI l))) lo hi=some (.d (.ivs ((l.drop (lo.getD 0).toNat).take ((hi.getD l.length).toNat-(lo.getD 0).toNat)).length (bI ((l.drop (lo.getD 0).toNat).take ((hi.getD l.length).toNat-(lo.getD 0).toNat))))):=by
 subst hn;simp only[gU,aHw,aGK,oE,h0,h1,h2,and_self,if_true,Cb,Ax,Nat.zero_lt_one,bI,List.map_take,List.map_drop]
 congr 3
 rw[Bs,Ce];omega
theorem SJ{l:List UInt8}{n:Nat}{u:Int}{h:H}(hn:n=l.length)(h0:0<=u)(h1:u<=l.length):gU env.P h 22 (.d (.ivs n (bI l))) none (some u)=some (.d (.ivs (l.take u.toNat).length (bI (l.take u.toNat)))):=by
 rw[CX hn (by simp) (by simpa using h0) (by simpa using h1)];simp
theorem LR{l:List UInt8}{n:Nat}{u:Int}{h:H}(hn:n=l.length)(h0:0<=u)(h1:u<=l.length):gU env.P h 22 (.d (.ivs n (bI l))) (some u) none=some (.d (.ivs (l.drop u.toNat).length (bI (l.drop u.toNat)))):=by
 rw[CX hn (by simpa using h0) (by simpa using h1) (by simp)];have:(List.take (l.length-u.toNat) (l.drop u.toNat))=l.drop u.toNat:=Cf (by simp);simp[this]
theorem WR{h:H}{a b:Bool}:b6 env .eql 4 h (.d (.bool a)) (.d (.bool b))=some (.d (.bool (a==b)),h):=by simp[b6,aBin,aNil,aJO,eqlA]
theorem ZH{h:H}{a b:Bool}:b6 env .neq 4 h (.d (.bool a)) (.d (.bool b))=some (.d (.bool (!(a==b))),h):=by simp[b6,aBin,aNil,aJO,eqlA]
theorem LB:type_of% (AI @nT (AI @gA (AI @TO (AI @PI (AI @G4 (AI @eC (AI @SL (AI @aBs (AI @X8 (AI @YR (AI @XM (AI @WJ (AI @W3 (AI @aFk (AI @WR (AI @ZH @Ct)))))))))))))))):=
 ⟨@nT,@gA,@TO,@PI,@G4,@eC,@SL,@aBs,@X8,@YR,@XM,@WJ,@W3,@aFk,@WR,@ZH,@Ct⟩
theorem CV:type_of% (AI @SJ @LR):=
 ⟨@SJ,@LR⟩
theorem DN:type_of% (AI @WD (AI @XW (AI @WDD (AI @XX @CV)))):=
 ⟨@WD,@XW,@WDD,@XX,@CV⟩
theorem Dz{p:Prop}(h:p:=by first|assumption|exact⟨by kernel_rfl⟩|omega|(simp only[GT,LN]<;>omega)):p:=h
theorem UP:type_of% (AI @SLM (AI @WK (AI @UN (AI @TY (AI @LB (AI @MD @vJ)))))):=
 ⟨@SLM,@WK,@UN,@TY,@LB,@MD,@vJ⟩
end
end Ev
end Go.Proofs.YthlkcebdfbjdoaaGreat
