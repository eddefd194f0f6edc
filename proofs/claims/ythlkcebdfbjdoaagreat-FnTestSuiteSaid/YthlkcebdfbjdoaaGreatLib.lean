/-
  What the types of the program are.
-/
import Derived.Test.YthlkcebdfbjdoaaGreatTy
import Derived.IntWalk
set_option linter.unusedSimpArgs false
namespace Go.Proofs.YthlkcebdfbjdoaaGreat
namespace Ev
theorem zF{n:Int}(h1:-9223372036854775808<=n)(h2:n<=9223372036854775807):IntKind.i64.wrap n=n:=IntWalk.i64_in n ⟨h1,h2⟩
theorem aMI{n:Int}(h1:0<=n)(h2:n<=18446744073709551615):IntKind.u64.wrap n=n:=IntWalk.u64_in n ⟨h1,h2⟩
theorem aU7{n:Int}(h1:0<=n)(h2:n<=255):IntKind.u8.wrap n=n:=IntWalk.u8_in n ⟨h1,h2⟩
theorem aLH:env.P.underlying 3=some (.int .i64):=kr
theorem aUG:env.P.underlying 69=some (.int .u64):=kr
theorem WS:env.P.underlying 5=some (.int .u8):=kr
theorem aPD:env.P.underlying 4=some .bool:=kr
theorem aI1:env.P.underlying 9=some .string:=kr
theorem aUH:env.P.underlying 80=some (.slice 3):=kr
theorem aKA:env.P.underlying 22=some (.slice 5):=kr
theorem V7:env.P.cellsOf 3=1:=kr
theorem aKW:env.P.cellsOf 5=1:=kr
theorem aU5:eW env.P 3=true:=kr
theorem aU8:dX env.P 3=some (nI 0):=kr
theorem QK{h:H}{n:Int}{K:IntKind}:fC env.P h 3 69 (.d (.int K n))=some (.d (.int .u64 (IntKind.u64.wrap n)),h):=xB aLH aUG
theorem aDs{h:H}{n:Int}{K:IntKind}:fC env.P h 3 5 (.d (.int K n))=some (.d (.int .u8 (IntKind.u8.wrap n)),h):=xB aLH WS
theorem NU{h:H}{n:Int}{K:IntKind}:fC env.P h 5 3 (.d (.int K n))=some (nI (IntKind.i64.wrap n),h):=xB WS aLH
def ints(l:List Int):List D:=l.map (.int .i64)
def bI(l:List UInt8):List D:=l.map fun b=>.int .u8 b.toNat
abbrev rdO(c:List UInt8)(p:Int):O:=.box [.d (.ivs c.length (bI c)),nI p]
abbrev Dw(m f:Nat)(xs:List A)(r:A)(c:List UInt8)(p q:Int):Prop:=∀(R:Type) (L n:Nat) (hq:H) (k:KA R),m<=n->2^60<=L->a6 env (aA env L n) (rdO c p::hq) f (.ptr 0 0 0::xs) k=k r (rdO c q::hq)
abbrev KC(d L:Nat)(f:Nat)(xs:List A)(r:A):Prop:=∀(R:Type) (n:Nat) (hq:H) (k:KA R),d<=n->a6 env (aA env L n) hq f xs k=k r hq
theorem ks{d L:Nat}{f:Nat}{xs:List A}{r:A}(h2:∀ {n:Nat},d<=n->aA env L n f xs []=some (r,[]))(h1:xs.all qH=true:=by rfl)(h3:idsA r=[]:=by rfl)(h4:iV r=true\/((env.hint f).mode==1||(env.hint f).mode==3)=false:=by first|exact .inl rfl|exact .inr rfl):KC d L f xs r:=fun _ _ _ _ hn=>c8 h1 (h2 hn) h3 h4
abbrev KT(d L:Nat)(f:Nat)(xs:List A)(r:A):Prop:=∀(R:Type) (n:Nat) (k:A->Option R),d<=n->qK (aA env L n) f xs k=k r
theorem kt{d L:Nat}{f:Nat}{xs:List A}{r:A}(h2:∀ {n:Nat},d<=n->aA env L n f xs []=some (r,[]))(h:iV r=true:=by rfl):KT d L f xs r:=fun _ _ _ hn=>lI (h2 hn) h
abbrev KV(L:Nat)(f:Nat)(xs:List A):Prop:=∀(R:Type) (n:Nat) (hq:H) (k:KA R),a6 env (aA env L n) hq f xs k=match box (WN hq xs)with
 |.mk (some fs)=>qK (aA env L n) f fs fun r=>k r hq
 |_=>none
theorem aLc:cY env.P 80=some 3:=by simp only[cY,aUH]
theorem hJ{l:List Int}:(ints l).length=l.length:=by simp[ints]
theorem aEw{l:List Int}{v:Int}:ints l++[.int .i64 v]=ints (l++[v]):=by simp[ints]
theorem oK:ints []=[]:=rfl
theorem eS{l:List Int}{k:Nat}(h:l.length<=k):(ints l).take k=ints l:=Bz (by rw[hJ];exact h)
theorem U0{l:List Int}{k:Nat}(h:k<l.length):(((ints l).drop k).map A.d).head? =some (nI (l.getD k 0)):=by
 rw[List.head?_map,Da,ints,Bd,Aa,Ae h];rfl
section
theorem xW{α:Type}(f:α->D)(l:List α)(k:Nat)(v:α)(h:k<l.length):bH (l.map f) k [f v]=(l.set k v).map f:=by
 unfold bH;rw[List.map_set];have:k<(l.map f).length:=by simpa using h
 generalize l.map f=m at *;rw[List.set_eq_take_append_cons_drop,if_pos this];simp
theorem pO{l:List UInt8}:(bI l).length=l.length:=by simp[bI]
theorem aL7:bI []=[]:=rfl
theorem aRp{e g:Nat}:O.arr [] e g=O.arr (ints []) e g:=rfl
theorem YE{l:List UInt8}{v:UInt8}:bI l++[.int .u8 (v.toNat:Int)]=bI (l++[v]):=by simp[bI]
theorem LW{l:List UInt8}{k:Nat}(h:l.length<=k):(bI l).take k=bI l:=Bz (by rw[pO];exact h)
theorem XX{l:List UInt8}{k:Nat}(h:k<l.length):(((bI l).drop k).map A.d).head? =some (.d (.int .u8 ((l.getD k 0).toNat:Int))):=by
 rw[List.head?_map,Da,bI,Bd,Aa,Ae h];rfl
theorem aLQ{l:List UInt8}{k:Nat}{v:UInt8}(h:k<l.length):bH (bI l) k [.int .u8 (v.toNat:Int)]=bI (l.set k v):=xW _ l k v h
theorem ZM{l:List Int}{k:Nat}{v:Int}(h:k<l.length):bH (ints l) k [.int .i64 v]=ints (l.set k v):=xW _ l k v h
theorem aEF:∀l:List UInt8,ID (bI l)=some l
 | []=>rfl
 |b::l=>by
  have ih:=aEF l;unfold bI at ih|-;simp only[Ai,ID,ih,Ax];simp
theorem getElem?_zero_cons {o:O} {h:H}:(o::h)[0]? =some o:=rfl
theorem AP{l:List UInt8}{g len:Nat}{h:H}(hl:len=l.length):fC env.P (.arr (bI l) 1 g::h) 22 9 (.sl 0 g 0 len)=some (.d (.str l),.arr (bI l) 1 g::h):=by
 subst hl;simp only[fC,aKA,aI1,WS,cB,getElem?_zero_cons,pO,or_true,Cc,Ag,Ab,and_self,if_true,Bc,LW (Ab _),aEF,Ax]
theorem aJa{α:Type}(x:α):∀n:Nat,(List.replicate n [x]).flatten=List.replicate n x
 |0=>rfl
 |n+1=>by simp[List.replicate_succ,aJa x n]
theorem K7{n:Int}{h:H}(h0:0<=n)(h1:n<=4294967296):iG env.P h 80 n n=some (.sl h.length 0 0 n.toNat,h++[.arr (ints (List.replicate n.toNat 0)) 1 0]):=by
 have hm:n<=(bK:Nat):=by unfold bK;omega
 simp only[iG,aLc,aU8,aX,y5,Ax,aU5,h0,hm,V7,Int.le_refl,and_self,if_true,aJa,ints,List.map_replicate]
theorem aCu{i:Int}{s:List UInt8}(h0:0<=i)(h:i<s.length):N1 env.P 9 (.d (.str s)) i=some (.d (.int .u8 ((s.getD i.toNat 0).toNat))):=by
 have hk:i.toNat<s.length:=by omega
 simp only[N1,aI1,if_pos h0,Aa,Ae hk,Ax,Bb]
theorem take_set{α:Type}{l:List α}{k:Nat}{v:α}(h:k<l.length):(l.set k v).take (k+1)=l.take k++[v]:=by
 rw[List.take_set,List.take_add_one,Ae h];simp only[Option.toList_some];have hl:(l.take k).length=k:=by rw[Bt];omega
 rw[Dp _ _ (by omega),hl,Br];rfl
theorem aUe{o:O}{h:H}{id:Nat}(hs:h[id]? =some o):h.set id o=h:=by
 apply Cm;intro j;rw[Ch];obtain⟨hl,he⟩:=As.1 hs
 by_cases e:id=j
 ·subst e;simp[hl,he]
 ·simp[e]
theorem s6{h:H}{id gen off esz:Nat}{t:TypeId}{cs:List D}{d:D}(hid:h[id]? =some (.arr cs esz gen))(c1:env.P.cellsOf t=1)(hi:(env.P.info? t).isSome=true)(hd:bV (.d d)=true)(hk:off<cs.length):
  j5 env.P h t (.ptr id gen off) (.d d)=some (h.set id (.arr (bH cs off [d]) esz gen)):=by
 have hc:(aX (.d d)).length=env.P.cellsOf t/\(env.P.info? t).isSome=true/\(aX (.d d)).all bV=true:=⟨by rw[c1];rfl,hi,by simp[aX,hd]⟩
 have hf:frzL h (aX (.d d))=some ([d],h):=rfl;unfold j5;rw[if_pos hc];simp only[hid,hf,c1,true_and];rw[if_pos (by omega)]
theorem aTG:(env.P.info? 5).isSome=true:=kr
theorem aSP:(env.P.info? 3).isSome=true:=kr
theorem aO6:(env.P.info? 4).isSome=true:=kr
theorem aIb:env.P.cellsOf 4=1:=kr
theorem aRn{h:H}{g e k:Nat}{l:List UInt8}{b:UInt8}(hk:k<l.length):j5 env.P (.arr (bI l) e g::h) 5 (.ptr 0 g k) (.d (.int .u8 (b.toNat:Int)))=some (.arr (bI (l.set k b)) e g::h):=by
 rw[s6 (id:=0) rfl aKW aTG rfl (by rw[pO];exact hk),aLQ hk];rfl
theorem WR{h:H}{g e k:Nat}{l:List Int}{b:Int}(hk:k<l.length):j5 env.P (.arr (ints l) e g::h) 3 (.ptr 0 g k) (nI b)=some (.arr (ints (l.set k b)) e g::h):=by
 rw[s6 (id:=0) rfl V7 aSP rfl (by rw[hJ];exact hk),ZM hk];rfl
theorem aKo{o:O}{h:H}{g e k:Nat}{l:List Int}{b:Int}(hk:k<l.length):j5 env.P (o::.arr (ints l) e g::h) 3 (.ptr 1 g k) (nI b)=some (o::.arr (ints (l.set k b)) e g::h):=by
 rw[s6 (id:=1) rfl V7 aSP rfl (by rw[hJ];exact hk),ZM hk];rfl
section
variable{t:TypeId}{h:H}{a b:List UInt8}
theorem aCi:bX env .eql t h (.d (.str a)) (.d (.str b))=some (.d (.bool (a==b)),h):=by simp[bX,aBin]
theorem aBn:bX env .neq t h (.d (.str a)) (.d (.str b))=some (.d (.bool (!(a==b))),h):=by simp[bX,aBin]
theorem aBN(hl:a.length+b.length<=4294967296):bX env .add t h (.d (.str a)) (.d (.str b))=some (.d (.str (a++b)),h):=by
 have:a.length+b.length<=bK:=hl;simp[bX,aBin,this]
theorem aBo:bX env .lss t h (.d (.str a)) (.d (.str b))=some (.d (.bool (Op.bytesLess a b)),h):=by simp[bX,aBin]
end
theorem toNat_lt(b:UInt8):b.toNat<256:=b.toNat_lt
theorem aIE{b:UInt8}:IntKind.i64.wrap (b.toNat:Int)=b.toNat:=zF (by omega) (by have:=toNat_lt b;omega)
theorem IM{l:List UInt8}{n:Nat}{lo hi:Option Int}{h:H}(hn:n=l.length)(h0:0<=lo.getD 0)(h1:lo.getD 0<=hi.getD l.length)(h2:hi.getD l.length<=l.length):iN env.P h 22 (.d (.ivs n (bI l))) lo hi=some (.d (.ivs ((l.drop (lo.getD 0).toNat).take ((hi.getD l.length).toNat-(lo.getD 0).toNat)).length (bI ((l.drop (lo.getD 0).toNat).take ((hi.getD l.length).toNat-(lo.getD 0).toNat))))):=by
 subst hn;simp only[iN,aKA,aKW,pV,h0,h1,h2,and_self,if_true,Cc,Ax,Nat.zero_lt_one,bI,List.map_take,List.map_drop]
 congr 3
 rw[Bt,Cg];omega
theorem XT{l:List UInt8}{n:Nat}{u:Int}{h:H}(hn:n=l.length)(h0:0<=u)(h1:u<=l.length):iN env.P h 22 (.d (.ivs n (bI l))) none (some u)=some (.d (.ivs (l.take u.toNat).length (bI (l.take u.toNat)))):=by
 rw[IM hn (by simp) (by simpa using h0) (by simpa using h1)];simp
theorem RC{l:List UInt8}{n:Nat}{u:Int}{h:H}(hn:n=l.length)(h0:0<=u)(h1:u<=l.length):iN env.P h 22 (.d (.ivs n (bI l))) (some u) none=some (.d (.ivs (l.drop u.toNat).length (bI (l.drop u.toNat)))):=by
 rw[IM hn (by simpa using h0) (by simpa using h1) (by simp)];have:(List.take (l.length-u.toNat) (l.drop u.toNat))=l.drop u.toNat:=Bz (by simp);simp[this]
theorem aDa{h:H}{a b:Bool}:bX env .eql 4 h (.d (.bool a)) (.d (.bool b))=some (.d (.bool (a==b)),h):=by simp[bX,aBin,aNil,aPD,eqlA]
theorem aBg{h:H}{a b:Bool}:bX env .neq 4 h (.d (.bool a)) (.d (.bool b))=some (.d (.bool (!(a==b))),h):=by simp[bX,aBin,aNil,aPD,eqlA]
theorem LB:type_of% (AI @pO (AI @hJ (AI @XX (AI @U0 (AI @LW (AI @eS (AI @YE (AI @aEw (AI @aCu (AI @aCi (AI @aBn (AI @aBN (AI @aBo (AI @aIE (AI @aDa (AI @aBg @Cw)))))))))))))))):=
 ⟨@pO,@hJ,@XX,@U0,@LW,@eS,@YE,@aEw,@aCu,@aCi,@aBn,@aBN,@aBo,@aIE,@aDa,@aBg,@Cw⟩
theorem CV:type_of% (AI @XT @RC):=
 ⟨@XT,@RC⟩
theorem DN:type_of% (AI @WD (AI @aCr (AI @WDD (AI @aCZ @CV)))):=
 ⟨@WD,@aCr,@WDD,@aCZ,@CV⟩
theorem Dz{p:Prop}(h:p:=by first|assumption|exact⟨by kernel_rfl⟩|omega|(simp only[GT,LN]<;>omega)):p:=h
theorem UP:type_of% (AI @SLM (AI @WK (AI @UN (AI @TY (AI @LB (AI @MD @zF)))))):=
 ⟨@SLM,@WK,@UN,@TY,@LB,@MD,@zF⟩
end
end Ev
end Go.Proofs.YthlkcebdfbjdoaaGreat
