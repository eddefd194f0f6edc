/-
  What the types of the program are.
-/
import Derived.Test.YtejmccgfigiadaaGreatTy
import Derived.IntWalk
set_option linter.unusedSimpArgs false
namespace Go.Proofs.YtejmccgfigiadaaGreat
namespace Ev
theorem wC {n:Int} (h1:-9223372036854775808 ≤ n) (h2:n ≤ 9223372036854775807):IntKind.i64.wrap n = n:=IntWalk.i64_in n ⟨h1,h2⟩
theorem aNF {n:Int} (h1:0 ≤ n) (h2:n ≤ 18446744073709551615):IntKind.u64.wrap n = n:=IntWalk.u64_in n ⟨h1,h2⟩
theorem aN0 {n:Int} (h1:0 ≤ n) (h2:n ≤ 255):IntKind.u8.wrap n = n:=IntWalk.u8_in n ⟨h1,h2⟩
theorem aIa:env.P.underlying 3 = some (.int .i64):=kr
theorem aNn:env.P.underlying 82 = some (.int .u64):=kr
theorem QY:env.P.underlying 5 = some (.int .u8):=kr
theorem aJd:env.P.underlying 4 = some .bool:=kr
theorem aE7:env.P.underlying 9 = some .string:=kr
theorem aNN:env.P.underlying 90 = some (.slice 3):=kr
theorem aGT:env.P.underlying 41 = some (.slice 5):=kr
theorem QQ:env.P.cellsOf 3 = 1:=kr
theorem aGx:env.P.cellsOf 5 = 1:=kr
theorem aNX:eW env.P 3 = true:=kr
theorem aN1:dM env.P 3 = some (nI 0):=kr
theorem aCB {h:H} {n:Int} {K:IntKind}:eL env.P h 3 82 (.d (.int K n)) = some (.d (.int .u64 (IntKind.u64.wrap n)),h):=uD aIa aNn
theorem aAz {h:H} {n:Int} {K:IntKind}:eL env.P h 3 5 (.d (.int K n)) = some (.d (.int .u8 (IntKind.u8.wrap n)),h):=uD aIa QY
theorem Z9 {h:H} {n:Int} {K:IntKind}:eL env.P h 5 3 (.d (.int K n)) = some (nI (IntKind.i64.wrap n),h):=uD QY aIa
def ints (l:List Int):List D:=l.map (.int .i64)
def bI (l:List UInt8):List D:=l.map fun b => .int .u8 b.toNat
abbrev rdO (c:List UInt8) (p:Int):O:=.box [.d (.ivs c.length (bI c)),nI p]
abbrev Dw (m f:Nat) (xs:List A) (r:A) (c:List UInt8) (p q:Int):Prop:=∀ (R:Type) (L n:Nat) (hq:H) (k:KA R),m ≤ n → 2 ^ 60 ≤ L → aY env (aA env L n) (rdO c p :: hq) f (.ptr 0 0 0 :: xs) k = k r (rdO c q :: hq)
abbrev KC (d L:Nat) (f:Nat) (xs:List A) (r:A):Prop:=∀ (R:Type) (n:Nat) (hq:H) (k:KA R),d ≤ n → aY env (aA env L n) hq f xs k = k r hq
theorem ks {d L:Nat} {f:Nat} {xs:List A} {r:A} (h2:∀ {n:Nat},d ≤ n → aA env L n f xs [] = some (r,[])) (h1:xs.all oR = true:=by rfl) (h3:idsA r = []:=by rfl) (h4:gK r = true ∨ ((env.hint f).mode == 1 || (env.hint f).mode == 3) = false:=by first | exact .inl rfl | exact .inr rfl):KC d L f xs r:=fun _ _ _ _ hn => cP h1 (h2 hn) h3 h4
abbrev KT (d L:Nat) (f:Nat) (xs:List A) (r:A):Prop:=∀ (R:Type) (n:Nat) (k:A → Option R),d ≤ n → sY (aA env L n) f xs k = k r
theorem kt {d L:Nat} {f:Nat} {xs:List A} {r:A} (h2:∀ {n:Nat},d ≤ n → aA env L n f xs [] = some (r,[])) (h:gK r = true:=by rfl):KT d L f xs r:=fun _ _ _ hn => kZ (h2 hn) h
abbrev KV (L:Nat) (f:Nat) (xs:List A):Prop:=∀ (R:Type) (n:Nat) (hq:H) (k:KA R),aY env (aA env L n) hq f xs k = match box (QM hq xs) with
 | .mk (some fs) => sY (aA env L n) f fs fun r => k r hq
 | _ => none
theorem aHg:cZ env.P 90 = some 3:=by simp only [cZ,aNN]
theorem gB {l:List Int}:(ints l).length = l.length:=by simp [ints]
theorem aBE {l:List Int} {v:Int}:ints l ++ [.int .i64 v] = ints (l ++ [v]):=by simp [ints]
theorem m2:ints [] = []:=rfl
theorem eB {l:List Int} {k:Nat} (h:l.length ≤ k):(ints l).take k = ints l:=List.take_of_length_le (by rw [gB]; exact h)
theorem OW {l:List Int} {k:Nat} (h:k < l.length):(((ints l).drop k).map A.d).head? = some (nI (l.getD k 0)):=by
 rw [List.head?_map,List.head?_drop,ints,List.getElem?_map,List.getD_eq_getElem?_getD,List.getElem?_eq_getElem h]
 rfl
section
theorem vY {α:Type} (f:α → D) (l:List α) (k:Nat) (v:α) (h:k < l.length):bG (l.map f) k [f v] = (l.set k v).map f:=by
 unfold bG
 rw [List.map_set]
 have:k < (l.map f).length:=by simpa using h
 generalize l.map f = m at *
 rw [List.set_eq_take_append_cons_drop,if_pos this]
 simp
theorem nQ {l:List UInt8}:(bI l).length = l.length:=by simp [bI]
theorem aHw:bI [] = []:=rfl
theorem aKR {e g:Nat}:O.arr [] e g = O.arr (ints []) e g:=rfl
theorem RK {l:List UInt8} {v:UInt8}:bI l ++ [.int .u8 (v.toNat:Int)] = bI (l ++ [v]):=by simp [bI]
theorem GO {l:List UInt8} {k:Nat} (h:l.length ≤ k):(bI l).take k = bI l:=List.take_of_length_le (by rw [nQ]; exact h)
theorem S7 {l:List UInt8} {k:Nat} (h:k < l.length):(((bI l).drop k).map A.d).head? = some (.d (.int .u8 ((l.getD k 0).toNat:Int))):=by
 rw [List.head?_map,List.head?_drop,bI,List.getElem?_map,List.getD_eq_getElem?_getD,List.getElem?_eq_getElem h]
 rfl
theorem aHx {l:List UInt8} {k:Nat} {v:UInt8} (h:k < l.length):bG (bI l) k [.int .u8 (v.toNat:Int)] = bI (l.set k v):=vY _ l k v h
theorem TI {l:List Int} {k:Nat} {v:Int} (h:k < l.length):bG (ints l) k [.int .i64 v] = ints (l.set k v):=vY _ l k v h
theorem aBX:∀ l:List UInt8,BZ (bI l) = some l
 | [] => rfl
 | b :: l => by
  have ih:=aBX l
  unfold bI at ih ⊢
  simp only [List.map_cons,BZ,ih,Option.map_some]
  simp
theorem getElem?_zero_cons {o:O} {h:H}:(o :: h)[0]? = some o:=rfl
theorem IK {l:List UInt8} {g len:Nat} {h:H} (hl:len = l.length):eL env.P (.arr (bI l) 1 g :: h) 41 9 (.sl 0 g 0 len) = some (.d (.str l),.arr (bI l) 1 g :: h):=by
 subst hl
 simp only [eL,aGT,aE7,QY,c7,getElem?_zero_cons,nQ,or_true,Nat.mul_one,Nat.zero_add,Nat.le_refl,and_self,if_true,List.drop_zero,GO (Nat.le_refl _),aBX,Option.map_some]
theorem aDy {α:Type} (x:α):∀ n:Nat,(List.replicate n [x]).flatten = List.replicate n x
 | 0 => rfl
 | n + 1 => by simp [List.replicate_succ,aDy x n]
theorem FJ {n:Int} {h:H} (h0:0 ≤ n) (h1:n ≤ 4294967296):gC env.P h 90 n n = some (.sl h.length 0 0 n.toNat,h ++ [.arr (ints (List.replicate n.toNat 0)) 1 0]):=by
 have hm:n ≤ (bK:Nat):=by unfold bK; omega
 simp only [gC,aHg,aN1,aX,vN,Option.map_some,aNX,h0,hm,QQ,Int.le_refl,and_self,if_true,aDy,ints,List.map_replicate]
theorem WM {i:Int} {s:List UInt8} (h0:0 ≤ i) (h:i < s.length):H6 env.P 9 (.d (.str s)) i = some (.d (.int .u8 ((s.getD i.toNat 0).toNat))):=by
 have hk:i.toNat < s.length:=by omega
 simp only [H6,aE7,if_pos h0,List.getD_eq_getElem?_getD,List.getElem?_eq_getElem hk,Option.map_some,Option.getD_some]
theorem take_set {α:Type} {l:List α} {k:Nat} {v:α} (h:k < l.length):(l.set k v).take (k + 1) = l.take k ++ [v]:=by
 rw [List.take_set,List.take_add_one,List.getElem?_eq_getElem h]
 simp only [Option.toList_some]
 have hl:(l.take k).length = k:=by rw [List.length_take]; omega
 rw [List.set_append_right _ _ (by omega),hl,Nat.sub_self]
 rfl
theorem aMB {o:O} {h:H} {id:Nat} (hs:h[id]? = some o):h.set id o = h:=by
 apply List.ext_getElem?
 intro j
 rw [List.getElem?_set]
 obtain ⟨hl,he⟩:=List.getElem?_eq_some_iff.1 hs
 by_cases e:id = j
 ·subst e; simp [hl,he]
 ·simp [e]
theorem qI {h:H} {id gen off esz:Nat} {t:TypeId} {cs:List D} {d:D} (hid:h[id]? = some (.arr cs esz gen)) (c1:env.P.cellsOf t = 1) (hi:(env.P.info? t).isSome = true) (hd:dX (.d d) = true) (hk:off < cs.length) :
  iY env.P h t (.ptr id gen off) (.d d) = some (h.set id (.arr (bG cs off [d]) esz gen)):=by
 have hc:(aX (.d d)).length = env.P.cellsOf t ∧ (env.P.info? t).isSome = true ∧ (aX (.d d)).all dX = true:=⟨by rw [c1]; rfl,hi,by simp [aX,hd]⟩
 have hf:frzL h (aX (.d d)) = some ([d],h):=rfl
 unfold iY
 rw [if_pos hc]
 simp only [hid,hf,c1,true_and]
 rw [if_pos (by omega)]
theorem aM8:(env.P.info? 5).isSome = true:=kr
theorem aL3:(env.P.info? 3).isSome = true:=kr
theorem aIU:(env.P.info? 4).isSome = true:=kr
theorem aEc:env.P.cellsOf 4 = 1:=kr
theorem aKP {h:H} {g e k:Nat} {l:List UInt8} {b:UInt8} (hk:k < l.length):iY env.P (.arr (bI l) e g :: h) 5 (.ptr 0 g k) (.d (.int .u8 (b.toNat:Int))) = some (.arr (bI (l.set k b)) e g :: h):=by
 rw [qI (id:=0) rfl aGx aM8 rfl (by rw [nQ]; exact hk),aHx hk]
 rfl
theorem QR {h:H} {g e k:Nat} {l:List Int} {b:Int} (hk:k < l.length):iY env.P (.arr (ints l) e g :: h) 3 (.ptr 0 g k) (nI b) = some (.arr (ints (l.set k b)) e g :: h):=by
 rw [qI (id:=0) rfl QQ aL3 rfl (by rw [gB]; exact hk),TI hk]
 rfl
theorem aGw {o:O} {h:H} {g e k:Nat} {l:List Int} {b:Int} (hk:k < l.length):iY env.P (o :: .arr (ints l) e g :: h) 3 (.ptr 1 g k) (nI b) = some (o :: .arr (ints (l.set k b)) e g :: h):=by
 rw [qI (id:=1) rfl QQ aL3 rfl (by rw [gB]; exact hk),TI hk]
 rfl
section
variable {t:TypeId} {h:H} {a b:List UInt8}
theorem WO:b6 env .eql t h (.d (.str a)) (.d (.str b)) = some (.d (.bool (a == b)),h):=by simp [b6,aBin]
theorem WI:b6 env .neq t h (.d (.str a)) (.d (.str b)) = some (.d (.bool (!(a == b))),h):=by simp [b6,aBin]
theorem WQ (hl:a.length + b.length ≤ 4294967296):b6 env .add t h (.d (.str a)) (.d (.str b)) = some (.d (.str (a ++ b)),h):=by
 have:a.length + b.length ≤ bK:=hl
 simp [b6,aBin,this]
theorem VV:b6 env .lss t h (.d (.str a)) (.d (.str b)) = some (.d (.bool (Op.bytesLess a b)),h):=by simp [b6,aBin]
end
theorem toNat_lt (b:UInt8):b.toNat < 256:=b.toNat_lt
theorem aEg {b:UInt8}:IntKind.i64.wrap (b.toNat:Int) = b.toNat:=wC (by omega) (by have:=toNat_lt b; omega)
theorem CS {l:List UInt8} {n:Nat} {lo hi:Option Int} {h:H} (hn:n = l.length) (h0:0 ≤ lo.getD 0) (h1:lo.getD 0 ≤ hi.getD l.length) (h2:hi.getD l.length ≤ l.length):gM env.P h 41 (.d (.ivs n (bI l))) lo hi = some (.d (.ivs ((l.drop (lo.getD 0).toNat).take ((hi.getD l.length).toNat - (lo.getD 0).toNat)).length (bI ((l.drop (lo.getD 0).toNat).take ((hi.getD l.length).toNat - (lo.getD 0).toNat))))):=by
 subst hn
 simp only [gM,aGT,aGx,n5,h0,h1,h2,and_self,if_true,Nat.mul_one,Option.map_some,Nat.zero_lt_one,bI,List.map_take,List.map_drop]
 congr 3
 rw [List.length_take,List.length_drop]
 omega
theorem RT {l:List UInt8} {n:Nat} {u:Int} {h:H} (hn:n = l.length) (h0:0 ≤ u) (h1:u ≤ l.length):gM env.P h 41 (.d (.ivs n (bI l))) none (some u) = some (.d (.ivs (l.take u.toNat).length (bI (l.take u.toNat)))):=by
 rw [CS hn (by simp) (by simpa using h0) (by simpa using h1)]; simp
theorem KW {l:List UInt8} {n:Nat} {u:Int} {h:H} (hn:n = l.length) (h0:0 ≤ u) (h1:u ≤ l.length):gM env.P h 41 (.d (.ivs n (bI l))) (some u) none = some (.d (.ivs (l.drop u.toNat).length (bI (l.drop u.toNat)))):=by
 rw [CS hn (by simpa using h0) (by simpa using h1) (by simp)]
 have:(List.take (l.length - u.toNat) (l.drop u.toNat)) = l.drop u.toNat:=List.take_of_length_le (by simp)
 simp [this]
theorem Y7 {h:H} {a b:Bool}:b6 env .eql 4 h (.d (.bool a)) (.d (.bool b)) = some (.d (.bool (a == b)),h):=by simp [b6,aBin,aNil,aJd,eqlA]
theorem WG {h:H} {a b:Bool}:b6 env .neq 4 h (.d (.bool a)) (.d (.bool b)) = some (.d (.bool (!(a == b))),h):=by simp [b6,aBin,aNil,aJd,eqlA]
theorem LB:type_of% (AI @nQ (AI @gB (AI @S7 (AI @OW (AI @GO (AI @eB (AI @RK (AI @aBE (AI @WM (AI @WO (AI @WI (AI @WQ (AI @VV (AI @aEg (AI @Y7 (AI @WG @Int.toNat_natCast)))))))))))))))) :=
 ⟨@nQ,@gB,@S7,@OW,@GO,@eB,@RK,@aBE,@WM,@WO,@WI,@WQ,@VV,@aEg,@Y7,@WG,@Int.toNat_natCast⟩
theorem CV:type_of% (AI @RT @KW) :=
 ⟨@RT,@KW⟩
theorem DN:type_of% (AI @WD (AI @Y0 (AI @WDD (AI @WP @CV)))) :=
 ⟨@WD,@Y0,@WDD,@WP,@CV⟩
theorem Dz {p:Prop} (h:p:=by first | assumption | exact ⟨by kernel_rfl⟩ | omega | (simp only [GT,LN] <;> omega)):p:=h
theorem UP:type_of% (AI @SLM (AI @WK (AI @UN (AI @TY (AI @LB (AI @MD @wC)))))) :=
 ⟨@SLM,@WK,@UN,@TY,@LB,@MD,@wC⟩
end
end Ev
end Go.Proofs.YtejmccgfigiadaaGreat
