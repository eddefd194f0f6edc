/-
  What the types of the program are.
-/
import Derived.Test.YtejmccgfigiadaaGreatTy
import Derived.IntWalk
set_option linter.unusedSimpArgs false
namespace Go.Proofs.YtejmccgfigiadaaGreat
namespace Ev
theorem NZ {n:Int} (h1:-9223372036854775808 ≤ n) (h2:n ≤ 9223372036854775807):IntKind.i64.wrap n = n:=IntWalk.i64_in n ⟨h1,h2⟩
theorem aTf {n:Int} (h1:0 ≤ n) (h2:n ≤ 18446744073709551615):IntKind.u64.wrap n = n:=IntWalk.u64_in n ⟨h1,h2⟩
theorem a0U {n:Int} (h1:0 ≤ n) (h2:n ≤ 255):IntKind.u8.wrap n = n:=IntWalk.u8_in n ⟨h1,h2⟩
theorem VE:env.P.underlying 3 = some (.int .i64):=kr
theorem a0i:env.P.underlying 82 = some (.int .u64):=kr
theorem aEL:env.P.underlying 5 = some (.int .u8):=kr
theorem aUE:env.P.underlying 4 = some .bool:=kr
theorem gG:env.P.underlying 9 = some .string:=kr
theorem dP:env.P.underlying 90 = some (.slice 3):=kr
theorem Y5:env.P.underlying 41 = some (.slice 5):=kr
theorem jK:env.P.cellsOf 3 = 1:=kr
theorem aEJ:env.P.cellsOf 5 = 1:=kr
theorem a0S:bU env.P 3 = true:=kr
theorem a0a:bU env.P 5 = true:=kr
theorem a0X:bW env.P 3 = some (nI 0):=kr
theorem aZ0:bW env.P 5 = some (.d (.int .u8 0)):=kr
theorem aCh {h:H} {n:Int} {K:IntKind}:eP env.P h 3 82 (.d (.int K n)) = some (.d (.int .u64 (IntKind.u64.wrap n)),h):=lZ VE a0i
theorem aKy {h:H} {n:Int} {K:IntKind}:eP env.P h 3 5 (.d (.int K n)) = some (.d (.int .u8 (IntKind.u8.wrap n)),h):=lZ VE aEL
theorem Y0 {h:H} {n:Int} {K:IntKind}:eP env.P h 5 3 (.d (.int K n)) = some (nI (IntKind.i64.wrap n),h):=lZ aEL VE
def ints (l:List Int):List D:=l.map (.int .i64)
abbrev vI (l:List Int):A:=.d (.ivs l.length (ints l))
def c8 (l:List UInt8):List D:=l.map fun b => .int .u8 b.toNat
abbrev vY (l:List UInt8):A:=.d (.ivs l.length (c8 l))
abbrev rdO (c:List UInt8) (p:Int):O:=.box [.d (.ivs c.length (c8 c)),nI p]
abbrev Dw (m f:Nat) (xs:List A) (r:A) (c:List UInt8) (p q:Int):Prop:=∀ (R:Type) (L n:Nat) (hq:H) (k:KA R),m ≤ n → 2 ^ 60 ≤ L → bC env (aA env L n) (rdO c p :: hq) f (.ptr 0 0 0 :: xs) k = k r (rdO c q :: hq)
abbrev KC (d L:Nat) (f:Nat) (xs:List A) (r:A):Prop:=∀ (R:Type) (n:Nat) (hq:H) (k:KA R),d ≤ n → bC env (aA env L n) hq f xs k = k r hq
theorem ks {d L:Nat} {f:Nat} {xs:List A} {r:A} (h2:∀ {n:Nat},d ≤ n → aA env L n f xs [] = some (r,[])) (h1:xs.all wK = true:=by rfl) (h3:idsA r = []:=by rfl) (h4:m4 r = true ∨ ((env.hint f).mode == 1 || (env.hint f).mode == 3) = false:=by first | exact .inl rfl | exact .inr rfl):KC d L f xs r:=fun _ _ _ _ hn => eR h1 (h2 hn) h3 h4
abbrev KT (d L:Nat) (f:Nat) (xs:List A) (r:A):Prop:=∀ (R:Type) (n:Nat) (k:A → Option R),d ≤ n → tN (aA env L n) f xs k = k r
theorem kt {d L:Nat} {f:Nat} {xs:List A} {r:A} (h2:∀ {n:Nat},d ≤ n → aA env L n f xs [] = some (r,[])) (h:m4 r = true:=by rfl):KT d L f xs r:=fun _ _ _ hn => mN (h2 hn) h
abbrev KV (L:Nat) (f:Nat) (xs:List A):Prop:=∀ (R:Type) (n:Nat) (hq:H) (k:KA R),bC env (aA env L n) hq f xs k = match box (WL hq xs) with
 | .mk (some fs) => tN (aA env L n) f fs fun r => k r hq
 | _ => none
theorem aSh:bP env.P 90 = some 3:=by simp only [bP,dP]
theorem aPu:bP env.P 41 = some 5:=by simp only [bP,Y5]
theorem dT {l:List Int}:(ints l).length = l.length:=by simp [ints]
theorem hZ {l:List Int} {v:Int}:ints l ++ [.int .i64 v] = ints (l ++ [v]):=by simp [ints]
theorem EE:ints [] = []:=rfl
theorem cG {l:List Int} {k:Nat} (h:l.length ≤ k):(ints l).take k = ints l:=List.take_of_length_le (by rw [dT]; exact h)
theorem aD2 {l:List Int} {k:Nat} (h:k < l.length):(((ints l).drop k).map A.d).head? = some (nI (l.getD k 0)):=by
 rw [List.head?_map,List.head?_drop,ints,List.getElem?_map,List.getD_eq_getElem?_getD,List.getElem?_eq_getElem h]
 rfl
section
theorem G6 {α:Type} (f:α → D) (l:List α) (k:Nat) (v:α) (h:k < l.length):eS (l.map f) k [f v] = (l.set k v).map f:=by
 unfold eS
 rw [List.map_set]
 have:k < (l.map f).length:=by simpa using h
 generalize l.map f = m at *
 rw [List.set_eq_take_append_cons_drop,if_pos this]
 simp
theorem sA {l:List UInt8}:(c8 l).length = l.length:=by simp [c8]
theorem aQ9:c8 [] = []:=rfl
theorem aW1 {e g:Nat}:O.arr [] e g = O.arr (ints []) e g:=rfl
theorem XP {l:List UInt8} {v:UInt8}:c8 l ++ [.int .u8 (v.toNat:Int)] = c8 (l ++ [v]):=by simp [c8]
theorem L4 {l:List UInt8} {k:Nat} (h:l.length ≤ k):(c8 l).take k = c8 l:=List.take_of_length_le (by rw [sA]; exact h)
theorem XM {l:List UInt8} {k:Nat} (h:k < l.length):(((c8 l).drop k).map A.d).head? = some (.d (.int .u8 ((l.getD k 0).toNat:Int))):=by
 rw [List.head?_map,List.head?_drop,c8,List.getElem?_map,List.getD_eq_getElem?_getD,List.getElem?_eq_getElem h]
 rfl
theorem aRm {l:List UInt8} {k:Nat} {v:UInt8} (h:k < l.length):eS (c8 l) k [.int .u8 (v.toNat:Int)] = c8 (l.set k v):=G6 _ l k v h
theorem aGA {l:List Int} {k:Nat} {v:Int} (h:k < l.length):eS (ints l) k [.int .i64 v] = ints (l.set k v):=G6 _ l k v h
theorem aLd:∀ l:List UInt8,RT (c8 l) = some l
 | [] => rfl
 | b :: l => by
  have ih:=aLd l
  unfold c8 at ih ⊢
  simp only [List.map_cons,RT,ih,Option.map_some]
  simp
theorem getElem?_zero_cons {o:O} {h:H}:(o :: h)[0]? = some o:=rfl
theorem ZB {l:List UInt8} {g len:Nat} {h:H} (hl:len = l.length):eP env.P (.arr (c8 l) 1 g :: h) 41 9 (.sl 0 g 0 len) = some (.d (.str l),.arr (c8 l) 1 g :: h):=by
 subst hl
 simp only [eP,Y5,gG,aEL,eA,getElem?_zero_cons,sA,true_and,or_true,Nat.mul_one,Nat.zero_add,Nat.le_refl,and_self,if_true,List.drop_zero,L4 (Nat.le_refl _),aLd,Option.map_some]
theorem aAj {α:Type} (x:α):∀ n:Nat,(List.replicate n [x]).flatten = List.replicate n x
 | 0 => rfl
 | n + 1 => by simp [List.replicate_succ,aAj x n]
theorem M3 {n:Int} {h:H} (h0:0 ≤ n) (h1:n ≤ 4294967296):kM env.P h 90 n n = some (.sl h.length 0 0 n.toNat,h ++ [.arr (ints (List.replicate n.toNat 0)) 1 0]):=by
 have hm:n ≤ (cA:Nat):=by unfold cA; omega
 simp only [kM,aSh,a0X,a6,AD,Option.map_some,a0S,h0,hm,jK,Int.le_refl,and_self,if_true,aAj,ints,List.map_replicate]
theorem P3 {i:Int} {s:List UInt8} (h0:0 ≤ i) (h:i < s.length):aAc env.P 9 (.d (.str s)) i = some (.d (.int .u8 ((s.getD i.toNat 0).toNat))):=by
 have hk:i.toNat < s.length:=by omega
 simp only [aAc,gG,if_pos h0,List.getD_eq_getElem?_getD,List.getElem?_eq_getElem hk,Option.map_some,Option.getD_some]
theorem take_set {α:Type} {l:List α} {k:Nat} {v:α} (h:k < l.length):(l.set k v).take (k + 1) = l.take k ++ [v]:=by
 rw [List.take_set,List.take_add_one,List.getElem?_eq_getElem h]
 simp only [Option.toList_some]
 have hl:(l.take k).length = k:=by rw [List.length_take]; omega
 rw [List.set_append_right _ _ (by omega),hl,Nat.sub_self]
 rfl
theorem wY {h:H} {id gen off esz:Nat} {t:TypeId} {cs:List D} {d:D} (hid:h[id]? = some (.arr cs esz gen)) (c1:env.P.cellsOf t = 1) (hi:(env.P.info? t).isSome = true) (hd:c9 (.d d) = true) (hk:off < cs.length) :
  oZ env.P h t (.ptr id gen off) (.d d) = some (h.set id (.arr (eS cs off [d]) esz gen)):=by
 have hc:(a6 (.d d)).length = env.P.cellsOf t ∧ (env.P.info? t).isSome = true ∧ (a6 (.d d)).all c9 = true:=⟨by rw [c1]; rfl,hi,by simp [a6,hd]⟩
 have hf:frzL h (a6 (.d d)) = some ([d],h):=rfl
 unfold oZ
 rw [if_pos hc]
 simp only [hid,hf,c1,true_and]
 rw [if_pos (by omega)]
theorem aZz:(env.P.info? 5).isSome = true:=kr
theorem aYe:(env.P.info? 3).isSome = true:=kr
theorem aOd:(env.P.info? 4).isSome = true:=kr
theorem NY:env.P.cellsOf 4 = 1:=kr
theorem aXI {h:H} {g e k:Nat} {l:List UInt8} {b:UInt8} (hk:k < l.length):oZ env.P (.arr (c8 l) e g :: h) 5 (.ptr 0 g k) (.d (.int .u8 (b.toNat:Int))) = some (.arr (c8 (l.set k b)) e g :: h):=by
 rw [wY (id:=0) rfl aEJ aZz rfl (by rw [sA]; exact hk),aRm hk]
 rfl
theorem K7 {h:H} {g e k:Nat} {l:List Int} {b:Int} (hk:k < l.length):oZ env.P (.arr (ints l) e g :: h) 3 (.ptr 0 g k) (nI b) = some (.arr (ints (l.set k b)) e g :: h):=by
 rw [wY (id:=0) rfl jK aYe rfl (by rw [dT]; exact hk),aGA hk]
 rfl
theorem aQc {o:O} {h:H} {g e k:Nat} {l:List Int} {b:Int} (hk:k < l.length):oZ env.P (o :: .arr (ints l) e g :: h) 3 (.ptr 1 g k) (nI b) = some (o :: .arr (ints (l.set k b)) e g :: h):=by
 rw [wY (id:=1) rfl jK aYe rfl (by rw [dT]; exact hk),aGA hk]
 rfl
section
variable {t:TypeId} {h:H} {a b:List UInt8}
theorem aJj:cY env .eql t h (.d (.str a)) (.d (.str b)) = some (.d (.bool (a == b)),h):=by simp [cY,aBin]
theorem aIt:cY env .neq t h (.d (.str a)) (.d (.str b)) = some (.d (.bool (!(a == b))),h):=by simp [cY,aBin]
theorem aHO (hl:a.length + b.length ≤ 4294967296):cY env .add t h (.d (.str a)) (.d (.str b)) = some (.d (.str (a ++ b)),h):=by
 have:a.length + b.length ≤ cA:=hl
 simp [cY,aBin,this]
theorem aIy:cY env .lss t h (.d (.str a)) (.d (.str b)) = some (.d (.bool (Op.bytesLess a b)),h):=by simp [cY,aBin]
end
theorem toNat_lt (b:UInt8):b.toNat < 256:=b.toNat_lt
theorem aA1 {b:UInt8}:IntKind.i64.wrap (b.toNat:Int) = b.toNat:=NZ (by omega) (by have:=toNat_lt b; omega)
theorem R8 {l:List UInt8} {n:Nat} {lo hi:Option Int} {h:H} (hn:n = l.length) (h0:0 ≤ lo.getD 0) (h1:lo.getD 0 ≤ hi.getD l.length) (h2:hi.getD l.length ≤ l.length):i8 env.P h 41 (.d (.ivs n (c8 l))) lo hi = some (.d (.ivs ((l.drop (lo.getD 0).toNat).take ((hi.getD l.length).toNat - (lo.getD 0).toNat)).length (c8 ((l.drop (lo.getD 0).toNat).take ((hi.getD l.length).toNat - (lo.getD 0).toNat))))):=by
 subst hn
 simp only [i8,Y5,aEJ,uY,h0,h1,h2,and_self,if_true,Nat.mul_one,Option.map_some,Nat.zero_lt_one,c8,List.map_take,List.map_drop]
 congr 3
 rw [List.length_take,List.length_drop]
 omega
theorem LL {s:List UInt8} {lo hi:Option Int} {h:H} (h0:0 ≤ lo.getD 0) (h1:lo.getD 0 ≤ hi.getD s.length) (h2:hi.getD s.length ≤ s.length):i8 env.P h 9 (.d (.str s)) lo hi = some (.d (.str ((s.drop (lo.getD 0).toNat).take ((hi.getD s.length).toNat - (lo.getD 0).toNat)))):=by
 simp only [i8,gG,uY,h0,h1,h2,and_self,if_true,Option.map_some]
theorem aFm {l:List UInt8} {n:Nat} {u:Int} {h:H} (hn:n = l.length) (h0:0 ≤ u) (h1:u ≤ l.length):i8 env.P h 41 (.d (.ivs n (c8 l))) none (some u) = some (.d (.ivs (l.take u.toNat).length (c8 (l.take u.toNat)))):=by
 rw [R8 hn (by simp) (by simpa using h0) (by simpa using h1)]; simp
theorem aBO {l:List UInt8} {n:Nat} {u:Int} {h:H} (hn:n = l.length) (h0:0 ≤ u) (h1:u ≤ l.length):i8 env.P h 41 (.d (.ivs n (c8 l))) (some u) none = some (.d (.ivs (l.drop u.toNat).length (c8 (l.drop u.toNat)))):=by
 rw [R8 hn (by simpa using h0) (by simpa using h1) (by simp)]
 have:(List.take (l.length - u.toNat) (l.drop u.toNat)) = l.drop u.toNat:=List.take_of_length_le (by simp)
 simp [this]
theorem aF1 {s:List UInt8} {u:Int} {h:H} (h0:0 ≤ u) (h1:u ≤ s.length):i8 env.P h 9 (.d (.str s)) none (some u) = some (.d (.str (s.take u.toNat))):=by
 rw [LL (by simp) (by simpa using h0) (by simpa using h1)]; simp
theorem aB3 {s:List UInt8} {u:Int} {h:H} (h0:0 ≤ u) (h1:u ≤ s.length):i8 env.P h 9 (.d (.str s)) (some u) none = some (.d (.str (s.drop u.toNat))):=by
 rw [LL (by simpa using h0) (by simpa using h1) (by simp)]
 have:(List.take (s.length - u.toNat) (s.drop u.toNat)) = s.drop u.toNat:=List.take_of_length_le (by simp)
 simp [this]
theorem aBW {s:List UInt8} {u v:Int} {h:H} (h0:0 ≤ u) (h1:u ≤ v) (h2:v ≤ s.length):i8 env.P h 9 (.d (.str s)) (some u) (some v) = some (.d (.str ((s.drop u.toNat).take (v.toNat - u.toNat)))):=by
 rw [LL (by simpa using h0) (by simpa using h1) (by simpa using h2)]; simp
theorem aBe {h:H} {a b:Bool}:cY env .eql 4 h (.d (.bool a)) (.d (.bool b)) = some (.d (.bool (a == b)),h):=by simp [cY,aBin,aNil,aUE,eqlA]
theorem FP {h:H} {a b:Bool}:cY env .neq 4 h (.d (.bool a)) (.d (.bool b)) = some (.d (.bool (!(a == b))),h):=by simp [cY,aBin,aNil,aUE,eqlA]
theorem LB:type_of% (AI @sA (AI @dT (AI @XM (AI @aD2 (AI @L4 (AI @cG (AI @XP (AI @hZ (AI @P3 (AI @aJj (AI @aIt (AI @aHO (AI @aIy (AI @aA1 (AI @aBe (AI @FP @Int.toNat_natCast)))))))))))))))) :=
 ⟨@sA,@dT,@XM,@aD2,@L4,@cG,@XP,@hZ,@P3,@aJj,@aIt,@aHO,@aIy,@aA1,@aBe,@FP,@Int.toNat_natCast⟩
theorem CV:type_of% (AI @aFm (AI @aBO (AI @aF1 (AI @aB3 @aBW)))) :=
 ⟨@aFm,@aBO,@aF1,@aB3,@aBW⟩
theorem DN:type_of% (AI @WD (AI @aI5 (AI @WDD (AI @aJk @CV)))) :=
 ⟨@WD,@aI5,@WDD,@aJk,@CV⟩
theorem Dz {p:Prop} (h:p:=by first | assumption | exact ⟨by kernel_rfl⟩ | omega | (simp only [GT,LN] <;> omega)):p:=h
theorem UP:type_of% (AI @SLM (AI @WK (AI @UN (AI @TY (AI @LB (AI @MD @NZ)))))) :=
 ⟨@SLM,@WK,@UN,@TY,@LB,@MD,@NZ⟩
end
end Ev
end Go.Proofs.YtejmccgfigiadaaGreat
