/-
  What the types of the program are.
-/
import Derived.Test.YtejmccgfigiadaaGreatTy
import Derived.IntWalk
set_option linter.unusedSimpArgs false
namespace Go.Proofs.YtejmccgfigiadaaGreat
namespace Ev
theorem L6 {n:Int} (h1:-9223372036854775808 ≤ n) (h2:n ≤ 9223372036854775807):IntKind.i64.wrap n = n:=IntWalk.i64_in n ⟨h1,h2⟩
theorem aSt {n:Int} (h1:0 ≤ n) (h2:n ≤ 18446744073709551615):IntKind.u64.wrap n = n:=IntWalk.u64_in n ⟨h1,h2⟩
theorem a0T {n:Int} (h1:0 ≤ n) (h2:n ≤ 255):IntKind.u8.wrap n = n:=IntWalk.u8_in n ⟨h1,h2⟩
theorem U7:env.P.underlying 3 = some (.int .i64):=kr
theorem a0D:env.P.underlying 82 = some (.int .u64):=kr
theorem aEP:env.P.underlying 5 = some (.int .u8):=kr
theorem aVc:env.P.underlying 4 = some .bool:=kr
theorem gK:env.P.underlying 9 = some .string:=kr
theorem dP:env.P.underlying 90 = some (.slice 3):=kr
theorem YO:env.P.underlying 41 = some (.slice 5):=kr
theorem jJ:env.P.cellsOf 3 = 1:=kr
theorem aEE:env.P.cellsOf 5 = 1:=kr
theorem a0P:bU env.P 3 = true:=kr
theorem aZw:bU env.P 5 = true:=kr
theorem a0M:bW env.P 3 = some (nI 0):=kr
theorem aZA:bW env.P 5 = some (.d (.int .u8 0)):=kr
theorem aCa {h:H} {n:Int} {K:IntKind}:eL env.P h 3 82 (.d (.int K n)) = some (.d (.int .u64 (IntKind.u64.wrap n)),h):=lX U7 a0D
theorem aKD {h:H} {n:Int} {K:IntKind}:eL env.P h 3 5 (.d (.int K n)) = some (.d (.int .u8 (IntKind.u8.wrap n)),h):=lX U7 aEP
theorem ZL {h:H} {n:Int} {K:IntKind}:eL env.P h 5 3 (.d (.int K n)) = some (nI (IntKind.i64.wrap n),h):=lX aEP U7
def ints (l:List Int):List D:=l.map (.int .i64)
def dB (l:List UInt8):List D:=l.map fun b => .int .u8 b.toNat
abbrev rdO (c:List UInt8) (p:Int):O:=.box [.d (.ivs c.length (dB c)),nI p]
abbrev Dw (m f:Nat) (xs:List A) (r:A) (c:List UInt8) (p q:Int):Prop:=∀ (R:Type) (L n:Nat) (hq:H) (k:KA R),m ≤ n → 2 ^ 60 ≤ L → bC env (aA env L n) (rdO c p :: hq) f (.ptr 0 0 0 :: xs) k = k r (rdO c q :: hq)
abbrev KC (d L:Nat) (f:Nat) (xs:List A) (r:A):Prop:=∀ (R:Type) (n:Nat) (hq:H) (k:KA R),d ≤ n → bC env (aA env L n) hq f xs k = k r hq
theorem ks {d L:Nat} {f:Nat} {xs:List A} {r:A} (h2:∀ {n:Nat},d ≤ n → aA env L n f xs [] = some (r,[])) (h1:xs.all vS = true:=by rfl) (h3:idsA r = []:=by rfl) (h4:m4 r = true ∨ ((env.hint f).mode == 1 || (env.hint f).mode == 3) = false:=by first | exact .inl rfl | exact .inr rfl):KC d L f xs r:=fun _ _ _ _ hn => eS h1 (h2 hn) h3 h4
abbrev KT (d L:Nat) (f:Nat) (xs:List A) (r:A):Prop:=∀ (R:Type) (n:Nat) (k:A → Option R),d ≤ n → tR (aA env L n) f xs k = k r
theorem kt {d L:Nat} {f:Nat} {xs:List A} {r:A} (h2:∀ {n:Nat},d ≤ n → aA env L n f xs [] = some (r,[])) (h:m4 r = true:=by rfl):KT d L f xs r:=fun _ _ _ hn => mP (h2 hn) h
abbrev KV (L:Nat) (f:Nat) (xs:List A):Prop:=∀ (R:Type) (n:Nat) (hq:H) (k:KA R),bC env (aA env L n) hq f xs k = match box (VK hq xs) with
 | .mk (some fs) => tR (aA env L n) f fs fun r => k r hq
 | _ => none
theorem aSd:bP env.P 90 = some 3:=by simp only [bP,dP]
theorem aPv:bP env.P 41 = some 5:=by simp only [bP,YO]
theorem dS {l:List Int}:(ints l).length = l.length:=by simp [ints]
theorem g9 {l:List Int} {v:Int}:ints l ++ [.int .i64 v] = ints (l ++ [v]):=by simp [ints]
theorem DJ:ints [] = []:=rfl
theorem cC {l:List Int} {k:Nat} (h:l.length ≤ k):(ints l).take k = ints l:=List.take_of_length_le (by rw [dS]; exact h)
theorem aEo {l:List Int} {k:Nat} (h:k < l.length):(((ints l).drop k).map A.d).head? = some (nI (l.getD k 0)):=by
 rw [List.head?_map,List.head?_drop,ints,List.getElem?_map,List.getD_eq_getElem?_getD,List.getElem?_eq_getElem h]
 rfl
section
theorem GA {α:Type} (f:α → D) (l:List α) (k:Nat) (v:α) (h:k < l.length):eQ (l.map f) k [f v] = (l.set k v).map f:=by
 unfold eQ
 rw [List.map_set]
 have:k < (l.map f).length:=by simpa using h
 generalize l.map f = m at *
 rw [List.set_eq_take_append_cons_drop,if_pos this]
 simp
theorem sC {l:List UInt8}:(dB l).length = l.length:=by simp [dB]
theorem aSc:dB [] = []:=rfl
theorem aWM {e g:Nat}:O.arr [] e g = O.arr (ints []) e g:=rfl
theorem XD {l:List UInt8} {v:UInt8}:dB l ++ [.int .u8 (v.toNat:Int)] = dB (l ++ [v]):=by simp [dB]
theorem LY {l:List UInt8} {k:Nat} (h:l.length ≤ k):(dB l).take k = dB l:=List.take_of_length_le (by rw [sC]; exact h)
theorem XF {l:List UInt8} {k:Nat} (h:k < l.length):(((dB l).drop k).map A.d).head? = some (.d (.int .u8 ((l.getD k 0).toNat:Int))):=by
 rw [List.head?_map,List.head?_drop,dB,List.getElem?_map,List.getD_eq_getElem?_getD,List.getElem?_eq_getElem h]
 rfl
theorem aRa {l:List UInt8} {k:Nat} {v:UInt8} (h:k < l.length):eQ (dB l) k [.int .u8 (v.toNat:Int)] = dB (l.set k v):=GA _ l k v h
theorem aGX {l:List Int} {k:Nat} {v:Int} (h:k < l.length):eQ (ints l) k [.int .i64 v] = ints (l.set k v):=GA _ l k v h
theorem aKV:∀ l:List UInt8,SK (dB l) = some l
 | [] => rfl
 | b :: l => by
  have ih:=aKV l
  unfold dB at ih ⊢
  simp only [List.map_cons,SK,ih,Option.map_some]
  simp
theorem getElem?_zero_cons {o:O} {h:H}:(o :: h)[0]? = some o:=rfl
theorem X7 {l:List UInt8} {g len:Nat} {h:H} (hl:len = l.length):eL env.P (.arr (dB l) 1 g :: h) 41 9 (.sl 0 g 0 len) = some (.d (.str l),.arr (dB l) 1 g :: h):=by
 subst hl
 simp only [eL,YO,gK,aEP,eA,getElem?_zero_cons,sC,true_and,or_true,Nat.mul_one,Nat.zero_add,Nat.le_refl,and_self,if_true,List.drop_zero,LY (Nat.le_refl _),aKV,Option.map_some]
theorem aAw {α:Type} (x:α):∀ n:Nat,(List.replicate n [x]).flatten = List.replicate n x
 | 0 => rfl
 | n + 1 => by simp [List.replicate_succ,aAw x n]
theorem NJ {n:Int} {h:H} (h0:0 ≤ n) (h1:n ≤ 4294967296):kP env.P h 90 n n = some (.sl h.length 0 0 n.toNat,h ++ [.arr (ints (List.replicate n.toNat 0)) 1 0]):=by
 have hm:n ≤ (cA:Nat):=by unfold cA; omega
 simp only [kP,aSd,a0M,a6,z7,Option.map_some,a0P,h0,hm,jJ,Int.le_refl,and_self,if_true,aAw,ints,List.map_replicate]
theorem QK {i:Int} {s:List UInt8} (h0:0 ≤ i) (h:i < s.length):aAc env.P 9 (.d (.str s)) i = some (.d (.int .u8 ((s.getD i.toNat 0).toNat))):=by
 have hk:i.toNat < s.length:=by omega
 simp only [aAc,gK,if_pos h0,List.getD_eq_getElem?_getD,List.getElem?_eq_getElem hk,Option.map_some,Option.getD_some]
theorem take_set {α:Type} {l:List α} {k:Nat} {v:α} (h:k < l.length):(l.set k v).take (k + 1) = l.take k ++ [v]:=by
 rw [List.take_set,List.take_add_one,List.getElem?_eq_getElem h]
 simp only [Option.toList_some]
 have hl:(l.take k).length = k:=by rw [List.length_take]; omega
 rw [List.set_append_right _ _ (by omega),hl,Nat.sub_self]
 rfl
theorem vY {h:H} {id gen off esz:Nat} {t:TypeId} {cs:List D} {d:D} (hid:h[id]? = some (.arr cs esz gen)) (c1:env.P.cellsOf t = 1) (hi:(env.P.info? t).isSome = true) (hd:c9 (.d d) = true) (hk:off < cs.length) :
  oX env.P h t (.ptr id gen off) (.d d) = some (h.set id (.arr (eQ cs off [d]) esz gen)):=by
 have hc:(a6 (.d d)).length = env.P.cellsOf t ∧ (env.P.info? t).isSome = true ∧ (a6 (.d d)).all c9 = true:=⟨by rw [c1]; rfl,hi,by simp [a6,hd]⟩
 have hf:frzL h (a6 (.d d)) = some ([d],h):=rfl
 unfold oX
 rw [if_pos hc]
 simp only [hid,hf,c1,true_and]
 rw [if_pos (by omega)]
theorem aZR:(env.P.info? 5).isSome = true:=kr
theorem aZp:(env.P.info? 3).isSome = true:=kr
theorem aNv:(env.P.info? 4).isSome = true:=kr
theorem MK:env.P.cellsOf 4 = 1:=kr
theorem aWA {h:H} {g e k:Nat} {l:List UInt8} {b:UInt8} (hk:k < l.length):oX env.P (.arr (dB l) e g :: h) 5 (.ptr 0 g k) (.d (.int .u8 (b.toNat:Int))) = some (.arr (dB (l.set k b)) e g :: h):=by
 rw [vY (id:=0) rfl aEE aZR rfl (by rw [sC]; exact hk),aRa hk]
 rfl
theorem KN {h:H} {g e k:Nat} {l:List Int} {b:Int} (hk:k < l.length):oX env.P (.arr (ints l) e g :: h) 3 (.ptr 0 g k) (nI b) = some (.arr (ints (l.set k b)) e g :: h):=by
 rw [vY (id:=0) rfl jJ aZp rfl (by rw [dS]; exact hk),aGX hk]
 rfl
theorem aQj {o:O} {h:H} {g e k:Nat} {l:List Int} {b:Int} (hk:k < l.length):oX env.P (o :: .arr (ints l) e g :: h) 3 (.ptr 1 g k) (nI b) = some (o :: .arr (ints (l.set k b)) e g :: h):=by
 rw [vY (id:=1) rfl jJ aZp rfl (by rw [dS]; exact hk),aGX hk]
 rfl
section
variable {t:TypeId} {h:H} {a b:List UInt8}
theorem aJf:cY env .eql t h (.d (.str a)) (.d (.str b)) = some (.d (.bool (a == b)),h):=by simp [cY,aBin]
theorem aHQ:cY env .neq t h (.d (.str a)) (.d (.str b)) = some (.d (.bool (!(a == b))),h):=by simp [cY,aBin]
theorem aHI (hl:a.length + b.length ≤ 4294967296):cY env .add t h (.d (.str a)) (.d (.str b)) = some (.d (.str (a ++ b)),h):=by
 have:a.length + b.length ≤ cA:=hl
 simp [cY,aBin,this]
theorem aIr:cY env .lss t h (.d (.str a)) (.d (.str b)) = some (.d (.bool (Op.bytesLess a b)),h):=by simp [cY,aBin]
end
theorem toNat_lt (b:UInt8):b.toNat < 256:=b.toNat_lt
theorem aAu {b:UInt8}:IntKind.i64.wrap (b.toNat:Int) = b.toNat:=L6 (by omega) (by have:=toNat_lt b; omega)
theorem SJ {l:List UInt8} {n:Nat} {lo hi:Option Int} {h:H} (hn:n = l.length) (h0:0 ≤ lo.getD 0) (h1:lo.getD 0 ≤ hi.getD l.length) (h2:hi.getD l.length ≤ l.length):iZ env.P h 41 (.d (.ivs n (dB l))) lo hi = some (.d (.ivs ((l.drop (lo.getD 0).toNat).take ((hi.getD l.length).toNat - (lo.getD 0).toNat)).length (dB ((l.drop (lo.getD 0).toNat).take ((hi.getD l.length).toNat - (lo.getD 0).toNat))))):=by
 subst hn
 simp only [iZ,YO,aEE,uK,h0,h1,h2,and_self,if_true,Nat.mul_one,Option.map_some,Nat.zero_lt_one,dB,List.map_take,List.map_drop]
 congr 3
 rw [List.length_take,List.length_drop]
 omega
theorem KK {s:List UInt8} {lo hi:Option Int} {h:H} (h0:0 ≤ lo.getD 0) (h1:lo.getD 0 ≤ hi.getD s.length) (h2:hi.getD s.length ≤ s.length):iZ env.P h 9 (.d (.str s)) lo hi = some (.d (.str ((s.drop (lo.getD 0).toNat).take ((hi.getD s.length).toNat - (lo.getD 0).toNat)))):=by
 simp only [iZ,gK,uK,h0,h1,h2,and_self,if_true,Option.map_some]
theorem aF5 {l:List UInt8} {n:Nat} {u:Int} {h:H} (hn:n = l.length) (h0:0 ≤ u) (h1:u ≤ l.length):iZ env.P h 41 (.d (.ivs n (dB l))) none (some u) = some (.d (.ivs (l.take u.toNat).length (dB (l.take u.toNat)))):=by
 rw [SJ hn (by simp) (by simpa using h0) (by simpa using h1)]; simp
theorem aB4 {l:List UInt8} {n:Nat} {u:Int} {h:H} (hn:n = l.length) (h0:0 ≤ u) (h1:u ≤ l.length):iZ env.P h 41 (.d (.ivs n (dB l))) (some u) none = some (.d (.ivs (l.drop u.toNat).length (dB (l.drop u.toNat)))):=by
 rw [SJ hn (by simpa using h0) (by simpa using h1) (by simp)]
 have:(List.take (l.length - u.toNat) (l.drop u.toNat)) = l.drop u.toNat:=List.take_of_length_le (by simp)
 simp [this]
theorem aGb {s:List UInt8} {u:Int} {h:H} (h0:0 ≤ u) (h1:u ≤ s.length):iZ env.P h 9 (.d (.str s)) none (some u) = some (.d (.str (s.take u.toNat))):=by
 rw [KK (by simp) (by simpa using h0) (by simpa using h1)]; simp
theorem aB7 {s:List UInt8} {u:Int} {h:H} (h0:0 ≤ u) (h1:u ≤ s.length):iZ env.P h 9 (.d (.str s)) (some u) none = some (.d (.str (s.drop u.toNat))):=by
 rw [KK (by simpa using h0) (by simpa using h1) (by simp)]
 have:(List.take (s.length - u.toNat) (s.drop u.toNat)) = s.drop u.toNat:=List.take_of_length_le (by simp)
 simp [this]
theorem aB5 {s:List UInt8} {u v:Int} {h:H} (h0:0 ≤ u) (h1:u ≤ v) (h2:v ≤ s.length):iZ env.P h 9 (.d (.str s)) (some u) (some v) = some (.d (.str ((s.drop u.toNat).take (v.toNat - u.toNat)))):=by
 rw [KK (by simpa using h0) (by simpa using h1) (by simpa using h2)]; simp
theorem aBe {h:H} {a b:Bool}:cY env .eql 4 h (.d (.bool a)) (.d (.bool b)) = some (.d (.bool (a == b)),h):=by simp [cY,aBin,aNil,aVc,eqlA]
theorem IA {h:H} {a b:Bool}:cY env .neq 4 h (.d (.bool a)) (.d (.bool b)) = some (.d (.bool (!(a == b))),h):=by simp [cY,aBin,aNil,aVc,eqlA]
theorem LB:type_of% (AI @sC (AI @dS (AI @XF (AI @aEo (AI @LY (AI @cC (AI @XD (AI @g9 (AI @QK (AI @aJf (AI @aHQ (AI @aHI (AI @aIr (AI @aAu (AI @aBe (AI @IA @Int.toNat_natCast)))))))))))))))) :=
 ⟨@sC,@dS,@XF,@aEo,@LY,@cC,@XD,@g9,@QK,@aJf,@aHQ,@aHI,@aIr,@aAu,@aBe,@IA,@Int.toNat_natCast⟩
theorem CV:type_of% (AI @aF5 (AI @aB4 (AI @aGb (AI @aB7 @aB5)))) :=
 ⟨@aF5,@aB4,@aGb,@aB7,@aB5⟩
theorem DN:type_of% (AI @WD (AI @aIP (AI @WDD (AI @aIQ @CV)))) :=
 ⟨@WD,@aIP,@WDD,@aIQ,@CV⟩
theorem Dz {p:Prop} (h:p:=by first | assumption | exact ⟨by kernel_rfl⟩ | omega | (simp only [GT,LN] <;> omega)):p:=h
theorem UP:type_of% (AI @SLM (AI @WK (AI @UN (AI @TY (AI @LB (AI @MD @L6)))))) :=
 ⟨@SLM,@WK,@UN,@TY,@LB,@MD,@L6⟩
end
end Ev
end Go.Proofs.YtejmccgfigiadaaGreat
