/-
  What the types of the program are.
-/
import Derived.Test.YtejmccgfigiadaaGreatTy
import Derived.IntWalk
set_option linter.unusedSimpArgs false
namespace Go.Proofs.YtejmccgfigiadaaGreat
namespace Ev
theorem FT {n:Int} (h1:-9223372036854775808 ≤ n) (h2:n ≤ 9223372036854775807):IntKind.i64.wrap n = n:=IntWalk.i64_in n ⟨h1,h2⟩
theorem aY7 {n:Int} (h1:0 ≤ n) (h2:n ≤ 18446744073709551615):IntKind.u64.wrap n = n:=IntWalk.u64_in n ⟨h1,h2⟩
theorem aZt {n:Int} (h1:0 ≤ n) (h2:n ≤ 255):IntKind.u8.wrap n = n:=IntWalk.u8_in n ⟨h1,h2⟩
theorem WH:env.P.underlying 3 = some (.int .i64):=kr
theorem aZn:env.P.underlying 82 = some (.int .u64):=kr
theorem aCq:env.P.underlying 5 = some (.int .u8):=kr
theorem aRh:env.P.underlying 4 = some .bool:=kr
theorem rB:env.P.underlying 9 = some .string:=kr
theorem dP:env.P.underlying 90 = some (.slice 3):=kr
theorem UA:env.P.underlying 41 = some (.slice 5):=kr
theorem iY:env.P.cellsOf 3 = 1:=kr
theorem aCB:env.P.cellsOf 5 = 1:=kr
theorem aZu:bT env.P 3 = true:=kr
theorem aYt:bT env.P 5 = true:=kr
theorem aZq:bU env.P 3 = some (nI 0):=kr
theorem aYj:bU env.P 5 = some (.d (.int .u8 0)):=kr
theorem aLf {h:H} {n:Int} {K:IntKind}:eK env.P h 3 82 (.d (.int K n)) = some (.d (.int .u64 (IntKind.u64.wrap n)),h):=kR WH aZn
theorem aIv {h:H} {n:Int} {K:IntKind}:eK env.P h 3 5 (.d (.int K n)) = some (.d (.int .u8 (IntKind.u8.wrap n)),h):=kR WH aCq
theorem aI0 {h:H} {n:Int} {K:IntKind}:eK env.P h 5 3 (.d (.int K n)) = some (nI (IntKind.i64.wrap n),h):=kR aCq WH
def ints (l:List Int):List D:=l.map (.int .i64)
def dA (l:List UInt8):List D:=l.map fun b => .int .u8 b.toNat
abbrev rdO (c:List UInt8) (p:Int):O:=.box [.d (.ivs c.length (dA c)),nI p]
abbrev Dw (m f:Nat) (xs:List A) (r:A) (c:List UInt8) (p q:Int):Prop:=∀ (R:Type) (L n:Nat) (hq:H) (k:A → H → Option R),m ≤ n → 2 ^ 60 ≤ L → aW env (aA env L n) (rdO c p :: hq) f (.ptr 0 0 0 :: xs) k = k r (rdO c q :: hq)
abbrev KC (d L:Nat) (f:Nat) (xs:List A) (r:A):Prop:=∀ {R:Type} {n:Nat} {hq:H} {k:A → H → Option R},d ≤ n → aW env (aA env L n) hq f xs k = k r hq
theorem ks {d L:Nat} {f:Nat} {xs:List A} {r:A} (h1:xs.all yC = true) (h2:∀ {n:Nat},d ≤ n → aA env L n f xs [] = some (r,[])) (h3:idsA r = []) (h4:mR r = true ∨ ((env.hint f).mode == 1 || (env.hint f).mode == 3) = false):KC d L f xs r:=fun hn => eO h1 (h2 hn) h3 h4
abbrev KT (d L:Nat) (f:Nat) (xs:List A) (r:A):Prop:=∀ {R:Type} {n:Nat} {k:A → Option R},d ≤ n → rS (aA env L n) f xs k = k r
abbrev KV (L:Nat) (f:Nat) (xs:List A):Prop:=∀ {R:Type} {n:Nat} {hq:H} {k:A → H → Option R},aW env (aA env L n) hq f xs k = match box (QD hq xs) with
 | .mk (some fs) => rS (aA env L n) f fs fun r => k r hq
 | _ => none
theorem aQq:bR env.P 90 = some 3:=by simp only [bR,dP]
theorem aOv:bR env.P 41 = some 5:=by simp only [bR,UA]
theorem eE {l:List Int}:(ints l).length = l.length:=by simp [ints]
theorem hU {l:List Int} {v:Int}:ints l ++ [.int .i64 v] = ints (l ++ [v]):=by simp [ints]
theorem B2:ints [] = []:=rfl
theorem cQ {l:List Int} {k:Nat} (h:l.length ≤ k):(ints l).take k = ints l:=List.take_of_length_le (by rw [eE]; exact h)
theorem aBU {l:List Int} {k:Nat} (h:k < l.length):(((ints l).drop k).map A.d).head? = some (nI (l.getD k 0)):=by
 rw [List.head?_map,List.head?_drop,ints,List.getElem?_map,List.getD_eq_getElem?_getD,List.getElem?_eq_getElem h]
 rfl
section
theorem FM {α:Type} (f:α → D) (l:List α) (k:Nat) (v:α) (h:k < l.length):eQ (l.map f) k [f v] = (l.set k v).map f:=by
 unfold eQ
 rw [List.map_set]
 have:k < (l.map f).length:=by simpa using h
 generalize l.map f = m at *
 rw [List.set_eq_take_append_cons_drop,if_pos this]
 simp
theorem p9 {l:List UInt8}:(dA l).length = l.length:=by simp [dA]
theorem aP0:dA [] = []:=rfl
theorem aVZ {e g:Nat}:O.arr [] e g = O.arr (ints []) e g:=rfl
theorem S3 {l:List UInt8} {v:UInt8}:dA l ++ [.int .u8 (v.toNat:Int)] = dA (l ++ [v]):=by simp [dA]
theorem IH {l:List UInt8} {k:Nat} (h:l.length ≤ k):(dA l).take k = dA l:=List.take_of_length_le (by rw [p9]; exact h)
theorem TF {l:List UInt8} {k:Nat} (h:k < l.length):(((dA l).drop k).map A.d).head? = some (.d (.int .u8 ((l.getD k 0).toNat:Int))):=by
 rw [List.head?_map,List.head?_drop,dA,List.getElem?_map,List.getD_eq_getElem?_getD,List.getElem?_eq_getElem h]
 rfl
theorem aPV {l:List UInt8} {k:Nat} {v:UInt8} (h:k < l.length):eQ (dA l) k [.int .u8 (v.toNat:Int)] = dA (l.set k v):=FM _ l k v h
theorem aEp {l:List Int} {k:Nat} {v:Int} (h:k < l.length):eQ (ints l) k [.int .i64 v] = ints (l.set k v):=FM _ l k v h
theorem aJp:∀ l:List UInt8,N6 (dA l) = some l
 | [] => rfl
 | b :: l => by
  have ih:=aJp l
  unfold dA at ih ⊢
  simp only [List.map_cons,N6,ih,Option.map_some]
  simp
theorem getElem?_zero_cons {o:O} {h:H}:(o :: h)[0]? = some o:=rfl
theorem HH {l:List UInt8} {g len:Nat} {h:H} (hl:len = l.length):eK env.P (.arr (dA l) 1 g :: h) 41 9 (.sl 0 g 0 len) = some (.d (.str l),.arr (dA l) 1 g :: h):=by
 subst hl
 simp only [eK,UA,rB,aCq,d9,getElem?_zero_cons,p9,true_and,or_true,Nat.mul_one,Nat.zero_add,Nat.le_refl,and_self,if_true,List.drop_zero,IH (Nat.le_refl _),aJp,Option.map_some]
theorem W9 {α:Type} (x:α):∀ n:Nat,(List.replicate n [x]).flatten = List.replicate n x
 | 0 => rfl
 | n + 1 => by simp [List.replicate_succ,W9 x n]
theorem J3 {n:Int} {h:H} (h0:0 ≤ n) (h1:n ≤ 4294967296):jU env.P h 90 n n = some (.sl h.length 0 0 n.toNat,h ++ [.arr (ints (List.replicate n.toNat 0)) 1 0]):=by
 have hm:n ≤ (b7:Nat):=by unfold b7; omega
 simp only [jU,aQq,aZq,bA,x4,Option.map_some,aZu,h0,hm,iY,Int.le_refl,and_self,if_true,W9,ints,List.map_replicate]
theorem WN {i:Int} {s:List UInt8} (h0:0 ≤ i) (h:i < s.length):TJ env.P 9 (.d (.str s)) i = some (.d (.int .u8 ((s.getD i.toNat 0).toNat))):=by
 have hk:i.toNat < s.length:=by omega
 simp only [TJ,rB,if_pos h0,List.getD_eq_getElem?_getD,List.getElem?_eq_getElem hk,Option.map_some,Option.getD_some]
theorem take_set {α:Type} {l:List α} {k:Nat} {v:α} (h:k < l.length):(l.set k v).take (k + 1) = l.take k ++ [v]:=by
 rw [List.take_set,List.take_add_one,List.getElem?_eq_getElem h]
 simp only [Option.toList_some]
 have hl:(l.take k).length = k:=by rw [List.length_take]; omega
 rw [List.set_append_right _ _ (by omega),hl,Nat.sub_self]
 rfl
theorem uD {h:H} {id gen off esz:Nat} {t:TypeId} {cs:List D} {d:D} (hid:h[id]? = some (.arr cs esz gen)) (c1:env.P.cellsOf t = 1) (hi:(env.P.info? t).isSome = true) (hd:c9 (.d d) = true) (hk:off < cs.length) :
  nW env.P h t (.ptr id gen off) (.d d) = some (h.set id (.arr (eQ cs off [d]) esz gen)):=by
 have hc:(bA (.d d)).length = env.P.cellsOf t ∧ (env.P.info? t).isSome = true ∧ (bA (.d d)).all c9 = true:=⟨by rw [c1]; rfl,hi,by simp [bA,hd]⟩
 have hf:frzL h (bA (.d d)) = some ([d],h):=rfl
 unfold nW
 rw [if_pos hc]
 simp only [hid,hf,c1,true_and]
 rw [if_pos (by omega)]
theorem aX2:(env.P.info? 5).isSome = true:=kr
theorem aWv:(env.P.info? 3).isSome = true:=kr
theorem aNv:(env.P.info? 4).isSome = true:=kr
theorem N8:env.P.cellsOf 4 = 1:=kr
theorem aWe {h:H} {g e k:Nat} {l:List UInt8} {b:UInt8} (hk:k < l.length):nW env.P (.arr (dA l) e g :: h) 5 (.ptr 0 g k) (.d (.int .u8 (b.toNat:Int))) = some (.arr (dA (l.set k b)) e g :: h):=by
 rw [uD (id:=0) rfl aCB aX2 rfl (by rw [p9]; exact hk),aPV hk]
 rfl
theorem CW {h:H} {g e k:Nat} {l:List Int} {b:Int} (hk:k < l.length):nW env.P (.arr (ints l) e g :: h) 3 (.ptr 0 g k) (nI b) = some (.arr (ints (l.set k b)) e g :: h):=by
 rw [uD (id:=0) rfl iY aWv rfl (by rw [eE]; exact hk),aEp hk]
 rfl
theorem aPx {o:O} {h:H} {g e k:Nat} {l:List Int} {b:Int} (hk:k < l.length):nW env.P (o :: .arr (ints l) e g :: h) 3 (.ptr 1 g k) (nI b) = some (o :: .arr (ints (l.set k b)) e g :: h):=by
 rw [uD (id:=1) rfl iY aWv rfl (by rw [eE]; exact hk),aEp hk]
 rfl
section
variable {t:TypeId} {h:H} {a b:List UInt8}
theorem aHK:cY env .eql t h (.d (.str a)) (.d (.str b)) = some (.d (.bool (a == b)),h):=by simp [cY,aBin]
theorem aGj:cY env .neq t h (.d (.str a)) (.d (.str b)) = some (.d (.bool (!(a == b))),h):=by simp [cY,aBin]
theorem aHD (hl:a.length + b.length ≤ 4294967296):cY env .add t h (.d (.str a)) (.d (.str b)) = some (.d (.str (a ++ b)),h):=by
 have:a.length + b.length ≤ b7:=hl
 simp [cY,aBin,this]
theorem aGb:cY env .lss t h (.d (.str a)) (.d (.str b)) = some (.d (.bool (Op.bytesLess a b)),h):=by simp [cY,aBin]
end
theorem toNat_lt (b:UInt8):b.toNat < 256:=b.toNat_lt
theorem aEu {b:UInt8}:IntKind.i64.wrap (b.toNat:Int) = b.toNat:=FT (by omega) (by have:=toNat_lt b; omega)
theorem N1 {l:List UInt8} {n:Nat} {lo hi:Option Int} {h:H} (hn:n = l.length) (h0:0 ≤ lo.getD 0) (h1:lo.getD 0 ≤ hi.getD l.length) (h2:hi.getD l.length ≤ l.length):iP env.P h 41 (.d (.ivs n (dA l))) lo hi = some (.d (.ivs ((l.drop (lo.getD 0).toNat).take ((hi.getD l.length).toNat - (lo.getD 0).toNat)).length (dA ((l.drop (lo.getD 0).toNat).take ((hi.getD l.length).toNat - (lo.getD 0).toNat))))):=by
 subst hn
 simp only [iP,UA,aCB,tD,h0,h1,h2,and_self,if_true,Nat.mul_one,Option.map_some,Nat.zero_lt_one,dA,List.map_take,List.map_drop]
 congr 3
 rw [List.length_take,List.length_drop]
 omega
theorem G8 {s:List UInt8} {lo hi:Option Int} {h:H} (h0:0 ≤ lo.getD 0) (h1:lo.getD 0 ≤ hi.getD s.length) (h2:hi.getD s.length ≤ s.length):iP env.P h 9 (.d (.str s)) lo hi = some (.d (.str ((s.drop (lo.getD 0).toNat).take ((hi.getD s.length).toNat - (lo.getD 0).toNat)))):=by
 simp only [iP,rB,tD,h0,h1,h2,and_self,if_true,Option.map_some]
theorem aDg {l:List UInt8} {n:Nat} {u:Int} {h:H} (hn:n = l.length) (h0:0 ≤ u) (h1:u ≤ l.length):iP env.P h 41 (.d (.ivs n (dA l))) none (some u) = some (.d (.ivs (l.take u.toNat).length (dA (l.take u.toNat)))):=by
 rw [N1 hn (by simp) (by simpa using h0) (by simpa using h1)]; simp
theorem Y6 {l:List UInt8} {n:Nat} {u:Int} {h:H} (hn:n = l.length) (h0:0 ≤ u) (h1:u ≤ l.length):iP env.P h 41 (.d (.ivs n (dA l))) (some u) none = some (.d (.ivs (l.drop u.toNat).length (dA (l.drop u.toNat)))):=by
 rw [N1 hn (by simpa using h0) (by simpa using h1) (by simp)]
 have:(List.take (l.length - u.toNat) (l.drop u.toNat)) = l.drop u.toNat:=List.take_of_length_le (by simp)
 simp [this]
theorem aDF {s:List UInt8} {u:Int} {h:H} (h0:0 ≤ u) (h1:u ≤ s.length):iP env.P h 9 (.d (.str s)) none (some u) = some (.d (.str (s.take u.toNat))):=by
 rw [G8 (by simp) (by simpa using h0) (by simpa using h1)]; simp
theorem YA {s:List UInt8} {u:Int} {h:H} (h0:0 ≤ u) (h1:u ≤ s.length):iP env.P h 9 (.d (.str s)) (some u) none = some (.d (.str (s.drop u.toNat))):=by
 rw [G8 (by simpa using h0) (by simpa using h1) (by simp)]
 have:(List.take (s.length - u.toNat) (s.drop u.toNat)) = s.drop u.toNat:=List.take_of_length_le (by simp)
 simp [this]
theorem X3 {s:List UInt8} {u v:Int} {h:H} (h0:0 ≤ u) (h1:u ≤ v) (h2:v ≤ s.length):iP env.P h 9 (.d (.str s)) (some u) (some v) = some (.d (.str ((s.drop u.toNat).take (v.toNat - u.toNat)))):=by
 rw [G8 (by simpa using h0) (by simpa using h1) (by simpa using h2)]; simp
theorem XD {h:H} {a b:Bool}:cY env .eql 4 h (.d (.bool a)) (.d (.bool b)) = some (.d (.bool (a == b)),h):=by simp [cY,aBin,aNil,aRh,eqlA]
theorem EV {h:H} {a b:Bool}:cY env .neq 4 h (.d (.bool a)) (.d (.bool b)) = some (.d (.bool (!(a == b))),h):=by simp [cY,aBin,aNil,aRh,eqlA]
theorem LB:type_of% (AI @p9 (AI @eE (AI @TF (AI @aBU (AI @IH (AI @cQ (AI @S3 (AI @hU (AI @WN (AI @aHK (AI @aGj (AI @aHD (AI @aGb (AI @aEu (AI @XD (AI @EV @Int.toNat_natCast)))))))))))))))) :=
 ⟨@p9,@eE,@TF,@aBU,@IH,@cQ,@S3,@hU,@WN,@aHK,@aGj,@aHD,@aGb,@aEu,@XD,@EV,@Int.toNat_natCast⟩
theorem CV:type_of% (AI @aDg (AI @Y6 (AI @aDF (AI @YA @X3)))) :=
 ⟨@aDg,@Y6,@aDF,@YA,@X3⟩
theorem DN:type_of% (AI @WD (AI @aGA (AI @WDD (AI @aHp @CV)))) :=
 ⟨@WD,@aGA,@WDD,@aHp,@CV⟩
theorem Dz {p:Prop} (h:p:=by first | assumption | exact ⟨by kernel_rfl⟩ | omega | (simp only [GT,LN] <;> omega)):p:=h
theorem UP:type_of% (AI @WK (AI @UN (AI @TY (AI @LB (AI @MD @FT))))) :=
 ⟨@WK,@UN,@TY,@LB,@MD,@FT⟩
end
end Ev
end Go.Proofs.YtejmccgfigiadaaGreat
