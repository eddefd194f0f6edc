/-
  What the types of the program are.
-/
import Derived.Test.YtppdfjdfjfoddaaDoorTy
import Derived.IntWalk
set_option linter.unusedSimpArgs false
namespace Go.Proofs.YtppdfjdfjfoddaaDoor
namespace Ev
theorem BS {n:Int} (h1:-9223372036854775808 ≤ n) (h2:n ≤ 9223372036854775807):IntKind.i64.wrap n = n:=IntWalk.i64_in n ⟨h1,h2⟩
theorem aNP {n:Int} (h1:0 ≤ n) (h2:n ≤ 18446744073709551615):IntKind.u64.wrap n = n:=IntWalk.u64_in n ⟨h1,h2⟩
theorem aTA {n:Int} (h1:0 ≤ n) (h2:n ≤ 255):IntKind.u8.wrap n = n:=IntWalk.u8_in n ⟨h1,h2⟩
theorem aCc:env.P.underlying 3 = some (.int .i64):=by kernel_rfl
theorem aSS:env.P.underlying 80 = some (.int .u64):=by kernel_rfl
theorem aJ4:env.P.underlying 5 = some (.int .u8):=by kernel_rfl
theorem aOC:env.P.underlying 4 = some .bool:=by kernel_rfl
theorem aA2:env.P.underlying 9 = some .string:=by kernel_rfl
theorem dW:env.P.underlying 32 = some (.slice 3):=by kernel_rfl
theorem QC:env.P.underlying 22 = some (.slice 5):=by kernel_rfl
theorem d9:env.P.cellsOf 3 = 1:=by kernel_rfl
theorem YK:env.P.cellsOf 5 = 1:=by kernel_rfl
theorem aTs:bO env.P 3 = true:=by kernel_rfl
theorem aR3:bO env.P 5 = true:=by kernel_rfl
theorem aTq:bS env.P 3 = some (.d (.int .i64 0)):=by kernel_rfl
theorem aSe:bS env.P 5 = some (.d (.int .u8 0)):=by kernel_rfl
theorem ST {h:H} {n:Int} {K:IntKind}:gO env.P h 3 80 (.d (.int K n)) = some (.d (.int .u64 (IntKind.u64.wrap n)),h):=nX aCc aSS
theorem aDW {h:H} {n:Int} {K:IntKind}:gO env.P h 3 5 (.d (.int K n)) = some (.d (.int .u8 (IntKind.u8.wrap n)),h):=nX aCc aJ4
def ints (l:List Int):List D:=l.map (.int .i64)
def bQ (l:List UInt8):List D:=l.map fun b => .int .u8 b.toNat
abbrev rdO (c:List UInt8) (p:Int):O:=.box [.d (.ivs c.length (bQ c)),.d (.int .i64 p)]
abbrev Dw (m f:Nat) (xs:List A) (r:A) (c:List UInt8) (p q:Int):Prop:=∀ (R:Type) (L n:Nat) (hq:H) (k:A → H → Option R),m ≤ n → 2 ^ 60 ≤ L → aL env (aA env L n) (rdO c p :: hq) f (.ptr 0 0 0 :: xs) k = k r (rdO c q :: hq)
theorem aKH:bH env.P 32 = some 3:=by simp only [bH,dW]
theorem aI4:bH env.P 22 = some 5:=by simp only [bH,QC]
theorem dN {l:List Int}:(ints l).length = l.length:=by simp [ints]
theorem iN {l:List Int} {v:Int}:ints l ++ [.int .i64 v] = ints (l ++ [v]):=by simp [ints]
theorem vQ:ints [] = []:=rfl
theorem c8 {l:List Int} {k:Nat} (h:l.length ≤ k):(ints l).take k = ints l:=List.take_of_length_le (by rw [dN]; exact h)
theorem WO {l:List Int} {k:Nat} (h:k < l.length):(((ints l).drop k).map A.d).head? = some (.d (.int .i64 (l.getD k 0))):=by
 rw [List.head?_map,List.head?_drop,ints,List.getElem?_map,List.getD_eq_getElem?_getD,List.getElem?_eq_getElem h]
 rfl
section
theorem H1 {α:Type} (f:α → D) (l:List α) (k:Nat) (v:α) (h:k < l.length):bN (l.map f) k [f v] = (l.set k v).map f:=by
 unfold bN
 rw [List.map_set]
 have:k < (l.map f).length:=by simpa using h
 generalize l.map f = m at *
 rw [List.set_eq_take_append_cons_drop,if_pos this]
 simp
theorem qB {l:List UInt8}:(bQ l).length = l.length:=by simp [bQ]
theorem aLx:bQ [] = []:=rfl
theorem aPE {e g:Nat}:O.arr [] e g = O.arr (ints []) e g:=rfl
theorem O7 {l:List UInt8} {v:UInt8}:bQ l ++ [.int .u8 (v.toNat:Int)] = bQ (l ++ [v]):=by simp [bQ]
theorem EW {l:List UInt8} {k:Nat} (h:l.length ≤ k):(bQ l).take k = bQ l:=List.take_of_length_le (by rw [qB]; exact h)
theorem PD {l:List UInt8} {k:Nat} (h:k < l.length):(((bQ l).drop k).map A.d).head? = some (.d (.int .u8 ((l.getD k 0).toNat:Int))):=by
 rw [List.head?_map,List.head?_drop,bQ,List.getElem?_map,List.getD_eq_getElem?_getD,List.getElem?_eq_getElem h]
 rfl
theorem aK3 {l:List UInt8} {k:Nat} {v:UInt8} (h:k < l.length):bN (bQ l) k [.int .u8 (v.toNat:Int)] = bQ (l.set k v):=H1 _ l k v h
theorem DY {l:List Int} {k:Nat} {v:Int} (h:k < l.length):bN (ints l) k [.int .i64 v] = ints (l.set k v):=H1 _ l k v h
theorem aEu:∀ l:List UInt8,KB (bQ l) = some l
 | [] => rfl
 | b :: l => by
  have ih:=aEu l
  unfold bQ at ih ⊢
  simp only [List.map_cons,KB,ih,Option.map_some]
  simp
theorem getElem?_zero_cons {o:O} {h:H}:(o :: h)[0]? = some o:=rfl
theorem Q7 {l:List UInt8} {g len:Nat} {h:H} (hl:len = l.length):gO env.P (.arr (bQ l) 1 g :: h) 22 9 (.sl 0 g 0 len) = some (.d (.str l),.arr (bQ l) 1 g :: h):=by
 subst hl
 simp only [gO,QC,aA2,aJ4,d8,getElem?_zero_cons,qB,true_and,or_true,Nat.mul_one,Nat.zero_add,Nat.le_refl,and_self,if_true,List.drop_zero,EW (Nat.le_refl _),aEu,Option.map_some]
theorem aIC {α:Type} (x:α):∀ n:Nat,(List.replicate n [x]).flatten = List.replicate n x
 | 0 => rfl
 | n + 1 => by simp [List.replicate_succ,aIC x n]
theorem vC {n:Int} {h:H} (h0:0 ≤ n) (h1:n ≤ 4294967296):lT env.P h 32 n n = some (.sl h.length 0 0 n.toNat,h ++ [.arr (ints (List.replicate n.toNat 0)) 1 0]):=by
 have hm:n ≤ (b5:Nat):=by unfold b5; omega
 simp only [lT,aKH,aTq,aR,AF,Option.map_some,aTs,h0,hm,d9,Int.le_refl,and_self,if_true,aIC,ints,List.map_replicate]
theorem aCO {i:Int} {s:List UInt8} (h0:0 ≤ i) (h:i < s.length):PN env.P 9 (.d (.str s)) i = some (.d (.int .u8 ((s.getD i.toNat 0).toNat))):=by
 have hk:i.toNat < s.length:=by omega
 simp only [PN,aA2,if_pos h0,List.getD_eq_getElem?_getD,List.getElem?_eq_getElem hk,Option.map_some,Option.getD_some]
theorem take_set {α:Type} {l:List α} {k:Nat} {v:α} (h:k < l.length):(l.set k v).take (k + 1) = l.take k ++ [v]:=by
 rw [List.take_set,List.take_add_one,List.getElem?_eq_getElem h]
 simp only [Option.toList_some]
 have hl:(l.take k).length = k:=by rw [List.length_take]; omega
 rw [List.set_append_right _ _ (by omega),hl,Nat.sub_self]
 rfl
theorem aSL {o:O} {h:H} {id:Nat} (hs:h[id]? = some o):h.set id o = h:=by
 apply List.ext_getElem?
 intro j
 rw [List.getElem?_set]
 obtain ⟨hl,he⟩:=List.getElem?_eq_some_iff.1 hs
 by_cases e:id = j
 ·subst e; simp [hl,he]
 ·simp [e]
theorem sV {h:H} {id gen off esz:Nat} {t:TypeId} {cs:List D} {d:D} (hid:h[id]? = some (.arr cs esz gen)) (c1:env.P.cellsOf t = 1) (hi:(env.P.info? t).isSome = true) (hd:cW (.d d) = true) (hk:off < cs.length) :
  m3 env.P h t (.ptr id gen off) (.d d) = some (h.set id (.arr (bN cs off [d]) esz gen)):=by
 have hc:(aR (.d d)).length = env.P.cellsOf t ∧ (env.P.info? t).isSome = true ∧ (aR (.d d)).all cW = true:=⟨by rw [c1]; rfl,hi,by simp [aR,hd]⟩
 have hf:frzL h (aR (.d d)) = some ([d],h):=rfl
 unfold m3
 rw [if_pos hc]
 simp only [hid,hf,c1,true_and]
 rw [if_pos (by omega)]
theorem aR8:(env.P.info? 5).isSome = true:=by kernel_rfl
theorem aGL:(env.P.info? 3).isSome = true:=by kernel_rfl
theorem aMD:(env.P.info? 4).isSome = true:=by kernel_rfl
theorem tD:env.P.cellsOf 4 = 1:=by kernel_rfl
theorem aPH {h:H} {g e k:Nat} {l:List UInt8} {b:UInt8} (hk:k < l.length):m3 env.P (.arr (bQ l) e g :: h) 5 (.ptr 0 g k) (.d (.int .u8 (b.toNat:Int))) = some (.arr (bQ (l.set k b)) e g :: h):=by
 rw [sV (id:=0) rfl YK aR8 rfl (by rw [qB]; exact hk),aK3 hk]
 rfl
theorem IY {h:H} {g e k:Nat} {l:List Int} {b:Int} (hk:k < l.length):m3 env.P (.arr (ints l) e g :: h) 3 (.ptr 0 g k) (.d (.int .i64 b)) = some (.arr (ints (l.set k b)) e g :: h):=by
 rw [sV (id:=0) rfl d9 aGL rfl (by rw [dN]; exact hk),DY hk]
 rfl
theorem aKz {o:O} {h:H} {g e k:Nat} {l:List Int} {b:Int} (hk:k < l.length):m3 env.P (o :: .arr (ints l) e g :: h) 3 (.ptr 1 g k) (.d (.int .i64 b)) = some (o :: .arr (ints (l.set k b)) e g :: h):=by
 rw [sV (id:=1) rfl d9 aGL rfl (by rw [dN]; exact hk),DY hk]
 rfl
section
variable {t:TypeId} {h:H} {a b:List UInt8}
theorem aCP:dM env .eql t h (.d (.str a)) (.d (.str b)) = some (.d (.bool (a == b)),h):=by simp [dM,aBin]
theorem aBB:dM env .neq t h (.d (.str a)) (.d (.str b)) = some (.d (.bool (!(a == b))),h):=by simp [dM,aBin]
theorem aC9 (hl:a.length + b.length ≤ 4294967296):dM env .add t h (.d (.str a)) (.d (.str b)) = some (.d (.str (a ++ b)),h):=by
 have:a.length + b.length ≤ b5:=hl
 simp [dM,aBin,this]
theorem aB4:dM env .lss t h (.d (.str a)) (.d (.str b)) = some (.d (.bool (Op.bytesLess a b)),h):=by simp [dM,aBin]
end
theorem toNat_lt (b:UInt8):b.toNat < 256:=b.toNat_lt
theorem aH4 {b:UInt8}:IntKind.i64.wrap (b.toNat:Int) = b.toNat:=BS (by omega) (by have:=toNat_lt b; omega)
theorem MI {l:List UInt8} {n:Nat} {lo hi:Option Int} {h:H} (hn:n = l.length) (h0:0 ≤ lo.getD 0) (h1:lo.getD 0 ≤ hi.getD l.length) (h2:hi.getD l.length ≤ l.length):iU env.P h 22 (.d (.ivs n (bQ l))) lo hi = some (.d (.ivs ((l.drop (lo.getD 0).toNat).take ((hi.getD l.length).toNat - (lo.getD 0).toNat)).length (bQ ((l.drop (lo.getD 0).toNat).take ((hi.getD l.length).toNat - (lo.getD 0).toNat))))):=by
 subst hn
 simp only [iU,QC,YK,tO,h0,h1,h2,and_self,if_true,Nat.mul_one,Option.map_some,Nat.zero_lt_one,bQ,List.map_take,List.map_drop]
 congr 3
 rw [List.length_take,List.length_drop]
 omega
theorem DU {s:List UInt8} {lo hi:Option Int} {h:H} (h0:0 ≤ lo.getD 0) (h1:lo.getD 0 ≤ hi.getD s.length) (h2:hi.getD s.length ≤ s.length):iU env.P h 9 (.d (.str s)) lo hi = some (.d (.str ((s.drop (lo.getD 0).toNat).take ((hi.getD s.length).toNat - (lo.getD 0).toNat)))):=by
 simp only [iU,aA2,tO,h0,h1,h2,and_self,if_true,Option.map_some]
theorem aAc {l:List UInt8} {n:Nat} {u:Int} {h:H} (hn:n = l.length) (h0:0 ≤ u) (h1:u ≤ l.length):iU env.P h 22 (.d (.ivs n (bQ l))) none (some u) = some (.d (.ivs (l.take u.toNat).length (bQ (l.take u.toNat)))):=by
 rw [MI hn (by simp) (by simpa using h0) (by simpa using h1)]; simp
theorem UJ {l:List UInt8} {n:Nat} {u:Int} {h:H} (hn:n = l.length) (h0:0 ≤ u) (h1:u ≤ l.length):iU env.P h 22 (.d (.ivs n (bQ l))) (some u) none = some (.d (.ivs (l.drop u.toNat).length (bQ (l.drop u.toNat)))):=by
 rw [MI hn (by simpa using h0) (by simpa using h1) (by simp)]
 have:(List.take (l.length - u.toNat) (l.drop u.toNat)) = l.drop u.toNat:=List.take_of_length_le (by simp)
 simp [this]
theorem ZM {s:List UInt8} {u:Int} {h:H} (h0:0 ≤ u) (h1:u ≤ s.length):iU env.P h 9 (.d (.str s)) none (some u) = some (.d (.str (s.take u.toNat))):=by
 rw [DU (by simp) (by simpa using h0) (by simpa using h1)]; simp
theorem TZ {s:List UInt8} {u:Int} {h:H} (h0:0 ≤ u) (h1:u ≤ s.length):iU env.P h 9 (.d (.str s)) (some u) none = some (.d (.str (s.drop u.toNat))):=by
 rw [DU (by simpa using h0) (by simpa using h1) (by simp)]
 have:(List.take (s.length - u.toNat) (s.drop u.toNat)) = s.drop u.toNat:=List.take_of_length_le (by simp)
 simp [this]
theorem TT {s:List UInt8} {u v:Int} {h:H} (h0:0 ≤ u) (h1:u ≤ v) (h2:v ≤ s.length):iU env.P h 9 (.d (.str s)) (some u) (some v) = some (.d (.str ((s.drop u.toNat).take (v.toNat - u.toNat)))):=by
 rw [DU (by simpa using h0) (by simpa using h1) (by simpa using h2)]; simp
theorem aCL {h:H} {a b:Bool}:dM env .eql 4 h (.d (.bool a)) (.d (.bool b)) = some (.d (.bool (a == b)),h):=by simp [dM,aBin,aNil,aOC,eqlA]
theorem A0 {h:H} {a b:Bool}:dM env .neq 4 h (.d (.bool a)) (.d (.bool b)) = some (.d (.bool (!(a == b))),h):=by simp [dM,aBin,aNil,aOC,eqlA]
theorem LB:type_of% (AI @qB (AI @dN (AI @PD (AI @WO (AI @EW (AI @c8 (AI @O7 (AI @iN (AI @aCO (AI @aCP (AI @aBB (AI @aC9 (AI @aB4 (AI @aH4 (AI @aCL (AI @A0 @Int.toNat_natCast)))))))))))))))) :=
 ⟨@qB,@dN,@PD,@WO,@EW,@c8,@O7,@iN,@aCO,@aCP,@aBB,@aC9,@aB4,@aH4,@aCL,@A0,@Int.toNat_natCast⟩
theorem CV:type_of% (AI @aAc (AI @UJ (AI @ZM (AI @TZ @TT)))) :=
 ⟨@aAc,@UJ,@ZM,@TZ,@TT⟩
theorem DN:type_of% (AI @WD (AI @aBM (AI @WDD (AI @aCk @CV)))) :=
 ⟨@WD,@aBM,@WDD,@aCk,@CV⟩
theorem Dz {p:Prop} (h:p:=by first | assumption | exact ⟨by kernel_rfl⟩ | omega | (simp only [GT,LN] <;> omega)):p:=h
theorem UP:type_of% (AI @WK (AI @UN (AI @TY (AI @LB (AI @MD @BS))))) :=
 ⟨@WK,@UN,@TY,@LB,@MD,@BS⟩
end
end Ev
end Go.Proofs.YtppdfjdfjfoddaaDoor
