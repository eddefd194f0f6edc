/-
  What the types of the program are.
-/
import Derived.Test.YtppdfjdfjfoddaaGreatTy
import Derived.IntWalk
set_option linter.unusedSimpArgs false
namespace Go.Proofs.YtppdfjdfjfoddaaGreat
namespace Ev
theorem CA {n:Int} (h1:-9223372036854775808 ≤ n) (h2:n ≤ 9223372036854775807):IntKind.i64.wrap n = n:=IntWalk.i64_in n ⟨h1,h2⟩
theorem aUb {n:Int} (h1:0 ≤ n) (h2:n ≤ 18446744073709551615):IntKind.u64.wrap n = n:=IntWalk.u64_in n ⟨h1,h2⟩
theorem aUf {n:Int} (h1:0 ≤ n) (h2:n ≤ 255):IntKind.u8.wrap n = n:=IntWalk.u8_in n ⟨h1,h2⟩
theorem MG:env.P.underlying 3 = some (.int .i64):=by kernel_rfl
theorem aUa:env.P.underlying 61 = some (.int .u64):=by kernel_rfl
theorem aD3:env.P.underlying 5 = some (.int .u8):=by kernel_rfl
theorem aOr:env.P.underlying 4 = some .bool:=by kernel_rfl
theorem qK:env.P.underlying 9 = some .string:=by kernel_rfl
theorem b9:env.P.underlying 46 = some (.slice 3):=by kernel_rfl
theorem PC:env.P.underlying 22 = some (.slice 5):=by kernel_rfl
theorem dQ:env.P.cellsOf 3 = 1:=by kernel_rfl
theorem YB:env.P.cellsOf 5 = 1:=by kernel_rfl
theorem aUk:bU env.P 3 = true:=by kernel_rfl
theorem aS8:bU env.P 5 = true:=by kernel_rfl
theorem aUh:bY env.P 3 = some (.d (.int .i64 0)):=by kernel_rfl
theorem aSC:bY env.P 5 = some (.d (.int .u8 0)):=by kernel_rfl
theorem aGK {h:H} {n:Int} {K:IntKind}:fO env.P h 3 61 (.d (.int K n)) = some (.d (.int .u64 (IntKind.u64.wrap n)),h):=mH MG aUa
theorem aEq {h:H} {n:Int} {K:IntKind}:fO env.P h 3 5 (.d (.int K n)) = some (.d (.int .u8 (IntKind.u8.wrap n)),h):=mH MG aD3
theorem aEm {h:H} {n:Int} {K:IntKind}:fO env.P h 5 3 (.d (.int K n)) = some (.d (.int .i64 (IntKind.i64.wrap n)),h):=mH aD3 MG
def ints (l:List Int):List D:=l.map (.int .i64)
def bT (l:List UInt8):List D:=l.map fun b => .int .u8 b.toNat
abbrev rdO (c:List UInt8) (p:Int):O:=.box [.d (.ivs c.length (bT c)),.d (.int .i64 p)]
abbrev Dw (m f:Nat) (xs:List A) (r:A) (c:List UInt8) (p q:Int):Prop:=∀ (R:Type) (L n:Nat) (hq:H) (k:A → H → Option R),m ≤ n → 2 ^ 60 ≤ L → aL env (aA env L n) (rdO c p :: hq) f (.ptr 0 0 0 :: xs) k = k r (rdO c q :: hq)
theorem aLM:bM env.P 46 = some 3:=by simp only [bM,b9]
theorem aJZ:bM env.P 22 = some 5:=by simp only [bM,PC]
theorem dM {l:List Int}:(ints l).length = l.length:=by simp [ints]
theorem eU {l:List Int} {v:Int}:ints l ++ [.int .i64 v] = ints (l ++ [v]):=by simp [ints]
theorem qL:ints [] = []:=rfl
theorem bX {l:List Int} {k:Nat} (h:l.length ≤ k):(ints l).take k = ints l:=List.take_of_length_le (by rw [dM]; exact h)
theorem WJ {l:List Int} {k:Nat} (h:k < l.length):(((ints l).drop k).map A.d).head? = some (.d (.int .i64 (l.getD k 0))):=by
 rw [List.head?_map,List.head?_drop,ints,List.getElem?_map,List.getD_eq_getElem?_getD,List.getElem?_eq_getElem h]
 rfl
section
theorem IS {α:Type} (f:α → D) (l:List α) (k:Nat) (v:α) (h:k < l.length):bR (l.map f) k [f v] = (l.set k v).map f:=by
 unfold bR
 rw [List.map_set]
 have:k < (l.map f).length:=by simpa using h
 generalize l.map f = m at *
 rw [List.set_eq_take_append_cons_drop,if_pos this]
 simp
theorem pT {l:List UInt8}:(bT l).length = l.length:=by simp [bT]
theorem aL1:bT [] = []:=rfl
theorem aQF {e g:Nat}:O.arr [] e g = O.arr (ints []) e g:=rfl
theorem OZ {l:List UInt8} {v:UInt8}:bT l ++ [.int .u8 (v.toNat:Int)] = bT (l ++ [v]):=by simp [bT]
theorem EV {l:List UInt8} {k:Nat} (h:l.length ≤ k):(bT l).take k = bT l:=List.take_of_length_le (by rw [pT]; exact h)
theorem OV {l:List UInt8} {k:Nat} (h:k < l.length):(((bT l).drop k).map A.d).head? = some (.d (.int .u8 ((l.getD k 0).toNat:Int))):=by
 rw [List.head?_map,List.head?_drop,bT,List.getElem?_map,List.getD_eq_getElem?_getD,List.getElem?_eq_getElem h]
 rfl
theorem aL3 {l:List UInt8} {k:Nat} {v:UInt8} (h:k < l.length):bR (bT l) k [.int .u8 (v.toNat:Int)] = bT (l.set k v):=IS _ l k v h
theorem Q5 {l:List Int} {k:Nat} {v:Int} (h:k < l.length):bR (ints l) k [.int .i64 v] = ints (l.set k v):=IS _ l k v h
theorem aE6:∀ l:List UInt8,K5 (bT l) = some l
 | [] => rfl
 | b :: l => by
  have ih:=aE6 l
  unfold bT at ih ⊢
  simp only [List.map_cons,K5,ih,Option.map_some]
  simp
theorem getElem?_zero_cons {o:O} {h:H}:(o :: h)[0]? = some o:=rfl
theorem PS {l:List UInt8} {g len:Nat} {h:H} (hl:len = l.length):fO env.P (.arr (bT l) 1 g :: h) 22 9 (.sl 0 g 0 len) = some (.d (.str l),.arr (bT l) 1 g :: h):=by
 subst hl
 simp only [fO,PC,qK,aD3,dX,getElem?_zero_cons,pT,true_and,or_true,Nat.mul_one,Nat.zero_add,Nat.le_refl,and_self,if_true,List.drop_zero,EV (Nat.le_refl _),aE6,Option.map_some]
theorem aHl {α:Type} (x:α):∀ n:Nat,(List.replicate n [x]).flatten = List.replicate n x
 | 0 => rfl
 | n + 1 => by simp [List.replicate_succ,aHl x n]
theorem MA {n:Int} {h:H} (h0:0 ≤ n) (h1:n ≤ 4294967296):lN env.P h 46 n n = some (.sl h.length 0 0 n.toNat,h ++ [.arr (ints (List.replicate n.toNat 0)) 1 0]):=by
 have hm:n ≤ (cE:Nat):=by unfold cE; omega
 simp only [lN,aLM,aUh,aT,BO,Option.map_some,aUk,h0,hm,dQ,Int.le_refl,and_self,if_true,aHl,ints,List.map_replicate]
theorem RZ {i:Int} {s:List UInt8} (h0:0 ≤ i) (h:i < s.length):QK env.P 9 (.d (.str s)) i = some (.d (.int .u8 ((s.getD i.toNat 0).toNat))):=by
 have hk:i.toNat < s.length:=by omega
 simp only [QK,qK,if_pos h0,List.getD_eq_getElem?_getD,List.getElem?_eq_getElem hk,Option.map_some,Option.getD_some]
theorem take_set {α:Type} {l:List α} {k:Nat} {v:α} (h:k < l.length):(l.set k v).take (k + 1) = l.take k ++ [v]:=by
 rw [List.take_set,List.take_add_one,List.getElem?_eq_getElem h]
 simp only [Option.toList_some]
 have hl:(l.take k).length = k:=by rw [List.length_take]; omega
 rw [List.set_append_right _ _ (by omega),hl,Nat.sub_self]
 rfl
theorem aTr {o:O} {h:H} {id:Nat} (hs:h[id]? = some o):h.set id o = h:=by
 apply List.ext_getElem?
 intro j
 rw [List.getElem?_set]
 obtain ⟨hl,he⟩:=List.getElem?_eq_some_iff.1 hs
 by_cases e:id = j
 ·subst e; simp [hl,he]
 ·simp [e]
theorem BE {h:H} {id gen off esz:Nat} {t:TypeId} {cs:List D} {d:D} (hid:h[id]? = some (.arr cs esz gen)) (c1:env.P.cellsOf t = 1) (hi:(env.P.info? t).isSome = true) (hd:c7 (.d d) = true) (hk:off < cs.length) :
  oE env.P h t (.ptr id gen off) (.d d) = some (h.set id (.arr (bR cs off [d]) esz gen)):=by
 have hc:(aT (.d d)).length = env.P.cellsOf t ∧ (env.P.info? t).isSome = true ∧ (aT (.d d)).all c7 = true:=⟨by rw [c1]; rfl,hi,by simp [aT,hd]⟩
 have hf:frzL h (aT (.d d)) = some ([d],h):=rfl
 unfold oE
 rw [if_pos hc]
 simp only [hid,hf,c1,true_and]
 rw [if_pos (by omega)]
theorem aTx:(env.P.info? 5).isSome = true:=by kernel_rfl
theorem aRz:(env.P.info? 3).isSome = true:=by kernel_rfl
theorem aOa:(env.P.info? 4).isSome = true:=by kernel_rfl
theorem tE:env.P.cellsOf 4 = 1:=by kernel_rfl
theorem aPT {h:H} {g e k:Nat} {l:List UInt8} {b:UInt8} (hk:k < l.length):oE env.P (.arr (bT l) e g :: h) 5 (.ptr 0 g k) (.d (.int .u8 (b.toNat:Int))) = some (.arr (bT (l.set k b)) e g :: h):=by
 rw [BE (id:=0) rfl YB aTx rfl (by rw [pT]; exact hk),aL3 hk]
 rfl
theorem I9 {h:H} {g e k:Nat} {l:List Int} {b:Int} (hk:k < l.length):oE env.P (.arr (ints l) e g :: h) 3 (.ptr 0 g k) (.d (.int .i64 b)) = some (.arr (ints (l.set k b)) e g :: h):=by
 rw [BE (id:=0) rfl dQ aRz rfl (by rw [dM]; exact hk),Q5 hk]
 rfl
theorem aLf {o:O} {h:H} {g e k:Nat} {l:List Int} {b:Int} (hk:k < l.length):oE env.P (o :: .arr (ints l) e g :: h) 3 (.ptr 1 g k) (.d (.int .i64 b)) = some (o :: .arr (ints (l.set k b)) e g :: h):=by
 rw [BE (id:=1) rfl dQ aRz rfl (by rw [dM]; exact hk),Q5 hk]
 rfl
section
variable {t:TypeId} {h:H} {a b:List UInt8}
theorem aCE:c9 env .eql t h (.d (.str a)) (.d (.str b)) = some (.d (.bool (a == b)),h):=by simp [c9,aBin]
theorem aDc:c9 env .neq t h (.d (.str a)) (.d (.str b)) = some (.d (.bool (!(a == b))),h):=by simp [c9,aBin]
theorem aDt (hl:a.length + b.length ≤ 4294967296):c9 env .add t h (.d (.str a)) (.d (.str b)) = some (.d (.str (a ++ b)),h):=by
 have:a.length + b.length ≤ cE:=hl
 simp [c9,aBin,this]
theorem aB7:c9 env .lss t h (.d (.str a)) (.d (.str b)) = some (.d (.bool (Op.bytesLess a b)),h):=by simp [c9,aBin]
end
theorem toNat_lt (b:UInt8):b.toNat < 256:=b.toNat_lt
theorem aBE {b:UInt8}:IntKind.i64.wrap (b.toNat:Int) = b.toNat:=CA (by omega) (by have:=toNat_lt b; omega)
theorem KD {l:List UInt8} {n:Nat} {lo hi:Option Int} {h:H} (hn:n = l.length) (h0:0 ≤ lo.getD 0) (h1:lo.getD 0 ≤ hi.getD l.length) (h2:hi.getD l.length ≤ l.length):jM env.P h 22 (.d (.ivs n (bT l))) lo hi = some (.d (.ivs ((l.drop (lo.getD 0).toNat).take ((hi.getD l.length).toNat - (lo.getD 0).toNat)).length (bT ((l.drop (lo.getD 0).toNat).take ((hi.getD l.length).toNat - (lo.getD 0).toNat))))):=by
 subst hn
 simp only [jM,PC,YB,AD,h0,h1,h2,and_self,if_true,Nat.mul_one,Option.map_some,Nat.zero_lt_one,bT,List.map_take,List.map_drop]
 congr 3
 rw [List.length_take,List.length_drop]
 omega
theorem EK {s:List UInt8} {lo hi:Option Int} {h:H} (h0:0 ≤ lo.getD 0) (h1:lo.getD 0 ≤ hi.getD s.length) (h2:hi.getD s.length ≤ s.length):jM env.P h 9 (.d (.str s)) lo hi = some (.d (.str ((s.drop (lo.getD 0).toNat).take ((hi.getD s.length).toNat - (lo.getD 0).toNat)))):=by
 simp only [jM,qK,AD,h0,h1,h2,and_self,if_true,Option.map_some]
theorem aAB {l:List UInt8} {n:Nat} {u:Int} {h:H} (hn:n = l.length) (h0:0 ≤ u) (h1:u ≤ l.length):jM env.P h 22 (.d (.ivs n (bT l))) none (some u) = some (.d (.ivs (l.take u.toNat).length (bT (l.take u.toNat)))):=by
 rw [KD hn (by simp) (by simpa using h0) (by simpa using h1)]; simp
theorem TI {l:List UInt8} {n:Nat} {u:Int} {h:H} (hn:n = l.length) (h0:0 ≤ u) (h1:u ≤ l.length):jM env.P h 22 (.d (.ivs n (bT l))) (some u) none = some (.d (.ivs (l.drop u.toNat).length (bT (l.drop u.toNat)))):=by
 rw [KD hn (by simpa using h0) (by simpa using h1) (by simp)]
 have:(List.take (l.length - u.toNat) (l.drop u.toNat)) = l.drop u.toNat:=List.take_of_length_le (by simp)
 simp [this]
theorem aAU {s:List UInt8} {u:Int} {h:H} (h0:0 ≤ u) (h1:u ≤ s.length):jM env.P h 9 (.d (.str s)) none (some u) = some (.d (.str (s.take u.toNat))):=by
 rw [EK (by simp) (by simpa using h0) (by simpa using h1)]; simp
theorem SB {s:List UInt8} {u:Int} {h:H} (h0:0 ≤ u) (h1:u ≤ s.length):jM env.P h 9 (.d (.str s)) (some u) none = some (.d (.str (s.drop u.toNat))):=by
 rw [EK (by simpa using h0) (by simpa using h1) (by simp)]
 have:(List.take (s.length - u.toNat) (s.drop u.toNat)) = s.drop u.toNat:=List.take_of_length_le (by simp)
 simp [this]
theorem SX {s:List UInt8} {u v:Int} {h:H} (h0:0 ≤ u) (h1:u ≤ v) (h2:v ≤ s.length):jM env.P h 9 (.d (.str s)) (some u) (some v) = some (.d (.str ((s.drop u.toNat).take (v.toNat - u.toNat)))):=by
 rw [EK (by simpa using h0) (by simpa using h1) (by simpa using h2)]; simp
theorem aDk {h:H} {a b:Bool}:c9 env .eql 4 h (.d (.bool a)) (.d (.bool b)) = some (.d (.bool (a == b)),h):=by simp [c9,aBin,aNil,aOr,eqlA]
theorem aB6 {h:H} {a b:Bool}:c9 env .neq 4 h (.d (.bool a)) (.d (.bool b)) = some (.d (.bool (!(a == b))),h):=by simp [c9,aBin,aNil,aOr,eqlA]
theorem LB:type_of% (AI @pT (AI @dM (AI @OV (AI @WJ (AI @EV (AI @bX (AI @OZ (AI @eU (AI @RZ (AI @aCE (AI @aDc (AI @aDt (AI @aB7 (AI @aBE (AI @aDk (AI @aB6 @Int.toNat_natCast)))))))))))))))) :=
 ⟨@pT,@dM,@OV,@WJ,@EV,@bX,@OZ,@eU,@RZ,@aCE,@aDc,@aDt,@aB7,@aBE,@aDk,@aB6,@Int.toNat_natCast⟩
theorem CV:type_of% (AI @aAB (AI @TI (AI @aAU (AI @SB @SX)))) :=
 ⟨@aAB,@TI,@aAU,@SB,@SX⟩
theorem DN:type_of% (AI @WD (AI @aDg (AI @WDD (AI @aCV @CV)))) :=
 ⟨@WD,@aDg,@WDD,@aCV,@CV⟩
theorem Dz {p:Prop} (h:p:=by first | assumption | exact ⟨by kernel_rfl⟩ | omega | (simp only [GT,LN] <;> omega)):p:=h
theorem UP:type_of% (AI @WK (AI @UN (AI @TY (AI @LB (AI @MD @CA))))) :=
 ⟨@WK,@UN,@TY,@LB,@MD,@CA⟩
end
end Ev
end Go.Proofs.YtppdfjdfjfoddaaGreat
