/-
  What the types of the program are.
-/
import Derived.Test.YtppdfjdfjfoddaaTy
import Derived.IntWalk
set_option linter.unusedSimpArgs false
namespace Go.Proofs.Ytppdfjdfjfoddaa
namespace Ev
theorem FO {n : Int} (h1 : -9223372036854775808 ≤ n) (h2 : n ≤ 9223372036854775807) : IntKind.i64.wrap n = n := IntWalk.i64_in n ⟨h1,h2⟩
theorem aSh {n : Int} (h1 : 0 ≤ n) (h2 : n ≤ 18446744073709551615) : IntKind.u64.wrap n = n := IntWalk.u64_in n ⟨h1,h2⟩
theorem aSF {n : Int} (h1 : 0 ≤ n) (h2 : n ≤ 255) : IntKind.u8.wrap n = n := IntWalk.u8_in n ⟨h1,h2⟩
theorem aBU : env.P.underlying 3 = some (.int .i64) := by kernel_rfl
theorem aSu : env.P.underlying 103 = some (.int .u64) := by kernel_rfl
theorem aJg : env.P.underlying 5 = some (.int .u8) := by kernel_rfl
theorem aKT : env.P.underlying 4 = some .bool := by kernel_rfl
theorem aAp : env.P.underlying 9 = some .string := by kernel_rfl
theorem cS : env.P.underlying 60 = some (.slice 3) := by kernel_rfl
theorem PH : env.P.underlying 22 = some (.slice 5) := by kernel_rfl
theorem aN6 : env.P.underlying 40 = some (.slice 9) := by kernel_rfl
theorem d6 : env.P.cellsOf 3 = 1 := by kernel_rfl
theorem WU : env.P.cellsOf 5 = 1 := by kernel_rfl
theorem aOY : env.P.cellsOf 9 = 1 := by kernel_rfl
theorem aSN : bM env.P 3 = true := by kernel_rfl
theorem aRg : bM env.P 5 = true := by kernel_rfl
theorem aSG : bR env.P 3 = some (.d (.int .i64 0)) := by kernel_rfl
theorem aRs : bR env.P 5 = some (.d (.int .u8 0)) := by kernel_rfl
theorem aFN {h : H} {n : Int} {K : IntKind} : f9 env.P h 3 103 (.d (.int K n)) = some (.d (.int .u64 (IntKind.u64.wrap n)),h) := mU aBU aSu
theorem aDr {h : H} {n : Int} {K : IntKind} : f9 env.P h 3 5 (.d (.int K n)) = some (.d (.int .u8 (IntKind.u8.wrap n)),h) := mU aBU aJg
def ints (l : List Int) : List D := l.map (.int .i64)
def bL (l : List UInt8) : List D := l.map fun b => .int .u8 b.toNat
abbrev rdO (c : List UInt8) (p : Int) : O := .box [.d (.ivs c.length (bL c)),.d (.int .i64 p)]
abbrev Dw (m f : Nat) (xs : List A) (r : A) (c : List UInt8) (p q : Int) : Prop := ∀ (R : Type) (L n : Nat) (hq : H) (k : A → H → Option R),m ≤ n → 2 ^ 60 ≤ L → aM env (aA env L n) (rdO c p :: hq) f (.ptr 0 0 0 :: xs) k = k r (rdO c q :: hq)
theorem aKr : bG env.P 60 = some 3 := by simp only [bG,cS]
theorem aIP : bG env.P 22 = some 5 := by simp only [bG,PH]
theorem dT {l : List Int} : (ints l).length = l.length := by simp [ints]
theorem fO {l : List Int} {v : Int} : ints l ++ [.int .i64 v] = ints (l ++ [v]) := by simp [ints]
theorem rU : ints [] = [] := rfl
theorem b9 {l : List Int} {k : Nat} (h : l.length ≤ k) : (ints l).take k = ints l := List.take_of_length_le (by rw [dT]; exact h)
theorem UF {l : List Int} {k : Nat} (h : k < l.length) : (((ints l).drop k).map A.d).head? = some (.d (.int .i64 (l.getD k 0))) := by
 rw [List.head?_map,List.head?_drop,ints,List.getElem?_map,List.getD_eq_getElem?_getD,List.getElem?_eq_getElem h]
 rfl
section
theorem HQ {α : Type} (f : α → D) (l : List α) (k : Nat) (v : α) (h : k < l.length) : bI (l.map f) k [f v] = (l.set k v).map f := by
 unfold bI
 rw [List.map_set]
 have : k < (l.map f).length := by simpa using h
 generalize l.map f = m at *
 rw [List.set_eq_take_append_cons_drop,if_pos this]
 simp
theorem o7 {l : List UInt8} : (bL l).length = l.length := by simp [bL]
theorem aKd : bL [] = [] := rfl
theorem aOi {e g : Nat} : O.arr [] e g = O.arr (ints []) e g := rfl
theorem M4 {l : List UInt8} {v : UInt8} : bL l ++ [.int .u8 (v.toNat : Int)] = bL (l ++ [v]) := by simp [bL]
theorem D3 {l : List UInt8} {k : Nat} (h : l.length ≤ k) : (bL l).take k = bL l := List.take_of_length_le (by rw [o7]; exact h)
theorem NL {l : List UInt8} {k : Nat} (h : k < l.length) : (((bL l).drop k).map A.d).head? = some (.d (.int .u8 ((l.getD k 0).toNat : Int))) := by
 rw [List.head?_map,List.head?_drop,bL,List.getElem?_map,List.getD_eq_getElem?_getD,List.getElem?_eq_getElem h]
 rfl
theorem aKQ {l : List UInt8} {k : Nat} {v : UInt8} (h : k < l.length) : bI (bL l) k [.int .u8 (v.toNat : Int)] = bL (l.set k v) := HQ _ l k v h
theorem QC {l : List Int} {k : Nat} {v : Int} (h : k < l.length) : bI (ints l) k [.int .i64 v] = ints (l.set k v) := HQ _ l k v h
theorem aE2 : ∀ l : List UInt8,IG (bL l) = some l
 | [] => rfl
 | b :: l => by
  have ih := aE2 l
  unfold bL at ih ⊢
  simp only [List.map_cons,IG,ih,Option.map_some]
  simp
theorem getElem?_zero_cons {o : O} {h : H} : (o :: h)[0]? = some o := rfl
theorem OF {l : List UInt8} {g len : Nat} {h : H} (hl : len = l.length) : f9 env.P (.arr (bL l) 1 g :: h) 22 9 (.sl 0 g 0 len) = some (.d (.str l),.arr (bL l) 1 g :: h) := by
 subst hl
 simp only [f9,PH,aAp,aJg,dO,getElem?_zero_cons,o7,true_and,or_true,Nat.mul_one,Nat.zero_add,Nat.le_refl,and_self,if_true,List.drop_zero,D3 (Nat.le_refl _),aE2,Option.map_some]
theorem aHS {α : Type} (x : α) : ∀ n : Nat,(List.replicate n [x]).flatten = List.replicate n x
 | 0 => rfl
 | n + 1 => by simp [List.replicate_succ,aHS x n]
theorem KW {n : Int} {h : H} (h0 : 0 ≤ n) (h1 : n ≤ 4294967296) : lB env.P h 60 n n = some (.sl h.length 0 0 n.toNat,h ++ [.arr (ints (List.replicate n.toNat 0)) 1 0]) := by
 have hm : n ≤ (b5 : Nat) := by unfold b5; omega
 simp only [lB,aKr,aSG,aQ,AB,Option.map_some,aSN,h0,hm,d6,Int.le_refl,and_self,if_true,aHS,ints,List.map_replicate]
theorem aBa {i : Int} {s : List UInt8} (h0 : 0 ≤ i) (h : i < s.length) : OY env.P 9 (.d (.str s)) i = some (.d (.int .u8 ((s.getD i.toNat 0).toNat))) := by
 have hk : i.toNat < s.length := by omega
 simp only [OY,aAp,if_pos h0,List.getD_eq_getElem?_getD,List.getElem?_eq_getElem hk,Option.map_some,Option.getD_some]
theorem take_set {α : Type} {l : List α} {k : Nat} {v : α} (h : k < l.length) : (l.set k v).take (k + 1) = l.take k ++ [v] := by
 rw [List.take_set,List.take_add_one,List.getElem?_eq_getElem h]
 simp only [Option.toList_some]
 have hl : (l.take k).length = k := by rw [List.length_take]; omega
 rw [List.set_append_right _ _ (by omega),hl,Nat.sub_self]
 rfl
theorem aQ6 {o : O} {h : H} {id : Nat} (hs : h[id]? = some o) : h.set id o = h := by
 apply List.ext_getElem?
 intro j
 rw [List.getElem?_set]
 obtain ⟨hl,he⟩ := List.getElem?_eq_some_iff.1 hs
 by_cases e : id = j
 ·subst e; simp [hl,he]
 ·simp [e]
theorem A7 {h : H} {id gen off esz : Nat} {t : TypeId} {cs : List D} {d : D} (hid : h[id]? = some (.arr cs esz gen)) (c1 : env.P.cellsOf t = 1) (hi : (env.P.info? t).isSome = true) (hd : cT (.d d) = true) (hk : off < cs.length) :
  nM env.P h t (.ptr id gen off) (.d d) = some (h.set id (.arr (bI cs off [d]) esz gen)) := by
 have hc : (aQ (.d d)).length = env.P.cellsOf t ∧ (env.P.info? t).isSome = true ∧ (aQ (.d d)).all cT = true := ⟨by rw [c1]; rfl,hi,by simp [aQ,hd]⟩
 have hf : frzL h (aQ (.d d)) = some ([d],h) := rfl
 unfold nM
 rw [if_pos hc]
 simp only [hid,hf,c1,true_and]
 rw [if_pos (by omega)]
theorem aRh : (env.P.info? 5).isSome = true := by kernel_rfl
theorem aQ1 : (env.P.info? 3).isSome = true := by kernel_rfl
theorem aLw : (env.P.info? 4).isSome = true := by kernel_rfl
theorem sI : env.P.cellsOf 4 = 1 := by kernel_rfl
theorem aOf {h : H} {g e k : Nat} {l : List UInt8} {b : UInt8} (hk : k < l.length) : nM env.P (.arr (bL l) e g :: h) 5 (.ptr 0 g k) (.d (.int .u8 (b.toNat : Int))) = some (.arr (bL (l.set k b)) e g :: h) := by
 rw [A7 (id := 0) rfl WU aRh rfl (by rw [o7]; exact hk),aKQ hk]
 rfl
theorem H7 {h : H} {g e k : Nat} {l : List Int} {b : Int} (hk : k < l.length) : nM env.P (.arr (ints l) e g :: h) 3 (.ptr 0 g k) (.d (.int .i64 b)) = some (.arr (ints (l.set k b)) e g :: h) := by
 rw [A7 (id := 0) rfl d6 aQ1 rfl (by rw [dT]; exact hk),QC hk]
 rfl
theorem aJm {o : O} {h : H} {g e k : Nat} {l : List Int} {b : Int} (hk : k < l.length) : nM env.P (o :: .arr (ints l) e g :: h) 3 (.ptr 1 g k) (.d (.int .i64 b)) = some (o :: .arr (ints (l.set k b)) e g :: h) := by
 rw [A7 (id := 1) rfl d6 aQ1 rfl (by rw [dT]; exact hk),QC hk]
 rfl
section
variable {t : TypeId} {h : H} {a b : List UInt8}
theorem aAV : cV env .eql t h (.d (.str a)) (.d (.str b)) = some (.d (.bool (a == b)),h) := by simp [cV,aBin]
theorem aBr : cV env .neq t h (.d (.str a)) (.d (.str b)) = some (.d (.bool (!(a == b))),h) := by simp [cV,aBin]
theorem aAS (hl : a.length + b.length ≤ 4294967296) : cV env .add t h (.d (.str a)) (.d (.str b)) = some (.d (.str (a ++ b)),h) := by
 have : a.length + b.length ≤ b5 := hl
 simp [cV,aBin,this]
theorem aCB : cV env .lss t h (.d (.str a)) (.d (.str b)) = some (.d (.bool (Op.bytesLess a b)),h) := by simp [cV,aBin]
end
theorem toNat_lt (b : UInt8) : b.toNat < 256 := b.toNat_lt
theorem aHa {b : UInt8} : IntKind.i64.wrap (b.toNat : Int) = b.toNat := FO (by omega) (by have := toNat_lt b; omega)
theorem JV {l : List UInt8} {n : Nat} {lo hi : Option Int} {h : H} (hn : n = l.length) (h0 : 0 ≤ lo.getD 0) (h1 : lo.getD 0 ≤ hi.getD l.length) (h2 : hi.getD l.length ≤ l.length) : gS env.P h 22 (.d (.ivs n (bL l))) lo hi = some (.d (.ivs ((l.drop (lo.getD 0).toNat).take ((hi.getD l.length).toNat - (lo.getD 0).toNat)).length (bL ((l.drop (lo.getD 0).toNat).take ((hi.getD l.length).toNat - (lo.getD 0).toNat))))) := by
 subst hn
 simp only [gS,PH,WU,sR,h0,h1,h2,and_self,if_true,Nat.mul_one,Option.map_some,Nat.zero_lt_one,bL,List.map_take,List.map_drop]
 congr 3
 rw [List.length_take,List.length_drop]
 omega
theorem DW {s : List UInt8} {lo hi : Option Int} {h : H} (h0 : 0 ≤ lo.getD 0) (h1 : lo.getD 0 ≤ hi.getD s.length) (h2 : hi.getD s.length ≤ s.length) : gS env.P h 9 (.d (.str s)) lo hi = some (.d (.str ((s.drop (lo.getD 0).toNat).take ((hi.getD s.length).toNat - (lo.getD 0).toNat)))) := by
 simp only [gS,aAp,sR,h0,h1,h2,and_self,if_true,Option.map_some]
theorem ZG {l : List UInt8} {n : Nat} {u : Int} {h : H} (hn : n = l.length) (h0 : 0 ≤ u) (h1 : u ≤ l.length) : gS env.P h 22 (.d (.ivs n (bL l))) none (some u) = some (.d (.ivs (l.take u.toNat).length (bL (l.take u.toNat)))) := by
 rw [JV hn (by simp) (by simpa using h0) (by simpa using h1)]; simp
theorem RT {l : List UInt8} {n : Nat} {u : Int} {h : H} (hn : n = l.length) (h0 : 0 ≤ u) (h1 : u ≤ l.length) : gS env.P h 22 (.d (.ivs n (bL l))) (some u) none = some (.d (.ivs (l.drop u.toNat).length (bL (l.drop u.toNat)))) := by
 rw [JV hn (by simpa using h0) (by simpa using h1) (by simp)]
 have : (List.take (l.length - u.toNat) (l.drop u.toNat)) = l.drop u.toNat := List.take_of_length_le (by simp)
 simp [this]
theorem YD {s : List UInt8} {u : Int} {h : H} (h0 : 0 ≤ u) (h1 : u ≤ s.length) : gS env.P h 9 (.d (.str s)) none (some u) = some (.d (.str (s.take u.toNat))) := by
 rw [DW (by simp) (by simpa using h0) (by simpa using h1)]; simp
theorem R2 {s : List UInt8} {u : Int} {h : H} (h0 : 0 ≤ u) (h1 : u ≤ s.length) : gS env.P h 9 (.d (.str s)) (some u) none = some (.d (.str (s.drop u.toNat))) := by
 rw [DW (by simpa using h0) (by simpa using h1) (by simp)]
 have : (List.take (s.length - u.toNat) (s.drop u.toNat)) = s.drop u.toNat := List.take_of_length_le (by simp)
 simp [this]
theorem Q8 {s : List UInt8} {u v : Int} {h : H} (h0 : 0 ≤ u) (h1 : u ≤ v) (h2 : v ≤ s.length) : gS env.P h 9 (.d (.str s)) (some u) (some v) = some (.d (.str ((s.drop u.toNat).take (v.toNat - u.toNat)))) := by
 rw [DW (by simpa using h0) (by simpa using h1) (by simpa using h2)]; simp
theorem aA7 {h : H} {a b : Bool} : cV env .eql 4 h (.d (.bool a)) (.d (.bool b)) = some (.d (.bool (a == b)),h) := by simp [cV,aBin,aNil,aKT,eqlA]
theorem aCg {h : H} {a b : Bool} : cV env .neq 4 h (.d (.bool a)) (.d (.bool b)) = some (.d (.bool (!(a == b))),h) := by simp [cV,aBin,aNil,aKT,eqlA]
theorem LB : type_of% (AI @o7 (AI @dT (AI @NL (AI @UF (AI @D3 (AI @b9 (AI @M4 (AI @fO (AI @aBa (AI @aAV (AI @aBr (AI @aAS (AI @aCB (AI @aHa (AI @aA7 (AI @aCg @Int.toNat_natCast)))))))))))))))) :=
 ⟨@o7,@dT,@NL,@UF,@D3,@b9,@M4,@fO,@aBa,@aAV,@aBr,@aAS,@aCB,@aHa,@aA7,@aCg,@Int.toNat_natCast⟩
theorem CV : type_of% (AI @ZG (AI @RT (AI @YD (AI @R2 @Q8)))) :=
 ⟨@ZG,@RT,@YD,@R2,@Q8⟩
theorem DN : type_of% (AI @WD (AI @aBc (AI @WDD (AI @aBl @CV)))) :=
 ⟨@WD,@aBc,@WDD,@aBl,@CV⟩
theorem Dz {p : Prop} (h : p := by first | assumption | exact ⟨by kernel_rfl⟩ | omega | (simp only [GT,LN] <;> omega)) : p := h
theorem UP : type_of% (AI @WK (AI @UN (AI @TY (AI @LB (AI @MD @FO))))) :=
 ⟨@WK,@UN,@TY,@LB,@MD,@FO⟩
end
end Ev
end Go.Proofs.Ytppdfjdfjfoddaa
