/-
  What the types of the program are.
-/
import Derived.Test.YtppdfjdfjfoddaaTy
import Derived.IntWalk
set_option linter.unusedSimpArgs false
namespace Go.Proofs.Ytppdfjdfjfoddaa
namespace Ev
theorem xoa {n : Int} (h1 : -9223372036854775808 ≤ n) (h2 : n ≤ 9223372036854775807) : IntKind.i64.wrap n = n := IntWalk.i64_in n ⟨h1,h2⟩
theorem x24s {n : Int} (h1 : 0 ≤ n) (h2 : n ≤ 18446744073709551615) : IntKind.u64.wrap n = n := IntWalk.u64_in n ⟨h1,h2⟩
theorem x254 {n : Int} (h1 : 0 ≤ n) (h2 : n ≤ 255) : IntKind.u8.wrap n = n := IntWalk.u8_in n ⟨h1,h2⟩
theorem x1bg : env.P.underlying 3 = some (.int .i64) := by kernel_rfl
theorem x247 : env.P.underlying 103 = some (.int .u64) := by kernel_rfl
theorem x1pb : env.P.underlying 5 = some (.int .u8) := by kernel_rfl
theorem x1um : env.P.underlying 4 = some .bool := by kernel_rfl
theorem x19p : env.P.underlying 9 = some .string := by kernel_rfl
theorem x2m : env.P.underlying 60 = some (.slice 3) := by kernel_rfl
theorem xx5 : env.P.underlying 22 = some (.slice 5) := by kernel_rfl
theorem x5m : env.P.cellsOf 3 = 1 := by kernel_rfl
theorem x15p : env.P.cellsOf 5 = 1 := by kernel_rfl
theorem x255 : x15 env.P 3 = true := by kernel_rfl
theorem x23u : x15 env.P 5 = true := by kernel_rfl
theorem x250 : x17 env.P 3 = some (.d (.int .i64 0)) := by kernel_rfl
theorem x23f : x17 env.P 5 = some (.d (.int .u8 0)) := by kernel_rfl
theorem x1je {h : H} {n : Int} {K : IntKind} : x4e env.P h 3 103 (.d (.int K n)) = some (.d (.int .u64 (IntKind.u64.wrap n)),h) := x91 x1bg x247
theorem x1eq {h : H} {n : Int} {K : IntKind} : x4e env.P h 3 5 (.d (.int K n)) = some (.d (.int .u8 (IntKind.u8.wrap n)),h) := x91 x1bg x1pb
def ints (l : List Int) : List D := l.map (.int .i64)
def x26 (l : List UInt8) : List D := l.map fun b => .int .u8 b.toNat
abbrev rdO (c : List UInt8) (p : Int) : O := .box [.d (.ivs c.length (x26 c)),.d (.int .i64 p)]
abbrev Dw (m f : Nat) (xs : List A) (r : A) (c : List UInt8) (p q : Int) : Prop := ∀ (R : Type) (L n : Nat) (hq : H) (k : A → H → Option R),m ≤ n → 2 ^ 60 ≤ L → x4 env (x2 env L n) (rdO c p :: hq) f (.ptr 0 0 0 :: xs) k = k r (rdO c q :: hq)
theorem x1r3 : x13 env.P 60 = some 3 := by simp only [x13,x2m]
theorem x1o8 : x13 env.P 22 = some 5 := by simp only [x13,xx5]
theorem x36 {l : List Int} : (ints l).length = l.length := by simp [ints]
theorem x53 {l : List Int} {v : Int} : ints l ++ [.int .i64 v] = ints (l ++ [v]) := by simp [ints]
theorem xhy : ints [] = [] := rfl
theorem x23 {l : List Int} {k : Nat} (h : l.length ≤ k) : (ints l).take k = ints l := List.take_of_length_le (by rw [x36]; exact h)
theorem x14i {l : List Int} {k : Nat} (h : k < l.length) : (((ints l).drop k).map A.d).head? = some (.d (.int .i64 (l.getD k 0))) := by
 rw [List.head?_map,List.head?_drop,ints,List.getElem?_map,List.getD_eq_getElem?_getD,List.getElem?_eq_getElem h]
 rfl
section
theorem xjt {α : Type} (f : α → D) (l : List α) (k : Nat) (v : α) (h : k < l.length) : x35 (l.map f) k [f v] = (l.set k v).map f := by
 unfold x35
 rw [List.map_set]
 have : k < (l.map f).length := by simpa using h
 generalize l.map f = m at *
 rw [List.set_eq_take_append_cons_drop,if_pos this]
 simp
theorem xaq {l : List UInt8} : (x26 l).length = l.length := by simp [x26]
theorem x1s9 : x26 [] = [] := rfl
theorem x1ys {e g : Nat} : O.arr [] e g = O.arr (ints []) e g := rfl
theorem xw6 {l : List UInt8} {v : UInt8} : x26 l ++ [.int .u8 (v.toNat : Int)] = x26 (l ++ [v]) := by simp [x26]
theorem xnf {l : List UInt8} {k : Nat} (h : l.length ≤ k) : (x26 l).take k = x26 l := List.take_of_length_le (by rw [xaq]; exact h)
theorem xwj {l : List UInt8} {k : Nat} (h : k < l.length) : (((x26 l).drop k).map A.d).head? = some (.d (.int .u8 ((l.getD k 0).toNat : Int))) := by
 rw [List.head?_map,List.head?_drop,x26,List.getElem?_map,List.getD_eq_getElem?_getD,List.getElem?_eq_getElem h]
 rfl
theorem x1qq {l : List UInt8} {k : Nat} {v : UInt8} (h : k < l.length) : x35 (x26 l) k [.int .u8 (v.toNat : Int)] = x26 (l.set k v) := xjt _ l k v h
theorem x19f {l : List Int} {k : Nat} {v : Int} (h : k < l.length) : x35 (ints l) k [.int .i64 v] = ints (l.set k v) := xjt _ l k v h
theorem x1gg : ∀ l : List UInt8,xtn (x26 l) = some l
 | [] => rfl
 | b :: l => by
  have ih := x1gg l
  unfold x26 at ih ⊢
  simp only [List.map_cons,xtn,ih,Option.map_some]
  simp
theorem getElem?_zero_cons {o : O} {h : H} : (o :: h)[0]? = some o := rfl
theorem xmw {l : List UInt8} {g len : Nat} {h : H} (hl : len = l.length) : x4e env.P (.arr (x26 l) 1 g :: h) 22 9 (.sl 0 g 0 len) = some (.d (.str l),.arr (x26 l) 1 g :: h) := by
 subst hl
 simp only [x4e,xx5,x19p,x1pb,x2w,getElem?_zero_cons,xaq,true_and,or_true,Nat.mul_one,Nat.zero_add,Nat.le_refl,and_self,if_true,List.drop_zero,xnf (Nat.le_refl _),x1gg,Option.map_some]
theorem xzf {α : Type} (x : α) : ∀ n : Nat,(List.replicate n [x]).flatten = List.replicate n x
 | 0 => rfl
 | n + 1 => by simp [List.replicate_succ,xzf x n]
theorem xoq {n : Int} {h : H} (h0 : 0 ≤ n) (h1 : n ≤ 4294967296) : x64 env.P h 60 n n = some (.sl h.length 0 0 n.toNat,h ++ [.arr (ints (List.replicate n.toNat 0)) 1 0]) := by
 have hm : n ≤ (x28 : Nat) := by unfold x28; omega
 simp only [x64,x1r3,x250,xj,xf2,Option.map_some,x255,h0,hm,x5m,Int.le_refl,and_self,if_true,xzf,ints,List.map_replicate]
theorem x1e3 {i : Int} {s : List UInt8} (h0 : 0 ≤ i) (h : i < s.length) : xyc env.P 9 (.d (.str s)) i = some (.d (.int .u8 ((s.getD i.toNat 0).toNat))) := by
 have hk : i.toNat < s.length := by omega
 simp only [xyc,x19p,if_pos h0,List.getD_eq_getElem?_getD,List.getElem?_eq_getElem hk,Option.map_some,Option.getD_some]
theorem take_set {α : Type} {l : List α} {k : Nat} {v : α} (h : k < l.length) : (l.set k v).take (k + 1) = l.take k ++ [v] := by
 rw [List.take_set,List.take_add_one,List.getElem?_eq_getElem h]
 simp only [Option.toList_some]
 have hl : (l.take k).length = k := by rw [List.length_take]; omega
 rw [List.set_append_right _ _ (by omega),hl,Nat.sub_self]
 rfl
theorem xcv {h : H} {id gen off esz : Nat} {t : TypeId} {cs : List D} {d : D} (hid : h[id]? = some (.arr cs esz gen)) (c1 : env.P.cellsOf t = 1) (hi : (env.P.info? t).isSome = true) (hd : x25 (.d d) = true) (hk : off < cs.length) :
  x92 env.P h t (.ptr id gen off) (.d d) = some (h.set id (.arr (x35 cs off [d]) esz gen)) := by
 have hc : (xj (.d d)).length = env.P.cellsOf t ∧ (env.P.info? t).isSome = true ∧ (xj (.d d)).all x25 = true := ⟨by rw [c1]; rfl,hi,by simp [xj,hd]⟩
 have hf : frzL h (xj (.d d)) = some ([d],h) := rfl
 unfold x92
 rw [if_pos hc]
 simp only [hid,hf,c1,true_and]
 rw [if_pos (by omega)]
theorem x23x : (env.P.info? 5).isSome = true := by kernel_rfl
theorem x22s : (env.P.info? 3).isSome = true := by kernel_rfl
theorem x1le : (env.P.info? 4).isSome = true := by kernel_rfl
theorem xs9 : env.P.cellsOf 4 = 1 := by kernel_rfl
theorem x1yu {h : H} {g e k : Nat} {l : List UInt8} {b : UInt8} (hk : k < l.length) : x92 env.P (.arr (x26 l) e g :: h) 5 (.ptr 0 g k) (.d (.int .u8 (b.toNat : Int))) = some (.arr (x26 (l.set k b)) e g :: h) := by
 rw [xcv (id := 0) rfl x15p x23x rfl (by rw [xaq]; exact hk),x1qq hk]
 rfl
theorem xir {h : H} {g e k : Nat} {l : List Int} {b : Int} (hk : k < l.length) : x92 env.P (.arr (ints l) e g :: h) 3 (.ptr 0 g k) (.d (.int .i64 b)) = some (.arr (ints (l.set k b)) e g :: h) := by
 rw [xcv (id := 0) rfl x5m x22s rfl (by rw [x36]; exact hk),x19f hk]
 rfl
theorem x1pg {o : O} {h : H} {g e k : Nat} {l : List Int} {b : Int} (hk : k < l.length) : x92 env.P (o :: .arr (ints l) e g :: h) 3 (.ptr 1 g k) (.d (.int .i64 b)) = some (o :: .arr (ints (l.set k b)) e g :: h) := by
 rw [xcv (id := 1) rfl x5m x22s rfl (by rw [x36]; exact hk),x19f hk]
 rfl
section
variable {t : TypeId} {h : H} {a b : List UInt8}
theorem x1b5 : x24 env .eql t h (.d (.str a)) (.d (.str b)) = some (.d (.bool (a == b)),h) := by simp [x24,aBin]
theorem x1ax : x24 env .neq t h (.d (.str a)) (.d (.str b)) = some (.d (.bool (!(a == b))),h) := by simp [x24,aBin]
theorem x1ci (hl : a.length + b.length ≤ 4294967296) : x24 env .add t h (.d (.str a)) (.d (.str b)) = some (.d (.str (a ++ b)),h) := by
 have : a.length + b.length ≤ x28 := hl
 simp [x24,aBin,this]
theorem x1bs : x24 env .lss t h (.d (.str a)) (.d (.str b)) = some (.d (.bool (Op.bytesLess a b)),h) := by simp [x24,aBin]
end
theorem toNat_lt (b : UInt8) : b.toNat < 256 := b.toNat_lt
theorem x1mc {b : UInt8} : IntKind.i64.wrap (b.toNat : Int) = b.toNat := xoa (by omega) (by have := toNat_lt b; omega)
theorem xtl {l : List UInt8} {n : Nat} {lo hi : Option Int} {h : H} (hn : n = l.length) (h0 : 0 ≤ lo.getD 0) (h1 : lo.getD 0 ≤ hi.getD l.length) (h2 : hi.getD l.length ≤ l.length) : x67 env.P h 22 (.d (.ivs n (x26 l))) lo hi = some (.d (.ivs ((l.drop (lo.getD 0).toNat).take ((hi.getD l.length).toNat - (lo.getD 0).toNat)).length (x26 ((l.drop (lo.getD 0).toNat).take ((hi.getD l.length).toNat - (lo.getD 0).toNat))))) := by
 subst hn
 simp only [x67,xx5,x15p,xj8,h0,h1,h2,and_self,if_true,Nat.mul_one,Option.map_some,Nat.zero_lt_one,x26,List.map_take,List.map_drop]
 congr 3
 rw [List.length_take,List.length_drop]
 omega
theorem xmn {s : List UInt8} {lo hi : Option Int} {h : H} (h0 : 0 ≤ lo.getD 0) (h1 : lo.getD 0 ≤ hi.getD s.length) (h2 : hi.getD s.length ≤ s.length) : x67 env.P h 9 (.d (.str s)) lo hi = some (.d (.str ((s.drop (lo.getD 0).toNat).take ((hi.getD s.length).toNat - (lo.getD 0).toNat)))) := by
 simp only [x67,x19p,xj8,h0,h1,h2,and_self,if_true,Option.map_some]
theorem x16k {l : List UInt8} {n : Nat} {u : Int} {h : H} (hn : n = l.length) (h0 : 0 ≤ u) (h1 : u ≤ l.length) : x67 env.P h 22 (.d (.ivs n (x26 l))) none (some u) = some (.d (.ivs (l.take u.toNat).length (x26 (l.take u.toNat)))) := by
 rw [xtl hn (by simp) (by simpa using h0) (by simpa using h1)]; simp
theorem x10w {l : List UInt8} {n : Nat} {u : Int} {h : H} (hn : n = l.length) (h0 : 0 ≤ u) (h1 : u ≤ l.length) : x67 env.P h 22 (.d (.ivs n (x26 l))) (some u) none = some (.d (.ivs (l.drop u.toNat).length (x26 (l.drop u.toNat)))) := by
 rw [xtl hn (by simpa using h0) (by simpa using h1) (by simp)]
 have : (List.take (l.length - u.toNat) (l.drop u.toNat)) = l.drop u.toNat := List.take_of_length_le (by simp)
 simp [this]
theorem x17o {s : List UInt8} {u : Int} {h : H} (h0 : 0 ≤ u) (h1 : u ≤ s.length) : x67 env.P h 9 (.d (.str s)) none (some u) = some (.d (.str (s.take u.toNat))) := by
 rw [xmn (by simp) (by simpa using h0) (by simpa using h1)]; simp
theorem x11t {s : List UInt8} {u : Int} {h : H} (h0 : 0 ≤ u) (h1 : u ≤ s.length) : x67 env.P h 9 (.d (.str s)) (some u) none = some (.d (.str (s.drop u.toNat))) := by
 rw [xmn (by simpa using h0) (by simpa using h1) (by simp)]
 have : (List.take (s.length - u.toNat) (s.drop u.toNat)) = s.drop u.toNat := List.take_of_length_le (by simp)
 simp [this]
theorem x10v {s : List UInt8} {u v : Int} {h : H} (h0 : 0 ≤ u) (h1 : u ≤ v) (h2 : v ≤ s.length) : x67 env.P h 9 (.d (.str s)) (some u) (some v) = some (.d (.str ((s.drop u.toNat).take (v.toNat - u.toNat)))) := by
 rw [xmn (by simpa using h0) (by simpa using h1) (by simpa using h2)]; simp
theorem xzk {h : H} {a b : Bool} : x24 env .eql 4 h (.d (.bool a)) (.d (.bool b)) = some (.d (.bool (a == b)),h) := by simp [x24,aBin,aNil,x1um,eqlA]
theorem x103 {h : H} {a b : Bool} : x24 env .neq 4 h (.d (.bool a)) (.d (.bool b)) = some (.d (.bool (!(a == b))),h) := by simp [x24,aBin,aNil,x1um,eqlA]
theorem LB : type_of% (AI @xaq (AI @x36 (AI @xwj (AI @x14i (AI @xnf (AI @x23 (AI @xw6 (AI @x53 (AI @x1e3 (AI @x1b5 (AI @x1ax (AI @x1ci (AI @x1bs (AI @x1mc (AI @xzk (AI @x103 @Int.toNat_natCast)))))))))))))))) :=
 ⟨@xaq,@x36,@xwj,@x14i,@xnf,@x23,@xw6,@x53,@x1e3,@x1b5,@x1ax,@x1ci,@x1bs,@x1mc,@xzk,@x103,@Int.toNat_natCast⟩
theorem CV : type_of% (AI @x16k (AI @x10w (AI @x17o (AI @x11t @x10v)))) :=
 ⟨@x16k,@x10w,@x17o,@x11t,@x10v⟩
theorem DN : type_of% (AI @WD (AI @x1c9 (AI @WDD (AI @x1dm @CV)))) :=
 ⟨@WD,@x1c9,@WDD,@x1dm,@CV⟩
theorem UP : type_of% (AI @WK (AI @UN (AI @TY (AI @LB (AI @MD @xoa))))) :=
 ⟨@WK,@UN,@TY,@LB,@MD,@xoa⟩
end
end Ev
end Go.Proofs.Ytppdfjdfjfoddaa
