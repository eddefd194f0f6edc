/-
  What the types of the program are.
-/
import Derived.Test.YtppdfjdfjfoddaaTy
import Derived.IntWalk
set_option linter.unusedSimpArgs false
namespace Go.Proofs.Ytppdfjdfjfoddaa
namespace Ev
theorem xkv {n : Int} (h1 : -9223372036854775808 ≤ n) (h2 : n ≤ 9223372036854775807) : IntKind.i64.wrap n = n := IntWalk.i64_in n ⟨h1,h2⟩
theorem x221 {n : Int} (h1 : 0 ≤ n) (h2 : n ≤ 18446744073709551615) : IntKind.u64.wrap n = n := IntWalk.u64_in n ⟨h1,h2⟩
theorem x228 {n : Int} (h1 : 0 ≤ n) (h2 : n ≤ 255) : IntKind.u8.wrap n = n := IntWalk.u8_in n ⟨h1,h2⟩
theorem x15i : env.P.underlying 3 = some (.int .i64) := by kernel_rfl
theorem x21d : env.P.underlying 103 = some (.int .u64) := by kernel_rfl
theorem x1dp : env.P.underlying 5 = some (.int .u8) := by kernel_rfl
theorem x1sx : env.P.underlying 4 = some .bool := by kernel_rfl
theorem xcj : env.P.underlying 9 = some .string := by kernel_rfl
theorem x46 : env.P.underlying 60 = some (.slice 3) := by kernel_rfl
theorem xy8 : env.P.underlying 22 = some (.slice 5) := by kernel_rfl
theorem x1ra : env.P.underlying 40 = some (.slice 9) := by kernel_rfl
theorem x4m : env.P.cellsOf 3 = 1 := by kernel_rfl
theorem x150 : env.P.cellsOf 5 = 1 := by kernel_rfl
theorem x1v0 : env.P.cellsOf 9 = 1 := by kernel_rfl
theorem x22c : x1b env.P 3 = true := by kernel_rfl
theorem x20a : x1b env.P 5 = true := by kernel_rfl
theorem x229 : x1g env.P 3 = some (.d (.int .i64 0)) := by kernel_rfl
theorem x202 : x1g env.P 5 = some (.d (.int .u8 0)) := by kernel_rfl
theorem x1h3 {h : H} {n : Int} {K : IntKind} : x4k env.P h 3 103 (.d (.int K n)) = some (.d (.int .u64 (IntKind.u64.wrap n)),h) := x90 x15i x21d
theorem x1dc {h : H} {n : Int} {K : IntKind} : x4k env.P h 3 5 (.d (.int K n)) = some (.d (.int .u8 (IntKind.u8.wrap n)),h) := x90 x15i x1dp
theorem x1cu {h : H} {n : Int} {K : IntKind} : x4k env.P h 5 3 (.d (.int K n)) = some (.d (.int .i64 (IntKind.i64.wrap n)),h) := x90 x1dp x15i
def ints (l : List Int) : List D := l.map (.int .i64)
def x19 (l : List UInt8) : List D := l.map fun b => .int .u8 b.toNat
abbrev rdO (c : List UInt8) (p : Int) : O := .box [.d (.ivs c.length (x19 c)),.d (.int .i64 p)]
abbrev Dw (m f : Nat) (xs : List A) (r : A) (c : List UInt8) (p q : Int) : Prop := ∀ (R : Type) (L n : Nat) (hq : H) (k : A → H → Option R),m ≤ n → 2 ^ 60 ≤ L → xe env (x2 env L n) (rdO c p :: hq) f (.ptr 0 0 0 :: xs) k = k r (rdO c q :: hq)
theorem x1o0 : x12 env.P 60 = some 3 := by simp only [x12,x46]
theorem x1li : x12 env.P 22 = some 5 := by simp only [x12,xy8]
theorem x3f {l : List Int} : (ints l).length = l.length := by simp [ints]
theorem x5z {l : List Int} {v : Int} : ints l ++ [.int .i64 v] = ints (l ++ [v]) := by simp [ints]
theorem xfg : ints [] = [] := rfl
theorem x2s {l : List Int} {k : Nat} (h : l.length ≤ k) : (ints l).take k = ints l := List.take_of_length_le (by rw [x3f]; exact h)
theorem x12r {l : List Int} {k : Nat} (h : k < l.length) : (((ints l).drop k).map A.d).head? = some (.d (.int .i64 (l.getD k 0))) := by
 rw [List.head?_map,List.head?_drop,ints,List.getElem?_map,List.getD_eq_getElem?_getD,List.getElem?_eq_getElem h]
 rfl
section
theorem xrp {α : Type} (f : α → D) (l : List α) (k : Nat) (v : α) (h : k < l.length) : x17 (l.map f) k [f v] = (l.set k v).map f := by
 unfold x17
 rw [List.map_set]
 have : k < (l.map f).length := by simpa using h
 generalize l.map f = m at *
 rw [List.set_eq_take_append_cons_drop,if_pos this]
 simp
theorem xby {l : List UInt8} : (x19 l).length = l.length := by simp [x19]
theorem x1o1 : x19 [] = [] := rfl
theorem x1vy {e g : Nat} : O.arr [] e g = O.arr (ints []) e g := rfl
theorem xwt {l : List UInt8} {v : UInt8} : x19 l ++ [.int .u8 (v.toNat : Int)] = x19 (l ++ [v]) := by simp [x19]
theorem xop {l : List UInt8} {k : Nat} (h : l.length ≤ k) : (x19 l).take k = x19 l := List.take_of_length_le (by rw [xby]; exact h)
theorem xwr {l : List UInt8} {k : Nat} (h : k < l.length) : (((x19 l).drop k).map A.d).head? = some (.d (.int .u8 ((l.getD k 0).toNat : Int))) := by
 rw [List.head?_map,List.head?_drop,x19,List.getElem?_map,List.getD_eq_getElem?_getD,List.getElem?_eq_getElem h]
 rfl
theorem x1o4 {l : List UInt8} {k : Nat} {v : UInt8} (h : k < l.length) : x17 (x19 l) k [.int .u8 (v.toNat : Int)] = x19 (l.set k v) := xrp _ l k v h
theorem xzj {l : List Int} {k : Nat} {v : Int} (h : k < l.length) : x17 (ints l) k [.int .i64 v] = ints (l.set k v) := xrp _ l k v h
theorem x1ec : ∀ l : List UInt8,xtg (x19 l) = some l
 | [] => rfl
 | b :: l => by
  have ih := x1ec l
  unfold x19 at ih ⊢
  simp only [List.map_cons,xtg,ih,Option.map_some]
  simp
theorem getElem?_zero_cons {o : O} {h : H} : (o :: h)[0]? = some o := rfl
theorem xy5 {l : List UInt8} {g len : Nat} {h : H} (hl : len = l.length) : x4k env.P (.arr (x19 l) 1 g :: h) 22 9 (.sl 0 g 0 len) = some (.d (.str l),.arr (x19 l) 1 g :: h) := by
 subst hl
 simp only [x4k,xy8,xcj,x1dp,x3b,getElem?_zero_cons,xby,true_and,or_true,Nat.mul_one,Nat.zero_add,Nat.le_refl,and_self,if_true,List.drop_zero,xop (Nat.le_refl _),x1ec,Option.map_some]
theorem x1jr {α : Type} (x : α) : ∀ n : Nat,(List.replicate n [x]).flatten = List.replicate n x
 | 0 => rfl
 | n + 1 => by simp [List.replicate_succ,x1jr x n]
theorem xv5 {n : Int} {h : H} (h0 : 0 ≤ n) (h1 : n ≤ 4294967296) : x8s env.P h 60 n n = some (.sl h.length 0 0 n.toNat,h ++ [.arr (ints (List.replicate n.toNat 0)) 1 0]) := by
 have hm : n ≤ (x2g : Nat) := by unfold x2g; omega
 simp only [x8s,x1o0,x229,xh,xlm,Option.map_some,x22c,h0,hm,x4m,Int.le_refl,and_self,if_true,x1jr,ints,List.map_replicate]
theorem xyr {i : Int} {s : List UInt8} (h0 : 0 ≤ i) (h : i < s.length) : xym env.P 9 (.d (.str s)) i = some (.d (.int .u8 ((s.getD i.toNat 0).toNat))) := by
 have hk : i.toNat < s.length := by omega
 simp only [xym,xcj,if_pos h0,List.getD_eq_getElem?_getD,List.getElem?_eq_getElem hk,Option.map_some,Option.getD_some]
theorem take_set {α : Type} {l : List α} {k : Nat} {v : α} (h : k < l.length) : (l.set k v).take (k + 1) = l.take k ++ [v] := by
 rw [List.take_set,List.take_add_one,List.getElem?_eq_getElem h]
 simp only [Option.toList_some]
 have hl : (l.take k).length = k := by rw [List.length_take]; omega
 rw [List.set_append_right _ _ (by omega),hl,Nat.sub_self]
 rfl
theorem x1zt {o : O} {h : H} {id : Nat} (hs : h[id]? = some o) : h.set id o = h := by
 apply List.ext_getElem?
 intro j
 rw [List.getElem?_set]
 obtain ⟨hl,he⟩ := List.getElem?_eq_some_iff.1 hs
 by_cases e : id = j
 ·subst e; simp [hl,he]
 ·simp [e]
theorem xl5 {h : H} {id gen off esz : Nat} {t : TypeId} {cs : List D} {d : D} (hid : h[id]? = some (.arr cs esz gen)) (c1 : env.P.cellsOf t = 1) (hi : (env.P.info? t).isSome = true) (hd : x2f (.d d) = true) (hk : off < cs.length) :
  xao env.P h t (.ptr id gen off) (.d d) = some (h.set id (.arr (x17 cs off [d]) esz gen)) := by
 have hc : (xh (.d d)).length = env.P.cellsOf t ∧ (env.P.info? t).isSome = true ∧ (xh (.d d)).all x2f = true := ⟨by rw [c1]; rfl,hi,by simp [xh,hd]⟩
 have hf : frzL h (xh (.d d)) = some ([d],h) := rfl
 unfold xao
 rw [if_pos hc]
 simp only [hid,hf,c1,true_and]
 rw [if_pos (by omega)]
theorem x211 : (env.P.info? 5).isSome = true := by kernel_rfl
theorem x1y8 : (env.P.info? 3).isSome = true := by kernel_rfl
theorem x1ps : (env.P.info? 4).isSome = true := by kernel_rfl
theorem xei : env.P.cellsOf 4 = 1 := by kernel_rfl
theorem x1vf {h : H} {g e k : Nat} {l : List UInt8} {b : UInt8} (hk : k < l.length) : xao env.P (.arr (x19 l) e g :: h) 5 (.ptr 0 g k) (.d (.int .u8 (b.toNat : Int))) = some (.arr (x19 (l.set k b)) e g :: h) := by
 rw [xl5 (id := 0) rfl x150 x211 rfl (by rw [xby]; exact hk),x1o4 hk]
 rfl
theorem xsc {h : H} {g e k : Nat} {l : List Int} {b : Int} (hk : k < l.length) : xao env.P (.arr (ints l) e g :: h) 3 (.ptr 0 g k) (.d (.int .i64 b)) = some (.arr (ints (l.set k b)) e g :: h) := by
 rw [xl5 (id := 0) rfl x4m x1y8 rfl (by rw [x3f]; exact hk),xzj hk]
 rfl
theorem x1na {o : O} {h : H} {g e k : Nat} {l : List Int} {b : Int} (hk : k < l.length) : xao env.P (o :: .arr (ints l) e g :: h) 3 (.ptr 1 g k) (.d (.int .i64 b)) = some (o :: .arr (ints (l.set k b)) e g :: h) := by
 rw [xl5 (id := 1) rfl x4m x1y8 rfl (by rw [x3f]; exact hk),xzj hk]
 rfl
section
variable {t : TypeId} {h : H} {a b : List UInt8}
theorem x1aa : x2w env .eql t h (.d (.str a)) (.d (.str b)) = some (.d (.bool (a == b)),h) := by simp [x2w,aBin]
theorem x1ab : x2w env .neq t h (.d (.str a)) (.d (.str b)) = some (.d (.bool (!(a == b))),h) := by simp [x2w,aBin]
theorem x1aq (hl : a.length + b.length ≤ 4294967296) : x2w env .add t h (.d (.str a)) (.d (.str b)) = some (.d (.str (a ++ b)),h) := by
 have : a.length + b.length ≤ x2g := hl
 simp [x2w,aBin,this]
theorem x1by : x2w env .lss t h (.d (.str a)) (.d (.str b)) = some (.d (.bool (Op.bytesLess a b)),h) := by simp [x2w,aBin]
end
theorem toNat_lt (b : UInt8) : b.toNat < 256 := b.toNat_lt
theorem x17v {b : UInt8} : IntKind.i64.wrap (b.toNat : Int) = b.toNat := xkv (by omega) (by have := toNat_lt b; omega)
theorem xsm {l : List UInt8} {n : Nat} {lo hi : Option Int} {h : H} (hn : n = l.length) (h0 : 0 ≤ lo.getD 0) (h1 : lo.getD 0 ≤ hi.getD l.length) (h2 : hi.getD l.length ≤ l.length) : x5w env.P h 22 (.d (.ivs n (x19 l))) lo hi = some (.d (.ivs ((l.drop (lo.getD 0).toNat).take ((hi.getD l.length).toNat - (lo.getD 0).toNat)).length (x19 ((l.drop (lo.getD 0).toNat).take ((hi.getD l.length).toNat - (lo.getD 0).toNat))))) := by
 subst hn
 simp only [x5w,xy8,x150,xeq,h0,h1,h2,and_self,if_true,Nat.mul_one,Option.map_some,Nat.zero_lt_one,x19,List.map_take,List.map_drop]
 congr 3
 rw [List.length_take,List.length_drop]
 omega
theorem xnu {s : List UInt8} {lo hi : Option Int} {h : H} (h0 : 0 ≤ lo.getD 0) (h1 : lo.getD 0 ≤ hi.getD s.length) (h2 : hi.getD s.length ≤ s.length) : x5w env.P h 9 (.d (.str s)) lo hi = some (.d (.str ((s.drop (lo.getD 0).toNat).take ((hi.getD s.length).toNat - (lo.getD 0).toNat)))) := by
 simp only [x5w,xcj,xeq,h0,h1,h2,and_self,if_true,Option.map_some]
theorem x15w {l : List UInt8} {n : Nat} {u : Int} {h : H} (hn : n = l.length) (h0 : 0 ≤ u) (h1 : u ≤ l.length) : x5w env.P h 22 (.d (.ivs n (x19 l))) none (some u) = some (.d (.ivs (l.take u.toNat).length (x19 (l.take u.toNat)))) := by
 rw [xsm hn (by simp) (by simpa using h0) (by simpa using h1)]; simp
theorem x10l {l : List UInt8} {n : Nat} {u : Int} {h : H} (hn : n = l.length) (h0 : 0 ≤ u) (h1 : u ≤ l.length) : x5w env.P h 22 (.d (.ivs n (x19 l))) (some u) none = some (.d (.ivs (l.drop u.toNat).length (x19 (l.drop u.toNat)))) := by
 rw [xsm hn (by simpa using h0) (by simpa using h1) (by simp)]
 have : (List.take (l.length - u.toNat) (l.drop u.toNat)) = l.drop u.toNat := List.take_of_length_le (by simp)
 simp [this]
theorem x16h {s : List UInt8} {u : Int} {h : H} (h0 : 0 ≤ u) (h1 : u ≤ s.length) : x5w env.P h 9 (.d (.str s)) none (some u) = some (.d (.str (s.take u.toNat))) := by
 rw [xnu (by simp) (by simpa using h0) (by simpa using h1)]; simp
theorem x115 {s : List UInt8} {u : Int} {h : H} (h0 : 0 ≤ u) (h1 : u ≤ s.length) : x5w env.P h 9 (.d (.str s)) (some u) none = some (.d (.str (s.drop u.toNat))) := by
 rw [xnu (by simpa using h0) (by simpa using h1) (by simp)]
 have : (List.take (s.length - u.toNat) (s.drop u.toNat)) = s.drop u.toNat := List.take_of_length_le (by simp)
 simp [this]
theorem x11a {s : List UInt8} {u v : Int} {h : H} (h0 : 0 ≤ u) (h1 : u ≤ v) (h2 : v ≤ s.length) : x5w env.P h 9 (.d (.str s)) (some u) (some v) = some (.d (.str ((s.drop u.toNat).take (v.toNat - u.toNat)))) := by
 rw [xnu (by simpa using h0) (by simpa using h1) (by simpa using h2)]; simp
theorem x1bi {h : H} {a b : Bool} : x2w env .eql 4 h (.d (.bool a)) (.d (.bool b)) = some (.d (.bool (a == b)),h) := by simp [x2w,aBin,aNil,x1sx,eqlA]
theorem xs0 {h : H} {a b : Bool} : x2w env .neq 4 h (.d (.bool a)) (.d (.bool b)) = some (.d (.bool (!(a == b))),h) := by simp [x2w,aBin,aNil,x1sx,eqlA]
theorem LB : type_of% (AI @xby (AI @x3f (AI @xwr (AI @x12r (AI @xop (AI @x2s (AI @xwt (AI @x5z (AI @xyr (AI @x1aa (AI @x1ab (AI @x1aq (AI @x1by (AI @x17v (AI @x1bi (AI @xs0 @Int.toNat_natCast)))))))))))))))) :=
 ⟨@xby,@x3f,@xwr,@x12r,@xop,@x2s,@xwt,@x5z,@xyr,@x1aa,@x1ab,@x1aq,@x1by,@x17v,@x1bi,@xs0,@Int.toNat_natCast⟩
theorem CV : type_of% (AI @x15w (AI @x10l (AI @x16h (AI @x115 @x11a)))) :=
 ⟨@x15w,@x10l,@x16h,@x115,@x11a⟩
theorem DN : type_of% (AI @WD (AI @x19r (AI @WDD (AI @x1b2 @CV)))) :=
 ⟨@WD,@x19r,@WDD,@x1b2,@CV⟩
theorem UP : type_of% (AI @WK (AI @UN (AI @TY (AI @LB (AI @MD @xkv))))) :=
 ⟨@WK,@UN,@TY,@LB,@MD,@xkv⟩
end
end Ev
end Go.Proofs.Ytppdfjdfjfoddaa
