/-
  What the types of the program are.
-/
import Derived.Test.YtppdfjdfjfoddaaTy
import Derived.IntWalk
section
set_option linter.unusedSimpArgs false
namespace Go.Proofs.Ytppdfjdfjfoddaa
namespace Ev
theorem i64_id {n : Int} (h1 : -9223372036854775808 ≤ n) (h2 : n ≤ 9223372036854775807) : IntKind.i64.wrap n = n := IntWalk.i64_in n ⟨h1, h2⟩
theorem u64_id {n : Int} (h1 : 0 ≤ n) (h2 : n ≤ 18446744073709551615) : IntKind.u64.wrap n = n := IntWalk.u64_in n ⟨h1, h2⟩
theorem u8_id {n : Int} (h1 : 0 ≤ n) (h2 : n ≤ 255) : IntKind.u8.wrap n = n := IntWalk.u8_in n ⟨h1, h2⟩
theorem u_int : env.P.underlying 3 = some (.int .i64) := by kernel_rfl
theorem u_uint : env.P.underlying 103 = some (.int .u64) := by kernel_rfl
theorem u_uint8 : env.P.underlying 5 = some (.int .u8) := by kernel_rfl
theorem u_bool : env.P.underlying 4 = some .bool := by kernel_rfl
theorem u_string : env.P.underlying 9 = some .string := by kernel_rfl
theorem u_ints : env.P.underlying 60 = some (.slice 3) := by kernel_rfl
theorem u_bytes : env.P.underlying 22 = some (.slice 5) := by kernel_rfl
theorem c_int : env.P.cellsOf 3 = 1 := by kernel_rfl
theorem c_uint8 : env.P.cellsOf 5 = 1 := by kernel_rfl
theorem e_uint8 : elemOk env.P 5 = true := by kernel_rfl
theorem z_uint8 : zeroA env.P 5 = some (.d (.int .u8 0)) := by kernel_rfl
theorem conv_int_uint {h : H} {n : Int} {K : IntKind} : aConvert env.P h 3 103 (.d (.int K n)) = some (.d (.int .u64 (IntKind.u64.wrap n)), h) := aConv_int u_int u_uint
theorem conv_int_uint8 {h : H} {n : Int} {K : IntKind} : aConvert env.P h 3 5 (.d (.int K n)) = some (.d (.int .u8 (IntKind.u8.wrap n)), h) := aConv_int u_int u_uint8
theorem conv_uint8_int {h : H} {n : Int} {K : IntKind} : aConvert env.P h 5 3 (.d (.int K n)) = some (.d (.int .i64 (IntKind.i64.wrap n)), h) := aConv_int u_uint8 u_int
def ints (l : List Int) : List D := l.map (.int .i64)
def bytesL (l : List UInt8) : List D := l.map fun b => .int .u8 b.toNat
theorem elemT_bytes : elemT env.P 22 = some 5 := by simp only [elemT, u_bytes]
theorem ints_length {l : List Int} : (ints l).length = l.length := by simp [ints]
theorem ints_snoc {l : List Int} {v : Int} : ints l ++ [.int .i64 v] = ints (l ++ [v]) := by simp [ints]
theorem ints_nil : ints [] = [] := rfl
theorem ints_take {l : List Int} {k : Nat} (h : l.length ≤ k) : (ints l).take k = ints l := List.take_of_length_le (by rw [ints_length]; exact h)
theorem ints_head {l : List Int} {k : Nat} (h : k < l.length) : (((ints l).drop k).map A.d).head? = some (.d (.int .i64 (l.getD k 0))) := by
 rw [List.head?_map, List.head?_drop, ints, List.getElem?_map, List.getD_eq_getElem?_getD, List.getElem?_eq_getElem h]
 rfl
end Ev
end Go.Proofs.Ytppdfjdfjfoddaa
end

/-!
  Lists of plain elements in memory: reading, writing, making, joining.
-/
section
set_option linter.unusedSimpArgs false
namespace Go.Proofs.Ytppdfjdfjfoddaa
namespace Ev
theorem setRun_map {α : Type} (f : α → D) (l : List α) (k : Nat) (v : α) (h : k < l.length) : setRun (l.map f) k [f v] = (l.set k v).map f := by
 unfold setRun
 rw [List.map_set]
 have : k < (l.map f).length := by simpa using h
 generalize l.map f = m at *
 rw [List.set_eq_take_append_cons_drop, if_pos this]
 simp
theorem bytesL_length {l : List UInt8} : (bytesL l).length = l.length := by simp [bytesL]
theorem nil_bytes {e g : Nat} : O.arr [] e g = O.arr (bytesL []) e g := rfl
theorem nil_ints {e g : Nat} : O.arr [] e g = O.arr (ints []) e g := rfl
theorem bytesL_snoc {l : List UInt8} {v : UInt8} : bytesL l ++ [.int .u8 (v.toNat : Int)] = bytesL (l ++ [v]) := by simp [bytesL]
theorem bytesL_take {l : List UInt8} {k : Nat} (h : l.length ≤ k) : (bytesL l).take k = bytesL l := List.take_of_length_le (by rw [bytesL_length]; exact h)
theorem bytesL_head {l : List UInt8} {k : Nat} (h : k < l.length) : (((bytesL l).drop k).map A.d).head? = some (.d (.int .u8 ((l.getD k 0).toNat : Int))) := by
 rw [List.head?_map, List.head?_drop, bytesL, List.getElem?_map, List.getD_eq_getElem?_getD, List.getElem?_eq_getElem h]
 rfl
theorem bytesL_set {l : List UInt8} {k : Nat} {v : UInt8} (h : k < l.length) : setRun (bytesL l) k [.int .u8 (v.toNat : Int)] = bytesL (l.set k v) := setRun_map _ l k v h
theorem ints_set {l : List Int} {k : Nat} {v : Int} (h : k < l.length) : setRun (ints l) k [.int .i64 v] = ints (l.set k v) := setRun_map _ l k v h
theorem bytesD_eq : ∀ l : List UInt8, bytesD (bytesL l) = some l
 | [] => rfl
 | b :: l => by
  have ih := bytesD_eq l
  unfold bytesL at ih ⊢
  simp only [List.map_cons, bytesD, ih, Option.map_some]
  simp
theorem getElem?_zero_cons {o : O} {h : H} : (o :: h)[0]? = some o := rfl
theorem conv_bytes_str {l : List UInt8} {g len : Nat} {h : H} (hl : len = l.length) : aConvert env.P (.arr (bytesL l) 1 g :: h) 22 9 (.sl 0 g 0 len) = some (.d (.str l), .arr (bytesL l) 1 g :: h) := by
 subst hl
 simp only [aConvert, u_bytes, u_string, u_uint8, sliceCells, getElem?_zero_cons, bytesL_length, true_and, or_true, Nat.mul_one, Nat.zero_add, Nat.le_refl, and_self, if_true, List.drop_zero, bytesL_take (Nat.le_refl _), bytesD_eq, Option.map_some]
theorem flat_rep {α : Type} (x : α) : ∀ n : Nat, (List.replicate n [x]).flatten = List.replicate n x
 | 0 => rfl
 | n + 1 => by simp [List.replicate_succ, flat_rep x n]
theorem make_bytes {n : Int} {h : H} (h0 : 0 ≤ n) (h1 : n ≤ 4294967296) : aMakeSlice env.P h 22 n n = some (.sl h.length 0 0 n.toNat, h ++ [.arr (bytesL (List.replicate n.toNat 0)) 1 0]) := by
 have hm : n ≤ (maxNeed : Nat) := by unfold maxNeed; omega
 simp only [aMakeSlice, elemT_bytes, z_uint8, cellsA, dataOf, Option.map_some, e_uint8, h0, hm, c_uint8, Int.le_refl, and_self, if_true, flat_rep, bytesL, List.map_replicate]
 rfl
theorem aIndex_str {i : Int} {s : List UInt8} (h0 : 0 ≤ i) (h : i < s.length) : aIndex env.P 9 (.d (.str s)) i = some (.d (.int .u8 ((s.getD i.toNat 0).toNat))) := by
 have hk : i.toNat < s.length := by omega
 simp only [aIndex, u_string, if_pos h0, List.getD_eq_getElem?_getD, List.getElem?_eq_getElem hk, Option.map_some, Option.getD_some]
theorem take_set {α : Type} {l : List α} {k : Nat} {v : α} (h : k < l.length) : (l.set k v).take (k + 1) = l.take k ++ [v] := by
 rw [List.take_set, List.take_add_one, List.getElem?_eq_getElem h]
 simp only [Option.toList_some]
 have hl : (l.take k).length = k := by rw [List.length_take]; omega
 rw [List.set_append_right _ _ (by omega), hl, Nat.sub_self]
 rfl
theorem getSome {o : O} {h : H} {id : Nat} (hs : h[id]? = some o) : h.set id o = h := by
 apply List.ext_getElem?
 intro j
 rw [List.getElem?_set]
 obtain ⟨hl, he⟩ := List.getElem?_eq_some_iff.1 hs
 by_cases e : id = j
 ·subst e; simp [hl, he]
 ·simp [e]
theorem store_cell {h : H} {id gen off esz : Nat} {t : TypeId} {cs : List D} {d : D} (hid : h[id]? = some (.arr cs esz gen)) (c1 : env.P.cellsOf t = 1) (hi : (env.P.info? t).isSome = true) (hd : okCell (.d d) = true) (hk : off < cs.length) :
  aStore env.P h t (.ptr id gen off) (.d d) = some (h.set id (.arr (setRun cs off [d]) esz gen)) := by
 have hc : (cellsA (.d d)).length = env.P.cellsOf t ∧ (env.P.info? t).isSome = true ∧ (cellsA (.d d)).all okCell = true := ⟨by rw [c1]; rfl, hi, by simp [cellsA, hd]⟩
 have hf : frzL h (cellsA (.d d)) = some ([d], h) := rfl
 unfold aStore
 rw [if_pos hc]
 simp only [hid, hf, c1, true_and]
 rw [if_pos (by omega)]
theorem i_uint8 : (env.P.info? 5).isSome = true := by kernel_rfl
theorem i_int : (env.P.info? 3).isSome = true := by kernel_rfl
theorem c_bool : env.P.cellsOf 4 = 1 := by kernel_rfl
theorem xo4 {h : H} {g e k : Nat} {l : List UInt8} {b : UInt8} (hk : k < l.length) : aStore env.P (.arr (bytesL l) e g :: h) 5 (.ptr 0 g k) (.d (.int .u8 (b.toNat : Int))) = some (.arr (bytesL (l.set k b)) e g :: h) := by
 rw [store_cell (id := 0) rfl c_uint8 i_uint8 rfl (by rw [bytesL_length]; exact hk), bytesL_set hk]
 rfl
theorem xok {h : H} {g e k : Nat} {l : List Int} {b : Int} (hk : k < l.length) : aStore env.P (.arr (ints l) e g :: h) 3 (.ptr 0 g k) (.d (.int .i64 b)) = some (.arr (ints (l.set k b)) e g :: h) := by
 rw [store_cell (id := 0) rfl c_int i_int rfl (by rw [ints_length]; exact hk), ints_set hk]
 rfl
section
variable {t : TypeId} {h : H} {a b : List UInt8}
theorem evBin_eqlS : evBin env .eql t h (.d (.str a)) (.d (.str b)) = some (.d (.bool (a == b)), h) := by simp [evBin, aBin]
theorem evBin_neqS : evBin env .neq t h (.d (.str a)) (.d (.str b)) = some (.d (.bool (!(a == b))), h) := by simp [evBin, aBin]
theorem evBin_addS (hl : a.length + b.length ≤ 4294967296) : evBin env .add t h (.d (.str a)) (.d (.str b)) = some (.d (.str (a ++ b)), h) := by
 have : a.length + b.length ≤ maxNeed := hl
 simp [evBin, aBin, this]
theorem evBin_lssS : evBin env .lss t h (.d (.str a)) (.d (.str b)) = some (.d (.bool (Op.bytesLess a b)), h) := by simp [evBin, aBin]
end
theorem toNat_lt (b : UInt8) : b.toNat < 256 := b.toNat_lt
theorem i64_byte {b : UInt8} : IntKind.i64.wrap (b.toNat : Int) = b.toNat := i64_id (by omega) (by have := toNat_lt b; omega)
theorem conv_slice_bytes {l : List UInt8} {n : Nat} {lo hi : Option Int} {h : H} (hn : n = l.length) (h0 : 0 ≤ lo.getD 0) (h1 : lo.getD 0 ≤ hi.getD l.length) (h2 : hi.getD l.length ≤ l.length) : aSlice env.P h 22 (.d (.ivs n (bytesL l))) lo hi = some (.d (.ivs ((l.drop (lo.getD 0).toNat).take ((hi.getD l.length).toNat - (lo.getD 0).toNat)).length (bytesL ((l.drop (lo.getD 0).toNat).take ((hi.getD l.length).toNat - (lo.getD 0).toNat))))) := by
 subst hn
 simp only [aSlice, u_bytes, c_uint8, aBounds, h0, h1, h2, and_self, if_true, Nat.mul_one, Option.map_some, Nat.zero_lt_one, bytesL, List.map_take, List.map_drop]
 congr 3
 rw [List.length_take, List.length_drop]
 omega
theorem conv_slice_str {s : List UInt8} {lo hi : Option Int} {h : H} (h0 : 0 ≤ lo.getD 0) (h1 : lo.getD 0 ≤ hi.getD s.length) (h2 : hi.getD s.length ≤ s.length) : aSlice env.P h 9 (.d (.str s)) lo hi = some (.d (.str ((s.drop (lo.getD 0).toNat).take ((hi.getD s.length).toNat - (lo.getD 0).toNat)))) := by
 simp only [aSlice, u_string, aBounds, h0, h1, h2, and_self, if_true, Option.map_some]
theorem conv_slb_to {l : List UInt8} {n : Nat} {u : Int} {h : H} (hn : n = l.length) (h0 : 0 ≤ u) (h1 : u ≤ l.length) : aSlice env.P h 22 (.d (.ivs n (bytesL l))) none (some u) = some (.d (.ivs (l.take u.toNat).length (bytesL (l.take u.toNat)))) := by
 rw [conv_slice_bytes hn (by simp) (by simpa using h0) (by simpa using h1)]; simp
theorem conv_slb_from {l : List UInt8} {n : Nat} {u : Int} {h : H} (hn : n = l.length) (h0 : 0 ≤ u) (h1 : u ≤ l.length) : aSlice env.P h 22 (.d (.ivs n (bytesL l))) (some u) none = some (.d (.ivs (l.drop u.toNat).length (bytesL (l.drop u.toNat)))) := by
 rw [conv_slice_bytes hn (by simpa using h0) (by simpa using h1) (by simp)]
 have : (List.take (l.length - u.toNat) (l.drop u.toNat)) = l.drop u.toNat := List.take_of_length_le (by simp)
 simp [this]
theorem conv_sls_to {s : List UInt8} {u : Int} {h : H} (h0 : 0 ≤ u) (h1 : u ≤ s.length) : aSlice env.P h 9 (.d (.str s)) none (some u) = some (.d (.str (s.take u.toNat))) := by
 rw [conv_slice_str (by simp) (by simpa using h0) (by simpa using h1)]; simp
theorem conv_sls_from {s : List UInt8} {u : Int} {h : H} (h0 : 0 ≤ u) (h1 : u ≤ s.length) : aSlice env.P h 9 (.d (.str s)) (some u) none = some (.d (.str (s.drop u.toNat))) := by
 rw [conv_slice_str (by simpa using h0) (by simpa using h1) (by simp)]
 have : (List.take (s.length - u.toNat) (s.drop u.toNat)) = s.drop u.toNat := List.take_of_length_le (by simp)
 simp [this]
theorem conv_sls_both {s : List UInt8} {u v : Int} {h : H} (h0 : 0 ≤ u) (h1 : u ≤ v) (h2 : v ≤ s.length) : aSlice env.P h 9 (.d (.str s)) (some u) (some v) = some (.d (.str ((s.drop u.toNat).take (v.toNat - u.toNat)))) := by
 rw [conv_slice_str (by simpa using h0) (by simpa using h1) (by simpa using h2)]; simp
theorem evBin_eqlB {h : H} {a b : Bool} : evBin env .eql 4 h (.d (.bool a)) (.d (.bool b)) = some (.d (.bool (a == b)), h) := by simp [evBin, aBin, aNil, u_bool, eqlA]
theorem evBin_neqB {h : H} {a b : Bool} : evBin env .neq 4 h (.d (.bool a)) (.d (.bool b)) = some (.d (.bool (!(a == b))), h) := by simp [evBin, aBin, aNil, u_bool, eqlA]
theorem LB : type_of% (And.intro @bytesL_length (And.intro @ints_length (And.intro @bytesL_head (And.intro @ints_head (And.intro @bytesL_take (And.intro @ints_take (And.intro @bytesL_snoc (And.intro @ints_snoc (And.intro @aIndex_str (And.intro @evBin_eqlS (And.intro @evBin_neqS (And.intro @evBin_addS (And.intro @evBin_lssS (And.intro @i64_byte (And.intro @evBin_eqlB (And.intro @evBin_neqB @Int.toNat_natCast)))))))))))))))) := And.intro @bytesL_length (And.intro @ints_length (And.intro @bytesL_head (And.intro @ints_head (And.intro @bytesL_take (And.intro @ints_take (And.intro @bytesL_snoc (And.intro @ints_snoc (And.intro @aIndex_str (And.intro @evBin_eqlS (And.intro @evBin_neqS (And.intro @evBin_addS (And.intro @evBin_lssS (And.intro @i64_byte (And.intro @evBin_eqlB (And.intro @evBin_neqB @Int.toNat_natCast)))))))))))))))
theorem CV : type_of% (And.intro @conv_slb_to (And.intro @conv_slb_from (And.intro @conv_sls_to (And.intro @conv_sls_from @conv_sls_both)))) := And.intro @conv_slb_to (And.intro @conv_slb_from (And.intro @conv_sls_to (And.intro @conv_sls_from @conv_sls_both)))
theorem DN : type_of% (And.intro @WD (And.intro @clash_free (And.intro @WDD (And.intro @kOpD_callv @CV)))) := (And.intro @WD (And.intro @clash_free (And.intro @WDD (And.intro @kOpD_callv @CV))))
theorem UP : type_of% (And.intro @WK (And.intro @UN (And.intro @TY (And.intro @LB (And.intro @MD @i64_id))))) := (And.intro @WK (And.intro @UN (And.intro @TY (And.intro @LB (And.intro @MD @i64_id)))))
end Ev
end Go.Proofs.Ytppdfjdfjfoddaa
end
