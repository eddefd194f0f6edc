/-
  Lists of plain elements in memory: reading, writing, making, joining.
-/
import Derived.Test.YtidobgmklcbcpaaTypes
set_option linter.unusedSimpArgs false
namespace Go.Proofs.Ytidobgmklcbcpaa
namespace Ev

theorem bytesL_length {l : List UInt8} : (bytesL l).length = l.length := by simp [bytesL]
theorem nil_ints {e g : Nat} : O.arr [] e g = O.arr (ints []) e g := rfl
theorem bytesL_snoc {l : List UInt8} {v : UInt8} : bytesL l ++ [.int .u8 (v.toNat : Int)] = bytesL (l ++ [v]) := by simp [bytesL]
theorem bytesL_take {l : List UInt8} {k : Nat} (h : l.length ≤ k) : (bytesL l).take k = bytesL l := List.take_of_length_le (by rw [bytesL_length]; exact h)
theorem bytesL_head {l : List UInt8} {k : Nat} (h : k < l.length) : (((bytesL l).drop k).map A.d).head? = some (.d (.int .u8 ((l.getD k 0).toNat : Int))) := by
  rw [List.head?_map, List.head?_drop, bytesL, List.getElem?_map, List.getD_eq_getElem?_getD, List.getElem?_eq_getElem h]
  rfl
theorem aIndex_str {i : Int} {s : List UInt8} (h0 : 0 ≤ i) (h : i < s.length) : aIndex env.P 9 (.d (.str s)) i = some (.d (.int .u8 ((s.getD i.toNat 0).toNat))) := by
  have hk : i.toNat < s.length := by omega
  simp only [aIndex, u_string, if_pos h0, List.getD_eq_getElem?_getD, List.getElem?_eq_getElem hk, Option.map_some, Option.getD_some]

theorem getSome {o : O} {h : H} {id : Nat} (hs : h[id]? = some o) : h.set id o = h := by
  apply List.ext_getElem?
  intro j
  rw [List.getElem?_set]
  obtain ⟨hl, he⟩ := List.getElem?_eq_some_iff.1 hs
  by_cases e : id = j
  · subst e; simp [hl, he]
  · simp [e]

/-! ### strings -/
section
variable {t : TypeId} {h : H} {a b : List UInt8}
theorem evBin_eqlS : evBin env .eql t h (.d (.str a)) (.d (.str b)) = some (.d (.bool (a == b)), h) := by simp [evBin, aBin]
theorem evBin_neqS : evBin env .neq t h (.d (.str a)) (.d (.str b)) = some (.d (.bool (!(a == b))), h) := by simp [evBin, aBin]
theorem evBin_addS (hl : a.length + b.length ≤ 4294967296) : evBin env .add t h (.d (.str a)) (.d (.str b)) = some (.d (.str (a ++ b)), h) := by
  have : a.length + b.length ≤ maxNeed := hl
  simp [evBin, aBin, this]
theorem evBin_lssS : evBin env .lss t h (.d (.str a)) (.d (.str b)) = some (.d (.bool (Op.bytesLess a b)), h) := by simp [evBin, aBin]
end

theorem toNat_lt (b : UInt8) : b.toNat < 256 := b.toNat_lt
theorem i64_byte {b : UInt8} : IntKind.i64.wrap (b.toNat : Int) = b.toNat := i64_id (by omega) (by have := toNat_lt b; omega)

theorem conv_slice_bytes {l : List UInt8} {n : Nat} {lo hi : Option Int} {h : H} (hn : n = l.length) (h0 : 0 ≤ lo.getD 0) (h1 : lo.getD 0 ≤ hi.getD l.length) (h2 : hi.getD l.length ≤ l.length) : aSlice env.P h 24 (.d (.ivs n (bytesL l))) lo hi = some (.d (.ivs ((l.drop (lo.getD 0).toNat).take ((hi.getD l.length).toNat - (lo.getD 0).toNat)).length (bytesL ((l.drop (lo.getD 0).toNat).take ((hi.getD l.length).toNat - (lo.getD 0).toNat))))) := by
  subst hn
  simp only [aSlice, u_bytes, c_uint8, aBounds, h0, h1, h2, and_self, if_true, Nat.mul_one, Option.map_some, Nat.zero_lt_one, bytesL, List.map_take, List.map_drop]
  congr 3
  rw [List.length_take, List.length_drop]
  omega
theorem conv_slice_str {s : List UInt8} {lo hi : Option Int} {h : H} (h0 : 0 ≤ lo.getD 0) (h1 : lo.getD 0 ≤ hi.getD s.length) (h2 : hi.getD s.length ≤ s.length) : aSlice env.P h 9 (.d (.str s)) lo hi = some (.d (.str ((s.drop (lo.getD 0).toNat).take ((hi.getD s.length).toNat - (lo.getD 0).toNat)))) := by
  simp only [aSlice, u_string, aBounds, h0, h1, h2, and_self, if_true, Option.map_some]

theorem conv_slb_to {l : List UInt8} {n : Nat} {u : Int} {h : H} (hn : n = l.length) (h0 : 0 ≤ u) (h1 : u ≤ l.length) : aSlice env.P h 24 (.d (.ivs n (bytesL l))) none (some u) = some (.d (.ivs (l.take u.toNat).length (bytesL (l.take u.toNat)))) := by
  rw [conv_slice_bytes hn (by simp) (by simpa using h0) (by simpa using h1)]; simp
theorem conv_slb_from {l : List UInt8} {n : Nat} {u : Int} {h : H} (hn : n = l.length) (h0 : 0 ≤ u) (h1 : u ≤ l.length) : aSlice env.P h 24 (.d (.ivs n (bytesL l))) (some u) none = some (.d (.ivs (l.drop u.toNat).length (bytesL (l.drop u.toNat)))) := by
  rw [conv_slice_bytes hn (by simpa using h0) (by simpa using h1) (by simp)]
  have : (List.take (l.length - u.toNat) (l.drop u.toNat)) = l.drop u.toNat := List.take_of_length_le (by simp)
  simp [this]
theorem conv_sls_to {s : List UInt8} {u : Int} {h : H} (h0 : 0 ≤ u) (h1 : u ≤ s.length) : aSlice env.P h 9 (.d (.str s)) none (some u) = some (.d (.str (s.take u.toNat))) := by
  rw [conv_slice_str (by simp) (by simpa using h0) (by simpa using h1)]; simp
theorem conv_sls_from {s : List UInt8} {u : Int} {h : H} (h0 : 0 ≤ u) (h1 : u ≤ s.length) : aSlice env.P h 9 (.d (.str s)) (some u) none = some (.d (.str (s.drop u.toNat))) := by
  rw [conv_slice_str (by simpa using h0) (by simpa using h1) (by simp)]
  have : (List.take (s.length - u.toNat) (s.drop u.toNat)) = s.drop u.toNat := List.take_of_length_le (by simp)
  simp [this]
theorem conv_sls_both {s : List UInt8} {u v : Int} {h : H} (h0 : 0 ≤ u) (h1 : u ≤ v) (h2 : v ≤ s.length) : aSlice env.P h 9 (.d (.str s)) (some u) (some v) = some (.d (.str ((s.drop u.toNat).take (v.toNat - u.toNat)))) := by
  rw [conv_slice_str (by simpa using h0) (by simpa using h1) (by simpa using h2)]; simp

theorem evBin_eqlB {h : H} {a b : Bool} : evBin env .eql 4 h (.d (.bool a)) (.d (.bool b)) = some (.d (.bool (a == b)), h) := by simp [evBin, aBin, aNil, u_bool, eqlA]
theorem evBin_neqB {h : H} {a b : Bool} : evBin env .neq 4 h (.d (.bool a)) (.d (.bool b)) = some (.d (.bool (!(a == b))), h) := by simp [evBin, aBin, aNil, u_bool, eqlA]

/-- List rules that every walk takes. -/
theorem LB : type_of% (And.intro @bytesL_length (And.intro @ints_length (And.intro @bytesL_head (And.intro @ints_head (And.intro @bytesL_take (And.intro @ints_take (And.intro @bytesL_snoc (And.intro @ints_snoc (And.intro @aIndex_str (And.intro @evBin_eqlS (And.intro @evBin_neqS (And.intro @evBin_addS (And.intro @evBin_lssS (And.intro @i64_byte (And.intro @evBin_eqlB (And.intro @evBin_neqB @Int.toNat_natCast)))))))))))))))) := And.intro @bytesL_length (And.intro @ints_length (And.intro @bytesL_head (And.intro @ints_head (And.intro @bytesL_take (And.intro @ints_take (And.intro @bytesL_snoc (And.intro @ints_snoc (And.intro @aIndex_str (And.intro @evBin_eqlS (And.intro @evBin_neqS (And.intro @evBin_addS (And.intro @evBin_lssS (And.intro @i64_byte (And.intro @evBin_eqlB (And.intro @evBin_neqB @Int.toNat_natCast)))))))))))))))

end Ev
end Go.Proofs.Ytidobgmklcbcpaa
