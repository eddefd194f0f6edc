/-
  Lists of plain elements in memory: reading, writing, making, joining.
-/
import Derived.Test.YtidobgmklcbcpaaTypes
set_option linter.unusedSimpArgs false
namespace Go.Proofs.Ytidobgmklcbcpaa
namespace Ev

theorem setRun_map {α : Type} (f : α → D) (l : List α) (k : Nat) (v : α) (h : k < l.length) : setRun (l.map f) k [f v] = (l.set k v).map f := by
  unfold setRun
  rw [List.map_set]
  have : k < (l.map f).length := by simpa using h
  generalize l.map f = m at *
  rw [List.set_eq_take_append_cons_drop, if_pos this]
  simp

theorem bytesL_length {l : List UInt8} : (bytesL l).length = l.length := by simp [bytesL]
theorem nil_ints {e g : Nat} : O.arr [] e g = O.arr (ints []) e g := rfl
theorem bytesL_snoc {l : List UInt8} {v : UInt8} : bytesL l ++ [.int .u8 (v.toNat : Int)] = bytesL (l ++ [v]) := by simp [bytesL]
theorem bytesL_take {l : List UInt8} {k : Nat} (h : l.length ≤ k) : (bytesL l).take k = bytesL l := List.take_of_length_le (by rw [bytesL_length]; exact h)
theorem bytesL_head {l : List UInt8} {k : Nat} (h : k < l.length) : (((bytesL l).drop k).map A.d).head? = some (.d (.int .u8 ((l.getD k 0).toNat : Int))) := by
  rw [List.head?_map, List.head?_drop, bytesL, List.getElem?_map, List.getD_eq_getElem?_getD, List.getElem?_eq_getElem h]
  rfl
theorem ints_set {l : List Int} {k : Nat} {v : Int} (h : k < l.length) : setRun (ints l) k [.int .i64 v] = ints (l.set k v) := setRun_map _ l k v h

theorem flat_rep {α : Type} (x : α) : ∀ n : Nat, (List.replicate n [x]).flatten = List.replicate n x
  | 0 => rfl
  | n + 1 => by simp [List.replicate_succ, flat_rep x n]

theorem make_ints {n : Int} {h : H} (h0 : 0 ≤ n) (h1 : n ≤ 4294967296) : aMakeSlice env.P h 92 n n = some (.sl h.length 0 0 n.toNat, h ++ [.arr (ints (List.replicate n.toNat 0)) 1 0]) := by
  have hm : n ≤ (maxNeed : Nat) := by unfold maxNeed; omega
  simp only [aMakeSlice, elemT_ints, z_int, cellsA, dataOf, Option.map_some, e_int, h0, hm, c_int, Int.le_refl, and_self, if_true, flat_rep, ints, List.map_replicate]

theorem aIndex_str {i : Int} {s : List UInt8} (h0 : 0 ≤ i) (h : i < s.length) : aIndex env.P 9 (.d (.str s)) i = some (.d (.int .u8 ((s.getD i.toNat 0).toNat))) := by
  have hk : i.toNat < s.length := by omega
  simp only [aIndex, u_string, if_pos h0, List.getD_eq_getElem?_getD, List.getElem?_eq_getElem hk, Option.map_some, Option.getD_some]

theorem take_set {α : Type} {l : List α} {k : Nat} {v : α} (h : k < l.length) : (l.set k v).take (k + 1) = l.take k ++ [v] := by
  rw [List.take_set, List.take_add_one, List.getElem?_eq_getElem h]
  simp only [Option.toList_some]
  have hl : (l.take k).length = k := by rw [List.length_take]; omega
  rw [List.set_append_right _ _ (by omega), hl, Nat.sub_self]
  rfl

/-- One plain cell is written. -/
theorem store_cell {h : H} {id gen off esz : Nat} {t : TypeId} {cs : List D} {d : D} (hid : h[id]? = some (.arr cs esz gen)) (c1 : env.P.cellsOf t = 1) (hi : (env.P.info? t).isSome = true) (hd : okCell (.d d) = true) (hk : off < cs.length) :
    aStore env.P h t (.ptr id gen off) (.d d) = some (h.set id (.arr (setRun cs off [d]) esz gen)) := by
  have hc : (cellsA (.d d)).length = env.P.cellsOf t ∧ (env.P.info? t).isSome = true ∧ (cellsA (.d d)).all okCell = true := ⟨by rw [c1]; rfl, hi, by simp [cellsA, hd]⟩
  have hf : frzL h (cellsA (.d d)) = some ([d], h) := rfl
  unfold aStore
  rw [if_pos hc]
  simp only [hid, hf, c1, true_and]
  rw [if_pos (by omega)]

theorem i_int : (env.P.info? 3).isSome = true := by kernel_rfl
theorem i_bool : (env.P.info? 4).isSome = true := by kernel_rfl
theorem c_bool : env.P.cellsOf 4 = 1 := by kernel_rfl

theorem st_int0 {h : H} {g e k : Nat} {l : List Int} {b : Int} (hk : k < l.length) : aStore env.P (.arr (ints l) e g :: h) 3 (.ptr 0 g k) (.d (.int .i64 b)) = some (.arr (ints (l.set k b)) e g :: h) := by
  rw [store_cell (id := 0) rfl c_int i_int rfl (by rw [ints_length]; exact hk), ints_set hk]
  rfl
/-! ### strings -/
section
variable {t : TypeId} {h : H} {a b : List UInt8}
theorem evBin_eqlS : evBin env .eql t h (.d (.str a)) (.d (.str b)) = some (.d (.bool (a == b)), h) := by simp [evBin, aBin]
theorem evBin_neqS : evBin env .neq t h (.d (.str a)) (.d (.str b)) = some (.d (.bool (!(a == b))), h) := by simp [evBin, aBin]
theorem evBin_addS (hl : a.length + b.length ≤ 4294967296) : evBin env .add t h (.d (.str a)) (.d (.str b)) = some (.d (.str (a ++ b)), h) := by
  have : a.length + b.length ≤ maxNeed := hl
  simp [evBin, aBin, this]
theorem evBin_lssS : evBin env .lss t h (.d (.str a)) (.d (.str b)) = some (.d (.bool (Op.bytesLess a b)), h) := by simp [evBin, aBin]
end

theorem toNat_lt (b : UInt8) : b.toNat < 256 := b.toNat_lt
theorem i64_byte {b : UInt8} : IntKind.i64.wrap (b.toNat : Int) = b.toNat := i64_id (by omega) (by have := toNat_lt b; omega)

theorem evBin_eqlB {h : H} {a b : Bool} : evBin env .eql 4 h (.d (.bool a)) (.d (.bool b)) = some (.d (.bool (a == b)), h) := by simp [evBin, aBin, aNil, u_bool, eqlA]
theorem evBin_neqB {h : H} {a b : Bool} : evBin env .neq 4 h (.d (.bool a)) (.d (.bool b)) = some (.d (.bool (!(a == b))), h) := by simp [evBin, aBin, aNil, u_bool, eqlA]

/-- List rules that every walk takes. -/
theorem LB : type_of% (And.intro @bytesL_length (And.intro @ints_length (And.intro @bytesL_head (And.intro @ints_head (And.intro @bytesL_take (And.intro @ints_take (And.intro @bytesL_snoc (And.intro @ints_snoc (And.intro @aIndex_str (And.intro @evBin_eqlS (And.intro @evBin_neqS (And.intro @evBin_addS (And.intro @evBin_lssS (And.intro @i64_byte (And.intro @evBin_eqlB (And.intro @evBin_neqB @Int.toNat_natCast)))))))))))))))) := And.intro @bytesL_length (And.intro @ints_length (And.intro @bytesL_head (And.intro @ints_head (And.intro @bytesL_take (And.intro @ints_take (And.intro @bytesL_snoc (And.intro @ints_snoc (And.intro @aIndex_str (And.intro @evBin_eqlS (And.intro @evBin_neqS (And.intro @evBin_addS (And.intro @evBin_lssS (And.intro @i64_byte (And.intro @evBin_eqlB (And.intro @evBin_neqB @Int.toNat_natCast)))))))))))))))

end Ev
end Go.Proofs.Ytidobgmklcbcpaa
