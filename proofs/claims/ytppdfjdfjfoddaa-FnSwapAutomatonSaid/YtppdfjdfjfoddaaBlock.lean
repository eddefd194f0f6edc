/-
  Automata in memory, as blocks: laid, read, written. Calls that are told of memory no more than that.
-/
import Derived.Test.YtppdfjdfjfoddaaAutoL
set_option linter.unusedSimpArgs false
set_option linter.unusedVariables false
namespace Go.Proofs.Ytppdfjdfjfoddaa
namespace Ev
def autO (b : Nat) (rs : List (List Int)) (ac : List Bool) : H := .vec (refsV (b + 2) rs ++ nilsA 0) 1 0 :: .arr (bools ac) 1 0 :: rowsO rs
def autA (v : Nat) (al : Int) (n m : Nat) : A := .agg [.d (.int .i64 al), .sl v 0 0 n, .sl (v + 1) 0 0 m]
def autD (al : Int) (rs : List (List Int)) (ac : List Bool) : A := .agg [.d (.int .i64 al), .d (.ivs rs.length (rowsD rs)), .d (.ivs ac.length (bools ac))]
structure Has (h : H) (v : Nat) (rs : List (List Int)) (ac : List Bool) : Prop where
  vec : h[v]? = some (.vec (refsV (v + 2) rs ++ nilsA 0) 1 0)
  acc : h[v + 1]? = some (.arr (bools ac) 1 0)
  row : ∀ (i : Nat) (r : List Int), rs[i]? = some r → h[v + 2 + i]? = some (.arr (ints r) 1 0)
theorem autO_len {b : Nat} {rs : List (List Int)} {ac : List Bool} : (autO b rs ac).length = rs.length + 2 := by simp [autO, rowsO_len]
theorem has_new {h : H} {rs : List (List Int)} {ac : List Bool} : Has (h ++ autO h.length rs ac) h.length rs ac := by
  refine ⟨by simp [autO], by simp [autO], fun i r hr => ?_⟩
  rw [List.getElem?_append_right (by omega), show h.length + 2 + i - h.length = i + 1 + 1 by omega]
  simp only [autO, List.getElem?_cons_succ]
  exact rowsO_get hr
theorem has_app {h h2 : H} {v : Nat} {rs : List (List Int)} {ac : List Bool} (k : Has h v rs ac) : Has (h ++ h2) v rs ac :=
  ⟨by rw [List.getElem?_append_left (lt_of_get k.vec)]; exact k.vec, by rw [List.getElem?_append_left (lt_of_get k.acc)]; exact k.acc,
   fun i r hr => by rw [List.getElem?_append_left (lt_of_get (k.row i r hr))]; exact k.row i r hr⟩
theorem rd_row {h : H} {b : Nat} {r : List Int} (hr : h[b]? = some (.arr (ints r) 1 0)) : rd0 h (.sl b 0 0 r.length) = some (rowD r) := by
  simp only [rd0, hr, true_and, Nat.zero_add, Nat.mul_one, ints_length, Nat.le_refl, if_true, List.drop_zero, ints_take, rowD]
theorem rd_refs {h : H} : ∀ {rs : List (List Int)} {b : Nat}, (∀ (i : Nat) (r : List Int), rs[i]? = some r → h[b + i]? = some (.arr (ints r) 1 0)) → rdWith (rd0 h) (refsV b rs) = some (rowsD rs)
  | [], b, _ => rfl
  | r :: rs, b, hh => by
    have h0 := hh 0 r rfl
    simp only [Nat.add_zero] at h0
    simp only [refsV, rdWith, rd_row h0, rd_refs (rs := rs) (b := b + 1) fun i q hq => by
      rw [show b + 1 + i = b + (i + 1) by omega]; exact hh (i + 1) q (by simpa using hq)]
    rfl
theorem rd_vec {h : H} {v : Nat} {rs : List (List Int)} {ac : List Bool} (k : Has h v rs ac) : rd1 h (.sl v 0 0 rs.length) = some (.ivs rs.length (rowsD rs)) := by
  have hl : 0 + rs.length * 1 ≤ (refsV (v + 2) rs ++ nilsA 0).length := by rw [List.length_append, refsV_len]; omega
  have hn : nilsA 0 = [] := rfl
  simp only [rd1, k.vec]
  rw [if_pos ⟨trivial, hl⟩]
  simp only [hn, List.append_nil, rd_refs k.row, Option.map_some, List.drop_zero, Nat.mul_one, rows_take (Nat.le_refl _)]
theorem rd_acc {h : H} {v : Nat} {rs : List (List Int)} {ac : List Bool} (k : Has h v rs ac) : rd1 h (.sl (v + 1) 0 0 ac.length) = some (.ivs ac.length (bools ac)) := by
  have hl : 0 + ac.length * 1 ≤ (bools ac).length := by rw [bools_length]; omega
  simp only [rd1, rd0, k.acc]
  rw [if_pos ⟨trivial, hl⟩]
  simp only [List.drop_zero, Nat.mul_one, bools_take (Nat.le_refl _)]
theorem wgt_app : ∀ (h h2 : H), wgt (h ++ h2) = wgt h + wgt h2
  | [], h2 => by simp [wgt]
  | o :: h, h2 => by cases o <;> simp [wgt, wgt_app h h2] <;> omega
theorem wgt_rows (rs : List (List Int)) : wgt (rowsO rs) = 0 := by
  induction rs with
  | nil => rfl
  | cons r rs ih => simpa [rowsO, wgt] using ih
theorem wgt_aut {b : Nat} {rs : List (List Int)} {ac : List Bool} : wgt (autO b rs ac) = rs.length := by
  simp [autO, wgt, wgt_rows, idsL_app, refsV_ids, idsL_nils]
def kidsO : O → List Nat
  | .box cs => idsL cs
  | .vec cs _ _ => idsL cs
  | _ => []
section
variable {h : H} {v : Nat} {rs : List (List Int)} {ac : List Bool}
theorem map_vec {f : Nat → Option Nat} {b d : Nat} (hf : ∀ i, i < rs.length → f (b + i) = some (d + i)) : mapO f (.vec (refsV b rs ++ nilsA 0) 1 0) = .vec (refsV d rs ++ nilsA 0) 1 0 := by
  have hn : nilsA 0 = [] := rfl
  simp only [mapO, hn, List.append_nil, refsV_map (c := 0) hf]
theorem map_autA {f : Nat → Option Nat} {al : Int} {n m a b : Nat} (h0 : f a = some b) (h1 : f (a + 1) = some (b + 1)) : mapA f (autA a al n m) = autA b al n m := by
  simp only [autA, mapA, mapAs, h0, h1]
theorem back_new {b n i : Nat} (hi : i < n) : back [] b n i = some (b + i) := by
  unfold back
  simp [hi]
theorem map_autO {b n : Nat} (hn : n = rs.length + 2) : (autO 0 rs ac).map (mapO (back [] b n)) = autO b rs ac := by
  subst hn
  unfold autO
  rw [List.map_cons, List.map_cons, rows_map, map_vec (d := b + 2) fun i hi => by rw [back_new (by omega)]; congr 1; omega]
  rfl
end
section
variable {E : Env} {call : CallF} {h : H} {f : FuncId}
theorem refsV_lens : ∀ {rs rs2 : List (List Int)} {b : Nat}, rs2.map List.length = rs.map List.length → refsV b rs2 = refsV b rs
  | [], [], b, _ => rfl
  | [], _ :: _, b, hl => by simp at hl
  | _ :: _, [], b, hl => by simp at hl
  | r :: rs, q :: rs2, b, hl => by
    simp only [List.map_cons, List.cons.injEq] at hl
    simp only [refsV, hl.1, refsV_lens hl.2]
end
end Ev
end Go.Proofs.Ytppdfjdfjfoddaa
