/-
  The exact laws' own functions, at edges and systems: copies, comparisons, marks.
-/
import Derived.Test.YtppdfjdfjfoddaaEdges
import Derived.Test.YtppdfjdfjfoddaaVec
section
set_option linter.unusedSimpArgs false
set_option linter.unusedVariables false
set_option maxRecDepth 8000
set_option pp.maxSteps 6000
set_option maxHeartbeats 4000000
namespace Go.Proofs.Ytppdfjdfjfoddaa
namespace Ev
theorem kCall_ref {R : Type} {E : Env} {call : CallF} {h : H} {f : FuncId} {args : List A} {r : A} {k : A → H → Option R} {id e g e2 g2 : Nat} {cs cs2 : List D} (hi : h[id]? = some (.arr cs e g)) (hid : idsL args = [id]) (hm : (E.hint f).mode = 0) (hr : idsA r = []) (he : call f (mapAs (place [id]) args) [.arr cs e g] = some (r, [.arr cs2 e2 g2])) :
  kCall E call h f args k = k r (h.set id (.arr cs2 e2 g2)) := by
 have hre : reach fuelR h [id] [] = [id] := by
  have e1 : reach fuelR h [id] [] = match h[id]? with
   | some (.box cs) => reach (fuelR - 1) h ([] ++ idsL cs) ([] ++ [id])
   | some (.vec cs _ _) => reach (fuelR - 1) h ([] ++ idsL cs) ([] ++ [id])
   | some .void => reach (fuelR - 1) h [] []
   | some _ => reach (fuelR - 1) h [] ([] ++ [id])
   | none => reach (fuelR - 1) h [] [] := rfl
  rw [e1, hi]; rfl
 have hpk : pack h [id] = [.arr cs e g] := by
  simp only [pack, List.map_cons, List.map_nil, List.getD_eq_getElem?_getD, hi]; rfl
 unfold kCall
 rw [hid, hre, hpk]
 have hc : aCall call E.hint [.arr cs e g] f (mapAs (place [id]) args) = some (r, [.arr cs2 e2 g2]) := by
  unfold aCall; rw [hm]; exact he
 rw [hc]
 have hcl : closed h [id] [id] = true := by
  simp only [closed, List.all_cons, List.all_nil, hi]; simp
 simp only [List.length_cons, List.length_nil, Nat.le_refl, hcl, and_self, if_true, mapA_none r hr]
 simp only [putBack, mapO, List.map_nil, List.append_nil]
theorem kCall_new {R : Type} {E : Env} {call : CallF} {h h2 : H} {f : FuncId} {args : List A} {r : A} {o : O} {k : A → H → Option R} (hs : args.all still = true) (hm : (E.hint f).mode = 2) (hc : call f args [] = some (r, o :: h2)) :
  kCall E call h f args k = k (mapA (back [] h.length (h2.length + 1)) (mapA (back [] 0 (h2.length + 1)) r)) (h ++ ((o :: h2).map (mapO (back [] 0 (h2.length + 1)))).map (mapO (back [] h.length (h2.length + 1)))) := by
 have hcall : aCall call E.hint [] f args = some (mapA (back [] 0 (h2.length + 1)) r, (o :: h2).map (mapO (back [] 0 (h2.length + 1)))) := by
  unfold aCall
  rw [hm]
  simp only [frzAs_still hs, hc, List.length_nil, List.length_cons, List.nil_append]
 unfold kCall
 rw [stills_ids hs, reach_none, mapAs_none _ (stills_ids hs)]
 have : pack h [] = [] := rfl
 rw [this, hcall]
 simp only [List.length_nil, Nat.zero_le, true_and, closed, List.all_nil, Bool.and_self, if_true, putBack, List.length_map, List.length_cons]
end Ev
end Go.Proofs.Ytppdfjdfjfoddaa
end

/-!
  The exact laws' own functions, at rows of numbers and at automata: copies.
-/
section
set_option linter.unusedSimpArgs false
set_option linter.unusedVariables false
set_option maxRecDepth 8000
set_option pp.maxSteps 6000
set_option maxHeartbeats 4000000
namespace Go.Proofs.Ytppdfjdfjfoddaa
namespace Ev
structure Aut where
 al : Int
 nx : List (List Int)
 ac : List Bool
 deriving DecidableEq, Inhabited
def rowD (r : List Int) : D := .ivs r.length (ints r)
def rowsD (rs : List (List Int)) : List D := rs.map rowD
def bools (l : List Bool) : List D := l.map .bool
theorem rowsD_length {l : List (List Int)} : (rowsD l).length = l.length := by simp [rowsD]
theorem bools_length {l : List Bool} : (bools l).length = l.length := by simp [bools]
theorem bools_take {l : List Bool} {k : Nat} (h : l.length ≤ k) : (bools l).take k = bools l := List.take_of_length_le (by rw [bools_length]; exact h)
theorem bools_head {l : List Bool} {k : Nat} (h : k < l.length) : (((bools l).drop k).map A.d).head? = some (.d (.bool (l.getD k false))) := by
 rw [List.head?_map, List.head?_drop, bools, List.getElem?_map, List.getD_eq_getElem?_getD, List.getElem?_eq_getElem h]
 rfl
theorem bools_set {l : List Bool} {k : Nat} {v : Bool} (h : k < l.length) : setRun (bools l) k [.bool v] = bools (l.set k v) := setRun_map _ l k v h
theorem rows_head {l : List (List Int)} {k : Nat} (h : k < l.length) : (((rowsD l).drop k).map A.d).head? = some (.d (.ivs (l.getD k []).length (ints (l.getD k [])))) := by
 rw [List.head?_map, List.head?_drop, rowsD, List.getElem?_map, List.getD_eq_getElem?_getD, List.getElem?_eq_getElem h]
 rfl
theorem rows_take {l : List (List Int)} {k : Nat} (h : l.length ≤ k) : (rowsD l).take k = rowsD l := List.take_of_length_le (by rw [rowsD_length]; exact h)
theorem LA : type_of% (And.intro @rowsD_length (And.intro @bools_length (And.intro @bools_take (And.intro @bools_head (And.intro @rows_head @rows_take))))) := And.intro @rowsD_length (And.intro @bools_length (And.intro @bools_take (And.intro @bools_head (And.intro @rows_head @rows_take))))
theorem set_go1 {α : Type} {l : List α} {k : Nat} {v : α} {m : List α} (h : k < l.length) : (l.set k v).take (k + 1) ++ m = l.take k ++ (v :: m) := by
 rw [take_set h]; simp
theorem xuu {R : Type} {L n : Nat} (hn : 1 ≤ n) {l : List Int} (hl : l.length ≤ 4294967296) {k : Exit → List A → H → Option R} : ∀ (i : Int) (m : Nat) (o : List Int) (len : Nat) (h0 : 0 ≤ i) (hi : i ≤ l.length) (hm : (l.length : Int) - i < m) (ho : o.length = l.length) (hlen : len = l.length),
  kLoop env (evCall env L n) L 0 [] (U1 (Z1 (U2 (U1 (Z16 (Z1 ([]))))))) (xem 0) (Z1 (U1 (Z2 (Z1 (U16 (U1 ([]))))))) m (.d (.ivs l.length (ints l)) :: Y1 (.d .nils :: .sl 0 0 0 len :: .d (.int .i64 i) :: Y16 (Y1 ([])))) [.arr (ints o) 1 0] k
  = k (.exit 0) (.d (.ivs l.length (ints l)) :: Y1 (.d .nils :: .sl 0 0 0 l.length :: .d (.int .i64 (l.length)) :: Y16 (Y1 ([])))) [.arr (ints (o.take i.toNat ++ l.drop i.toNat)) 1 0] := by
 intro i m o len h0 hi hm ho hlen
 obtain ⟨j, hj⟩ : ∃ j : Nat, (j : Int) = (l.length : Int) - i := ⟨((l.length : Int) - i).toNat, by omega⟩
 induction j generalizing i m o len with
 | zero =>
  obtain ⟨m, rfl⟩ : ∃ q, m = q + 1 := ⟨m - 1, by omega⟩
  obtain rfl : i = l.length := by omega
  rw [xlc]
  simp only [xkl, Try.f87, SLM, simprocAttr]
  simp -implicitDefEqProofs (maxSteps := 2000000) (disch := first | assumption | (refine Shut.mk ?_; kernel_rfl) | omega | (simp only [GT]; done) | (simp only [LN] <;> omega) | fail) only [↓DN, ↓kAsg, ↓kRet, UP, simprocAttr, Int.lt_irrefl]
  have e1 : o.take l.length = o := List.take_of_length_le (by omega)
  simp only [Int.toNat_natCast, List.drop_length, e1, List.append_nil, hlen]
 | succ j ih =>
  obtain ⟨m, rfl⟩ : ∃ q, m = q + 1 := ⟨m - 1, by omega⟩
  have hc : i < l.length := by omega
  have hk : i.toNat < l.length := by omega
  have hk2 : i.toNat < o.length := by omega
  have hc2 : i < (len : Int) := by omega
  have e1 : (i + 1).toNat = i.toNat + 1 := by omega
  rw [xlc]
  simp only [xkl, Try.f87, SLM, simprocAttr]
  simp -implicitDefEqProofs (maxSteps := 2000000) (disch := first | assumption | (refine Shut.mk ?_; kernel_rfl) | omega | (simp only [GT]; done) | (simp only [LN] <;> omega) | fail) only [↓DN, ↓kAsg, ↓kRet, UP, simprocAttr, hc, hc2, u_ints, c_int, ↓xb4, ↓ih]
  rw [drop_go hk (d := 0), e1, set_go1 hk2]
theorem xvv {L n : Nat} (hn : 2 ≤ n) (l : List Int) (hl : l.length ≤ 4294967296) (hL : 2 ^ 60 ≤ L) : evCall env L n 87 [.d (.ivs l.length (ints l))] [] = some (.sl 0 0 0 l.length, [.arr (ints l) 1 0]) := by
 obtain ⟨n, rfl⟩ : ∃ m, n = m + 1 := ⟨n - 1, by omega⟩
 rw [xwb]
 simp only [xu8, Try.f87, SLM, simprocAttr]
 simp -implicitDefEqProofs (maxSteps := 2000000) (disch := first | assumption | (refine Shut.mk ?_; kernel_rfl) | omega | (simp only [GT]; done) | (simp only [LN] <;> omega) | fail) only [↓DN, ↓kAsg, ↓kRet, UP, simprocAttr, u_ints, ↓make_ints, ↓xuu, Int.toNat_natCast, Int.toNat_zero]
theorem xms {R : Type} {L n : Nat} {hq : H} {k : A → H → Option R} (hn : 2 ≤ n) (l : List Int) (hl : l.length ≤ 4294967296) (hL : 2 ^ 60 ≤ L) : kCall env (evCall env L n) hq 87 [.d (.ivs l.length (ints l))] k = k (.sl hq.length 0 0 l.length) (hq ++ [.arr (ints l) 1 0]) := by
 rw [kCall_new rfl xj0 (xvv hn l hl hL)]
 simp [mapA, back, mapO]
theorem u_intss : env.P.underlying 23 = some (.slice 60) := by kernel_rfl
theorem c_ints : env.P.cellsOf 60 = 1 := by kernel_rfl
theorem i_ints : (env.P.info? 60).isSome = true := by kernel_rfl
theorem xwq {h : H} {g k id gg o len : Nat} {cells : List A} (hk : k < cells.length) : aStore env.P (.vec cells 1 g :: h) 60 (.ptr 0 g k) (.sl id gg o len) = some (.vec (cells.set k (.sl id gg o len)) 1 g :: h) := by
 have hc : (cellsA (.sl id gg o len)).length = env.P.cellsOf 60 ∧ (env.P.info? 60).isSome = true ∧ (cellsA (.sl id gg o len)).all okCell = true := ⟨by rw [c_ints]; rfl, i_ints, rfl⟩
 have hs : setRun cells k (cellsA (.sl id gg o len)) = cells.set k (.sl id gg o len) := by
  unfold setRun
  rw [List.set_eq_take_append_cons_drop, if_pos hk]
  simp [cellsA]
 unfold aStore
 rw [if_pos hc]
 simp only [List.getElem?_cons_zero, c_ints, true_and, hs]
 rw [if_pos (by omega)]
 rfl
theorem make_vec {n : Int} {h : H} (h0 : 0 ≤ n) (h1 : n ≤ 4294967296) : aMakeVec env.P h 23 n n = some (.sl h.length 0 0 n.toNat, h ++ [.vec (nilsA n.toNat) 1 0]) := by
 have hm : n ≤ (maxNeed : Nat) := by unfold maxNeed; omega
 have he : elemT env.P 23 = some 60 := by kernel_rfl
 have hz : zeroA env.P 60 = some (.d .nils) := by kernel_rfl
 have hok : elemOk env.P 60 = true := by kernel_rfl
 simp only [aMakeVec, he, hz, cellsA, dataOf, Option.map_some, hok, h0, hm, c_ints, Int.le_refl, and_self, if_true, flat_rep, List.map_replicate]
 rfl
theorem set_vec {d : List (List Int)} {j k id : Nat} {r : List Int} (hk : k = d.length) (hid : id = d.length + 1) : (refsV 1 d ++ nilsA (j + 1)).set k (.sl id 0 0 r.length) = refsV 1 (d ++ [r]) ++ nilsA j := by
 subst hk; subst hid
 rw [refsV_snoc, List.set_append_right _ _ (by rw [refsV_len]; exact Nat.le_refl _), refsV_len, Nat.sub_self, nilsA_succ, List.set_cons_zero, Nat.add_comm 1]
 simp
theorem rowsO_snocI (rs : List (List Int)) (r : List Int) : rowsO rs ++ [.arr (ints r) 1 0] = rowsO (rs ++ [r]) := rowsO_snoc rs r
def rowsShort (rs : List (List Int)) : Prop := rs.length ≤ 4294967296 ∧ ∀ r ∈ rs, r.length ≤ 4294967296
theorem short_at {rs : List (List Int)} (h : rowsShort rs) {k : Nat} (hk : k < rs.length) : (rs.getD k []).length ≤ 4294967296 := by
 rw [List.getD_eq_getElem?_getD, List.getElem?_eq_getElem hk]
 exact h.2 _ (List.getElem_mem hk)
theorem xmi {R : Type} {L n : Nat} (hn : 3 ≤ n) (hL : 2 ^ 60 ≤ L) {rs : List (List Int)} (hs : rowsShort rs) {k : Exit → List A → H → Option R} : ∀ (j : Nat) (i : Int) (m : Nat) (d : List (List Int)) (len : Nat) (h0 : 0 ≤ i) (hi : i + j = rs.length) (hm : j < m) (hd : (d.length : Int) = i) (hlen : len = rs.length),
  kLoop env (evCall env L n) L 0 [0, 0, 0, 0, 0, 0, 0, 1002] (U1 (Z1 (U2 (U1 (Z16 (Z2 ([]))))))) (x8x 0) (Z1 (U1 (Z2 (Z1 (U16 (U2 ([]))))))) m (.d (.ivs rs.length (rowsD rs)) :: Y1 (.d .nils :: .sl 0 0 0 len :: .d (.int .i64 i) :: Y16 (Y2 ([])))) (.vec (refsV 1 d ++ nilsA j) 1 0 :: rowsO d) k
  = k (.exit 0) (.d (.ivs rs.length (rowsD rs)) :: Y1 (.d .nils :: .sl 0 0 0 rs.length :: .d (.int .i64 (rs.length)) :: Y16 (Y2 ([])))) (.vec (refsV 1 (d ++ rs.drop i.toNat) ++ nilsA 0) 1 0 :: rowsO (d ++ rs.drop i.toNat)) := by
 intro j
 have hrl := hs.1
 induction j with
 | zero =>
  intro i m d len h0 hi hm hd hlen
  obtain ⟨m, rfl⟩ : ∃ q, m = q + 1 := ⟨m - 1, by omega⟩
  obtain rfl : i = rs.length := by omega
  have hdl : d.length ≤ 4294967296 := by omega
  rw [xjh]
  simp only [xj1, Try.f58, SLM, simprocAttr]
  simp -implicitDefEqProofs (maxSteps := 2000000) (disch := first | assumption | (refine Shut.mk ?_; kernel_rfl) | omega | (simp only [GT]; done) | (simp only [LN] <;> omega) | fail) only [↓DN, ↓kAsg, ↓kRet, UP, simprocAttr, ↓xms, LA, Int.lt_irrefl, ↓gc_vec1, gc_vec1, z0As, z0A, eq_self, hlen]
  simp only [Int.toNat_natCast, List.drop_length, List.append_nil]
 | succ j ih =>
  intro i m d len h0 hi hm hd hlen
  obtain ⟨m, rfl⟩ : ∃ q, m = q + 1 := ⟨m - 1, by omega⟩
  subst hlen
  have hc : i < rs.length := by omega
  have hk : i.toNat < rs.length := by omega
  have hk2 : i.toNat < (refsV 1 d ++ nilsA (j + 1)).length := by simp [refsV_len, nilsA_len]; omega
  have hrow := short_at hs hk
  have e1 : (i + 1).toNat = i.toNat + 1 := by omega
  have e2 : i.toNat = d.length := by omega
  have hdl : (d ++ [rs.getD i.toNat []]).length ≤ 4294967296 := by simp; omega
  rw [xjh]
  simp only [xj1, Try.f58, SLM, simprocAttr]
  simp -implicitDefEqProofs (maxSteps := 2000000) (disch := first | assumption | (refine Shut.mk ?_; kernel_rfl) | omega | (simp only [GT]; done) | (simp only [LN] <;> omega) | fail) only [↓DN, ↓kAsg, ↓kRet, UP, simprocAttr, ↓xms, LA, hc, u_intss, c_ints, ↓xwq, set_vec, rowsO_snocI, rowsO_len, ↓gc_vec1, gc_vec1, z0As, z0A, eq_self]
  rw [ih (i + 1) m _ _ (by omega) (by omega) (by omega) (by simp; omega) rfl, e1, drop_go hk (d := [])]
  simp only [List.append_assoc, List.cons_append, List.nil_append]
theorem xps {R : Type} {L n m : Nat} (hn : 3 ≤ n) (hL : 2 ^ 60 ≤ L) {rs : List (List Int)} (hs : rowsShort rs) {k : Exit → List A → H → Option R} (hm : rs.length < m) :
  kLoop env (evCall env L n) L 0 [0, 0, 0, 0, 0, 0, 0, 1002] (U1 (Z1 (U2 (U1 (Z16 (Z2 ([]))))))) (x8x 0) (Z1 (U1 (Z2 (Z1 (U16 (U2 ([]))))))) m (.d (.ivs rs.length (rowsD rs)) :: Y1 (.d .nils :: .sl 0 0 0 rs.length :: .d (.int .i64 0) :: Y16 (Y2 ([])))) [.vec (nilsA rs.length) 1 0] k
  = k (.exit 0) (.d (.ivs rs.length (rowsD rs)) :: Y1 (.d .nils :: .sl 0 0 0 rs.length :: .d (.int .i64 (rs.length)) :: Y16 (Y2 ([])))) (.vec (refsV 1 rs ++ nilsA 0) 1 0 :: rowsO rs) := by
 have h := xmi (R := R) (L := L) hn hL hs (k := k) rs.length 0 m [] rs.length (by omega) (by omega) hm rfl rfl
 simpa [refsV, rowsO] using h
theorem gc_vecN {m : List Bool} {s : List A} {q : Nat} : gc 0 m s [.vec (nilsA q) 1 0] = match box (tidy m s) with
  | .mk s1 => if idsL s1 = [0] ∧ z0As s1 = true then (s1, [.vec (nilsA q) 1 0]) else gcO 0 m s [.vec (nilsA q) 1 0]
  | .no => ([], []) := gc_vec1 (rs := []) (q := q) (by simp)
theorem xvo {L n : Nat} (hn : 4 ≤ n) (rs : List (List Int)) (hs : rowsShort rs) (hL : 2 ^ 60 ≤ L) : evCall env L n 58 [.d (.ivs rs.length (rowsD rs))] [] = some (.sl 0 0 0 rs.length, .vec (refsV 1 rs ++ nilsA 0) 1 0 :: rowsO rs) := by
 have hrl := hs.1
 obtain ⟨n, rfl⟩ : ∃ m, n = m + 1 := ⟨n - 1, by omega⟩
 rw [xve]
 simp only [xst, Try.f58, SLM, simprocAttr]
 simp -implicitDefEqProofs (maxSteps := 2000000) (disch := first | assumption | (refine Shut.mk ?_; kernel_rfl) | omega | (simp only [GT]; done) | (simp only [LN] <;> omega) | fail) only [↓DN, ↓kAsg, ↓kRet, UP, simprocAttr, ↓xms, ↓xmi, LA, u_intss, ↓make_vec, ↓xps, Int.toNat_natCast, ↓gc_vecN, gc_vecN, ↓keep_vec2, ↓trim_vec1, trim_vec1, z0As, z0A, eq_self]
theorem u_bools : env.P.underlying 24 = some (.slice 4) := by kernel_rfl
theorem xtt {h : H} {g e k : Nat} {l : List Bool} {b : Bool} (hk : k < l.length) : aStore env.P (.arr (bools l) e g :: h) 4 (.ptr 0 g k) (.d (.bool b)) = some (.arr (bools (l.set k b)) e g :: h) := by
 rw [store_cell (id := 0) rfl c_bool i_bool rfl (by rw [bools_length]; exact hk), bools_set hk]
 rfl
theorem make_bools {n : Int} {h : H} (h0 : 0 ≤ n) (h1 : n ≤ 4294967296) : aMakeSlice env.P h 24 n n = some (.sl h.length 0 0 n.toNat, h ++ [.arr (bools (List.replicate n.toNat false)) 1 0]) := by
 have hm : n ≤ (maxNeed : Nat) := by unfold maxNeed; omega
 have he : elemT env.P 24 = some 4 := by kernel_rfl
 have hz : zeroA env.P 4 = some (.d (.bool false)) := by kernel_rfl
 have hok : elemOk env.P 4 = true := by kernel_rfl
 simp only [aMakeSlice, he, hz, cellsA, dataOf, Option.map_some, hok, h0, hm, c_bool, Int.le_refl, and_self, if_true, flat_rep, bools, List.map_replicate]
theorem xty {R : Type} {L n : Nat} (hn : 1 ≤ n) {l : List Bool} (hl : l.length ≤ 4294967296) {k : Exit → List A → H → Option R} : ∀ (i : Int) (m : Nat) (o : List Bool) (len : Nat) (h0 : 0 ≤ i) (hi : i ≤ l.length) (hm : (l.length : Int) - i < m) (ho : o.length = l.length) (hlen : len = l.length),
  kLoop env (evCall env L n) L 0 [] (U1 (Z1 (U2 (U1 (Z16 (Z1 ([]))))))) (xco 0) (Z1 (U1 (Z2 (Z1 (U16 (U1 ([]))))))) m (.d (.ivs l.length (bools l)) :: Y1 (.d .nils :: .sl 0 0 0 len :: .d (.int .i64 i) :: Y16 (Y1 ([])))) [.arr (bools o) 1 0] k
  = k (.exit 0) (.d (.ivs l.length (bools l)) :: Y1 (.d .nils :: .sl 0 0 0 l.length :: .d (.int .i64 (l.length)) :: Y16 (Y1 ([])))) [.arr (bools (o.take i.toNat ++ l.drop i.toNat)) 1 0] := by
 intro i m o len h0 hi hm ho hlen
 obtain ⟨j, hj⟩ : ∃ j : Nat, (j : Int) = (l.length : Int) - i := ⟨((l.length : Int) - i).toNat, by omega⟩
 induction j generalizing i m o len with
 | zero =>
  obtain ⟨m, rfl⟩ : ∃ q, m = q + 1 := ⟨m - 1, by omega⟩
  obtain rfl : i = l.length := by omega
  rw [xjt]
  simp only [xj9, Try.f59, SLM, simprocAttr]
  simp -implicitDefEqProofs (maxSteps := 2000000) (disch := first | assumption | (refine Shut.mk ?_; kernel_rfl) | omega | (simp only [GT]; done) | (simp only [LN] <;> omega) | fail) only [↓DN, ↓kAsg, ↓kRet, UP, simprocAttr, LA, Int.lt_irrefl]
  have e1 : o.take l.length = o := List.take_of_length_le (by omega)
  simp only [Int.toNat_natCast, List.drop_length, e1, List.append_nil, hlen]
 | succ j ih =>
  obtain ⟨m, rfl⟩ : ∃ q, m = q + 1 := ⟨m - 1, by omega⟩
  have hc : i < l.length := by omega
  have hk : i.toNat < l.length := by omega
  have hk2 : i.toNat < o.length := by omega
  have hc2 : i < (len : Int) := by omega
  have e1 : (i + 1).toNat = i.toNat + 1 := by omega
  rw [xjt]
  simp only [xj9, Try.f59, SLM, simprocAttr]
  simp -implicitDefEqProofs (maxSteps := 2000000) (disch := first | assumption | (refine Shut.mk ?_; kernel_rfl) | omega | (simp only [GT]; done) | (simp only [LN] <;> omega) | fail) only [↓DN, ↓kAsg, ↓kRet, UP, simprocAttr, LA, hc, hc2, u_bools, c_bool, ↓xtt, ↓ih]
  rw [drop_go hk (d := false), e1, set_go1 hk2]
theorem xvc {L n : Nat} (hn : 2 ≤ n) (l : List Bool) (hl : l.length ≤ 4294967296) (hL : 2 ^ 60 ≤ L) : evCall env L n 59 [.d (.ivs l.length (bools l))] [] = some (.sl 0 0 0 l.length, [.arr (bools l) 1 0]) := by
 obtain ⟨n, rfl⟩ : ∃ m, n = m + 1 := ⟨n - 1, by omega⟩
 rw [xvm]
 simp only [xsl, Try.f59, SLM, simprocAttr]
 simp -implicitDefEqProofs (maxSteps := 2000000) (disch := first | assumption | (refine Shut.mk ?_; kernel_rfl) | omega | (simp only [GT]; done) | (simp only [LN] <;> omega) | fail) only [↓DN, ↓kAsg, ↓kRet, UP, simprocAttr, LA, u_bools, ↓make_bools, ↓xty, Int.toNat_natCast, Int.toNat_zero]
theorem xv6 {R : Type} {L n : Nat} {hq : H} {k : A → H → Option R} (hn : 2 ≤ n) (l : List Bool) (hl : l.length ≤ 4294967296) (hL : 2 ^ 60 ≤ L) : kCall env (evCall env L n) hq 59 [.d (.ivs l.length (bools l))] k = k (.sl hq.length 0 0 l.length) (hq ++ [.arr (bools l) 1 0]) := by
 rw [kCall_new rfl xgj (xvc hn l hl hL)]
 simp [mapA, back, mapO]
theorem xun {R : Type} {L n : Nat} (hn : 1 ≤ n) {l : List Int} (hl : l.length ≤ 4294967296) {k : Exit → List A → H → Option R} : ∀ (i : Int) (m : Nat) (h0 : 0 ≤ i) (hi : i ≤ l.length) (hm : (l.length : Int) - i < m),
  kLoop env (evCall env L n) L 0 [] (U2 (Z2 (U2 (Z16 (Z4 ([])))))) (xer 0) (Z2 (U2 (Z2 (U16 (U4 ([])))))) m (.d (.ivs l.length (ints l)) :: .d (.ivs l.length (ints l)) :: Y2 (.d (.bool false) :: .d (.int .i64 i) :: Y16 (Y4 ([])))) [] k
  = k (.exit 0) (.d (.ivs l.length (ints l)) :: .d (.ivs l.length (ints l)) :: Y2 (.d (.bool false) :: .d (.int .i64 (l.length)) :: Y16 (Y4 ([])))) [] := by
 intro i m h0 hi hm
 obtain ⟨j, hj⟩ : ∃ j : Nat, (j : Int) = (l.length : Int) - i := ⟨((l.length : Int) - i).toNat, by omega⟩
 induction j generalizing i m with
 | zero =>
  obtain ⟨m, rfl⟩ : ∃ q, m = q + 1 := ⟨m - 1, by omega⟩
  obtain rfl : i = l.length := by omega
  rw [xl9]
  simp only [xks, Try.f91, SLM, simprocAttr]
  simp -implicitDefEqProofs (maxSteps := 2000000) (disch := first | assumption | (refine Shut.mk ?_; kernel_rfl) | omega | (simp only [GT]; done) | (simp only [LN] <;> omega) | fail) only [↓DN, ↓kAsg, ↓kRet, UP, simprocAttr, LA, Int.lt_irrefl]
 | succ j ih =>
  obtain ⟨m, rfl⟩ : ∃ q, m = q + 1 := ⟨m - 1, by omega⟩
  have hc : i < l.length := by omega
  have hk : i.toNat < l.length := by omega
  rw [xl9]
  simp only [xks, Try.f91, SLM, simprocAttr]
  simp -implicitDefEqProofs (maxSteps := 2000000) (disch := first | assumption | (refine Shut.mk ?_; kernel_rfl) | omega | (simp only [GT]; done) | (simp only [LN] <;> omega) | fail) only [↓DN, ↓kAsg, ↓kRet, UP, simprocAttr, LA, hc, u_ints, c_int, ↓ih]
theorem xsy {L n : Nat} (hn : 2 ≤ n) (l : List Int) (hl : l.length ≤ 4294967296) (hL : 2 ^ 60 ≤ L) : evCall env L n 91 [.d (.ivs l.length (ints l)), .d (.ivs l.length (ints l))] [] = some (.d (.bool true), []) := by
 obtain ⟨n, rfl⟩ : ∃ m, n = m + 1 := ⟨n - 1, by omega⟩
 rw [xw5]
 simp only [xtr, Try.f91, SLM, simprocAttr]
 simp -implicitDefEqProofs (maxSteps := 2000000) (disch := first | assumption | (refine Shut.mk ?_; kernel_rfl) | omega | (simp only [GT]; done) | (simp only [LN] <;> omega) | fail) only [↓DN, ↓kAsg, ↓kRet, UP, simprocAttr, ↓xun, LA]
theorem xn2 {R : Type} {L n : Nat} {hq : H} {k : A → H → Option R} (hn : 2 ≤ n) (l : List Int) (hl : l.length ≤ 4294967296) (hL : 2 ^ 60 ≤ L) : kCall env (evCall env L n) hq 91 [.d (.ivs l.length (ints l)), .d (.ivs l.length (ints l))] k = k (.d (.bool true)) hq :=
 kCall_still rfl (xsy hn l hl hL) rfl (.inl rfl)
theorem xml {R : Type} {L n : Nat} {k : A → Option R} (hn : 2 ≤ n) (l : List Int) (hl : l.length ≤ 4294967296) (hL : 2 ^ 60 ≤ L) : kLent (evCall env L n) 91 [.d (.ivs l.length (ints l)), .d (.ivs l.length (ints l))] k = k (.d (.bool true)) :=
 kLent_ev (xsy hn l hl hL) rfl
theorem xj2 {R : Type} {L n : Nat} {hq : H} {k : A → H → Option R} {id0 g0 o0 len0 : Nat} {l : List Int} : kCall env (evCall env L n) hq 91 [.sl id0 g0 o0 len0, .d (.ivs l.length (ints l))] k = match box (lentA hq [.sl id0 g0 o0 len0, .d (.ivs l.length (ints l))]) with
  | .mk (some fs) => kLent (evCall env L n) 91 fs fun r => k r hq
  | _ => none := kCall_lent x9l
theorem xj7 {R : Type} {L n : Nat} {hq : H} {k : A → H → Option R} {id1 g1 o1 len1 : Nat} {l : List Int} : kCall env (evCall env L n) hq 91 [.d (.ivs l.length (ints l)), .sl id1 g1 o1 len1] k = match box (lentA hq [.d (.ivs l.length (ints l)), .sl id1 g1 o1 len1]) with
  | .mk (some fs) => kLent (evCall env L n) 91 fs fun r => k r hq
  | _ => none := kCall_lent x9l
theorem xj8 {R : Type} {L n : Nat} {hq : H} {k : A → H → Option R} {id1 g1 o1 len1 : Nat} {id0 g0 o0 len0 : Nat}  : kCall env (evCall env L n) hq 91 [.sl id0 g0 o0 len0, .sl id1 g1 o1 len1] k = match box (lentA hq [.sl id0 g0 o0 len0, .sl id1 g1 o1 len1]) with
  | .mk (some fs) => kLent (evCall env L n) 91 fs fun r => k r hq
  | _ => none := kCall_lent x9l
theorem xu0 {R : Type} {L n : Nat} (hn : 1 ≤ n) {l : List Bool} (hl : l.length ≤ 4294967296) {k : Exit → List A → H → Option R} : ∀ (i : Int) (m : Nat) (h0 : 0 ≤ i) (hi : i ≤ l.length) (hm : (l.length : Int) - i < m),
  kLoop env (evCall env L n) L 0 [] (U2 (Z2 (U2 (Z16 (Z4 ([])))))) (xbn 0) (Z2 (U2 (Z2 (U16 (U4 ([])))))) m (.d (.ivs l.length (bools l)) :: .d (.ivs l.length (bools l)) :: Y2 (.d (.bool false) :: .d (.int .i64 i) :: Y16 (Y4 ([])))) [] k
  = k (.exit 0) (.d (.ivs l.length (bools l)) :: .d (.ivs l.length (bools l)) :: Y2 (.d (.bool false) :: .d (.int .i64 (l.length)) :: Y16 (Y4 ([])))) [] := by
 intro i m h0 hi hm
 obtain ⟨j, hj⟩ : ∃ j : Nat, (j : Int) = (l.length : Int) - i := ⟨((l.length : Int) - i).toNat, by omega⟩
 induction j generalizing i m with
 | zero =>
  obtain ⟨m, rfl⟩ : ∃ q, m = q + 1 := ⟨m - 1, by omega⟩
  obtain rfl : i = l.length := by omega
  rw [xk2]
  simp only [xj5, Try.f63, SLM, simprocAttr]
  simp -implicitDefEqProofs (maxSteps := 2000000) (disch := first | assumption | (refine Shut.mk ?_; kernel_rfl) | omega | (simp only [GT]; done) | (simp only [LN] <;> omega) | fail) only [↓DN, ↓kAsg, ↓kRet, UP, simprocAttr, LA, Int.lt_irrefl]
 | succ j ih =>
  obtain ⟨m, rfl⟩ : ∃ q, m = q + 1 := ⟨m - 1, by omega⟩
  have hc : i < l.length := by omega
  have hk : i.toNat < l.length := by omega
  rw [xk2]
  simp only [xj5, Try.f63, SLM, simprocAttr]
  simp -implicitDefEqProofs (maxSteps := 2000000) (disch := first | assumption | (refine Shut.mk ?_; kernel_rfl) | omega | (simp only [GT]; done) | (simp only [LN] <;> omega) | fail) only [↓DN, ↓kAsg, ↓kRet, UP, simprocAttr, LA, hc, u_bools, c_bool, evBin_neqB, evBin_eqlB, ↓ih]
theorem xr3 {L n : Nat} (hn : 2 ≤ n) (l : List Bool) (hl : l.length ≤ 4294967296) (hL : 2 ^ 60 ≤ L) : evCall env L n 63 [.d (.ivs l.length (bools l)), .d (.ivs l.length (bools l))] [] = some (.d (.bool true), []) := by
 obtain ⟨n, rfl⟩ : ∃ m, n = m + 1 := ⟨n - 1, by omega⟩
 rw [xvb]
 simp only [xsw, Try.f63, SLM, simprocAttr]
 simp -implicitDefEqProofs (maxSteps := 2000000) (disch := first | assumption | (refine Shut.mk ?_; kernel_rfl) | omega | (simp only [GT]; done) | (simp only [LN] <;> omega) | fail) only [↓DN, ↓kAsg, ↓kRet, UP, simprocAttr, ↓xu0, LA]
theorem xvn {R : Type} {L n : Nat} {hq : H} {k : A → H → Option R} (hn : 2 ≤ n) (l : List Bool) (hl : l.length ≤ 4294967296) (hL : 2 ^ 60 ≤ L) : kCall env (evCall env L n) hq 63 [.d (.ivs l.length (bools l)), .d (.ivs l.length (bools l))] k = k (.d (.bool true)) hq :=
 kCall_still rfl (xr3 hn l hl hL) rfl (.inl rfl)
theorem xv7 {R : Type} {L n : Nat} {k : A → Option R} (hn : 2 ≤ n) (l : List Bool) (hl : l.length ≤ 4294967296) (hL : 2 ^ 60 ≤ L) : kLent (evCall env L n) 63 [.d (.ivs l.length (bools l)), .d (.ivs l.length (bools l))] k = k (.d (.bool true)) :=
 kLent_ev (xr3 hn l hl hL) rfl
theorem xtk {R : Type} {L n : Nat} {hq : H} {k : A → H → Option R} {id0 g0 o0 len0 : Nat} {l : List Bool} : kCall env (evCall env L n) hq 63 [.sl id0 g0 o0 len0, .d (.ivs l.length (bools l))] k = match box (lentA hq [.sl id0 g0 o0 len0, .d (.ivs l.length (bools l))]) with
  | .mk (some fs) => kLent (evCall env L n) 63 fs fun r => k r hq
  | _ => none := kCall_lent x82
theorem xu2 {R : Type} {L n : Nat} {hq : H} {k : A → H → Option R} {id1 g1 o1 len1 : Nat} {l : List Bool} : kCall env (evCall env L n) hq 63 [.d (.ivs l.length (bools l)), .sl id1 g1 o1 len1] k = match box (lentA hq [.d (.ivs l.length (bools l)), .sl id1 g1 o1 len1]) with
  | .mk (some fs) => kLent (evCall env L n) 63 fs fun r => k r hq
  | _ => none := kCall_lent x82
theorem xtb {R : Type} {L n : Nat} {hq : H} {k : A → H → Option R} {id1 g1 o1 len1 : Nat} {id0 g0 o0 len0 : Nat}  : kCall env (evCall env L n) hq 63 [.sl id0 g0 o0 len0, .sl id1 g1 o1 len1] k = match box (lentA hq [.sl id0 g0 o0 len0, .sl id1 g1 o1 len1]) with
  | .mk (some fs) => kLent (evCall env L n) 63 fs fun r => k r hq
  | _ => none := kCall_lent x82
theorem xte {R : Type} {L n : Nat} (hn : 3 ≤ n) (hL : 2 ^ 60 ≤ L) {l : List (List Int)} (hs : rowsShort l) {k : Exit → List A → H → Option R} : ∀ (i : Int) (m : Nat) (h0 : 0 ≤ i) (hi : i ≤ l.length) (hm : (l.length : Int) - i < m),
  kLoop env (evCall env L n) L 0 [] (U2 (Z2 (U2 (Z16 (Z4 (Z1 ([]))))))) (xc5 0) (Z2 (U2 (Z2 (U16 (U4 (U1 ([]))))))) m (.d (.ivs l.length (rowsD l)) :: .d (.ivs l.length (rowsD l)) :: Y2 (.d (.bool false) :: .d (.int .i64 i) :: Y16 (Y4 (Y1 ([]))))) [] k
  = k (.exit 0) (.d (.ivs l.length (rowsD l)) :: .d (.ivs l.length (rowsD l)) :: Y2 (.d (.bool false) :: .d (.int .i64 (l.length)) :: Y16 (Y4 (Y1 ([]))))) [] := by
 intro i m h0 hi hm
 have hl := hs.1
 obtain ⟨j, hj⟩ : ∃ j : Nat, (j : Int) = (l.length : Int) - i := ⟨((l.length : Int) - i).toNat, by omega⟩
 induction j generalizing i m with
 | zero =>
  obtain ⟨m, rfl⟩ : ∃ q, m = q + 1 := ⟨m - 1, by omega⟩
  obtain rfl : i = l.length := by omega
  rw [xjj]
  simp only [xiy, Try.f62, SLM, simprocAttr]
  simp -implicitDefEqProofs (maxSteps := 2000000) (disch := first | assumption | (refine Shut.mk ?_; kernel_rfl) | omega | (simp only [GT]; done) | (simp only [LN] <;> omega) | fail) only [↓DN, ↓kAsg, ↓kRet, UP, simprocAttr, ↓xn2, ↓xml, ↓xj2, ↓xj7, ↓xj8, LA, Int.lt_irrefl]
 | succ j ih =>
  obtain ⟨m, rfl⟩ : ∃ q, m = q + 1 := ⟨m - 1, by omega⟩
  have hc : i < l.length := by omega
  have hk : i.toNat < l.length := by omega
  have hrow := short_at hs hk
  rw [xjj]
  simp only [xiy, Try.f62, SLM, simprocAttr]
  simp -implicitDefEqProofs (maxSteps := 2000000) (disch := first | assumption | (refine Shut.mk ?_; kernel_rfl) | omega | (simp only [GT]; done) | (simp only [LN] <;> omega) | fail) only [↓DN, ↓kAsg, ↓kRet, UP, simprocAttr, ↓xn2, ↓xml, ↓xj2, ↓xj7, ↓xj8, LA, hc, u_intss, c_ints, ↓ih]
theorem xrc {L n : Nat} (hn : 4 ≤ n) (l : List (List Int)) (hs : rowsShort l) (hL : 2 ^ 60 ≤ L) : evCall env L n 62 [.d (.ivs l.length (rowsD l)), .d (.ivs l.length (rowsD l))] [] = some (.d (.bool true), []) := by
 have hl := hs.1
 obtain ⟨n, rfl⟩ : ∃ m, n = m + 1 := ⟨n - 1, by omega⟩
 rw [xv5]
 simp only [xsk, Try.f62, SLM, simprocAttr]
 simp -implicitDefEqProofs (maxSteps := 2000000) (disch := first | assumption | (refine Shut.mk ?_; kernel_rfl) | omega | (simp only [GT]; done) | (simp only [LN] <;> omega) | fail) only [↓DN, ↓kAsg, ↓kRet, UP, simprocAttr, ↓xn2, ↓xml, ↓xj2, ↓xj7, ↓xj8, ↓xte, LA]
theorem xvg {R : Type} {L n : Nat} {hq : H} {k : A → H → Option R} (hn : 4 ≤ n) (l : List (List Int)) (hs : rowsShort l) (hL : 2 ^ 60 ≤ L) : kCall env (evCall env L n) hq 62 [.d (.ivs l.length (rowsD l)), .d (.ivs l.length (rowsD l))] k = k (.d (.bool true)) hq :=
 kCall_still rfl (xrc hn l hs hL) rfl (.inl rfl)
theorem xvj {R : Type} {L n : Nat} {k : A → Option R} (hn : 4 ≤ n) (l : List (List Int)) (hs : rowsShort l) (hL : 2 ^ 60 ≤ L) : kLent (evCall env L n) 62 [.d (.ivs l.length (rowsD l)), .d (.ivs l.length (rowsD l))] k = k (.d (.bool true)) :=
 kLent_ev (xrc hn l hs hL) rfl
theorem xu7 {R : Type} {L n : Nat} {hq : H} {k : A → H → Option R} {id0 g0 o0 len0 : Nat} {l : List (List Int)} : kCall env (evCall env L n) hq 62 [.sl id0 g0 o0 len0, .d (.ivs l.length (rowsD l))] k = match box (lentA hq [.sl id0 g0 o0 len0, .d (.ivs l.length (rowsD l))]) with
  | .mk (some fs) => kLent (evCall env L n) 62 fs fun r => k r hq
  | _ => none := kCall_lent x89
theorem xtv {R : Type} {L n : Nat} {hq : H} {k : A → H → Option R} {id1 g1 o1 len1 : Nat} {l : List (List Int)} : kCall env (evCall env L n) hq 62 [.d (.ivs l.length (rowsD l)), .sl id1 g1 o1 len1] k = match box (lentA hq [.d (.ivs l.length (rowsD l)), .sl id1 g1 o1 len1]) with
  | .mk (some fs) => kLent (evCall env L n) 62 fs fun r => k r hq
  | _ => none := kCall_lent x89
theorem xu9 {R : Type} {L n : Nat} {hq : H} {k : A → H → Option R} {id1 g1 o1 len1 : Nat} {id0 g0 o0 len0 : Nat}  : kCall env (evCall env L n) hq 62 [.sl id0 g0 o0 len0, .sl id1 g1 o1 len1] k = match box (lentA hq [.sl id0 g0 o0 len0, .sl id1 g1 o1 len1]) with
  | .mk (some fs) => kLent (evCall env L n) 62 fs fun r => k r hq
  | _ => none := kCall_lent x89
theorem xk3 {L n : Nat} (hn : 6 ≤ n) (al : Int) (rs : List (List Int)) (ac : List Bool) (hs : rowsShort rs) (ha : ac.length ≤ 4294967296) (hL : 2 ^ 60 ≤ L) : evCall env L n 21 [.agg [.d (.int .i64 al), .d (.ivs rs.length (rowsD rs)), .d (.ivs ac.length (bools ac))], .agg [.d (.int .i64 al), .d (.ivs rs.length (rowsD rs)), .d (.ivs ac.length (bools ac))]] [] = some (.d (.bool true), []) := by
 obtain ⟨n, rfl⟩ : ∃ m, n = m + 1 := ⟨n - 1, by omega⟩
 rw [xs4]
 simp only [xle, Try.f21, SLM, simprocAttr]
 simp -implicitDefEqProofs (maxSteps := 2000000) (disch := first | assumption | (refine Shut.mk ?_; kernel_rfl) | omega | (simp only [GT]; done) | (simp only [LN] <;> omega) | fail) only [↓DN, ↓kAsg, ↓kRet, UP, simprocAttr, ↓xvg, ↓xvn, ↓xvj, ↓xv7, ↓xu7, ↓xtv, ↓xu9, ↓xtk, ↓xu2, ↓xtb, LA]
theorem xrx {R : Type} {L n : Nat} {hq : H} {k : A → H → Option R} (hn : 6 ≤ n) (al : Int) (rs : List (List Int)) (ac : List Bool) (hs : rowsShort rs) (ha : ac.length ≤ 4294967296) (hL : 2 ^ 60 ≤ L) : kCall env (evCall env L n) hq 21 [.agg [.d (.int .i64 al), .d (.ivs rs.length (rowsD rs)), .d (.ivs ac.length (bools ac))], .agg [.d (.int .i64 al), .d (.ivs rs.length (rowsD rs)), .d (.ivs ac.length (bools ac))]] k = k (.d (.bool true)) hq :=
 kCall_still rfl (xk3 hn al rs ac hs ha hL) rfl (.inl rfl)
theorem xjc {R : Type} {L n : Nat} {k : A → Option R} (hn : 6 ≤ n) (al : Int) (rs : List (List Int)) (ac : List Bool) (hs : rowsShort rs) (ha : ac.length ≤ 4294967296) (hL : 2 ^ 60 ≤ L) : kLent (evCall env L n) 21 [.agg [.d (.int .i64 al), .d (.ivs rs.length (rowsD rs)), .d (.ivs ac.length (bools ac))], .agg [.d (.int .i64 al), .d (.ivs rs.length (rowsD rs)), .d (.ivs ac.length (bools ac))]] k = k (.d (.bool true)) :=
 kLent_ev (xk3 hn al rs ac hs ha hL) rfl
theorem xpl {R : Type} {L n : Nat} {hq : H} {k : A → H → Option R} {id0 g0 o0 len0 : Nat} {al : Int} {rs : List (List Int)} {ac : List Bool} : kCall env (evCall env L n) hq 21 [.agg [.d (.int .i64 al), .sl id0 g0 o0 len0, .d (.ivs ac.length (bools ac))], .agg [.d (.int .i64 al), .d (.ivs rs.length (rowsD rs)), .d (.ivs ac.length (bools ac))]] k = match box (lentA hq [.agg [.d (.int .i64 al), .sl id0 g0 o0 len0, .d (.ivs ac.length (bools ac))], .agg [.d (.int .i64 al), .d (.ivs rs.length (rowsD rs)), .d (.ivs ac.length (bools ac))]]) with
  | .mk (some fs) => kLent (evCall env L n) 21 fs fun r => k r hq
  | _ => none := kCall_lent x6
theorem xox {R : Type} {L n : Nat} {hq : H} {k : A → H → Option R} {id1 g1 o1 len1 : Nat} {al : Int} {rs : List (List Int)} {ac : List Bool} : kCall env (evCall env L n) hq 21 [.agg [.d (.int .i64 al), .d (.ivs rs.length (rowsD rs)), .sl id1 g1 o1 len1], .agg [.d (.int .i64 al), .d (.ivs rs.length (rowsD rs)), .d (.ivs ac.length (bools ac))]] k = match box (lentA hq [.agg [.d (.int .i64 al), .d (.ivs rs.length (rowsD rs)), .sl id1 g1 o1 len1], .agg [.d (.int .i64 al), .d (.ivs rs.length (rowsD rs)), .d (.ivs ac.length (bools ac))]]) with
  | .mk (some fs) => kLent (evCall env L n) 21 fs fun r => k r hq
  | _ => none := kCall_lent x6
theorem xpy {R : Type} {L n : Nat} {hq : H} {k : A → H → Option R} {id1 g1 o1 len1 : Nat} {id0 g0 o0 len0 : Nat} {al : Int} {rs : List (List Int)} {ac : List Bool} : kCall env (evCall env L n) hq 21 [.agg [.d (.int .i64 al), .sl id0 g0 o0 len0, .sl id1 g1 o1 len1], .agg [.d (.int .i64 al), .d (.ivs rs.length (rowsD rs)), .d (.ivs ac.length (bools ac))]] k = match box (lentA hq [.agg [.d (.int .i64 al), .sl id0 g0 o0 len0, .sl id1 g1 o1 len1], .agg [.d (.int .i64 al), .d (.ivs rs.length (rowsD rs)), .d (.ivs ac.length (bools ac))]]) with
  | .mk (some fs) => kLent (evCall env L n) 21 fs fun r => k r hq
  | _ => none := kCall_lent x6
theorem xpe {R : Type} {L n : Nat} {hq : H} {k : A → H → Option R} {id2 g2 o2 len2 : Nat} {al : Int} {rs : List (List Int)} {ac : List Bool} : kCall env (evCall env L n) hq 21 [.agg [.d (.int .i64 al), .d (.ivs rs.length (rowsD rs)), .d (.ivs ac.length (bools ac))], .agg [.d (.int .i64 al), .sl id2 g2 o2 len2, .d (.ivs ac.length (bools ac))]] k = match box (lentA hq [.agg [.d (.int .i64 al), .d (.ivs rs.length (rowsD rs)), .d (.ivs ac.length (bools ac))], .agg [.d (.int .i64 al), .sl id2 g2 o2 len2, .d (.ivs ac.length (bools ac))]]) with
  | .mk (some fs) => kLent (evCall env L n) 21 fs fun r => k r hq
  | _ => none := kCall_lent x6
theorem xpv {R : Type} {L n : Nat} {hq : H} {k : A → H → Option R} {id2 g2 o2 len2 : Nat} {id0 g0 o0 len0 : Nat} {al : Int} {ac : List Bool} : kCall env (evCall env L n) hq 21 [.agg [.d (.int .i64 al), .sl id0 g0 o0 len0, .d (.ivs ac.length (bools ac))], .agg [.d (.int .i64 al), .sl id2 g2 o2 len2, .d (.ivs ac.length (bools ac))]] k = match box (lentA hq [.agg [.d (.int .i64 al), .sl id0 g0 o0 len0, .d (.ivs ac.length (bools ac))], .agg [.d (.int .i64 al), .sl id2 g2 o2 len2, .d (.ivs ac.length (bools ac))]]) with
  | .mk (some fs) => kLent (evCall env L n) 21 fs fun r => k r hq
  | _ => none := kCall_lent x6
theorem xpu {R : Type} {L n : Nat} {hq : H} {k : A → H → Option R} {id2 g2 o2 len2 : Nat} {id1 g1 o1 len1 : Nat} {al : Int} {rs : List (List Int)} {ac : List Bool} : kCall env (evCall env L n) hq 21 [.agg [.d (.int .i64 al), .d (.ivs rs.length (rowsD rs)), .sl id1 g1 o1 len1], .agg [.d (.int .i64 al), .sl id2 g2 o2 len2, .d (.ivs ac.length (bools ac))]] k = match box (lentA hq [.agg [.d (.int .i64 al), .d (.ivs rs.length (rowsD rs)), .sl id1 g1 o1 len1], .agg [.d (.int .i64 al), .sl id2 g2 o2 len2, .d (.ivs ac.length (bools ac))]]) with
  | .mk (some fs) => kLent (evCall env L n) 21 fs fun r => k r hq
  | _ => none := kCall_lent x6
theorem xph {R : Type} {L n : Nat} {hq : H} {k : A → H → Option R} {id2 g2 o2 len2 : Nat} {id1 g1 o1 len1 : Nat} {id0 g0 o0 len0 : Nat} {al : Int} {ac : List Bool} : kCall env (evCall env L n) hq 21 [.agg [.d (.int .i64 al), .sl id0 g0 o0 len0, .sl id1 g1 o1 len1], .agg [.d (.int .i64 al), .sl id2 g2 o2 len2, .d (.ivs ac.length (bools ac))]] k = match box (lentA hq [.agg [.d (.int .i64 al), .sl id0 g0 o0 len0, .sl id1 g1 o1 len1], .agg [.d (.int .i64 al), .sl id2 g2 o2 len2, .d (.ivs ac.length (bools ac))]]) with
  | .mk (some fs) => kLent (evCall env L n) 21 fs fun r => k r hq
  | _ => none := kCall_lent x6
theorem xp8 {R : Type} {L n : Nat} {hq : H} {k : A → H → Option R} {id3 g3 o3 len3 : Nat} {al : Int} {rs : List (List Int)} {ac : List Bool} : kCall env (evCall env L n) hq 21 [.agg [.d (.int .i64 al), .d (.ivs rs.length (rowsD rs)), .d (.ivs ac.length (bools ac))], .agg [.d (.int .i64 al), .d (.ivs rs.length (rowsD rs)), .sl id3 g3 o3 len3]] k = match box (lentA hq [.agg [.d (.int .i64 al), .d (.ivs rs.length (rowsD rs)), .d (.ivs ac.length (bools ac))], .agg [.d (.int .i64 al), .d (.ivs rs.length (rowsD rs)), .sl id3 g3 o3 len3]]) with
  | .mk (some fs) => kLent (evCall env L n) 21 fs fun r => k r hq
  | _ => none := kCall_lent x6
theorem xpj {R : Type} {L n : Nat} {hq : H} {k : A → H → Option R} {id3 g3 o3 len3 : Nat} {id0 g0 o0 len0 : Nat} {al : Int} {rs : List (List Int)} {ac : List Bool} : kCall env (evCall env L n) hq 21 [.agg [.d (.int .i64 al), .sl id0 g0 o0 len0, .d (.ivs ac.length (bools ac))], .agg [.d (.int .i64 al), .d (.ivs rs.length (rowsD rs)), .sl id3 g3 o3 len3]] k = match box (lentA hq [.agg [.d (.int .i64 al), .sl id0 g0 o0 len0, .d (.ivs ac.length (bools ac))], .agg [.d (.int .i64 al), .d (.ivs rs.length (rowsD rs)), .sl id3 g3 o3 len3]]) with
  | .mk (some fs) => kLent (evCall env L n) 21 fs fun r => k r hq
  | _ => none := kCall_lent x6
theorem xnj {R : Type} {L n : Nat} {hq : H} {k : A → H → Option R} {id3 g3 o3 len3 : Nat} {id1 g1 o1 len1 : Nat} {al : Int} {rs : List (List Int)} : kCall env (evCall env L n) hq 21 [.agg [.d (.int .i64 al), .d (.ivs rs.length (rowsD rs)), .sl id1 g1 o1 len1], .agg [.d (.int .i64 al), .d (.ivs rs.length (rowsD rs)), .sl id3 g3 o3 len3]] k = match box (lentA hq [.agg [.d (.int .i64 al), .d (.ivs rs.length (rowsD rs)), .sl id1 g1 o1 len1], .agg [.d (.int .i64 al), .d (.ivs rs.length (rowsD rs)), .sl id3 g3 o3 len3]]) with
  | .mk (some fs) => kLent (evCall env L n) 21 fs fun r => k r hq
  | _ => none := kCall_lent x6
theorem xns {R : Type} {L n : Nat} {hq : H} {k : A → H → Option R} {id3 g3 o3 len3 : Nat} {id1 g1 o1 len1 : Nat} {id0 g0 o0 len0 : Nat} {al : Int} {rs : List (List Int)} : kCall env (evCall env L n) hq 21 [.agg [.d (.int .i64 al), .sl id0 g0 o0 len0, .sl id1 g1 o1 len1], .agg [.d (.int .i64 al), .d (.ivs rs.length (rowsD rs)), .sl id3 g3 o3 len3]] k = match box (lentA hq [.agg [.d (.int .i64 al), .sl id0 g0 o0 len0, .sl id1 g1 o1 len1], .agg [.d (.int .i64 al), .d (.ivs rs.length (rowsD rs)), .sl id3 g3 o3 len3]]) with
  | .mk (some fs) => kLent (evCall env L n) 21 fs fun r => k r hq
  | _ => none := kCall_lent x6
theorem xnh {R : Type} {L n : Nat} {hq : H} {k : A → H → Option R} {id3 g3 o3 len3 : Nat} {id2 g2 o2 len2 : Nat} {al : Int} {rs : List (List Int)} {ac : List Bool} : kCall env (evCall env L n) hq 21 [.agg [.d (.int .i64 al), .d (.ivs rs.length (rowsD rs)), .d (.ivs ac.length (bools ac))], .agg [.d (.int .i64 al), .sl id2 g2 o2 len2, .sl id3 g3 o3 len3]] k = match box (lentA hq [.agg [.d (.int .i64 al), .d (.ivs rs.length (rowsD rs)), .d (.ivs ac.length (bools ac))], .agg [.d (.int .i64 al), .sl id2 g2 o2 len2, .sl id3 g3 o3 len3]]) with
  | .mk (some fs) => kLent (evCall env L n) 21 fs fun r => k r hq
  | _ => none := kCall_lent x6
theorem xno {R : Type} {L n : Nat} {hq : H} {k : A → H → Option R} {id3 g3 o3 len3 : Nat} {id2 g2 o2 len2 : Nat} {id0 g0 o0 len0 : Nat} {al : Int} {ac : List Bool} : kCall env (evCall env L n) hq 21 [.agg [.d (.int .i64 al), .sl id0 g0 o0 len0, .d (.ivs ac.length (bools ac))], .agg [.d (.int .i64 al), .sl id2 g2 o2 len2, .sl id3 g3 o3 len3]] k = match box (lentA hq [.agg [.d (.int .i64 al), .sl id0 g0 o0 len0, .d (.ivs ac.length (bools ac))], .agg [.d (.int .i64 al), .sl id2 g2 o2 len2, .sl id3 g3 o3 len3]]) with
  | .mk (some fs) => kLent (evCall env L n) 21 fs fun r => k r hq
  | _ => none := kCall_lent x6
theorem xnp {R : Type} {L n : Nat} {hq : H} {k : A → H → Option R} {id3 g3 o3 len3 : Nat} {id2 g2 o2 len2 : Nat} {id1 g1 o1 len1 : Nat} {al : Int} {rs : List (List Int)} : kCall env (evCall env L n) hq 21 [.agg [.d (.int .i64 al), .d (.ivs rs.length (rowsD rs)), .sl id1 g1 o1 len1], .agg [.d (.int .i64 al), .sl id2 g2 o2 len2, .sl id3 g3 o3 len3]] k = match box (lentA hq [.agg [.d (.int .i64 al), .d (.ivs rs.length (rowsD rs)), .sl id1 g1 o1 len1], .agg [.d (.int .i64 al), .sl id2 g2 o2 len2, .sl id3 g3 o3 len3]]) with
  | .mk (some fs) => kLent (evCall env L n) 21 fs fun r => k r hq
  | _ => none := kCall_lent x6
theorem xnk {R : Type} {L n : Nat} {hq : H} {k : A → H → Option R} {id3 g3 o3 len3 : Nat} {id2 g2 o2 len2 : Nat} {id1 g1 o1 len1 : Nat} {id0 g0 o0 len0 : Nat} {al : Int} : kCall env (evCall env L n) hq 21 [.agg [.d (.int .i64 al), .sl id0 g0 o0 len0, .sl id1 g1 o1 len1], .agg [.d (.int .i64 al), .sl id2 g2 o2 len2, .sl id3 g3 o3 len3]] k = match box (lentA hq [.agg [.d (.int .i64 al), .sl id0 g0 o0 len0, .sl id1 g1 o1 len1], .agg [.d (.int .i64 al), .sl id2 g2 o2 len2, .sl id3 g3 o3 len3]]) with
  | .mk (some fs) => kLent (evCall env L n) 21 fs fun r => k r hq
  | _ => none := kCall_lent x6
def marksI : Nat → Int → List Int
 | 0, _ => []
 | j + 1, k => k :: marksI j (k + 1)
theorem marksI_len : ∀ (j : Nat) (k : Int), (marksI j k).length = j
 | 0, _ => rfl
 | j + 1, k => by simp [marksI, marksI_len j]
theorem xt5 {R : Type} {L n : Nat} {k : Exit → List A → H → Option R} : ∀ (i c : Int) (m : Nat) (o : List Int) (len : Nat) (h0 : 0 ≤ i) (hi : i ≤ len) (hm : (len : Int) - i < m) (ho : o.length = len) (hl : len ≤ 4294967296) (hc0 : 0 ≤ c) (hc1 : c + ((len : Int) - i) ≤ 1000000000000),
  kLoop env (evCall env L n) L 1 [] (U2 (Z2 (U2 (Z8 (Z4 (Z1 ([]))))))) (x9j 0) (Z2 (U2 (Z2 (U8 (U4 (U1 ([]))))))) m (.sl 0 0 0 len :: .d (.int .i64 c) :: Y2 (.d (.int .i64 0) :: .d (.int .i64 i) :: Y8 (Y4 (Y1 ([]))))) [.arr (ints o) 1 0] k
  = k (.exit 0) (.sl 0 0 0 len :: .d (.int .i64 ((c + ((len : Int) - i)))) :: Y2 (.d (.int .i64 0) :: .d (.int .i64 len) :: Y8 (Y4 (Y1 ([]))))) [.arr (ints (o.take i.toNat ++ marksI ((len : Int) - i).toNat c)) 1 0] := by
 intro i c m o len h0 hi hm ho hl hc0 hc1
 obtain ⟨j, hj⟩ : ∃ j : Nat, (j : Int) = (len : Int) - i := ⟨((len : Int) - i).toNat, by omega⟩
 induction j generalizing i c m o len with
 | zero =>
  obtain ⟨m, rfl⟩ : ∃ q, m = q + 1 := ⟨m - 1, by omega⟩
  obtain rfl : i = len := by omega
  rw [xiq]
  simp only [xgx, Try.f92, SLM, simprocAttr]
  simp -implicitDefEqProofs (maxSteps := 2000000) (disch := first | assumption | (refine Shut.mk ?_; kernel_rfl) | omega | (simp only [GT]; done) | (simp only [LN] <;> omega) | fail) only [↓DN, ↓kAsg, ↓kRet, UP, simprocAttr, Int.lt_irrefl]
  have e1 : o.take len = o := List.take_of_length_le (by omega)
  have e2 : ((len : Int) - len).toNat = 0 := by omega
  simp only [Int.toNat_natCast, e1, e2, marksI, List.append_nil]
  congr 3
  simp
 | succ j ih =>
  obtain ⟨m, rfl⟩ : ∃ q, m = q + 1 := ⟨m - 1, by omega⟩
  have hc : i < len := by omega
  have hk : i.toNat < o.length := by omega
  have e1 : (i + 1).toNat = i.toNat + 1 := by omega
  have e2 : ((len : Int) - i).toNat = j + 1 := by omega
  have e3 : ((len : Int) - (i + 1)).toNat = j := by omega
  rw [xiq]
  simp only [xgx, Try.f92, SLM, simprocAttr]
  simp -implicitDefEqProofs (maxSteps := 2000000) (disch := first | assumption | (refine Shut.mk ?_; kernel_rfl) | omega | (simp only [GT]; done) | (simp only [LN] <;> omega) | fail) only [↓DN, ↓kAsg, ↓kRet, UP, simprocAttr, hc, u_ints, c_int, ↓xb4, ↓ih]
  have e4 : c + 1 + ((len : Int) - (i + 1)) = c + ((len : Int) - i) := by omega
  rw [e1, e2, e3, set_go1 hk, e4]
  simp only [marksI]
theorem xuw {L n : Nat} (hn : 1 ≤ n) (o : List Int) (c : Int) (hl : o.length ≤ 4294967296) (hc0 : 0 ≤ c) (hc1 : c ≤ 100000000000) (hL : 2 ^ 60 ≤ L) : evCall env L n 92 [.sl 0 0 0 o.length, .d (.int .i64 c)] [.arr (ints o) 1 0] = some (.d (.int .i64 (c + o.length)), [.arr (ints (marksI o.length c)) 1 0]) := by
 obtain ⟨n, rfl⟩ : ∃ m, n = m + 1 := ⟨n - 1, by omega⟩
 rw [xup]
 simp only [xqi, Try.f92, SLM, simprocAttr]
 simp -implicitDefEqProofs (maxSteps := 2000000) (disch := first | assumption | (refine Shut.mk ?_; kernel_rfl) | omega | (simp only [GT]; done) | (simp only [LN] <;> omega) | fail) only [↓DN, ↓kAsg, ↓kRet, UP, simprocAttr, ↓xt5, Int.toNat_zero, Int.sub_zero, Int.toNat_natCast, List.take_zero, List.nil_append]
theorem xja {R : Type} {L n id : Nat} {hq : H} {k : A → H → Option R} (hn : 1 ≤ n) (o : List Int) (c : Int) (hi : hq[id]? = some (.arr (ints o) 1 0)) (hl : o.length ≤ 4294967296) (hc0 : 0 ≤ c) (hc1 : c ≤ 100000000000) (hL : 2 ^ 60 ≤ L) : kCall env (evCall env L n) hq 92 [.sl id 0 0 o.length, .d (.int .i64 c)] k = k (.d (.int .i64 (c + o.length))) (hq.set id (.arr (ints (marksI o.length c)) 1 0)) :=
 kCall_ref hi (by simp [idsL, idsA]) xfj rfl (by simpa [mapAs, mapA, place] using xuw hn o c hl hc0 hc1 hL)
end Ev
end Go.Proofs.Ytppdfjdfjfoddaa
end
