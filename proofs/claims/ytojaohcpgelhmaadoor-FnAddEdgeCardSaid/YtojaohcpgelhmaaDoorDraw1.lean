/-
  The random source, and words that are drawn.
-/
import Derived.Test.YtojaohcpgelhmaaDoorSwapW
set_option linter.unusedSimpArgs false
set_option linter.unusedVariables false
set_option maxRecDepth 8000
set_option pp.maxSteps 6000
set_option maxHeartbeats 4000000
namespace Go.Proofs.YtojaohcpgelhmaaDoor
namespace Ev

/-- A function that draws, as its callers see it. -/
theorem kCall_rd {R : Type} {call : CallF} {h : H} {f : FuncId} {args : List A} {c : List UInt8} {p q : Int} {r : A} {k : A → H → Option R} (hm : (env.hint f).mode = 0) (ha : idsL args = []) (hr : idsA r = []) (he : call f (.ptr 0 0 0 :: args) [O.box [A.d (D.ivs c.length (bytesL c)), A.d (D.int .i64 p)]] = some (r, [O.box [A.d (D.ivs c.length (bytesL c)), A.d (D.int .i64 q)]])) :
    kCall env call (O.box [A.d (D.ivs c.length (bytesL c)), A.d (D.int .i64 p)] :: h) f (.ptr 0 0 0 :: args) k = k r (O.box [A.d (D.ivs c.length (bytesL c)), A.d (D.int .i64 q)] :: h) := by
  have hid : idsL (A.ptr 0 0 0 :: args) = [0] := by simp [idsL, idsA, ha]
  have hre : reach fuelR (O.box [A.d (D.ivs c.length (bytesL c)), A.d (D.int .i64 p)] :: h) [0] [] = [0] := rfl
  have hpk : pack (O.box [A.d (D.ivs c.length (bytesL c)), A.d (D.int .i64 p)] :: h) [0] = [O.box [A.d (D.ivs c.length (bytesL c)), A.d (D.int .i64 p)]] := rfl
  have hma : mapAs (place [0]) (A.ptr 0 0 0 :: args) = A.ptr 0 0 0 :: args := by
    simp only [mapAs, mapAs_none _ ha]; rfl
  unfold kCall
  rw [hid, hre, hpk, hma]
  have hc : aCall call env.hint [O.box [A.d (D.ivs c.length (bytesL c)), A.d (D.int .i64 p)]] f (.ptr 0 0 0 :: args) = some (r, [O.box [A.d (D.ivs c.length (bytesL c)), A.d (D.int .i64 q)]]) := by
    unfold aCall; rw [hm]; exact he
  rw [hc]
  have hcl : closed (O.box [A.d (D.ivs c.length (bytesL c)), A.d (D.int .i64 p)] :: h) [0] [0] = true := rfl
  simp only [List.length_cons, List.length_nil, Nat.le_refl, hcl, and_self, if_true, mapA_none r hr]
  congr 1
  simp [putBack, mapO, mapAs, mapA]

theorem m_pick : (env.hint 57).mode = 0 := by kernel_rfl

theorem iXor_bound {a b : Int} (ha : 0 ≤ a) (ha2 : a < 2 ^ 62) (hb : 0 ≤ b) (hb2 : b < 2 ^ 62) : 0 ≤ iXor .i64 a b ∧ iXor .i64 a b < 2 ^ 62 := by
  obtain ⟨m, rfl⟩ := Int.eq_ofNat_of_zero_le ha
  obtain ⟨n, rfl⟩ := Int.eq_ofNat_of_zero_le hb
  have hm : m < 2 ^ 62 := by omega
  have hn : n < 2 ^ 62 := by omega
  have hx : (BitVec.ofInt 64 (m : Int) ^^^ BitVec.ofInt 64 (n : Int)).toNat = m ^^^ n := by
    rw [BitVec.toNat_xor]
    congr 1 <;> (simp only [BitVec.ofInt_natCast, BitVec.toNat_ofNat]; omega)
  have hlt : m ^^^ n < 2 ^ 62 := Nat.xor_lt_two_pow hm hn
  unfold iXor
  have : (BitVec.ofInt IntKind.i64.bits (m : Int) ^^^ BitVec.ofInt IntKind.i64.bits (n : Int)).toNat = m ^^^ n := hx
  rw [this, i64_id (by omega) (by omega)]
  omega

theorem ex_pick {c : List UInt8} (hc : c.length ≤ 2000) (p b : Int) (hp : 0 ≤ p) (hp2 : p ≤ 1000000000) : ∃ v : Int, 0 ≤ v ∧ (1 ≤ b → v < b) ∧ (b < 1 → v = 0) ∧ (∀ (R : Type) (L n : Nat) (hq : H) (k : A → H → Option R), 1 ≤ n → 2 ^ 60 ≤ L → kCall env (evCall env L n) (O.box [A.d (D.ivs c.length (bytesL c)), A.d (D.int .i64 p)] :: hq) 57 (.ptr 0 0 0 :: [.d (.int .i64 b)]) k = k (.d (.int .i64 v)) (O.box [A.d (D.ivs c.length (bytesL c)), A.d (D.int .i64 (p + 1))] :: hq)) := by
  by_cases h1 : b < 1
  · refine ⟨0, by omega, by omega, by omega, fun R L n hq k hn hL => kCall_rd m_pick rfl rfl ?_⟩
    obtain ⟨n, rfl⟩ : ∃ m, n = m + 1 := ⟨n - 1, by omega⟩
    rw [fn_s_l19Rd_pick]
    simp only [S_s_l19Rd_pick, Tryd.f57, SLM, simprocAttr]
    simp -implicitDefEqProofs (maxSteps := 2000000) (disch := first | assumption | (refine Shut.mk ?_; kernel_rfl) | omega | (simp only [GT]; done) | (simp only [LN] <;> omega) | fail) only [↓WD, ↓kAsg, ↓kRet, ↓clash_free, ↓WDD, ↓kOpD_callv, WK, UN, TY, LB, MD, i64_id, simprocAttr, ↓CV, h1]
  · by_cases h2 : c.length = 0
    · refine ⟨0, by omega, by omega, by omega, fun R L n hq k hn hL => kCall_rd m_pick rfl rfl ?_⟩
      have h2' : (c.length : Int) = 0 := by omega
      obtain ⟨n, rfl⟩ : ∃ m, n = m + 1 := ⟨n - 1, by omega⟩
      rw [fn_s_l19Rd_pick]
      simp only [S_s_l19Rd_pick, Tryd.f57, SLM, simprocAttr]
      simp -implicitDefEqProofs (maxSteps := 2000000) (disch := first | assumption | (refine Shut.mk ?_; kernel_rfl) | omega | (simp only [GT]; done) | (simp only [LN] <;> omega) | fail) only [↓WD, ↓kAsg, ↓kRet, ↓clash_free, ↓WDD, ↓kOpD_callv, WK, UN, TY, LB, MD, i64_id, simprocAttr, ↓CV, h1, h2']
    · have h2' : ¬ (c.length : Int) = 0 := by omega
      by_cases h3 : p < c.length
      · have hb : b ≠ 0 := by omega
        have t0 : 0 ≤ ((c.getD p.toNat 0).toNat : Int).tmod b := Int.tmod_nonneg b (by omega)
        have t1 : ((c.getD p.toNat 0).toNat : Int).tmod b < b := Int.tmod_lt_of_pos _ (by omega)
        refine ⟨((c.getD p.toNat 0).toNat : Int).tmod b, t0, fun _ => t1, by omega, fun R L n hq k hn hL => kCall_rd m_pick rfl rfl ?_⟩
        have e1 : p + 1 - 1 = p := by omega
        obtain ⟨n, rfl⟩ : ∃ m, n = m + 1 := ⟨n - 1, by omega⟩
        rw [fn_s_l19Rd_pick]
        simp only [S_s_l19Rd_pick, Tryd.f57, SLM, simprocAttr]
        simp -implicitDefEqProofs (maxSteps := 2000000) (disch := first | assumption | (refine Shut.mk ?_; kernel_rfl) | omega | (simp only [GT]; done) | (simp only [LN] <;> omega) | fail) only [↓WD, ↓kAsg, ↓kRet, ↓clash_free, ↓WDD, ↓kOpD_callv, WK, UN, TY, LB, MD, i64_id, simprocAttr, ↓CV, h1, h2', e1, h3]
      · have e1 : p + 1 - 1 = p := by omega
        have hl1 : (0 : Int) < c.length := by omega
        have q1 : 0 ≤ p.tmod c.length := Int.tmod_nonneg _ hp
        have q2 : p.tmod c.length < c.length := Int.tmod_lt_of_pos _ hl1
        have q3 : 0 ≤ (p * 7 + 3).tmod c.length := Int.tmod_nonneg _ (by omega)
        have q4 : (p * 7 + 3).tmod c.length < c.length := Int.tmod_lt_of_pos _ hl1
        have q5 : 0 ≤ p.tdiv c.length := Int.tdiv_nonneg hp (by omega)
        have q6 : p.tdiv c.length ≤ p := Int.tdiv_le_self _ hp
        have b1 := toNat_lt (c.getD (p.tmod c.length).toNat 0)
        have b2 := toNat_lt (c.getD ((p * 7 + 3).tmod c.length).toNat 0)
        have r1 : (p.tmod c.length).toNat < c.length := by omega
        have r2 : ((p * 7 + 3).tmod c.length).toNat < c.length := by omega
        obtain ⟨x, hx⟩ : ∃ x : Int, x = ((c.getD (p.tmod c.length).toNat 0).toNat : Int) * 131 + ((c.getD ((p * 7 + 3).tmod c.length).toNat 0).toNat : Int) * 1117 + p * 29 + p.tdiv c.length * 53 := ⟨_, rfl⟩
        have x0 : 0 ≤ x := by omega
        have x1 : x < 2 ^ 62 := by omega
        have y0 : 0 ≤ x.tdiv 64 := Int.tdiv_nonneg x0 (by omega)
        have y1 : x.tdiv 64 < 2 ^ 62 := by have := Int.tdiv_le_self 64 x0; omega
        have z := iXor_bound x0 x1 y0 y1
        have hb : b ≠ 0 := by omega
        have t0 : 0 ≤ (iXor .i64 x (x.tdiv 64)).tmod b := Int.tmod_nonneg b z.1
        have t1 : (iXor .i64 x (x.tdiv 64)).tmod b < b := Int.tmod_lt_of_pos _ (by omega)
        refine ⟨(iXor .i64 x (x.tdiv 64)).tmod b, t0, fun _ => t1, by omega, fun R L n hq k hn hL => kCall_rd m_pick rfl rfl ?_⟩
        clear b1 b2 z t0 t1
        have b1 := toNat_lt (c.getD (p.tmod c.length).toNat 0)
        have b2 := toNat_lt (c.getD ((p * 7 + 3).tmod c.length).toNat 0)
        subst hx
        obtain ⟨n, rfl⟩ : ∃ m, n = m + 1 := ⟨n - 1, by omega⟩
        rw [fn_s_l19Rd_pick]
        simp only [S_s_l19Rd_pick, Tryd.f57, SLM, simprocAttr]
        simp -implicitDefEqProofs (maxSteps := 2000000) (disch := first | assumption | (refine Shut.mk ?_; kernel_rfl) | omega | (simp only [GT]; done) | (simp only [LN] <;> omega) | fail) only [↓WD, ↓kAsg, ↓kRet, ↓clash_free, ↓WDD, ↓kOpD_callv, WK, UN, TY, LB, MD, i64_id, simprocAttr, ↓CV, h1, h2', e1, h3]

theorem m_num : (env.hint 61).mode = 0 := by kernel_rfl
theorem m_of : (env.hint 79).mode = 0 := by kernel_rfl
/-- Something that lies beside the source is looked at. -/
theorem kCall_rdN {R : Type} {call : CallF} {hq : H} {f : FuncId} {c : List UInt8} {p q : Int} {r : A} {k : A → H → Option R} {cs : List D} {e g n id : Nat} (hi : hq[id]? = some (.arr cs e g)) (hm : (env.hint f).mode = 0) (hr : idsA r = []) (he : call f [.ptr 0 0 0, .sl 1 g 0 n] [O.box [A.d (D.ivs c.length (bytesL c)), A.d (D.int .i64 p)], .arr cs e g] = some (r, [O.box [A.d (D.ivs c.length (bytesL c)), A.d (D.int .i64 q)], .arr cs e g])) :
    kCall env call (O.box [A.d (D.ivs c.length (bytesL c)), A.d (D.int .i64 p)] :: hq) f [.ptr 0 0 0, .sl (id + 1) g 0 n] k = k r (O.box [A.d (D.ivs c.length (bytesL c)), A.d (D.int .i64 q)] :: hq) := by
  have hlk : (O.box [A.d (D.ivs c.length (bytesL c)), A.d (D.int .i64 p)] :: hq)[id + 1]? = some (.arr cs e g) := by rw [List.getElem?_cons_succ]; exact hi
  have hre : reach fuelR (O.box [A.d (D.ivs c.length (bytesL c)), A.d (D.int .i64 p)] :: hq) [0, id + 1] [] = [0, id + 1] := by
    have e1 : reach fuelR (O.box [A.d (D.ivs c.length (bytesL c)), A.d (D.int .i64 p)] :: hq) [0, id + 1] [] = reach (fuelR - 1) (O.box [A.d (D.ivs c.length (bytesL c)), A.d (D.int .i64 p)] :: hq) [id + 1] [0] := rfl
    have e2 : reach (fuelR - 1) (O.box [A.d (D.ivs c.length (bytesL c)), A.d (D.int .i64 p)] :: hq) [id + 1] [0] = if [0].contains (id + 1) = true then reach (fuelR - 2) (O.box [A.d (D.ivs c.length (bytesL c)), A.d (D.int .i64 p)] :: hq) [] [0] else match (O.box [A.d (D.ivs c.length (bytesL c)), A.d (D.int .i64 p)] :: hq)[id + 1]? with
      | some (.box cs) => reach (fuelR - 2) (O.box [A.d (D.ivs c.length (bytesL c)), A.d (D.int .i64 p)] :: hq) ([] ++ idsL cs) ([0] ++ [id + 1])
      | some (.vec cs _ _) => reach (fuelR - 2) (O.box [A.d (D.ivs c.length (bytesL c)), A.d (D.int .i64 p)] :: hq) ([] ++ idsL cs) ([0] ++ [id + 1])
      | some .void => reach (fuelR - 2) (O.box [A.d (D.ivs c.length (bytesL c)), A.d (D.int .i64 p)] :: hq) [] [0]
      | some _ => reach (fuelR - 2) (O.box [A.d (D.ivs c.length (bytesL c)), A.d (D.int .i64 p)] :: hq) [] ([0] ++ [id + 1])
      | none => reach (fuelR - 2) (O.box [A.d (D.ivs c.length (bytesL c)), A.d (D.int .i64 p)] :: hq) [] [0] := rfl
    have e3 : [0].contains (id + 1) = false := by simp
    rw [e1, e2, e3, hlk]
    rfl
  have hpk : pack (O.box [A.d (D.ivs c.length (bytesL c)), A.d (D.int .i64 p)] :: hq) [0, id + 1] = [O.box [A.d (D.ivs c.length (bytesL c)), A.d (D.int .i64 p)], .arr cs e g] := by
    simp only [pack, List.map_cons, List.map_nil, List.getD_eq_getElem?_getD, hlk]
    rfl
  unfold kCall
  have hid : idsL [A.ptr 0 0 0, A.sl (id + 1) g 0 n] = [0, id + 1] := rfl
  rw [hid, hre, hpk]
  have hma : mapAs (place [0, id + 1]) [A.ptr 0 0 0, A.sl (id + 1) g 0 n] = [A.ptr 0 0 0, A.sl 1 g 0 n] := by
    simp [mapAs, mapA, place]
  rw [hma]
  have hc : aCall call env.hint [O.box [A.d (D.ivs c.length (bytesL c)), A.d (D.int .i64 p)], .arr cs e g] f [.ptr 0 0 0, .sl 1 g 0 n] = some (r, [O.box [A.d (D.ivs c.length (bytesL c)), A.d (D.int .i64 q)], .arr cs e g]) := by
    unfold aCall; rw [hm]; exact he
  rw [hc]
  have hcl : closed (O.box [A.d (D.ivs c.length (bytesL c)), A.d (D.int .i64 p)] :: hq) [0, id + 1] [0, id + 1] = true := by
    simp only [closed, List.all_cons, List.all_nil, hlk, List.getElem?_cons_zero]
    simp [idsL, idsA]
  simp only [List.length_cons, List.length_nil, Nat.le_refl, hcl, and_self, if_true, mapA_none r hr]
  congr 1
  simp only [putBack, mapO, mapAs, mapA, List.map_nil, List.append_nil, List.set_cons_zero, List.set_cons_succ]
  congr 1
  exact getSome hi

theorem getD_mem {α : Type} {l : List α} {k : Nat} {d : α} (h : k < l.length) : l.getD k d ∈ l := by
  rw [List.getD_eq_getElem?_getD, List.getElem?_eq_getElem h]; exact List.getElem_mem h

theorem ev_num {c : List UInt8} (hc : c.length ≤ 2000) (l : List Int) (g : Nat) (hl : 0 < l.length) (hl2 : l.length < 1000) (p : Int) (hp : 0 ≤ p) (hp2 : p ≤ 1000000000) : ∃ v : Int, v ∈ l ∧ ∀ (L n : Nat), 2 ≤ n → 2 ^ 60 ≤ L → evCall env L n 61 [.ptr 0 0 0, .sl 1 g 0 l.length] [O.box [A.d (D.ivs c.length (bytesL c)), A.d (D.int .i64 p)], .arr (ints l) 1 g] = some (.d (.int .i64 v), [O.box [A.d (D.ivs c.length (bytesL c)), A.d (D.int .i64 (p + 1))], .arr (ints l) 1 g]) := by
  obtain ⟨v, v0, v1, _, kd⟩ := ex_pick hc p l.length hp hp2
  have v1 := v1 (by omega)
  have hk : v.toNat < l.length := by omega
  refine ⟨l.getD v.toNat 0, getD_mem hk, fun L n hn hL => ?_⟩
  obtain ⟨n, rfl⟩ : ∃ m, n = m + 1 := ⟨n - 1, by omega⟩
  rw [fn_s_l19Rd_num]
  simp only [S_s_l19Rd_num, Tryd.f61, SLM, simprocAttr]
  simp -implicitDefEqProofs (maxSteps := 2000000) (disch := first | assumption | (refine Shut.mk ?_; kernel_rfl) | omega | (simp only [GT]; done) | (simp only [LN] <;> omega) | fail) only [↓WD, ↓kAsg, ↓kRet, ↓clash_free, ↓WDD, ↓kOpD_callv, WK, UN, TY, LB, MD, i64_id, simprocAttr, ↓CV, ↓kd]

/-- A number of a list that was just written. -/
theorem ex_num {c : List UInt8} (hc : c.length ≤ 2000) (l : List Int) (hl : 0 < l.length) (hl2 : l.length < 1000) (p : Int) (hp : 0 ≤ p) (hp2 : p ≤ 1000000000) : ∃ v : Int, v ∈ l ∧ (∀ (R : Type) (L n id : Nat) (hq : H) (k : A → H → Option R), 2 ≤ n → 2 ^ 60 ≤ L → hq[id]? = some (.arr (ints l) 1 0) → kCall env (evCall env L n) (O.box [A.d (D.ivs c.length (bytesL c)), A.d (D.int .i64 p)] :: hq) 61 [.ptr 0 0 0, .sl (id + 1) 0 0 l.length] k = k (.d (.int .i64 v)) (O.box [A.d (D.ivs c.length (bytesL c)), A.d (D.int .i64 (p + 1))] :: hq)) := by
  obtain ⟨v, hv, he⟩ := ev_num hc l 0 hl hl2 p hp hp2
  exact ⟨v, hv, fun R L n id hq k hn hL hi => kCall_rdN hi m_num rfl (he L n hn hL)⟩

def strsL (l : List (List UInt8)) : List D := l.map .str
theorem strsL_length {l : List (List UInt8)} : (strsL l).length = l.length := by simp [strsL]
theorem strsL_head {l : List (List UInt8)} {k : Nat} (h : k < l.length) : (((strsL l).drop k).map A.d).head? = some (.d (.str (l.getD k []))) := by
  rw [List.head?_map, List.head?_drop, strsL, List.getElem?_map, List.getD_eq_getElem?_getD, List.getElem?_eq_getElem h]
  rfl

theorem ex_ofD {c : List UInt8} (hc : c.length ≤ 2000) (l : List (List UInt8)) (hl : 0 < l.length) (hl2 : l.length < 1000) (p : Int) (hp : 0 ≤ p) (hp2 : p ≤ 1000000000) : ∃ v : List UInt8, v ∈ l ∧ (∀ (R : Type) (L n : Nat) (hq : H) (k : A → H → Option R), 2 ≤ n → 2 ^ 60 ≤ L → kCall env (evCall env L n) (O.box [A.d (D.ivs c.length (bytesL c)), A.d (D.int .i64 p)] :: hq) 79 (.ptr 0 0 0 :: [.d (.ivs l.length (strsL l))]) k = k (.d (.str v)) (O.box [A.d (D.ivs c.length (bytesL c)), A.d (D.int .i64 (p + 1))] :: hq)) := by
  obtain ⟨v, v0, v1, _, kd⟩ := ex_pick hc p l.length hp hp2
  have v1 := v1 (by omega)
  have hk : v.toNat < l.length := by omega
  refine ⟨l.getD v.toNat [], getD_mem hk, fun R L n hq k hn hL => kCall_rd m_of rfl rfl ?_⟩
  obtain ⟨n, rfl⟩ : ∃ m, n = m + 1 := ⟨n - 1, by omega⟩
  rw [fn_s_l19Rd_of]
  simp only [S_s_l19Rd_of, Tryd.f79, SLM, simprocAttr]
  simp -implicitDefEqProofs (maxSteps := 2000000) (disch := first | assumption | (refine Shut.mk ?_; kernel_rfl) | omega | (simp only [GT]; done) | (simp only [LN] <;> omega) | fail) only [↓WD, ↓kAsg, ↓kRet, ↓clash_free, ↓WDD, ↓kOpD_callv, WK, UN, TY, LB, MD, i64_id, simprocAttr, ↓CV, ↓kd, strsL_length, strsL_head]

end Ev
end Go.Proofs.YtojaohcpgelhmaaDoor
