/-
  Where letters lead: the table of a system's moves, a step from a set of states.
-/
import Derived.Test.YtojaohcpgelhmaaDoorSwapL
import Derived.Test.YtojaohcpgelhmaaDoorSysI
import Derived.Test.YtojaohcpgelhmaaDoorEvPrim
set_option linter.unusedSimpArgs false
set_option linter.unusedVariables false
set_option maxRecDepth 8000
set_option pp.maxSteps 6000
set_option maxHeartbeats 4000000
namespace Go.Proofs.YtojaohcpgelhmaaDoor
namespace Ev

/-! ### the table -/

/-- The states to which edges lead from a place of the table. -/
def mvAt : List Edge → Nat → Nat
  | [], _ => 0
  | e :: l, k => if e.fr.toNat * 6 + e.lt.toNat = k then mvAt l k ||| 2 ^ e.to.toNat else mvAt l k

theorem mvAt_bit {k j : Nat} : ∀ {l : List Edge}, (mvAt l k).testBit j = true ↔ ∃ e ∈ l, e.fr.toNat * 6 + e.lt.toNat = k ∧ e.to.toNat = j
  | [] => by simp [mvAt]
  | e :: l => by
    have ih := mvAt_bit (k := k) (j := j) (l := l)
    unfold mvAt
    split
    · rename_i h
      simp only [Nat.testBit_or, Bool.or_eq_true, ih, Nat.testBit_two_pow, decide_eq_true_eq, List.mem_cons, exists_eq_or_imp]
      constructor
      · rintro (h1 | h1)
        · exact .inr h1
        · exact .inl ⟨h, h1⟩
      · rintro (⟨_, h1⟩ | h1)
        · exact .inr h1
        · exact .inl h1
    · rename_i h
      simp only [ih, List.mem_cons, exists_eq_or_imp, h, false_and, false_or]

theorem mvAt_lt {k n : Nat} {l : List Edge} (h : ∀ e ∈ l, e.to.toNat < n) : mvAt l k < 2 ^ n := by
  apply Nat.lt_pow_two_of_testBit
  intro i hi
  cases hb : (mvAt l k).testBit i with
  | false => rfl
  | true =>
    obtain ⟨e, he, _, rfl⟩ := mvAt_bit.1 hb
    have := h e he
    omega

/-- The table's cells. -/
def mvD (l : List Edge) : List D := (List.range 96).map fun k => .int .i64 (mvAt l k : Nat)

theorem mvD_len (l : List Edge) : (mvD l).length = 96 := by simp [mvD]

theorem mvD_get {l : List Edge} {k : Nat} (h : k < 96) : (mvD l)[k]? = some (.int .i64 (mvAt l k : Nat)) := by
  simp [mvD, h]

/-! ### a step -/

/-- The states to which a letter leads from a set of states. -/
def stepG (m : Nat → Nat) : Nat → Nat → Nat → Nat
  | 0, _, o => o
  | q + 1, s, o => if s = 0 then o else stepG m q (s &&& (s - 1)) (o ||| m (Lib.ctz 64 s))

/-! ### numbers as sets -/

theorem iOr_nat {a b : Nat} (ha : a < 2 ^ 62) (hb : b < 2 ^ 62) : iOr .i64 (a : Int) (b : Int) = ((a ||| b : Nat) : Int) := by
  have h1 : a ||| b < 2 ^ 62 := Nat.or_lt_two_pow ha hb
  unfold iOr
  have e : (BitVec.ofInt (IntKind.bits .i64) (a : Int) ||| BitVec.ofInt (IntKind.bits .i64) (b : Int)).toNat = a ||| b := by
    show (BitVec.ofInt 64 (a : Int) ||| BitVec.ofInt 64 (b : Int)).toNat = a ||| b
    rw [BitVec.ofInt_natCast, BitVec.ofInt_natCast, BitVec.toNat_or, BitVec.toNat_ofNat, BitVec.toNat_ofNat, Nat.mod_eq_of_lt (by omega), Nat.mod_eq_of_lt (by omega)]
  rw [e]
  exact i64_id (by omega) (by omega)

theorem iAnd_nat {a b : Nat} (ha : a < 2 ^ 62) (hb : b < 2 ^ 62) : iAnd .i64 (a : Int) (b : Int) = ((a &&& b : Nat) : Int) := by
  have h1 : a &&& b ≤ a := Nat.and_le_left
  unfold iAnd
  have e : (BitVec.ofInt (IntKind.bits .i64) (a : Int) &&& BitVec.ofInt (IntKind.bits .i64) (b : Int)).toNat = a &&& b := by
    show (BitVec.ofInt 64 (a : Int) &&& BitVec.ofInt 64 (b : Int)).toNat = a &&& b
    rw [BitVec.ofInt_natCast, BitVec.ofInt_natCast, BitVec.toNat_and, BitVec.toNat_ofNat, BitVec.toNat_ofNat, Nat.mod_eq_of_lt (by omega), Nat.mod_eq_of_lt (by omega)]
  rw [e]
  exact i64_id (by omega) (by omega)

/-! ### the table in memory -/

def mvA (l : List Edge) : List A := (mvD l).map .d

theorem mvA_len (l : List Edge) : (mvA l).length = 96 := by simp [mvA, mvD_len]
theorem idsL_ds : ∀ ds : List D, idsL (ds.map A.d) = []
  | [] => rfl
  | d :: ds => by simp only [List.map_cons, idsL, idsA, idsL_ds ds, List.append_nil]
theorem mapAs_ds {f : Nat → Option Nat} : ∀ ds : List D, mapAs f (ds.map A.d) = ds.map A.d
  | [] => rfl
  | d :: ds => by simp only [List.map_cons, mapAs, mapA, mapAs_ds ds]
theorem calmAs_ds {nf : Nat} {h : H} : ∀ ds : List D, calmAs nf h (ds.map A.d) = ds.map A.d
  | [] => rfl
  | d :: ds => by simp only [List.map_cons, calmAs, calmA, calmAs_ds ds]
theorem mv_ids (l : List Edge) : idsL (mvA l) = [] := idsL_ds _
theorem mv_map {f : Nat → Option Nat} (l : List Edge) : mapAs f (mvA l) = mvA l := mapAs_ds _
theorem mv_calm {nf : Nat} {h : H} (l : List Edge) : calmAs nf h (mvA l) = mvA l := calmAs_ds _
theorem mv_head {l : List Edge} {k : Nat} (h : k < 96) : ((mvA l).drop k).head? = some (.d (.int .i64 (mvAt l k : Nat))) := by
  rw [List.head?_drop]
  simp [mvA, mvD_get h]
theorem mv_headD {l : List Edge} {k : Nat} (h : k < 96) : (((mvD l).drop k).map A.d).head? = some (.d (.int .i64 (mvAt l k : Nat))) := by
  rw [List.map_drop]
  exact mv_head h

theorem mv_set {l : List Edge} {e : Edge} {k : Nat} (hk : k < 96) (he : e.fr.toNat * 6 + e.lt.toNat = k) : setRun (mvA l) k [.d (.int .i64 (mvAt (e :: l) k : Nat))] = mvA (e :: l) := by
  apply List.ext_getElem?
  intro j
  rw [setRun_get _ _ _ (by rw [mvA_len]; simp; omega)]
  by_cases hj : j < 96
  · have g : ∀ l, (mvA l)[j]? = some (.d (.int .i64 (mvAt l j : Nat))) := fun l => by simp [mvA, mvD_get hj]
    by_cases hjk : j = k
    · subst hjk
      simp [g]
    · rw [if_neg (by simp; omega), g, g]
      congr 4
      unfold mvAt
      rw [if_neg (by omega)]
      cases l <;> rfl
  · rw [if_neg (by simp; omega), List.getElem?_eq_none (l := mvA l) (by rw [mvA_len]; omega), List.getElem?_eq_none (l := mvA (e :: l)) (by rw [mvA_len]; omega)]

theorem make_frz {l : List Edge} {h : H} : frz deep (O.box (mvA l) :: h) (.ptr 0 0 0) = some (.iptr (mvD l), O.ice (mvD l) 1 0 :: h) := by
  have key : ∀ (n : Nat) (ds : List D) (h : H), listWith (frz n) h (ds.map A.d) = some (ds, h) := by
    intro n ds
    induction ds with
    | nil => intro h; rfl
    | cons d ds ih =>
      intro h
      simp only [List.map_cons, listWith]
      have : frz n h (.d d) = some (d, h) := by cases n <;> rfl
      simp only [this, ih h]
  show frz (4 + 1) _ _ = _
  unfold frz
  simp only [List.getElem?_cons_zero, Nat.zero_le, and_self, if_true, mvA, key, List.drop_zero, List.set_cons_zero]

/-- A place of the table is written, in a region that draws its order. -/
theorem st_memv {call : CallF} {thaw : List Nat} {dst : Option Tmp} {x y : Operand} {k : Nat} {l : List Edge} {e : Edge} {v : Int} {r : H} (hk : k < 96) (he : e.fr.toNat * 6 + e.lt.toNat = k) (hv : v = ((mvAt (e :: l) k : Nat) : Int)) : memD env call thaw dst (.store 3 x y) (O.box (mvA l) :: r) [.ptr 0 0 k, .d (.int .i64 v)] = some (.d .undef, O.box (mvA (e :: l)) :: r, { ids := [0], ro := false, wr := [0] }) := by
  have e1 : reach fuelR (O.box (mvA l) :: r) (idsL [.ptr 0 0 k, .d (.int .i64 v)]) [] = [0] := by
    show reach (fuelR - 1 + 1) (O.box (mvA l) :: r) [0] [] = [0]
    simp only [reach, List.contains_nil, Bool.false_eq_true, if_false, List.getElem?_cons_zero, mv_ids, List.append_nil, List.nil_append]
    rfl
  have e2 : pack (O.box (mvA l) :: r) [0] = [O.box (mvA l)] := by
    simp only [pack, List.map_cons, List.map_nil, List.getD_cons_zero, mapO, mv_map]
  have e3 : mapAs (place [0]) [.ptr 0 0 k, .d (.int .i64 v)] = [.ptr 0 0 k, .d (.int .i64 v)] := rfl
  have hst : aStore env.P [O.box (mvA l)] 3 (.ptr 0 0 k) (.d (.int .i64 v)) = some [O.box (mvA (e :: l))] := by
    unfold aStore
    have h1 : (cellsA (.d (.int .i64 v))).length = env.P.cellsOf 3 ∧ (env.P.info? 3).isSome = true ∧ (cellsA (.d (.int .i64 v))).all okCell = true := ⟨c_int.symm ▸ rfl, i_int, rfl⟩
    rw [if_pos h1]
    have h2 : thawCells [O.box (mvA l)] (cellsA (.d (.int .i64 v))) = ([.d (.int .i64 v)], [O.box (mvA l)]) := rfl
    simp only [List.getElem?_cons_zero, h2, c_int, mvA_len]
    rw [if_pos (by omega), hv, mv_set hk he]
    rfl
  have hcl : closed (O.box (mvA l) :: r) [0] (idsL [.ptr 0 0 k, .d (.int .i64 v)]) = true := by
    simp only [closed, List.all_cons, List.all_nil, List.getElem?_cons_zero, mv_ids]
    rfl
  unfold memD
  rw [e1]
  simp only [box]
  rw [e2, e3]
  simp only [evOp, asOper, two, hst, Option.map_some, hcl, List.length_cons, List.length_nil, Nat.le_refl, and_self, if_true]
  simp only [readOp, Bool.false_and, Bool.false_eq_true, if_false, Nat.sub_self, List.range'_zero, List.append_nil, mapA, putBack, mapO, mv_map, List.set_cons_zero, List.map_nil]
  rfl

theorem loop_i_movesOf {R : Type} {L n : Nat} {l : List Edge} (hl : l.length ≤ 4294967296) (hv : ∀ e ∈ l, 0 ≤ e.fr ∧ e.fr < 16 ∧ 0 ≤ e.lt ∧ e.lt < 6 ∧ 0 ≤ e.to ∧ e.to < 16) {k : Exit → List A → H → Option R} : ∀ (j i m : Nat) (hi : i + j = l.length) (hm : j < m),
    kLoop env (evCall env L n) L 0 [] (false :: false :: true :: true :: false :: false :: false :: false :: true :: true :: true :: false :: false :: false :: false :: false :: false :: false :: false :: false :: false :: false :: false :: false :: false :: false :: false :: false :: false :: false :: false :: false :: []) (lp_i_movesOf 0) (true :: true :: false :: false :: true :: true :: true :: true :: false :: false :: false :: true :: true :: true :: true :: true :: true :: true :: true :: true :: true :: true :: true :: true :: true :: true :: true :: true :: true :: true :: true :: true :: []) m (.junk :: .junk :: .d .nilp :: .ptr 0 0 0 :: .junk :: .junk :: .junk :: .junk :: .d (.ivs l.length (edgesD l)) :: .d (.int .i64 (l.length)) :: .d (.int .i64 ((i : Int))) :: .junk :: .junk :: .junk :: .junk :: .junk :: .junk :: .junk :: .junk :: .junk :: .junk :: .junk :: .junk :: .junk :: .junk :: .junk :: .junk :: .junk :: .junk :: .junk :: .junk :: .junk :: []) [.box (mvA (l.take i).reverse)] k
    = k (.exit 0) (.junk :: .junk :: .d .nilp :: .ptr 0 0 0 :: .junk :: .junk :: .junk :: .junk :: .d (.ivs l.length (edgesD l)) :: .d (.int .i64 (l.length)) :: .d (.int .i64 (l.length)) :: .junk :: .junk :: .junk :: .junk :: .junk :: .junk :: .junk :: .junk :: .junk :: .junk :: .junk :: .junk :: .junk :: .junk :: .junk :: .junk :: .junk :: .junk :: .junk :: .junk :: .junk :: []) [.box (mvA l.reverse)] := by
  intro j
  induction j with
  | zero =>
    intro i m hi hm
    obtain ⟨m, rfl⟩ : ∃ q, m = q + 1 := ⟨m - 1, by omega⟩
    obtain rfl : i = l.length := by omega
    rw [step_i_movesOf_0]
    simp only [S_i_movesOf_0, Tryd.f40, SLM, simprocAttr]
    simp -implicitDefEqProofs (maxSteps := 2000000) (disch := first | assumption | (refine Shut.mk ?_; kernel_rfl) | omega | (simp only [GT]; done) | (simp only [LN] <;> omega) | fail) only [↓WD, ↓kAsg, ↓kRet, ↓clash_free, ↓WDD, ↓kOpD_callv, WK, UN, TY, LB, MD, i64_id, simprocAttr, ↓CV, LE, Int.lt_irrefl, mv_ids, mv_map, mv_calm]
  | succ j ih =>
    intro i m hi hm
    obtain ⟨m, rfl⟩ : ∃ q, m = q + 1 := ⟨m - 1, by omega⟩
    have hc : (i : Int) < l.length := by omega
    have hk : i < l.length := by omega
    have hmem : l.getD i default ∈ l := by rw [List.getD_eq_getElem?_getD, List.getElem?_eq_getElem hk]; exact List.getElem_mem hk
    obtain ⟨b1, b2, b3, b4, b5, b6⟩ := hv _ hmem
    have hkk : (l.getD i default).fr.toNat * 6 + (l.getD i default).lt.toNat < 96 := by omega
    have hlt : ∀ k, mvAt (l.take i).reverse k < 2 ^ 16 := fun k => mvAt_lt fun e he => by
      have := hv e (List.mem_of_mem_take (List.mem_reverse.1 he)); omega
    have hmv : iOr .i64 ((mvAt (l.take i).reverse ((l.getD i default).fr.toNat * 6 + (l.getD i default).lt.toNat) : Nat) : Int) (IntKind.i64.wrap (1 * 2 ^ min (l.getD i default).to.toNat 64)) = ((mvAt (l.getD i default :: (l.take i).reverse) ((l.getD i default).fr.toNat * 6 + (l.getD i default).lt.toNat) : Nat) : Int) := by
      have e1 : min (l.getD i default).to.toNat 64 = (l.getD i default).to.toNat := by omega
      have e2 : (2 : Nat) ^ (l.getD i default).to.toNat ≤ 2 ^ 15 := Nat.pow_le_pow_right (by omega) (by omega)
      have e3 : IntKind.i64.wrap (1 * 2 ^ (l.getD i default).to.toNat) = ((2 ^ (l.getD i default).to.toNat : Nat) : Int) := by
        have : (1 : Int) * 2 ^ (l.getD i default).to.toNat = ((2 ^ (l.getD i default).to.toNat : Nat) : Int) := by simp
        rw [this]
        generalize (2 : Nat) ^ (l.getD i default).to.toNat = p at e2
        exact i64_id (by omega) (by omega)
      have e5 := hlt ((l.getD i default).fr.toNat * 6 + (l.getD i default).lt.toNat)
      rw [e1, e3, iOr_nat (by omega) (by generalize (2 : Nat) ^ (l.getD i default).to.toNat = p at e2 ⊢; omega)]
      simp [mvAt]
    have hrev : (l.take (i + 1)).reverse = l.getD i default :: (l.take i).reverse := by
      rw [List.take_add_one, List.reverse_append, List.getD_eq_getElem?_getD, List.getElem?_eq_getElem hk]
      rfl
    have ih' := ih (i + 1) m (by omega) (by omega)
    rw [hrev] at ih'
    have e4 : ((i + 1 : Nat) : Int) = (i : Int) + 1 := by omega
    rw [e4] at ih'
    have st_m := fun {call : CallF} {thaw : List Nat} {dst : Option Tmp} {x y : Operand} {r : H} => @st_memv call thaw dst x y _ (l.take i).reverse (l.getD i default) _ r hkk rfl hmv
    clear ih hmem hlt hmv hrev
    rw [step_i_movesOf_0]
    simp only [S_i_movesOf_0, Tryd.f40, SLM, simprocAttr]
    simp -implicitDefEqProofs (maxSteps := 2000000) (disch := first | assumption | (refine Shut.mk ?_; kernel_rfl) | omega | (simp only [GT]; done) | (simp only [LN] <;> omega) | fail) only [↓WD, ↓kAsg, ↓kRet, ↓clash_free, ↓WDD, ↓kOpD_callv, WK, UN, TY, LB, MD, i64_id, simprocAttr, ↓CV, LE, hc, b1, b2, b3, b4, b5, b6, mv_head, ↓st_m, mv_ids, mv_map, mv_calm, bits64, Int.toNat_natCast, ↓ih']

theorem loop_i_movesOf_top {R : Type} {L n m : Nat} {l : List Edge} (hl : l.length ≤ 4294967296) (hv : ∀ e ∈ l, 0 ≤ e.fr ∧ e.fr < 16 ∧ 0 ≤ e.lt ∧ e.lt < 6 ∧ 0 ≤ e.to ∧ e.to < 16) {k : Exit → List A → H → Option R} (hm : l.length < m) :
    kLoop env (evCall env L n) L 0 [] (false :: false :: true :: true :: false :: false :: false :: false :: true :: true :: true :: false :: false :: false :: false :: false :: false :: false :: false :: false :: false :: false :: false :: false :: false :: false :: false :: false :: false :: false :: false :: false :: []) (lp_i_movesOf 0) (true :: true :: false :: false :: true :: true :: true :: true :: false :: false :: false :: true :: true :: true :: true :: true :: true :: true :: true :: true :: true :: true :: true :: true :: true :: true :: true :: true :: true :: true :: true :: true :: []) m (.junk :: .junk :: .d .nilp :: .ptr 0 0 0 :: .junk :: .junk :: .junk :: .junk :: .d (.ivs l.length (edgesD l)) :: .d (.int .i64 (l.length)) :: .d (.int .i64 0) :: .junk :: .junk :: .junk :: .junk :: .junk :: .junk :: .junk :: .junk :: .junk :: .junk :: .junk :: .junk :: .junk :: .junk :: .junk :: .junk :: .junk :: .junk :: .junk :: .junk :: .junk :: []) [.box [.d (.int .i64 0), .d (.int .i64 0), .d (.int .i64 0), .d (.int .i64 0), .d (.int .i64 0), .d (.int .i64 0), .d (.int .i64 0), .d (.int .i64 0), .d (.int .i64 0), .d (.int .i64 0), .d (.int .i64 0), .d (.int .i64 0), .d (.int .i64 0), .d (.int .i64 0), .d (.int .i64 0), .d (.int .i64 0), .d (.int .i64 0), .d (.int .i64 0), .d (.int .i64 0), .d (.int .i64 0), .d (.int .i64 0), .d (.int .i64 0), .d (.int .i64 0), .d (.int .i64 0), .d (.int .i64 0), .d (.int .i64 0), .d (.int .i64 0), .d (.int .i64 0), .d (.int .i64 0), .d (.int .i64 0), .d (.int .i64 0), .d (.int .i64 0), .d (.int .i64 0), .d (.int .i64 0), .d (.int .i64 0), .d (.int .i64 0), .d (.int .i64 0), .d (.int .i64 0), .d (.int .i64 0), .d (.int .i64 0), .d (.int .i64 0), .d (.int .i64 0), .d (.int .i64 0), .d (.int .i64 0), .d (.int .i64 0), .d (.int .i64 0), .d (.int .i64 0), .d (.int .i64 0), .d (.int .i64 0), .d (.int .i64 0), .d (.int .i64 0), .d (.int .i64 0), .d (.int .i64 0), .d (.int .i64 0), .d (.int .i64 0), .d (.int .i64 0), .d (.int .i64 0), .d (.int .i64 0), .d (.int .i64 0), .d (.int .i64 0), .d (.int .i64 0), .d (.int .i64 0), .d (.int .i64 0), .d (.int .i64 0), .d (.int .i64 0), .d (.int .i64 0), .d (.int .i64 0), .d (.int .i64 0), .d (.int .i64 0), .d (.int .i64 0), .d (.int .i64 0), .d (.int .i64 0), .d (.int .i64 0), .d (.int .i64 0), .d (.int .i64 0), .d (.int .i64 0), .d (.int .i64 0), .d (.int .i64 0), .d (.int .i64 0), .d (.int .i64 0), .d (.int .i64 0), .d (.int .i64 0), .d (.int .i64 0), .d (.int .i64 0), .d (.int .i64 0), .d (.int .i64 0), .d (.int .i64 0), .d (.int .i64 0), .d (.int .i64 0), .d (.int .i64 0), .d (.int .i64 0), .d (.int .i64 0), .d (.int .i64 0), .d (.int .i64 0), .d (.int .i64 0), .d (.int .i64 0)]] k
    = k (.exit 0) (.junk :: .junk :: .d .nilp :: .ptr 0 0 0 :: .junk :: .junk :: .junk :: .junk :: .d (.ivs l.length (edgesD l)) :: .d (.int .i64 (l.length)) :: .d (.int .i64 (l.length)) :: .junk :: .junk :: .junk :: .junk :: .junk :: .junk :: .junk :: .junk :: .junk :: .junk :: .junk :: .junk :: .junk :: .junk :: .junk :: .junk :: .junk :: .junk :: .junk :: .junk :: .junk :: []) [.box (mvA l.reverse)] :=
  loop_i_movesOf hl hv l.length 0 m (by omega) hm

theorem ev_i_movesOf {L n : Nat} (hn : 2 ≤ n) (al st : Int) (l : List Edge) (hl : l.length ≤ 4294967296) (hv : ∀ e ∈ l, 0 ≤ e.fr ∧ e.fr < 16 ∧ 0 ≤ e.lt ∧ e.lt < 6 ∧ 0 ≤ e.to ∧ e.to < 16) (hL : 2 ^ 60 ≤ L) : evCall env L n 40 [.agg [.d (.int .i64 al), .d (.int .i64 st), .d (.ivs l.length (edgesD l))]] [] = some (.d (.iptr (mvD l.reverse)), []) := by
  obtain ⟨n, rfl⟩ : ∃ m, n = m + 1 := ⟨n - 1, by omega⟩
  rw [fn_i_movesOf]
  simp only [S_i_movesOf, Tryd.f40, SLM, simprocAttr]
  simp -implicitDefEqProofs (maxSteps := 2000000) (disch := first | assumption | (refine Shut.mk ?_; kernel_rfl) | omega | (simp only [GT]; done) | (simp only [LN] <;> omega) | fail) only [↓WD, ↓kAsg, ↓kRet, ↓clash_free, ↓WDD, ↓kOpD_callv, WK, UN, TY, LB, MD, i64_id, simprocAttr, ↓CV, ↓loop_i_movesOf, ↓loop_i_movesOf_top, LE, mv_ids, mv_map, mv_calm, ↓make_frz]
theorem kc_i_movesOf {R : Type} {L n : Nat} {hq : H} {k : A → H → Option R} (hn : 2 ≤ n) (al st : Int) (l : List Edge) (hl : l.length ≤ 4294967296) (hv : ∀ e ∈ l, 0 ≤ e.fr ∧ e.fr < 16 ∧ 0 ≤ e.lt ∧ e.lt < 6 ∧ 0 ≤ e.to ∧ e.to < 16) (hL : 2 ^ 60 ≤ L) : kCall env (evCall env L n) hq 40 [.agg [.d (.int .i64 al), .d (.int .i64 st), .d (.ivs l.length (edgesD l))]] k = k (.d (.iptr (mvD l.reverse))) hq :=
  kCall_still rfl (ev_i_movesOf hn al st l hl hv hL) rfl (.inr rfl)

/-! ### a step -/

theorem stepG_acc {m : Nat → Nat} : ∀ (q s o : Nat), stepG m q s o = o ||| stepG m q s 0
  | 0, s, o => by simp [stepG]
  | q + 1, s, o => by
    unfold stepG
    split
    · simp
    · rw [stepG_acc q, stepG_acc q (s &&& (s - 1)) (0 ||| m (Lib.ctz 64 s)), Nat.zero_or, Nat.or_assoc]

theorem stepG_lt {m : Nat → Nat} {w : Nat} (hm : ∀ k, m k < 2 ^ w) : ∀ (q s o : Nat), o < 2 ^ w → stepG m q s o < 2 ^ w
  | 0, s, o, h => h
  | q + 1, s, o, h => by
    unfold stepG
    split
    · exact h
    · exact stepG_lt hm q _ _ (Nat.or_lt_two_pow h (hm _))

theorem ctz_lt16 {s : Nat} (h0 : s ≠ 0) (h : s < 65536) : Lib.ctz 64 s < 16 := by
  unfold Lib.ctz
  rw [if_neg h0]
  have key : ∀ (f x : Nat), 0 < x → x < 2 ^ f → ∀ F, f ≤ F → Lib.ctzFrom F x < f := by
    intro f
    induction f with
    | zero => intro x h0 h1; simp at h1; omega
    | succ f ih =>
      intro x h0 h1 F hF
      obtain ⟨F, rfl⟩ : ∃ q, F = q + 1 := ⟨F - 1, by omega⟩
      unfold Lib.ctzFrom
      split
      · omega
      · have := ih (x / 2) (by omega) (by rw [Nat.pow_succ] at h1; omega) F (by omega)
        omega
  exact key 16 s (by omega) (by omega) 64 (by omega)

/-- After so many rounds a set is empty. -/
def left : Nat → Nat → Nat
  | 0, s => s
  | q + 1, s => if s = 0 then 0 else left q (s &&& (s - 1))

theorem kc_math_bits_TrailingZeros {R : Type} {L n : Nat} {hq : H} {k : A → H → Option R} (hn : 1 ≤ n) (x : Int) (h0 : 0 ≤ x) (h1 : x < 18446744073709551616) : kCall env (evCall env L n) hq 70 [.d (.int .u64 x)] k = k (.d (.int .i64 (Lib.ctz 64 x.toNat : Nat))) hq := by
  obtain ⟨n, rfl⟩ : ∃ m, n = m + 1 := ⟨n - 1, by omega⟩
  refine kCall_still rfl ?_ rfl (.inl rfl)
  rw [prim_math_bits_TrailingZeros]
  simp only [gCtz, h0, h1, and_self, if_true]

theorem conv_int_uintS {h : H} {n : Int} {K : IntKind} : aConvert env.P h 3 81 (.d (.int K n)) = some (.d (.int .u64 (IntKind.u64.wrap n)), h) := aConv_int u_int u_uint

theorem loop_moves_step {R : Type} {L n : Nat} (hn : 1 ≤ n) {l : List Edge} {c : Int} (hc0 : 0 ≤ c) (hc6 : c < 6) (hm16 : ∀ k, mvAt l k < 65536) {k : Exit → List A → H → Option R} : ∀ (q s o m : Nat) (hs : s < 65536) (ho : o < 65536) (hq : s ≤ q) (hm : q < m),
    kLoop env (evCall env L n) L 0 [] (true :: true :: true :: false :: false :: false :: true :: true :: false :: false :: false :: false :: false :: false :: false :: false :: false :: false :: false :: false :: false :: false :: false :: false :: false :: false :: []) (lp_i_moves_step 0) (false :: false :: false :: true :: true :: true :: false :: false :: true :: true :: true :: true :: true :: true :: true :: true :: true :: true :: true :: true :: true :: true :: true :: true :: true :: true :: []) m (.d (.iptr (mvD l)) :: .d (.int .i64 ((s : Int))) :: .d (.int .i64 c) :: .junk :: .junk :: .junk :: .d (.int .i64 0) :: .d (.int .i64 ((o : Int))) :: .junk :: .junk :: .junk :: .junk :: .junk :: .junk :: .junk :: .junk :: .junk :: .junk :: .junk :: .junk :: .junk :: .junk :: .junk :: .junk :: .junk :: .junk :: []) [] k
    = k (.exit 0) (.d (.iptr (mvD l)) :: .d (.int .i64 0) :: .d (.int .i64 c) :: .junk :: .junk :: .junk :: .d (.int .i64 0) :: .d (.int .i64 (((stepG (fun k => mvAt l (k * 6 + c.toNat)) q s o : Nat) : Int))) :: .junk :: .junk :: .junk :: .junk :: .junk :: .junk :: .junk :: .junk :: .junk :: .junk :: .junk :: .junk :: .junk :: .junk :: .junk :: .junk :: .junk :: .junk :: []) [] := by
  intro q
  induction q with
  | zero =>
    intro s o m hs ho hq hm
    obtain ⟨m, rfl⟩ : ∃ q, m = q + 1 := ⟨m - 1, by omega⟩
    obtain rfl : s = 0 := by omega
    rw [step_i_moves_step_0]
    simp only [S_i_moves_step_0, Tryd.f41, SLM, simprocAttr]
    simp -implicitDefEqProofs (maxSteps := 2000000) (disch := first | assumption | (refine Shut.mk ?_; kernel_rfl) | omega | (simp only [GT]; done) | (simp only [LN] <;> omega) | fail) only [↓WD, ↓kAsg, ↓kRet, ↓clash_free, ↓WDD, ↓kOpD_callv, WK, UN, TY, LB, MD, i64_id, simprocAttr, ↓CV, ↓kc_math_bits_TrailingZeros, Int.natCast_zero]
    rfl
  | succ q ih =>
    intro s o m hs ho hq hm
    obtain ⟨m, rfl⟩ : ∃ q, m = q + 1 := ⟨m - 1, by omega⟩
    by_cases h0 : s = 0
    · subst h0
      rw [step_i_moves_step_0]
      simp only [S_i_moves_step_0, Tryd.f41, SLM, simprocAttr]
      simp -implicitDefEqProofs (maxSteps := 2000000) (disch := first | assumption | (refine Shut.mk ?_; kernel_rfl) | omega | (simp only [GT]; done) | (simp only [LN] <;> omega) | fail) only [↓WD, ↓kAsg, ↓kRet, ↓clash_free, ↓WDD, ↓kOpD_callv, WK, UN, TY, LB, MD, i64_id, simprocAttr, ↓CV, ↓kc_math_bits_TrailingZeros, Int.natCast_zero]
      rfl
    · have h0' : ¬ (s : Int) = 0 := by omega
      have hct := ctz_lt16 h0 hs
      have hk := hm16 (Lib.ctz 64 s * 6 + c.toNat)
      have e1 : IntKind.u64.wrap (s : Int) = (s : Int) := u64_id (by omega) (by omega)
      have e2 : iOr .i64 (o : Int) ((mvAt l (Lib.ctz 64 s * 6 + c.toNat) : Nat) : Int) = ((o ||| mvAt l (Lib.ctz 64 s * 6 + c.toNat) : Nat) : Int) := iOr_nat (by omega) (by omega)
      have e3 : (s : Int) - 1 = ((s - 1 : Nat) : Int) := by omega
      have e4 : iAnd .i64 (s : Int) ((s - 1 : Nat) : Int) = ((s &&& (s - 1) : Nat) : Int) := iAnd_nat (by omega) (by omega)
      have e5 : IntKind.i64.wrap ((s : Int) - 1) = ((s - 1 : Nat) : Int) := by rw [← e3]; exact i64_id (by omega) (by omega)
      have l1 := Nat.and_le_right (n := s) (m := s - 1)
      have l2 : o ||| mvAt l (Lib.ctz 64 s * 6 + c.toNat) < 65536 := Nat.or_lt_two_pow (n := 16) ho hk
      have hkk : Lib.ctz 64 s * 6 + c.toNat < 96 := by omega
      have hd : c.toNat ≤ 96 - Lib.ctz 64 s * 6 := by omega
      have hd2 : Lib.ctz 64 s * 6 ≤ 96 := by omega
      have hct2 : ((Lib.ctz 64 s : Nat) : Int) < 16 := by omega
      have ih' := ih (s &&& (s - 1)) (o ||| mvAt l (Lib.ctz 64 s * 6 + c.toNat)) m (by omega) l2 (by omega) (by omega)
      clear ih l1 l2 hk
      rw [step_i_moves_step_0]
      simp only [S_i_moves_step_0, Tryd.f41, SLM, simprocAttr]
      simp -implicitDefEqProofs (maxSteps := 2000000) (disch := first | assumption | (refine Shut.mk ?_; kernel_rfl) | omega | (simp only [GT]; done) | (simp only [LN] <;> omega) | fail) only [↓WD, ↓kAsg, ↓kRet, ↓clash_free, ↓WDD, ↓kOpD_callv, WK, UN, TY, LB, MD, i64_id, simprocAttr, ↓CV, ↓kc_math_bits_TrailingZeros, h0', e1, e2, e4, e5, hct2, hc0, hc6, hd, hd2, ↓conv_int_uintS, Int.toNat_natCast, mvD_len, List.length_drop, List.drop_drop, mv_headD, ↓ih']
      simp only [stepG, h0, if_false]

end Ev
end Go.Proofs.YtojaohcpgelhmaaDoor
