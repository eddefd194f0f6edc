/-
  All traces of a system are traces of one that has its edges: walked.
-/
import Derived.Test.YtojaohcpgelhmaaDoorPathX
import Derived.Test.YtojaohcpgelhmaaDoorFnExactAddEdge
import Derived.Test.YtojaohcpgelhmaaDoorAgS
import Derived.Test.YtojaohcpgelhmaaDoorSwapL
section
set_option linter.unusedSimpArgs false
set_option linter.unusedVariables false
set_option maxRecDepth 8000
set_option pp.maxSteps 6000
set_option maxHeartbeats 4000000
namespace Go.Proofs.YtojaohcpgelhmaaDoor
namespace Ev

theorem ev_i_FirstTraceOutside_c2 {L n : Nat} (hn : 1 ≤ n) (w : Nat) (hw : w ≤ 16) (x : Int) (hx0 : 0 ≤ x) (hx1 : x < 16777216) (hx : x.tmod ((2 ^ w : Nat) : Int) ≠ 0) : evCall env L n 76 [.d (.int .i64 x), .d (.iptr [.int .i64 ((2 ^ w : Nat) : Int)])] [] = some (.d (.bool false), []) := by
  have hp : (0 : Int) < ((2 ^ w : Nat) : Int) := by have := Nat.two_pow_pos w; omega
  have h0 : ¬ ((2 ^ w : Nat) : Int) = 0 := by omega
  generalize ((2 ^ w : Nat) : Int) = z at *
  obtain ⟨n, rfl⟩ : ∃ m, n = m + 1 := ⟨n - 1, by omega⟩
  rw [fn_i_FirstTraceOutside_c2]
  simp only [S_i_FirstTraceOutside_c2, Tryd.f76, SLM, simprocAttr]
  simp -implicitDefEqProofs (maxSteps := 2000000) (disch := first | assumption | (refine Shut.mk ?_; kernel_rfl) | omega | (simp only [GT]; done) | (simp only [LN] <;> omega) | fail) only [↓WD, ↓kAsg, ↓kRet, ↓clash_free, ↓WDD, ↓kOpD_callv, WK, UN, TY, LB, MD, i64_id, simprocAttr, ↓CV, h0, hx]

theorem kc_i_FirstTraceOutside_c2 {R : Type} {L n : Nat} {hq : H} {k : A → H → Option R} (hn : 1 ≤ n) (w : Nat) (hw : w ≤ 16) (x : Int) (hx0 : 0 ≤ x) (hx1 : x < 16777216) (hx : x.tmod ((2 ^ w : Nat) : Int) ≠ 0) : kCall env (evCall env L n) hq 76 [.d (.int .i64 x), .d (.iptr [.int .i64 ((2 ^ w : Nat) : Int)])] k = k (.d (.bool false)) hq :=
  kCall_still rfl (ev_i_FirstTraceOutside_c2 hn w hw x hx0 hx1 hx) rfl (.inl rfl)
theorem ints1 {v : Int} : ints [v] = [.int .i64 v] := rfl

theorem loop_next {R : Type} {L n : Nat} (hn : 1 ≤ n) {z s : Int} (hz0 : 0 ≤ z) (hz1 : z ≤ 65536) (hs0 : 0 ≤ s) (hs1 : s < 65536) {ms : List Int} (hms : ∀ q ∈ ms, 0 ≤ q ∧ q < 16) (hml : ms.length ≤ 64) {k : Exit → List A → H → Option R} : ∀ (j i m : Nat) (o : List Int) (g len : Nat) (hi : i + j = ms.length) (hm : j < m) (hlen : len = o.length) (ho : o.length + j ≤ 2147483800),
    kLoop env (evCall env L n) L 1 [] (false :: false :: true :: false :: true :: false :: false :: false :: false :: true :: true :: false :: false :: false :: false :: false :: false :: false :: false :: false :: false :: false :: false :: false :: false :: false :: false :: false :: true :: true :: true :: false :: false :: false :: false :: false :: false :: false :: false :: false :: false :: false :: false :: false :: []) (lp_i_FirstTraceOutside_c1 0) (true :: true :: false :: true :: false :: true :: true :: true :: true :: false :: false :: true :: true :: true :: true :: true :: true :: true :: true :: true :: true :: true :: true :: true :: true :: true :: true :: true :: false :: false :: false :: true :: true :: true :: true :: true :: true :: true :: true :: true :: true :: true :: true :: true :: []) m (.junk :: .junk :: .sl 0 g 0 len :: .junk :: .d (.iptr [.int .i64 z]) :: .junk :: .junk :: .junk :: .junk :: .d .nils :: .d (.int .i64 s) :: .junk :: .junk :: .junk :: .junk :: .junk :: .junk :: .junk :: .junk :: .junk :: .junk :: .junk :: .junk :: .junk :: .junk :: .junk :: .junk :: .junk :: .d (.ivs ms.length (ints ms)) :: .d (.int .i64 (ms.length)) :: .d (.int .i64 ((i : Int))) :: .junk :: .junk :: .junk :: .junk :: .junk :: .junk :: .junk :: .junk :: .junk :: .junk :: .junk :: .junk :: .junk :: []) [.arr (ints o) 1 g] k
    = k (.exit 0) (.junk :: .junk :: .sl 0 (g + j) 0 (o ++ (ms.drop i).map fun q => q * z + s).length :: .junk :: .d (.iptr [.int .i64 z]) :: .junk :: .junk :: .junk :: .junk :: .d .nils :: .d (.int .i64 s) :: .junk :: .junk :: .junk :: .junk :: .junk :: .junk :: .junk :: .junk :: .junk :: .junk :: .junk :: .junk :: .junk :: .junk :: .junk :: .junk :: .junk :: .d (.ivs ms.length (ints ms)) :: .d (.int .i64 (ms.length)) :: .d (.int .i64 (ms.length)) :: .junk :: .junk :: .junk :: .junk :: .junk :: .junk :: .junk :: .junk :: .junk :: .junk :: .junk :: .junk :: .junk :: []) [.arr (ints (o ++ (ms.drop i).map fun q => q * z + s)) 1 (g + j)] := by
  intro j
  induction j with
  | zero =>
    intro i m o g len hi hm hlen ho
    obtain ⟨m, rfl⟩ : ∃ q, m = q + 1 := ⟨m - 1, by omega⟩
    obtain rfl : i = ms.length := by omega
    subst hlen
    rw [step_i_FirstTraceOutside_c1_0]
    simp only [S_i_FirstTraceOutside_c1_0, Tryd.f73, SLM, simprocAttr]
    simp -implicitDefEqProofs (maxSteps := 2000000) (disch := first | assumption | (refine Shut.mk ?_; kernel_rfl) | omega | (simp only [GT]; done) | (simp only [LN] <;> omega) | fail) only [↓WD, ↓kAsg, ↓kRet, ↓clash_free, ↓WDD, ↓kOpD_callv, WK, UN, TY, LB, MD, i64_id, simprocAttr, ↓CV, ↓kc_i_moves_step, ↓kc_i_members, PE, Int.lt_irrefl]
    simp only [List.drop_length, List.map_nil, List.append_nil, List.length_nil, Nat.add_zero]
  | succ j ih =>
    intro i m o g len hi hm hlen ho
    obtain ⟨m, rfl⟩ : ∃ q, m = q + 1 := ⟨m - 1, by omega⟩
    subst hlen
    have hc : (i : Int) < ms.length := by omega
    have hk : i < ms.length := by omega
    have hmem : ms.getD i 0 ∈ ms := by rw [List.getD_eq_getElem?_getD, List.getElem?_eq_getElem hk]; exact List.getElem_mem hk
    obtain ⟨q0, q1⟩ := hms _ hmem
    have b0 : 0 ≤ ms.getD i 0 * z := Int.mul_nonneg q0 hz0
    have b1 : ms.getD i 0 * z ≤ 16 * 65536 := Int.mul_le_mul (by omega) hz1 hz0 (by omega)
    have ih' := ih (i + 1) m (o ++ [ms.getD i 0 * z + s]) (g + 1) (o.length + 1) (by omega) (by omega) (by simp) (by simp; omega)
    have e4 : ((i + 1 : Nat) : Int) = (i : Int) + 1 := by omega
    rw [e4] at ih'
    rw [drop_go hk (d := 0)]
    clear ih hmem
    rw [step_i_FirstTraceOutside_c1_0]
    simp only [S_i_FirstTraceOutside_c1_0, Tryd.f73, SLM, simprocAttr]
    simp -implicitDefEqProofs (maxSteps := 2000000) (disch := first | assumption | (refine Shut.mk ?_; kernel_rfl) | omega | (simp only [GT]; done) | (simp only [LN] <;> omega) | fail) only [↓WD, ↓kAsg, ↓kRet, ↓clash_free, ↓WDD, ↓kOpD_callv, WK, UN, TY, LB, MD, i64_id, simprocAttr, ↓CV, ↓kc_i_moves_step, ↓kc_i_members, PE, hc, Int.toNat_natCast, ints_take, ints_snoc, List.length_append, ↓ih']
    simp only [List.map_cons, List.append_assoc, List.cons_append, List.nil_append, Nat.add_assoc, Nat.add_comm 1]

theorem ev_next {L n : Nat} (hn : 3 ≤ n) (hL : 2 ^ 60 ≤ L) {l l2 : List Edge} (hm16 : ∀ k, mvAt l k < 65536) (hm2 : ∀ k, mvAt l2 k < 65536) {x c z : Int} {q s : Nat} (hz0 : 0 < z) (hz1 : z ≤ 65536) (hx0 : 0 ≤ x) (hx1 : x < 16777216) (hq : q < 16) (hs : s < 65536) (ht : x.tmod z = (s : Int)) (hd : x.tdiv z = (q : Int)) (hc0 : 0 ≤ c) (hc6 : c < 6) (o : List Int) (ho : o.length ≤ 2147483648) (w : List Int) (hw : w = (memG (mvAt l (q * 6 + c.toNat)) (mvAt l (q * 6 + c.toNat))).map fun m => m * z + (stepG (fun k => mvAt l2 (k * 6 + c.toNat)) s s 0 : Nat)) :
    evCall env L n 73 [.d (.int .i64 x), .d (.int .i64 c), .sl 0 0 0 o.length, .d (.iptr [.iptr (mvD l2)]), .d (.iptr [.int .i64 z]), .d (.iptr [.iptr (mvD l)])] [.arr (ints o) 1 0] = some (.sl 0 w.length 0 (o ++ w).length, [.arr (ints (o ++ w)) 1 w.length]) := by
  have hmv := hm16 (q * 6 + c.toNat)
  have hst := stepG_lt (w := 16) (fun k => hm2 (k * 6 + c.toNat)) s s 0 (by omega)
  have hkk : q * 6 + c.toNat < 96 := by omega
  have hd1 : c.toNat ≤ 96 - q * 6 := by omega
  have hd2 : q * 6 ≤ 96 := by omega
  have hq2 : (q : Int) < 16 := by omega
  have hz2 : ¬ z = 0 := by omega
  have hml := memG_len 16 (mvAt l (q * 6 + c.toNat)) _ hmv (by omega)
  have hms : ∀ y ∈ memG (mvAt l (q * 6 + c.toNat)) (mvAt l (q * 6 + c.toNat)), 0 ≤ y ∧ y < 16 := by
    intro y hy
    obtain ⟨y0, yb⟩ := memG_mem _ _ (by omega) y hy
    refine ⟨y0, ?_⟩
    apply Int.lt_of_not_ge
    intro hge
    have := Nat.testBit_lt_two_pow (x := mvAt l (q * 6 + c.toNat)) (i := y.toNat) (Nat.lt_of_lt_of_le hmv (Nat.pow_le_pow_right (n := 2) (by decide) (by omega : 16 ≤ y.toNat)))
    rw [this] at yb; cases yb
  have loop_c := fun {R : Type} {n : Nat} {k : Exit → List A → H → Option R} (hn : 1 ≤ n) => @loop_next R L n hn z ((stepG (fun k => mvAt l2 (k * 6 + c.toNat)) s s 0 : Nat) : Int) (by omega) hz1 (by omega) (by omega) (memG (mvAt l (q * 6 + c.toNat)) (mvAt l (q * 6 + c.toNat))) hms (by omega) k (memG (mvAt l (q * 6 + c.toNat)) (mvAt l (q * 6 + c.toNat))).length 0 L o 0 o.length (by omega) (by omega) rfl (by omega)
  have hwl : w.length = (memG (mvAt l (q * 6 + c.toNat)) (mvAt l (q * 6 + c.toNat))).length := by rw [hw, List.length_map]
  simp only [List.drop_zero, Int.natCast_zero, Nat.zero_add, ← hw] at loop_c
  clear hw hms hml
  obtain ⟨n, rfl⟩ : ∃ m, n = m + 1 := ⟨n - 1, by omega⟩
  rw [fn_i_FirstTraceOutside_c1]
  simp only [S_i_FirstTraceOutside_c1, Tryd.f73, SLM, simprocAttr]
  simp -implicitDefEqProofs (maxSteps := 2000000) (disch := first | assumption | (refine Shut.mk ?_; kernel_rfl) | omega | (simp only [GT]; done) | (simp only [LN] <;> omega) | fail) only [↓WD, ↓kAsg, ↓kRet, ↓clash_free, ↓WDD, ↓kOpD_callv, WK, UN, TY, LB, MD, i64_id, simprocAttr, ↓CV, PE, hz2, ht, hd, hq2, hc0, hc6, hd1, hd2, hkk, ↓kc_i_members, ↓kc_i_moves_step, hm2, hmv, hs, Int.toNat_natCast, mvD_len, List.length_drop, List.drop_drop, mv_headD, ↓loop_c, hwl]

theorem kc_next {R : Type} {L n id : Nat} {hq : H} {k : A → H → Option R} (hn : 3 ≤ n) (hL : 2 ^ 60 ≤ L) {l l2 : List Edge} (hm16 : ∀ k, mvAt l k < 65536) (hm2 : ∀ k, mvAt l2 k < 65536) {w st : Nat} (hw : w ≤ 16) (hst : st ≤ 16) (x c : Int) (o : List Int) (hx : TNode (2 ^ w) st x) (hc0 : 0 ≤ c) (hc6 : c < 6) (ho : o.length ≤ 2147483648) (hid : hq[id]? = some (.arr (ints o) 1 0)) :
    kCall env (evCall env L n) hq 73 (.d (.int .i64 x) :: .d (.int .i64 c) :: .sl id 0 0 o.length :: [.iptr [.iptr (mvD l2)], .iptr [.int .i64 ((2 ^ w : Nat) : Int)], .iptr [.iptr (mvD l)]].map A.d) k
    = k (.sl id (tnext l l2 (2 ^ w) x c).length 0 (o ++ tnext l l2 (2 ^ w) x c).length) (hq.set id (.arr (ints (o ++ tnext l l2 (2 ^ w) x c)) 1 (tnext l l2 (2 ^ w) x c).length)) := by
  have hg := tnode_good hx
  obtain ⟨q, set, rfl, hq2, hs, hb⟩ := hx
  have p16 : (2 : Nat) ^ w ≤ 2 ^ 16 := Nat.pow_le_pow_right (by decide) hw
  have p0 := Nat.two_pow_pos w
  obtain ⟨e1, e2⟩ := tnode_div (q := q) hs
  have b1 : st * 2 ^ w ≤ 16 * 2 ^ 16 := Nat.mul_le_mul hst p16
  refine kCall_refS hid (by simp [idsL, idsA]) mode_i_FirstTraceOutside_c1 ?_
  have hpl : place [id] id = some 0 := by simp [place]
  simp only [List.map_cons, List.map_nil, mapAs, mapA, hpl]
  refine ev_next hn hL hm16 hm2 (q := q) (s := set) (by omega) (by omega) hg.1 (by omega) (by omega) (by omega) ?_ ?_ hc0 hc6 o ho _ ?_
  · show (((q * 2 ^ w + set) % 2 ^ w : Nat) : Int) = _
    rw [e2]
  · show (((q * 2 ^ w + set) / 2 ^ w : Nat) : Int) = _
    rw [e1]
  · unfold tnext
    rw [Int.toNat_natCast, e1, e2]

theorem kv_i_firstPath_f {R : Type} {L n : Nat} {hq : H} {k : A → H → Option R} {a b : A} {id g o len f1 f2 : Nat} {c1 c2 : List A} : kCall env (evCall env L n) hq 75 [a, .sl id g o len, b, .clo f1 c1, .clo f2 c2] k = match box (lentA hq [a, .sl id g o len, b, .clo f1 c1, .clo f2 c2]) with
    | .mk (some fs) => kLent (evCall env L n) 75 fs fun r => k r hq
    | _ => none := kCall_lent mode_i_firstPath

theorem ev_i_sameAlphabets {L n : Nat} (hn : 7 ≤ n) (al st al2 st2 : Int) (l l2 : List Edge) (hl : l.length ≤ 4294967296) (hl2 : l2.length ≤ 4294967296) (hL : 2 ^ 60 ≤ L) : evCall env L n 54 [.agg [.d (.int .i64 al), .d (.int .i64 st), .d (.ivs l.length (edgesD l))], .agg [.d (.int .i64 al2), .d (.int .i64 st2), .d (.ivs l2.length (edgesD l2))]] [] = some (.d (.bool (sysOK ⟨al, st, l⟩ && sysOK ⟨al2, st2, l2⟩ && decide (al = al2))), []) := by
  cases h1 : sysOK ⟨al, st, l⟩ with
  | false =>
    obtain ⟨n, rfl⟩ : ∃ m, n = m + 1 := ⟨n - 1, by omega⟩
    rw [fn_i_sameAlphabets]
    simp only [S_i_sameAlphabets, Tryd.f54, SLM, simprocAttr]
    simp -implicitDefEqProofs (maxSteps := 2000000) (disch := first | assumption | (refine Shut.mk ?_; kernel_rfl) | omega | (simp only [GT]; done) | (simp only [LN] <;> omega) | fail) only [↓WD, ↓kAsg, ↓kRet, ↓clash_free, ↓WDD, ↓kOpD_callv, WK, UN, TY, LB, MD, i64_id, simprocAttr, ↓CV, ↓kc_i_SystemValid, ↓kl_i_SystemValid, ↓kv_i_SystemValid_1, LE, h1, Bool.false_and]
  | true =>
    cases h2 : sysOK ⟨al2, st2, l2⟩ with
    | false =>
      obtain ⟨n, rfl⟩ : ∃ m, n = m + 1 := ⟨n - 1, by omega⟩
      rw [fn_i_sameAlphabets]
      simp only [S_i_sameAlphabets, Tryd.f54, SLM, simprocAttr]
      simp -implicitDefEqProofs (maxSteps := 2000000) (disch := first | assumption | (refine Shut.mk ?_; kernel_rfl) | omega | (simp only [GT]; done) | (simp only [LN] <;> omega) | fail) only [↓WD, ↓kAsg, ↓kRet, ↓clash_free, ↓WDD, ↓kOpD_callv, WK, UN, TY, LB, MD, i64_id, simprocAttr, ↓CV, ↓kc_i_SystemValid, ↓kl_i_SystemValid, ↓kv_i_SystemValid_1, LE, h1, h2, Bool.and_false, Bool.false_and]
    | true =>
      obtain ⟨n, rfl⟩ : ∃ m, n = m + 1 := ⟨n - 1, by omega⟩
      rw [fn_i_sameAlphabets]
      simp only [S_i_sameAlphabets, Tryd.f54, SLM, simprocAttr]
      simp -implicitDefEqProofs (maxSteps := 2000000) (disch := first | assumption | (refine Shut.mk ?_; kernel_rfl) | omega | (simp only [GT]; done) | (simp only [LN] <;> omega) | fail) only [↓WD, ↓kAsg, ↓kRet, ↓clash_free, ↓WDD, ↓kOpD_callv, WK, UN, TY, LB, MD, i64_id, simprocAttr, ↓CV, ↓kc_i_SystemValid, ↓kl_i_SystemValid, ↓kv_i_SystemValid_1, LE, h1, h2, Bool.and_self, Bool.true_and]
theorem kc_i_sameAlphabets {R : Type} {L n : Nat} {hq : H} {k : A → H → Option R} (hn : 7 ≤ n) (al st al2 st2 : Int) (l l2 : List Edge) (hl : l.length ≤ 4294967296) (hl2 : l2.length ≤ 4294967296) (hL : 2 ^ 60 ≤ L) : kCall env (evCall env L n) hq 54 [.agg [.d (.int .i64 al), .d (.int .i64 st), .d (.ivs l.length (edgesD l))], .agg [.d (.int .i64 al2), .d (.int .i64 st2), .d (.ivs l2.length (edgesD l2))]] k = k (.d (.bool (sysOK ⟨al, st, l⟩ && sysOK ⟨al2, st2, l2⟩ && decide (al = al2)))) hq :=
  kCall_still rfl (ev_i_sameAlphabets hn al st al2 st2 l l2 hl hl2 hL) rfl (.inl rfl)
theorem kl_i_sameAlphabets {R : Type} {L n : Nat} {k : A → Option R} (hn : 7 ≤ n) (al st al2 st2 : Int) (l l2 : List Edge) (hl : l.length ≤ 4294967296) (hl2 : l2.length ≤ 4294967296) (hL : 2 ^ 60 ≤ L) : kLent (evCall env L n) 54 [.agg [.d (.int .i64 al), .d (.int .i64 st), .d (.ivs l.length (edgesD l))], .agg [.d (.int .i64 al2), .d (.int .i64 st2), .d (.ivs l2.length (edgesD l2))]] k = k (.d (.bool (sysOK ⟨al, st, l⟩ && sysOK ⟨al2, st2, l2⟩ && decide (al = al2)))) :=
  kLent_ev (ev_i_sameAlphabets hn al st al2 st2 l l2 hl hl2 hL) rfl
theorem kv_i_sameAlphabets_1 {R : Type} {L n : Nat} {hq : H} {k : A → H → Option R} {id0 g0 o0 len0 : Nat} {al st al2 st2 : Int} {l2 : List Edge} : kCall env (evCall env L n) hq 54 [.agg [.d (.int .i64 al), .d (.int .i64 st), .sl id0 g0 o0 len0], .agg [.d (.int .i64 al2), .d (.int .i64 st2), .d (.ivs l2.length (edgesD l2))]] k = match box (lentA hq [.agg [.d (.int .i64 al), .d (.int .i64 st), .sl id0 g0 o0 len0], .agg [.d (.int .i64 al2), .d (.int .i64 st2), .d (.ivs l2.length (edgesD l2))]]) with
    | .mk (some fs) => kLent (evCall env L n) 54 fs fun r => k r hq
    | _ => none := kCall_lent mode_i_sameAlphabets
theorem kv_i_sameAlphabets_2 {R : Type} {L n : Nat} {hq : H} {k : A → H → Option R} {id1 g1 o1 len1 : Nat} {al st al2 st2 : Int} {l : List Edge} : kCall env (evCall env L n) hq 54 [.agg [.d (.int .i64 al), .d (.int .i64 st), .d (.ivs l.length (edgesD l))], .agg [.d (.int .i64 al2), .d (.int .i64 st2), .sl id1 g1 o1 len1]] k = match box (lentA hq [.agg [.d (.int .i64 al), .d (.int .i64 st), .d (.ivs l.length (edgesD l))], .agg [.d (.int .i64 al2), .d (.int .i64 st2), .sl id1 g1 o1 len1]]) with
    | .mk (some fs) => kLent (evCall env L n) 54 fs fun r => k r hq
    | _ => none := kCall_lent mode_i_sameAlphabets
theorem kv_i_sameAlphabets_3 {R : Type} {L n : Nat} {hq : H} {k : A → H → Option R} {id1 g1 o1 len1 : Nat} {id0 g0 o0 len0 : Nat} {al st al2 st2 : Int} : kCall env (evCall env L n) hq 54 [.agg [.d (.int .i64 al), .d (.int .i64 st), .sl id0 g0 o0 len0], .agg [.d (.int .i64 al2), .d (.int .i64 st2), .sl id1 g1 o1 len1]] k = match box (lentA hq [.agg [.d (.int .i64 al), .d (.int .i64 st), .sl id0 g0 o0 len0], .agg [.d (.int .i64 al2), .d (.int .i64 st2), .sl id1 g1 o1 len1]]) with
    | .mk (some fs) => kLent (evCall env L n) 54 fs fun r => k r hq
    | _ => none := kCall_lent mode_i_sameAlphabets

theorem ev_i_FirstTraceOutside {L n : Nat} (hn : 9 ≤ n) (al st : Int) (l l2 : List Edge) (hl : l.length ≤ 4294967296) (hl2 : l2.length ≤ 4294967296) (h1 : sysOK ⟨al, st, l⟩ = true) (h2 : sysOK ⟨al, st, l2⟩ = true) (hsub : ∀ e ∈ l, e ∈ l2) (hL : 2 ^ 60 ≤ L) : evCall env L n 53 [.agg [.d (.int .i64 al), .d (.int .i64 st), .d (.ivs l.length (edgesD l))], .agg [.d (.int .i64 al), .d (.int .i64 st), .d (.ivs l2.length (edgesD l2))]] [] = some (.tup [.d (.str []), .d (.bool false)], []) := by
  have hv1 := sys_bounds h1
  have hv2 := sys_bounds h2
  have hr1 : ∀ e ∈ l.reverse, 0 ≤ e.fr ∧ e.fr < 16 ∧ 0 ≤ e.lt ∧ e.lt < 6 ∧ 0 ≤ e.to ∧ e.to < 16 := fun e he => hv1 e (List.mem_reverse.1 he)
  have hr2 : ∀ e ∈ l2.reverse, 0 ≤ e.fr ∧ e.fr < 16 ∧ 0 ≤ e.lt ∧ e.lt < 6 ∧ 0 ≤ e.to ∧ e.to < 16 := fun e he => hv2 e (List.mem_reverse.1 he)
  have hm1 := mv16 hr1
  have hm2 := mv16 hr2
  have h1' := h1
  unfold sysOK at h1'
  simp only [Bool.and_eq_true, decide_eq_true_eq] at h1'
  obtain ⟨w, rfl⟩ : ∃ w : Nat, st = (w : Int) := ⟨st.toNat, by omega⟩
  have hw0 : 1 ≤ w := by omega
  have hw : w ≤ 16 := by omega
  have p16 : (2 : Nat) ^ w ≤ 2 ^ 16 := Nat.pow_le_pow_right (by decide) hw
  have p1 : (2 : Nat) ^ 1 ≤ 2 ^ w := Nat.pow_le_pow_right (by decide) hw0
  have hto1 : ∀ e ∈ l.reverse, e.to.toNat < w := fun e he => by
    have := sysOK_edge h1 (List.mem_reverse.1 he)
    unfold edgeOK at this
    simp only [Bool.and_eq_true, decide_eq_true_eq] at this
    omega
  have hto2 : ∀ e ∈ l2.reverse, e.to.toNat < w := fun e he => by
    have := sysOK_edge h2 (List.mem_reverse.1 he)
    unfold edgeOK at this
    simp only [Bool.and_eq_true, decide_eq_true_eq] at this
    omega
  have hsub2 : ∀ e ∈ l.reverse, e ∈ l2.reverse := fun e he => List.mem_reverse.2 (hsub e (List.mem_reverse.1 he))
  have hsz : w * 2 ^ w ≤ 16 * 2 ^ 16 := Nat.mul_le_mul hw p16
  have hgood := fun x (hx : TNode (2 ^ w) w x) => tnode_good hx
  have hT1 : TNode (2 ^ w) w 1 := ⟨0, 1, by simp, by omega, by omega, by decide⟩
  have hwl : ∀ x c, (tnext l.reverse l2.reverse (2 ^ w) x c).length ≤ 64 := by
    intro x c
    unfold tnext
    rw [List.length_map]
    have := memG_len 16 (mvAt l.reverse ((x.toNat / 2 ^ w) * 6 + c.toNat)) (mvAt l.reverse ((x.toNat / 2 ^ w) * 6 + c.toNat)) (hm1 _) (by have := hm1 ((x.toNat / 2 ^ w) * 6 + c.toNat); omega)
    omega
  have hp := fun {L n : Nat} (hn : 7 ≤ n) (hL : 2 ^ 60 ≤ L) => @ev_i_firstPath L n hn hL (TNode (2 ^ w) w) 73 76 [.iptr [.iptr (mvD l2.reverse)], .iptr [.int .i64 ((2 ^ w : Nat) : Int)], .iptr [.iptr (mvD l.reverse)]] [.iptr [.int .i64 ((2 ^ w : Nat) : Int)]] (w * 2 ^ w) (tnext l.reverse l2.reverse (2 ^ w)) (letters al) [1]
    (fun {R n id hq k} x c o h4 hI h0 h6 ho hid => kc_next (by omega) hL hm1 hm2 hw hw x c o hI h0 h6 ho hid)
    (fun {R n hq k} x h2 hI => kc_i_FirstTraceOutside_c2 (by omega) w hw x (hgood x hI).1 (by have := (hgood x hI).2.1; omega) (hgood x hI).2.2)
    (fun x hI => ⟨(hgood x hI).1, (hgood x hI).2.1⟩) (by omega) (fun x hx => by simp at hx; subst hx; exact hT1) (fun x c hI h0 h6 => tnext_node hw hsub2 hto1 hto2 hI) hwl letters_in (letters_len al) (by simp) (by simp; have : 1 * 2 ^ 1 ≤ w * 2 ^ w := Nat.mul_le_mul hw0 p1; omega)
  have kl_p := fun {R : Type} {n : Nat} {k : A → Option R} (hn : 7 ≤ n) => kLent_ev (k := k) (hp (n := n) hn hL) rfl
  have e1 : min w 64 = w := by omega
  have e3 : IntKind.i64.wrap (1 * 2 ^ w) = ((2 ^ w : Nat) : Int) := by
    have : (1 : Int) * 2 ^ w = ((2 ^ w : Nat) : Int) := by simp
    rw [this]
    generalize (2 : Nat) ^ w = p at p16
    exact i64_id (by omega) (by omega)
  have eS : (w : Int) * ((2 ^ w : Nat) : Int) = ((w * 2 ^ w : Nat) : Int) := by simp
  have eS2 : IntKind.i64.wrap ((w : Int) * ((2 ^ w : Nat) : Int)) = ((w * 2 ^ w : Nat) : Int) := by
    rw [eS]
    exact i64_id (by omega) (by omega)
  simp only [ints1, List.length_cons, List.length_nil, Nat.zero_add] at kl_p
  have hw64 : (0 : Int) ≤ w := by omega
  clear hp hgood hT1 hwl hsub hsub2 hto1 hto2 hr1 hr2 hm1 hm2 h1' hsz p1
  obtain ⟨n, rfl⟩ : ∃ m, n = m + 1 := ⟨n - 1, by omega⟩
  rw [fn_i_FirstTraceOutside]
  simp only [S_i_FirstTraceOutside, Tryd.f53, SLM, simprocAttr]
  simp -implicitDefEqProofs (maxSteps := 2000000) (disch := first | assumption | (refine Shut.mk ?_; kernel_rfl) | omega | (simp only [GT]; done) | (simp only [LN] <;> omega) | fail) only [↓WD, ↓kAsg, ↓kRet, ↓clash_free, ↓WDD, ↓kOpD_callv, WK, UN, TY, LB, MD, i64_id, simprocAttr, ↓CV, ↓kc_i_sameAlphabets, ↓kc_i_lettersOf, ↓kl_i_sameAlphabets, ↓kv_i_sameAlphabets_1, ↓kv_i_sameAlphabets_2, ↓kv_i_sameAlphabets_3, LE, h1, h2, Bool.and_self, decide_true, ↓kc_i_movesOf, hv1, hv2, e1, e3, eS2, bits64, ↓kv_i_firstPath_f, ↓kl_p, Int.toNat_natCast]
theorem kc_i_FirstTraceOutside {R : Type} {L n : Nat} {hq : H} {k : A → H → Option R} (hn : 9 ≤ n) (al st : Int) (l l2 : List Edge) (hl : l.length ≤ 4294967296) (hl2 : l2.length ≤ 4294967296) (h1 : sysOK ⟨al, st, l⟩ = true) (h2 : sysOK ⟨al, st, l2⟩ = true) (hsub : ∀ e ∈ l, e ∈ l2) (hL : 2 ^ 60 ≤ L) : kCall env (evCall env L n) hq 53 [.agg [.d (.int .i64 al), .d (.int .i64 st), .d (.ivs l.length (edgesD l))], .agg [.d (.int .i64 al), .d (.int .i64 st), .d (.ivs l2.length (edgesD l2))]] k = k (.tup [.d (.str []), .d (.bool false)]) hq :=
  kCall_still rfl (ev_i_FirstTraceOutside hn al st l l2 hl hl2 h1 h2 hsub hL) rfl (.inl rfl)
theorem kl_i_FirstTraceOutside {R : Type} {L n : Nat} {k : A → Option R} (hn : 9 ≤ n) (al st : Int) (l l2 : List Edge) (hl : l.length ≤ 4294967296) (hl2 : l2.length ≤ 4294967296) (h1 : sysOK ⟨al, st, l⟩ = true) (h2 : sysOK ⟨al, st, l2⟩ = true) (hsub : ∀ e ∈ l, e ∈ l2) (hL : 2 ^ 60 ≤ L) : kLent (evCall env L n) 53 [.agg [.d (.int .i64 al), .d (.int .i64 st), .d (.ivs l.length (edgesD l))], .agg [.d (.int .i64 al), .d (.int .i64 st), .d (.ivs l2.length (edgesD l2))]] k = k (.tup [.d (.str []), .d (.bool false)]) :=
  kLent_ev (ev_i_FirstTraceOutside hn al st l l2 hl hl2 h1 h2 hsub hL) rfl
theorem kv_i_FirstTraceOutside_1 {R : Type} {L n : Nat} {hq : H} {k : A → H → Option R} {id0 g0 o0 len0 : Nat} {al st : Int} {l2 : List Edge} : kCall env (evCall env L n) hq 53 [.agg [.d (.int .i64 al), .d (.int .i64 st), .sl id0 g0 o0 len0], .agg [.d (.int .i64 al), .d (.int .i64 st), .d (.ivs l2.length (edgesD l2))]] k = match box (lentA hq [.agg [.d (.int .i64 al), .d (.int .i64 st), .sl id0 g0 o0 len0], .agg [.d (.int .i64 al), .d (.int .i64 st), .d (.ivs l2.length (edgesD l2))]]) with
    | .mk (some fs) => kLent (evCall env L n) 53 fs fun r => k r hq
    | _ => none := kCall_lent mode_i_FirstTraceOutside
theorem kv_i_FirstTraceOutside_2 {R : Type} {L n : Nat} {hq : H} {k : A → H → Option R} {id1 g1 o1 len1 : Nat} {al st : Int} {l : List Edge} : kCall env (evCall env L n) hq 53 [.agg [.d (.int .i64 al), .d (.int .i64 st), .d (.ivs l.length (edgesD l))], .agg [.d (.int .i64 al), .d (.int .i64 st), .sl id1 g1 o1 len1]] k = match box (lentA hq [.agg [.d (.int .i64 al), .d (.int .i64 st), .d (.ivs l.length (edgesD l))], .agg [.d (.int .i64 al), .d (.int .i64 st), .sl id1 g1 o1 len1]]) with
    | .mk (some fs) => kLent (evCall env L n) 53 fs fun r => k r hq
    | _ => none := kCall_lent mode_i_FirstTraceOutside
theorem kv_i_FirstTraceOutside_3 {R : Type} {L n : Nat} {hq : H} {k : A → H → Option R} {id1 g1 o1 len1 : Nat} {id0 g0 o0 len0 : Nat} {al st : Int} : kCall env (evCall env L n) hq 53 [.agg [.d (.int .i64 al), .d (.int .i64 st), .sl id0 g0 o0 len0], .agg [.d (.int .i64 al), .d (.int .i64 st), .sl id1 g1 o1 len1]] k = match box (lentA hq [.agg [.d (.int .i64 al), .d (.int .i64 st), .sl id0 g0 o0 len0], .agg [.d (.int .i64 al), .d (.int .i64 st), .sl id1 g1 o1 len1]]) with
    | .mk (some fs) => kLent (evCall env L n) 53 fs fun r => k r hq
    | _ => none := kCall_lent mode_i_FirstTraceOutside

theorem ev_i_TracesWithin {L n : Nat} (hn : 10 ≤ n) (al st : Int) (l l2 : List Edge) (hl : l.length ≤ 4294967296) (hl2 : l2.length ≤ 4294967296) (h1 : sysOK ⟨al, st, l⟩ = true) (h2 : sysOK ⟨al, st, l2⟩ = true) (hsub : ∀ e ∈ l, e ∈ l2) (hL : 2 ^ 60 ≤ L) : evCall env L n 18 [.agg [.d (.int .i64 al), .d (.int .i64 st), .d (.ivs l.length (edgesD l))], .agg [.d (.int .i64 al), .d (.int .i64 st), .d (.ivs l2.length (edgesD l2))]] [] = some (.d (.bool true), []) := by
  obtain ⟨n, rfl⟩ : ∃ m, n = m + 1 := ⟨n - 1, by omega⟩
  rw [fn_i_TracesWithin]
  simp only [S_i_TracesWithin, Tryd.f18, SLM, simprocAttr]
  simp -implicitDefEqProofs (maxSteps := 2000000) (disch := first | assumption | (refine Shut.mk ?_; kernel_rfl) | omega | (simp only [GT]; done) | (simp only [LN] <;> omega) | fail) only [↓WD, ↓kAsg, ↓kRet, ↓clash_free, ↓WDD, ↓kOpD_callv, WK, UN, TY, LB, MD, i64_id, simprocAttr, ↓CV, ↓kc_i_FirstTraceOutside, ↓kc_i_sameAlphabets, ↓kl_i_FirstTraceOutside, ↓kl_i_sameAlphabets, ↓kv_i_FirstTraceOutside_1, ↓kv_i_FirstTraceOutside_2, ↓kv_i_FirstTraceOutside_3, ↓kv_i_sameAlphabets_1, ↓kv_i_sameAlphabets_2, ↓kv_i_sameAlphabets_3, LE, h1, h2, hsub, Bool.and_self, decide_true]
theorem kc_i_TracesWithin {R : Type} {L n : Nat} {hq : H} {k : A → H → Option R} (hn : 10 ≤ n) (al st : Int) (l l2 : List Edge) (hl : l.length ≤ 4294967296) (hl2 : l2.length ≤ 4294967296) (h1 : sysOK ⟨al, st, l⟩ = true) (h2 : sysOK ⟨al, st, l2⟩ = true) (hsub : ∀ e ∈ l, e ∈ l2) (hL : 2 ^ 60 ≤ L) : kCall env (evCall env L n) hq 18 [.agg [.d (.int .i64 al), .d (.int .i64 st), .d (.ivs l.length (edgesD l))], .agg [.d (.int .i64 al), .d (.int .i64 st), .d (.ivs l2.length (edgesD l2))]] k = k (.d (.bool true)) hq :=
  kCall_still rfl (ev_i_TracesWithin hn al st l l2 hl hl2 h1 h2 hsub hL) rfl (.inl rfl)
theorem kl_i_TracesWithin {R : Type} {L n : Nat} {k : A → Option R} (hn : 10 ≤ n) (al st : Int) (l l2 : List Edge) (hl : l.length ≤ 4294967296) (hl2 : l2.length ≤ 4294967296) (h1 : sysOK ⟨al, st, l⟩ = true) (h2 : sysOK ⟨al, st, l2⟩ = true) (hsub : ∀ e ∈ l, e ∈ l2) (hL : 2 ^ 60 ≤ L) : kLent (evCall env L n) 18 [.agg [.d (.int .i64 al), .d (.int .i64 st), .d (.ivs l.length (edgesD l))], .agg [.d (.int .i64 al), .d (.int .i64 st), .d (.ivs l2.length (edgesD l2))]] k = k (.d (.bool true)) :=
  kLent_ev (ev_i_TracesWithin hn al st l l2 hl hl2 h1 h2 hsub hL) rfl
theorem kv_i_TracesWithin_1 {R : Type} {L n : Nat} {hq : H} {k : A → H → Option R} {id0 g0 o0 len0 : Nat} {al st : Int} {l2 : List Edge} : kCall env (evCall env L n) hq 18 [.agg [.d (.int .i64 al), .d (.int .i64 st), .sl id0 g0 o0 len0], .agg [.d (.int .i64 al), .d (.int .i64 st), .d (.ivs l2.length (edgesD l2))]] k = match box (lentA hq [.agg [.d (.int .i64 al), .d (.int .i64 st), .sl id0 g0 o0 len0], .agg [.d (.int .i64 al), .d (.int .i64 st), .d (.ivs l2.length (edgesD l2))]]) with
    | .mk (some fs) => kLent (evCall env L n) 18 fs fun r => k r hq
    | _ => none := kCall_lent mode_i_TracesWithin
theorem kv_i_TracesWithin_2 {R : Type} {L n : Nat} {hq : H} {k : A → H → Option R} {id1 g1 o1 len1 : Nat} {al st : Int} {l : List Edge} : kCall env (evCall env L n) hq 18 [.agg [.d (.int .i64 al), .d (.int .i64 st), .d (.ivs l.length (edgesD l))], .agg [.d (.int .i64 al), .d (.int .i64 st), .sl id1 g1 o1 len1]] k = match box (lentA hq [.agg [.d (.int .i64 al), .d (.int .i64 st), .d (.ivs l.length (edgesD l))], .agg [.d (.int .i64 al), .d (.int .i64 st), .sl id1 g1 o1 len1]]) with
    | .mk (some fs) => kLent (evCall env L n) 18 fs fun r => k r hq
    | _ => none := kCall_lent mode_i_TracesWithin
theorem kv_i_TracesWithin_3 {R : Type} {L n : Nat} {hq : H} {k : A → H → Option R} {id1 g1 o1 len1 : Nat} {id0 g0 o0 len0 : Nat} {al st : Int} : kCall env (evCall env L n) hq 18 [.agg [.d (.int .i64 al), .d (.int .i64 st), .sl id0 g0 o0 len0], .agg [.d (.int .i64 al), .d (.int .i64 st), .sl id1 g1 o1 len1]] k = match box (lentA hq [.agg [.d (.int .i64 al), .d (.int .i64 st), .sl id0 g0 o0 len0], .agg [.d (.int .i64 al), .d (.int .i64 st), .sl id1 g1 o1 len1]]) with
    | .mk (some fs) => kLent (evCall env L n) 18 fs fun r => k r hq
    | _ => none := kCall_lent mode_i_TracesWithin

end Ev
end Go.Proofs.YtojaohcpgelhmaaDoor
end

/-!
  An edge that was added is found, and dropped again: plain laws.
-/
section
set_option linter.unusedSimpArgs false
set_option linter.unusedVariables false
namespace Go.Proofs.YtojaohcpgelhmaaDoor
namespace Ev

theorem putE_get {l : List Edge} {p : Nat} {e : Edge} (h : p ≤ l.length) : (putE l p e).getD p default = e := by
  unfold putE
  rw [List.getD_eq_getElem?_getD, List.getElem?_append_right (by rw [List.length_take]; omega), List.length_take, show p - min p l.length = 0 by omega]
  rfl

theorem putE_drop {l : List Edge} {p : Nat} {e : Edge} (h : p ≤ l.length) : (putE l p e).take p ++ (putE l p e).drop (p + 1) = l := by
  have hl : (l.take p).length = p := by rw [List.length_take]; omega
  unfold putE
  rw [List.take_append_of_le_length (by omega), List.take_of_length_le (by omega), List.drop_append, hl, List.drop_of_length_le (by omega), show p + 1 - p = 1 by omega]
  simp

theorem putE_hit {l : List Edge} {e : Edge} (h : SortedE l) (hh : hitE l e = false) : bsE (putE l (bsE l e) e) e = bsE l e ∧ hitE (putE l (bsE l e) e) e = true := by
  have hp := bsE_le (l := l) (e := e)
  have hs := put_sorted h hh
  have hg := putE_get (e := e) hp
  have hlen := putE_len (e := e) hp
  obtain ⟨s1, s2⟩ := bsE_spec hs e
  generalize putE l (bsE l e) e = l2 at *
  generalize bsE l e = p at *
  have hb : bsE l2 e = p := by
    rcases Nat.lt_trichotomy (bsE l2 e) p with hlt | heq | hgt
    · have h1 := sorted_get hs hlt (by omega)
      rw [hg] at h1
      have h2 := s2 (bsE l2 e) (Nat.le_refl _) (by omega)
      rw [h1] at h2; cases h2
    · exact heq
    · have h1 := s1 p hgt
      rw [hg, beforeE_irrefl] at h1; cases h1
  refine ⟨hb, ?_⟩
  unfold hitE
  rw [hb, hg]
  simp
  omega

/-- What is so of an edge that was added. -/
theorem add_facts {al st : Int} {l : List Edge} {e : Edge} {s2 : Sys} (h : addS ⟨al, st, l⟩ e = some s2) :
    ∃ l2, s2 = ⟨al, st, l2⟩ ∧ sysOK ⟨al, st, l⟩ = true ∧ sysOK ⟨al, st, l2⟩ = true ∧ dropI ⟨al, st, l2⟩ e = some ⟨al, st, l⟩ ∧ addS ⟨al, st, l2⟩ e = none ∧ (∀ x ∈ l, x ∈ l2) ∧ l2.length = l.length + 1 := by
  rw [← add_same] at h
  unfold addI at h
  split at h
  · rename_i hc
    simp only [Bool.and_eq_true, Bool.not_eq_true'] at hc
    obtain ⟨⟨h1, h2⟩, h3⟩ := hc
    cases h
    have hs : SortedE l := sysOK_sorted h1
    have hp := bsE_le (l := l) (e := e)
    obtain ⟨k1, k2⟩ := putE_hit hs h2
    have k3 := putE_drop (e := e) hp
    refine ⟨_, rfl, h1, h3, ?_, ?_, ?_, putE_len hp⟩
    · unfold dropI
      simp only [h3, k2, k1, k3, Bool.and_self, if_true]
    · rw [← add_same]
      unfold addI
      simp only [h3, k2, Bool.not_true, Bool.and_false, Bool.false_and, Bool.false_eq_true, if_false]
    · intro x hx
      unfold putE
      rw [← List.take_append_drop (bsE l e) l] at hx
      rcases List.mem_append.1 hx with hx | hx
      · exact List.mem_append_left _ hx
      · exact List.mem_append_right _ (List.mem_cons_of_mem _ hx)
  · cases h

end Ev
end Go.Proofs.YtojaohcpgelhmaaDoor
end

/-!
  The law: a system with an edge more has all its traces, and dropping the edge leads back.
-/
section
set_option linter.unusedSimpArgs false
set_option linter.unusedVariables false
set_option maxRecDepth 8000
set_option pp.maxSteps 6000
set_option maxHeartbeats 4000000
namespace Go.Proofs.YtojaohcpgelhmaaDoor
namespace Ev

theorem ev_FnAddEdge {L n : Nat} (hn : 30 ≤ n) (c : List UInt8) (hL : 2 ^ 60 ≤ L) : evCall env L n 4 [.d (.ivs c.length (bytesL c))] [] = some (.d (.bool true), []) := by
  by_cases hs : (1048576 : Int) < c.length
  · obtain ⟨n, rfl⟩ : ∃ m, n = m + 1 := ⟨n - 1, by omega⟩
    rw [fn_FnAddEdge]
    simp only [S_FnAddEdge, Tryd.f4, SLM, simprocAttr]
    simp -implicitDefEqProofs (maxSteps := 2000000) (disch := first | assumption | (refine Shut.mk ?_; kernel_rfl) | omega | (simp only [GT]; done) | (simp only [LN] <;> omega) | fail) only [↓WD, ↓kAsg, ↓kRet, ↓clash_free, ↓WDD, ↓kOpD_callv, WK, UN, TY, LB, MD, i64_id, simprocAttr, ↓CV, ↓kc_i_AddEdge, ↓kc_s_AddEdge, ↓kc_agSystems, ↓kc_i_DropEdge, ↓kc_i_SystemValid, ↓kc_i_TracesWithin, ↓kl_agSystems, ↓kl_i_SystemValid, ↓kl_i_TracesWithin, ↓kv_agSystems_1, ↓kv_agSystems_2, ↓kv_agSystems_3, ↓kv_i_SystemValid_1, ↓kv_i_TracesWithin_1, ↓kv_i_TracesWithin_2, ↓kv_i_TracesWithin_3, hs]
  · obtain ⟨al, st, l, a, b, d, hl, kd⟩ := ex_DrawAddEdge c (by omega)
    have hl1 : l.length ≤ 4294967290 := by omega
    have hl2 : l.length ≤ 4294967296 := by omega
    cases hd : addS ⟨al, st, l⟩ ⟨a, b, d⟩ with
    | none =>
      obtain ⟨n, rfl⟩ : ∃ m, n = m + 1 := ⟨n - 1, by omega⟩
      rw [fn_FnAddEdge]
      simp only [S_FnAddEdge, Tryd.f4, SLM, simprocAttr]
      simp -implicitDefEqProofs (maxSteps := 2000000) (disch := first | assumption | (refine Shut.mk ?_; kernel_rfl) | omega | (simp only [GT]; done) | (simp only [LN] <;> omega) | fail) only [↓WD, ↓kAsg, ↓kRet, ↓clash_free, ↓WDD, ↓kOpD_callv, WK, UN, TY, LB, MD, i64_id, simprocAttr, ↓CV, ↓kc_i_AddEdge, ↓kc_s_AddEdge, ↓kc_agSystems, ↓kc_i_DropEdge, ↓kc_i_SystemValid, ↓kc_i_TracesWithin, ↓kl_agSystems, ↓kl_i_SystemValid, ↓kl_i_TracesWithin, ↓kv_agSystems_1, ↓kv_agSystems_2, ↓kv_agSystems_3, ↓kv_i_SystemValid_1, ↓kv_i_TracesWithin_1, ↓kv_i_TracesWithin_2, ↓kv_i_TracesWithin_3, LE, hs, ↓kd, ↓kc_i_AddEdge_d, ↓kv_agSystems_any, ↓kl_agSystems_nil, hd, oS_none, oZ_none, edgesD_nil]
    | some s2 =>
      obtain ⟨l2, rfl, hv, hv2, hdr, hag, hsub, hlen⟩ := add_facts hd
      have hl3 : l2.length ≤ 4294967290 := by omega
      have hl4 : l2.length ≤ 4294967296 := by omega
      have hle : (l2.length : Int) = (l.length : Int) + 1 := by omega
      clear hlen
      by_cases h8 : (8 : Int) < st
      · obtain ⟨n, rfl⟩ : ∃ m, n = m + 1 := ⟨n - 1, by omega⟩
        rw [fn_FnAddEdge]
        simp only [S_FnAddEdge, Tryd.f4, SLM, simprocAttr]
        simp -implicitDefEqProofs (maxSteps := 2000000) (disch := first | assumption | (refine Shut.mk ?_; kernel_rfl) | omega | (simp only [GT]; done) | (simp only [LN] <;> omega) | fail) only [↓WD, ↓kAsg, ↓kRet, ↓clash_free, ↓WDD, ↓kOpD_callv, WK, UN, TY, LB, MD, i64_id, simprocAttr, ↓CV, ↓kc_s_AddEdge, ↓kc_agSystems, ↓kc_i_SystemValid, ↓kc_i_TracesWithin, ↓kl_agSystems, ↓kl_i_SystemValid, ↓kl_i_TracesWithin, ↓kv_agSystems_1, ↓kv_agSystems_2, ↓kv_agSystems_3, ↓kv_i_SystemValid_1, ↓kv_i_TracesWithin_1, ↓kv_i_TracesWithin_2, ↓kv_i_TracesWithin_3, LE, hs, ↓kd, ↓kc_i_AddEdge_d, ↓kc_i_AddEdge, ↓kc_i_DropEdge, ↓kv_agSystems_any, ↓kl_agSystems_nil, hd, hdr, hag, hv, hv2, oS_none, oZ_none, oS_some, oZ_some, edgesD_nil, h8, hle]
      · obtain ⟨n, rfl⟩ : ∃ m, n = m + 1 := ⟨n - 1, by omega⟩
        rw [fn_FnAddEdge]
        simp only [S_FnAddEdge, Tryd.f4, SLM, simprocAttr]
        simp -implicitDefEqProofs (maxSteps := 2000000) (disch := first | assumption | (refine Shut.mk ?_; kernel_rfl) | omega | (simp only [GT]; done) | (simp only [LN] <;> omega) | fail) only [↓WD, ↓kAsg, ↓kRet, ↓clash_free, ↓WDD, ↓kOpD_callv, WK, UN, TY, LB, MD, i64_id, simprocAttr, ↓CV, ↓kc_s_AddEdge, ↓kc_agSystems, ↓kc_i_SystemValid, ↓kc_i_TracesWithin, ↓kl_agSystems, ↓kl_i_SystemValid, ↓kl_i_TracesWithin, ↓kv_agSystems_1, ↓kv_agSystems_2, ↓kv_agSystems_3, ↓kv_i_SystemValid_1, ↓kv_i_TracesWithin_1, ↓kv_i_TracesWithin_2, ↓kv_i_TracesWithin_3, LE, hs, ↓kd, ↓kc_i_AddEdge_d, ↓kc_i_AddEdge, ↓kc_i_DropEdge, ↓kv_agSystems_any, ↓kl_agSystems_nil, hd, hdr, hag, hv, hv2, oS_none, oZ_none, oS_some, oZ_some, edgesD_nil, h8, hle]

end Ev
end Go.Proofs.YtojaohcpgelhmaaDoor
end
