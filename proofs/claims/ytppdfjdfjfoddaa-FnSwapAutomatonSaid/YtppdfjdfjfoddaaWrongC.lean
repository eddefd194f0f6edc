/-
  Automata that are drawn: a copy that is not valid: too many states.
-/
import Derived.Test.YtppdfjdfjfoddaaWrongB
import Derived.Test.YtppdfjdfjfoddaaShWr
set_option linter.unusedSimpArgs false
set_option linter.unusedVariables false
set_option maxRecDepth 8000
set_option pp.maxSteps 6000
set_option maxHeartbeats 4000000
namespace Go.Proofs.Ytppdfjdfjfoddaa
namespace Ev
theorem gc_wrE2 {m : List Bool} {s : List A} {y1 y2 x0 x1 : D} {k z : Nat} {r : List Int} {cs : List D} {d : List (List Int)} {p : H} (hl : d.length ≤ 4294967296) : gc 1 m s (.box [.d y1, .d y2] :: .box [.d x0, .sl 3 0 0 0, .sl 4 0 0 0] :: .box [.d x1, .sl 5 1 0 k, .sl 6 1 0 z] :: .arr [] 0 0 :: .arr [] 0 0 :: .vec (refsV 7 d ++ [.sl (d.length + 7) 1 0 r.length]) 1 1 :: .arr cs 1 1 :: (rowsO d ++ .arr (ints r) 1 1 :: p)) = match box (tidy m s) with
  | .mk s1 => if idsL s1 = [1, 2] then (s1, .box [.d y1, .d y2] :: .box [.d x0, .sl 3 0 0 0, .sl 4 0 0 0] :: .box [.d x1, .sl 5 0 0 k, .sl 6 0 0 z] :: .arr [] 0 0 :: .arr [] 0 0 :: .vec (refsV 7 (d ++ [r]) ++ nilsA 0) 1 0 :: .arr cs 1 0 :: rowsO (d ++ [r])) else gcO 1 m s (.box [.d y1, .d y2] :: .box [.d x0, .sl 3 0 0 0, .sl 4 0 0 0] :: .box [.d x1, .sl 5 1 0 k, .sl 6 1 0 z] :: .arr [] 0 0 :: .arr [] 0 0 :: .vec (refsV 7 d ++ [.sl (d.length + 7) 1 0 r.length]) 1 1 :: .arr cs 1 1 :: (rowsO d ++ .arr (ints r) 1 1 :: p))
  | .no => ([], []) := by
 have hn : nilsA 0 = [] := rfl
 rw [gc_wrE10 hl, ← rowsO_snocI, refsV_snoc, hn, List.append_nil, Nat.add_comm 7]
 have hc := calmAs_box (nf := 0) (h := .box [.d y1, .d y2] :: .box [.d x0, .sl 3 0 0 0, .sl 4 0 0 0] :: .box [.d x1, .sl 5 1 0 k, .sl 6 1 0 z] :: .arr [] 0 0 :: .arr [] 0 0 :: .vec (refsV 7 d ++ [.sl (d.length + 7) 1 0 r.length]) 1 1 :: .arr cs 1 1 :: (rowsO d ++ [.arr (ints r) 1 1])) (tidy m s)
 simp only [box]
 split
 ·rename_i hid
  rw [hc (by rw [hid]; intro i hi; simp at hi; rcases hi with rfl | rfl <;> rfl)]
 ·rfl
theorem rep_snoc {α : Type} {d : List α} {x : α} {j : Nat} : d ++ [x] ++ List.replicate j x = d ++ List.replicate (j + 1) x := by
 rw [List.append_assoc, List.replicate_succ]
 rfl
theorem xm3 {R : Type} {L n : Nat} {y1 y2 x0 : D} {al n0 : Int} (hn0 : 0 < n0) {row : List Int} (hrl : row.length ≤ 4294967290) {k : Exit → List A → H → Option R} : ∀ (j m : Nat) (d : List (List Int)) (ac : List Bool) (len len2 : Nat) (hj : d.length + j = 13 ∨ j = 0 ∧ 13 ≤ d.length) (hm : j < m) (hd : d[0]? = some row) (hlen : len = d.length) (hlen2 : len2 = ac.length) (ha : ac.length + j ≤ 4294967290) (hdl : d.length ≤ 4294967290),
  kLoop env (evCall env L n) L 1 [0, 0, 0, 0, 0, 0, 0, 0, 0, 0, 0, 0, 0, 0, 0, 0, 0, 0, 0, 0, 0, 0, 0, 0, 0, 0, 0, 0, 0, 0, 0, 0, 0, 0, 0, 0, 0, 0, 0, 0, 0, 0, 0, 0, 0, 0, 0, 0, 0, 0, 0, 0, 0, 0, 0, 0, 0, 0, 0, 0, 0, 0, 0, 0, 0, 0, 0, 0, 0, 0, 0, 0, 0, 0, 0, 0, 0, 0, 0, 0, 0, 0, 0, 1002, 0, 0, 0, 0, 0, 0, 0, 0, 0, 0, 0, 0, 0, 0, 0, 0, 0, 0, 0, 0, 0, 1002] (Z4 (U2 (U1 (Z32 (Z32 (Z32 (Z8 (Z2 (Z1 ([])))))))))) (x7n 0) (U4 (Z2 (Z1 (U32 (U32 (U32 (U8 (U2 (U1 ([])))))))))) m (Y4 (.ptr 1 0 0 :: .ptr 2 0 0 :: .d (.int .i64 n0) :: Y32 (Y32 (Y32 (Y8 (Y2 (Y1 ([])))))))) (.box [.d y1, .d y2] :: .box [.d x0, .sl 3 0 0 0, .sl 4 0 0 0] :: .box [.d (.int .i64 al), .sl 5 0 0 len, .sl 6 0 0 len2] :: .arr [] 0 0 :: .arr [] 0 0 :: .vec (refsV 7 d ++ nilsA 0) 1 0 :: .arr (bools ac) 1 0 :: rowsO d) k
  = k (.exit 1) (Y4 (.ptr 1 0 0 :: .ptr 2 0 0 :: .d (.int .i64 n0) :: Y32 (Y32 (Y32 (Y8 (Y2 (Y1 ([])))))))) (.box [.d y1, .d y2] :: .box [.d x0, .sl 3 0 0 0, .sl 4 0 0 0] :: .box [.d (.int .i64 al), .sl 5 0 0 (d.length + j), .sl 6 0 0 (ac.length + j)] :: .arr [] 0 0 :: .arr [] 0 0 :: .vec (refsV 7 (d ++ List.replicate j row) ++ nilsA 0) 1 0 :: .arr (bools (ac ++ List.replicate j false)) 1 0 :: rowsO (d ++ List.replicate j row)) := by
 intro j
 induction j with
 | zero =>
  intro m d ac len len2 hj hm hd hlen hlen2 ha hdl
  obtain ⟨m, rfl⟩ : ∃ q, m = q + 1 := ⟨m - 1, by omega⟩
  have hc : ¬ ((d.length : Int) ≤ 12) := by omega
  have hdl2 : d.length ≤ 4294967296 := by omega
  subst hlen
  subst hlen2
  simp only [List.replicate_zero, List.append_nil, Nat.add_zero]
  rw [xdr]
  simp only [xcs, Try.f76, SLM, simprocAttr]
  simp -implicitDefEqProofs (maxSteps := 2000000) (disch := first | assumption | (refine Shut.mk ?_; kernel_rfl) | omega | (simp only [GT]; done) | (simp only [LN] <;> omega) | fail) only [↓DN, ↓kAsg, ↓kRet, UP, simprocAttr, LA, hn0, hc, ↓gc_sfB1, z0As, z0A, eq_self, ren_sfB_1, ren_sfB_2]
 | succ j ih =>
  intro m d ac len len2 hj hm hd hlen hlen2 ha hdl
  obtain ⟨m, rfl⟩ : ∃ q, m = q + 1 := ⟨m - 1, by omega⟩
  have hc : (d.length : Int) ≤ 12 := by omega
  subst hlen
  subst hlen2
  have hpos : 0 < d.length := (List.getElem?_eq_some_iff.1 hd).1
  have ih' := ih m (d ++ [row]) (ac ++ [false]) (d.length + 1) (ac.length + 1) (by simp; omega) (by omega) (by rw [List.getElem?_append_left hpos]; exact hd) (by simp) (by simp) (by simp; omega) (by simp; omega)
  rw [rep_snoc, rep_snoc] at ih'
  simp only [List.length_append, List.length_cons, List.length_nil, Nat.zero_add] at ih'
  rw [show d.length + 1 + j = d.length + (j + 1) by omega, show ac.length + 1 + j = ac.length + (j + 1) by omega] at ih'
  clear ih
  have hh0 : (refsV 7 d ++ nilsA 0).head? = some (.sl 7 0 0 row.length) := by
   cases d with
   | nil => simp at hd
   | cons r d => simp at hd; subst hd; rfl
  have hlv : (refsV 7 d ++ nilsA 0).length = d.length := by rw [List.length_append, refsV_len]; rfl
  have ht : (refsV 7 d ++ nilsA 0).take d.length = refsV 7 d := refs_takeN rfl
  obtain ⟨T0, e0⟩ : ∃ T : H, T = (.box [.d x0, .sl 3 0 0 0, .sl 4 0 0 0] :: .box [.d (.int .i64 al), .sl 5 0 0 d.length, .sl 6 0 0 ac.length] :: .arr [] 0 0 :: .arr [] 0 0 :: .vec (refsV 7 d ++ nilsA 0) 1 0 :: .arr (bools ac) 1 0 :: rowsO d) := ⟨_, rfl⟩
  have l0 : T0.length = d.length + 6 := by rw [e0]; simp [rowsO_len]
  have t01 : T0[1]? = some (.box [.d (.int .i64 al), .sl 5 0 0 d.length, .sl 6 0 0 ac.length]) := by rw [e0]; rfl
  have t04 : T0[4]? = some (.vec (refsV 7 d ++ nilsA 0) 1 0) := by rw [e0]; rfl
  have t05 : T0[5]? = some (.arr (bools ac) 1 0) := by rw [e0]; rfl
  have t0r : ∀ (i : Nat) (r : List Int), d[i]? = some r → T0[i + 6]? = some (.arr (ints r) 1 0) := by
   intro i r hr
   rw [e0]
   simp only [List.getElem?_cons_succ]
   have := rows_in (p := []) hr
   rwa [List.append_nil] at this
  have w0 : wgt T0 ≤ d.length + 4 := by
   rw [e0]
   simp only [wgt_one, wgt_rows, kidsO, idsL, idsA, idsL_app, refsV_ids, idsL_nils, List.length_append, List.length_range', List.length_cons, List.length_nil, List.append_nil]
   omega
  obtain ⟨T1, h1⟩ : ∃ T, T0 ++ [.arr [] 1 0] = T := ⟨_, rfl⟩
  obtain ⟨l1, g1, k1⟩ := app_facts h1
  rw [l0] at l1 g1 k1
  have w1 : wgt T1 = wgt T0 := by rw [← h1, wgt_snoc]; simp [kidsO]
  obtain ⟨T2, h2⟩ : ∃ T, T1.set (d.length + 6) (.arr (ints row) 1 1) = T := ⟨_, rfl⟩
  obtain ⟨l2, g2, k2⟩ := set_facts h2 (by omega)
  have w2 : wgt T2 ≤ wgt T1 := by rw [← h2]; have := wgt_set_kids (h := T1) (i := d.length + 6) (o := .arr (ints row) 1 1); simpa [kidsO] using this
  obtain ⟨T3, h3⟩ : ∃ T, T2 ++ [.vec [.sl (d.length + 7) 1 0 row.length] 1 0] = T := ⟨_, rfl⟩
  obtain ⟨l3, g3, k3⟩ := app_facts h3
  rw [l2, l1] at l3 g3 k3
  have w3 : wgt T3 = wgt T2 + 1 := by rw [← h3, wgt_snoc]; simp [kidsO, idsL, idsA]
  obtain ⟨T4, h4⟩ : ∃ T, T3.set 4 (.vec (refsV 7 d ++ [.sl (d.length + 7) 1 0 row.length]) 1 1) = T := ⟨_, rfl⟩
  obtain ⟨l4, g4, k4⟩ := set_facts h4 (by omega)
  have w4 : wgt T4 ≤ wgt T3 + d.length + 1 := by
   rw [← h4]
   have := wgt_set_kids (h := T3) (i := 4) (o := .vec (refsV 7 d ++ [.sl (d.length + 7) 1 0 row.length]) 1 1)
   simp only [kidsO, idsL_app, refsV_ids, idsL, idsA, List.length_append, List.length_range', List.length_cons, List.length_nil] at this
   omega
  obtain ⟨T5, h5⟩ : ∃ T, T4.set 1 (.box [.d (.int .i64 al), .sl 5 1 0 (d.length + 1), .sl 6 0 0 ac.length]) = T := ⟨_, rfl⟩
  obtain ⟨l5, g5, k5⟩ := set_facts h5 (by omega)
  obtain ⟨T6, h6⟩ : ∃ T, T5 ++ [.arr [.bool false] 1 0] = T := ⟨_, rfl⟩
  obtain ⟨l6, g6, k6⟩ := app_facts h6
  rw [l5, l4, l3] at l6 g6 k6
  obtain ⟨T7, h7⟩ : ∃ T, T6.set 5 (.arr (bools (ac ++ [false])) 1 1) = T := ⟨_, rfl⟩
  obtain ⟨l7, g7, k7⟩ := set_facts h7 (by omega)
  obtain ⟨T8, h8⟩ : ∃ T, T7.set 1 (.box [.d (.int .i64 al), .sl 5 1 0 (d.length + 1), .sl 6 1 0 (ac.length + 1)]) = T := ⟨_, rfl⟩
  have e8 : T8 = .box [.d x0, .sl 3 0 0 0, .sl 4 0 0 0] :: .box [.d (.int .i64 al), .sl 5 1 0 (d.length + 1), .sl 6 1 0 (ac.length + 1)] :: .arr [] 0 0 :: .arr [] 0 0 :: .vec (refsV 7 d ++ [.sl (d.length + 7) 1 0 row.length]) 1 1 :: .arr (bools (ac ++ [false])) 1 1 :: (rowsO d ++ .arr (ints row) 1 1 :: .vec [.sl (d.length + 7) 1 0 row.length] 1 0 :: [.arr [.bool false] 1 0]) := by
   rw [← h8, ← h7, ← h6, ← h5, ← h4, ← h3, ← h2, ← h1, e0]
   simp only [List.cons_append, List.append_assoc, List.nil_append, List.set_cons_succ, List.set_cons_zero]
   rw [rows_set_at rfl]
   simp only [List.cons_append, List.append_assoc, List.nil_append]
  have st_gc : ∀ {mk : List Bool} {s : List A}, gc 1 mk s (.box [.d y1, .d y2] :: T8) = match box (tidy mk s) with
    | .mk s1 => if idsL s1 = [1, 2] then (s1, .box [.d y1, .d y2] :: .box [.d x0, .sl 3 0 0 0, .sl 4 0 0 0] :: .box [.d (.int .i64 al), .sl 5 0 0 (d.length + 1), .sl 6 0 0 (ac.length + 1)] :: .arr [] 0 0 :: .arr [] 0 0 :: .vec (refsV 7 (d ++ [row]) ++ nilsA 0) 1 0 :: .arr (bools (ac ++ [false])) 1 0 :: rowsO (d ++ [row])) else gcO 1 mk s (.box [.d y1, .d y2] :: T8)
    | .no => ([], []) := by
   intro mk s
   rw [e8]
   exact gc_wrE2 (by omega)
  have st_app1 : ∀ {call : CallF} {thaw : List Nat} {dst : Option Tmp} {args : Array Operand}, memD env call thaw dst (.call ⟨.builtin .append, args, #[60, 60]⟩) (.box [.d y1, .d y2] :: T1) [.sl (d.length + 6 + 1) 0 0 0, .sl 7 0 0 row.length] = some (.sl (d.length + 7) 1 0 row.length, .box [.d y1, .d y2] :: T2, { ids := [d.length + 7, 7], ro := false, wr := [d.length + 7] }) := by
   intro call thaw dst args
   have h7r : T1[6]? = some (.arr (ints row) 1 0) := by rw [k1 _ (by omega)]; exact t0r 0 row hd
   rw [memD_appA (e := 3) (e0 := 1) (n2 := row.length) (len := 0) (cs := []) (src := ints row) rfl c_int (by kernel_rfl) (by rw [List.getElem?_cons_succ]; exact g1) (.inr rfl) (by rw [List.getElem?_cons_succ]; exact h7r) (by simp [ints]) (by simp) (by unfold maxNeed; omega) (by omega)]
   rw [List.set_cons_succ, ← h2]
   simp
  have st_vec : ∀ {call : CallF} {thaw : List Nat} {dst : Option Tmp} {x : Operand}, Shut (keeps thaw dst = true) → memD env call thaw dst (.buildSlice 23 1 #[(0, x)]) (.box [.d y1, .d y2] :: T2) [.sl (d.length + 7) 1 0 row.length] = some (.sl (d.length + 8) 0 0 1, .box [.d y1, .d y2] :: T3, { ids := [d.length + 7, d.length + 8], ro := false }) := by
   intro call thaw dst x hk
   rw [memD_vec1 (e := 60) (cs := ints row) (es := 1) hk.it rfl (by kernel_rfl) c_ints (by kernel_rfl) (by rw [show d.length + 7 = d.length + 6 + 1 by omega, List.getElem?_cons_succ]; exact g2)]
   rw [List.cons_append, h3, List.length_cons, l2, l1]
  have ok_row : ∀ (T : H) (i : Nat) (r : List Int) (g : Nat), T[i + 6]? = some (.arr (ints r) 1 g) → Okay (.box [.d y1, .d y2] :: T) (i + 7) := by
   intro T i r g hr
   have hg : (O.box [.d y1, .d y2] :: T)[i + 7]? = some (.arr (ints r) 1 g) := by rw [show i + 7 = i + 6 + 1 by omega, List.getElem?_cons_succ]; exact hr
   exact .mk _ _ hg (by simp) (by rw [kids_row hg]; simp)
  have t3r : ∀ (i : Nat) (r : List Int), d[i]? = some r → T3[i + 6]? = some (.arr (ints r) 1 0) := by
   intro i r hr
   have hi : i < d.length := (List.getElem?_eq_some_iff.1 hr).1
   rw [k3 _ (by omega), k2 _ (by omega), k1 _ (by omega)]
   exact t0r i r hr
  have t3e : T3[d.length + 6]? = some (.arr (ints row) 1 1) := by rw [k3 _ (by omega)]; exact g2
  have t34 : T3[4]? = some (.vec (refsV 7 d ++ nilsA 0) 1 0) := by rw [k3 _ (by omega), k2 _ (by omega), k1 _ (by omega), t04]
  have g3' : T3[d.length + 7]? = some (.vec [.sl (d.length + 7) 1 0 row.length] 1 0) := g3
  have ok35 : Okay (.box [.d y1, .d y2] :: T3) 5 := by
   have hg : (O.box [.d y1, .d y2] :: T3)[5]? = some (.vec (refsV 7 d ++ nilsA 0) 1 0) := t34
   refine .mk _ _ hg (by simp) ?_
   intro q hq
   have : kids (.box [.d y1, .d y2] :: T3) 5 = List.range' 7 d.length := by simp only [kids, hg, idsL_app, refsV_ids, idsL_nils, List.append_nil]
   rw [this, List.mem_range'_1] at hq
   obtain ⟨z, rfl⟩ : ∃ z, q = z + 7 := ⟨q - 7, by omega⟩
   exact ok_row T3 z (d[z]'(by omega)) 0 (t3r _ _ (List.getElem?_eq_getElem _))
  have ok3e : Okay (.box [.d y1, .d y2] :: T3) (d.length + 8) := by
   have hg : (O.box [.d y1, .d y2] :: T3)[d.length + 8]? = some (.vec [.sl (d.length + 7) 1 0 row.length] 1 0) := g3'
   refine .mk _ _ hg (by simp) ?_
   intro q hq
   have : kids (.box [.d y1, .d y2] :: T3) (d.length + 8) = [d.length + 7] := by simp [kids, hg, idsL, idsA]
   rw [this] at hq
   simp at hq; subst hq
   exact ok_row T3 d.length row 1 t3e
  obtain ⟨o1, ho1⟩ : ∃ o, o = reach fuelR (.box [.d y1, .d y2] :: T3) [5, d.length + 8] [] := ⟨_, rfl⟩
  have st_app2 : ∀ {call : CallF} {thaw : List Nat} {dst : Option Tmp} {args : Array Operand}, memD env call thaw dst (.call ⟨.builtin .append, args, #[23, 23]⟩) (.box [.d y1, .d y2] :: T3) [.sl 5 0 0 d.length, .sl (d.length + 8) 0 0 1] = some (.sl 5 1 0 (d.length + 1), .box [.d y1, .d y2] :: T4, { ids := o1, ro := false, wr := [5] }) := by
   intro call thaw dst args
   rw [memD_appV (e := 60) rfl c_ints (by kernel_rfl) (id := 5) (id2 := d.length + 8) (g := 0) (g2 := 0) (len := d.length) (cs := refsV 7 d ++ nilsA 0) (c := .sl (d.length + 7) 1 0 row.length) t34 g3' (by omega) (by unfold maxNeed; omega) ok35 ok3e (by rw [wgt_one]; simp only [kidsO, idsL, idsA, List.nil_append, List.length_nil]; omega), ← ho1, ht]
   rw [List.set_cons_succ, h4]
  have t41 : T4[1]? = some (.box [.d (.int .i64 al), .sl 5 0 0 d.length, .sl 6 0 0 ac.length]) := by rw [k4 _ (by omega), k3 _ (by omega), k2 _ (by omega), k1 _ (by omega), t01]
  have t45 : T4[5]? = some (.arr (bools ac) 1 0) := by rw [k4 _ (by omega), k3 _ (by omega), k2 _ (by omega), k1 _ (by omega), t05]
  have ok45 : Okay (.box [.d y1, .d y2] :: T4) 5 := by
   have hg : (O.box [.d y1, .d y2] :: T4)[5]? = some (.vec (refsV 7 d ++ [.sl (d.length + 7) 1 0 row.length]) 1 1) := g4
   refine .mk _ _ hg (by simp) ?_
   intro q hq
   have : kids (.box [.d y1, .d y2] :: T4) 5 = List.range' 7 d.length ++ [d.length + 7] := by simp only [kids, hg, idsL_app, refsV_ids, idsL, idsA, List.append_nil]
   rw [this, List.mem_append, List.mem_range'_1] at hq
   rcases hq with hq | hq
   ·obtain ⟨z, rfl⟩ : ∃ z, q = z + 7 := ⟨q - 7, by omega⟩
    exact ok_row T4 z (d[z]'(by omega)) 0 (by rw [k4 _ (by omega)]; exact t3r _ _ (List.getElem?_eq_getElem _))
   ·simp at hq; subst hq
    exact ok_row T4 d.length row 1 (by rw [k4 _ (by omega)]; exact t3e)
  have ok46 : Okay (.box [.d y1, .d y2] :: T4) 6 := by
   have hg : (O.box [.d y1, .d y2] :: T4)[6]? = some (.arr (bools ac) 1 0) := t45
   exact .mk _ _ hg (by simp) (by rw [kids_row hg]; simp)
  have ok42 : Okay (.box [.d y1, .d y2] :: T4) 2 := by
   have hg : (O.box [.d y1, .d y2] :: T4)[2]? = some (.box [.d (.int .i64 al), .sl 5 0 0 d.length, .sl 6 0 0 ac.length]) := t41
   refine .mk _ _ hg (by simp) ?_
   intro q hq
   have : kids (.box [.d y1, .d y2] :: T4) 2 = [5, 6] := by simp [kids, hg, idsL, idsA]
   rw [this] at hq
   simp at hq
   rcases hq with rfl | rfl
   ·exact ok45
   ·exact ok46
  obtain ⟨o2, ho2⟩ : ∃ o, o = reach fuelR (.box [.d y1, .d y2] :: T4) [2, 5] [] := ⟨_, rfl⟩
  have st_sto : ∀ {call : CallF} {thaw : List Nat} {dst : Option Tmp} {x y : Operand}, memD env call thaw dst (.store 23 x y) (.box [.d y1, .d y2] :: T4) [.ptr 2 0 1, .sl 5 1 0 (d.length + 1)] = some (.d .undef, .box [.d y1, .d y2] :: T5, { ids := o2, ro := false, wr := o2 }) := by
   intro call thaw dst x y
   rw [memD_storeS (by kernel_rfl) (by kernel_rfl) (h := .box [.d y1, .d y2] :: T4) (id := 2) (id2 := 5) (off := 1) (cs := [.d (.int .i64 al), .sl 5 0 0 d.length, .sl 6 0 0 ac.length]) t41 (by simp) ok42 ok45 (by rw [wgt_one]; simp only [kidsO, idsL, idsA, List.nil_append, List.length_nil]; omega), ← ho2]
   rw [List.set_cons_succ]
   unfold setRun
   rw [← h5]
   rfl
  have hclash : ∀ (ops : List Oper), mostlyFree [(1, 2), (2, 4), (2, 5), (2, 6), (1, 7), (1, 8)] ops [{}, { ids := [2], ro := true }, { ids := [d.length + 6 + 1], ro := false }, {}, { ids := [2], ro := true }, { ids := [5], ro := true }, { ids := [5], ro := true }, { ids := [d.length + 7, 7], ro := false, wr := [d.length + 7] }, { ids := [d.length + 7, d.length + 8], ro := false }, { ids := o1, ro := false, wr := [5] }, {}, { ids := o2, ro := false, wr := o2 }] = true → clashFree2 ops [{}, { ids := [2], ro := true }, { ids := [d.length + 6 + 1], ro := false }, {}, { ids := [2], ro := true }, { ids := [5], ro := true }, { ids := [5], ro := true }, { ids := [d.length + 7, 7], ro := false, wr := [d.length + 7] }, { ids := [d.length + 7, d.length + 8], ro := false }, { ids := o1, ro := false, wr := [5] }, {}, { ids := o2, ro := false, wr := o2 }] = true := by
   intro ops hm
   refine clash_most _ hm ?_
   intro q hq
   simp only [List.mem_cons, List.not_mem_nil, or_false] at hq
   rcases hq with rfl | rfl | rfl | rfl | rfl | rfl <;> simp [clash] <;> omega
  have t5b : T5[5]? = some (.arr (bools ac) 1 0) := by rw [k5 _ (by omega), t45]
  have t65 : T6[5]? = some (.arr (bools ac) 1 0) := by rw [k6 _ (by omega), t5b]
  have t71 : T7[1]? = some (.box [.d (.int .i64 al), .sl 5 1 0 (d.length + 1), .sl 6 0 0 ac.length]) := by rw [k7 _ (by omega), k6 _ (by omega), g5]
  have t61 : T6[1]? = some (.box [.d (.int .i64 al), .sl 5 1 0 (d.length + 1), .sl 6 0 0 ac.length]) := by rw [k6 _ (by omega), g5]
  have hp0 : (0 : Int) < d.length := by omega
  have t11 : T1[1]? = some (.box [.d (.int .i64 al), .sl 5 0 0 d.length, .sl 6 0 0 ac.length]) := by rw [k1 _ (by omega), t01]
  have t14 : T1[4]? = some (.vec (refsV 7 d ++ nilsA 0) 1 0) := by rw [k1 _ (by omega), t04]
  have l5' : T5.length = d.length + 8 := by omega
  rw [← e0]
  clear k1 k2 k3 k4 k5 k6 k7 w0 w1 w2 w3 w4 ok35 ok3e ok45 ok46 ok42 ok_row t3r t3e ho1 ho2 e0 e8 l1 l2 l3 l4 l5 l6 l7 hlv ht hd hpos t0r g3 g3'
  rw [xdr]
  simp only [xcs, Try.f76, SLM, simprocAttr]
  simp -implicitDefEqProofs (maxSteps := 2000000) (disch := first | assumption | (refine Shut.mk ?_; kernel_rfl) | omega | (simp only [GT]; done) | (simp only [LN] <;> omega) | fail) only [↓DN, ↓kAsg, ↓kRet, UP, simprocAttr, LA, hn0, hc, hp0, l0, t01, t04, t05, h1, g1, t11, t14, hh0, ↓st_app1, g2, ↓st_vec, t34, ↓st_app2, g4, t41, t45, ↓st_sto, g5, t5b, l5', h6, g6, t65, t61, h7, t71, h8, bools_length, bools_take, bools_snoc1, u_intss, c_ints, u_ints, c_int, u_bools, c_bool, ↓st_gc, ↓ih', List.append_assoc, List.cons_append, List.nil_append]
theorem l3Wrong_big {c : List UInt8} (hc : c.length ≤ 2000) (al : Int) (nx : List (List Int)) (ac : List Bool) (hs : rowsShort nx) (h1 : 1 ≤ nx.length) (ha : ac.length ≤ 4294967000) (hnl2 : nx.length ≤ 4294967000) (p t : Int) {row : List Int} (hrow : nx[0]? = some row) (hrl : row.length ≤ 4294967290) (j : Nat) (hj : nx.length + j = 13 ∨ j = 0 ∧ 13 ≤ nx.length)
  (kd1 : (∀ (R : Type) (L n : Nat) (hq : H) (k : A → H → Option R), 1 ≤ n → 2 ^ 60 ≤ L → kCall env (evCall env L n) (O.box [A.d (D.ivs c.length (bytesL c)), A.d (D.int .i64 p)] :: hq) 74 (.ptr 0 0 0 :: [.d (.int .i64 (nx.length))]) k = k (.d (.int .i64 t)) (O.box [A.d (D.ivs c.length (bytesL c)), A.d (D.int .i64 (p + 1))] :: hq)))
  (kd2 : (∀ (R : Type) (L n : Nat) (hq : H) (k : A → H → Option R), 1 ≤ n → 2 ^ 60 ≤ L → kCall env (evCall env L n) (O.box [A.d (D.ivs c.length (bytesL c)), A.d (D.int .i64 (p + 1))] :: hq) 74 (.ptr 0 0 0 :: [.d (.int .i64 30)]) k = k (.d (.int .i64 5)) (O.box [A.d (D.ivs c.length (bytesL c)), A.d (D.int .i64 (p + 1 + 1))] :: hq))) : (∀ (R : Type) (L n : Nat) (hq : H) (k : A → H → Option R), 4 ≤ n → 2 ^ 60 ≤ L → kCall env (evCall env L n) (O.box [A.d (D.ivs c.length (bytesL c)), A.d (D.int .i64 p)] :: hq) 76 (.ptr 0 0 0 :: [autD al nx ac]) k = k (autD al (nx ++ List.replicate j row) (ac ++ List.replicate j false)) (O.box [A.d (D.ivs c.length (bytesL c)), A.d (D.int .i64 (p + 1 + 1))] :: hq)) := by
 intro R L n hq k hn hL
 refine kCall_rd m_l3Wrong (by simp [autD, idsA, idsL]) (by simp [autD, idsA, idsL]) ?_
 have hnl := hs.1
 obtain ⟨N, T1, T2, T3, w⟩ := cpy_facts (.box [.d (.int .i64 al), .d (.ivs nx.length (rowsD nx)), .d (.ivs ac.length (bools ac))]) (.box [.d (.int .i64 0), .sl 2 0 0 0, .sl 3 0 0 0]) al nx ac
 have kd3 := fun {R : Type} {n : Nat} {o1 : O} {k : A → H → Option R} (hn : 2 ≤ n) => kd_copy5 (R := R) (L := L) (n := n) (o1 := o1) (al := al) (k := k) w.h1 hs h1 (by omega) hn hL
 obtain ⟨hN, hT1, l1, h2, b2, h3, l3, t3, t4, t5, tr, tb, e3, wg⟩ := w
 clear hT1
 have st_gc : ∀ {y1 y2 : D} {mk : List Bool} {s : List A}, gc 1 mk s (.box [.d y1, .d y2] :: T3) = match box (tidy mk s) with
   | .mk s1 => if is_wrA1 nx.length (idsL s1) = true ∧ z0As s1 = true then (mapAs (ren_wrA nx.length) s1, .box [.d y1, .d y2] :: .box [.d (.int .i64 0), .sl 3 0 0 0, .sl 4 0 0 0] :: .box [.d (.int .i64 al), .sl 5 0 0 nx.length, .sl 6 0 0 ac.length] :: .arr [] 0 0 :: .arr [] 0 0 :: .vec (refsV 7 nx ++ nilsA 0) 1 0 :: .arr (bools ac) 1 0 :: rowsO nx) else gcO 1 mk s (.box [.d y1, .d y2] :: T3)
   | .no => ([], []) := by
  intro y1 y2 mk s
  rw [e3]
  exact gc_wrA1 (by omega)
 have loop_a := fun {R : Type} {n : Nat} {y1 y2 x0 : D} {k : Exit → List A → H → Option R} => xm3 (R := R) (L := L) (n := n) (y1 := y1) (y2 := y2) (x0 := x0) (al := al) (n0 := nx.length) (k := k) (by omega) hrl j L nx ac nx.length ac.length hj (by omega) hrow rfl rfl (by omega) (by omega)
 have hl1 : (nx ++ List.replicate j row).length = nx.length + j := by simp
 have hl2 : (ac ++ List.replicate j false).length = ac.length + j := by simp
 generalize nx ++ List.replicate j row = nx2 at *
 generalize ac ++ List.replicate j false = ac2 at *
 obtain ⟨T9, e9⟩ : ∃ T : H, .box [.d (.int .i64 al), .sl 5 0 0 (nx.length + j), .sl 6 0 0 (ac.length + j)] :: .box [.d (.int .i64 al), .sl 5 0 0 (nx.length + j), .sl 6 0 0 (ac.length + j)] :: .arr [] 0 0 :: .arr [] 0 0 :: .vec (refsV 7 nx2 ++ nilsA 0) 1 0 :: .arr (bools ac2) 1 0 :: rowsO nx2 = T := ⟨_, rfl⟩
 have g9 : T9[0]? = some (.box [.d (.int .i64 al), .sl 5 0 0 (nx.length + j), .sl 6 0 0 (ac.length + j)]) := by rw [← e9]; rfl
 have hv : rd1 (O.box [A.d (D.ivs c.length (bytesL c)), A.d (D.int .i64 (p + 1 + 1))] :: T9) (.sl 5 0 0 (nx.length + j)) = some (.ivs nx2.length (rowsD nx2)) := by
  refine rd_vecG (cs := refsV 7 nx2 ++ nilsA 0) (by rw [← e9]; rfl) (rd_refs7 fun i r hr => ?_) hl1.symm
  rw [← e9]
  simp only [List.getElem?_cons_succ]
  have := rows_in (p := []) hr
  rwa [List.append_nil] at this
 have hw : rd1 (O.box [A.d (D.ivs c.length (bytesL c)), A.d (D.int .i64 (p + 1 + 1))] :: T9) (.sl 6 0 0 (ac.length + j)) = some (.ivs ac2.length (bools ac2)) := rd_boolsG (by rw [← e9]; rfl) hl2.symm
 obtain ⟨h2', st_out, st_keep, st_trim⟩ := fin_autR (al := al) hv hw (by omega) (by omega)
 unfold autD at st_out ⊢
 have hke : N + 1 + 1 + 1 = nx.length + 9 := by omega
 clear hv hw tr h1 wg e3 hrow
 obtain ⟨n, rfl⟩ : ∃ m, n = m + 1 := ⟨n - 1, by omega⟩
 rw [x4r]
 simp only [x4o, Try.f76, SLM, simprocAttr]
 simp -implicitDefEqProofs (maxSteps := 2000000) (disch := first | assumption | (refine Shut.mk ?_; kernel_rfl) | omega | (simp only [GT]; done) | (simp only [LN] <;> omega) | fail) only [↓DN, ↓kAsg, ↓kRet, UP, simprocAttr, LA, ↓kd1, ↓kd2, ↓kd3, l1, h2, b2, h3, l3, t3, t4, t5, tb, ↓st_gc, is_wrA1_eq, ren_wrA_4, ren_wrA_e2, z0As, z0A, eq_self, ↓loop_a, e9, g9, ↓st_out, ↓st_keep, ↓st_trim, List.append_assoc, List.cons_append, List.nil_append]
end Ev
end Go.Proofs.Ytppdfjdfjfoddaa
