/-
  Edges in order: sorting at once, and one by one; the reference's sorting; systems with exchanged letters.
-/
import Derived.Test.YtojaohcpgelhmaaDoorDropS
import Derived.Test.YtojaohcpgelhmaaDoorRead
section
set_option linter.unusedSimpArgs false
set_option linter.unusedVariables false
set_option maxRecDepth 8000
set_option pp.maxSteps 6000
set_option maxHeartbeats 4000000
namespace Go.Proofs.YtojaohcpgelhmaaDoor
namespace Ev

def e3 (x : Int × Int × Int) : Edge := ⟨x.1, x.2.1, x.2.2⟩
def leE (a b : Edge) : Bool := !beforeE b a
def sortE (l : List Edge) : List Edge := l.mergeSort leE

theorem leE_trans (a b c : Edge) (h1 : leE a b = true) (h2 : leE b c = true) : leE a c = true := by
  unfold leE at *
  simp only [Bool.not_eq_true'] at *
  cases h : beforeE c a with
  | false => rfl
  | true =>
    cases h3 : beforeE a b with
    | true => have := beforeE_trans h h3; rw [this] at h2; cases h2
    | false =>
      have e := beforeE_total h1 h3
      subst e; rw [h] at h2; cases h2
theorem leE_total (a b : Edge) : (leE a b || leE b a) = true := by
  unfold leE
  cases h1 : beforeE b a with
  | false => rfl
  | true => rw [beforeE_asymm h1]; rfl

theorem sortE_perm (l : List Edge) : (sortE l).Perm l := List.mergeSort_perm l leE
theorem sortE_sorted (l : List Edge) : (sortE l).Pairwise fun a b => leE a b = true := List.pairwise_mergeSort leE_trans leE_total l
theorem sortE_len (l : List Edge) : (sortE l).length = l.length := (sortE_perm l).length_eq

theorem sorted_unique {l m : List Edge} (h1 : l.Pairwise fun a b => leE a b = true) (h2 : m.Pairwise fun a b => leE a b = true) (hp : l.Perm m) : l = m :=
  hp.eq_of_pairwise (fun a b _ _ h3 h4 => by
    unfold leE at h3 h4
    simp only [Bool.not_eq_true'] at h3 h4
    exact beforeE_total h4 h3) h1 h2

/-- How many edges in front come before an edge. -/
def posE (e : Edge) : List Edge → Nat
  | [] => 0
  | f :: l => if beforeE f e = true then posE e l + 1 else 0

def insE (e : Edge) (l : List Edge) : List Edge := l.take (posE e l) ++ e :: l.drop (posE e l)

theorem posE_le (e : Edge) : ∀ l, posE e l ≤ l.length
  | [] => Nat.le_refl _
  | f :: l => by
    simp only [posE, List.length_cons]
    have := posE_le e l
    split <;> omega

theorem posE_before (e : Edge) : ∀ (l : List Edge) (k : Nat), k < posE e l → beforeE (l.getD k default) e = true
  | [], k, h => by simp [posE] at h
  | f :: l, k, h => by
    simp only [posE] at h
    split at h
    · rename_i hf
      cases k with
      | zero => simpa using hf
      | succ k => simpa using posE_before e l k (by omega)
    · omega

theorem posE_at (e : Edge) : ∀ (l : List Edge), posE e l < l.length → beforeE (l.getD (posE e l) default) e = false
  | [], h => by simp at h
  | f :: l, h => by
    simp only [posE] at h ⊢
    by_cases hf : beforeE f e = true
    · rw [if_pos hf] at h ⊢
      simp only [List.getD_cons_succ]
      exact posE_at e l (by simpa using h)
    · rw [if_neg hf]
      simpa using hf

theorem insE_len (e : Edge) (l : List Edge) : (insE e l).length = l.length + 1 := by
  have := posE_le e l
  simp only [insE, List.length_append, List.length_take, List.length_cons, List.length_drop]; omega

theorem insE_perm (e : Edge) (l : List Edge) : (insE e l).Perm (e :: l) := by
  unfold insE
  refine (List.perm_middle).trans ?_
  rw [List.take_append_drop]

theorem insE_cons (e f : Edge) (l : List Edge) : insE e (f :: l) = if beforeE f e = true then f :: insE e l else e :: f :: l := by
  unfold insE
  simp only [posE]
  split <;> rfl

theorem insE_sorted (e : Edge) : ∀ l : List Edge, (l.Pairwise fun a b => leE a b = true) → (insE e l).Pairwise fun a b => leE a b = true
  | [], _ => by simp [insE, posE]
  | f :: l, h => by
    rw [insE_cons]
    obtain ⟨h1, h2⟩ := List.pairwise_cons.1 h
    by_cases hf : beforeE f e = true
    · rw [if_pos hf]
      refine List.Pairwise.cons ?_ (insE_sorted e l h2)
      intro x hx
      rcases List.mem_cons.1 ((insE_perm e l).mem_iff.1 hx) with rfl | hx
      · unfold leE; rw [beforeE_asymm hf]; rfl
      · exact h1 x hx
    · rw [if_neg hf]
      have hf' : leE e f = true := by unfold leE; simpa using hf
      refine List.Pairwise.cons ?_ h
      intro x hx
      rcases List.mem_cons.1 hx with rfl | hx
      · exact hf'
      · exact leE_trans _ _ _ hf' (h1 x hx)

/-- One by one. -/
def insAll (l : List Edge) (o : List Edge) : List Edge := l.foldl (fun o e => insE e o) o

theorem insAll_sort : ∀ (l o : List Edge), (o.Pairwise fun a b => leE a b = true) → ((insAll l o).Pairwise fun a b => leE a b = true) ∧ (insAll l o).Perm (l ++ o)
  | [], o, h => ⟨h, .refl _⟩
  | e :: l, o, h => by
    obtain ⟨h1, h2⟩ := insAll_sort l (insE e o) (insE_sorted e o h)
    refine ⟨h1, h2.trans ?_⟩
    refine ((insE_perm e o).append_left l).trans ?_
    exact List.perm_middle

theorem insAll_eq (l : List Edge) : insAll l [] = sortE l := by
  obtain ⟨h1, h2⟩ := insAll_sort l [] List.Pairwise.nil
  rw [List.append_nil] at h2
  exact sorted_unique h1 (sortE_sorted l) (h2.trans (sortE_perm l).symm)

/-! ### the reference's sorting -/

theorem loop_s_l17Sorted_1 {R : Type} {L n : Nat} (hn : 2 ≤ n) {l o : List Edge} (hl : l.length ≤ 4294967296) (ho : o.length ≤ 4294967296) {i : Int} (hi0 : 0 ≤ i) (hi1 : i < l.length) {k : Exit → List A → H → Option R} : ∀ (j : Nat) (x : Int) (m : Nat) (h0 : 0 ≤ x) (hx : x + j = posE (l.getD i.toNat default) o) (hm : j < m),
    kLoop env (evCall env L n) L 0 [] (true :: false :: true :: true :: true :: true :: false :: false :: false :: false :: false :: false :: false :: false :: false :: false :: false :: false :: false :: false :: false :: false :: false :: false :: false :: false :: false :: false :: false :: false :: false :: false :: false :: false :: false :: false :: false :: false :: false :: false :: false :: false :: false :: false :: false :: false :: false :: false :: []) (lp_s_l17Sorted 1) (false :: true :: false :: false :: false :: false :: true :: true :: true :: true :: true :: true :: true :: true :: true :: true :: true :: true :: true :: true :: true :: true :: true :: true :: true :: true :: true :: true :: true :: true :: true :: true :: true :: true :: true :: true :: true :: true :: true :: true :: true :: true :: true :: true :: true :: true :: true :: true :: []) m (.d (.ivs l.length (edgesD l)) :: .junk :: .d .nils :: .sl 0 0 0 o.length :: .d (.int .i64 i) :: .d (.int .i64 x) :: .junk :: .junk :: .junk :: .junk :: .junk :: .junk :: .junk :: .junk :: .junk :: .junk :: .junk :: .junk :: .junk :: .junk :: .junk :: .junk :: .junk :: .junk :: .junk :: .junk :: .junk :: .junk :: .junk :: .junk :: .junk :: .junk :: .junk :: .junk :: .junk :: .junk :: .junk :: .junk :: .junk :: .junk :: .junk :: .junk :: .junk :: .junk :: .junk :: .junk :: .junk :: .junk :: []) [.arr (edgesD o) 3 0] k
    = k (.exit 2) (.d (.ivs l.length (edgesD l)) :: .junk :: .d .nils :: .sl 0 0 0 o.length :: .d (.int .i64 i) :: .d (.int .i64 ((posE (l.getD i.toNat default) o : Nat))) :: .junk :: .junk :: .junk :: .junk :: .junk :: .junk :: .junk :: .junk :: .junk :: .junk :: .junk :: .junk :: .junk :: .junk :: .junk :: .junk :: .junk :: .junk :: .junk :: .junk :: .junk :: .junk :: .junk :: .junk :: .junk :: .junk :: .junk :: .junk :: .junk :: .junk :: .junk :: .junk :: .junk :: .junk :: .junk :: .junk :: .junk :: .junk :: .junk :: .junk :: .junk :: .junk :: []) [.arr (edgesD o) 3 0] := by
  intro j
  have hple := posE_le (l.getD i.toNat default) o
  have hk1 : i.toNat < l.length := by omega
  induction j with
  | zero =>
    intro x m h0 hx hm
    obtain ⟨m, rfl⟩ : ∃ q, m = q + 1 := ⟨m - 1, by omega⟩
    obtain rfl : x = (posE (l.getD i.toNat default) o : Nat) := by omega
    by_cases hp : posE (l.getD i.toNat default) o < o.length
    · have hb := posE_at (l.getD i.toNat default) o hp
      have hc : ((posE (l.getD i.toNat default) o : Nat) : Int) < (o.length : Int) := by omega
      rw [step_s_l17Sorted_1]
      simp only [S_s_l17Sorted_1, Tryd.f34, SLM, simprocAttr]
      simp -implicitDefEqProofs (maxSteps := 2000000) (disch := first | assumption | (refine Shut.mk ?_; kernel_rfl) | omega | (simp only [GT]; done) | (simp only [LN] <;> omega) | fail) only [↓WD, ↓kAsg, ↓kRet, ↓clash_free, ↓WDD, ↓kOpD_callv, WK, UN, TY, LB, MD, i64_id, simprocAttr, ↓CV, ↓kc_s_l2Before, LE, hc, hb, Int.toNat_natCast]
    · have hc : ¬ ((posE (l.getD i.toNat default) o : Nat) : Int) < (o.length : Int) := by omega
      rw [step_s_l17Sorted_1]
      simp only [S_s_l17Sorted_1, Tryd.f34, SLM, simprocAttr]
      simp -implicitDefEqProofs (maxSteps := 2000000) (disch := first | assumption | (refine Shut.mk ?_; kernel_rfl) | omega | (simp only [GT]; done) | (simp only [LN] <;> omega) | fail) only [↓WD, ↓kAsg, ↓kRet, ↓clash_free, ↓WDD, ↓kOpD_callv, WK, UN, TY, LB, MD, i64_id, simprocAttr, ↓CV, ↓kc_s_l2Before, LE, hc]
  | succ j ih =>
    intro x m h0 hx hm
    obtain ⟨m, rfl⟩ : ∃ q, m = q + 1 := ⟨m - 1, by omega⟩
    have hb := posE_before (l.getD i.toNat default) o x.toNat (by omega)
    have hc : x < (o.length : Int) := by omega
    have hk2 : x.toNat < o.length := by omega
    rw [step_s_l17Sorted_1]
    simp only [S_s_l17Sorted_1, Tryd.f34, SLM, simprocAttr]
    simp -implicitDefEqProofs (maxSteps := 2000000) (disch := first | assumption | (refine Shut.mk ?_; kernel_rfl) | omega | (simp only [GT]; done) | (simp only [LN] <;> omega) | fail) only [↓WD, ↓kAsg, ↓kRet, ↓clash_free, ↓WDD, ↓kOpD_callv, WK, UN, TY, LB, MD, i64_id, simprocAttr, ↓CV, ↓kc_s_l2Before, LE, hc, hb, ↓ih]

end Ev
end Go.Proofs.YtojaohcpgelhmaaDoor
end

/-!
  Systems with exchanged letters: the reference and the program.
-/
section
set_option linter.unusedSimpArgs false
set_option linter.unusedVariables false
set_option maxRecDepth 8000
set_option pp.maxSteps 6000
set_option maxHeartbeats 4000000
namespace Go.Proofs.YtojaohcpgelhmaaDoor
namespace Ev

theorem u_edges : env.P.underlying 23 = some (.slice 38) := by kernel_rfl
theorem c_edge : env.P.cellsOf 38 = 3 := by kernel_rfl

theorem conv_slm_from {h : H} {cs : List D} {g len : Nat} {u : Int} (h0 : 0 ≤ u) (h1 : u ≤ len) : aSlice env.P (.arr cs 3 g :: h) 23 (.sl 0 g 0 len) (some u) none = some (.sl 0 g (u.toNat * 3) (len - u.toNat)) := by
  have hb : aBounds len (some u) none = some (u.toNat, len) := by
    unfold aBounds
    simp only [Option.getD_none, Option.getD_some]
    rw [if_pos (by omega)]; simp
  simp only [aSlice, u_edges, c_edge, List.getElem?_cons_zero, hb, Nat.zero_lt_succ, true_and, or_true, if_true, Option.map_some, Nat.zero_add]
theorem conv_slm_to {h : H} {cs : List D} {g len : Nat} {u : Int} (h0 : 0 ≤ u) (h1 : u ≤ len) : aSlice env.P (.arr cs 3 g :: h) 23 (.sl 0 g 0 len) none (some u) = some (.sl 0 g 0 u.toNat) := by
  have hb : aBounds len none (some u) = some (0, u.toNat) := by
    unfold aBounds
    simp only [Option.getD_none, Option.getD_some]
    rw [if_pos (by omega)]; simp
  simp only [aSlice, u_edges, c_edge, List.getElem?_cons_zero, hb, Nat.zero_lt_succ, true_and, or_true, if_true, Option.map_some, Nat.zero_add, Nat.zero_mul, Nat.sub_zero]

theorem edges_tail {o : List Edge} {k : Nat} : ((edgesD o).drop (k * 3)).take ((o.length - k) * 3) = edgesD (o.drop k) := by
  rw [edgesD_dropk, edgesD_takek, List.take_of_length_le (by simp)]

theorem loop_s_l17Sorted_1_top {R : Type} {L n m : Nat} (hn : 2 ≤ n) {l o : List Edge} (hl : l.length ≤ 4294967296) (ho : o.length ≤ 4294967296) {i : Int} (hi0 : 0 ≤ i) (hi1 : i < l.length) {k : Exit → List A → H → Option R} (hm : o.length < m) :
    kLoop env (evCall env L n) L 0 [] (true :: false :: true :: true :: true :: true :: false :: false :: false :: false :: false :: false :: false :: false :: false :: false :: false :: false :: false :: false :: false :: false :: false :: false :: false :: false :: false :: false :: false :: false :: false :: false :: false :: false :: false :: false :: false :: false :: false :: false :: false :: false :: false :: false :: false :: false :: false :: false :: []) (lp_s_l17Sorted 1) (false :: true :: false :: false :: false :: false :: true :: true :: true :: true :: true :: true :: true :: true :: true :: true :: true :: true :: true :: true :: true :: true :: true :: true :: true :: true :: true :: true :: true :: true :: true :: true :: true :: true :: true :: true :: true :: true :: true :: true :: true :: true :: true :: true :: true :: true :: true :: true :: []) m (.d (.ivs l.length (edgesD l)) :: .junk :: .d .nils :: .sl 0 0 0 o.length :: .d (.int .i64 i) :: .d (.int .i64 0) :: .junk :: .junk :: .junk :: .junk :: .junk :: .junk :: .junk :: .junk :: .junk :: .junk :: .junk :: .junk :: .junk :: .junk :: .junk :: .junk :: .junk :: .junk :: .junk :: .junk :: .junk :: .junk :: .junk :: .junk :: .junk :: .junk :: .junk :: .junk :: .junk :: .junk :: .junk :: .junk :: .junk :: .junk :: .junk :: .junk :: .junk :: .junk :: .junk :: .junk :: .junk :: .junk :: []) [.arr (edgesD o) 3 0] k
    = k (.exit 2) (.d (.ivs l.length (edgesD l)) :: .junk :: .d .nils :: .sl 0 0 0 o.length :: .d (.int .i64 i) :: .d (.int .i64 ((posE (l.getD i.toNat default) o : Nat))) :: .junk :: .junk :: .junk :: .junk :: .junk :: .junk :: .junk :: .junk :: .junk :: .junk :: .junk :: .junk :: .junk :: .junk :: .junk :: .junk :: .junk :: .junk :: .junk :: .junk :: .junk :: .junk :: .junk :: .junk :: .junk :: .junk :: .junk :: .junk :: .junk :: .junk :: .junk :: .junk :: .junk :: .junk :: .junk :: .junk :: .junk :: .junk :: .junk :: .junk :: .junk :: .junk :: []) [.arr (edgesD o) 3 0] := by
  have := posE_le (l.getD i.toNat default) o
  exact loop_s_l17Sorted_1 hn hl ho hi0 hi1 (posE (l.getD i.toNat default) o) 0 m (by omega) (by omega) (by omega)

theorem loop_s_l17Sorted {R : Type} {L n : Nat} (hn : 2 ≤ n) (hL : 2 ^ 60 ≤ L) {l : List Edge} (hl : l.length ≤ 4294967296) {k : Exit → List A → H → Option R} : ∀ (j : Nat) (i : Int) (m : Nat) (o : List Edge) (len : Nat) (h0 : 0 ≤ i) (hi : i + j = l.length) (hm : j < m) (ho : o.length + j ≤ 4294967296) (hlen : len = o.length),
    kLoop env (evCall env L n) L 0 [] (true :: false :: true :: true :: true :: true :: false :: false :: false :: false :: false :: false :: false :: false :: false :: false :: false :: false :: false :: false :: false :: false :: false :: false :: false :: false :: false :: false :: false :: false :: false :: false :: false :: false :: false :: false :: false :: false :: false :: false :: false :: false :: false :: false :: false :: false :: false :: false :: []) (lp_s_l17Sorted 0) (false :: true :: false :: false :: false :: true :: true :: true :: true :: true :: true :: true :: true :: true :: true :: true :: true :: true :: true :: true :: true :: true :: true :: true :: true :: true :: true :: true :: true :: true :: true :: true :: true :: true :: true :: true :: true :: true :: true :: true :: true :: true :: true :: true :: true :: true :: true :: true :: []) m (.d (.ivs l.length (edgesD l)) :: .junk :: .d .nils :: .sl 0 0 0 len :: .d (.int .i64 i) :: .junk :: .junk :: .junk :: .junk :: .junk :: .junk :: .junk :: .junk :: .junk :: .junk :: .junk :: .junk :: .junk :: .junk :: .junk :: .junk :: .junk :: .junk :: .junk :: .junk :: .junk :: .junk :: .junk :: .junk :: .junk :: .junk :: .junk :: .junk :: .junk :: .junk :: .junk :: .junk :: .junk :: .junk :: .junk :: .junk :: .junk :: .junk :: .junk :: .junk :: .junk :: .junk :: .junk :: []) [.arr (edgesD o) 3 0] k
    = k (.exit 0) (.d (.ivs l.length (edgesD l)) :: .junk :: .d .nils :: .sl 0 0 0 (o.length + j) :: .d (.int .i64 (l.length)) :: .junk :: .junk :: .junk :: .junk :: .junk :: .junk :: .junk :: .junk :: .junk :: .junk :: .junk :: .junk :: .junk :: .junk :: .junk :: .junk :: .junk :: .junk :: .junk :: .junk :: .junk :: .junk :: .junk :: .junk :: .junk :: .junk :: .junk :: .junk :: .junk :: .junk :: .junk :: .junk :: .junk :: .junk :: .junk :: .junk :: .junk :: .junk :: .junk :: .junk :: .junk :: .junk :: .junk :: []) [.arr (edgesD (insAll (l.drop i.toNat) o)) 3 0] := by
  intro j
  induction j with
  | zero =>
    intro i m o len h0 hi hm ho hlen
    obtain ⟨m, rfl⟩ : ∃ q, m = q + 1 := ⟨m - 1, by omega⟩
    obtain rfl : i = l.length := by omega
    rw [step_s_l17Sorted_0]
    simp only [S_s_l17Sorted_0, Tryd.f34, SLM, simprocAttr]
    simp -implicitDefEqProofs (maxSteps := 2000000) (disch := first | assumption | (refine Shut.mk ?_; kernel_rfl) | omega | (simp only [GT]; done) | (simp only [LN] <;> omega) | fail) only [↓WD, ↓kAsg, ↓kRet, ↓clash_free, ↓WDD, ↓kOpD_callv, WK, UN, TY, LB, MD, i64_id, simprocAttr, ↓CV, ↓kc_s_l2Before, ↓loop_s_l17Sorted_1, ↓loop_s_l17Sorted_1_top, LE, Int.lt_irrefl]
    simp only [Int.toNat_natCast, List.drop_length, insAll, List.foldl_nil, hlen, Nat.add_zero]
  | succ j ih =>
    intro i m o len h0 hi hm ho hlen
    obtain ⟨m, rfl⟩ : ∃ q, m = q + 1 := ⟨m - 1, by omega⟩
    subst hlen
    have hc : i < l.length := by omega
    have hk : i.toNat < l.length := by omega
    have ho2 : o.length ≤ 4294967296 := by omega
    have e1 : (i + 1).toNat = i.toNat + 1 := by omega
    have hple := posE_le (l.getD i.toNat default) o
    have hle2 : ((posE (l.getD i.toNat default) o : Nat) : Int) ≤ (o.length : Int) := by omega
    have hE : o.take (posE (l.getD i.toNat default) o) ++ [⟨(l.getD i.toNat default).fr, (l.getD i.toNat default).lt, (l.getD i.toNat default).to⟩] ++ o.drop (posE (l.getD i.toNat default) o) = insE (l.getD i.toNat default) o := by simp [insE]
    rw [step_s_l17Sorted_0]
    simp only [S_s_l17Sorted_0, Tryd.f34, SLM, simprocAttr]
    simp -implicitDefEqProofs (maxSteps := 2000000) (disch := first | assumption | (refine Shut.mk ?_; kernel_rfl) | omega | (simp only [GT]; done) | (simp only [LN] <;> omega) | fail) only [↓WD, ↓kAsg, ↓kRet, ↓clash_free, ↓WDD, ↓kOpD_callv, WK, UN, TY, LB, MD, i64_id, simprocAttr, ↓CV, ↓kc_s_l2Before, ↓loop_s_l17Sorted_1, LE, hc, ↓loop_s_l17Sorted_1_top, ↓conv_slm_from, ↓conv_slm_to, edges_tail, edgesD_takek, Int.toNat_natCast]
    have hil := insE_len (l.getD i.toNat default) o
    rw [hE, ih (i + 1) m _ _ (by omega) (by omega) (by omega) (by omega) (by omega), hil, drop_go hk (d := default), e1]
    have e2 : o.length + 1 + j = o.length + (j + 1) := by omega
    rw [e2]
    rfl

theorem loop_s_l17Sorted_top {R : Type} {L n m : Nat} (hn : 2 ≤ n) (hL : 2 ^ 60 ≤ L) {l : List Edge} (hl : l.length ≤ 4294967296) {k : Exit → List A → H → Option R} (hm : l.length < m) :
    kLoop env (evCall env L n) L 0 [] (true :: false :: true :: true :: true :: true :: false :: false :: false :: false :: false :: false :: false :: false :: false :: false :: false :: false :: false :: false :: false :: false :: false :: false :: false :: false :: false :: false :: false :: false :: false :: false :: false :: false :: false :: false :: false :: false :: false :: false :: false :: false :: false :: false :: false :: false :: false :: false :: []) (lp_s_l17Sorted 0) (false :: true :: false :: false :: false :: true :: true :: true :: true :: true :: true :: true :: true :: true :: true :: true :: true :: true :: true :: true :: true :: true :: true :: true :: true :: true :: true :: true :: true :: true :: true :: true :: true :: true :: true :: true :: true :: true :: true :: true :: true :: true :: true :: true :: true :: true :: true :: true :: []) m (.d (.ivs l.length (edgesD l)) :: .junk :: .d .nils :: .sl 0 0 0 0 :: .d (.int .i64 0) :: .junk :: .junk :: .junk :: .junk :: .junk :: .junk :: .junk :: .junk :: .junk :: .junk :: .junk :: .junk :: .junk :: .junk :: .junk :: .junk :: .junk :: .junk :: .junk :: .junk :: .junk :: .junk :: .junk :: .junk :: .junk :: .junk :: .junk :: .junk :: .junk :: .junk :: .junk :: .junk :: .junk :: .junk :: .junk :: .junk :: .junk :: .junk :: .junk :: .junk :: .junk :: .junk :: .junk :: []) [.arr [] 3 0] k
    = k (.exit 0) (.d (.ivs l.length (edgesD l)) :: .junk :: .d .nils :: .sl 0 0 0 l.length :: .d (.int .i64 (l.length)) :: .junk :: .junk :: .junk :: .junk :: .junk :: .junk :: .junk :: .junk :: .junk :: .junk :: .junk :: .junk :: .junk :: .junk :: .junk :: .junk :: .junk :: .junk :: .junk :: .junk :: .junk :: .junk :: .junk :: .junk :: .junk :: .junk :: .junk :: .junk :: .junk :: .junk :: .junk :: .junk :: .junk :: .junk :: .junk :: .junk :: .junk :: .junk :: .junk :: .junk :: .junk :: .junk :: .junk :: []) [.arr (edgesD (sortE l)) 3 0] := by
  have h := loop_s_l17Sorted (R := R) (L := L) hn hL hl (k := k) l.length 0 m [] 0 (by omega) (by omega) hm (by simpa using hl) rfl
  simpa only [edgesD_nil, Int.toNat_zero, List.drop_zero, insAll_eq, List.length_nil, Nat.zero_add] using h

theorem ev_s_l17Sorted {L n : Nat} (hn : 3 ≤ n) (l : List Edge) (hl : l.length ≤ 4294967296) (hL : 2 ^ 60 ≤ L) : evCall env L n 34 [.d (.ivs l.length (edgesD l))] [] = some (.d (.ivs (sortE l).length (edgesD (sortE l))), []) := by
  have hs := sortE_len l
  have ht : (edgesD (sortE l)).take (l.length * 3) = edgesD (sortE l) := edges_take (by omega)
  obtain ⟨n, rfl⟩ : ∃ m, n = m + 1 := ⟨n - 1, by omega⟩
  rw [fn_s_l17Sorted]
  simp only [S_s_l17Sorted, Tryd.f34, SLM, simprocAttr]
  simp -implicitDefEqProofs (maxSteps := 2000000) (disch := first | assumption | (refine Shut.mk ?_; kernel_rfl) | omega | (simp only [GT]; done) | (simp only [LN] <;> omega) | fail) only [↓WD, ↓kAsg, ↓kRet, ↓clash_free, ↓WDD, ↓kOpD_callv, WK, UN, TY, LB, MD, i64_id, simprocAttr, ↓CV, ↓kc_s_l2Before, ↓loop_s_l17Sorted, ↓loop_s_l17Sorted_1, ↓loop_s_l17Sorted_1_top, LE, ↓loop_s_l17Sorted_top, ht, hs]
theorem kc_s_l17Sorted {R : Type} {L n : Nat} {hq : H} {k : A → H → Option R} (hn : 3 ≤ n) (l : List Edge) (hl : l.length ≤ 4294967296) (hL : 2 ^ 60 ≤ L) : kCall env (evCall env L n) hq 34 [.d (.ivs l.length (edgesD l))] k = k (.d (.ivs (sortE l).length (edgesD (sortE l)))) hq :=
  kCall_still rfl (ev_s_l17Sorted hn l hl hL) rfl (.inr rfl)

/-- A lent call that reaches one slice of data and lays one object. -/
theorem kCall_lay1 {R : Type} {E : Env} {call : CallF} {h : H} {f : FuncId} {args fs : List A} {r : A} {o : O} {k : A → H → Option R} {id e g : Nat} {cs : List D} (hi : h[id]? = some (.arr cs e g)) (hid : idsL args = [id]) (hm : (E.hint f).mode = 3) (hf : frzAs [.arr cs e g] (mapAs (place [id]) args) = some (fs, [.ice cs e g])) (hc : call f fs [] = some (r, [o])) (hcl : (cleanA r && cleanO o) = true) :
    kCall E call h f args k = k (mapA (back [] h.length 1) r) (h ++ [mapO (back [] h.length 1) o]) := by
  have hre : reach fuelR h [id] [] = [id] := by
    have e1 : reach fuelR h [id] [] = match h[id]? with
      | some (.box cs) => reach (fuelR - 1) h ([] ++ idsL cs) ([] ++ [id])
      | some (.vec cs _ _) => reach (fuelR - 1) h ([] ++ idsL cs) ([] ++ [id])
      | some .void => reach (fuelR - 1) h [] []
      | some _ => reach (fuelR - 1) h [] ([] ++ [id])
      | none => reach (fuelR - 1) h [] [] := rfl
    rw [e1, hi]; rfl
  have hpk : pack h [id] = [.arr cs e g] := by
    simp only [pack, List.map_cons, List.map_nil, List.getD_eq_getElem?_getD, hi]; rfl
  have hcl' : closed h [id] [id] = true := by
    simp only [closed, List.all_cons, List.all_nil, hi]; simp
  have hl : ∀ i ∈ [id], i < h.length := by
    intro i hi'
    simp only [List.mem_singleton] at hi'
    subst hi'; exact lt_of_get hi
  unfold kCall
  rw [hid, hre, hpk]
  have hcc : aCall call E.hint [.arr cs e g] f (mapAs (place [id]) args) = some (mapA (back [] 1 1) r, [.arr cs e g, mapO (back [] 1 1) o]) := by
    unfold aCall; rw [hm]
    simp only [hf, hc, List.all_cons, List.all_nil, Bool.and_true, hcl, if_true]
    rfl
  rw [hcc]
  have hb : ∀ i, (back [] 1 1 i).bind (back [id] h.length 2) = back [] h.length 1 i := back_back [id] h.length 1
  have hp := putBack_same (rest := [mapO (back [] 1 1) o]) (f := back [id] h.length 2) (fun i hi => by unfold back; rw [if_pos hi]) hcl' (by simp) hl
  rw [hpk] at hp
  simp only [List.length_cons, List.length_nil, Nat.le_add_left, hcl', and_self, if_true]
  have hp' : putBack (back [id] h.length 2) h [id] [.arr cs e g, mapO (back [] 1 1) o] = h ++ [mapO (back [id] h.length 2) (mapO (back [] 1 1) o)] := hp
  show k (mapA (back [id] h.length 2) (mapA (back [] 1 1) r)) (putBack (back [id] h.length 2) h [id] [.arr cs e g, mapO (back [] 1 1) o]) = _
  rw [hp', mapA_mapA hb, mapO_mapO hb]

end Ev
end Go.Proofs.YtojaohcpgelhmaaDoor
end
