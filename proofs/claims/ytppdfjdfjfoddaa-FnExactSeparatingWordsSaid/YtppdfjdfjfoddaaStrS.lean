/-
  Lists of strings: compared, marked, searched.
-/
import Derived.Test.YtppdfjdfjfoddaaAutoL
import Derived.Test.YtppdfjdfjfoddaaDraw1
set_option linter.unusedSimpArgs false
set_option linter.unusedVariables false
set_option maxRecDepth 8000
set_option pp.maxSteps 6000
set_option maxHeartbeats 4000000
namespace Go.Proofs.Ytppdfjdfjfoddaa
namespace Ev
abbrev Str := List UInt8
theorem strsL_take {l : List Str} {k : Nat} (h : l.length ≤ k) : (strsL l).take k = strsL l := List.take_of_length_le (by rw [strsL_length]; exact h)
theorem strsL_snoc {l : List Str} {v : Str} : strsL l ++ [.str v] = strsL (l ++ [v]) := by simp [strsL]
theorem strsL_nil : strsL [] = [] := rfl
theorem strsL_set {l : List Str} {k : Nat} {v : Str} (h : k < l.length) : setRun (strsL l) k [.str v] = strsL (l.set k v) := setRun_map _ l k v h
theorem SE : type_of% (And.intro @strsL_length (And.intro @strsL_take @strsL_head)) := And.intro @strsL_length (And.intro @strsL_take @strsL_head)
theorem c_str1 : env.P.cellsOf 9 = 1 := by kernel_rfl
theorem i_str1 : (env.P.info? 9).isSome = true := by kernel_rfl
theorem xwk {h : H} {g e k : Nat} {l : List Str} {b : Str} (hk : k < l.length) : aStore env.P (.arr (strsL l) e g :: h) 9 (.ptr 0 g k) (.d (.str b)) = some (.arr (strsL (l.set k b)) e g :: h) := by
  rw [store_cell (id := 0) rfl c_str1 i_str1 rfl (by rw [strsL_length]; exact hk), strsL_set hk]
  rfl
def digB (k : Int) : UInt8 := UInt8.ofNat (48 + (k.tmod 10).toNat)
def digT : Nat → Int → Str → Str
  | 0, _, o => o
  | j + 1, k, o => if 0 < k then digT j (k.tdiv 10) (digB k :: o) else o
def markT (k : Int) : Str := if k ≤ 0 then [109, 48] else 109 :: digT 20 k []
theorem wrap_dig {k : Int} (h : 0 ≤ k) : IntKind.u8.wrap (48 + k.tmod 10) = ((digB k).toNat : Int) := by
  have h1 : 0 ≤ k.tmod 10 ∧ k.tmod 10 < 10 := by
    rw [Int.tmod_eq_emod_of_nonneg h]; omega
  unfold digB
  generalize k.tmod 10 = r at *
  obtain ⟨m, rfl⟩ : ∃ m : Nat, r = m := ⟨r.toNat, by omega⟩
  have hm : m < 10 := by omega
  match m, hm with
  | 0, _ => rfl
  | 1, _ => rfl
  | 2, _ => rfl
  | 3, _ => rfl
  | 4, _ => rfl
  | 5, _ => rfl
  | 6, _ => rfl
  | 7, _ => rfl
  | 8, _ => rfl
  | 9, _ => rfl
  | m + 10, h => omega
def kEnd : Nat → Int → Int
  | 0, k => k
  | j + 1, k => if 0 < k then kEnd j (k.tdiv 10) else k
theorem xky {R : Type} {L n : Nat} (hn : 1 ≤ n) {k : Exit → List A → H → Option R} : ∀ (j : Nat) (q : Int) (m : Nat) (o : Str) (h0 : 0 ≤ q) (hb : q ≤ 1000000000000) (hq : q < 10 ^ j) (hj : j ≤ 20) (hm : j < m) (ho : o.length + j ≤ 1000),
    kLoop env (evCall env L n) L 0 [] (U1 (Z1 (U2 (Z16 ([]))))) (xaf 0) (Z1 (U1 (Z2 (U16 ([]))))) m (.d (.int .i64 q) :: Y1 (.d (.str ([])) :: .d (.str o) :: Y16 ([]))) [] k
    = k (.exit 0) (.d (.int .i64 ((kEnd j q))) :: Y1 (.d (.str ([])) :: .d (.str ((digT j q o))) :: Y16 ([]))) [] := by
  intro j
  induction j with
  | zero =>
    intro q m o h0 hb hq hj hm ho
    obtain ⟨m, rfl⟩ : ∃ q, m = q + 1 := ⟨m - 1, by omega⟩
    obtain rfl : q = 0 := by simp at hq; omega
    rw [xbr]
    simp only [xbg, Try.f66, SLM, simprocAttr]
    simp -implicitDefEqProofs (maxSteps := 2000000) (disch := first | assumption | (refine Shut.mk ?_; kernel_rfl) | omega | (simp only [GT]; done) | (simp only [LN] <;> omega) | fail) only [↓DN, ↓kAsg, ↓kRet, UP, simprocAttr]
    rfl
  | succ j ih =>
    intro q m o h0 hb hq hj hm ho
    obtain ⟨m, rfl⟩ : ∃ q, m = q + 1 := ⟨m - 1, by omega⟩
    simp only [kEnd, digT]
    by_cases hp : 0 < q
    · have t0 : 0 ≤ q.tdiv 10 := Int.tdiv_nonneg h0 (by omega)
      have t2 : q.tdiv 10 ≤ q := by
        rw [Int.tdiv_eq_ediv_of_nonneg h0]; omega
      have t1 : q.tdiv 10 < 10 ^ j := by
        rw [Int.tdiv_eq_ediv_of_nonneg h0]
        refine Int.ediv_lt_of_lt_mul (by omega) ?_
        rw [Int.pow_succ] at hq; exact hq
      have ih' := ih (q.tdiv 10) m (digB q :: o) t0 (by omega) t1 (by omega) (by omega) (by simp; omega)
      have e := wrap_dig h0
      have e2 : [D.int .u8 ((digB q).toNat : Int)] = bytesL [digB q] := rfl
      have r1 : 0 ≤ q.tmod 10 ∧ q.tmod 10 < 10 := by rw [Int.tmod_eq_emod_of_nonneg h0]; omega
      obtain ⟨r1, r2⟩ := r1
      have e3 : IntKind.i64.wrap (q.tdiv 10) = q.tdiv 10 := i64_id (by omega) (by omega)
      clear ih hq
      simp only [if_pos hp]
      rw [xbr]
      simp only [xbg, Try.f66, SLM, simprocAttr]
      simp -implicitDefEqProofs (maxSteps := 2000000) (disch := first | assumption | (refine Shut.mk ?_; kernel_rfl) | omega | (simp only [GT]; done) | (simp only [LN] <;> omega) | fail) only [↓DN, ↓kAsg, ↓kRet, UP, simprocAttr, hp, e, e2, e3, ↓conv_bytes_str, List.cons_append, List.nil_append, ↓ih']
    · simp only [if_neg hp]
      clear ih hq
      rw [xbr]
      simp only [xbg, Try.f66, SLM, simprocAttr]
      simp -implicitDefEqProofs (maxSteps := 2000000) (disch := first | assumption | (refine Shut.mk ?_; kernel_rfl) | omega | (simp only [GT]; done) | (simp only [LN] <;> omega) | fail) only [↓DN, ↓kAsg, ↓kRet, UP, simprocAttr, hp]
theorem xus {L n : Nat} (hn : 2 ≤ n) (q : Int) (hb : q ≤ 1000000000000) (hL : 2 ^ 60 ≤ L) : evCall env L n 66 [.d (.int .i64 q)] [] = some (.d (.str (markT q)), []) := by
  unfold markT
  by_cases h : q ≤ 0
  · simp only [if_pos h]
    obtain ⟨n, rfl⟩ : ∃ m, n = m + 1 := ⟨n - 1, by omega⟩
    rw [xo6]
    simp only [xkx, Try.f66, SLM, simprocAttr]
    simp -implicitDefEqProofs (maxSteps := 2000000) (disch := first | assumption | (refine Shut.mk ?_; kernel_rfl) | omega | (simp only [GT]; done) | (simp only [LN] <;> omega) | fail) only [↓DN, ↓kAsg, ↓kRet, UP, simprocAttr, ↓xky, h]
  · simp only [if_neg h]
    have loop_c := fun {R : Type} {n : Nat} {k : Exit → List A → H → Option R} (hn : 1 ≤ n) => @xky R L n hn k 20 q L [] (by omega) hb (by omega) (by omega) (by omega) (by simp)
    have hl : (digT 20 q []).length ≤ 20 := by
      have key : ∀ (j : Nat) (q : Int) (o : Str), (digT j q o).length ≤ o.length + j := by
        intro j
        induction j with
        | zero => intro q o; exact Nat.le_refl _
        | succ j ih => intro q o; unfold digT; split
                       · have := ih (q.tdiv 10) (digB q :: o); simp at this ⊢; omega
                       · omega
      simpa using key 20 q []
    generalize digT 20 q [] = w at *
    obtain ⟨n, rfl⟩ : ∃ m, n = m + 1 := ⟨n - 1, by omega⟩
    rw [xo6]
    simp only [xkx, Try.f66, SLM, simprocAttr]
    simp -implicitDefEqProofs (maxSteps := 2000000) (disch := first | assumption | (refine Shut.mk ?_; kernel_rfl) | omega | (simp only [GT]; done) | (simp only [LN] <;> omega) | fail) only [↓DN, ↓kAsg, ↓kRet, UP, simprocAttr, h, ↓loop_c, List.cons_append, List.nil_append]
theorem x5n {R : Type} {L n : Nat} {hq : H} {k : A → H → Option R} (hn : 2 ≤ n) (q : Int) (hb : q ≤ 1000000000000) (hL : 2 ^ 60 ≤ L) : kCall env (evCall env L n) hq 66 [.d (.int .i64 q)] k = k (.d (.str (markT q))) hq :=
  kCall_still rfl (xus hn q hb hL) rfl (.inl rfl)
def marksL (c : Int) : Nat → List Str
  | 0 => []
  | j + 1 => markT c :: marksL (c + 1) j
theorem marksL_len : ∀ (j : Nat) (c : Int), (marksL c j).length = j
  | 0, _ => rfl
  | j + 1, c => by simp [marksL, marksL_len j]
theorem marksL_get : ∀ (j : Nat) (c : Int) (i : Nat), i < j → (marksL c j).getD i [] = markT (c + i)
  | 0, _, _, h => by omega
  | j + 1, c, 0, _ => by simp [marksL]
  | j + 1, c, i + 1, h => by
    have := marksL_get j (c + 1) i (by omega)
    simp only [marksL, List.getD_cons_succ, this]
    congr 1; omega
theorem xp1 {R : Type} {L n : Nat} (hn : 3 ≤ n) (hL : 2 ^ 60 ≤ L) {z : Nat} (hz : z ≤ 16777216) {k : Exit → List A → H → Option R} : ∀ (j i m : Nat) (c : Int) (o : List Str) (len : Nat) (hi : i + j = z) (hm : j < m) (ho : o.length = z) (hlen : len = z) (hc0 : 0 ≤ c) (hc1 : c + j ≤ 1000000000000),
    kLoop env (evCall env L n) L (1) [] (U2 (Z2 (U2 (Z8 (Z4 (Z2 ([]))))))) (x5p 0) (Z2 (U2 (Z2 (U8 (U4 (U2 ([]))))))) m (.sl 0 0 0 len :: .d (.int .i64 c) :: Y2 (.d (.int .i64 0) :: .d (.int .i64 ((i : Int))) :: Y8 (Y4 (Y2 ([]))))) [.arr (strsL o) 1 0] k
    = k (.exit 0) (.sl 0 0 0 len :: .d (.int .i64 ((c + j))) :: Y2 (.d (.int .i64 0) :: .d (.int .i64 ((z : Int))) :: Y8 (Y4 (Y2 ([]))))) [.arr (strsL (o.take i ++ marksL c j)) 1 0] := by
  intro j
  induction j with
  | zero =>
    intro i m c o len hi hm ho hlen hc0 hc1
    obtain ⟨m, rfl⟩ : ∃ q, m = q + 1 := ⟨m - 1, by omega⟩
    obtain rfl : i = z := by omega
    subst hlen
    have e : o.take len = o := List.take_of_length_le (by omega)
    rw [x7z]
    simp only [x7t, Try.f23, SLM, simprocAttr]
    simp -implicitDefEqProofs (maxSteps := 2000000) (disch := first | assumption | (refine Shut.mk ?_; kernel_rfl) | omega | (simp only [GT]; done) | (simp only [LN] <;> omega) | fail) only [↓DN, ↓kAsg, ↓kRet, UP, simprocAttr, ↓x5n, SE, Int.lt_irrefl]
    simp [marksL, e]
  | succ j ih =>
    intro i m c o len hi hm ho hlen hc0 hc1
    obtain ⟨m, rfl⟩ : ∃ q, m = q + 1 := ⟨m - 1, by omega⟩
    subst hlen
    have hk : i < o.length := by omega
    have hc : (i : Int) < len := by omega
    have hi0 : (0 : Int) ≤ i := by omega
    have ih' := ih (i + 1) m (c + 1) (o.set i (markT c)) len (by omega) (by omega) (by simpa using ho) rfl (by omega) (by omega)
    rw [show ((i + 1 : Nat) : Int) = (i : Int) + 1 by omega, set_go1 hk, show c + 1 + (j : Int) = c + ((j + 1 : Nat) : Int) by omega] at ih'
    have hcb : c ≤ 1000000000000 := by omega
    simp only [marksL]
    clear ih
    rw [x7z]
    simp only [x7t, Try.f23, SLM, simprocAttr]
    simp -implicitDefEqProofs (maxSteps := 2000000) (disch := first | assumption | (refine Shut.mk ?_; kernel_rfl) | omega | (simp only [GT]; done) | (simp only [LN] <;> omega) | fail) only [↓DN, ↓kAsg, ↓kRet, UP, simprocAttr, ↓x5n, SE, hc, hi0, hcb, Int.toNat_natCast, ↓xwk, ↓ih']
theorem xrs {L n : Nat} (hn : 4 ≤ n) (hL : 2 ^ 60 ≤ L) (l : List Str) (hl : l.length ≤ 16777216) : evCall env L n 23 [.sl 0 0 0 l.length, .d (.int .i64 1)] [.arr (strsL l) 1 0] = some (.d (.int .i64 (1 + l.length)), [.arr (strsL (marksL 1 l.length)) 1 0]) := by
  have loop_c := fun {R : Type} {n : Nat} {k : Exit → List A → H → Option R} (hn : 3 ≤ n) => @xp1 R L n hn hL l.length hl k l.length 0 L 1 l l.length (by omega) (by omega) rfl rfl (by omega) (by omega)
  simp only [Int.natCast_zero, List.take_zero, List.nil_append] at loop_c
  obtain ⟨n, rfl⟩ : ∃ m, n = m + 1 := ⟨n - 1, by omega⟩
  rw [xjz]
  simp only [xf9, Try.f23, SLM, simprocAttr]
  simp -implicitDefEqProofs (maxSteps := 2000000) (disch := first | assumption | (refine Shut.mk ?_; kernel_rfl) | omega | (simp only [GT]; done) | (simp only [LN] <;> omega) | fail) only [↓DN, ↓kAsg, ↓kRet, UP, simprocAttr, ↓x5n, SE, ↓loop_c]
theorem xpx {R : Type} {L n : Nat} (hn : 3 ≤ n) (hL : 2 ^ 60 ≤ L) {z : Nat} (hz : z ≤ 16777216) {l : List Str} (hll : l.length = z) {k : Exit → List A → H → Option R} : ∀ (j i m : Nat) (c : Int) (hi : i + j = z) (hm : j < m) (hc0 : 0 ≤ c) (hc1 : c + j ≤ 1000000000000) (hg : ∀ q, q < j → l.getD (i + q) [] = markT (c + q)),
    kLoop env (evCall env L n) L 0 [] (U2 (Z2 (U2 (Z16 ([]))))) (x6v 0) (Z2 (U2 (Z2 (U16 ([]))))) m (.d (.ivs l.length (strsL l)) :: .d (.int .i64 c) :: Y2 (.d (.int .i64 0) :: .d (.int .i64 ((i : Int))) :: Y16 ([]))) [] k
    = k (.exit 0) (.d (.ivs l.length (strsL l)) :: .d (.int .i64 ((c + j))) :: Y2 (.d (.int .i64 0) :: .d (.int .i64 ((z : Int))) :: Y16 ([]))) [] := by
  intro j
  induction j with
  | zero =>
    intro i m c hi hm hc0 hc1 hg
    obtain ⟨m, rfl⟩ : ∃ q, m = q + 1 := ⟨m - 1, by omega⟩
    obtain rfl : i = z := by omega
    subst hll
    rw [xec]
    simp only [xcj, Try.f24, SLM, simprocAttr]
    simp -implicitDefEqProofs (maxSteps := 2000000) (disch := first | assumption | (refine Shut.mk ?_; kernel_rfl) | omega | (simp only [GT]; done) | (simp only [LN] <;> omega) | fail) only [↓DN, ↓kAsg, ↓kRet, UP, simprocAttr, ↓x5n, SE, Int.lt_irrefl]
    all_goals simp
  | succ j ih =>
    intro i m c hi hm hc0 hc1 hg
    obtain ⟨m, rfl⟩ : ∃ q, m = q + 1 := ⟨m - 1, by omega⟩
    subst hll
    have hk : i < l.length := by omega
    have hc : (i : Int) < l.length := by omega
    have hi0 : (0 : Int) ≤ i := by omega
    have hg0 := hg 0 (by omega)
    simp only [Nat.add_zero, Int.natCast_zero, Int.add_zero] at hg0
    have ih' := ih (i + 1) m (c + 1) (by omega) (by omega) (by omega) (by omega) (fun q hq => by
      have := hg (q + 1) (by omega)
      rw [show i + 1 + q = i + (q + 1) by omega, this]; congr 1; omega)
    rw [show ((i + 1 : Nat) : Int) = (i : Int) + 1 by omega, show c + 1 + (j : Int) = c + ((j + 1 : Nat) : Int) by omega] at ih'
    have hcb : c ≤ 1000000000000 := by omega
    clear ih hg
    rw [xec]
    simp only [xcj, Try.f24, SLM, simprocAttr]
    simp -implicitDefEqProofs (maxSteps := 2000000) (disch := first | assumption | (refine Shut.mk ?_; kernel_rfl) | omega | (simp only [GT]; done) | (simp only [LN] <;> omega) | fail) only [↓DN, ↓kAsg, ↓kRet, UP, simprocAttr, ↓x5n, SE, hc, hi0, hcb, hg0, Int.toNat_natCast, bne_self_eq_false, ↓ih']
theorem xdp {L n : Nat} (hn : 4 ≤ n) (l : List Str) (hl : l.length ≤ 16777216) (hg : ∀ q : Nat, q < l.length → l.getD q [] = markT (1 + q)) (hL : 2 ^ 60 ≤ L) : evCall env L n 24 [.d (.ivs l.length (strsL l)), .d (.int .i64 1)] [] = some (.d (.int .i64 (1 + l.length)), []) := by
  have loop_c := fun {R : Type} {n : Nat} {k : Exit → List A → H → Option R} (hn : 3 ≤ n) => @xpx R L n hn hL l.length hl l rfl k l.length 0 L 1 (by omega) (by omega) (by omega) (by omega) (fun q hq => by rw [Nat.zero_add]; exact hg q hq)
  simp only [Int.natCast_zero] at loop_c
  clear hg
  obtain ⟨n, rfl⟩ : ∃ m, n = m + 1 := ⟨n - 1, by omega⟩
  rw [xru]
  simp only [xl4, Try.f24, SLM, simprocAttr]
  simp -implicitDefEqProofs (maxSteps := 2000000) (disch := first | assumption | (refine Shut.mk ?_; kernel_rfl) | omega | (simp only [GT]; done) | (simp only [LN] <;> omega) | fail) only [↓DN, ↓kAsg, ↓kRet, UP, simprocAttr, ↓x5n, SE, ↓loop_c]
theorem xrt {R : Type} {L n : Nat} {hq : H} {k : A → H → Option R} (hn : 4 ≤ n) (l : List Str) (hl : l.length ≤ 16777216) (hg : ∀ q : Nat, q < l.length → l.getD q [] = markT (1 + q)) (hL : 2 ^ 60 ≤ L) : kCall env (evCall env L n) hq 24 [.d (.ivs l.length (strsL l)), .d (.int .i64 1)] k = k (.d (.int .i64 (1 + l.length))) hq :=
  kCall_still rfl (xdp hn l hl hg hL) rfl (.inl rfl)
theorem xrn {R : Type} {L n : Nat} {k : A → Option R} (hn : 4 ≤ n) (l : List Str) (hl : l.length ≤ 16777216) (hg : ∀ q : Nat, q < l.length → l.getD q [] = markT (1 + q)) (hL : 2 ^ 60 ≤ L) : kLent (evCall env L n) 24 [.d (.ivs l.length (strsL l)), .d (.int .i64 1)] k = k (.d (.int .i64 (1 + l.length))) :=
  kLent_ev (xdp hn l hl hg hL) rfl
theorem xp4 {R : Type} {L n : Nat} {hq : H} {k : A → H → Option R} {id0 g0 o0 len0 : Nat}  : kCall env (evCall env L n) hq 24 [.sl id0 g0 o0 len0, .d (.int .i64 1)] k = match box (lentA hq [.sl id0 g0 o0 len0, .d (.int .i64 1)]) with
    | .mk (some fs) => kLent (evCall env L n) 24 fs fun r => k r hq
    | _ => none := kCall_lent x77
theorem xrw {R : Type} {L n : Nat} (hn : 1 ≤ n) {l : List Str} (hl : l.length ≤ 4294967296) {k : Exit → List A → H → Option R} : ∀ (i : Int) (m : Nat) (h0 : 0 ≤ i) (hi : i ≤ l.length) (hm : (l.length : Int) - i < m),
    kLoop env (evCall env L n) L 0 [] (U2 (Z2 (U2 (Z16 (Z4 ([])))))) (x84 0) (Z2 (U2 (Z2 (U16 (U4 ([])))))) m (.d (.ivs l.length (strsL l)) :: .d (.ivs l.length (strsL l)) :: Y2 (.d (.bool false) :: .d (.int .i64 i) :: Y16 (Y4 ([])))) [] k
    = k (.exit 0) (.d (.ivs l.length (strsL l)) :: .d (.ivs l.length (strsL l)) :: Y2 (.d (.bool false) :: .d (.int .i64 (l.length)) :: Y16 (Y4 ([])))) [] := by
  intro i m h0 hi hm
  obtain ⟨j, hj⟩ : ∃ j : Nat, (j : Int) = (l.length : Int) - i := ⟨((l.length : Int) - i).toNat, by omega⟩
  induction j generalizing i m with
  | zero =>
    obtain ⟨m, rfl⟩ : ∃ q, m = q + 1 := ⟨m - 1, by omega⟩
    obtain rfl : i = l.length := by omega
    rw [xh9]
    simp only [xfk, Try.f20, SLM, simprocAttr]
    simp -implicitDefEqProofs (maxSteps := 2000000) (disch := first | assumption | (refine Shut.mk ?_; kernel_rfl) | omega | (simp only [GT]; done) | (simp only [LN] <;> omega) | fail) only [↓DN, ↓kAsg, ↓kRet, UP, simprocAttr, SE, Int.lt_irrefl]
  | succ j ih =>
    obtain ⟨m, rfl⟩ : ∃ q, m = q + 1 := ⟨m - 1, by omega⟩
    have hc : i < l.length := by omega
    have hk : i.toNat < l.length := by omega
    rw [xh9]
    simp only [xfk, Try.f20, SLM, simprocAttr]
    simp -implicitDefEqProofs (maxSteps := 2000000) (disch := first | assumption | (refine Shut.mk ?_; kernel_rfl) | omega | (simp only [GT]; done) | (simp only [LN] <;> omega) | fail) only [↓DN, ↓kAsg, ↓kRet, UP, simprocAttr, SE, hc, bne_self_eq_false, ↓ih]
theorem xhu {L n : Nat} (hn : 2 ≤ n) (l : List Str) (hl : l.length ≤ 4294967296) (hL : 2 ^ 60 ≤ L) : evCall env L n 20 [.d (.ivs l.length (strsL l)), .d (.ivs l.length (strsL l))] [] = some (.d (.bool true), []) := by
  obtain ⟨n, rfl⟩ : ∃ m, n = m + 1 := ⟨n - 1, by omega⟩
  rw [xuc]
  simp only [xou, Try.f20, SLM, simprocAttr]
  simp -implicitDefEqProofs (maxSteps := 2000000) (disch := first | assumption | (refine Shut.mk ?_; kernel_rfl) | omega | (simp only [GT]; done) | (simp only [LN] <;> omega) | fail) only [↓DN, ↓kAsg, ↓kRet, UP, simprocAttr, ↓xrw, SE]
theorem xtu {R : Type} {L n : Nat} {hq : H} {k : A → H → Option R} (hn : 2 ≤ n) (l : List Str) (hl : l.length ≤ 4294967296) (hL : 2 ^ 60 ≤ L) : kCall env (evCall env L n) hq 20 [.d (.ivs l.length (strsL l)), .d (.ivs l.length (strsL l))] k = k (.d (.bool true)) hq :=
  kCall_still rfl (xhu hn l hl hL) rfl (.inl rfl)
theorem xtd {R : Type} {L n : Nat} {k : A → Option R} (hn : 2 ≤ n) (l : List Str) (hl : l.length ≤ 4294967296) (hL : 2 ^ 60 ≤ L) : kLent (evCall env L n) 20 [.d (.ivs l.length (strsL l)), .d (.ivs l.length (strsL l))] k = k (.d (.bool true)) :=
  kLent_ev (xhu hn l hl hL) rfl
theorem xs2 {R : Type} {L n : Nat} {hq : H} {k : A → H → Option R} {id0 g0 o0 len0 : Nat} {l : List Str} : kCall env (evCall env L n) hq 20 [.sl id0 g0 o0 len0, .d (.ivs l.length (strsL l))] k = match box (lentA hq [.sl id0 g0 o0 len0, .d (.ivs l.length (strsL l))]) with
    | .mk (some fs) => kLent (evCall env L n) 20 fs fun r => k r hq
    | _ => none := kCall_lent x5o
theorem xrz {R : Type} {L n : Nat} {hq : H} {k : A → H → Option R} {id1 g1 o1 len1 : Nat} {l : List Str} : kCall env (evCall env L n) hq 20 [.d (.ivs l.length (strsL l)), .sl id1 g1 o1 len1] k = match box (lentA hq [.d (.ivs l.length (strsL l)), .sl id1 g1 o1 len1]) with
    | .mk (some fs) => kLent (evCall env L n) 20 fs fun r => k r hq
    | _ => none := kCall_lent x5o
theorem xsb {R : Type} {L n : Nat} {hq : H} {k : A → H → Option R} {id1 g1 o1 len1 : Nat} {id0 g0 o0 len0 : Nat}  : kCall env (evCall env L n) hq 20 [.sl id0 g0 o0 len0, .sl id1 g1 o1 len1] k = match box (lentA hq [.sl id0 g0 o0 len0, .sl id1 g1 o1 len1]) with
    | .mk (some fs) => kLent (evCall env L n) 20 fs fun r => k r hq
    | _ => none := kCall_lent x5o
def isAtS (l : List Str) (v : Str) (i : Nat) : Bool := decide (l.getD i [] = v)
theorem seekS_mem {l : List Str} {v : Str} : (seek (isAtS l v) l.length 0).isSome = decide (v ∈ l) := by
  have h : (seek (isAtS l v) l.length 0).isSome = true ↔ v ∈ l := by
    constructor
    · intro h
      cases hs : seek (isAtS l v) l.length 0 with
      | none => rw [hs] at h; cases h
      | some r =>
        obtain ⟨h1, h2, h3, _⟩ := seek_some hs
        unfold isAtS at h3
        rw [decide_eq_true_eq] at h3
        rw [← h3]
        exact getD_mem (by omega)
    · intro h
      obtain ⟨i, hi, rfl⟩ := List.getElem_of_mem h
      cases hs : seek (isAtS l l[i]) l.length 0 with
      | some r => rfl
      | none =>
        have := seek_none.1 hs i (by omega) (by omega)
        unfold isAtS at this
        rw [List.getD_eq_getElem?_getD, List.getElem?_eq_getElem hi] at this
        simp at this
  cases hb : (seek (isAtS l v) l.length 0).isSome with
  | true => rw [decide_eq_true (h.1 hb)]
  | false => rw [decide_eq_false fun hv => by rw [h.2 hv] at hb; cases hb]
theorem xuf {R : Type} {L n : Nat} (hn : 1 ≤ n) {l : List Str} {v : Str} (hl : l.length ≤ 4294967296) {k : Exit → List A → H → Option R} : ∀ (j i m : Nat) (hi : i + j = l.length) (hm : j < m),
    kLoop env (evCall env L n) L 0 [] (U2 (Z2 (U2 (Z8 (Z4 ([])))))) (xcl 0) (Z2 (U2 (Z2 (U8 (U4 ([])))))) m (.d (.ivs l.length (strsL l)) :: .d (.str v) :: Y2 (.d (.bool false) :: .d (.int .i64 ((i : Int))) :: Y8 (Y4 ([])))) [] k
    = match seek (isAtS l v) j i with
      | none => k (.exit 0) (.d (.ivs l.length (strsL l)) :: .d (.str v) :: Y2 (.d (.bool false) :: .d (.int .i64 (l.length)) :: Y8 (Y4 ([])))) []
      | some q => k .ret (.d (.ivs l.length (strsL l)) :: .d (.str v) :: Y2 (.d (.bool true) :: .d (.int .i64 ((q : Int))) :: Y8 (Y4 ([])))) [] := by
  intro j
  induction j with
  | zero =>
    intro i m hi hm
    obtain ⟨m, rfl⟩ : ∃ q, m = q + 1 := ⟨m - 1, by omega⟩
    obtain rfl : i = l.length := by omega
    rw [xdy]
    simp only [xe5, Try.f57, SLM, simprocAttr]
    simp -implicitDefEqProofs (maxSteps := 2000000) (disch := first | assumption | (refine Shut.mk ?_; kernel_rfl) | omega | (simp only [GT]; done) | (simp only [LN] <;> omega) | fail) only [↓DN, ↓kAsg, ↓kRet, UP, simprocAttr, SE, Int.lt_irrefl]
    rfl
  | succ j ih =>
    intro i m hi hm
    obtain ⟨m, rfl⟩ : ∃ q, m = q + 1 := ⟨m - 1, by omega⟩
    have hc : (i : Int) < l.length := by omega
    have hk : i < l.length := by omega
    have hi0 : (0 : Int) ≤ i := by omega
    by_cases h1 : l.getD i [] = v
    · have hb : isAtS l v i = true := by unfold isAtS; rw [decide_eq_true h1]
      rw [seek_pos hb]
      clear ih
      rw [xdy]
      simp only [xe5, Try.f57, SLM, simprocAttr]
      simp -implicitDefEqProofs (maxSteps := 2000000) (disch := first | assumption | (refine Shut.mk ?_; kernel_rfl) | omega | (simp only [GT]; done) | (simp only [LN] <;> omega) | fail) only [↓DN, ↓kAsg, ↓kRet, UP, simprocAttr, SE, hc, hi0, h1, Int.toNat_natCast, beq_self_eq_true]
    · have hb : isAtS l v i = false := by unfold isAtS; rw [decide_eq_false h1]
      rw [seek_neg hb]
      have ih' := ih (i + 1) m (by omega) (by omega)
      rw [show ((i + 1 : Nat) : Int) = (i : Int) + 1 by omega] at ih'
      have h2 : (l.getD i [] == v) = false := by simpa using h1
      clear ih
      rw [xdy]
      simp only [xe5, Try.f57, SLM, simprocAttr]
      simp -implicitDefEqProofs (maxSteps := 2000000) (disch := first | assumption | (refine Shut.mk ?_; kernel_rfl) | omega | (simp only [GT]; done) | (simp only [LN] <;> omega) | fail) only [↓DN, ↓kAsg, ↓kRet, UP, simprocAttr, SE, hc, hi0, h2, Int.toNat_natCast, ↓ih']
theorem xr1 {L n : Nat} (hn : 2 ≤ n) (l : List Str) (v : List UInt8) (hl : l.length ≤ 4294967296) (hL : 2 ^ 60 ≤ L) : evCall env L n 57 [.d (.ivs l.length (strsL l)), .d (.str v)] [] = some (.d (.bool (decide (v ∈ l))), []) := by
  have loop_c := fun {R : Type} {n : Nat} {k : Exit → List A → H → Option R} (hn : 1 ≤ n) => @xuf R L n hn l v hl k l.length 0 L (by omega) (by omega)
  rw [← seekS_mem]
  simp only [Int.natCast_zero] at loop_c
  cases hs : seek (isAtS l v) l.length 0 with
  | none =>
    rw [hs] at loop_c
    simp only [Option.isSome_none]
    obtain ⟨n, rfl⟩ : ∃ m, n = m + 1 := ⟨n - 1, by omega⟩
    rw [xri]
    simp only [xnd, Try.f57, SLM, simprocAttr]
    simp -implicitDefEqProofs (maxSteps := 2000000) (disch := first | assumption | (refine Shut.mk ?_; kernel_rfl) | omega | (simp only [GT]; done) | (simp only [LN] <;> omega) | fail) only [↓DN, ↓kAsg, ↓kRet, UP, simprocAttr, SE, ↓loop_c]
  | some q =>
    rw [hs] at loop_c
    simp only [Option.isSome_some]
    obtain ⟨n, rfl⟩ : ∃ m, n = m + 1 := ⟨n - 1, by omega⟩
    rw [xri]
    simp only [xnd, Try.f57, SLM, simprocAttr]
    simp -implicitDefEqProofs (maxSteps := 2000000) (disch := first | assumption | (refine Shut.mk ?_; kernel_rfl) | omega | (simp only [GT]; done) | (simp only [LN] <;> omega) | fail) only [↓DN, ↓kAsg, ↓kRet, UP, simprocAttr, SE, ↓loop_c]
theorem x67 {R : Type} {L n : Nat} {hq : H} {k : A → H → Option R} (hn : 2 ≤ n) (l : List Str) (v : List UInt8) (hl : l.length ≤ 4294967296) (hL : 2 ^ 60 ≤ L) : kCall env (evCall env L n) hq 57 [.d (.ivs l.length (strsL l)), .d (.str v)] k = k (.d (.bool (decide (v ∈ l)))) hq :=
  kCall_still rfl (xr1 hn l v hl hL) rfl (.inl rfl)
theorem x8w {R : Type} {L n : Nat} {k : A → Option R} (hn : 2 ≤ n) (l : List Str) (v : List UInt8) (hl : l.length ≤ 4294967296) (hL : 2 ^ 60 ≤ L) : kLent (evCall env L n) 57 [.d (.ivs l.length (strsL l)), .d (.str v)] k = k (.d (.bool (decide (v ∈ l)))) :=
  kLent_ev (xr1 hn l v hl hL) rfl
theorem x5d {R : Type} {L n : Nat} {hq : H} {k : A → H → Option R} {id0 g0 o0 len0 : Nat} {v : List UInt8} : kCall env (evCall env L n) hq 57 [.sl id0 g0 o0 len0, .d (.str v)] k = match box (lentA hq [.sl id0 g0 o0 len0, .d (.str v)]) with
    | .mk (some fs) => kLent (evCall env L n) 57 fs fun r => k r hq
    | _ => none := kCall_lent xhf
theorem xbb {R : Type} {L n : Nat} (hn : 1 ≤ n) {l : List Str} {v : Str} {i5 : A} (hl : l.length ≤ 4294967296) {k : Exit → List A → H → Option R} : ∀ (j i m : Nat) (hi : i + j = l.length) (hm : j < m),
    kLoop env (evCall env L n) L 0 [] (U2 (Z2 (U1 (Z2 (U2 (Z8 (Z2 ([])))))))) (x1v 0) (Z2 (U2 (Z1 (U2 (Z2 (U8 (U2 ([])))))))) m (.d (.ivs l.length (strsL l)) :: .d (.str v) :: Y2 (.d (.int .i64 0) :: Y2 (.d (.int .i64 (l.length)) :: .d (.int .i64 ((i : Int))) :: Y8 (Y2 ([]))))) [] k
    = match seek (isAtS l v) j i with
      | none => k (.exit 0) (.d (.ivs l.length (strsL l)) :: .d (.str v) :: Y2 (.d (.int .i64 0) :: Y2 (.d (.int .i64 (l.length)) :: .d (.int .i64 (l.length)) :: Y8 (Y2 ([]))))) []
      | some q => k .ret (.d (.ivs l.length (strsL l)) :: .d (.str v) :: Y2 (.d (.int .i64 ((q : Int))) :: Y2 (.d (.int .i64 (l.length)) :: .d (.int .i64 ((q : Int))) :: Y8 (Y2 ([]))))) [] := by
  intro j
  induction j with
  | zero =>
    intro i m hi hm
    obtain ⟨m, rfl⟩ : ∃ q, m = q + 1 := ⟨m - 1, by omega⟩
    obtain rfl : i = l.length := by omega
    rw [x3q]
    simp only [x31, Try.f90, SLM, simprocAttr]
    simp -implicitDefEqProofs (maxSteps := 2000000) (disch := first | assumption | (refine Shut.mk ?_; kernel_rfl) | omega | (simp only [GT]; done) | (simp only [LN] <;> omega) | fail) only [↓DN, ↓kAsg, ↓kRet, UP, simprocAttr, SE, Int.lt_irrefl]
    rfl
  | succ j ih =>
    intro i m hi hm
    obtain ⟨m, rfl⟩ : ∃ q, m = q + 1 := ⟨m - 1, by omega⟩
    have hc : (i : Int) < l.length := by omega
    have hk : i < l.length := by omega
    have hi0 : (0 : Int) ≤ i := by omega
    by_cases h1 : l.getD i [] = v
    · have hb : isAtS l v i = true := by unfold isAtS; rw [decide_eq_true h1]
      rw [seek_pos hb]
      clear ih
      rw [x3q]
      simp only [x31, Try.f90, SLM, simprocAttr]
      simp -implicitDefEqProofs (maxSteps := 2000000) (disch := first | assumption | (refine Shut.mk ?_; kernel_rfl) | omega | (simp only [GT]; done) | (simp only [LN] <;> omega) | fail) only [↓DN, ↓kAsg, ↓kRet, UP, simprocAttr, SE, hc, hi0, h1, Int.toNat_natCast, beq_self_eq_true]
    · have hb : isAtS l v i = false := by unfold isAtS; rw [decide_eq_false h1]
      rw [seek_neg hb]
      have ih' := ih (i + 1) m (by omega) (by omega)
      rw [show ((i + 1 : Nat) : Int) = (i : Int) + 1 by omega] at ih'
      have h2 : (v == l.getD i []) = false := by simpa using fun h => h1 h.symm
      clear ih
      rw [x3q]
      simp only [x31, Try.f90, SLM, simprocAttr]
      simp -implicitDefEqProofs (maxSteps := 2000000) (disch := first | assumption | (refine Shut.mk ?_; kernel_rfl) | omega | (simp only [GT]; done) | (simp only [LN] <;> omega) | fail) only [↓DN, ↓kAsg, ↓kRet, UP, simprocAttr, SE, hc, hi0, h2, Int.toNat_natCast, ↓ih']
def indexS (l : List Str) (v : Str) : Int := match seek (isAtS l v) l.length 0 with | none => -1 | some q => q
theorem x6c {L n : Nat} (hn : 2 ≤ n) (l : List Str) (v : List UInt8) (hl : l.length ≤ 4294967296) (hL : 2 ^ 60 ≤ L) : evCall env L n 90 [.d (.ivs l.length (strsL l)), .d (.str v)] [] = some (.d (.int .i64 (indexS l v)), []) := by
  have loop_c := fun {R : Type} {n : Nat} {k : Exit → List A → H → Option R} (hn : 1 ≤ n) => @xbb R L n hn l v (.junk) hl k l.length 0 L (by omega) (by omega)
  simp only [Int.natCast_zero] at loop_c
  unfold indexS
  cases hs : seek (isAtS l v) l.length 0 with
  | none =>
    rw [hs] at loop_c
    simp only
    obtain ⟨n, rfl⟩ : ∃ m, n = m + 1 := ⟨n - 1, by omega⟩
    rw [x6d]
    simp only [x54, Try.f90, SLM, simprocAttr]
    simp -implicitDefEqProofs (maxSteps := 2000000) (disch := first | assumption | (refine Shut.mk ?_; kernel_rfl) | omega | (simp only [GT]; done) | (simp only [LN] <;> omega) | fail) only [↓DN, ↓kAsg, ↓kRet, UP, simprocAttr, SE, ↓loop_c]
  | some q =>
    rw [hs] at loop_c
    simp only
    obtain ⟨n, rfl⟩ : ∃ m, n = m + 1 := ⟨n - 1, by omega⟩
    rw [x6d]
    simp only [x54, Try.f90, SLM, simprocAttr]
    simp -implicitDefEqProofs (maxSteps := 2000000) (disch := first | assumption | (refine Shut.mk ?_; kernel_rfl) | omega | (simp only [GT]; done) | (simp only [LN] <;> omega) | fail) only [↓DN, ↓kAsg, ↓kRet, UP, simprocAttr, SE, ↓loop_c]
theorem xcq {R : Type} {L n : Nat} {hq : H} {k : A → H → Option R} (hn : 2 ≤ n) (l : List Str) (v : List UInt8) (hl : l.length ≤ 4294967296) (hL : 2 ^ 60 ≤ L) : kCall env (evCall env L n) hq 90 [.d (.ivs l.length (strsL l)), .d (.str v)] k = k (.d (.int .i64 (indexS l v))) hq :=
  kCall_still rfl (x6c hn l v hl hL) rfl (.inl rfl)
theorem xcp {R : Type} {L n : Nat} {k : A → Option R} (hn : 2 ≤ n) (l : List Str) (v : List UInt8) (hl : l.length ≤ 4294967296) (hL : 2 ^ 60 ≤ L) : kLent (evCall env L n) 90 [.d (.ivs l.length (strsL l)), .d (.str v)] k = k (.d (.int .i64 (indexS l v))) :=
  kLent_ev (x6c hn l v hl hL) rfl
theorem xba {R : Type} {L n : Nat} {hq : H} {k : A → H → Option R} {id0 g0 o0 len0 : Nat} {v : List UInt8} : kCall env (evCall env L n) hq 90 [.sl id0 g0 o0 len0, .d (.str v)] k = match box (lentA hq [.sl id0 g0 o0 len0, .d (.str v)]) with
    | .mk (some fs) => kLent (evCall env L n) 90 fs fun r => k r hq
    | _ => none := kCall_lent x3y
theorem indexS_iff {l : List Str} {v : Str} : decide (0 ≤ indexS l v) = decide (v ∈ l) := by
  rw [← seekS_mem]
  unfold indexS
  cases seek (isAtS l v) l.length 0 with
  | none => rfl
  | some q => simp
theorem x5r {L n : Nat} (hn : 3 ≤ n) (l : List Str) (v : List UInt8) (hl : l.length ≤ 4294967296) (hL : 2 ^ 60 ≤ L) : evCall env L n 61 [.d (.ivs l.length (strsL l)), .d (.str v)] [] = some (.d (.bool (decide (v ∈ l))), []) := by
  rw [← indexS_iff]
  obtain ⟨n, rfl⟩ : ∃ m, n = m + 1 := ⟨n - 1, by omega⟩
  rw [xay]
  simp only [x5y, Try.f61, SLM, simprocAttr]
  simp -implicitDefEqProofs (maxSteps := 2000000) (disch := first | assumption | (refine Shut.mk ?_; kernel_rfl) | omega | (simp only [GT]; done) | (simp only [LN] <;> omega) | fail) only [↓DN, ↓kAsg, ↓kRet, UP, simprocAttr, ↓xcq, ↓xcp, ↓xba, SE]
theorem xx {R : Type} {L n : Nat} {hq : H} {k : A → H → Option R} (hn : 3 ≤ n) (l : List Str) (v : List UInt8) (hl : l.length ≤ 4294967296) (hL : 2 ^ 60 ≤ L) : kCall env (evCall env L n) hq 61 [.d (.ivs l.length (strsL l)), .d (.str v)] k = k (.d (.bool (decide (v ∈ l)))) hq :=
  kCall_still rfl (x5r hn l v hl hL) rfl (.inl rfl)
theorem x1d {R : Type} {L n : Nat} {k : A → Option R} (hn : 3 ≤ n) (l : List Str) (v : List UInt8) (hl : l.length ≤ 4294967296) (hL : 2 ^ 60 ≤ L) : kLent (evCall env L n) 61 [.d (.ivs l.length (strsL l)), .d (.str v)] k = k (.d (.bool (decide (v ∈ l)))) :=
  kLent_ev (x5r hn l v hl hL) rfl
theorem xm {R : Type} {L n : Nat} {hq : H} {k : A → H → Option R} {id0 g0 o0 len0 : Nat} {v : List UInt8} : kCall env (evCall env L n) hq 61 [.sl id0 g0 o0 len0, .d (.str v)] k = match box (lentA hq [.sl id0 g0 o0 len0, .d (.str v)]) with
    | .mk (some fs) => kLent (evCall env L n) 61 fs fun r => k r hq
    | _ => none := kCall_lent x3n
end Ev
end Go.Proofs.Ytppdfjdfjfoddaa
