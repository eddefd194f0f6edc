/-
  The words of an alphabet, counted.
-/
import Derived.Test.YtppdfjdfjfoddaaSwapD
import Derived.Test.YtppdfjdfjfoddaaAutoL
import Derived.Test.YtppdfjdfjfoddaaAnyA
import Derived.Test.YtppdfjdfjfoddaaAgA
section
set_option linter.unusedSimpArgs false
set_option linter.unusedVariables false
set_option maxRecDepth 8000
set_option pp.maxSteps 6000
set_option maxHeartbeats 4000000
namespace Go.Proofs.Ytppdfjdfjfoddaa
namespace Ev
def swp (l : List UInt8) (i j : Nat) : List UInt8 := (l.set i (l.getD j 0)).set j (l.getD i 0)
theorem swp_len (l : List UInt8) (i j : Nat) : (swp l i j).length = l.length := by simp [swp]
theorem swp_mem {l : List UInt8} {i j : Nat} (hi : i < l.length) (hj : j < l.length) {b : UInt8} (h : b ∈ swp l i j) : b ∈ l := by
 unfold swp at h
 have key : ∀ {l' : List UInt8} {k : Nat} {v b : UInt8}, b ∈ l'.set k v → b ∈ l' ∨ b = v := fun h => List.mem_or_eq_of_mem_set h
 have at' : ∀ {k : Nat}, k < l.length → l.getD k 0 ∈ l := fun hk => by
  rw [List.getD_eq_getElem?_getD, List.getElem?_eq_getElem hk]; exact List.getElem_mem hk
 rcases key h with h | h
 ·rcases key h with h | h
  ·exact h
  ·rw [h]; exact at' hj
 ·rw [h]; exact at' hi
def revG : Nat → Int → Int → List UInt8 → Int × Int × List UInt8
 | 0, i, j, l => (i, j, l)
 | q + 1, i, j, l => if i < j then revG q (i + 1) (j - 1) (swp l i.toNat j.toNat) else (i, j, l)
theorem revG_props : ∀ (q : Nat) (i j : Int) (l : List UInt8), 0 ≤ i → j < l.length → (revG q i j l).2.2.length = l.length ∧ ∀ b ∈ (revG q i j l).2.2, b ∈ l
 | 0, i, j, l, _, _ => ⟨rfl, fun b h => h⟩
 | q + 1, i, j, l, h0, h1 => by
  unfold revG
  split
  ·rename_i hlt
   have ih := revG_props q (i + 1) (j - 1) (swp l i.toNat j.toNat) (by omega) (by rw [swp_len]; omega)
   rw [swp_len] at ih
   exact ⟨ih.1, fun b hb => swp_mem (by omega) (by omega) (ih.2 b hb)⟩
  ·exact ⟨rfl, fun b h => h⟩
theorem xpq {call : CallF} {thaw : List Nat} {dst : Option Tmp} {x y : Operand} {g k : Nat} {l : List UInt8} {b : UInt8} (hk : k < l.length) : memD env call thaw dst (.store 5 x y) [.arr (bytesL l) 1 g] [.ptr 0 g k, .d (.int .u8 (b.toNat : Int))] = some (.d .undef, [.arr (bytesL (l.set k b)) 1 g], { ids := [0], ro := false, wr := [0] }) := by
 have hst := xo4 (h := []) (g := g) (e := 1) (b := b) hk
 have e1 : reach fuelR [O.arr (bytesL l) 1 g] (idsL [.ptr 0 g k, .d (.int .u8 (b.toNat : Int))]) [] = [0] := rfl
 have e2 : pack [O.arr (bytesL l) 1 g] [0] = [O.arr (bytesL l) 1 g] := rfl
 have e3 : mapAs (place [0]) [.ptr 0 g k, .d (.int .u8 (b.toNat : Int))] = [.ptr 0 g k, .d (.int .u8 (b.toNat : Int))] := rfl
 unfold memD
 rw [e1]
 simp only [box]
 rw [e2, e3]
 simp only [evOp, asOper, two, hst, Option.map_some]
 rfl
theorem xpn {R : Type} {L n g : Nat} {k : Exit → List A → H → Option R} : ∀ (q : Nat) (i j : Int) (m : Nat) (l : List UInt8) (len : Nat) (h0 : 0 ≤ i) (hj : j < l.length) (hq : j - i < q) (hm : q < m) (hl : len = l.length) (hs : l.length ≤ 2147483648) (hj0 : -1 ≤ j),
  kLoop env (evCall env L n) L 1 [] (U1 (Z1 (U2 (Z16 (Z8 ([])))))) (x1j 0) (Z1 (U1 (Z2 (U16 (U8 ([])))))) m (.sl 0 g 0 len :: Y1 (.d (.int .i64 i) :: .d (.int .i64 j) :: Y16 (Y8 ([])))) [.arr (bytesL l) 1 g] k
  = k (.exit 0) (.sl 0 g 0 len :: Y1 (.d (.int .i64 (((revG q i j l).1))) :: .d (.int .i64 (((revG q i j l).2.1))) :: Y16 (Y8 ([])))) [.arr (bytesL (revG q i j l).2.2) 1 g] := by
 intro q
 induction q with
 | zero =>
  intro i j m l len h0 hj hq hm hl hs hj0
  obtain ⟨m, rfl⟩ : ∃ q, m = q + 1 := ⟨m - 1, by omega⟩
  have hc : ¬ i < j := by omega
  rw [x3e]
  simp only [x2y, Try.f51, SLM, simprocAttr]
  simp -implicitDefEqProofs (maxSteps := 2000000) (disch := first | assumption | (refine Shut.mk ?_; kernel_rfl) | omega | (simp only [GT]; done) | (simp only [LN] <;> omega) | fail) only [↓DN, ↓kAsg, ↓kRet, UP, simprocAttr, hc]
  rfl
 | succ q ih =>
  intro i j m l len h0 hj hq hm hl hs hj0
  obtain ⟨m, rfl⟩ : ∃ q, m = q + 1 := ⟨m - 1, by omega⟩
  by_cases hc : i < j
  ·have hi1 : i < (len : Int) := by omega
   have hj1 : j < (len : Int) := by omega
   have hi2 : i.toNat < l.length := by omega
   have hj2 : j.toNat < l.length := by omega
   have hj3 : j.toNat < (l.set i.toNat (l.getD j.toNat 0)).length := by rw [List.length_set]; exact hj2
   have hj4 : (0 : Int) ≤ j := by omega
   have ih' := ih (i + 1) (j - 1) m (swp l i.toNat j.toNat) len (by omega) (by rw [swp_len]; omega) (by omega) (by omega) (by rw [swp_len]; exact hl) (by rw [swp_len]; exact hs) (by omega)
   unfold swp at ih'
   rw [x3e]
   simp only [x2y, Try.f51, SLM, simprocAttr]
   simp -implicitDefEqProofs (maxSteps := 2000000) (disch := first | assumption | (refine Shut.mk ?_; kernel_rfl) | omega | (simp only [GT]; done) | (simp only [LN] <;> omega) | fail) only [↓DN, ↓kAsg, ↓kRet, UP, simprocAttr, hc, u_bytes, c_uint8, bytesL_head, ↓xpq, ↓ih']
   simp only [revG, hc, if_true, swp]
  ·rw [x3e]
   simp only [x2y, Try.f51, SLM, simprocAttr]
   simp -implicitDefEqProofs (maxSteps := 2000000) (disch := first | assumption | (refine Shut.mk ?_; kernel_rfl) | omega | (simp only [GT]; done) | (simp only [LN] <;> omega) | fail) only [↓DN, ↓kAsg, ↓kRet, UP, simprocAttr, hc]
   simp only [revG, hc, if_false]
theorem xpt {L n g : Nat} (hn : 1 ≤ n) (l : List UInt8) (hs : l.length ≤ 2147483648) (hL : 2 ^ 60 ≤ L) : evCall env L n 51 [.sl 0 g 0 l.length] [.arr (bytesL l) 1 g] = some (.tup [], [.arr (bytesL (revG (l.length + 1) 0 ((l.length : Int) - 1) l).2.2) 1 g]) := by
 have lp : ∀ {R : Type} {n : Nat} {k : Exit → List A → H → Option R}, kLoop env (evCall env L n) L 1 [] (U1 (Z1 (U2 (Z16 (Z8 ([])))))) (x1j 0) (Z1 (U1 (Z2 (U16 (U8 ([])))))) L (.sl 0 g 0 l.length :: Y1 (.d (.int .i64 0) :: .d (.int .i64 (((l.length : Int) - 1))) :: Y16 (Y8 ([])))) [.arr (bytesL l) 1 g] k
  = k (.exit 0) (.sl 0 g 0 l.length :: Y1 (.d (.int .i64 (((revG (l.length + 1) 0 ((l.length : Int) - 1) l).1))) :: .d (.int .i64 (((revG (l.length + 1) 0 ((l.length : Int) - 1) l).2.1))) :: Y16 (Y8 ([])))) [.arr (bytesL (revG (l.length + 1) 0 ((l.length : Int) - 1) l).2.2) 1 g] :=
  fun {R n k} => xpn (l.length + 1) 0 _ L l l.length (Int.le_refl _) (by omega) (by omega) (by omega) rfl hs (by omega)
 have loop_a := @lp
 obtain ⟨n, rfl⟩ : ∃ m, n = m + 1 := ⟨n - 1, by omega⟩
 rw [xcj]
 simp only [x6x, Try.f51, SLM, simprocAttr]
 simp -implicitDefEqProofs (maxSteps := 2000000) (disch := first | assumption | (refine Shut.mk ?_; kernel_rfl) | omega | (simp only [GT]; done) | (simp only [LN] <;> omega) | fail) only [↓DN, ↓kAsg, ↓kRet, UP, simprocAttr, ↓loop_a]
theorem xpw {R : Type} {L n id g : Nat} {hq : H} {k : A → H → Option R} (hn : 1 ≤ n) (l : List UInt8) (hi : hq[id]? = some (.arr (bytesL l) 1 g)) (hs : l.length ≤ 2147483648) (hL : 2 ^ 60 ≤ L) : kCall env (evCall env L n) hq 51 [.sl id g 0 l.length] k = k (.tup []) (hq.set id (.arr (bytesL (revG (l.length + 1) 0 ((l.length : Int) - 1) l).2.2) 1 g)) :=
 kCall_ref hi (by simp [idsL, idsA]) x3z rfl (by simpa [mapAs, mapA, place] using xpt hn l hs hL)
def waGo (ls : List Int) : Nat → Int → List UInt8 → Bool × Int × List UInt8
 | 0, n, o => (false, n, o)
 | j + 1, n, o => if 0 < n then (if ls.length = 0 ∨ o.length = 7 then (false, n, o) else waGo ls j ((n - 1) / ls.length) (o ++ [byteI (ls.getD ((n - 1) % ls.length).toNat 0)])) else (true, n, o)
theorem waGo_mem {ls : List Int} : ∀ (j : Nat) (n : Int) (o : List UInt8), o.length ≤ 7 → (waGo ls j n o).2.2.length ≤ 7 ∧ ∀ b ∈ (waGo ls j n o).2.2, b ∈ o ∨ ∃ l ∈ ls, b = byteI l
 | 0, n, o, ho => ⟨ho, fun b h => .inl h⟩
 | j + 1, n, o, ho => by
  unfold waGo
  split
  ·split
   ·exact ⟨ho, fun b h => .inl h⟩
   ·rename_i hlt hne
    have hpos : 0 < ls.length := by omega
    have hm : ((n - 1) % (ls.length : Int)).toNat < ls.length := by
     have h1 := Int.emod_nonneg (n - 1) (b := (ls.length : Int)) (by omega)
     have h2 := Int.emod_lt_of_pos (n - 1) (b := (ls.length : Int)) (by omega)
     omega
    have ih := waGo_mem (ls := ls) j ((n - 1) / ls.length) (o ++ [byteI (ls.getD ((n - 1) % ls.length).toNat 0)]) (by simp; omega)
    refine ⟨ih.1, fun b hb => ?_⟩
    rcases ih.2 b hb with h | h
    ·rcases List.mem_append.1 h with h | h
     ·exact .inl h
     ·refine .inr ⟨_, ?_, List.mem_singleton.1 h⟩
      rw [List.getD_eq_getElem?_getD, List.getElem?_eq_getElem hm]
      exact List.getElem_mem hm
    ·exact .inr h
  ·exact ⟨ho, fun b h => .inl h⟩
def wordAt (n al : Int) : List UInt8 × Bool :=
 if isAlpha al && decide (0 ≤ n) then
  (if (waGo (letters al) 8 n []).1 then ((revG ((waGo (letters al) 8 n []).2.2.length + 1) 0 (((waGo (letters al) 8 n []).2.2.length : Int) - 1) (waGo (letters al) 8 n []).2.2).2.2, true) else ([], false))
 else ([], false)
theorem wordAt_in {n al : Int} (h : (wordAt n al).2 = true) : wordIn al (wordAt n al).1 = true := by
 unfold wordAt at h ⊢
 split at h
 ·rename_i hc
  rw [if_pos hc]
  split at h
  ·rename_i hw
   rw [if_pos hw]
   simp only [Bool.and_eq_true] at hc
   obtain ⟨h1, h2⟩ := waGo_mem (ls := letters al) 8 n [] (by simp)
   obtain ⟨h3, h4⟩ := revG_props ((waGo (letters al) 8 n []).2.2.length + 1) 0 (((waGo (letters al) 8 n []).2.2.length : Int) - 1) (waGo (letters al) 8 n []).2.2 (Int.le_refl _) (by omega)
   unfold wordIn
   simp only [Bool.and_eq_true, decide_eq_true_eq, List.all_eq_true]
   refine ⟨⟨hc.1, by omega⟩, fun b hb => ?_⟩
   rcases h2 b (h4 b hb) with h | ⟨l, hl, rfl⟩
   ·cases h
   ·unfold letters at hl
    rw [List.mem_filter] at hl
    have hl6 : 0 ≤ l ∧ l ≤ 5 := by
     have := hl.1
     simp only [List.mem_cons, List.not_mem_nil, or_false] at this
     omega
    unfold inB okB
    rw [ltr_byteI hl6.1 hl6.2, hl.2]
    simp [isLet]
    omega
  ·cases h
 ·cases h
theorem xcr {R : Type} {L n : Nat} (hn : 1 ≤ n) {ls : List Int} (hls : ls.length ≤ 6) (hlv : ∀ l ∈ ls, 0 ≤ l ∧ l ≤ 5) {k : Exit → List A → H → Option R} : ∀ (j : Nat) (c : Int) (m : Nat) (o : List UInt8) (len : Nat) (hl : len = o.length) (ho : o.length + j = 8) (hj : 1 ≤ j) (hm : j < m) (hc0 : 0 ≤ c) (hc1 : c ≤ 1000000),
  kLoop env (evCall env L n) L 0 [0, 0, 0, 0, 0, 0, 0, 2] (U1 (Z2 (Z1 (U4 (Z32 (Z8 ([]))))))) (x9b 0) (Z1 (U2 (U1 (Z4 (U32 (U8 ([]))))))) m (.d (.int .i64 c) :: Y2 (Y1 (.d (.str ([])) :: .d (.bool false) :: .d (.ivs ls.length (ints ls)) :: .sl 0 0 0 len :: Y32 (Y8 ([]))))) [.arr (bytesL o) 1 0] k
  = if (waGo ls j c o).1 then k (.exit 0) (.d (.int .i64 (((waGo ls j c o).2.1))) :: Y2 (Y1 (.d (.str ([])) :: .d (.bool false) :: .d (.ivs ls.length (ints ls)) :: .sl 0 0 0 (waGo ls j c o).2.2.length :: Y32 (Y8 ([]))))) [.arr (bytesL (waGo ls j c o).2.2) 1 0] else k .ret (.d (.int .i64 (((waGo ls j c o).2.1))) :: Y2 (Y1 (.d (.str ([])) :: .d (.bool false) :: .d (.ivs ls.length (ints ls)) :: .sl 0 0 0 (waGo ls j c o).2.2.length :: Y32 (Y8 ([]))))) [.arr (bytesL (waGo ls j c o).2.2) 1 0] := by
 intro j
 induction j with
 | zero => intro c m o len hl ho hj; omega
 | succ j ih =>
  intro c m o len hl ho hj hm hc0 hc1
  obtain ⟨m, rfl⟩ : ∃ q, m = q + 1 := ⟨m - 1, by omega⟩
  subst hl
  by_cases h1 : 0 < c
  ·by_cases h2 : ls.length = 0
   ·have h2' : (ls.length : Int) = 0 := by omega
    rw [x77]
    simp only [x7x, Try.f12, SLM, simprocAttr]
    simp -implicitDefEqProofs (maxSteps := 2000000) (disch := first | assumption | (refine Shut.mk ?_; kernel_rfl) | omega | (simp only [GT]; done) | (simp only [LN] <;> omega) | fail) only [↓DN, ↓kAsg, ↓kRet, UP, simprocAttr, ↓x4, ↓x3, ↓x15, h1, h2']
    simp only [waGo, h1, h2, if_true, true_or, Bool.false_eq_true, if_false]
   ·have h2' : ¬ (ls.length : Int) = 0 := by omega
    by_cases h3 : o.length = 7
    ·have h3' : (o.length : Int) = 7 := by omega
     rw [x77]
     simp only [x7x, Try.f12, SLM, simprocAttr]
     simp -implicitDefEqProofs (maxSteps := 2000000) (disch := first | assumption | (refine Shut.mk ?_; kernel_rfl) | omega | (simp only [GT]; done) | (simp only [LN] <;> omega) | fail) only [↓DN, ↓kAsg, ↓kRet, UP, simprocAttr, ↓x4, ↓x3, ↓x15, h1, h2', h3']
     simp only [waGo, h1, h2, h3, if_true, or_true, Bool.false_eq_true, if_false]
    ·have h3' : ¬ (o.length : Int) = 7 := by omega
     have hpos : 0 < (ls.length : Int) := by omega
     have q1 := Int.emod_nonneg (c - 1) (b := (ls.length : Int)) (by omega)
     have q2 := Int.emod_lt_of_pos (c - 1) hpos
     have q3 : (c - 1).tmod (ls.length : Int) = (c - 1) % ls.length := Int.tmod_eq_emod_of_nonneg (by omega)
     have q4 : (c - 1).tdiv (ls.length : Int) = (c - 1) / ls.length := Int.tdiv_eq_ediv_of_nonneg (by omega)
     have q5 : 0 ≤ (c - 1) / (ls.length : Int) := Int.ediv_nonneg (by omega) (by omega)
     have q6 : (c - 1) / (ls.length : Int) ≤ c - 1 := Int.ediv_le_self _ (by omega)
     have q7 : IntKind.i64.wrap ((c - 1) / (ls.length : Int)) = (c - 1) / ls.length := i64_id (by omega) (by omega)
     have hk : ((c - 1) % (ls.length : Int)).toNat < ls.length := by omega
     have hmem : ls.getD ((c - 1) % (ls.length : Int)).toNat 0 ∈ ls := by
      rw [List.getD_eq_getElem?_getD, List.getElem?_eq_getElem hk]; exact List.getElem_mem hk
     have hb := hlv _ hmem
     have hb0 := hb.1
     have hb5 := hb.2
     have hlen : o.length + 1 = (o ++ [byteI (ls.getD ((c - 1) % (ls.length : Int)).toNat 0)]).length := by simp
     have ih' := ih ((c - 1) / ls.length) m (o ++ [byteI (ls.getD ((c - 1) % ls.length).toNat 0)]) (o.length + 1) hlen (by simp; omega) (by omega) (by omega) q5 (by omega)
     clear ih hmem hb
     rw [x77]
     simp only [x7x, Try.f12, SLM, simprocAttr]
     simp -implicitDefEqProofs (maxSteps := 2000000) (disch := first | assumption | (refine Shut.mk ?_; kernel_rfl) | omega | (simp only [GT]; done) | (simp only [LN] <;> omega) | fail) only [↓DN, ↓kAsg, ↓kRet, UP, simprocAttr, ↓x4, ↓x3, h1, h2', h3', q3, q4, q7, ↓x15, ints_head, u_bytes, elemT_bytes, e_uint8, z_uint8, c_uint8, bytesL_length, bytesL_take, bytesL_snoc, ↓ih']
     simp only [waGo, h1, h2, h3, if_true, if_false, or_self]
  ·rw [x77]
   simp only [x7x, Try.f12, SLM, simprocAttr]
   simp -implicitDefEqProofs (maxSteps := 2000000) (disch := first | assumption | (refine Shut.mk ?_; kernel_rfl) | omega | (simp only [GT]; done) | (simp only [LN] <;> omega) | fail) only [↓DN, ↓kAsg, ↓kRet, UP, simprocAttr, ↓x4, ↓x3, ↓x15, h1]
   simp only [waGo, h1, if_false, if_true]
theorem letters_let {al : Int} : ∀ l ∈ letters al, 0 ≤ l ∧ l ≤ 5 := by
 intro l hl
 unfold letters at hl
 have := (List.mem_filter.1 hl).1
 simp only [List.mem_cons, List.not_mem_nil, or_false] at this
 omega
theorem letters_le6 (al : Int) : (letters al).length ≤ 6 := by
 unfold letters
 exact Nat.le_trans (List.length_filter_le _ _) (by simp)
theorem xob {L n : Nat} (hn : 3 ≤ n) (c al : Int) (hc1 : c ≤ 1000000) (hL : 2 ^ 60 ≤ L) : evCall env L n 12 [.d (.int .i64 c), .d (.int .i64 al)] [] = some (.tup [.d (.str (wordAt c al).1), .d (.bool (wordAt c al).2)], []) := by
 unfold wordAt
 cases ha : isAlpha al with
 | false =>
  obtain ⟨n, rfl⟩ : ∃ m, n = m + 1 := ⟨n - 1, by omega⟩
  rw [xc0]
  simp only [xa2, Try.f12, SLM, simprocAttr]
  simp -implicitDefEqProofs (maxSteps := 2000000) (disch := first | assumption | (refine Shut.mk ?_; kernel_rfl) | omega | (simp only [GT]; done) | (simp only [LN] <;> omega) | fail) only [↓DN, ↓kAsg, ↓kRet, UP, simprocAttr, ↓x4, ↓x3, ↓x15, ↓xcr, ha, Bool.false_and]
 | true =>
  by_cases h0 : c < 0
  ·have h1 : decide (0 ≤ c) = false := by simp; omega
   obtain ⟨n, rfl⟩ : ∃ m, n = m + 1 := ⟨n - 1, by omega⟩
   rw [xc0]
   simp only [xa2, Try.f12, SLM, simprocAttr]
   simp -implicitDefEqProofs (maxSteps := 2000000) (disch := first | assumption | (refine Shut.mk ?_; kernel_rfl) | omega | (simp only [GT]; done) | (simp only [LN] <;> omega) | fail) only [↓DN, ↓kAsg, ↓kRet, UP, simprocAttr, ↓x4, ↓x3, ↓x15, ↓xcr, ha, h0, h1, Bool.and_false]
  ·have h1 : decide (0 ≤ c) = true := by simp; omega
   have hl6 := letters_le6 al
   have loop_b := fun {R : Type} {n : Nat} {k : Exit → List A → H → Option R} (hn : 1 ≤ n) => @xcr R L n hn (letters al) hl6 letters_let k 8 c L [] 0 rfl rfl (by omega) (by omega) (by omega) hc1
   cases hw : (waGo (letters al) 8 c []).1 with
   | false =>
    obtain ⟨n, rfl⟩ : ∃ m, n = m + 1 := ⟨n - 1, by omega⟩
    rw [xc0]
    simp only [xa2, Try.f12, SLM, simprocAttr]
    simp -implicitDefEqProofs (maxSteps := 2000000) (disch := first | assumption | (refine Shut.mk ?_; kernel_rfl) | omega | (simp only [GT]; done) | (simp only [LN] <;> omega) | fail) only [↓DN, ↓kAsg, ↓kRet, UP, simprocAttr, ↓x4, ↓x3, ↓x15, ha, h0, h1, nil_bytes, ↓loop_b, hw]
   | true =>
    have hle := (waGo_mem (ls := letters al) 8 c [] (by simp)).1
    have hle2 := (revG_props ((waGo (letters al) 8 c []).2.2.length + 1) 0 (((waGo (letters al) 8 c []).2.2.length : Int) - 1) (waGo (letters al) 8 c []).2.2 (Int.le_refl _) (by omega)).1
    obtain ⟨n, rfl⟩ : ∃ m, n = m + 1 := ⟨n - 1, by omega⟩
    rw [xc0]
    simp only [xa2, Try.f12, SLM, simprocAttr]
    simp -implicitDefEqProofs (maxSteps := 2000000) (disch := first | assumption | (refine Shut.mk ?_; kernel_rfl) | omega | (simp only [GT]; done) | (simp only [LN] <;> omega) | fail) only [↓DN, ↓kAsg, ↓kRet, UP, simprocAttr, ↓x4, ↓x3, ↓x15, ha, h0, h1, nil_bytes, ↓loop_b, hw, ↓xpw, u_bytes, ↓conv_bytes_str]
theorem x6z {R : Type} {L n : Nat} {hq : H} {k : A → H → Option R} (hn : 3 ≤ n) (c al : Int) (hc1 : c ≤ 1000000) (hL : 2 ^ 60 ≤ L) : kCall env (evCall env L n) hq 12 [.d (.int .i64 c), .d (.int .i64 al)] k = k (.tup [.d (.str (wordAt c al).1), .d (.bool (wordAt c al).2)]) hq :=
 kCall_still rfl (xob hn c al hc1 hL) rfl (.inl rfl)
end Ev
end Go.Proofs.Ytppdfjdfjfoddaa
end

/-!
  The law: a renamed automaton leads where the automaton leads, and is renamed back.
-/
section
set_option linter.unusedSimpArgs false
set_option linter.unusedVariables false
set_option maxRecDepth 8000
set_option pp.maxSteps 6000
set_option maxHeartbeats 4000000
namespace Go.Proofs.Ytppdfjdfjfoddaa
namespace Ev
theorem wordAt_len {n al : Int} (h : (wordAt n al).2 = true) : (wordAt n al).1.length ≤ 4294967295 := by
 have := (wordIn_at (wordAt_in h)).2.1
 omega
def iEnd (al : Int) : Nat → Nat → Nat
 | 0, i => i
 | j + 1, i => if (wordAt i al).2 then iEnd al j (i + 1) else i
theorem xh9 {R : Type} {L n : Nat} (hn : 9 ≤ n) (hL : 2 ^ 60 ≤ L) {al x y al2 : Int} {nx nx2 : List (List Int)} {ac : List Bool} (hs : rowsShort nx) (hs2 : rowsShort nx2) (ha : ac.length ≤ 4294967296) (hsw : ∀ w, wordIn al w = true → stateAfter al2 nx2 ac (swapWord w x y) = stateAfter al nx ac w ∧ (swapWord w x y).length ≤ 4294967295) {k : Exit → List A → H → Option R} : ∀ (j i m : Nat) (hi : i + j = 40) (hm : j < m),
  kLoop env (evCall env L n) L 0 [] (Z2 (U4 (U1 (Z2 (Z1 (U1 (Z32 (Z32 (Z16 (Z8 ([]))))))))))) (x38 0) (U2 (Z4 (Z1 (U2 (U1 (Z1 (U32 (U32 (U16 (U8 ([]))))))))))) m (Y2 (.d (.bool false) :: .ptr 0 0 0 :: .d (.int .i64 x) :: .d (.int .i64 y) :: .ptr 1 0 0 :: Y2 (Y1 (.d (.int .i64 ((i : Int))) :: Y32 (Y32 (Y16 (Y8 ([])))))))) [.box [.d (.int .i64 al), .d (.ivs nx.length (rowsD nx)), .d (.ivs ac.length (bools ac))], .box [.d (.int .i64 al2), .d (.ivs nx2.length (rowsD nx2)), .d (.ivs ac.length (bools ac))]] k
  = k (.exit 0) (Y2 (.d (.bool false) :: .ptr 0 0 0 :: .d (.int .i64 x) :: .d (.int .i64 y) :: .ptr 1 0 0 :: Y2 (Y1 (.d (.int .i64 (((iEnd al j i : Nat) : Int))) :: Y32 (Y32 (Y16 (Y8 ([])))))))) [.box [.d (.int .i64 al), .d (.ivs nx.length (rowsD nx)), .d (.ivs ac.length (bools ac))], .box [.d (.int .i64 al2), .d (.ivs nx2.length (rowsD nx2)), .d (.ivs ac.length (bools ac))]] := by
 intro j
 induction j with
 | zero =>
  intro i m hi hm
  obtain ⟨m, rfl⟩ : ∃ q, m = q + 1 := ⟨m - 1, by omega⟩
  have hc : ¬ (i : Int) < 40 := by omega
  rw [x66]
  simp only [x5o, Try.f3, SLM, simprocAttr]
  simp -implicitDefEqProofs (maxSteps := 2000000) (disch := first | assumption | (refine Shut.mk ?_; kernel_rfl) | omega | (simp only [GT]; done) | (simp only [LN] <;> omega) | fail) only [↓DN, ↓kAsg, ↓kRet, UP, simprocAttr, ↓x3a, ↓x39, ↓x5a, ↓x6z, ↓x5v, ↓x57, ↓x9, ↓x5w, ↓x53, ↓xa, ↓x58, ↓x4l, ↓x4i, ↓x4g, ↓x4h, ↓x4k, ↓x4e, ↓x50, ↓x54, ↓x4v, ↓x59, ↓x4z, ↓x4y, ↓x52, ↓x56, ↓x3u, ↓x3t, ↓x3s, ↓x7, ↓x5, ↓x6, LA, hc]
  rfl
 | succ j ih =>
  intro i m hi hm
  obtain ⟨m, rfl⟩ : ∃ q, m = q + 1 := ⟨m - 1, by omega⟩
  have hc : (i : Int) < 40 := by omega
  have hi6 : (i : Int) ≤ 1000000 := by omega
  cases hf : (wordAt i al).2 with
  | false =>
   rw [x66]
   simp only [x5o, Try.f3, SLM, simprocAttr]
   simp -implicitDefEqProofs (maxSteps := 2000000) (disch := first | assumption | (refine Shut.mk ?_; kernel_rfl) | omega | (simp only [GT]; done) | (simp only [LN] <;> omega) | fail) only [↓DN, ↓kAsg, ↓kRet, UP, simprocAttr, ↓x3a, ↓x39, ↓x5a, ↓x6z, ↓x5v, ↓x57, ↓x9, ↓x5w, ↓x53, ↓xa, ↓x58, ↓x4l, ↓x4i, ↓x4g, ↓x4h, ↓x4k, ↓x4e, ↓x50, ↓x54, ↓x4v, ↓x59, ↓x4z, ↓x4y, ↓x52, ↓x56, ↓x3u, ↓x3t, ↓x3s, ↓x7, ↓x5, ↓x6, LA, hc, hf]
   simp only [iEnd, hf, Bool.false_eq_true, if_false]
  | true =>
   obtain ⟨hst, hl1⟩ := hsw _ (wordAt_in hf)
   have hl2 := wordAt_len hf
   have ih' := ih (i + 1) m (by omega) (by omega)
   have e4 : ((i + 1 : Nat) : Int) = (i : Int) + 1 := by omega
   rw [e4] at ih'
   clear ih hsw
   rw [x66]
   simp only [x5o, Try.f3, SLM, simprocAttr]
   simp -implicitDefEqProofs (maxSteps := 2000000) (disch := first | assumption | (refine Shut.mk ?_; kernel_rfl) | omega | (simp only [GT]; done) | (simp only [LN] <;> omega) | fail) only [↓DN, ↓kAsg, ↓kRet, UP, simprocAttr, ↓x3a, ↓x39, ↓x5a, ↓x6z, ↓x5v, ↓x57, ↓x9, ↓x5w, ↓x53, ↓xa, ↓x58, ↓x4l, ↓x4i, ↓x4g, ↓x4h, ↓x4k, ↓x4e, ↓x50, ↓x54, ↓x4v, ↓x59, ↓x4z, ↓x4y, ↓x52, ↓x56, ↓x3u, ↓x3t, ↓x3s, ↓x7, ↓x5, ↓x6, LA, hc, hf, hst, bne_self_eq_false, ↓ih']
   simp only [iEnd, hf, if_true]
theorem law_no {L n : Nat} (hn : 30 ≤ n) (c : List UInt8) (hsz : ¬ (1048576 : Int) < c.length) {al x y : Int} {nx : List (List Int)} {ac : List Bool} (hs : rowsShort nx) (ha : ac.length ≤ 4294967296) (kd : ∀ (R : Type) (L n : Nat) (hq : H) (k : A → H → Option R), 18 ≤ n → 2 ^ 60 ≤ L → kCall env (evCall env L n) hq 8 [.d (.ivs c.length (bytesL c))] k = k (.tup [.agg [.d (.int .i64 al), .d (.ivs nx.length (rowsD nx)), .d (.ivs ac.length (bools ac))], .d (.int .i64 x), .d (.int .i64 y)]) hq) (hd : swapOK al nx ac x y = false) (hL : 2 ^ 60 ≤ L) : evCall env L n 3 [.d (.ivs c.length (bytesL c))] [] = some (.d (.bool true), []) := by
 have h0 : swapRs al nx x y false = [] := rfl
 have h1 : swapAc ac false = [] := rfl
 have hsn : rowsShort [] := ⟨by simp, by simp⟩
 have hl0 : ([] : List Bool).length ≤ 4294967296 := by simp
 have kc_ag := fun {R : Type} {n : Nat} {hq : H} {k : A → H → Option R} (hn : 4 ≤ n) => x5a (R := R) (L := L) (n := n) (hq := hq) (k := k) hn (swapAl al x y false) [] [] hsn hl0 hL
 simp only [List.length_nil, rowsD_nil, bools_nil] at kc_ag
 obtain ⟨n, rfl⟩ : ∃ m, n = m + 1 := ⟨n - 1, by omega⟩
 rw [x7j]
 simp only [x6e, Try.f3, SLM, simprocAttr]
 simp -implicitDefEqProofs (maxSteps := 2000000) (disch := first | assumption | (refine Shut.mk ?_; kernel_rfl) | omega | (simp only [GT]; done) | (simp only [LN] <;> omega) | fail) only [↓DN, ↓kAsg, ↓kRet, UP, simprocAttr, ↓x3a, ↓x39, ↓x5a, ↓x6z, ↓x5v, ↓x57, ↓x9, ↓x5w, ↓x53, ↓xa, ↓x58, ↓x4l, ↓x4i, ↓x4g, ↓x4h, ↓x4k, ↓x4e, ↓x50, ↓x54, ↓x4v, ↓x59, ↓x4z, ↓x4y, ↓x52, ↓x56, ↓x3u, ↓x3t, ↓x3s, ↓x7, ↓x5, ↓x6, LA, hsz, ↓kd, hd, h0, h1, List.length_nil, rowsD_nil, bools_nil, ↓kc_ag, evBin_neqB, evBin_eqlB]
theorem law_yes {L n : Nat} (hn : 30 ≤ n) (c : List UInt8) (hsz : ¬ (1048576 : Int) < c.length) {al x y al2 : Int} {nx nx2 : List (List Int)} {ac : List Bool} (hs : rowsShort nx) (hs2 : rowsShort nx2) (ha : ac.length ≤ 4294967296) (kd : ∀ (R : Type) (L n : Nat) (hq : H) (k : A → H → Option R), 18 ≤ n → 2 ^ 60 ≤ L → kCall env (evCall env L n) hq 8 [.d (.ivs c.length (bytesL c))] k = k (.tup [.agg [.d (.int .i64 al), .d (.ivs nx.length (rowsD nx)), .d (.ivs ac.length (bools ac))], .d (.int .i64 x), .d (.int .i64 y)]) hq)
  (hd : swapOK al nx ac x y = true) (r1 : swapAl al x y true = al2) (r2 : swapRs al nx x y true = nx2) (r3 : swapAc ac true = ac) (hd2 : swapOK al2 nx2 ac x y = true) (b1 : swapAl al2 x y true = al) (b2 : swapRs al2 nx2 x y true = nx) (hv2 : autOK al2 nx2 ac = true) {iE : Int}
  (loop_e : ∀ {R : Type} {n : Nat} {k : Exit → List A → H → Option R} (hn : 9 ≤ n),
  kLoop env (evCall env L n) L 0 [] (Z2 (U4 (U1 (Z2 (Z1 (U1 (Z32 (Z32 (Z16 (Z8 ([]))))))))))) (x38 0) (U2 (Z4 (Z1 (U2 (U1 (Z1 (U32 (U32 (U16 (U8 ([]))))))))))) L (Y2 (.d (.bool false) :: .ptr 0 0 0 :: .d (.int .i64 x) :: .d (.int .i64 y) :: .ptr 1 0 0 :: Y2 (Y1 (.d (.int .i64 0) :: Y32 (Y32 (Y16 (Y8 ([])))))))) [.box [.d (.int .i64 al), .d (.ivs nx.length (rowsD nx)), .d (.ivs ac.length (bools ac))], .box [.d (.int .i64 al2), .d (.ivs nx2.length (rowsD nx2)), .d (.ivs ac.length (bools ac))]] k
  = k (.exit 0) (Y2 (.d (.bool false) :: .ptr 0 0 0 :: .d (.int .i64 x) :: .d (.int .i64 y) :: .ptr 1 0 0 :: Y2 (Y1 (.d (.int .i64 iE) :: Y32 (Y32 (Y16 (Y8 ([])))))))) [.box [.d (.int .i64 al), .d (.ivs nx.length (rowsD nx)), .d (.ivs ac.length (bools ac))], .box [.d (.int .i64 al2), .d (.ivs nx2.length (rowsD nx2)), .d (.ivs ac.length (bools ac))]])
  (hL : 2 ^ 60 ≤ L) : evCall env L n 3 [.d (.ivs c.length (bytesL c))] [] = some (.d (.bool true), []) := by
 obtain ⟨n, rfl⟩ : ∃ m, n = m + 1 := ⟨n - 1, by omega⟩
 rw [x7j]
 simp only [x6e, Try.f3, SLM, simprocAttr]
 simp -implicitDefEqProofs (maxSteps := 2000000) (disch := first | assumption | (refine Shut.mk ?_; kernel_rfl) | omega | (simp only [GT]; done) | (simp only [LN] <;> omega) | fail) only [↓DN, ↓kAsg, ↓kRet, UP, simprocAttr, ↓x3a, ↓x39, ↓x5a, ↓x6z, ↓x5v, ↓x57, ↓x9, ↓x5w, ↓x53, ↓xa, ↓x58, ↓x4l, ↓x4i, ↓x4g, ↓x4h, ↓x4k, ↓x4e, ↓x50, ↓x54, ↓x4v, ↓x59, ↓x4z, ↓x4y, ↓x52, ↓x56, ↓x3u, ↓x3t, ↓x3s, ↓x7, ↓x5, ↓x6, LA, hsz, ↓kd, hd, r1, r2, r3, hd2, b1, b2, hv2, evBin_neqB, evBin_eqlB, ↓loop_e]
theorem xjk {L n : Nat} (hn : 30 ≤ n) (c : List UInt8) (hL : 2 ^ 60 ≤ L) : evCall env L n 3 [.d (.ivs c.length (bytesL c))] [] = some (.d (.bool true), []) := by
 by_cases hsz : (1048576 : Int) < c.length
 ·obtain ⟨n, rfl⟩ : ∃ m, n = m + 1 := ⟨n - 1, by omega⟩
  rw [x7j]
  simp only [x6e, Try.f3, SLM, simprocAttr]
  simp -implicitDefEqProofs (maxSteps := 2000000) (disch := first | assumption | (refine Shut.mk ?_; kernel_rfl) | omega | (simp only [GT]; done) | (simp only [LN] <;> omega) | fail) only [↓DN, ↓kAsg, ↓kRet, UP, simprocAttr, ↓x3a, ↓x39, ↓x5a, ↓x6z, ↓x5v, ↓x57, ↓x9, ↓x5w, ↓x53, ↓xa, ↓x58, ↓x4l, ↓x4i, ↓x4g, ↓x4h, ↓x4k, ↓x4e, ↓x50, ↓x54, ↓x4v, ↓x59, ↓x4z, ↓x4y, ↓x52, ↓x56, ↓x3u, ↓x3t, ↓x3s, ↓x7, ↓x5, ↓x6, hsz]
 ·obtain ⟨al, nx, ac, x, y, b, _, _, _, _, kd⟩ := xh6 c (by omega)
  have hs := b.short (by omega)
  have ha := b.a
  unfold autD at kd
  cases hd : swapOK al nx ac x y with
  | false => exact law_no hn c hsz hs (by omega) kd hd hL
  | true =>
   have hd' := hd
   unfold swapOK at hd'
   simp only [Bool.and_eq_true] at hd'
   obtain ⟨⟨hv, hx⟩, hy⟩ := hd'
   have hal := (autOK_len hv).2.2.2
   have hv2 := swap_aut_valid hv hx hy
   have hsl : (rowsSw al nx x y (letters (swapAlpha al x y)) 0 nx.length).length = nx.length := rowsSw_len
   have hs2 : rowsShort (rowsSw al nx x y (letters (swapAlpha al x y)) 0 nx.length) := by
    refine ⟨by rw [hsl]; exact hs.1, fun r hr => ?_⟩
    unfold rowsSw at hr
    obtain ⟨q, _, rfl⟩ := List.mem_map.1 hr
    rw [rowSw_len]
    have := letters_len (swapAlpha al x y)
    omega
   have hback : swapRs (swapAlpha al x y) (rowsSw al nx x y (letters (swapAlpha al x y)) 0 nx.length) x y true = nx := by
    unfold swapRs
    rw [if_pos rfl, swapAlpha_twice hal hx hy, hsl]
    exact swap_aut_back hv hx hy
   refine law_yes (iE := ((iEnd al 40 0 : Nat) : Int)) (al2 := swapAlpha al x y) (nx2 := rowsSw al nx x y (letters (swapAlpha al x y)) 0 nx.length) hn c hsz hs hs2 (by omega) kd hd rfl rfl rfl (by unfold swapOK; rw [hv2, hx, hy]; rfl) (by unfold swapAl; rw [if_pos rfl]; exact swapAlpha_twice hal hx hy) hback hv2 (fun {R n k} hn9 => ?_) hL
   have := @xh9 R L n hn9 hL al x y (swapAlpha al x y) nx (rowsSw al nx x y (letters (swapAlpha al x y)) 0 nx.length) ac hs hs2 (by omega) (fun w hw => ⟨swap_stateAfter hv hx hy hw, by rw [(swap_wordIn hx hy hw).1, List.length_map]; have := (wordIn_at hw).2.1; omega⟩) k 40 0 L (by omega) (by omega)
   exact this
end Ev
end Go.Proofs.Ytppdfjdfjfoddaa
end
