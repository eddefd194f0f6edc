/-
  The words that separate an automaton's states, walked: the program's and the reference's.
-/
import Derived.Test.YtppdfjdfjfoddaaSplit
import Derived.Test.YtppdfjdfjfoddaaMemS
import Derived.Test.YtppdfjdfjfoddaaEvDef
import Derived.Test.YtppdfjdfjfoddaaPathY
import Derived.Test.YtppdfjdfjfoddaaAgW
set_option linter.unusedSimpArgs false
set_option linter.unusedVariables false
set_option maxRecDepth 8000
set_option maxHeartbeats 4000000
namespace Go.Proofs.Ytppdfjdfjfoddaa
namespace Ev
def sepJ (a : Aut) (i : Int) : Nat → Nat → List Str → List Str
 | 0,_,o => o
 | q + 1,j,o => if (x5u a i j).2 = true ∧ txt (x5u a i j).1 ∉ o then sepJ a i q (j + 1) (o ++ [txt (x5u a i j).1]) else sepJ a i q (j + 1) o
def sepA (a : Aut) : Nat → Nat → List Str → List Str
 | 0,_,o => o
 | q + 1,i,o => sepA a q (i + 1) (sepJ a i (a.nx.length - (i + 1)) (i + 1) o)
def sepW (a : Aut) : List Str := sepA a a.nx.length 0 [[]]
theorem xud {a : Aut} {i : Int} : ∀ (q j : Nat) (o : List Str),o.length ≤ (sepJ a i q j o).length ∧ (sepJ a i q j o).length ≤ o.length + q
 | 0,_,o => ⟨Nat.le_refl _,Nat.le_refl _⟩
 | q + 1,j,o => by
  unfold sepJ
  split
  ·have := xud (a := a) (i := i) q (j + 1) (o ++ [txt (x5u a i j).1]); simp at this ⊢; omega
  ·have := xud (a := a) (i := i) q (j + 1) o; omega
theorem x1jf {a : Aut} : ∀ (q i : Nat) (o : List Str),o.length ≤ (sepA a q i o).length ∧ (sepA a q i o).length ≤ o.length + q * a.nx.length
 | 0,_,o => by simp [sepA]
 | q + 1,i,o => by
  unfold sepA
  have h1 := xud (a := a) (i := i) (a.nx.length - (i + 1)) (i + 1) o
  have h2 := x1jf (a := a) q (i + 1) (sepJ a i (a.nx.length - (i + 1)) (i + 1) o)
  rw [Nat.succ_mul]
  omega
theorem x18b {a : Aut} (h : AOK a) : 1 ≤ (sepW a).length ∧ (sepW a).length ≤ 145 := by
 obtain ⟨_,_,h1,h2,_⟩ := x7b h
 have := x1jf (a := a) a.nx.length 0 [[]]
 have hm : a.nx.length * a.nx.length ≤ 12 * 12 := Nat.mul_le_mul h2 h2
 unfold sepW
 simp only [List.length_cons,List.length_nil] at this
 omega
theorem xsu {R : Type} {L n : Nat} (hn : 12 ≤ n) (hL : 2 ^ 60 ≤ L) {a : Aut} (ha : AOK a) {i : Nat} (hi : i < a.nx.length) {k : Exit → List A → H → Option R} : ∀ (q j m : Nat) (o : List Str) (len : Nat) (hq : j + q = a.nx.length) (hm : q < m) (hlen : len = o.length) (ho : o.length + q ≤ 100000),
  xg env (x2 env L n) L 0 [] (Z1 (U4 (U1 (Z32 (Z8 (Z1 ([]))))))) (x3r 1) (U1 (Z4 (Z1 (U32 (U8 (U1 ([]))))))) m (Y1 (.ptr 0 0 0 :: .d .nils :: .sl 1 0 0 len :: .d (.int .i64 ((i : Int))) :: .d (.int .i64 ((j : Int))) :: Y32 (Y8 (Y1 ([]))))) [.box [.d (.int .i64 a.al),.d (.ivs a.nx.length (xc a.nx)),.d (.ivs a.ac.length (xb a.ac))],.arr (x15 o) 1 0] k
  = k (.exit 2) (Y1 (.ptr 0 0 0 :: .d .nils :: .sl 1 0 0 (sepJ a i q j o).length :: .d (.int .i64 ((i : Int))) :: .d (.int .i64 (a.nx.length)) :: Y32 (Y8 (Y1 ([]))))) [.box [.d (.int .i64 a.al),.d (.ivs a.nx.length (xc a.nx)),.d (.ivs a.ac.length (xb a.ac))],.arr (x15 (sepJ a i q j o)) 1 0] := by
 obtain ⟨sa,wa,a1,a2,a3⟩ := x7b ha
 have hac : a.ac.length ≤ 4294967296 := by omega
 intro q
 induction q with
 | zero =>
  intro j m o len hq hm hlen ho
  obtain _ | m := m; omega
  obtain rfl : j = a.nx.length := by omega
  subst hlen
  rw [x8i]
  simp only [x7x,Try.f17,SLM,simprocAttr]
  simp -implicitDefEqProofs (maxSteps := 2000000) (disch := first | assumption | exact ⟨by kernel_rfl⟩ | omega | (simp only [GT,LN] <;> omega) | fail) only [↓DN,↓kAsg,↓kRet,UP,simprocAttr,↓x33,↓x9p,↓xc1,↓x32,↓x6n,↓xgv,↓x2n,↓x2p,↓x2o,↓x5r,↓x5q,↓x5n,↓x9z,LA,SE,Int.lt_irrefl]
  rfl
 | succ q ih =>
  intro j m o len hq hm hlen ho
  obtain _ | m := m; omega
  subst hlen
  have hc : (j : Int) < a.nx.length := by omega
  have kc_s := fun {R : Type} {n : Nat} {hq : H} {k : A → H → Option R} (hn : 12 ≤ n) => @x9p R L n hq k hn a i j sa hac hL
  have hal := sa.1
  simp only [sepJ]
  generalize x5u a i j = r at *
  obtain ⟨w,b⟩ := r
  simp only at kc_s ⊢
  have kl_i := fun {R : Type} {n : Nat} {k : A → Option R} (hn : 2 ≤ n) => @xgv R L n k hn o (txt w) (by omega) hL
  cases b with
  | false =>
   have ih' := ih (j + 1) m o o.length (by omega) (by omega) rfl (by omega)
   rw [show ((j + 1 : Nat) : Int) = (j : Int) + 1 by omega] at ih'
   rw [if_neg fun h => by cases h.1]
   clear ih
   rw [x8i]
   simp only [x7x,Try.f17,SLM,simprocAttr]
   simp -implicitDefEqProofs (maxSteps := 2000000) (disch := first | assumption | exact ⟨by kernel_rfl⟩ | omega | (simp only [GT,LN] <;> omega) | fail) only [↓DN,↓kAsg,↓kRet,UP,simprocAttr,↓x33,↓xc1,↓x32,↓x6n,↓x2n,↓x2p,↓x2o,↓x5r,↓x5q,↓x5n,↓x9z,LA,SE,hc,↓kc_s,↓ih']
  | true =>
   by_cases h : txt w ∈ o
   ·have ih' := ih (j + 1) m o o.length (by omega) (by omega) rfl (by omega)
    rw [show ((j + 1 : Nat) : Int) = (j : Int) + 1 by omega] at ih'
    rw [if_neg fun h2 => h2.2 h]
    rw [decide_eq_true h] at kl_i
    clear ih
    rw [x8i]
    simp only [x7x,Try.f17,SLM,simprocAttr]
    simp -implicitDefEqProofs (maxSteps := 2000000) (disch := first | assumption | exact ⟨by kernel_rfl⟩ | omega | (simp only [GT,LN] <;> omega) | fail) only [↓DN,↓kAsg,↓kRet,UP,simprocAttr,↓x33,↓xc1,↓x32,↓x6n,↓x2n,↓x2p,↓x2o,↓x5r,↓x5q,↓x5n,↓x9z,LA,SE,hc,↓kc_s,↓kl_i,↓ih']
   ·have ih' := ih (j + 1) m (o ++ [txt w]) (o.length + 1) (by omega) (by omega) (by simp) (by simp; omega)
    rw [show ((j + 1 : Nat) : Int) = (j : Int) + 1 by omega] at ih'
    rw [if_pos ⟨rfl,h⟩]
    rw [decide_eq_false h] at kl_i
    clear ih
    rw [x8i]
    simp only [x7x,Try.f17,SLM,simprocAttr]
    simp -implicitDefEqProofs (maxSteps := 2000000) (disch := first | assumption | exact ⟨by kernel_rfl⟩ | omega | (simp only [GT,LN] <;> omega) | fail) only [↓DN,↓kAsg,↓kRet,UP,simprocAttr,↓x33,↓xc1,↓x32,↓x6n,↓x2n,↓x2p,↓x2o,↓x5r,↓x5q,↓x5n,↓x9z,LA,SE,hc,↓kc_s,↓kl_i,xkx,x1ap,List.length_append,↓ih']
theorem xsy {R : Type} {L n : Nat} (hn : 12 ≤ n) (hL : 2 ^ 60 ≤ L) {a : Aut} (ha : AOK a) {k : Exit → List A → H → Option R} : ∀ (q i m : Nat) (o : List Str) (len : Nat) (hq : i + q = a.nx.length) (hm : q < m) (hlen : len = o.length) (ho : o.length + q * 12 ≤ 10000),
  xg env (x2 env L n) L 0 [] (Z1 (U4 (U1 (Z32 (Z8 (Z1 ([]))))))) (x3r 0) (U1 (Z4 (U32 (U8 (U2 ([])))))) m (Y1 (.ptr 0 0 0 :: .d .nils :: .sl 1 0 0 len :: .d (.int .i64 ((i : Int))) :: Y32 (Y8 (Y2 ([]))))) [.box [.d (.int .i64 a.al),.d (.ivs a.nx.length (xc a.nx)),.d (.ivs a.ac.length (xb a.ac))],.arr (x15 o) 1 0] k
  = k (.exit 0) (Y1 (.ptr 0 0 0 :: .d .nils :: .sl 1 0 0 (sepA a q i o).length :: .d (.int .i64 (a.nx.length)) :: Y32 (Y8 (Y2 ([]))))) [.box [.d (.int .i64 a.al),.d (.ivs a.nx.length (xc a.nx)),.d (.ivs a.ac.length (xb a.ac))],.arr (x15 (sepA a q i o)) 1 0] := by
 obtain ⟨sa,wa,a1,a2,a3⟩ := x7b ha
 intro q
 induction q with
 | zero =>
  intro i m o len hq hm hlen ho
  obtain _ | m := m; omega
  obtain rfl : i = a.nx.length := by omega
  subst hlen
  rw [xfq]
  simp only [xdi,Try.f17,SLM,simprocAttr]
  simp -implicitDefEqProofs (maxSteps := 2000000) (disch := first | assumption | exact ⟨by kernel_rfl⟩ | omega | (simp only [GT,LN] <;> omega) | fail) only [↓DN,↓kAsg,↓kRet,UP,simprocAttr,↓x33,↓x9p,↓xc1,↓x32,↓x6n,↓xgv,↓x2n,↓x2p,↓x2o,↓x5r,↓x5q,↓x5n,↓x9z,LA,SE,Int.lt_irrefl]
  rfl
 | succ q ih =>
  intro i m o len hq hm hlen ho
  obtain _ | m := m; omega
  subst hlen
  have hc : (i : Int) < a.nx.length := by omega
  have loop_c := fun {R : Type} {n : Nat} {k : Exit → List A → H → Option R} (hn : 12 ≤ n) => @xsu R L n hn hL a ha i (by omega) k (a.nx.length - (i + 1)) (i + 1) L o o.length (by omega) (by omega) rfl (by omega)
  rw [show ((i + 1 : Nat) : Int) = (i : Int) + 1 by omega] at loop_c
  have hl := (xud (a := a) (i := i) (a.nx.length - (i + 1)) (i + 1) o).2
  have ih' := ih (i + 1) m (sepJ a i (a.nx.length - (i + 1)) (i + 1) o) _ (by omega) (by omega) rfl (by omega)
  rw [show ((i + 1 : Nat) : Int) = (i : Int) + 1 by omega] at ih'
  simp only [sepA]
  clear ih
  generalize sepJ a i (a.nx.length - (i + 1)) (i + 1) o = w at *
  rw [xfq]
  simp only [xdi,Try.f17,SLM,simprocAttr]
  simp -implicitDefEqProofs (maxSteps := 2000000) (disch := first | assumption | exact ⟨by kernel_rfl⟩ | omega | (simp only [GT,LN] <;> omega) | fail) only [↓DN,↓kAsg,↓kRet,UP,simprocAttr,↓x33,↓x9p,↓xc1,↓x32,↓x6n,↓xgv,↓x2n,↓x2p,↓x2o,↓x5r,↓x5q,↓x5n,↓x9z,LA,SE,hc,↓loop_c,↓ih']
def sepR (a : Aut) : List Str := if x8j a.al a.nx a.ac = true then sepW a else []
theorem xz2 {L n : Nat} (hn : 13 ≤ n) (a : Aut) (hs : xt a.nx) (hac : a.ac.length ≤ 4294967296) (hL : 2 ^ 60 ≤ L) : x2 env L n 17 [.agg [.d (.int .i64 a.al),.d (.ivs a.nx.length (xc a.nx)),.d (.ivs a.ac.length (xb a.ac))]] [] = some (.d (.ivs (sepR a).length (x15 (sepR a))),[]) := by
 have hrl := hs.1
 unfold sepR
 cases hv : x8j a.al a.nx a.ac with
 | false =>
  simp only [Bool.false_eq_true,if_false,List.length_nil,x1rp]
  obtain _ | n := n; omega
  rw [xlk]
  simp only [xf3,Try.f17,SLM,simprocAttr]
  simp -implicitDefEqProofs (maxSteps := 2000000) (disch := first | assumption | exact ⟨by kernel_rfl⟩ | omega | (simp only [GT,LN] <;> omega) | fail) only [↓DN,↓kAsg,↓kRet,UP,simprocAttr,↓x33,↓x9p,↓xc1,↓x32,↓x6n,↓xgv,↓x2n,↓x2p,↓x2o,↓x5r,↓x5q,↓x5n,↓x9z,LA,hv]
 | true =>
  obtain ⟨sa,wa,a1,a2,a3⟩ := x7b hv
  have loop_c := fun {R : Type} {n : Nat} {k : Exit → List A → H → Option R} (hn : 12 ≤ n) => @xsy R L n hn hL a hv k a.nx.length 0 L [[]] 1 (by omega) (by omega) rfl (by simp; omega)
  have e : x15 [[]] = [.str []] := rfl
  have e2 : sepA a a.nx.length 0 [[]] = sepW a := rfl
  rw [e,e2] at loop_c
  have hl := x18b hv
  simp only [if_true,Int.natCast_zero] at loop_c ⊢
  generalize sepW a = w at *
  have e4 : (x15 w).take w.length = x15 w := xkx (Nat.le_refl _)
  obtain _ | n := n; omega
  rw [xlk]
  simp only [xf3,Try.f17,SLM,simprocAttr]
  simp -implicitDefEqProofs (maxSteps := 2000000) (disch := first | assumption | exact ⟨by kernel_rfl⟩ | omega | (simp only [GT,LN] <;> omega) | fail) only [↓DN,↓kAsg,↓kRet,UP,simprocAttr,↓x33,↓x9p,↓xc1,↓x32,↓x6n,↓xgv,↓x2n,↓x2p,↓x2o,↓x5r,↓x5q,↓x5n,↓x9z,LA,SE,hv,e4,↓loop_c]
theorem x6t {R : Type} {L n : Nat} {hq : H} {k : A → H → Option R} (hn : 13 ≤ n) (a : Aut) (hs : xt a.nx) (hac : a.ac.length ≤ 4294967296) (hL : 2 ^ 60 ≤ L) : xe env (x2 env L n) hq 17 [.agg [.d (.int .i64 a.al),.d (.ivs a.nx.length (xc a.nx)),.d (.ivs a.ac.length (xb a.ac))]] k = k (.d (.ivs (sepR a).length (x15 (sepR a)))) hq :=
 xr rfl (xz2 hn a hs hac hL) rfl (.inr rfl)
theorem xu6 {R : Type} {L n : Nat} (hn : 9 ≤ n) (hL : 2 ^ 60 ≤ L) {a : Aut} (ha : AOK a) {i : Nat} (hi : i < a.nx.length) {k : Exit → List A → H → Option R} : ∀ (q j m : Nat) (o : List Str) (len : Nat) (hq : j + q = a.nx.length) (hm : q < m) (hlen : len = o.length) (ho : o.length + q ≤ 100000),
  xg env (x2 env L n) L 0 [] (Z1 (U4 (U1 (Z8 (U2 (Z16 (Z8 (Z4 (Z2 (Z1 ([]))))))))))) (x3q 1) (U1 (Z4 (Z1 (U8 (Z2 (U16 (U8 (U4 (U2 (U1 ([]))))))))))) m (Y1 (.ptr 0 0 0 :: .d .nils :: .sl 1 0 0 len :: .d (.int .i64 ((i : Int))) :: .d (.int .i64 ((j : Int))) :: Y8 (.d (.int .i64 (a.nx.length)) :: .d (.int .i64 ((i : Int))) :: Y16 (Y8 (Y4 (Y2 (Y1 ([])))))))) [.box [.d (.int .i64 a.al),.d (.ivs a.nx.length (xc a.nx)),.d (.ivs a.ac.length (xb a.ac))],.arr (x15 o) 1 0] k
  = k (.exit 2) (Y1 (.ptr 0 0 0 :: .d .nils :: .sl 1 0 0 (sepJ a i q j o).length :: .d (.int .i64 ((i : Int))) :: .d (.int .i64 (a.nx.length)) :: Y8 (.d (.int .i64 (a.nx.length)) :: .d (.int .i64 ((i : Int))) :: Y16 (Y8 (Y4 (Y2 (Y1 ([])))))))) [.box [.d (.int .i64 a.al),.d (.ivs a.nx.length (xc a.nx)),.d (.ivs a.ac.length (xb a.ac))],.arr (x15 (sepJ a i q j o)) 1 0] := by
 obtain ⟨sa,wa,a1,a2,a3⟩ := x7b ha
 have hac : a.ac.length ≤ 4294967296 := by omega
 intro q
 induction q with
 | zero =>
  intro j m o len hq hm hlen ho
  obtain _ | m := m; omega
  obtain rfl : j = a.nx.length := by omega
  subst hlen
  rw [x8k]
  simp only [x81,Try.f19,SLM,simprocAttr]
  simp -implicitDefEqProofs (maxSteps := 2000000) (disch := first | assumption | exact ⟨by kernel_rfl⟩ | omega | (simp only [GT,LN] <;> omega) | fail) only [↓DN,↓kAsg,↓kRet,UP,simprocAttr,↓x2j,↓x9t,↓x2e,↓x2i,↓x6m,↓x3c,↓x1q,↓x1p,↓x1o,↓x5s,↓x5m,↓x5l,↓x20,LA,SE,Int.lt_irrefl]
  rfl
 | succ q ih =>
  intro j m o len hq hm hlen ho
  obtain _ | m := m; omega
  subst hlen
  have hc : (j : Int) < a.nx.length := by omega
  have kc_s := fun {R : Type} {n : Nat} {hq : H} {k : A → H → Option R} (hn : 9 ≤ n) => @x9t R L n hq k hn a i j sa hac hL
  have hal := sa.1
  simp only [sepJ]
  generalize x5u a i j = r at *
  obtain ⟨w,b⟩ := r
  simp only at kc_s ⊢
  have kl_i := fun {R : Type} {n : Nat} {k : A → Option R} (hn : 3 ≤ n) => @x3c R L n k hn o (txt w) (by omega) hL
  cases b with
  | false =>
   have ih' := ih (j + 1) m o o.length (by omega) (by omega) rfl (by omega)
   rw [show ((j + 1 : Nat) : Int) = (j : Int) + 1 by omega] at ih'
   rw [if_neg fun h => by cases h.1]
   clear ih
   rw [x8k]
   simp only [x81,Try.f19,SLM,simprocAttr]
   simp -implicitDefEqProofs (maxSteps := 2000000) (disch := first | assumption | exact ⟨by kernel_rfl⟩ | omega | (simp only [GT,LN] <;> omega) | fail) only [↓DN,↓kAsg,↓kRet,UP,simprocAttr,↓x2j,↓x2e,↓x2i,↓x6m,↓x1q,↓x1p,↓x1o,↓x5s,↓x5m,↓x5l,↓x20,LA,SE,hc,↓kc_s,↓ih']
  | true =>
   by_cases h : txt w ∈ o
   ·have ih' := ih (j + 1) m o o.length (by omega) (by omega) rfl (by omega)
    rw [show ((j + 1 : Nat) : Int) = (j : Int) + 1 by omega] at ih'
    rw [if_neg fun h2 => h2.2 h]
    rw [decide_eq_true h] at kl_i
    clear ih
    rw [x8k]
    simp only [x81,Try.f19,SLM,simprocAttr]
    simp -implicitDefEqProofs (maxSteps := 2000000) (disch := first | assumption | exact ⟨by kernel_rfl⟩ | omega | (simp only [GT,LN] <;> omega) | fail) only [↓DN,↓kAsg,↓kRet,UP,simprocAttr,↓x2j,↓x2e,↓x2i,↓x6m,↓x1q,↓x1p,↓x1o,↓x5s,↓x5m,↓x5l,↓x20,LA,SE,hc,↓kc_s,↓kl_i,↓ih']
   ·have ih' := ih (j + 1) m (o ++ [txt w]) (o.length + 1) (by omega) (by omega) (by simp) (by simp; omega)
    rw [show ((j + 1 : Nat) : Int) = (j : Int) + 1 by omega] at ih'
    rw [if_pos ⟨rfl,h⟩]
    rw [decide_eq_false h] at kl_i
    clear ih
    rw [x8k]
    simp only [x81,Try.f19,SLM,simprocAttr]
    simp -implicitDefEqProofs (maxSteps := 2000000) (disch := first | assumption | exact ⟨by kernel_rfl⟩ | omega | (simp only [GT,LN] <;> omega) | fail) only [↓DN,↓kAsg,↓kRet,UP,simprocAttr,↓x2j,↓x2e,↓x2i,↓x6m,↓x1q,↓x1p,↓x1o,↓x5s,↓x5m,↓x5l,↓x20,LA,SE,hc,↓kc_s,↓kl_i,xkx,x1ap,List.length_append,↓ih']
theorem xsh {R : Type} {L n : Nat} (hn : 9 ≤ n) (hL : 2 ^ 60 ≤ L) {a : Aut} (ha : AOK a) {k : Exit → List A → H → Option R} : ∀ (q i m : Nat) (o : List Str) (len : Nat) (hq : i + q = a.nx.length) (hm : q < m) (hlen : len = o.length) (ho : o.length + q * 12 ≤ 10000),
  xg env (x2 env L n) L 0 [] (Z1 (U4 (U1 (Z8 (U2 (Z16 (Z8 (Z4 (Z2 (Z1 ([]))))))))))) (x3q 0) (U1 (Z2 (Z1 (U8 (U2 (Z2 (U16 (U8 (U4 (U2 (U1 ([])))))))))))) m (Y1 (.ptr 0 0 0 :: .d .nils :: .sl 1 0 0 len :: Y8 (Y2 (.d (.int .i64 (a.nx.length)) :: .d (.int .i64 ((i : Int))) :: Y16 (Y8 (Y4 (Y2 (Y1 ([]))))))))) [.box [.d (.int .i64 a.al),.d (.ivs a.nx.length (xc a.nx)),.d (.ivs a.ac.length (xb a.ac))],.arr (x15 o) 1 0] k
  = k (.exit 0) (Y1 (.ptr 0 0 0 :: .d .nils :: .sl 1 0 0 (sepA a q i o).length :: Y8 (Y2 (.d (.int .i64 (a.nx.length)) :: .d (.int .i64 (a.nx.length)) :: Y16 (Y8 (Y4 (Y2 (Y1 ([]))))))))) [.box [.d (.int .i64 a.al),.d (.ivs a.nx.length (xc a.nx)),.d (.ivs a.ac.length (xb a.ac))],.arr (x15 (sepA a q i o)) 1 0] := by
 obtain ⟨sa,wa,a1,a2,a3⟩ := x7b ha
 intro q
 induction q with
 | zero =>
  intro i m o len hq hm hlen ho
  obtain _ | m := m; omega
  obtain rfl : i = a.nx.length := by omega
  subst hlen
  rw [xfm]
  simp only [xdj,Try.f19,SLM,simprocAttr]
  simp -implicitDefEqProofs (maxSteps := 2000000) (disch := first | assumption | exact ⟨by kernel_rfl⟩ | omega | (simp only [GT,LN] <;> omega) | fail) only [↓DN,↓kAsg,↓kRet,UP,simprocAttr,↓x2j,↓x9t,↓x2e,↓x2i,↓x6m,↓x3c,↓x1q,↓x1p,↓x1o,↓x5s,↓x5m,↓x5l,↓x20,LA,SE,Int.lt_irrefl]
  rfl
 | succ q ih =>
  intro i m o len hq hm hlen ho
  obtain _ | m := m; omega
  subst hlen
  have hc : (i : Int) < a.nx.length := by omega
  have loop_c := fun {R : Type} {n : Nat} {k : Exit → List A → H → Option R} (hn : 9 ≤ n) => @xu6 R L n hn hL a ha i (by omega) k (a.nx.length - (i + 1)) (i + 1) L o o.length (by omega) (by omega) rfl (by omega)
  rw [show ((i + 1 : Nat) : Int) = (i : Int) + 1 by omega] at loop_c
  have hl := (xud (a := a) (i := i) (a.nx.length - (i + 1)) (i + 1) o).2
  have ih' := ih (i + 1) m (sepJ a i (a.nx.length - (i + 1)) (i + 1) o) _ (by omega) (by omega) rfl (by omega)
  rw [show ((i + 1 : Nat) : Int) = (i : Int) + 1 by omega] at ih'
  simp only [sepA]
  clear ih
  generalize sepJ a i (a.nx.length - (i + 1)) (i + 1) o = w at *
  rw [xfm]
  simp only [xdj,Try.f19,SLM,simprocAttr]
  simp -implicitDefEqProofs (maxSteps := 2000000) (disch := first | assumption | exact ⟨by kernel_rfl⟩ | omega | (simp only [GT,LN] <;> omega) | fail) only [↓DN,↓kAsg,↓kRet,UP,simprocAttr,↓x2j,↓x9t,↓x2e,↓x2i,↓x6m,↓x3c,↓x1q,↓x1p,↓x1o,↓x5s,↓x5m,↓x5l,↓x20,LA,SE,hc,↓loop_c,↓ih']
theorem x102 {L n : Nat} (hn : 10 ≤ n) (a : Aut) (hv : AOK a) (hL : 2 ^ 60 ≤ L) : x2 env L n 19 [.agg [.d (.int .i64 a.al),.d (.ivs a.nx.length (xc a.nx)),.d (.ivs a.ac.length (xb a.ac))]] [] = some (.sl 0 0 0 (sepW a).length,[.arr (x15 (sepW a)) 1 0]) := by
  obtain ⟨sa,wa,a1,a2,a3⟩ := x7b hv
  have hrl := sa.1
  have hac : a.ac.length ≤ 4294967296 := by omega
  have loop_c := fun {R : Type} {n : Nat} {k : Exit → List A → H → Option R} (hn : 9 ≤ n) => @xsh R L n hn hL a hv k a.nx.length 0 L [[]] 1 (by omega) (by omega) rfl (by simp; omega)
  have e : x15 [[]] = [.str []] := rfl
  have e2 : sepA a a.nx.length 0 [[]] = sepW a := rfl
  rw [e,e2] at loop_c
  have hl := x18b hv
  unfold AOK at hv
  simp only [if_true,Int.natCast_zero] at loop_c ⊢
  generalize sepW a = w at *
  obtain _ | n := n; omega
  rw [xmi]
  simp only [xf4,Try.f19,SLM,simprocAttr]
  simp -implicitDefEqProofs (maxSteps := 2000000) (disch := first | assumption | exact ⟨by kernel_rfl⟩ | omega | (simp only [GT,LN] <;> omega) | fail) only [↓DN,↓kAsg,↓kRet,UP,simprocAttr,↓x2j,↓x9t,↓x2e,↓x2i,↓x6m,↓x3c,↓x1q,↓x1p,↓x1o,↓x5s,↓x5m,↓x5l,↓x20,LA,SE,hv,↓loop_c]
theorem xur {L n : Nat} (hn : 10 ≤ n) (a : Aut) (hv : x8j a.al a.nx a.ac = false) (hs : xt a.nx) (hac : a.ac.length ≤ 4294967296) (hL : 2 ^ 60 ≤ L) : x2 env L n 19 [.agg [.d (.int .i64 a.al),.d (.ivs a.nx.length (xc a.nx)),.d (.ivs a.ac.length (xb a.ac))]] [] = some (.d (.ivs 0 []),[]) := by
  have hrl := hs.1
  obtain _ | n := n; omega
  rw [xmi]
  simp only [xf4,Try.f19,SLM,simprocAttr]
  simp -implicitDefEqProofs (maxSteps := 2000000) (disch := first | assumption | exact ⟨by kernel_rfl⟩ | omega | (simp only [GT,LN] <;> omega) | fail) only [↓DN,↓kAsg,↓kRet,UP,simprocAttr,↓x2j,↓x9t,↓x2e,↓x2i,↓x6m,↓x3c,↓x1q,↓x1p,↓x1o,↓x5s,↓x5m,↓x5l,↓x20,LA,SE,hv]
section
theorem x12c {α : Type} {p q : α → Bool} : ∀ {l : List α},(∀ x ∈ l,p x = true → q x = true) → l.countP p = l.countP q → ∀ x ∈ l,q x = true → p x = true
 | [],_,_,x,hx,_ => by cases hx
 | a :: l,h,he,x,hx,hq => by
  have hle := List.countP_mono_left (l := l) (p := p) (q := q) fun y hy => h y (List.mem_cons_of_mem _ hy)
  rw [List.countP_cons,List.countP_cons] at he
  have ha := h a List.mem_cons_self
  cases hpa : p a with
  | true =>
   rw [hpa,ha hpa] at he
   have he2 : l.countP p = l.countP q := by simpa using he
   rcases List.mem_cons.1 hx with rfl | hx
   ·exact hpa
   ·exact x12c (fun y hy => h y (List.mem_cons_of_mem _ hy)) he2 x hx hq
  | false =>
   cases hqa : q a with
   | true =>
    rw [hpa,hqa] at he
    simp at he
    omega
   | false =>
    rw [hpa,hqa] at he
    have he2 : l.countP p = l.countP q := by simpa using he
    rcases List.mem_cons.1 hx with rfl | hx
    ·rw [hqa] at hq; cases hq
    ·exact x12c (fun y hy => h y (List.mem_cons_of_mem _ hy)) he2 x hx hq
section
variable (go : Int → Int → Int) (ls : List Int) (acc : Int → Bool)
def xdd (w : List Int) (q : Int) : Int := w.foldl go q
def xaf (k : Nat) (i j : Int) : Prop := ∀ w : List Int,(∀ l ∈ w,l ∈ ls) → w.length ≤ k → acc (xdd go w i) = acc (xdd go w j)
variable {go ls acc}
theorem x1nl {k : Nat} {i : Int} : xaf go ls acc k i i := fun _ _ _ => rfl
theorem xyu {k : Nat} {i j : Int} (h : xaf go ls acc k i j) : xaf go ls acc k j i := fun w a b => (h w a b).symm
theorem xos {k : Nat} {i j m : Int} (h : xaf go ls acc k i j) (g : xaf go ls acc k j m) : xaf go ls acc k i m := fun w a b => (h w a b).trans (g w a b)
theorem xzk {k m : Nat} {i j : Int} (h : xaf go ls acc m i j) (hk : k ≤ m) : xaf go ls acc k i j := fun w a b => h w a (Nat.le_trans b hk)
theorem x19b {k : Nat} {i j : Int} : xaf go ls acc (k + 1) i j ↔ acc i = acc j ∧ ∀ l ∈ ls,xaf go ls acc k (go i l) (go j l) := by
 constructor
 ·intro h
  refine ⟨h [] (by simp) (by simp),fun l hl w hw hk => ?_⟩
  exact h (l :: w) (by intro x hx; rcases List.mem_cons.1 hx with rfl | hx; exact hl; exact hw x hx) (by simp; omega)
 ·rintro ⟨h1,h2⟩ w hw hk
  cases w with
  | nil => exact h1
  | cons l w => exact h2 l (hw l List.mem_cons_self) w (fun x hx => hw x (List.mem_cons_of_mem _ hx)) (by simp at hk; omega)
variable (go ls acc)
open Classical in
noncomputable def repB (k i : Nat) : Bool := decide (∀ j : Nat,j < i → ¬ xaf go ls acc k (j : Int) (i : Int))
noncomputable def repC (n k : Nat) : Nat := (List.range n).countP (repB go ls acc k)
variable {go ls acc}
theorem xzv {k i : Nat} : repB go ls acc k i = true ↔ ∀ j : Nat,j < i → ¬ xaf go ls acc k (j : Int) (i : Int) := by
 unfold repB
 simp
theorem x1mf {k : Nat} : ∀ i : Nat,∃ r,r ≤ i ∧ repB go ls acc k r = true ∧ xaf go ls acc k (r : Int) (i : Int) := by
 intro i
 induction i using Nat.strongRecOn with
 | ind i ih =>
  by_cases h : ∃ j : Nat,j < i ∧ xaf go ls acc k (j : Int) (i : Int)
  ·obtain ⟨j,hj,ha⟩ := h
   obtain ⟨r,hr,h1,h2⟩ := ih j hj
   exact ⟨r,by omega,h1,xos h2 ha⟩
  ·refine ⟨i,Nat.le_refl _,xzv.2 fun j hj ha => h ⟨j,hj,ha⟩,x1nl⟩
theorem x1j2 {k i : Nat} (h : repB go ls acc k i = true) : repB go ls acc (k + 1) i = true := by
 rw [xzv] at h ⊢
 exact fun j hj ha => h j hj (xzk ha (by omega))
theorem x21t {n k : Nat} : repC go ls acc n k ≤ repC go ls acc n (k + 1) := List.countP_mono_left fun _ _ h => x1j2 h
theorem x1nq {n k : Nat} (he : repC go ls acc n k = repC go ls acc n (k + 1)) {i j : Nat} (hi : i < n) (hj : j < n) (h : xaf go ls acc k (i : Int) (j : Int)) : xaf go ls acc (k + 1) (i : Int) (j : Int) := by
 have key := x12c (l := List.range n) (fun x _ h => x1j2 (go := go) (ls := ls) (acc := acc) (k := k) (i := x) h) he
 obtain ⟨r,hr,r1,r2⟩ := x1mf (go := go) (ls := ls) (acc := acc) (k := k + 1) i
 obtain ⟨s,hs,s1,s2⟩ := x1mf (go := go) (ls := ls) (acc := acc) (k := k + 1) j
 have r3 := key r (List.mem_range.2 (by omega)) r1
 have s3 := key s (List.mem_range.2 (by omega)) s1
 rw [xzv] at r3 s3
 have hrs : xaf go ls acc k (r : Int) (s : Int) := xos (xzk r2 (by omega)) (xos h (xyu (xzk s2 (by omega))))
 have e : r = s := by
  rcases Nat.lt_trichotomy r s with h1 | h1 | h1
  ·exact absurd hrs (s3 r h1)
  ·exact h1
  ·exact absurd (xyu hrs) (r3 s h1)
 subst e
 exact xos (xyu r2) s2
theorem x1yy {n : Nat} : ∀ k : Nat,(∀ m,m < k → repC go ls acc n m ≠ repC go ls acc n (m + 1)) → repC go ls acc n 0 + k ≤ repC go ls acc n k
 | 0,_ => Nat.le_refl _
 | k + 1,h => by
  have h1 := x1yy (n := n) k fun m hm => h m (by omega)
  have h2 := x21t (go := go) (ls := ls) (acc := acc) (n := n) (k := k)
  have h3 := h k (by omega)
  omega
theorem x1l5 {n : Nat} (hgo : ∀ q l : Int,0 ≤ q → q < n → l ∈ ls → 0 ≤ go q l ∧ go q l < n) {i j : Int} (hi : 0 ≤ i ∧ i < n) (hj : 0 ≤ j ∧ j < n) {w : List Int} (hw : ∀ l ∈ w,l ∈ ls) (hd : acc (xdd go w i) ≠ acc (xdd go w j)) :
  ∃ v : List Int,(∀ l ∈ v,l ∈ ls) ∧ v.length < n ∧ acc (xdd go v i) ≠ acc (xdd go v j) := by
 have hn : 1 ≤ n := by omega
 have hle : ∀ k,repC go ls acc n k ≤ n := fun k => by
  have := List.countP_le_length (p := repB go ls acc k) (l := List.range n)
  simpa [repC] using this
 have h0 : 1 ≤ repC go ls acc n 0 := by
  unfold repC
  rw [Nat.succ_le_iff,List.countP_pos_iff]
  exact ⟨0,List.mem_range.2 (by omega),xzv.2 fun j hj => by omega⟩
 obtain ⟨k,hk,he⟩ : ∃ k,k < n ∧ repC go ls acc n k = repC go ls acc n (k + 1) := by
  apply Classical.byContradiction
  intro hc
  have := x1yy (go := go) (ls := ls) (acc := acc) (n := n) n fun m hm he => hc ⟨m,hm,he⟩
  have := hle n
  omega
 have stay : ∀ d : Nat,∀ a b : Nat,a < n → b < n → xaf go ls acc k (a : Int) (b : Int) → xaf go ls acc (k + d) (a : Int) (b : Int) := by
  intro d
  induction d with
  | zero => intro a b _ _ h; exact h
  | succ d ih =>
   intro a b ha hb h
   have h1 := x1nq he ha hb h
   rw [x19b] at h1
   rw [show k + (d + 1) = (k + d) + 1 by omega,x19b]
   refine ⟨h1.1,fun l hl => ?_⟩
   have ga := hgo a l (by omega) (by omega) hl
   have gb := hgo b l (by omega) (by omega) hl
   have := ih (go a l).toNat (go b l).toNat (by omega) (by omega) (by
    rw [Int.toNat_of_nonneg ga.1,Int.toNat_of_nonneg gb.1]
    exact h1.2 l hl)
   rwa [Int.toNat_of_nonneg ga.1,Int.toNat_of_nonneg gb.1] at this
 apply Classical.byContradiction
 intro hc
 have hal : xaf go ls acc k ((i.toNat : Nat) : Int) ((j.toNat : Nat) : Int) := by
  intro v hv hvl
  rw [Int.toNat_of_nonneg hi.1,Int.toNat_of_nonneg hj.1]
  apply Classical.byContradiction
  intro h
  exact hc ⟨v,hv,by omega,h⟩
 have := stay w.length i.toNat j.toNat (by omega) (by omega) hal w hw (by omega)
 rw [Int.toNat_of_nonneg hi.1,Int.toNat_of_nonneg hj.1] at this
 exact hd this
end
end
def goA (a : Aut) (q l : Int) : Int := goI a.al a.nx q l
def accA (a : Aut) (q : Int) : Bool := a.ac.getD q.toNat false
theorem xs4 {a : Aut} (h : AOK a) : ∀ q l : Int,0 ≤ q → q < a.nx.length → l ∈ x8 a.al → 0 ≤ goA a q l ∧ goA a q l < a.nx.length := by
 intro q l h0 h1 hl
 have := xay l hl
 exact xo4 h h0 h1 this.1 (by omega)
theorem xsv {a : Aut} (h : AOK a) : ∀ (w : List Int) (q : Int),(∀ l ∈ w,l ∈ x8 a.al) → 0 ≤ q → q < a.nx.length → 0 ≤ xdd (goA a) w q ∧ xdd (goA a) w q < a.nx.length
 | [],q,_,h0,h1 => ⟨h0,h1⟩
 | l :: w,q,hw,h0,h1 => by
  have hg := xs4 h q l h0 h1 (hw l List.mem_cons_self)
  exact xsv h w _ (fun x hx => hw x (List.mem_cons_of_mem _ hx)) hg.1 hg.2
theorem xyx {x y n : Int} (hn : 0 < n) (hx : 0 ≤ x) (hy : 0 ≤ y) (hy2 : y < n) : (x * n + y).tdiv n = x ∧ (x * n + y).tmod n = y := by
 have h0 : 0 ≤ x * n + y := by
  have := Int.mul_nonneg hx (Int.le_of_lt hn)
  omega
 rw [Int.tdiv_eq_ediv_of_nonneg h0,Int.tmod_eq_emod_of_nonneg h0,Int.add_comm,Int.add_mul_ediv_right _ _ (by omega),Int.add_mul_emod_self_right,Int.ediv_eq_zero_of_lt hy hy2,Int.emod_eq_of_lt hy hy2]
 omega
theorem xz0 {a : Aut} (h : AOK a) : ∀ (w : List Int) (i j u : Int),0 ≤ i → i < a.nx.length → 0 ≤ j → j < a.nx.length →
  (Path (nxT a a) (x8 a.al) (i * a.nx.length + j) w u ↔ (∀ l ∈ w,l ∈ x8 a.al) ∧ u = xdd (goA a) w i * a.nx.length + xdd (goA a) w j)
 | [],i,j,u,_,_,_,_ => by
  simp only [Path,xdd,List.foldl_nil]
  constructor
  ·rintro rfl; exact ⟨by simp,rfl⟩
  ·rintro ⟨_,rfl⟩; rfl
 | l :: w,i,j,u,i0,i1,j0,j1 => by
  obtain ⟨e1,e2⟩ := xyx (n := (a.nx.length : Int)) (by omega) i0 j0 j1
  simp only [Path,nxT,e1,e2,List.mem_singleton,exists_eq_left]
  constructor
  ·rintro ⟨hl,hp⟩
   have gi := xs4 h i l i0 i1 hl
   have gj := xs4 h j l j0 j1 hl
   obtain ⟨h1,h2⟩ := (xz0 h w (goA a i l) (goA a j l) u gi.1 gi.2 gj.1 gj.2).1 hp
   refine ⟨?_,h2⟩
   intro x hx
   rcases List.mem_cons.1 hx with rfl | hx
   ·exact hl
   ·exact h1 x hx
  ·rintro ⟨hw,hu⟩
   have hl := hw l List.mem_cons_self
   have gi := xs4 h i l i0 i1 hl
   have gj := xs4 h j l j0 j1 hl
   exact ⟨hl,(xz0 h w (goA a i l) (goA a j l) u gi.1 gi.2 gj.1 gj.2).2 ⟨fun x hx => hw x (List.mem_cons_of_mem _ hx),hu⟩⟩
def x1o2 (a : Aut) (i j : Int) (w : List Int) : Prop := (∀ l ∈ w,l ∈ x8 a.al) ∧ accA a (xdd (goA a) w i) ≠ accA a (xdd (goA a) w j)
theorem x1wj {a : Aut} (h : AOK a) {i j : Int} (hi : 0 ≤ i ∧ i < a.nx.length) (hj : 0 ≤ j ∧ j < a.nx.length) (w : List Int) :
  Hits (nxT a a) (x8 a.al) [i * a.nx.length + j] (glT (fun x y => x != y) a a) w ↔ x1o2 a i j w := by
 unfold Hits xjc x1o2
 simp only [List.mem_singleton,exists_eq_left]
 constructor
 ·rintro ⟨u,hp,hg⟩
  obtain ⟨h1,rfl⟩ := (xz0 h w i j u hi.1 hi.2 hj.1 hj.2).1 hp
  have ri := xsv h w i h1 hi.1 hi.2
  have rj := xsv h w j h1 hj.1 hj.2
  obtain ⟨e1,e2⟩ := xyx (n := (a.nx.length : Int)) (by omega) ri.1 rj.1 rj.2
  refine ⟨h1,?_⟩
  unfold glT at hg
  rw [e1,e2] at hg
  simpa [accA] using hg
 ·rintro ⟨h1,h2⟩
  have ri := xsv h w i h1 hi.1 hi.2
  have rj := xsv h w j h1 hj.1 hj.2
  obtain ⟨e1,e2⟩ := xyx (n := (a.nx.length : Int)) (by omega) ri.1 rj.1 rj.2
  refine ⟨_,(xz0 h w i j _ hi.1 hi.2 hj.1 hj.2).2 ⟨h1,rfl⟩,?_⟩
  unfold glT
  rw [e1,e2]
  simpa [accA] using h2
theorem x1ug {a : Aut} (h : AOK a) {i j : Int} (hi : 0 ≤ i ∧ i < a.nx.length) (hj : 0 ≤ j ∧ j < a.nx.length) : xv8 (x1o2 a i j) (x5u a i j) := by
 have hok : xyl a i j = true := by
  have h' : x8j a.al a.nx a.ac = true := h
  unfold xyl
  rw [h']
  simp; omega
 unfold x5u
 rw [if_pos hok]
 refine x1ou (x1wj h hi hj) ?_
 have hs := xsb hi hj
 have hr : ∀ v c : Int,0 ≤ v → v < ((a.nx.length * a.nx.length : Nat) : Int) → c ∈ x8 a.al → ∀ m ∈ nxT a a v c,0 ≤ m ∧ m < ((a.nx.length * a.nx.length : Nat) : Int) := by
  intro v c h0 h1 hc
  have := xay c hc
  rw [Int.natCast_mul] at h1 ⊢
  exact x158 h h h0 h1 (by omega)
 refine x1ml (xwu _) hr (fun n hn => ?_) (by simp)
 simp only [List.mem_singleton] at hn
 subst hn
 rw [Int.natCast_mul]; exact hs
theorem x1iq {a : Aut} (h : AOK a) {i j : Int} (hi : 0 ≤ i ∧ i < a.nx.length) (hj : 0 ≤ j ∧ j < a.nx.length) (h2 : (x5u a i j).2 = true) : (x5u a i j).1.length < a.nx.length ∧ ∀ l ∈ (x5u a i j).1,l ∈ x8 a.al := by
 rcases x1ug h hi hj with ⟨_,hl⟩ | ⟨he,_⟩
 ·obtain ⟨⟨t1,t2⟩,hmin⟩ := hl
  refine ⟨?_,t1⟩
  obtain ⟨v,v1,v2,v3⟩ := x1l5 (go := goA a) (ls := x8 a.al) (acc := accA a) (n := a.nx.length) (xs4 h) hi hj t1 t2
  apply Classical.byContradiction
  intro hc
  exact hmin v ⟨v1,v3⟩ (.inl (by omega))
 ·rw [he] at h2; cases h2
theorem x222 {al : Int} (ha : xb4 al = true) {w : List Int} (hw : ∀ l ∈ w,l ∈ x8 al) (hl : w.length ≤ 50000) : xpz al (txt w) = true := by
 unfold xpz txt
 simp only [Bool.and_eq_true,decide_eq_true_eq,List.length_map,List.all_eq_true,List.mem_map]
 refine ⟨⟨ha,hl⟩,?_⟩
 rintro b ⟨l,hlm,rfl⟩
 have hb := xay l (hw l hlm)
 have h2 := (xom.1 (hw l hlm)).2
 unfold inB okB
 rw [x1rn hb.1 hb.2,h2]
 simp [xof]
 omega
def x156 (a : Aut) (o : List Str) : Prop := o.Nodup ∧ ∀ w ∈ o,w.length < a.nx.length ∧ xpz a.al w = true
theorem x1d2 {a : Aut} (h : AOK a) {i : Nat} (hi : i < a.nx.length) : ∀ (q j : Nat) (o : List Str),j + q = a.nx.length → x156 a o → x156 a (sepJ a i q j o)
 | 0,_,o,_,ho => ho
 | q + 1,j,o,hj,ho => by
  unfold sepJ
  split
  ·rename_i hc
   refine x1d2 h hi q (j + 1) _ (by omega) ⟨?_,fun w hw => ?_⟩
   ·rw [List.nodup_append]
    refine ⟨ho.1,by simp,fun x hx y hy => ?_⟩
    simp only [List.mem_singleton] at hy
    subst hy
    rintro rfl
    exact hc.2 hx
   ·rcases List.mem_append.1 hw with hw | hw
    ·exact ho.2 w hw
    ·simp only [List.mem_singleton] at hw
     subst hw
     obtain ⟨_,_,_,a2,_⟩ := x7b h
     obtain ⟨s1,s2⟩ := x1iq h (i := i) (j := j) (by omega) (by omega) hc.1
     exact ⟨by simpa [txt] using s1,x222 (xkg h).2.2.2 s2 (by omega)⟩
  ·exact x1d2 h hi q (j + 1) o (by omega) ho
theorem x1nh {a : Aut} (h : AOK a) : ∀ (q i : Nat) (o : List Str),i + q = a.nx.length → x156 a o → x156 a (sepA a q i o)
 | 0,_,o,_,ho => ho
 | q + 1,i,o,hi,ho => by
  unfold sepA
  exact x1nh h q (i + 1) _ (by omega) (x1d2 h (by omega) _ (i + 1) o (by omega) ho)
theorem x1zk {a : Aut} (h : AOK a) : x156 a (sepW a) := by
 obtain ⟨a1,_,_,ha⟩ := xkg h
 refine x1nh h _ 0 _ (by omega) ⟨by simp,fun w hw => ?_⟩
 simp only [List.mem_singleton] at hw
 subst hw
 refine ⟨by simp; omega,?_⟩
 unfold xpz
 simp [ha]
theorem xzt {R : Type} {L n : Nat} (hn : 6 ≤ n) (hL : 2 ^ 60 ≤ L) {a : Aut} {l : List Str} (hl : l.length ≤ 100000) (hok : x156 a l) {k : Exit → List A → H → Option R} : ∀ (j i m : Nat) (hi : i + j = l.length) (hm : j < m),
  xg env (x2 env L n) L 0 [] (Z2 (U4 (Z32 (Z8 (Z4 (Z2 (Z1 ([])))))))) (x7r 0) (U2 (Z4 (U32 (U8 (U4 (U2 (U1 ([])))))))) m (Y2 (.d (.bool false) :: .ptr 0 0 0 :: .sl 1 0 0 l.length :: .d (.int .i64 ((i : Int))) :: Y32 (Y8 (Y4 (Y2 (Y1 ([]))))))) [.box [.d (.int .i64 a.al),.d (.ivs a.nx.length (xc a.nx)),.d (.ivs a.ac.length (xb a.ac))],.arr (x15 l) 1 0] k
  = k (.exit 0) (Y2 (.d (.bool false) :: .ptr 0 0 0 :: .sl 1 0 0 l.length :: .d (.int .i64 (l.length)) :: Y32 (Y8 (Y4 (Y2 (Y1 ([]))))))) [.box [.d (.int .i64 a.al),.d (.ivs a.nx.length (xc a.nx)),.d (.ivs a.ac.length (xb a.ac))],.arr (x15 l) 1 0] := by
 intro j
 induction j with
 | zero =>
  intro i m hi hm
  obtain _ | m := m; omega
  obtain rfl : i = l.length := by omega
  rw [xcg]
  simp only [xbm,Try.f5,SLM,simprocAttr]
  simp -implicitDefEqProofs (maxSteps := 2000000) (disch := first | assumption | exact ⟨by kernel_rfl⟩ | omega | (simp only [GT,LN] <;> omega) | fail) only [↓DN,↓kAsg,↓kRet,UP,simprocAttr,↓x6t,↓xdl,↓xd0,↓xac,↓xd4,↓xdm,↓xb8,↓xba,↓xbb,↓xb6,LA,SE,Int.lt_irrefl]
 | succ j ih =>
  intro i m hi hm
  obtain _ | m := m; omega
  have hc : (i : Int) < l.length := by omega
  have hk : i < l.length := by omega
  have hi0 : (0 : Int) ≤ i := by omega
  have hi1 : (i : Int) ≤ l.length := by omega
  have hmem : l.getD i [] ∈ l := by rw [List.getD_eq_getElem?_getD,List.getElem?_eq_getElem hk]; exact List.getElem_mem hk
  obtain ⟨hw1,hw2⟩ := hok.2 _ hmem
  have hw3 : ¬ ((a.nx.length : Int) ≤ (l.getD i []).length) := by omega
  have hno : l.getD i [] ∉ l.take i := by
   intro h
   obtain ⟨q,hq,he⟩ := List.getElem_of_mem h
   rw [List.length_take] at hq
   rw [List.getElem_take] at he
   rw [List.getD_eq_getElem?_getD,List.getElem?_eq_getElem hk] at he
   exact (List.pairwise_iff_getElem.1 hok.1) q i (by omega) hk (by omega) he
  have e5 : x15 (l.take i) = (x15 l).take i := by simp [x15,List.map_take]
  have e6 : (l.take i).length = i := by rw [List.length_take]; omega
  have kl_i := fun {R : Type} {n : Nat} {k : A → Option R} (hn : 2 ≤ n) => @xdm R L n k hn (l.take i) (l.getD i []) (by omega) hL
  rw [e5,e6,decide_eq_false hno] at kl_i
  have ih' := ih (i + 1) m (by omega) (by omega)
  rw [show ((i + 1 : Nat) : Int) = (i : Int) + 1 by omega] at ih'
  have hwl : (l.getD i []).length ≤ 4294967295 := by
   unfold xpz at hw2
   simp only [Bool.and_eq_true,decide_eq_true_eq] at hw2
   omega
  clear ih hok hmem hno hw1
  rw [xcg]
  simp only [xbm,Try.f5,SLM,simprocAttr]
  simp -implicitDefEqProofs (maxSteps := 2000000) (disch := first | assumption | exact ⟨by kernel_rfl⟩ | omega | (simp only [GT,LN] <;> omega) | fail) only [↓DN,↓kAsg,↓kRet,UP,simprocAttr,↓x6t,↓xdl,↓xd0,↓xac,↓xd4,↓xb8,↓xba,↓xbb,↓xb6,LA,SE,hc,hi0,hi1,hw2,hw3,↓kl_i,↓x1ot,Int.toNat_natCast,↓ih']
theorem x1rf {R : Type} {L n m : Nat} {al : Int} {nx : List (List Int)} {ac : List Bool} {k : Exit → List A → H → Option R} (hm : 0 < m) :
  xg env (x2 env L n) L 0 [] (Z2 (U4 (Z32 (Z8 (Z4 (Z2 (Z1 ([])))))))) (x7r 0) (U2 (Z4 (U32 (U8 (U4 (U2 (U1 ([])))))))) m (Y2 (.d (.bool false) :: .ptr 0 0 0 :: .d (.ivs 0 []) :: .d (.int .i64 0) :: Y32 (Y8 (Y4 (Y2 (Y1 ([]))))))) [.box [.d (.int .i64 al),.d (.ivs nx.length (xc nx)),.d (.ivs ac.length (xb ac))]] k
  = k (.exit 0) (Y2 (.d (.bool false) :: .ptr 0 0 0 :: .d (.ivs 0 []) :: .d (.int .i64 0) :: Y32 (Y8 (Y4 (Y2 (Y1 ([]))))))) [.box [.d (.int .i64 al),.d (.ivs nx.length (xc nx)),.d (.ivs ac.length (xb ac))]] := by
 obtain _ | m := m; omega
 rw [xcg]
 simp only [xbm,Try.f5,SLM,simprocAttr]
 simp -implicitDefEqProofs (maxSteps := 2000000) (disch := first | assumption | exact ⟨by kernel_rfl⟩ | omega | (simp only [GT,LN] <;> omega) | fail) only [↓DN,↓kAsg,↓kRet,UP,simprocAttr,↓x6t,↓xdl,↓xd0,↓xac,↓xd4,↓xdm,↓xb8,↓xba,↓xbb,↓xb6,LA,SE,Int.lt_irrefl]
theorem x128 {L n : Nat} (hn : 30 ≤ n) (c : List UInt8) (hL : 2 ^ 60 ≤ L) : x2 env L n 5 [.d (.ivs c.length (x19 c))] [] = some (.d (.bool true),[]) := by
 by_cases hsz : (1048576 : Int) < c.length
 ·obtain _ | n := n; omega
  rw [xfj]
  simp only [xcv,Try.f5,SLM,simprocAttr]
  simp -implicitDefEqProofs (maxSteps := 2000000) (disch := first | assumption | exact ⟨by kernel_rfl⟩ | omega | (simp only [GT,LN] <;> omega) | fail) only [↓DN,↓kAsg,↓kRet,UP,simprocAttr,↓x6t,↓xdl,↓xd0,↓xac,↓xd4,↓xdm,↓xb8,↓xba,↓xbb,↓xb6,hsz]
 ·obtain ⟨al,nx,ac,b,kd⟩ := xwp c (by omega)
  have hs := b.short (by omega)
  have ha := b.a
  have ha2 : ac.length ≤ 4294967296 := by omega
  unfold autD at kd
  cases hv : x8j al nx ac with
  | false =>
   have kc_1 := fun {R : Type} {n : Nat} {hq : H} {k : A → H → Option R} (hn : 10 ≤ n) => x1gu (h := hq) (k := k) rfl x9x (xur (L := L) hn ⟨al,nx,ac⟩ hv hs ha2 hL)
   have kc_2 := fun {R : Type} {n : Nat} {hq : H} {k : A → H → Option R} (hn : 13 ≤ n) => @x6t R L n hq k hn ⟨al,nx,ac⟩ hs ha2 hL
   have hr : sepR ⟨al,nx,ac⟩ = [] := by unfold sepR; rw [hv]; rfl
   have kc_3 := fun {R : Type} {n : Nat} {hq : H} {k : A → H → Option R} (hn : 2 ≤ n) => @xdl R L n hq k hn [] (by simp) hL
   have es : x15 [] = [] := rfl
   rw [hr] at kc_2
   simp only [List.length_nil,es] at kc_2 kc_3
   obtain _ | n := n; omega
   rw [xfj]
   simp only [xcv,Try.f5,SLM,simprocAttr]
   simp -implicitDefEqProofs (maxSteps := 2000000) (disch := first | assumption | exact ⟨by kernel_rfl⟩ | omega | (simp only [GT,LN] <;> omega) | fail) only [↓DN,↓kAsg,↓kRet,UP,simprocAttr,↓xd0,↓xac,↓xd4,↓xdm,↓xb8,↓xba,↓xbb,↓xb6,LA,SE,hsz,↓kd,↓kc_1,↓kc_2,↓kc_3,↓x1rf]
  | true =>
   have hok : AOK ⟨al,nx,ac⟩ := hv
   have kc_1 := fun {R : Type} {n : Nat} {hq : H} {k : A → H → Option R} (hn : 10 ≤ n) => x1lh (h := hq) (k := k) rfl x9x (x102 (L := L) hn ⟨al,nx,ac⟩ hok hL)
   have kc_2 := fun {R : Type} {n : Nat} {hq : H} {k : A → H → Option R} (hn : 13 ≤ n) => @x6t R L n hq k hn ⟨al,nx,ac⟩ hs ha2 hL
   have hr : sepR ⟨al,nx,ac⟩ = sepW ⟨al,nx,ac⟩ := by unfold sepR; rw [hv]; rfl
   have hso := x1zk hok
   have hln := (x18b hok).2
   rw [hr] at kc_2
   generalize sepW ⟨al,nx,ac⟩ = l at *
   have loop_a := fun {R : Type} {n : Nat} {k : Exit → List A → H → Option R} (hn : 6 ≤ n) => @xzt R L n hn hL ⟨al,nx,ac⟩ l (by omega) hso k l.length 0 L (by omega) (by omega)
   simp only [Int.natCast_zero] at loop_a
   clear hso
   obtain _ | n := n; omega
   rw [xfj]
   simp only [xcv,Try.f5,SLM,simprocAttr]
   simp -implicitDefEqProofs (maxSteps := 2000000) (disch := first | assumption | exact ⟨by kernel_rfl⟩ | omega | (simp only [GT,LN] <;> omega) | fail) only [↓DN,↓kAsg,↓kRet,UP,simprocAttr,↓xdl,↓xd0,↓xac,↓xd4,↓xdm,↓xb8,↓xba,↓xbb,↓xb6,LA,SE,hsz,↓kd,↓kc_1,↓kc_2,↓loop_a]
end Ev
end Go.Proofs.Ytppdfjdfjfoddaa
