/-
  Valid automata; where a letter leads: the functions of the program and of the reference, at data.
-/
import Derived.Test.YtppdfjdfjfoddaaAutM
import Derived.Test.YtppdfjdfjfoddaaLett
set_option linter.unusedSimpArgs false
set_option linter.unusedVariables false
set_option maxRecDepth 8000
set_option maxHeartbeats 4000000
namespace Go.Proofs.Ytppdfjdfjfoddaa
namespace Ev
def badQ (n : Int) (r : List Int) (i : Nat) : Bool := !(decide (0 ≤ r.getD i 0) && decide (r.getD i 0 < n))
def xh1 (w n : Int) (r : List Int) : Bool := !decide ((r.length : Int) = w) || (seek (badQ n r) r.length 0).isSome
def x6q (w n : Int) (rs : List (List Int)) (i : Nat) : Bool := xh1 w n (rs.getD i [])
def x5e (al : Int) (rs : List (List Int)) (ac : List Bool) : Bool :=
 xbz al && decide ((1 : Int) ≤ rs.length) && decide ((rs.length : Int) ≤ 12) && decide ((ac.length : Int) = rs.length) && (seek (x6q (x3 al).length rs.length rs) rs.length 0).isNone
theorem x1m2 {w n : Int} {r : List Int} (h : ¬ (r.length : Int) = w) : xh1 w n r = true := by
 unfold xh1
 rw [decide_eq_false h]
 rfl
theorem x105 {w n : Int} {r : List Int} (h : (r.length : Int) = w) : xh1 w n r = (seek (badQ n r) r.length 0).isSome := by
 unfold xh1
 rw [decide_eq_true h]
 rfl
theorem xub {n : Int} {r : List Int} {i : Nat} : badQ n r i = true ↔ ¬ (0 ≤ r.getD i 0 ∧ r.getD i 0 < n) := by
 unfold badQ
 simp only [Bool.not_eq_true',Bool.and_eq_false_iff,decide_eq_false_iff_not]
 omega
theorem xk6 {n : Int} {r : List Int} {i : Nat} : badQ n r i = false ↔ (0 ≤ r.getD i 0 ∧ r.getD i 0 < n) := by
 unfold badQ
 simp only [Bool.not_eq_false',Bool.and_eq_true,decide_eq_true_eq]
theorem xko {R : Type} {L nn : Nat} (hn : 1 ≤ nn) {n : Int} {r : List Int} (hl : r.length ≤ 4294967296) {k : Exit → List A → H → Option R} : ∀ (j : Nat) (i : Int) (m : Nat) (h0 : 0 ≤ i) (hi : i + j = r.length) (hm : j < m),
  xc env (x2 env L nn) L 0 [] (U1 (Z1 (U1 (Z2 (Z1 (U2 (Z16 (Z4 (Z2 (Z1 ([]))))))))))) (xjr 0) (Z1 (U1 (Z1 (U2 (U1 (Z2 (U16 (U4 (U2 (U1 ([]))))))))))) m (.d (.ivs r.length (ints r)) :: Y1 (.d (.int .i64 n) :: Y2 (Y1 (.d (.bool false) :: .d (.int .i64 i) :: Y16 (Y4 (Y2 (Y1 ([])))))))) [] k
  = match seek (badQ n r) j i.toNat with
   | none => k (.exit 0) (.d (.ivs r.length (ints r)) :: Y1 (.d (.int .i64 n) :: Y2 (Y1 (.d (.bool false) :: .d (.int .i64 (r.length)) :: Y16 (Y4 (Y2 (Y1 ([])))))))) []
   | some q => k .ret (.d (.ivs r.length (ints r)) :: Y1 (.d (.int .i64 n) :: Y2 (Y1 (.d (.bool false) :: .d (.int .i64 q) :: Y16 (Y4 (Y2 (Y1 ([])))))))) [] := by
 intro j
 induction j with
 | zero =>
  intro i m h0 hi hm
  obtain _ | m := m; omega
  obtain rfl : i = r.length := by omega
  rw [xfo]
  simp only [xgv,Try.f80,SLM,simprocAttr]
  simp -implicitDefEqProofs (maxSteps := 2000000) (disch := first | assumption | exact ⟨by kernel_rfl⟩ | omega | (simp only [GT,LN] <;> omega) | fail) only [↓DN,↓kAsg,↓kRet,UP,simprocAttr,LA,Int.lt_irrefl]
  rfl
 | succ j ih =>
  intro i m h0 hi hm
  obtain _ | m := m; omega
  have hc : i < r.length := by omega
  have hk : i.toNat < r.length := by omega
  have e1 : (i + 1).toNat = i.toNat + 1 := by omega
  have e3 : ((i.toNat : Nat) : Int) = i := by omega
  by_cases h1 : r.getD i.toNat 0 < 0
  ·have hb : badQ n r i.toNat = true := by rw [xub]; omega
   rw [xcj hb]
   rw [xfo]
   simp only [xgv,Try.f80,SLM,simprocAttr]
   simp -implicitDefEqProofs (maxSteps := 2000000) (disch := first | assumption | exact ⟨by kernel_rfl⟩ | omega | (simp only [GT,LN] <;> omega) | fail) only [↓DN,↓kAsg,↓kRet,UP,simprocAttr,LA,x2m,x5m,hc,h1,e3]
  ·by_cases h2 : n ≤ r.getD i.toNat 0
   ·have hb : badQ n r i.toNat = true := by rw [xub]; omega
    rw [xcj hb]
    rw [xfo]
    simp only [xgv,Try.f80,SLM,simprocAttr]
    simp -implicitDefEqProofs (maxSteps := 2000000) (disch := first | assumption | exact ⟨by kernel_rfl⟩ | omega | (simp only [GT,LN] <;> omega) | fail) only [↓DN,↓kAsg,↓kRet,UP,simprocAttr,LA,x2m,x5m,hc,h1,h2,e3]
   ·have hb : badQ n r i.toNat = false := by rw [xk6]; omega
    rw [xhw hb]
    rw [xfo]
    simp only [xgv,Try.f80,SLM,simprocAttr]
    simp -implicitDefEqProofs (maxSteps := 2000000) (disch := first | assumption | exact ⟨by kernel_rfl⟩ | omega | (simp only [GT,LN] <;> omega) | fail) only [↓DN,↓kAsg,↓kRet,UP,simprocAttr,LA,x2m,x5m,hc,h1,h2,↓ih,e1]
theorem x1cu {L n : Nat} (hn : 2 ≤ n) (r : List Int) (w q : Int) (hl : r.length ≤ 4294967296) (hL : 2 ^ 60 ≤ L) : x2 env L n 80 [.d (.ivs r.length (ints r)),.d (.int .i64 w),.d (.int .i64 q)] [] = some (.d (.bool (!xh1 w q r)),[]) := by
 unfold xh1
 by_cases h1 : (r.length : Int) = w
 ·have loop_a := fun {R : Type} {n : Nat} (hn : 1 ≤ n) {k : Exit → List A → H → Option R} => xko (R := R) (L := L) (nn := n) hn (n := q) hl (k := k) r.length 0 L (by omega) (by omega) (by omega)
  simp only [Int.toNat_zero] at loop_a
  cases hs : seek (badQ q r) r.length 0 with
  | none =>
   rw [hs] at loop_a
   obtain _ | n := n; omega
   rw [x10e]
   simp only [xv8,Try.f80,SLM,simprocAttr]
   simp -implicitDefEqProofs (maxSteps := 2000000) (disch := first | assumption | exact ⟨by kernel_rfl⟩ | omega | (simp only [GT,LN] <;> omega) | fail) only [↓DN,↓kAsg,↓kRet,UP,simprocAttr,↓xko,LA,h1,↓loop_a,hs]
  | some z =>
   rw [hs] at loop_a
   obtain _ | n := n; omega
   rw [x10e]
   simp only [xv8,Try.f80,SLM,simprocAttr]
   simp -implicitDefEqProofs (maxSteps := 2000000) (disch := first | assumption | exact ⟨by kernel_rfl⟩ | omega | (simp only [GT,LN] <;> omega) | fail) only [↓DN,↓kAsg,↓kRet,UP,simprocAttr,↓xko,LA,h1,↓loop_a,hs]
 ·obtain _ | n := n; omega
  rw [x10e]
  simp only [xv8,Try.f80,SLM,simprocAttr]
  simp -implicitDefEqProofs (maxSteps := 2000000) (disch := first | assumption | exact ⟨by kernel_rfl⟩ | omega | (simp only [GT,LN] <;> omega) | fail) only [↓DN,↓kAsg,↓kRet,UP,simprocAttr,↓xko,LA,h1]
theorem x9o {R : Type} {L n : Nat} {hq : H} {k : A → H → Option R} (hn : 2 ≤ n) (r : List Int) (w q : Int) (hl : r.length ≤ 4294967296) (hL : 2 ^ 60 ≤ L) : x4 env (x2 env L n) hq 80 [.d (.ivs r.length (ints r)),.d (.int .i64 w),.d (.int .i64 q)] k = k (.d (.bool (!xh1 w q r))) hq :=
 xh rfl (x1cu hn r w q hl hL) rfl (.inl rfl)
theorem x9p {R : Type} {L n : Nat} {k : A → Option R} (hn : 2 ≤ n) (r : List Int) (w q : Int) (hl : r.length ≤ 4294967296) (hL : 2 ^ 60 ≤ L) : xk (x2 env L n) 80 [.d (.ivs r.length (ints r)),.d (.int .i64 w),.d (.int .i64 q)] k = k (.d (.bool (!xh1 w q r))) :=
 x2c (x1cu hn r w q hl hL) rfl
theorem x7f {R : Type} {L n : Nat} {hq : H} {k : A → H → Option R} {id0 g0 o0 len0 : Nat} {w q : Int} : x4 env (x2 env L n) hq 80 [.sl id0 g0 o0 len0,.d (.int .i64 w),.d (.int .i64 q)] k = match box (xw hq [.sl id0 g0 o0 len0,.d (.int .i64 w),.d (.int .i64 q)]) with
  | .mk (some fs) => xk (x2 env L n) 80 fs fun r => k r hq
  | _ => none := x9 xri
theorem x48 {R : Type} {L n : Nat} (hL : 2 ^ 60 ≤ L) (hn : 3 ≤ n) {al : Int} {rs : List (List Int)} {ac : List Bool} (hs : xp rs) {k : Exit → List A → H → Option R} : ∀ (j : Nat) (i : Int) (m : Nat) (h0 : 0 ≤ i) (hi : i + j = rs.length) (hm : j < m),
  xc env (x2 env L n) L 0 [] (Z1 (U4 (Z32 (Z4 (Z2 (Z1 ([]))))))) (x8c 0) (U1 (Z4 (U32 (U4 (U2 (U1 ([]))))))) m (Y1 (.ptr 0 0 0 :: .d (.bool false) :: .d (.int .i64 (rs.length)) :: .d (.int .i64 i) :: Y32 (Y4 (Y2 (Y1 ([])))))) [.box [.d (.int .i64 al),.d (.ivs rs.length (rowsD rs)),.d (.ivs ac.length (bools ac))]] k
  = match seek (x6q (x3 al).length rs.length rs) j i.toNat with
   | none => k (.exit 0) (Y1 (.ptr 0 0 0 :: .d (.bool false) :: .d (.int .i64 (rs.length)) :: .d (.int .i64 (rs.length)) :: Y32 (Y4 (Y2 (Y1 ([])))))) [.box [.d (.int .i64 al),.d (.ivs rs.length (rowsD rs)),.d (.ivs ac.length (bools ac))]]
   | some q => k .ret (Y1 (.ptr 0 0 0 :: .d (.bool false) :: .d (.int .i64 (rs.length)) :: .d (.int .i64 q) :: Y32 (Y4 (Y2 (Y1 ([])))))) [.box [.d (.int .i64 al),.d (.ivs rs.length (rowsD rs)),.d (.ivs ac.length (bools ac))]] := by
 intro j
 have hrl := hs.1
 have hll := x6j al
 induction j with
 | zero =>
  intro i m h0 hi hm
  obtain _ | m := m; omega
  obtain rfl : i = rs.length := by omega
  rw [xao]
  simp only [x9n,Try.f41,SLM,simprocAttr]
  simp -implicitDefEqProofs (maxSteps := 2000000) (disch := first | assumption | exact ⟨by kernel_rfl⟩ | omega | (simp only [GT,LN] <;> omega) | fail) only [↓DN,↓kAsg,↓kRet,UP,simprocAttr,↓x5d,↓xt,↓x9o,↓x9p,↓x7f,LA,Int.lt_irrefl]
  rfl
 | succ j ih =>
  intro i m h0 hi hm
  obtain _ | m := m; omega
  have hc : i < rs.length := by omega
  have hk : i.toNat < rs.length := by omega
  have hrow := xie hs hk
  have e1 : (i + 1).toNat = i.toNat + 1 := by omega
  have e3 : ((i.toNat : Nat) : Int) = i := by omega
  cases hb : x6q (x3 al).length rs.length rs i.toNat with
  | true =>
   rw [xcj hb]
   unfold x6q at hb
   rw [xao]
   simp only [x9n,Try.f41,SLM,simprocAttr]
   simp -implicitDefEqProofs (maxSteps := 2000000) (disch := first | assumption | exact ⟨by kernel_rfl⟩ | omega | (simp only [GT,LN] <;> omega) | fail) only [↓DN,↓kAsg,↓kRet,UP,simprocAttr,↓x5d,↓xt,↓x9o,↓x9p,↓x7f,LA,x60,x6l,hc,hb,e3]
  | false =>
   rw [xhw hb]
   unfold x6q at hb
   rw [xao]
   simp only [x9n,Try.f41,SLM,simprocAttr]
   simp -implicitDefEqProofs (maxSteps := 2000000) (disch := first | assumption | exact ⟨by kernel_rfl⟩ | omega | (simp only [GT,LN] <;> omega) | fail) only [↓DN,↓kAsg,↓kRet,UP,simprocAttr,↓x5d,↓xt,↓x9o,↓x9p,↓x7f,LA,x60,x6l,hc,hb,↓ih,e1]
theorem xlg {L n : Nat} (hn : 4 ≤ n) (al : Int) (rs : List (List Int)) (ac : List Bool) (hs : xp rs) (ha : ac.length ≤ 4294967296) (hL : 2 ^ 60 ≤ L) : x2 env L n 41 [.agg [.d (.int .i64 al),.d (.ivs rs.length (rowsD rs)),.d (.ivs ac.length (bools ac))]] [] = some (.d (.bool (x5e al rs ac)),[]) := by
 have hrl := hs.1
 have loop_a := fun {R : Type} {n : Nat} (hn : 3 ≤ n) {k : Exit → List A → H → Option R} => x48 (R := R) (L := L) hL hn (al := al) (ac := ac) hs (k := k) rs.length 0 L (by omega) (by omega) (by omega)
 simp only [Int.toNat_zero] at loop_a
 unfold x5e
 cases hq : xbz al with
 | false =>
  obtain _ | n := n; omega
  rw [x6g]
  simp only [x5q,Try.f41,SLM,simprocAttr]
  simp -implicitDefEqProofs (maxSteps := 2000000) (disch := first | assumption | exact ⟨by kernel_rfl⟩ | omega | (simp only [GT,LN] <;> omega) | fail) only [↓DN,↓kAsg,↓kRet,UP,simprocAttr,↓x5d,↓xt,↓x9o,↓x9p,↓x7f,↓x48,LA,hq,Bool.false_and]
 | true =>
  by_cases h1 : (1 : Int) ≤ rs.length
  ·have n1 : ¬ (rs.length : Int) < 1 := by omega
   by_cases h2 : (rs.length : Int) ≤ 12
   ·have n2 : ¬ (12 : Int) < rs.length := by omega
    by_cases h3 : (ac.length : Int) = rs.length
    ·cases hk : seek (x6q (x3 al).length rs.length rs) rs.length 0 with
     | none =>
      rw [hk] at loop_a
      obtain _ | n := n; omega
      rw [x6g]
      simp only [x5q,Try.f41,SLM,simprocAttr]
      simp -implicitDefEqProofs (maxSteps := 2000000) (disch := first | assumption | exact ⟨by kernel_rfl⟩ | omega | (simp only [GT,LN] <;> omega) | fail) only [↓DN,↓kAsg,↓kRet,UP,simprocAttr,↓x5d,↓xt,↓x9o,↓x9p,↓x7f,↓x48,LA,hq,h1,n1,h2,n2,h3,hk,↓loop_a]
     | some z =>
      rw [hk] at loop_a
      obtain _ | n := n; omega
      rw [x6g]
      simp only [x5q,Try.f41,SLM,simprocAttr]
      simp -implicitDefEqProofs (maxSteps := 2000000) (disch := first | assumption | exact ⟨by kernel_rfl⟩ | omega | (simp only [GT,LN] <;> omega) | fail) only [↓DN,↓kAsg,↓kRet,UP,simprocAttr,↓x5d,↓xt,↓x9o,↓x9p,↓x7f,↓x48,LA,hq,h1,n1,h2,n2,h3,hk,↓loop_a,Bool.and_false]
    ·obtain _ | n := n; omega
     rw [x6g]
     simp only [x5q,Try.f41,SLM,simprocAttr]
     simp -implicitDefEqProofs (maxSteps := 2000000) (disch := first | assumption | exact ⟨by kernel_rfl⟩ | omega | (simp only [GT,LN] <;> omega) | fail) only [↓DN,↓kAsg,↓kRet,UP,simprocAttr,↓x5d,↓xt,↓x9o,↓x9p,↓x7f,↓x48,LA,hq,h1,n1,h2,n2,h3,Bool.false_and,Bool.and_false]
   ·have n2 : (12 : Int) < rs.length := by omega
    obtain _ | n := n; omega
    rw [x6g]
    simp only [x5q,Try.f41,SLM,simprocAttr]
    simp -implicitDefEqProofs (maxSteps := 2000000) (disch := first | assumption | exact ⟨by kernel_rfl⟩ | omega | (simp only [GT,LN] <;> omega) | fail) only [↓DN,↓kAsg,↓kRet,UP,simprocAttr,↓x5d,↓xt,↓x9o,↓x9p,↓x7f,↓x48,LA,hq,h1,n1,h2,n2,Bool.false_and,Bool.and_false]
  ·have n1 : (rs.length : Int) < 1 := by omega
   obtain _ | n := n; omega
   rw [x6g]
   simp only [x5q,Try.f41,SLM,simprocAttr]
   simp -implicitDefEqProofs (maxSteps := 2000000) (disch := first | assumption | exact ⟨by kernel_rfl⟩ | omega | (simp only [GT,LN] <;> omega) | fail) only [↓DN,↓kAsg,↓kRet,UP,simprocAttr,↓x5d,↓xt,↓x9o,↓x9p,↓x7f,↓x48,LA,hq,h1,n1,Bool.false_and,Bool.and_false]
theorem x5b {R : Type} {L n : Nat} {hq : H} {k : A → H → Option R} (hn : 4 ≤ n) (al : Int) (rs : List (List Int)) (ac : List Bool) (hs : xp rs) (ha : ac.length ≤ 4294967296) (hL : 2 ^ 60 ≤ L) : x4 env (x2 env L n) hq 41 [.agg [.d (.int .i64 al),.d (.ivs rs.length (rowsD rs)),.d (.ivs ac.length (bools ac))]] k = k (.d (.bool (x5e al rs ac))) hq :=
 xh rfl (xlg hn al rs ac hs ha hL) rfl (.inl rfl)
theorem x5c {R : Type} {L n : Nat} {k : A → Option R} (hn : 4 ≤ n) (al : Int) (rs : List (List Int)) (ac : List Bool) (hs : xp rs) (ha : ac.length ≤ 4294967296) (hL : 2 ^ 60 ≤ L) : xk (x2 env L n) 41 [.agg [.d (.int .i64 al),.d (.ivs rs.length (rowsD rs)),.d (.ivs ac.length (bools ac))]] k = k (.d (.bool (x5e al rs ac))) :=
 x2c (xlg hn al rs ac hs ha hL) rfl
theorem x4d {R : Type} {L n : Nat} {hq : H} {k : A → H → Option R} {id0 g0 o0 len0 : Nat} {al : Int} {ac : List Bool} : x4 env (x2 env L n) hq 41 [.agg [.d (.int .i64 al),.sl id0 g0 o0 len0,.d (.ivs ac.length (bools ac))]] k = match box (xw hq [.agg [.d (.int .i64 al),.sl id0 g0 o0 len0,.d (.ivs ac.length (bools ac))]]) with
  | .mk (some fs) => xk (x2 env L n) 41 fs fun r => k r hq
  | _ => none := x9 x6u
theorem x4a {R : Type} {L n : Nat} {hq : H} {k : A → H → Option R} {id1 g1 o1 len1 : Nat} {al : Int} {rs : List (List Int)} : x4 env (x2 env L n) hq 41 [.agg [.d (.int .i64 al),.d (.ivs rs.length (rowsD rs)),.sl id1 g1 o1 len1]] k = match box (xw hq [.agg [.d (.int .i64 al),.d (.ivs rs.length (rowsD rs)),.sl id1 g1 o1 len1]]) with
  | .mk (some fs) => xk (x2 env L n) 41 fs fun r => k r hq
  | _ => none := x9 x6u
theorem x4c {R : Type} {L n : Nat} {hq : H} {k : A → H → Option R} {id1 g1 o1 len1 : Nat} {id0 g0 o0 len0 : Nat} {al : Int} : x4 env (x2 env L n) hq 41 [.agg [.d (.int .i64 al),.sl id0 g0 o0 len0,.sl id1 g1 o1 len1]] k = match box (xw hq [.agg [.d (.int .i64 al),.sl id0 g0 o0 len0,.sl id1 g1 o1 len1]]) with
  | .mk (some fs) => xk (x2 env L n) 41 fs fun r => k r hq
  | _ => none := x9 x6u
theorem x27 {R : Type} {L n : Nat} (hL : 2 ^ 60 ≤ L) (hn : 3 ≤ n) {al q w : Int} {rs : List (List Int)} {ac : List Bool} (hs : xp rs) {r : List Int} (hr : r.length ≤ 4294967296) {k : Exit → List A → H → Option R} : ∀ (j : Nat) (i : Int) (m : Nat) (h0 : 0 ≤ i) (hi : i + j = r.length) (hm : j < m),
  xc env (x2 env L n) L 0 [] (Z1 (U2 (U1 (Z32 (Z2 (U2 (U1 (Z4 (Z2 (Z1 (U2 (U1 (Z8 (Z4 (Z2 ([])))))))))))))))) (x3f 1) (U1 (Z2 (Z1 (U32 (U2 (Z2 (Z1 (U4 (U2 (U1 (Z2 (Z1 (U8 (U4 (U2 ([])))))))))))))))) m (Y1 (.ptr 0 0 0 :: .d (.bool false) :: .d (.int .i64 w) :: Y32 (Y2 (.d (.ivs rs.length (rowsD rs)) :: .d (.int .i64 (rs.length)) :: .d (.int .i64 q) :: Y4 (Y2 (Y1 (.d (.ivs r.length (ints r)) :: .d (.int .i64 (r.length)) :: .d (.int .i64 i) :: Y8 (Y4 (Y2 ([])))))))))) [.box [.d (.int .i64 al),.d (.ivs rs.length (rowsD rs)),.d (.ivs ac.length (bools ac))]] k
  = match seek (badQ rs.length r) j i.toNat with
   | none => k (.exit 2) (Y1 (.ptr 0 0 0 :: .d (.bool false) :: .d (.int .i64 w) :: Y32 (Y2 (.d (.ivs rs.length (rowsD rs)) :: .d (.int .i64 (rs.length)) :: .d (.int .i64 q) :: Y4 (Y2 (Y1 (.d (.ivs r.length (ints r)) :: .d (.int .i64 (r.length)) :: .d (.int .i64 (r.length)) :: Y8 (Y4 (Y2 ([])))))))))) [.box [.d (.int .i64 al),.d (.ivs rs.length (rowsD rs)),.d (.ivs ac.length (bools ac))]]
   | some z => k .ret (Y1 (.ptr 0 0 0 :: .d (.bool false) :: .d (.int .i64 w) :: Y32 (Y2 (.d (.ivs rs.length (rowsD rs)) :: .d (.int .i64 (rs.length)) :: .d (.int .i64 q) :: Y4 (Y2 (Y1 (.d (.ivs r.length (ints r)) :: .d (.int .i64 (r.length)) :: .d (.int .i64 z) :: Y8 (Y4 (Y2 ([])))))))))) [.box [.d (.int .i64 al),.d (.ivs rs.length (rowsD rs)),.d (.ivs ac.length (bools ac))]] := by
 intro j
 have hrl := hs.1
 induction j with
 | zero =>
  intro i m h0 hi hm
  obtain _ | m := m; omega
  obtain rfl : i = r.length := by omega
  rw [x8b]
  simp only [x7h,Try.f15,SLM,simprocAttr]
  simp -implicitDefEqProofs (maxSteps := 2000000) (disch := first | assumption | exact ⟨by kernel_rfl⟩ | omega | (simp only [GT,LN] <;> omega) | fail) only [↓DN,↓kAsg,↓kRet,UP,simprocAttr,↓x2p,↓x1c,LA,Int.lt_irrefl]
  rfl
 | succ j ih =>
  intro i m h0 hi hm
  obtain _ | m := m; omega
  have hc : i < r.length := by omega
  have hk : i.toNat < r.length := by omega
  have e1 : (i + 1).toNat = i.toNat + 1 := by omega
  have e3 : ((i.toNat : Nat) : Int) = i := by omega
  by_cases h1 : r.getD i.toNat 0 < 0
  ·have hb : badQ rs.length r i.toNat = true := by rw [xub]; omega
   rw [xcj hb]
   rw [x8b]
   simp only [x7h,Try.f15,SLM,simprocAttr]
   simp -implicitDefEqProofs (maxSteps := 2000000) (disch := first | assumption | exact ⟨by kernel_rfl⟩ | omega | (simp only [GT,LN] <;> omega) | fail) only [↓DN,↓kAsg,↓kRet,UP,simprocAttr,↓x2p,↓x1c,LA,x2m,x5m,hc,h1,e3]
  ·by_cases h2 : (rs.length : Int) ≤ r.getD i.toNat 0
   ·have hb : badQ rs.length r i.toNat = true := by rw [xub]; omega
    rw [xcj hb]
    rw [x8b]
    simp only [x7h,Try.f15,SLM,simprocAttr]
    simp -implicitDefEqProofs (maxSteps := 2000000) (disch := first | assumption | exact ⟨by kernel_rfl⟩ | omega | (simp only [GT,LN] <;> omega) | fail) only [↓DN,↓kAsg,↓kRet,UP,simprocAttr,↓x2p,↓x1c,LA,x2m,x5m,hc,h1,h2,e3]
   ·have hb : badQ rs.length r i.toNat = false := by rw [xk6]; omega
    rw [xhw hb]
    rw [x8b]
    simp only [x7h,Try.f15,SLM,simprocAttr]
    simp -implicitDefEqProofs (maxSteps := 2000000) (disch := first | assumption | exact ⟨by kernel_rfl⟩ | omega | (simp only [GT,LN] <;> omega) | fail) only [↓DN,↓kAsg,↓kRet,UP,simprocAttr,↓x2p,↓x1c,LA,x2m,x5m,hc,h1,h2,↓ih,e1]
theorem x3o {R : Type} {L n : Nat} (hL : 2 ^ 60 ≤ L) (hn : 3 ≤ n) {al : Int} {rs : List (List Int)} {ac : List Bool} (hs : xp rs) {k : Exit → List A → H → Option R} : ∀ (j : Nat) (i : Int) (m : Nat) (h0 : 0 ≤ i) (hi : i + j = rs.length) (hm : j < m),
  xc env (x2 env L n) L 0 [] (Z1 (U2 (U1 (Z32 (Z2 (U2 (U1 (Z4 (Z2 (Z1 (U2 (U1 (Z8 (Z4 (Z2 ([])))))))))))))))) (x3f 0) (U1 (Z2 (Z1 (U32 (U2 (Z2 (Z1 (U16 (U8 ([])))))))))) m (Y1 (.ptr 0 0 0 :: .d (.bool false) :: .d (.int .i64 ((x3 al).length)) :: Y32 (Y2 (.d (.ivs rs.length (rowsD rs)) :: .d (.int .i64 (rs.length)) :: .d (.int .i64 i) :: Y16 (Y8 ([])))))) [.box [.d (.int .i64 al),.d (.ivs rs.length (rowsD rs)),.d (.ivs ac.length (bools ac))]] k
  = match seek (x6q (x3 al).length rs.length rs) j i.toNat with
   | none => k (.exit 0) (Y1 (.ptr 0 0 0 :: .d (.bool false) :: .d (.int .i64 ((x3 al).length)) :: Y32 (Y2 (.d (.ivs rs.length (rowsD rs)) :: .d (.int .i64 (rs.length)) :: .d (.int .i64 (rs.length)) :: Y16 (Y8 ([])))))) [.box [.d (.int .i64 al),.d (.ivs rs.length (rowsD rs)),.d (.ivs ac.length (bools ac))]]
   | some q => k .ret (Y1 (.ptr 0 0 0 :: .d (.bool false) :: .d (.int .i64 ((x3 al).length)) :: Y32 (Y2 (.d (.ivs rs.length (rowsD rs)) :: .d (.int .i64 (rs.length)) :: .d (.int .i64 q) :: Y16 (Y8 ([])))))) [.box [.d (.int .i64 al),.d (.ivs rs.length (rowsD rs)),.d (.ivs ac.length (bools ac))]] := by
 intro j
 have hrl := hs.1
 have hll := x6j al
 induction j with
 | zero =>
  intro i m h0 hi hm
  obtain _ | m := m; omega
  obtain rfl : i = rs.length := by omega
  rw [x89]
  simp only [x7i,Try.f15,SLM,simprocAttr]
  simp -implicitDefEqProofs (maxSteps := 2000000) (disch := first | assumption | exact ⟨by kernel_rfl⟩ | omega | (simp only [GT,LN] <;> omega) | fail) only [↓DN,↓kAsg,↓kRet,UP,simprocAttr,↓x2p,↓x1c,↓x27,LA,Int.lt_irrefl]
  rfl
 | succ j ih =>
  intro i m h0 hi hm
  obtain _ | m := m; omega
  have hc : i < rs.length := by omega
  have hk : i.toNat < rs.length := by omega
  have hrow := xie hs hk
  have e1 : (i + 1).toNat = i.toNat + 1 := by omega
  have e3 : ((i.toNat : Nat) : Int) = i := by omega
  have loop_a := fun {R : Type} {k : Exit → List A → H → Option R} => x27 (R := R) (n := n) (L := L) hL hn (al := al) (q := i) (w := (x3 al).length) (ac := ac) hs hrow (k := k) (rs.getD i.toNat []).length 0 L (by omega) (by omega) (by omega)
  simp only [Int.toNat_zero] at loop_a
  cases hb : x6q (x3 al).length rs.length rs i.toNat with
  | true =>
   rw [xcj hb]
   unfold x6q at hb
   by_cases hw : ((rs.getD i.toNat []).length : Int) = (x3 al).length
   ·have hwd : decide (((rs.getD i.toNat []).length : Int) = (x3 al).length) = true := decide_eq_true hw
    cases hz : seek (badQ rs.length (rs.getD i.toNat [])) (rs.getD i.toNat []).length 0 with
    | none => rw [x105 hw,hz] at hb; cases hb
    | some z =>
     rw [hz] at loop_a
     clear ih hb
     rw [x89]
     simp only [x7i,Try.f15,SLM,simprocAttr]
     simp -implicitDefEqProofs (maxSteps := 2000000) (disch := first | assumption | exact ⟨by kernel_rfl⟩ | omega | (simp only [GT,LN] <;> omega) | fail) only [↓DN,↓kAsg,↓kRet,UP,simprocAttr,↓x2p,↓x1c,↓x27,LA,x60,x6l,hc,hwd,↓loop_a,e3]
   ·clear ih hb loop_a
    rw [x89]
    simp only [x7i,Try.f15,SLM,simprocAttr]
    simp -implicitDefEqProofs (maxSteps := 2000000) (disch := first | assumption | exact ⟨by kernel_rfl⟩ | omega | (simp only [GT,LN] <;> omega) | fail) only [↓DN,↓kAsg,↓kRet,UP,simprocAttr,↓x2p,↓x1c,↓x27,LA,x60,x6l,hc,hw,e3]
  | false =>
   rw [xhw hb]
   unfold x6q at hb
   by_cases hw : ((rs.getD i.toNat []).length : Int) = (x3 al).length
   ·have hwd : decide (((rs.getD i.toNat []).length : Int) = (x3 al).length) = true := decide_eq_true hw
    cases hz : seek (badQ rs.length (rs.getD i.toNat [])) (rs.getD i.toNat []).length 0 with
    | none =>
     rw [hz] at loop_a
     clear hb
     rw [x89]
     simp only [x7i,Try.f15,SLM,simprocAttr]
     simp -implicitDefEqProofs (maxSteps := 2000000) (disch := first | assumption | exact ⟨by kernel_rfl⟩ | omega | (simp only [GT,LN] <;> omega) | fail) only [↓DN,↓kAsg,↓kRet,UP,simprocAttr,↓x2p,↓x1c,↓x27,LA,x60,x6l,hc,hwd,↓loop_a,↓ih,e1]
    | some z => rw [x105 hw,hz] at hb; cases hb
   ·rw [x1m2 hw] at hb; cases hb
theorem xlo {L n : Nat} (hn : 4 ≤ n) (al : Int) (rs : List (List Int)) (ac : List Bool) (hs : xp rs) (ha : ac.length ≤ 4294967296) (hL : 2 ^ 60 ≤ L) : x2 env L n 15 [.agg [.d (.int .i64 al),.d (.ivs rs.length (rowsD rs)),.d (.ivs ac.length (bools ac))]] [] = some (.d (.bool (x5e al rs ac)),[]) := by
 have hrl := hs.1
 have hll := x6j al
 have loop_a := fun {R : Type} {n : Nat} (hn : 3 ≤ n) {k : Exit → List A → H → Option R} => x3o (R := R) (L := L) hL hn (al := al) (ac := ac) hs (k := k) rs.length 0 L (by omega) (by omega) (by omega)
 simp only [Int.toNat_zero] at loop_a
 unfold x5e
 cases hq : xbz al with
 | false =>
  obtain _ | n := n; omega
  rw [x6f]
  simp only [x5p,Try.f15,SLM,simprocAttr]
  simp -implicitDefEqProofs (maxSteps := 2000000) (disch := first | assumption | exact ⟨by kernel_rfl⟩ | omega | (simp only [GT,LN] <;> omega) | fail) only [↓DN,↓kAsg,↓kRet,UP,simprocAttr,↓x2p,↓x1c,↓x3o,↓x27,LA,hq,Bool.false_and]
 | true =>
  by_cases h1 : (1 : Int) ≤ rs.length
  ·have n1 : ¬ (rs.length : Int) < 1 := by omega
   by_cases h2 : (rs.length : Int) ≤ 12
   ·have n2 : ¬ (12 : Int) < rs.length := by omega
    by_cases h3 : (ac.length : Int) = rs.length
    ·cases hk : seek (x6q (x3 al).length rs.length rs) rs.length 0 with
     | none =>
      rw [hk] at loop_a
      obtain _ | n := n; omega
      rw [x6f]
      simp only [x5p,Try.f15,SLM,simprocAttr]
      simp -implicitDefEqProofs (maxSteps := 2000000) (disch := first | assumption | exact ⟨by kernel_rfl⟩ | omega | (simp only [GT,LN] <;> omega) | fail) only [↓DN,↓kAsg,↓kRet,UP,simprocAttr,↓x2p,↓x1c,↓x3o,↓x27,LA,hq,h1,n1,h2,n2,h3,hk,↓loop_a]
     | some z =>
      rw [hk] at loop_a
      obtain _ | n := n; omega
      rw [x6f]
      simp only [x5p,Try.f15,SLM,simprocAttr]
      simp -implicitDefEqProofs (maxSteps := 2000000) (disch := first | assumption | exact ⟨by kernel_rfl⟩ | omega | (simp only [GT,LN] <;> omega) | fail) only [↓DN,↓kAsg,↓kRet,UP,simprocAttr,↓x2p,↓x1c,↓x3o,↓x27,LA,hq,h1,n1,h2,n2,h3,hk,↓loop_a,Bool.and_false]
    ·obtain _ | n := n; omega
     rw [x6f]
     simp only [x5p,Try.f15,SLM,simprocAttr]
     simp -implicitDefEqProofs (maxSteps := 2000000) (disch := first | assumption | exact ⟨by kernel_rfl⟩ | omega | (simp only [GT,LN] <;> omega) | fail) only [↓DN,↓kAsg,↓kRet,UP,simprocAttr,↓x2p,↓x1c,↓x3o,↓x27,LA,hq,h1,n1,h2,n2,h3,Bool.false_and,Bool.and_false]
   ·have n2 : (12 : Int) < rs.length := by omega
    obtain _ | n := n; omega
    rw [x6f]
    simp only [x5p,Try.f15,SLM,simprocAttr]
    simp -implicitDefEqProofs (maxSteps := 2000000) (disch := first | assumption | exact ⟨by kernel_rfl⟩ | omega | (simp only [GT,LN] <;> omega) | fail) only [↓DN,↓kAsg,↓kRet,UP,simprocAttr,↓x2p,↓x1c,↓x3o,↓x27,LA,hq,h1,n1,h2,n2,Bool.false_and,Bool.and_false]
  ·have n1 : (rs.length : Int) < 1 := by omega
   obtain _ | n := n; omega
   rw [x6f]
   simp only [x5p,Try.f15,SLM,simprocAttr]
   simp -implicitDefEqProofs (maxSteps := 2000000) (disch := first | assumption | exact ⟨by kernel_rfl⟩ | omega | (simp only [GT,LN] <;> omega) | fail) only [↓DN,↓kAsg,↓kRet,UP,simprocAttr,↓x2p,↓x1c,↓x3o,↓x27,LA,hq,h1,n1,Bool.false_and,Bool.and_false]
theorem x58 {R : Type} {L n : Nat} {hq : H} {k : A → H → Option R} (hn : 4 ≤ n) (al : Int) (rs : List (List Int)) (ac : List Bool) (hs : xp rs) (ha : ac.length ≤ 4294967296) (hL : 2 ^ 60 ≤ L) : x4 env (x2 env L n) hq 15 [.agg [.d (.int .i64 al),.d (.ivs rs.length (rowsD rs)),.d (.ivs ac.length (bools ac))]] k = k (.d (.bool (x5e al rs ac))) hq :=
 xh rfl (xlo hn al rs ac hs ha hL) rfl (.inl rfl)
theorem x59 {R : Type} {L n : Nat} {k : A → Option R} (hn : 4 ≤ n) (al : Int) (rs : List (List Int)) (ac : List Bool) (hs : xp rs) (ha : ac.length ≤ 4294967296) (hL : 2 ^ 60 ≤ L) : xk (x2 env L n) 15 [.agg [.d (.int .i64 al),.d (.ivs rs.length (rowsD rs)),.d (.ivs ac.length (bools ac))]] k = k (.d (.bool (x5e al rs ac))) :=
 x2c (xlo hn al rs ac hs ha hL) rfl
theorem x4b {R : Type} {L n : Nat} {hq : H} {k : A → H → Option R} {id0 g0 o0 len0 : Nat} {al : Int} {ac : List Bool} : x4 env (x2 env L n) hq 15 [.agg [.d (.int .i64 al),.sl id0 g0 o0 len0,.d (.ivs ac.length (bools ac))]] k = match box (xw hq [.agg [.d (.int .i64 al),.sl id0 g0 o0 len0,.d (.ivs ac.length (bools ac))]]) with
  | .mk (some fs) => xk (x2 env L n) 15 fs fun r => k r hq
  | _ => none := x9 x70
theorem x4g {R : Type} {L n : Nat} {hq : H} {k : A → H → Option R} {id1 g1 o1 len1 : Nat} {al : Int} {rs : List (List Int)} : x4 env (x2 env L n) hq 15 [.agg [.d (.int .i64 al),.d (.ivs rs.length (rowsD rs)),.sl id1 g1 o1 len1]] k = match box (xw hq [.agg [.d (.int .i64 al),.d (.ivs rs.length (rowsD rs)),.sl id1 g1 o1 len1]]) with
  | .mk (some fs) => xk (x2 env L n) 15 fs fun r => k r hq
  | _ => none := x9 x70
theorem x4j {R : Type} {L n : Nat} {hq : H} {k : A → H → Option R} {id1 g1 o1 len1 : Nat} {id0 g0 o0 len0 : Nat} {al : Int} : x4 env (x2 env L n) hq 15 [.agg [.d (.int .i64 al),.sl id0 g0 o0 len0,.sl id1 g1 o1 len1]] k = match box (xw hq [.agg [.d (.int .i64 al),.sl id0 g0 o0 len0,.sl id1 g1 o1 len1]]) with
  | .mk (some fs) => xk (x2 env L n) 15 fs fun r => k r hq
  | _ => none := x9 x70
end Ev
end Go.Proofs.Ytppdfjdfjfoddaa
