/-
  Valid automata; where a letter leads: the functions of the program and of the reference, at data.
-/
import Derived.Test.YtppdfjdfjfoddaaShSf
import Derived.Test.YtppdfjdfjfoddaaDrawR
set_option linter.unusedSimpArgs false
set_option linter.unusedVariables false
set_option maxRecDepth 8000
set_option maxHeartbeats 4000000
namespace Go.Proofs.Ytppdfjdfjfoddaa
namespace Ev
def badQ (n : Int) (r : List Int) (i : Nat) : Bool := !(decide (0 ≤ r.getD i 0) && decide (r.getD i 0 < n))
def xij (w n : Int) (r : List Int) : Bool := !decide ((r.length : Int) = w) || (seek (badQ n r) r.length 0).isSome
def x9s (w n : Int) (rs : List (List Int)) (i : Nat) : Bool := xij w n (rs.getD i [])
def x8j (al : Int) (rs : List (List Int)) (ac : List Bool) : Bool :=
 xb4 al && decide ((1 : Int) ≤ rs.length) && decide ((rs.length : Int) ≤ 12) && decide ((ac.length : Int) = rs.length) && (seek (x9s (x8 al).length rs.length rs) rs.length 0).isNone
theorem x1jy {w n : Int} {r : List Int} (h : ¬ (r.length : Int) = w) : xij w n r = true := by
 unfold xij
 rw [decide_eq_false h]
 rfl
theorem x1jc {w n : Int} {r : List Int} (h : (r.length : Int) = w) : xij w n r = (seek (badQ n r) r.length 0).isSome := by
 unfold xij
 rw [decide_eq_true h]
 rfl
theorem xuu {n : Int} {r : List Int} {i : Nat} : badQ n r i = true ↔ ¬ (0 ≤ r.getD i 0 ∧ r.getD i 0 < n) := by
 unfold badQ
 simp only [Bool.not_eq_true',Bool.and_eq_false_iff,decide_eq_false_iff_not]
 omega
theorem xzm {n : Int} {r : List Int} {i : Nat} : badQ n r i = false ↔ (0 ≤ r.getD i 0 ∧ r.getD i 0 < n) := by
 unfold badQ
 simp only [Bool.not_eq_false',Bool.and_eq_true,decide_eq_true_eq]
theorem xko {R : Type} {L nn : Nat} (hn : 1 ≤ nn) {n : Int} {r : List Int} (hl : r.length ≤ 4294967296) {k : Exit → List A → H → Option R} : ∀ (j : Nat) (i : Int) (m : Nat) (h0 : 0 ≤ i) (hi : i + j = r.length) (hm : j < m),
  xg env (x2 env L nn) L 0 [] (U1 (Z1 (U1 (Z2 (Z1 (U2 (Z16 (Z4 (Z2 (Z1 ([]))))))))))) (xl8 0) (Z1 (U1 (Z1 (U2 (U1 (Z2 (U16 (U4 (U2 (U1 ([]))))))))))) m (.d (.ivs r.length (ints r)) :: Y1 (.d (.int .i64 n) :: Y2 (Y1 (.d (.bool false) :: .d (.int .i64 i) :: Y16 (Y4 (Y2 (Y1 ([])))))))) [] k
  = match seek (badQ n r) j i.toNat with
   | none => k (.exit 0) (.d (.ivs r.length (ints r)) :: Y1 (.d (.int .i64 n) :: Y2 (Y1 (.d (.bool false) :: .d (.int .i64 (r.length)) :: Y16 (Y4 (Y2 (Y1 ([])))))))) []
   | some q => k .ret (.d (.ivs r.length (ints r)) :: Y1 (.d (.int .i64 n) :: Y2 (Y1 (.d (.bool false) :: .d (.int .i64 q) :: Y16 (Y4 (Y2 (Y1 ([])))))))) [] := by
 intro j
 induction j with
 | zero =>
  intro i m h0 hi hm
  obtain _ | m := m; omega
  obtain rfl : i = r.length := by omega
  rw [xgt]
  simp only [xi6,Try.f80,SLM,simprocAttr]
  simp -implicitDefEqProofs (maxSteps := 2000000) (disch := first | assumption | exact ⟨by kernel_rfl⟩ | omega | (simp only [GT,LN] <;> omega) | fail) only [↓DN,↓kAsg,↓kRet,UP,simprocAttr,LA,Int.lt_irrefl]
  rfl
 | succ j ih =>
  intro i m h0 hi hm
  obtain _ | m := m; omega
  have hc : i < r.length := by omega
  have hk : i.toNat < r.length := by omega
  have e1 : (i + 1).toNat = i.toNat + 1 := by omega
  have e3 : ((i.toNat : Nat) : Int) = i := by omega
  by_cases h1 : r.getD i.toNat 0 < 0
  ·have hb : badQ n r i.toNat = true := by rw [xuu]; omega
   rw [xam hb]
   rw [xgt]
   simp only [xi6,Try.f80,SLM,simprocAttr]
   simp -implicitDefEqProofs (maxSteps := 2000000) (disch := first | assumption | exact ⟨by kernel_rfl⟩ | omega | (simp only [GT,LN] <;> omega) | fail) only [↓DN,↓kAsg,↓kRet,UP,simprocAttr,LA,x46,x4m,hc,h1,e3]
  ·by_cases h2 : n ≤ r.getD i.toNat 0
   ·have hb : badQ n r i.toNat = true := by rw [xuu]; omega
    rw [xam hb]
    rw [xgt]
    simp only [xi6,Try.f80,SLM,simprocAttr]
    simp -implicitDefEqProofs (maxSteps := 2000000) (disch := first | assumption | exact ⟨by kernel_rfl⟩ | omega | (simp only [GT,LN] <;> omega) | fail) only [↓DN,↓kAsg,↓kRet,UP,simprocAttr,LA,x46,x4m,hc,h1,h2,e3]
   ·have hb : badQ n r i.toNat = false := by rw [xzm]; omega
    rw [xcb hb]
    rw [xgt]
    simp only [xi6,Try.f80,SLM,simprocAttr]
    simp -implicitDefEqProofs (maxSteps := 2000000) (disch := first | assumption | exact ⟨by kernel_rfl⟩ | omega | (simp only [GT,LN] <;> omega) | fail) only [↓DN,↓kAsg,↓kRet,UP,simprocAttr,LA,x46,x4m,hc,h1,h2,↓ih,e1]
theorem x1az {L n : Nat} (hn : 2 ≤ n) (r : List Int) (w q : Int) (hl : r.length ≤ 4294967296) (hL : 2 ^ 60 ≤ L) : x2 env L n 80 [.d (.ivs r.length (ints r)),.d (.int .i64 w),.d (.int .i64 q)] [] = some (.d (.bool (!xij w q r)),[]) := by
 unfold xij
 by_cases h1 : (r.length : Int) = w
 ·have loop_a := fun {R : Type} {n : Nat} (hn : 1 ≤ n) {k : Exit → List A → H → Option R} => xko (R := R) (L := L) (nn := n) hn (n := q) hl (k := k) r.length 0 L (by omega) (by omega) (by omega)
  simp only [Int.toNat_zero] at loop_a
  cases hs : seek (badQ q r) r.length 0 with
  | none =>
   rw [hs] at loop_a
   obtain _ | n := n; omega
   rw [xzn]
   simp only [xwj,Try.f80,SLM,simprocAttr]
   simp -implicitDefEqProofs (maxSteps := 2000000) (disch := first | assumption | exact ⟨by kernel_rfl⟩ | omega | (simp only [GT,LN] <;> omega) | fail) only [↓DN,↓kAsg,↓kRet,UP,simprocAttr,↓xko,LA,h1,↓loop_a,hs]
  | some z =>
   rw [hs] at loop_a
   obtain _ | n := n; omega
   rw [xzn]
   simp only [xwj,Try.f80,SLM,simprocAttr]
   simp -implicitDefEqProofs (maxSteps := 2000000) (disch := first | assumption | exact ⟨by kernel_rfl⟩ | omega | (simp only [GT,LN] <;> omega) | fail) only [↓DN,↓kAsg,↓kRet,UP,simprocAttr,↓xko,LA,h1,↓loop_a,hs]
 ·obtain _ | n := n; omega
  rw [xzn]
  simp only [xwj,Try.f80,SLM,simprocAttr]
  simp -implicitDefEqProofs (maxSteps := 2000000) (disch := first | assumption | exact ⟨by kernel_rfl⟩ | omega | (simp only [GT,LN] <;> omega) | fail) only [↓DN,↓kAsg,↓kRet,UP,simprocAttr,↓xko,LA,h1]
theorem xav {R : Type} {L n : Nat} {hq : H} {k : A → H → Option R} (hn : 2 ≤ n) (r : List Int) (w q : Int) (hl : r.length ≤ 4294967296) (hL : 2 ^ 60 ≤ L) : xe env (x2 env L n) hq 80 [.d (.ivs r.length (ints r)),.d (.int .i64 w),.d (.int .i64 q)] k = k (.d (.bool (!xij w q r))) hq :=
 xr rfl (x1az hn r w q hl hL) rfl (.inl rfl)
theorem xar {R : Type} {L n : Nat} {k : A → Option R} (hn : 2 ≤ n) (r : List Int) (w q : Int) (hl : r.length ≤ 4294967296) (hL : 2 ^ 60 ≤ L) : x14 (x2 env L n) 80 [.d (.ivs r.length (ints r)),.d (.int .i64 w),.d (.int .i64 q)] k = k (.d (.bool (!xij w q r))) :=
 x4l (x1az hn r w q hl hL) rfl
theorem x8h {R : Type} {L n : Nat} {hq : H} {k : A → H → Option R} {id0 g0 o0 len0 : Nat} {w q : Int} : xe env (x2 env L n) hq 80 [.sl id0 g0 o0 len0,.d (.int .i64 w),.d (.int .i64 q)] k = match box (x2m hq [.sl id0 g0 o0 len0,.d (.int .i64 w),.d (.int .i64 q)]) with
  | .mk (some fs) => x14 (x2 env L n) 80 fs fun r => k r hq
  | _ => none := xp xts
theorem x54 {R : Type} {L n : Nat} (hL : 2 ^ 60 ≤ L) (hn : 3 ≤ n) {al : Int} {rs : List (List Int)} {ac : List Bool} (hs : xt rs) {k : Exit → List A → H → Option R} : ∀ (j : Nat) (i : Int) (m : Nat) (h0 : 0 ≤ i) (hi : i + j = rs.length) (hm : j < m),
  xg env (x2 env L n) L 0 [] (Z1 (U4 (Z32 (Z4 (Z2 (Z1 ([]))))))) (x9j 0) (U1 (Z4 (U32 (U4 (U2 (U1 ([]))))))) m (Y1 (.ptr 0 0 0 :: .d (.bool false) :: .d (.int .i64 (rs.length)) :: .d (.int .i64 i) :: Y32 (Y4 (Y2 (Y1 ([])))))) [.box [.d (.int .i64 al),.d (.ivs rs.length (xc rs)),.d (.ivs ac.length (xb ac))]] k
  = match seek (x9s (x8 al).length rs.length rs) j i.toNat with
   | none => k (.exit 0) (Y1 (.ptr 0 0 0 :: .d (.bool false) :: .d (.int .i64 (rs.length)) :: .d (.int .i64 (rs.length)) :: Y32 (Y4 (Y2 (Y1 ([])))))) [.box [.d (.int .i64 al),.d (.ivs rs.length (xc rs)),.d (.ivs ac.length (xb ac))]]
   | some q => k .ret (Y1 (.ptr 0 0 0 :: .d (.bool false) :: .d (.int .i64 (rs.length)) :: .d (.int .i64 q) :: Y32 (Y4 (Y2 (Y1 ([])))))) [.box [.d (.int .i64 al),.d (.ivs rs.length (xc rs)),.d (.ivs ac.length (xb ac))]] := by
 intro j
 have hrl := hs.1
 have hll := x4j al
 induction j with
 | zero =>
  intro i m h0 hi hm
  obtain _ | m := m; omega
  obtain rfl : i = rs.length := by omega
  rw [xbt]
  simp only [xat,Try.f41,SLM,simprocAttr]
  simp -implicitDefEqProofs (maxSteps := 2000000) (disch := first | assumption | exact ⟨by kernel_rfl⟩ | omega | (simp only [GT,LN] <;> omega) | fail) only [↓DN,↓kAsg,↓kRet,UP,simprocAttr,↓x62,↓xn,↓xav,↓xar,↓x8h,LA,Int.lt_irrefl]
  rfl
 | succ j ih =>
  intro i m h0 hi hm
  obtain _ | m := m; omega
  have hc : i < rs.length := by omega
  have hk : i.toNat < rs.length := by omega
  have hrow := xea hs hk
  have e1 : (i + 1).toNat = i.toNat + 1 := by omega
  have e3 : ((i.toNat : Nat) : Int) = i := by omega
  cases hb : x9s (x8 al).length rs.length rs i.toNat with
  | true =>
   rw [xam hb]
   unfold x9s at hb
   rw [xbt]
   simp only [xat,Try.f41,SLM,simprocAttr]
   simp -implicitDefEqProofs (maxSteps := 2000000) (disch := first | assumption | exact ⟨by kernel_rfl⟩ | omega | (simp only [GT,LN] <;> omega) | fail) only [↓DN,↓kAsg,↓kRet,UP,simprocAttr,↓x62,↓xn,↓xav,↓xar,↓x8h,LA,x3l,x3p,hc,hb,e3]
  | false =>
   rw [xcb hb]
   unfold x9s at hb
   rw [xbt]
   simp only [xat,Try.f41,SLM,simprocAttr]
   simp -implicitDefEqProofs (maxSteps := 2000000) (disch := first | assumption | exact ⟨by kernel_rfl⟩ | omega | (simp only [GT,LN] <;> omega) | fail) only [↓DN,↓kAsg,↓kRet,UP,simprocAttr,↓x62,↓xn,↓xav,↓xar,↓x8h,LA,x3l,x3p,hc,hb,↓ih,e1]
theorem xna {L n : Nat} (hn : 4 ≤ n) (al : Int) (rs : List (List Int)) (ac : List Bool) (hs : xt rs) (ha : ac.length ≤ 4294967296) (hL : 2 ^ 60 ≤ L) : x2 env L n 41 [.agg [.d (.int .i64 al),.d (.ivs rs.length (xc rs)),.d (.ivs ac.length (xb ac))]] [] = some (.d (.bool (x8j al rs ac)),[]) := by
 have hrl := hs.1
 have loop_a := fun {R : Type} {n : Nat} (hn : 3 ≤ n) {k : Exit → List A → H → Option R} => x54 (R := R) (L := L) hL hn (al := al) (ac := ac) hs (k := k) rs.length 0 L (by omega) (by omega) (by omega)
 simp only [Int.toNat_zero] at loop_a
 unfold x8j
 cases hq : xb4 al with
 | false =>
  obtain _ | n := n; omega
  rw [x7f]
  simp only [x6g,Try.f41,SLM,simprocAttr]
  simp -implicitDefEqProofs (maxSteps := 2000000) (disch := first | assumption | exact ⟨by kernel_rfl⟩ | omega | (simp only [GT,LN] <;> omega) | fail) only [↓DN,↓kAsg,↓kRet,UP,simprocAttr,↓x62,↓xn,↓xav,↓xar,↓x8h,↓x54,LA,hq,Bool.false_and]
 | true =>
  by_cases h1 : (1 : Int) ≤ rs.length
  ·have n1 : ¬ (rs.length : Int) < 1 := by omega
   by_cases h2 : (rs.length : Int) ≤ 12
   ·have n2 : ¬ (12 : Int) < rs.length := by omega
    by_cases h3 : (ac.length : Int) = rs.length
    ·cases hk : seek (x9s (x8 al).length rs.length rs) rs.length 0 with
     | none =>
      rw [hk] at loop_a
      obtain _ | n := n; omega
      rw [x7f]
      simp only [x6g,Try.f41,SLM,simprocAttr]
      simp -implicitDefEqProofs (maxSteps := 2000000) (disch := first | assumption | exact ⟨by kernel_rfl⟩ | omega | (simp only [GT,LN] <;> omega) | fail) only [↓DN,↓kAsg,↓kRet,UP,simprocAttr,↓x62,↓xn,↓xav,↓xar,↓x8h,↓x54,LA,hq,h1,n1,h2,n2,h3,hk,↓loop_a]
     | some z =>
      rw [hk] at loop_a
      obtain _ | n := n; omega
      rw [x7f]
      simp only [x6g,Try.f41,SLM,simprocAttr]
      simp -implicitDefEqProofs (maxSteps := 2000000) (disch := first | assumption | exact ⟨by kernel_rfl⟩ | omega | (simp only [GT,LN] <;> omega) | fail) only [↓DN,↓kAsg,↓kRet,UP,simprocAttr,↓x62,↓xn,↓xav,↓xar,↓x8h,↓x54,LA,hq,h1,n1,h2,n2,h3,hk,↓loop_a,Bool.and_false]
    ·obtain _ | n := n; omega
     rw [x7f]
     simp only [x6g,Try.f41,SLM,simprocAttr]
     simp -implicitDefEqProofs (maxSteps := 2000000) (disch := first | assumption | exact ⟨by kernel_rfl⟩ | omega | (simp only [GT,LN] <;> omega) | fail) only [↓DN,↓kAsg,↓kRet,UP,simprocAttr,↓x62,↓xn,↓xav,↓xar,↓x8h,↓x54,LA,hq,h1,n1,h2,n2,h3,Bool.false_and,Bool.and_false]
   ·have n2 : (12 : Int) < rs.length := by omega
    obtain _ | n := n; omega
    rw [x7f]
    simp only [x6g,Try.f41,SLM,simprocAttr]
    simp -implicitDefEqProofs (maxSteps := 2000000) (disch := first | assumption | exact ⟨by kernel_rfl⟩ | omega | (simp only [GT,LN] <;> omega) | fail) only [↓DN,↓kAsg,↓kRet,UP,simprocAttr,↓x62,↓xn,↓xav,↓xar,↓x8h,↓x54,LA,hq,h1,n1,h2,n2,Bool.false_and,Bool.and_false]
  ·have n1 : (rs.length : Int) < 1 := by omega
   obtain _ | n := n; omega
   rw [x7f]
   simp only [x6g,Try.f41,SLM,simprocAttr]
   simp -implicitDefEqProofs (maxSteps := 2000000) (disch := first | assumption | exact ⟨by kernel_rfl⟩ | omega | (simp only [GT,LN] <;> omega) | fail) only [↓DN,↓kAsg,↓kRet,UP,simprocAttr,↓x62,↓xn,↓xav,↓xar,↓x8h,↓x54,LA,hq,h1,n1,Bool.false_and,Bool.and_false]
theorem x33 {R : Type} {L n : Nat} {hq : H} {k : A → H → Option R} (hn : 4 ≤ n) (al : Int) (rs : List (List Int)) (ac : List Bool) (hs : xt rs) (ha : ac.length ≤ 4294967296) (hL : 2 ^ 60 ≤ L) : xe env (x2 env L n) hq 41 [.agg [.d (.int .i64 al),.d (.ivs rs.length (xc rs)),.d (.ivs ac.length (xb ac))]] k = k (.d (.bool (x8j al rs ac))) hq :=
 xr rfl (xna hn al rs ac hs ha hL) rfl (.inl rfl)
theorem x32 {R : Type} {L n : Nat} {k : A → Option R} (hn : 4 ≤ n) (al : Int) (rs : List (List Int)) (ac : List Bool) (hs : xt rs) (ha : ac.length ≤ 4294967296) (hL : 2 ^ 60 ≤ L) : x14 (x2 env L n) 41 [.agg [.d (.int .i64 al),.d (.ivs rs.length (xc rs)),.d (.ivs ac.length (xb ac))]] k = k (.d (.bool (x8j al rs ac))) :=
 x4l (xna hn al rs ac hs ha hL) rfl
theorem x2n {R : Type} {L n : Nat} {hq : H} {k : A → H → Option R} {id0 g0 o0 len0 : Nat} {al : Int} {ac : List Bool} : xe env (x2 env L n) hq 41 [.agg [.d (.int .i64 al),.sl id0 g0 o0 len0,.d (.ivs ac.length (xb ac))]] k = match box (x2m hq [.agg [.d (.int .i64 al),.sl id0 g0 o0 len0,.d (.ivs ac.length (xb ac))]]) with
  | .mk (some fs) => x14 (x2 env L n) 41 fs fun r => k r hq
  | _ => none := xp x7w
theorem x2p {R : Type} {L n : Nat} {hq : H} {k : A → H → Option R} {id1 g1 o1 len1 : Nat} {al : Int} {rs : List (List Int)} : xe env (x2 env L n) hq 41 [.agg [.d (.int .i64 al),.d (.ivs rs.length (xc rs)),.sl id1 g1 o1 len1]] k = match box (x2m hq [.agg [.d (.int .i64 al),.d (.ivs rs.length (xc rs)),.sl id1 g1 o1 len1]]) with
  | .mk (some fs) => x14 (x2 env L n) 41 fs fun r => k r hq
  | _ => none := xp x7w
theorem x2o {R : Type} {L n : Nat} {hq : H} {k : A → H → Option R} {id1 g1 o1 len1 : Nat} {id0 g0 o0 len0 : Nat} {al : Int} : xe env (x2 env L n) hq 41 [.agg [.d (.int .i64 al),.sl id0 g0 o0 len0,.sl id1 g1 o1 len1]] k = match box (x2m hq [.agg [.d (.int .i64 al),.sl id0 g0 o0 len0,.sl id1 g1 o1 len1]]) with
  | .mk (some fs) => x14 (x2 env L n) 41 fs fun r => k r hq
  | _ => none := xp x7w
theorem x2l {R : Type} {L n : Nat} (hL : 2 ^ 60 ≤ L) (hn : 3 ≤ n) {al q w : Int} {rs : List (List Int)} {ac : List Bool} (hs : xt rs) {r : List Int} (hr : r.length ≤ 4294967296) {k : Exit → List A → H → Option R} : ∀ (j : Nat) (i : Int) (m : Nat) (h0 : 0 ≤ i) (hi : i + j = r.length) (hm : j < m),
  xg env (x2 env L n) L 0 [] (Z1 (U2 (U1 (Z32 (Z2 (U2 (U1 (Z4 (Z2 (Z1 (U2 (U1 (Z8 (Z4 (Z2 ([])))))))))))))))) (x41 1) (U1 (Z2 (Z1 (U32 (U2 (Z2 (Z1 (U4 (U2 (U1 (Z2 (Z1 (U8 (U4 (U2 ([])))))))))))))))) m (Y1 (.ptr 0 0 0 :: .d (.bool false) :: .d (.int .i64 w) :: Y32 (Y2 (.d (.ivs rs.length (xc rs)) :: .d (.int .i64 (rs.length)) :: .d (.int .i64 q) :: Y4 (Y2 (Y1 (.d (.ivs r.length (ints r)) :: .d (.int .i64 (r.length)) :: .d (.int .i64 i) :: Y8 (Y4 (Y2 ([])))))))))) [.box [.d (.int .i64 al),.d (.ivs rs.length (xc rs)),.d (.ivs ac.length (xb ac))]] k
  = match seek (badQ rs.length r) j i.toNat with
   | none => k (.exit 2) (Y1 (.ptr 0 0 0 :: .d (.bool false) :: .d (.int .i64 w) :: Y32 (Y2 (.d (.ivs rs.length (xc rs)) :: .d (.int .i64 (rs.length)) :: .d (.int .i64 q) :: Y4 (Y2 (Y1 (.d (.ivs r.length (ints r)) :: .d (.int .i64 (r.length)) :: .d (.int .i64 (r.length)) :: Y8 (Y4 (Y2 ([])))))))))) [.box [.d (.int .i64 al),.d (.ivs rs.length (xc rs)),.d (.ivs ac.length (xb ac))]]
   | some z => k .ret (Y1 (.ptr 0 0 0 :: .d (.bool false) :: .d (.int .i64 w) :: Y32 (Y2 (.d (.ivs rs.length (xc rs)) :: .d (.int .i64 (rs.length)) :: .d (.int .i64 q) :: Y4 (Y2 (Y1 (.d (.ivs r.length (ints r)) :: .d (.int .i64 (r.length)) :: .d (.int .i64 z) :: Y8 (Y4 (Y2 ([])))))))))) [.box [.d (.int .i64 al),.d (.ivs rs.length (xc rs)),.d (.ivs ac.length (xb ac))]] := by
 intro j
 have hrl := hs.1
 induction j with
 | zero =>
  intro i m h0 hi hm
  obtain _ | m := m; omega
  obtain rfl : i = r.length := by omega
  rw [x99]
  simp only [x8e,Try.f15,SLM,simprocAttr]
  simp -implicitDefEqProofs (maxSteps := 2000000) (disch := first | assumption | exact ⟨by kernel_rfl⟩ | omega | (simp only [GT,LN] <;> omega) | fail) only [↓DN,↓kAsg,↓kRet,UP,simprocAttr,↓x1k,↓x1m,LA,Int.lt_irrefl]
  rfl
 | succ j ih =>
  intro i m h0 hi hm
  obtain _ | m := m; omega
  have hc : i < r.length := by omega
  have hk : i.toNat < r.length := by omega
  have e1 : (i + 1).toNat = i.toNat + 1 := by omega
  have e3 : ((i.toNat : Nat) : Int) = i := by omega
  by_cases h1 : r.getD i.toNat 0 < 0
  ·have hb : badQ rs.length r i.toNat = true := by rw [xuu]; omega
   rw [xam hb]
   rw [x99]
   simp only [x8e,Try.f15,SLM,simprocAttr]
   simp -implicitDefEqProofs (maxSteps := 2000000) (disch := first | assumption | exact ⟨by kernel_rfl⟩ | omega | (simp only [GT,LN] <;> omega) | fail) only [↓DN,↓kAsg,↓kRet,UP,simprocAttr,↓x1k,↓x1m,LA,x46,x4m,hc,h1,e3]
  ·by_cases h2 : (rs.length : Int) ≤ r.getD i.toNat 0
   ·have hb : badQ rs.length r i.toNat = true := by rw [xuu]; omega
    rw [xam hb]
    rw [x99]
    simp only [x8e,Try.f15,SLM,simprocAttr]
    simp -implicitDefEqProofs (maxSteps := 2000000) (disch := first | assumption | exact ⟨by kernel_rfl⟩ | omega | (simp only [GT,LN] <;> omega) | fail) only [↓DN,↓kAsg,↓kRet,UP,simprocAttr,↓x1k,↓x1m,LA,x46,x4m,hc,h1,h2,e3]
   ·have hb : badQ rs.length r i.toNat = false := by rw [xzm]; omega
    rw [xcb hb]
    rw [x99]
    simp only [x8e,Try.f15,SLM,simprocAttr]
    simp -implicitDefEqProofs (maxSteps := 2000000) (disch := first | assumption | exact ⟨by kernel_rfl⟩ | omega | (simp only [GT,LN] <;> omega) | fail) only [↓DN,↓kAsg,↓kRet,UP,simprocAttr,↓x1k,↓x1m,LA,x46,x4m,hc,h1,h2,↓ih,e1]
theorem x4a {R : Type} {L n : Nat} (hL : 2 ^ 60 ≤ L) (hn : 3 ≤ n) {al : Int} {rs : List (List Int)} {ac : List Bool} (hs : xt rs) {k : Exit → List A → H → Option R} : ∀ (j : Nat) (i : Int) (m : Nat) (h0 : 0 ≤ i) (hi : i + j = rs.length) (hm : j < m),
  xg env (x2 env L n) L 0 [] (Z1 (U2 (U1 (Z32 (Z2 (U2 (U1 (Z4 (Z2 (Z1 (U2 (U1 (Z8 (Z4 (Z2 ([])))))))))))))))) (x41 0) (U1 (Z2 (Z1 (U32 (U2 (Z2 (Z1 (U16 (U8 ([])))))))))) m (Y1 (.ptr 0 0 0 :: .d (.bool false) :: .d (.int .i64 ((x8 al).length)) :: Y32 (Y2 (.d (.ivs rs.length (xc rs)) :: .d (.int .i64 (rs.length)) :: .d (.int .i64 i) :: Y16 (Y8 ([])))))) [.box [.d (.int .i64 al),.d (.ivs rs.length (xc rs)),.d (.ivs ac.length (xb ac))]] k
  = match seek (x9s (x8 al).length rs.length rs) j i.toNat with
   | none => k (.exit 0) (Y1 (.ptr 0 0 0 :: .d (.bool false) :: .d (.int .i64 ((x8 al).length)) :: Y32 (Y2 (.d (.ivs rs.length (xc rs)) :: .d (.int .i64 (rs.length)) :: .d (.int .i64 (rs.length)) :: Y16 (Y8 ([])))))) [.box [.d (.int .i64 al),.d (.ivs rs.length (xc rs)),.d (.ivs ac.length (xb ac))]]
   | some q => k .ret (Y1 (.ptr 0 0 0 :: .d (.bool false) :: .d (.int .i64 ((x8 al).length)) :: Y32 (Y2 (.d (.ivs rs.length (xc rs)) :: .d (.int .i64 (rs.length)) :: .d (.int .i64 q) :: Y16 (Y8 ([])))))) [.box [.d (.int .i64 al),.d (.ivs rs.length (xc rs)),.d (.ivs ac.length (xb ac))]] := by
 intro j
 have hrl := hs.1
 have hll := x4j al
 induction j with
 | zero =>
  intro i m h0 hi hm
  obtain _ | m := m; omega
  obtain rfl : i = rs.length := by omega
  rw [x98]
  simp only [x8o,Try.f15,SLM,simprocAttr]
  simp -implicitDefEqProofs (maxSteps := 2000000) (disch := first | assumption | exact ⟨by kernel_rfl⟩ | omega | (simp only [GT,LN] <;> omega) | fail) only [↓DN,↓kAsg,↓kRet,UP,simprocAttr,↓x1k,↓x1m,↓x2l,LA,Int.lt_irrefl]
  rfl
 | succ j ih =>
  intro i m h0 hi hm
  obtain _ | m := m; omega
  have hc : i < rs.length := by omega
  have hk : i.toNat < rs.length := by omega
  have hrow := xea hs hk
  have e1 : (i + 1).toNat = i.toNat + 1 := by omega
  have e3 : ((i.toNat : Nat) : Int) = i := by omega
  have loop_a := fun {R : Type} {k : Exit → List A → H → Option R} => x2l (R := R) (n := n) (L := L) hL hn (al := al) (q := i) (w := (x8 al).length) (ac := ac) hs hrow (k := k) (rs.getD i.toNat []).length 0 L (by omega) (by omega) (by omega)
  simp only [Int.toNat_zero] at loop_a
  cases hb : x9s (x8 al).length rs.length rs i.toNat with
  | true =>
   rw [xam hb]
   unfold x9s at hb
   by_cases hw : ((rs.getD i.toNat []).length : Int) = (x8 al).length
   ·have hwd : decide (((rs.getD i.toNat []).length : Int) = (x8 al).length) = true := decide_eq_true hw
    cases hz : seek (badQ rs.length (rs.getD i.toNat [])) (rs.getD i.toNat []).length 0 with
    | none => rw [x1jc hw,hz] at hb; cases hb
    | some z =>
     rw [hz] at loop_a
     clear ih hb
     rw [x98]
     simp only [x8o,Try.f15,SLM,simprocAttr]
     simp -implicitDefEqProofs (maxSteps := 2000000) (disch := first | assumption | exact ⟨by kernel_rfl⟩ | omega | (simp only [GT,LN] <;> omega) | fail) only [↓DN,↓kAsg,↓kRet,UP,simprocAttr,↓x1k,↓x1m,↓x2l,LA,x3l,x3p,hc,hwd,↓loop_a,e3]
   ·clear ih hb loop_a
    rw [x98]
    simp only [x8o,Try.f15,SLM,simprocAttr]
    simp -implicitDefEqProofs (maxSteps := 2000000) (disch := first | assumption | exact ⟨by kernel_rfl⟩ | omega | (simp only [GT,LN] <;> omega) | fail) only [↓DN,↓kAsg,↓kRet,UP,simprocAttr,↓x1k,↓x1m,↓x2l,LA,x3l,x3p,hc,hw,e3]
  | false =>
   rw [xcb hb]
   unfold x9s at hb
   by_cases hw : ((rs.getD i.toNat []).length : Int) = (x8 al).length
   ·have hwd : decide (((rs.getD i.toNat []).length : Int) = (x8 al).length) = true := decide_eq_true hw
    cases hz : seek (badQ rs.length (rs.getD i.toNat [])) (rs.getD i.toNat []).length 0 with
    | none =>
     rw [hz] at loop_a
     clear hb
     rw [x98]
     simp only [x8o,Try.f15,SLM,simprocAttr]
     simp -implicitDefEqProofs (maxSteps := 2000000) (disch := first | assumption | exact ⟨by kernel_rfl⟩ | omega | (simp only [GT,LN] <;> omega) | fail) only [↓DN,↓kAsg,↓kRet,UP,simprocAttr,↓x1k,↓x1m,↓x2l,LA,x3l,x3p,hc,hwd,↓loop_a,↓ih,e1]
    | some z => rw [x1jc hw,hz] at hb; cases hb
   ·rw [x1jy hw] at hb; cases hb
theorem xn2 {L n : Nat} (hn : 4 ≤ n) (al : Int) (rs : List (List Int)) (ac : List Bool) (hs : xt rs) (ha : ac.length ≤ 4294967296) (hL : 2 ^ 60 ≤ L) : x2 env L n 15 [.agg [.d (.int .i64 al),.d (.ivs rs.length (xc rs)),.d (.ivs ac.length (xb ac))]] [] = some (.d (.bool (x8j al rs ac)),[]) := by
 have hrl := hs.1
 have hll := x4j al
 have loop_a := fun {R : Type} {n : Nat} (hn : 3 ≤ n) {k : Exit → List A → H → Option R} => x4a (R := R) (L := L) hL hn (al := al) (ac := ac) hs (k := k) rs.length 0 L (by omega) (by omega) (by omega)
 simp only [Int.toNat_zero] at loop_a
 unfold x8j
 cases hq : xb4 al with
 | false =>
  obtain _ | n := n; omega
  rw [x7e]
  simp only [x6j,Try.f15,SLM,simprocAttr]
  simp -implicitDefEqProofs (maxSteps := 2000000) (disch := first | assumption | exact ⟨by kernel_rfl⟩ | omega | (simp only [GT,LN] <;> omega) | fail) only [↓DN,↓kAsg,↓kRet,UP,simprocAttr,↓x1k,↓x1m,↓x4a,↓x2l,LA,hq,Bool.false_and]
 | true =>
  by_cases h1 : (1 : Int) ≤ rs.length
  ·have n1 : ¬ (rs.length : Int) < 1 := by omega
   by_cases h2 : (rs.length : Int) ≤ 12
   ·have n2 : ¬ (12 : Int) < rs.length := by omega
    by_cases h3 : (ac.length : Int) = rs.length
    ·cases hk : seek (x9s (x8 al).length rs.length rs) rs.length 0 with
     | none =>
      rw [hk] at loop_a
      obtain _ | n := n; omega
      rw [x7e]
      simp only [x6j,Try.f15,SLM,simprocAttr]
      simp -implicitDefEqProofs (maxSteps := 2000000) (disch := first | assumption | exact ⟨by kernel_rfl⟩ | omega | (simp only [GT,LN] <;> omega) | fail) only [↓DN,↓kAsg,↓kRet,UP,simprocAttr,↓x1k,↓x1m,↓x4a,↓x2l,LA,hq,h1,n1,h2,n2,h3,hk,↓loop_a]
     | some z =>
      rw [hk] at loop_a
      obtain _ | n := n; omega
      rw [x7e]
      simp only [x6j,Try.f15,SLM,simprocAttr]
      simp -implicitDefEqProofs (maxSteps := 2000000) (disch := first | assumption | exact ⟨by kernel_rfl⟩ | omega | (simp only [GT,LN] <;> omega) | fail) only [↓DN,↓kAsg,↓kRet,UP,simprocAttr,↓x1k,↓x1m,↓x4a,↓x2l,LA,hq,h1,n1,h2,n2,h3,hk,↓loop_a,Bool.and_false]
    ·obtain _ | n := n; omega
     rw [x7e]
     simp only [x6j,Try.f15,SLM,simprocAttr]
     simp -implicitDefEqProofs (maxSteps := 2000000) (disch := first | assumption | exact ⟨by kernel_rfl⟩ | omega | (simp only [GT,LN] <;> omega) | fail) only [↓DN,↓kAsg,↓kRet,UP,simprocAttr,↓x1k,↓x1m,↓x4a,↓x2l,LA,hq,h1,n1,h2,n2,h3,Bool.false_and,Bool.and_false]
   ·have n2 : (12 : Int) < rs.length := by omega
    obtain _ | n := n; omega
    rw [x7e]
    simp only [x6j,Try.f15,SLM,simprocAttr]
    simp -implicitDefEqProofs (maxSteps := 2000000) (disch := first | assumption | exact ⟨by kernel_rfl⟩ | omega | (simp only [GT,LN] <;> omega) | fail) only [↓DN,↓kAsg,↓kRet,UP,simprocAttr,↓x1k,↓x1m,↓x4a,↓x2l,LA,hq,h1,n1,h2,n2,Bool.false_and,Bool.and_false]
  ·have n1 : (rs.length : Int) < 1 := by omega
   obtain _ | n := n; omega
   rw [x7e]
   simp only [x6j,Try.f15,SLM,simprocAttr]
   simp -implicitDefEqProofs (maxSteps := 2000000) (disch := first | assumption | exact ⟨by kernel_rfl⟩ | omega | (simp only [GT,LN] <;> omega) | fail) only [↓DN,↓kAsg,↓kRet,UP,simprocAttr,↓x1k,↓x1m,↓x4a,↓x2l,LA,hq,h1,n1,Bool.false_and,Bool.and_false]
theorem x2j {R : Type} {L n : Nat} {hq : H} {k : A → H → Option R} (hn : 4 ≤ n) (al : Int) (rs : List (List Int)) (ac : List Bool) (hs : xt rs) (ha : ac.length ≤ 4294967296) (hL : 2 ^ 60 ≤ L) : xe env (x2 env L n) hq 15 [.agg [.d (.int .i64 al),.d (.ivs rs.length (xc rs)),.d (.ivs ac.length (xb ac))]] k = k (.d (.bool (x8j al rs ac))) hq :=
 xr rfl (xn2 hn al rs ac hs ha hL) rfl (.inl rfl)
theorem x2i {R : Type} {L n : Nat} {k : A → Option R} (hn : 4 ≤ n) (al : Int) (rs : List (List Int)) (ac : List Bool) (hs : xt rs) (ha : ac.length ≤ 4294967296) (hL : 2 ^ 60 ≤ L) : x14 (x2 env L n) 15 [.agg [.d (.int .i64 al),.d (.ivs rs.length (xc rs)),.d (.ivs ac.length (xb ac))]] k = k (.d (.bool (x8j al rs ac))) :=
 x4l (xn2 hn al rs ac hs ha hL) rfl
theorem x1q {R : Type} {L n : Nat} {hq : H} {k : A → H → Option R} {id0 g0 o0 len0 : Nat} {al : Int} {ac : List Bool} : xe env (x2 env L n) hq 15 [.agg [.d (.int .i64 al),.sl id0 g0 o0 len0,.d (.ivs ac.length (xb ac))]] k = match box (x2m hq [.agg [.d (.int .i64 al),.sl id0 g0 o0 len0,.d (.ivs ac.length (xb ac))]]) with
  | .mk (some fs) => x14 (x2 env L n) 15 fs fun r => k r hq
  | _ => none := xp x7y
theorem x1p {R : Type} {L n : Nat} {hq : H} {k : A → H → Option R} {id1 g1 o1 len1 : Nat} {al : Int} {rs : List (List Int)} : xe env (x2 env L n) hq 15 [.agg [.d (.int .i64 al),.d (.ivs rs.length (xc rs)),.sl id1 g1 o1 len1]] k = match box (x2m hq [.agg [.d (.int .i64 al),.d (.ivs rs.length (xc rs)),.sl id1 g1 o1 len1]]) with
  | .mk (some fs) => x14 (x2 env L n) 15 fs fun r => k r hq
  | _ => none := xp x7y
theorem x1o {R : Type} {L n : Nat} {hq : H} {k : A → H → Option R} {id1 g1 o1 len1 : Nat} {id0 g0 o0 len0 : Nat} {al : Int} : xe env (x2 env L n) hq 15 [.agg [.d (.int .i64 al),.sl id0 g0 o0 len0,.sl id1 g1 o1 len1]] k = match box (x2m hq [.agg [.d (.int .i64 al),.sl id0 g0 o0 len0,.sl id1 g1 o1 len1]]) with
  | .mk (some fs) => x14 (x2 env L n) 15 fs fun r => k r hq
  | _ => none := xp x7y
end Ev
end Go.Proofs.Ytppdfjdfjfoddaa
