/-
  The exact laws' own functions, at automata: sizes, marks, what is held, copies.
-/
import Derived.Test.YtppdfjdfjfoddaaBlock
set_option linter.unusedSimpArgs false
set_option linter.unusedVariables false
set_option maxRecDepth 8000
set_option maxHeartbeats 4000000
namespace Go.Proofs.Ytppdfjdfjfoddaa
namespace Ev
def rowsLen (rs : List (List Int)) : Prop := rs.length ≤ 9223372036854775807 ∧ ∀ r ∈ rs,r.length ≤ 9223372036854775807
theorem x1qm {rs : List (List Int)} (h : rowsLen rs) {k : Nat} (hk : k < rs.length) : (rs.getD k []).length ≤ 9223372036854775807 := by
 rw [List.getD_eq_getElem?_getD,List.getElem?_eq_getElem hk]
 exact h.2 _ (List.getElem_mem hk)
def szN (left : Int) (n : Nat) : Int := if left < n then -1 else left - n
def x73 : List (List Int) → Int → Int
 | [],l => l
 | r :: rs,l => if l < r.length then -1 else x73 rs (l - r.length)
def szAt : List (List Int) → Int → Nat
 | [],_ => 0
 | r :: rs,l => if l < r.length then 0 else szAt rs (l - r.length) + 1
def szSS (rs : List (List Int)) (left : Int) : Int := if left < rs.length then -1 else x73 rs (left - rs.length)
def szA (rs : List (List Int)) (ac : List Bool) (left : Int) : Int := if szSS rs left < 0 then -1 else szN (szSS rs left) ac.length
theorem x1dt : ∀ (rs : List (List Int)) (l : Int),x73 rs l < 0 → 0 ≤ l → x73 rs l = -1
 | [],l,h,h0 => by simp only [x73] at h; omega
 | r :: rs,l,h,h0 => by
  simp only [x73] at h ⊢
  split
  ·rfl
  ·rename_i hc
   rw [if_neg hc] at h
   exact x1dt rs _ h (by omega)
theorem x14f : ∀ (rs : List (List Int)) (l : Int),0 ≤ l → x73 rs l ≤ l
 | [],l,h => by simp [x73]
 | r :: rs,l,h => by
  simp only [x73]
  split
  ·omega
  ·have := x14f rs (l - r.length) (by omega); omega
theorem x1dr : ∀ (rs : List (List Int)) (l : Int),0 ≤ x73 rs l → ∀ r ∈ rs,(r.length : Int) ≤ l
 | [],l,h,r,hr => by cases hr
 | q :: rs,l,h,r,hr => by
  simp only [x73] at h
  split at h
  ·omega
  ·rename_i hc
   rcases List.mem_cons.1 hr with h1 | h1
   ·subst h1; omega
   ·have := x1dr rs _ h r h1; omega
theorem x1gt {L n : Nat} (hn : 1 ≤ n) (l : List Int) (left : Int) (hl : l.length ≤ 9223372036854775807) (h0 : 0 ≤ left) (h1 : left ≤ 4294967296) : x2 env L n 84 [.d (.ivs l.length (ints l)),.d (.int .i64 left)] [] = some (.d (.int .i64 (szN left l.length)),[]) := by
 unfold szN
 by_cases h : left < l.length
 ·have h2 : left - (l.length : Int) < 0 := by omega
  obtain _ | n := n; omega
  rw [x1h0]
  simp only [x19q,Try.f84,SLM,simprocAttr]
  simp -implicitDefEqProofs (maxSteps := 2000000) (disch := first | assumption | exact ⟨by kernel_rfl⟩ | omega | (simp only [GT,LN] <;> omega) | fail) only [↓DN,↓kAsg,↓kRet,UP,simprocAttr,LA,h,h2]
 ·have h2 : ¬ left - (l.length : Int) < 0 := by omega
  obtain _ | n := n; omega
  rw [x1h0]
  simp only [x19q,Try.f84,SLM,simprocAttr]
  simp -implicitDefEqProofs (maxSteps := 2000000) (disch := first | assumption | exact ⟨by kernel_rfl⟩ | omega | (simp only [GT,LN] <;> omega) | fail) only [↓DN,↓kAsg,↓kRet,UP,simprocAttr,LA,h,h2]
theorem xip {R : Type} {L n : Nat} {hq : H} {k : A → H → Option R} (hn : 1 ≤ n) (l : List Int) (left : Int) (hl : l.length ≤ 9223372036854775807) (h0 : 0 ≤ left) (h1 : left ≤ 4294967296) : x4 env (x2 env L n) hq 84 [.d (.ivs l.length (ints l)),.d (.int .i64 left)] k = k (.d (.int .i64 (szN left l.length))) hq :=
 xh rfl (x1gt hn l left hl h0 h1) rfl (.inl rfl)
theorem xj7 {R : Type} {L n : Nat} {k : A → Option R} (hn : 1 ≤ n) (l : List Int) (left : Int) (hl : l.length ≤ 9223372036854775807) (h0 : 0 ≤ left) (h1 : left ≤ 4294967296) : xk (x2 env L n) 84 [.d (.ivs l.length (ints l)),.d (.int .i64 left)] k = k (.d (.int .i64 (szN left l.length))) :=
 x2c (x1gt hn l left hl h0 h1) rfl
theorem xdf {R : Type} {L n : Nat} {hq : H} {k : A → H → Option R} {id0 g0 o0 len0 : Nat} {left : Int} : x4 env (x2 env L n) hq 84 [.sl id0 g0 o0 len0,.d (.int .i64 left)] k = match box (xw hq [.sl id0 g0 o0 len0,.d (.int .i64 left)]) with
  | .mk (some fs) => xk (x2 env L n) 84 fs fun r => k r hq
  | _ => none := x9 xwf
theorem x1dz {L n : Nat} (hn : 1 ≤ n) (l : List Bool) (left : Int) (hl : l.length ≤ 9223372036854775807) (h0 : 0 ≤ left) (h1 : left ≤ 4294967296) : x2 env L n 55 [.d (.ivs l.length (bools l)),.d (.int .i64 left)] [] = some (.d (.int .i64 (szN left l.length)),[]) := by
 unfold szN
 by_cases h : left < l.length
 ·have h2 : left - (l.length : Int) < 0 := by omega
  obtain _ | n := n; omega
  rw [x1cn]
  simp only [x12e,Try.f55,SLM,simprocAttr]
  simp -implicitDefEqProofs (maxSteps := 2000000) (disch := first | assumption | exact ⟨by kernel_rfl⟩ | omega | (simp only [GT,LN] <;> omega) | fail) only [↓DN,↓kAsg,↓kRet,UP,simprocAttr,LA,h,h2]
 ·have h2 : ¬ left - (l.length : Int) < 0 := by omega
  obtain _ | n := n; omega
  rw [x1cn]
  simp only [x12e,Try.f55,SLM,simprocAttr]
  simp -implicitDefEqProofs (maxSteps := 2000000) (disch := first | assumption | exact ⟨by kernel_rfl⟩ | omega | (simp only [GT,LN] <;> omega) | fail) only [↓DN,↓kAsg,↓kRet,UP,simprocAttr,LA,h,h2]
theorem x106 {R : Type} {L n : Nat} {hq : H} {k : A → H → Option R} (hn : 1 ≤ n) (l : List Bool) (left : Int) (hl : l.length ≤ 9223372036854775807) (h0 : 0 ≤ left) (h1 : left ≤ 4294967296) : x4 env (x2 env L n) hq 55 [.d (.ivs l.length (bools l)),.d (.int .i64 left)] k = k (.d (.int .i64 (szN left l.length))) hq :=
 xh rfl (x1dz hn l left hl h0 h1) rfl (.inl rfl)
theorem xz7 {R : Type} {L n : Nat} {k : A → Option R} (hn : 1 ≤ n) (l : List Bool) (left : Int) (hl : l.length ≤ 9223372036854775807) (h0 : 0 ≤ left) (h1 : left ≤ 4294967296) : xk (x2 env L n) 55 [.d (.ivs l.length (bools l)),.d (.int .i64 left)] k = k (.d (.int .i64 (szN left l.length))) :=
 x2c (x1dz hn l left hl h0 h1) rfl
theorem xsh {R : Type} {L n : Nat} {hq : H} {k : A → H → Option R} {id0 g0 o0 len0 : Nat} {left : Int} : x4 env (x2 env L n) hq 55 [.sl id0 g0 o0 len0,.d (.int .i64 left)] k = match box (xw hq [.sl id0 g0 o0 len0,.d (.int .i64 left)]) with
  | .mk (some fs) => xk (x2 env L n) 55 fs fun r => k r hq
  | _ => none := x9 xrg
theorem xst {R : Type} {L n : Nat} (hn : 2 ≤ n) {rs : List (List Int)} (hs : rowsLen rs) {k : Exit → List A → H → Option R} : ∀ (i left : Int) (m : Nat) (h0 : 0 ≤ i) (hi : i ≤ rs.length) (hm : (rs.length : Int) - i < m) (hl0 : 0 ≤ left) (hl1 : left ≤ 4294967296),
  xc env (x2 env L n) L 0 [] (U2 (Z2 (U2 (Z16 (Z4 (Z1 ([]))))))) (xl6 0) (Z2 (U2 (Z2 (U16 (U4 (U1 ([]))))))) m (.d (.ivs rs.length (rowsD rs)) :: .d (.int .i64 left) :: Y2 (.d (.int .i64 0) :: .d (.int .i64 i) :: Y16 (Y4 (Y1 ([]))))) [] k
  = if x73 (rs.drop i.toNat) left < 0 then k .ret (.d (.ivs rs.length (rowsD rs)) :: .d (.int .i64 ((-1))) :: Y2 (.d (.int .i64 ((-1))) :: .d (.int .i64 ((i + szAt (rs.drop i.toNat) left))) :: Y16 (Y4 (Y1 ([]))))) [] else k (.exit 0) (.d (.ivs rs.length (rowsD rs)) :: .d (.int .i64 (x73 (rs.drop i.toNat) left)) :: Y2 (.d (.int .i64 0) :: .d (.int .i64 (rs.length)) :: Y16 (Y4 (Y1 ([]))))) [] := by
 intro i left m h0 hi hm hl0 hl1
 have hrl := hs.1
 obtain ⟨j,hj⟩ : ∃ j : Nat,(j : Int) = (rs.length : Int) - i := ⟨((rs.length : Int) - i).toNat,by omega⟩
 induction j generalizing i left m with
 | zero =>
  obtain _ | m := m; omega
  obtain rfl : i = rs.length := by omega
  have e0 : ¬ left < 0 := by omega
  rw [xmb]
  simp only [xnj,Try.f54,SLM,simprocAttr]
  simp -implicitDefEqProofs (maxSteps := 2000000) (disch := first | assumption | exact ⟨by kernel_rfl⟩ | omega | (simp only [GT,LN] <;> omega) | fail) only [↓DN,↓kAsg,↓kRet,UP,simprocAttr,↓xip,↓xj7,↓xdf,LA,Int.lt_irrefl]
  simp only [Int.toNat_natCast,List.drop_length,x73,e0,if_false]
 | succ j ih =>
  obtain _ | m := m; omega
  have hc : i < rs.length := by omega
  have hk : i.toNat < rs.length := by omega
  have hrow := x1qm hs hk
  have e1 : (i + 1).toNat = i.toNat + 1 := by omega
  rw [x2k hk (d := [])]
  by_cases hz : left < (rs.getD i.toNat []).length
  ·have hz1 : szN left (rs.getD i.toNat []).length = -1 := by unfold szN; rw [if_pos hz]
   rw [xmb]
   simp only [xnj,Try.f54,SLM,simprocAttr]
   simp -implicitDefEqProofs (maxSteps := 2000000) (disch := first | assumption | exact ⟨by kernel_rfl⟩ | omega | (simp only [GT,LN] <;> omega) | fail) only [↓DN,↓kAsg,↓kRet,UP,simprocAttr,↓xip,↓xj7,↓xdf,LA,x60,x6l,hc,hz1]
   simp only [x73,szAt,hz,if_true,Int.natCast_zero,Int.add_zero]
   rfl
  ·have hz1 : szN left (rs.getD i.toNat []).length = left - (rs.getD i.toNat []).length := by unfold szN; rw [if_neg hz]
   have hz2 : ¬ left - ((rs.getD i.toNat []).length : Int) < 0 := by omega
   rw [xmb]
   simp only [xnj,Try.f54,SLM,simprocAttr]
   simp -implicitDefEqProofs (maxSteps := 2000000) (disch := first | assumption | exact ⟨by kernel_rfl⟩ | omega | (simp only [GT,LN] <;> omega) | fail) only [↓DN,↓kAsg,↓kRet,UP,simprocAttr,↓xip,↓xj7,↓xdf,LA,x60,x6l,hc,hz1,hz2,↓ih]
   simp only [x73,szAt,hz,if_false,e1,Int.natCast_add,Int.add_assoc,Int.add_comm 1]
   rfl
theorem x1be {L n : Nat} (hn : 3 ≤ n) (rs : List (List Int)) (left : Int) (hs : rowsLen rs) (h0 : 0 ≤ left) (h1 : left ≤ 4294967296) (hL : 2 ^ 60 ≤ L) : x2 env L n 54 [.d (.ivs rs.length (rowsD rs)),.d (.int .i64 left)] [] = some (.d (.int .i64 (szSS rs left)),[]) := by
 have hrl := hs.1
 unfold szSS
 by_cases h : left < rs.length
 ·have h2 : left - (rs.length : Int) < 0 := by omega
  obtain _ | n := n; omega
  rw [x10d]
  simp only [xup,Try.f54,SLM,simprocAttr]
  simp -implicitDefEqProofs (maxSteps := 2000000) (disch := first | assumption | exact ⟨by kernel_rfl⟩ | omega | (simp only [GT,LN] <;> omega) | fail) only [↓DN,↓kAsg,↓kRet,UP,simprocAttr,↓xip,↓xj7,↓xdf,↓xst,LA,h,h2]
 ·have h2 : ¬ left - (rs.length : Int) < 0 := by omega
  by_cases h3 : x73 rs (left - rs.length) < 0
  ·have h4 := x1dt _ _ h3 (by omega)
   obtain _ | n := n; omega
   rw [x10d]
   simp only [xup,Try.f54,SLM,simprocAttr]
   simp -implicitDefEqProofs (maxSteps := 2000000) (disch := first | assumption | exact ⟨by kernel_rfl⟩ | omega | (simp only [GT,LN] <;> omega) | fail) only [↓DN,↓kAsg,↓kRet,UP,simprocAttr,↓xip,↓xj7,↓xdf,↓xst,LA,h,h2,h3,h4,Int.toNat_zero,List.drop_zero]
  ·obtain _ | n := n; omega
   rw [x10d]
   simp only [xup,Try.f54,SLM,simprocAttr]
   simp -implicitDefEqProofs (maxSteps := 2000000) (disch := first | assumption | exact ⟨by kernel_rfl⟩ | omega | (simp only [GT,LN] <;> omega) | fail) only [↓DN,↓kAsg,↓kRet,UP,simprocAttr,↓xip,↓xj7,↓xdf,↓xst,LA,h,h2,h3,Int.toNat_zero,List.drop_zero]
theorem xyr {R : Type} {L n : Nat} {hq : H} {k : A → H → Option R} (hn : 3 ≤ n) (rs : List (List Int)) (left : Int) (hs : rowsLen rs) (h0 : 0 ≤ left) (h1 : left ≤ 4294967296) (hL : 2 ^ 60 ≤ L) : x4 env (x2 env L n) hq 54 [.d (.ivs rs.length (rowsD rs)),.d (.int .i64 left)] k = k (.d (.int .i64 (szSS rs left))) hq :=
 xh rfl (x1be hn rs left hs h0 h1 hL) rfl (.inl rfl)
theorem x10g {R : Type} {L n : Nat} {k : A → Option R} (hn : 3 ≤ n) (rs : List (List Int)) (left : Int) (hs : rowsLen rs) (h0 : 0 ≤ left) (h1 : left ≤ 4294967296) (hL : 2 ^ 60 ≤ L) : xk (x2 env L n) 54 [.d (.ivs rs.length (rowsD rs)),.d (.int .i64 left)] k = k (.d (.int .i64 (szSS rs left))) :=
 x2c (x1be hn rs left hs h0 h1 hL) rfl
theorem xs8 {R : Type} {L n : Nat} {hq : H} {k : A → H → Option R} {id0 g0 o0 len0 : Nat} {left : Int} : x4 env (x2 env L n) hq 54 [.sl id0 g0 o0 len0,.d (.int .i64 left)] k = match box (xw hq [.sl id0 g0 o0 len0,.d (.int .i64 left)]) with
  | .mk (some fs) => xk (x2 env L n) 54 fs fun r => k r hq
  | _ => none := x9 xt8
theorem xym {L n : Nat} (hn : 4 ≤ n) (al : Int) (rs : List (List Int)) (ac : List Bool) (left : Int) (hs : rowsLen rs) (ha : ac.length ≤ 9223372036854775807) (h0 : 0 ≤ left) (h1 : left ≤ 4294967296) (hL : 2 ^ 60 ≤ L) : x2 env L n 16 [.agg [.d (.int .i64 al),.d (.ivs rs.length (rowsD rs)),.d (.ivs ac.length (bools ac))],.d (.int .i64 left)] [] = some (.d (.int .i64 (szA rs ac left)),[]) := by
 unfold szA
 by_cases h : szSS rs left < 0
 ·obtain _ | n := n; omega
  rw [xmg]
  simp only [xhn,Try.f16,SLM,simprocAttr]
  simp -implicitDefEqProofs (maxSteps := 2000000) (disch := first | assumption | exact ⟨by kernel_rfl⟩ | omega | (simp only [GT,LN] <;> omega) | fail) only [↓DN,↓kAsg,↓kRet,UP,simprocAttr,↓xyr,↓x106,↓x10g,↓xz7,↓xs8,↓xsh,LA,h]
 ·have h5 : szSS rs left ≤ left := by
   unfold szSS at h ⊢
   split
   ·omega
   ·have := x14f rs (left - rs.length) (by omega); omega
  have h6 : 0 ≤ szSS rs left := by omega
  have h7 : szSS rs left ≤ 4294967296 := by omega
  clear h5
  by_cases h2 : szN (szSS rs left) ac.length < 0
  ·have h3 : szN (szSS rs left) ac.length = -1 := by
    unfold szN at h2 ⊢
    split
    ·rfl
    ·rename_i hc; rw [if_neg hc] at h2; omega
   obtain _ | n := n; omega
   rw [xmg]
   simp only [xhn,Try.f16,SLM,simprocAttr]
   simp -implicitDefEqProofs (maxSteps := 2000000) (disch := first | assumption | exact ⟨by kernel_rfl⟩ | omega | (simp only [GT,LN] <;> omega) | fail) only [↓DN,↓kAsg,↓kRet,UP,simprocAttr,↓xyr,↓x106,↓x10g,↓xz7,↓xs8,↓xsh,LA,h,h2,h3]
  ·obtain _ | n := n; omega
   rw [xmg]
   simp only [xhn,Try.f16,SLM,simprocAttr]
   simp -implicitDefEqProofs (maxSteps := 2000000) (disch := first | assumption | exact ⟨by kernel_rfl⟩ | omega | (simp only [GT,LN] <;> omega) | fail) only [↓DN,↓kAsg,↓kRet,UP,simprocAttr,↓xyr,↓x106,↓x10g,↓xz7,↓xs8,↓xsh,LA,h,h2]
theorem xm7 {R : Type} {L n : Nat} {hq : H} {k : A → H → Option R} (hn : 4 ≤ n) (al : Int) (rs : List (List Int)) (ac : List Bool) (left : Int) (hs : rowsLen rs) (ha : ac.length ≤ 9223372036854775807) (h0 : 0 ≤ left) (h1 : left ≤ 4294967296) (hL : 2 ^ 60 ≤ L) : x4 env (x2 env L n) hq 16 [.agg [.d (.int .i64 al),.d (.ivs rs.length (rowsD rs)),.d (.ivs ac.length (bools ac))],.d (.int .i64 left)] k = k (.d (.int .i64 (szA rs ac left))) hq :=
 xh rfl (xym hn al rs ac left hs ha h0 h1 hL) rfl (.inl rfl)
theorem xmi {R : Type} {L n : Nat} {k : A → Option R} (hn : 4 ≤ n) (al : Int) (rs : List (List Int)) (ac : List Bool) (left : Int) (hs : rowsLen rs) (ha : ac.length ≤ 9223372036854775807) (h0 : 0 ≤ left) (h1 : left ≤ 4294967296) (hL : 2 ^ 60 ≤ L) : xk (x2 env L n) 16 [.agg [.d (.int .i64 al),.d (.ivs rs.length (rowsD rs)),.d (.ivs ac.length (bools ac))],.d (.int .i64 left)] k = k (.d (.int .i64 (szA rs ac left))) :=
 x2c (xym hn al rs ac left hs ha h0 h1 hL) rfl
theorem xi2 {R : Type} {L n : Nat} {hq : H} {k : A → H → Option R} {id0 g0 o0 len0 : Nat} {al : Int} {ac : List Bool} {left : Int} : x4 env (x2 env L n) hq 16 [.agg [.d (.int .i64 al),.sl id0 g0 o0 len0,.d (.ivs ac.length (bools ac))],.d (.int .i64 left)] k = match box (xw hq [.agg [.d (.int .i64 al),.sl id0 g0 o0 len0,.d (.ivs ac.length (bools ac))],.d (.int .i64 left)]) with
  | .mk (some fs) => xk (x2 env L n) 16 fs fun r => k r hq
  | _ => none := x9 xab
theorem xi7 {R : Type} {L n : Nat} {hq : H} {k : A → H → Option R} {id1 g1 o1 len1 : Nat} {al : Int} {rs : List (List Int)} {left : Int} : x4 env (x2 env L n) hq 16 [.agg [.d (.int .i64 al),.d (.ivs rs.length (rowsD rs)),.sl id1 g1 o1 len1],.d (.int .i64 left)] k = match box (xw hq [.agg [.d (.int .i64 al),.d (.ivs rs.length (rowsD rs)),.sl id1 g1 o1 len1],.d (.int .i64 left)]) with
  | .mk (some fs) => xk (x2 env L n) 16 fs fun r => k r hq
  | _ => none := x9 xab
theorem xif {R : Type} {L n : Nat} {hq : H} {k : A → H → Option R} {id1 g1 o1 len1 : Nat} {id0 g0 o0 len0 : Nat} {al : Int} {left : Int} : x4 env (x2 env L n) hq 16 [.agg [.d (.int .i64 al),.sl id0 g0 o0 len0,.sl id1 g1 o1 len1],.d (.int .i64 left)] k = match box (xw hq [.agg [.d (.int .i64 al),.sl id0 g0 o0 len0,.sl id1 g1 o1 len1],.d (.int .i64 left)]) with
  | .mk (some fs) => xk (x2 env L n) 16 fs fun r => k r hq
  | _ => none := x9 xab
theorem x1hl {rs : List (List Int)} {ac : List Bool} (h : ¬ szA rs ac 1048576 < 0) : rs.length ≤ 1048576 ∧ (∀ r ∈ rs,r.length ≤ 1048576) ∧ ac.length ≤ 1048576 := by
 unfold szA at h
 split at h
 ·omega
 ·rename_i h1
  unfold szSS at h h1
  split at h1
  ·omega
  ·rename_i h2
   rw [if_neg h2] at h
   have h3 := x14f rs (1048576 - rs.length) (by omega)
   unfold szN at h
   split at h
   ·omega
   ·refine ⟨by omega,fun r hr => ?_,by omega⟩
    have := x1dr rs (1048576 - rs.length) (by omega) r hr
    omega
def xo1 : Nat → Int → List Bool
 | 0,_ => []
 | j + 1,k => decide (k.tmod 3 = 0) :: xo1 j (k + 1)
def x9m : List (List Int) → Int → List (List Int)
 | [],_ => []
 | r :: rs,k => xf3 r.length k :: x9m rs (k + r.length)
def x6 : List (List Int) → Nat
 | [] => 0
 | r :: rs => r.length + x6 rs
theorem xr4 : ∀ (rs : List (List Int)) (k : Int),(x9m rs k).length = rs.length
 | [],_ => rfl
 | r :: rs,k => by simp [x9m,xr4 rs]
theorem xwa : ∀ (rs : List (List Int)) (k : Int),(x9m rs k).map List.length = rs.map List.length
 | [],_ => rfl
 | r :: rs,k => by simp [x9m,xwa rs,x1bn]
section
theorem x1iu {h : H} : ∀ (n : Nat) (todo acc : List Nat),(∀ i ∈ todo,i ∈ acc) → x5 n h todo acc = acc
 | 0,_,_,_ => rfl
 | n + 1,[],_,_ => rfl
 | n + 1,i :: todo,acc,hs => by
  have hc : acc.contains i = true := by simpa using hs i (by simp)
  simp only [x5,hc,if_true]
  exact x1iu n todo acc fun j hj => hs j (by simp [hj])
mutual
theorem x1uf {nf : Nat} {h : H} : ∀ a : A,(∀ i ∈ idsA a,i < nf) → x2i nf h a = a
 | .d x,_ => by simp only [x2i]
 | .sl id gen off len,hi => by simp only [x2i,xk4]; rw [if_pos (hi id (by simp [idsA]))]
 | .ptr id gen off,hi => by simp only [x2i,xxe]; rw [if_pos (hi id (by simp [idsA]))]
 | .mp id,hi => by simp only [x2i]
 | .clo g caps,hi => by simp only [x2i]; rw [xcu caps (by simpa only [idsA] using hi)]
 | .agg cs,hi => by simp only [x2i]; rw [xcu cs (by simpa only [idsA] using hi)]
 | .tup cs,hi => by simp only [x2i]; rw [xcu cs (by simpa only [idsA] using hi)]
 | .junk,_ => by simp only [x2i]
theorem xcu {nf : Nat} {h : H} : ∀ xs : List A,(∀ i ∈ idsL xs,i < nf) → x29 nf h xs = xs
 | [],_ => by simp only [x29]
 | a :: xs,hi => by
  simp only [idsL,List.mem_append] at hi
  simp only [x29]
  rw [x1uf a fun i h => hi i (.inl h),xcu xs fun i h => hi i (.inr h)]
end
theorem x14t {nf : Nat} {h : H} : ∀ (os : H) (i : Nat),i + os.length ≤ nf → (∀ o ∈ os,∀ j ∈ x6n o,j < nf) → x4i nf h i os = os
 | [],_,_,_ => by simp only [x4i]
 | o :: os,i,hl,hk => by
  simp only [List.length_cons] at hl
  simp only [x4i]
  rw [x14t os (i + 1) (by omega) fun o ho => hk o (by simp [ho])]
  congr 1
  have hko := hk o (by simp)
  cases o with
  | arr cs e g => simp only [x2g]; rw [if_pos (by omega)]
  | ice cs e g => simp only [x2g]; rw [if_pos (by omega)]
  | box cs => simp only [x2g]; rw [xcu cs hko]
  | vec cs e g => simp only [x2g]; rw [xcu cs hko,if_pos (by omega)]
  | mp es => simp only [x2g]
  | void => simp only [x2g]
theorem x1hs {n i : Nat} (h : i < n) : x8 (List.range n) i = some i := by
 rw [List.range_eq_range']
 have := xhe n 0 i h
 simpa using this
theorem x1yz {f : Nat → Option Nat} {o : O} (h : ∀ i ∈ x6n o,f i = some i) : mapO f o = o := by
 cases o with
 | box cs => simp only [mapO]; rw [xb5 cs h]
 | vec cs e g => simp only [mapO]; rw [xb5 cs h]
 | _ => rfl
theorem x1zj {h h2 : H} (hk : ∀ o ∈ h,∀ j ∈ x6n o,j < h.length) : pack (h ++ h2) (List.range h.length) = h := by
 apply List.ext_getElem?
 intro i
 rw [x10f]
 by_cases hi : i < h.length
 ·rw [List.getElem?_range hi]
  simp only [Option.map_some,List.getD_eq_getElem?_getD,List.getElem?_append_left hi,List.getElem?_eq_getElem hi,Option.getD_some]
  rw [x1yz fun j hj => x1hs (hk _ (List.getElem_mem hi) j hj)]
 ·rw [List.getElem?_eq_none (by simpa using hi),List.getElem?_eq_none (by omega)]
  rfl
theorem xqp : ∀ {h : H} {i : Nat},i ∈ x65 h → ∃ o ∈ h,i ∈ x6n o
 | [],i,hi => by simp [x65] at hi
 | o :: h,i,hi => by
  cases o with
  | box cs =>
   simp only [x65,List.mem_append] at hi
   rcases hi with hi | hi
   ·exact ⟨.box cs,by simp,hi⟩
   ·obtain ⟨o,ho,hk⟩ := xqp hi; exact ⟨o,by simp [ho],hk⟩
  | vec cs e g =>
   simp only [x65,List.mem_append] at hi
   rcases hi with hi | hi
   ·exact ⟨.vec cs e g,by simp,hi⟩
   ·obtain ⟨o,ho,hk⟩ := xqp hi; exact ⟨o,by simp [ho],hk⟩
  | _ =>
   simp only [x65] at hi
   obtain ⟨o,ho,hk⟩ := xqp hi
   exact ⟨o,by simp [ho],hk⟩
section
variable {h h2 : H} {nf : Nat} (hn : nf = h.length) (hk : ∀ o ∈ h,∀ j ∈ x6n o,j < nf)
include hn hk
theorem x1g4 {ids : List Nat} (hi : ∀ i ∈ ids,i < nf) : x37 nf (h ++ h2) ids = List.range nf := by
 unfold x37
 subst hn
 rw [List.take_left]
 apply x1iu
 intro i hm
 rw [List.mem_range]
 rcases List.mem_append.1 hm with h1 | h1
 ·obtain ⟨o,ho,hj⟩ := xqp h1
  exact hk o ho i hj
 ·exact hi i h1
theorem x1hd {s : List A} (hi : ∀ i ∈ idsL s,i < nf) : trim nf (h ++ h2) (List.range nf) s = (s,h) := by
 unfold trim
 subst hn
 rw [x1zj hk,xb5 s fun i h1 => x1hs (hi i h1),xcu s hi]
 unfold x8a
 rw [x14t h 0 (by omega) hk]
theorem x1lp {ids : List Nat} (hi : ∀ i ∈ ids,i < nf) : x37 nf h ids = List.range nf := by
 have := x1g4 (h2 := []) hn hk hi
 rwa [List.append_nil] at this
theorem x1ju {s : List A} (hi : ∀ i ∈ idsL s,i < nf) : trim nf h (List.range nf) s = (s,h) := by
 have := x1hd (h2 := []) hn hk hi
 rwa [List.append_nil] at this
theorem x24k {m : List Bool} {s : List A} (hi : ∀ i ∈ idsL (tidy m s),i < nf) : gc nf m s h = (tidy m s,h) := by
 unfold gc
 rw [x1lp hn hk hi,x1ju hn hk hi]
end
theorem x1gs {d : List (List Int)} : ∀ o ∈ xg d,x6n o = [] := by
 intro o ho
 simp only [xg,List.mem_map] at ho
 obtain ⟨r,_,rfl⟩ := ho
 rfl
theorem x1ed {b : Nat} {rs d : List (List Int)} {nf : Nat} (hb : b + rs.length ≤ nf) : ∀ o ∈ (O.vec (xb b rs ++ xf 0) 1 0 :: xg d),∀ j ∈ x6n o,j < nf := by
 intro o ho j hj
 rcases List.mem_cons.1 ho with h1 | h1
 ·subst h1
  simp only [x6n,x6t,x6y,x85,List.append_nil,List.mem_range'_1] at hj
  omega
 ·rw [x1gs o h1] at hj; cases hj
theorem x1q9 {b : Nat} {rs d : List (List Int)} {cs : List D} {nf : Nat} (hb : b + rs.length ≤ nf) : ∀ o ∈ (O.vec (xb b rs ++ xf 0) 1 0 :: .arr cs 1 0 :: xg d),∀ j ∈ x6n o,j < nf := by
 intro o ho j hj
 rcases List.mem_cons.1 ho with h1 | h1
 ·subst h1
  simp only [x6n,x6t,x6y,x85,List.append_nil,List.mem_range'_1] at hj
  omega
 ·rcases List.mem_cons.1 h1 with h2 | h2
  ·subst h2; cases hj
  ·rw [x1gs o h2] at hj; cases hj
theorem x1jp {rs d : List (List Int)} {nf : Nat} {m : List Bool} {s : List A} (hl : d.length = rs.length) (hn : nf = rs.length + 1) : gc nf m s (.vec (xb 1 rs ++ xf 0) 1 0 :: xg d) = match box (tidy m s) with
  | .mk s1 => if idsL s1 = [0] then (s1,.vec (xb 1 rs ++ xf 0) 1 0 :: xg d) else gcO nf m s (.vec (xb 1 rs ++ xf 0) 1 0 :: xg d)
  | .no => ([],[]) := by
 simp only [box]
 split
 ·rename_i hc
  exact x24k (by simp [x1h,hl,hn]) (x1ed (by omega)) (by rw [hc]; intro i hi; simp at hi; omega)
 ·rfl
theorem x24e {rs : List (List Int)} {m : List Bool} {s : List A} : gc (O.vec (xb 1 rs ++ xf 0) 1 0 :: xg rs).length m s (.vec (xb 1 rs ++ xf 0) 1 0 :: xg rs) = match box (tidy m s) with
  | .mk s1 => if idsL s1 = [0] then (s1,.vec (xb 1 rs ++ xf 0) 1 0 :: xg rs) else gcO (O.vec (xb 1 rs ++ xf 0) 1 0 :: xg rs).length m s (.vec (xb 1 rs ++ xf 0) 1 0 :: xg rs)
  | .no => ([],[]) := x1jp rfl (by simp [x1h])
theorem x230 {rs d : List (List Int)} {nf : Nat} {ids : List Nat} (hl : d.length = rs.length) (hn : nf = rs.length + 1) : x37 nf (.vec (xb 1 rs ++ xf 0) 1 0 :: xg d) ids = if ids = [] then List.range nf else x1jl nf (.vec (xb 1 rs ++ xf 0) 1 0 :: xg d) ids := by
 split
 ·rename_i h; subst h
  exact x1lp (by simp [x1h,hl,hn]) (x1ed (by omega)) (by simp)
 ·rfl
theorem x235 {rs d : List (List Int)} {nf n2 : Nat} {s : List A} (hl : d.length = rs.length) (hn : nf = rs.length + 1) (hn2 : n2 = rs.length + 1) : trim nf (.vec (xb 1 rs ++ xf 0) 1 0 :: xg d) (List.range n2) s = if idsL s = [] then (s,.vec (xb 1 rs ++ xf 0) 1 0 :: xg d) else x1jm nf (.vec (xb 1 rs ++ xf 0) 1 0 :: xg d) (List.range n2) s := by
 obtain rfl : n2 = nf := by omega
 split
 ·rename_i h
  exact x1ju (by simp [x1h,hl,hn]) (x1ed (by omega)) (by simp [h])
 ·rfl
theorem x23y {rs d : List (List Int)} {cs : List D} {p : H} {nf : Nat} {ids : List Nat} (hl : d.length = rs.length) (hn : nf = rs.length + 2) : x37 nf (.vec (xb 2 rs ++ xf 0) 1 0 :: .arr cs 1 0 :: (xg d ++ p)) ids = if ids = [] then List.range nf else x1jl nf (.vec (xb 2 rs ++ xf 0) 1 0 :: .arr cs 1 0 :: (xg d ++ p)) ids := by
 split
 ·rename_i h; subst h
  exact x1g4 (h := .vec (xb 2 rs ++ xf 0) 1 0 :: .arr cs 1 0 :: xg d) (h2 := p) (by simp [x1h,hl,hn]) (x1q9 (by omega)) (by simp)
 ·rfl
theorem x231 {rs d : List (List Int)} {cs : List D} {p : H} {nf n2 : Nat} {s : List A} (hl : d.length = rs.length) (hn : nf = rs.length + 2) (hn2 : n2 = rs.length + 2) : trim nf (.vec (xb 2 rs ++ xf 0) 1 0 :: .arr cs 1 0 :: (xg d ++ p)) (List.range n2) s = if idsL s = [] then (s,.vec (xb 2 rs ++ xf 0) 1 0 :: .arr cs 1 0 :: xg d) else x1jm nf (.vec (xb 2 rs ++ xf 0) 1 0 :: .arr cs 1 0 :: (xg d ++ p)) (List.range n2) s := by
 obtain rfl : n2 = nf := by omega
 split
 ·rename_i h
  exact x1hd (h := .vec (xb 2 rs ++ xf 0) 1 0 :: .arr cs 1 0 :: xg d) (h2 := p) (by simp [x1h,hl,hn]) (x1q9 (by omega)) (by simp [h])
 ·rfl
theorem x1lg {d : List (List Int)} {o : O} {p : H} {k : Nat} (h : k = d.length) : (xg d ++ o :: p)[k]? = some o := by
 rw [List.getElem?_append_right (by rw [x1h]; omega),x1h,h,Nat.sub_self]
 rfl
theorem x1h5 {b k : Nat} : ∀ {rs : List (List Int)} {b k : Nat},k < rs.length → ((xb b rs ++ xf 0).drop k).head? = some (.sl (b + k) 0 0 (rs.getD k []).length)
 | [],b,k,h => by simp at h
 | r :: rs,b,0,h => by simp [xb]
 | r :: rs,b,k + 1,h => by
  simp only [xb,List.cons_append,List.drop_succ_cons]
  rw [x1h5 (b := b) (k := k) (by simpa using h)]
  simp only [List.getD_cons_succ]
  congr 2
  omega
theorem x1rr {rs : List (List Int)} {k : Nat} (h : k < rs.length) : ((xb 1 rs ++ xf 0).drop k).head? = some (.sl (k + 1) 0 0 (rs.getD k []).length) := by
 rw [x1h5 (b := 0) (k := 0) h,Nat.add_comm]
theorem x19t {d : List (List Int)} {k : Nat} (h : k < d.length) : (xg d)[k]? = some (.arr (ints (d.getD k [])) 1 0) := by
 rw [List.getD_eq_getElem?_getD,List.getElem?_eq_getElem h]
 exact xb6 (List.getElem?_eq_getElem h)
theorem x1ws {d : List (List Int)} {k : Nat} {r : List Int} : (xg d).set k (.arr (ints r) 1 0) = xg (d.set k r) := by
 unfold xg
 rw [List.map_set]
 rfl
theorem xy5 {R : Type} {L n nf : Nat} (hn : 2 ≤ n) (hL : 2 ^ 60 ≤ L) {rs : List (List Int)} (hs : xp rs) (hnf : nf = rs.length + 1) {k : Exit → List A → H → Option R} : ∀ (i c : Int) (m : Nat) (d : List (List Int)) (len : Nat) (h0 : 0 ≤ i) (hi : i ≤ rs.length) (hm : (rs.length : Int) - i < m) (hd : d.length = rs.length) (hd2 : d.drop i.toNat = rs.drop i.toNat) (hlen : len = rs.length) (hc0 : 0 ≤ c) (hc1 : c + x6 (rs.drop i.toNat) ≤ 100000000000),
  xc env (x2 env L n) L (nf) [] (U2 (Z2 (U2 (Z8 (Z4 (Z1 ([]))))))) (xc4 0) (Z2 (U2 (Z2 (U8 (U4 (U1 ([]))))))) m (.sl 0 0 0 len :: .d (.int .i64 c) :: Y2 (.d (.int .i64 0) :: .d (.int .i64 i) :: Y8 (Y4 (Y1 ([]))))) (.vec (xb 1 rs ++ xf 0) 1 0 :: xg d) k
  = k (.exit 0) (.sl 0 0 0 rs.length :: .d (.int .i64 ((c + x6 (rs.drop i.toNat)))) :: Y2 (.d (.int .i64 0) :: .d (.int .i64 (rs.length)) :: Y8 (Y4 (Y1 ([]))))) (.vec (xb 1 rs ++ xf 0) 1 0 :: xg (d.take i.toNat ++ x9m (rs.drop i.toNat) c)) := by
 intro i c m d len h0 hi hm hd hd2 hlen hc0 hc1
 have hrl := hs.1
 obtain ⟨j,hj⟩ : ∃ j : Nat,(j : Int) = (rs.length : Int) - i := ⟨((rs.length : Int) - i).toNat,by omega⟩
 induction j generalizing i c m d len with
 | zero =>
  obtain _ | m := m; omega
  obtain rfl : i = rs.length := by omega
  have e1 : d.take rs.length = d := List.take_of_length_le (by omega)
  rw [xtp]
  simp only [xp7,Try.f64,SLM,simprocAttr]
  simp -implicitDefEqProofs (maxSteps := 2000000) (disch := first | assumption | exact ⟨by kernel_rfl⟩ | omega | (simp only [GT,LN] <;> omega) | fail) only [↓DN,↓kAsg,↓kRet,UP,simprocAttr,↓xwe,LA,Int.lt_irrefl,↓x1jp,hlen]
  simp only [Int.toNat_natCast,List.drop_length,x9m,List.append_nil,e1,x6,Int.natCast_zero,Int.add_zero]
 | succ j ih =>
  obtain _ | m := m; omega
  subst hlen
  have hc : i < rs.length := by omega
  have hk : i.toNat < rs.length := by omega
  have hkd : i.toNat < d.length := by omega
  have hrow := xie hs hk
  have e1 : (i + 1).toNat = i.toNat + 1 := by omega
  have e2 := x2k hk (d := ([] : List Int))
  have e3 := x2k hkd (d := ([] : List Int))
  rw [e2,e3,List.cons.injEq] at hd2
  rw [e2,x6] at hc1
  have hg : (O.vec (xb 1 rs ++ xf 0) 1 0 :: xg d)[i.toNat + 1]? = some (.arr (ints (rs.getD i.toNat [])) 1 0) := by rw [List.getElem?_cons_succ,x19t hkd,hd2.1]
  have hset : (d.set i.toNat (xf3 (rs.getD i.toNat []).length c)).length = rs.length := by simp [hd]
  have hset2 : (d.set i.toNat (xf3 (rs.getD i.toNat []).length c)).drop (i + 1).toNat = rs.drop (i + 1).toNat := by
   rw [e1,← hd2.2,List.drop_set_of_lt (by omega)]
  have hq0 : 0 ≤ c + ((rs.getD i.toNat []).length : Int) := by omega
  have hq1 : c + ((rs.getD i.toNat []).length : Int) + x6 (rs.drop (i + 1).toNat) ≤ 100000000000 := by rw [e1]; omega
  have hq2 : c ≤ 100000000000 := by omega
  rw [xtp]
  simp only [xp7,Try.f64,SLM,simprocAttr]
  simp -implicitDefEqProofs (maxSteps := 2000000) (disch := first | assumption | exact ⟨by kernel_rfl⟩ | omega | (simp only [GT,LN] <;> omega) | fail) only [↓DN,↓kAsg,↓kRet,UP,simprocAttr,↓xwe,LA,x60,x6l,hc,x1rr,x1ws,↓x1jp,↓ih,List.getElem?_cons_succ,List.set_cons_succ]
  rw [e1,e2,xio hkd]
  simp only [x9m,x6,Int.natCast_add,Int.add_assoc]
theorem x13i {R : Type} {L n nf m : Nat} (hn : 2 ≤ n) (hL : 2 ^ 60 ≤ L) {rs : List (List Int)} (hs : xp rs) (hnf : nf = rs.length + 1) {k : Exit → List A → H → Option R} (c : Int) (hm : rs.length < m) (hc0 : 0 ≤ c) (hc1 : c + x6 rs ≤ 100000000000) :
  xc env (x2 env L n) L (nf) [] (U2 (Z2 (U2 (Z8 (Z4 (Z1 ([]))))))) (xc4 0) (Z2 (U2 (Z2 (U8 (U4 (U1 ([]))))))) m (.sl 0 0 0 rs.length :: .d (.int .i64 c) :: Y2 (.d (.int .i64 0) :: .d (.int .i64 0) :: Y8 (Y4 (Y1 ([]))))) (.vec (xb 1 rs ++ xf 0) 1 0 :: xg rs) k
  = k (.exit 0) (.sl 0 0 0 rs.length :: .d (.int .i64 ((c + x6 rs))) :: Y2 (.d (.int .i64 0) :: .d (.int .i64 (rs.length)) :: Y8 (Y4 (Y1 ([]))))) (.vec (xb 1 rs ++ xf 0) 1 0 :: xg (x9m rs c)) := by
 have h := xy5 (R := R) (L := L) (n := n) hn hL hs hnf (k := k) 0 c m rs rs.length (by omega) (by omega) (by omega) rfl rfl rfl hc0 (by simpa using hc1)
 simpa using h
theorem x1l7 {L n : Nat} (hn : 3 ≤ n) (rs : List (List Int)) (c : Int) (hs : xp rs) (hc0 : 0 ≤ c) (hc1 : c + x6 rs ≤ 100000000000) (hL : 2 ^ 60 ≤ L) : x2 env L n 64 [.sl 0 0 0 rs.length,.d (.int .i64 c)] (.vec (xb 1 rs ++ xf 0) 1 0 :: xg rs) = some (.d (.int .i64 (c + x6 rs)),.vec (xb 1 rs ++ xf 0) 1 0 :: xg (x9m rs c)) := by
 have hrl := hs.1
 have hml := xr4 rs c
 have hro := x1h rs
 obtain _ | n := n; omega
 rw [x1nb]
 simp only [x16m,Try.f64,SLM,simprocAttr]
 simp -implicitDefEqProofs (maxSteps := 2000000) (disch := first | assumption | exact ⟨by kernel_rfl⟩ | omega | (simp only [GT,LN] <;> omega) | fail) only [↓DN,↓kAsg,↓kRet,UP,simprocAttr,↓xwe,↓xy5,LA,x1h,↓x1jp,↓x24e,↓x13i,↓x230,↓x235,hml]
theorem x1fb {R : Type} {L n : Nat} {k : Exit → List A → H → Option R} : ∀ (i c : Int) (m : Nat) (o : List Bool) (len : Nat) (h0 : 0 ≤ i) (hi : i ≤ len) (hm : (len : Int) - i < m) (ho : o.length = len) (hl : len ≤ 4294967296) (hc0 : 0 ≤ c) (hc1 : c + ((len : Int) - i) ≤ 1000000000000),
  xc env (x2 env L n) L 1 [] (U2 (Z2 (U2 (Z8 (Z4 (Z2 (Z1 ([])))))))) (xez 0) (Z2 (U2 (Z2 (U8 (U4 (U2 (U1 ([])))))))) m (.sl 0 0 0 len :: .d (.int .i64 c) :: Y2 (.d (.int .i64 0) :: .d (.int .i64 i) :: Y8 (Y4 (Y2 (Y1 ([])))))) [.arr (bools o) 1 0] k
  = k (.exit 0) (.sl 0 0 0 len :: .d (.int .i64 ((c + ((len : Int) - i)))) :: Y2 (.d (.int .i64 0) :: .d (.int .i64 len) :: Y8 (Y4 (Y2 (Y1 ([])))))) [.arr (bools (o.take i.toNat ++ xo1 ((len : Int) - i).toNat c)) 1 0] := by
 intro i c m o len h0 hi hm ho hl hc0 hc1
 obtain ⟨j,hj⟩ : ∃ j : Nat,(j : Int) = (len : Int) - i := ⟨((len : Int) - i).toNat,by omega⟩
 induction j generalizing i c m o len with
 | zero =>
  obtain _ | m := m; omega
  obtain rfl : i = len := by omega
  rw [xrv]
  simp only [xpi,Try.f65,SLM,simprocAttr]
  simp -implicitDefEqProofs (maxSteps := 2000000) (disch := first | assumption | exact ⟨by kernel_rfl⟩ | omega | (simp only [GT,LN] <;> omega) | fail) only [↓DN,↓kAsg,↓kRet,UP,simprocAttr,LA,Int.lt_irrefl]
  have e1 : o.take len = o := List.take_of_length_le (by omega)
  have e2 : ((len : Int) - len).toNat = 0 := by omega
  simp only [Int.toNat_natCast,e1,e2,xo1,List.append_nil]
  congr 3
  simp
 | succ j ih =>
  obtain _ | m := m; omega
  have hc : i < len := by omega
  have hk : i.toNat < o.length := by omega
  have e1 : (i + 1).toNat = i.toNat + 1 := by omega
  have e2 : ((len : Int) - i).toNat = j + 1 := by omega
  have e3 : ((len : Int) - (i + 1)).toNat = j := by omega
  rw [xrv]
  simp only [xpi,Try.f65,SLM,simprocAttr]
  simp -implicitDefEqProofs (maxSteps := 2000000) (disch := first | assumption | exact ⟨by kernel_rfl⟩ | omega | (simp only [GT,LN] <;> omega) | fail) only [↓DN,↓kAsg,↓kRet,UP,simprocAttr,LA,hc,x15d,xs9,↓x1my,↓ih]
  have e4 : c + 1 + ((len : Int) - (i + 1)) = c + ((len : Int) - i) := by omega
  rw [e1,e2,e3,xio hk,e4]
  simp only [xo1]
theorem x1jy {L n : Nat} (hn : 1 ≤ n) (o : List Bool) (c : Int) (hl : o.length ≤ 4294967296) (hc0 : 0 ≤ c) (hc1 : c ≤ 100000000000) (hL : 2 ^ 60 ≤ L) : x2 env L n 65 [.sl 0 0 0 o.length,.d (.int .i64 c)] [.arr (bools o) 1 0] = some (.d (.int .i64 (c + o.length)),[.arr (bools (xo1 o.length c)) 1 0]) := by
 obtain _ | n := n; omega
 rw [x1m5]
 simp only [x16x,Try.f65,SLM,simprocAttr]
 simp -implicitDefEqProofs (maxSteps := 2000000) (disch := first | assumption | exact ⟨by kernel_rfl⟩ | omega | (simp only [GT,LN] <;> omega) | fail) only [↓DN,↓kAsg,↓kRet,UP,simprocAttr,↓x1fb,LA,Int.toNat_zero,Int.sub_zero,Int.toNat_natCast,List.take_zero,List.nil_append]
theorem x1mb {R : Type} {L n id : Nat} {hq : H} {k : A → H → Option R} (hn : 1 ≤ n) (o : List Bool) (c : Int) (hi : hq[id]? = some (.arr (bools o) 1 0)) (hl : o.length ≤ 4294967296) (hc0 : 0 ≤ c) (hc1 : c ≤ 100000000000) (hL : 2 ^ 60 ≤ L) : x4 env (x2 env L n) hq 65 [.sl id 0 0 o.length,.d (.int .i64 c)] k = k (.d (.int .i64 (c + o.length))) (hq.set id (.arr (bools (xo1 o.length c)) 1 0)) :=
 xj9 hi (by simp [idsL,idsA]) xm6 rfl (by simpa [xd,mapA,x8] using x1jy hn o c hl hc0 hc1 hL)
theorem x1kx {R : Type} {L n : Nat} {k : A → H → Option R} {p : H} (hn : 3 ≤ n) (rs : List (List Int)) (cs : List D) (c : Int) (hs : xp rs) (hc0 : 0 ≤ c) (hc1 : c + x6 rs ≤ 100000000000) (hL : 2 ^ 60 ≤ L) : x4 env (x2 env L n) (.vec (xb 2 rs ++ xf 0) 1 0 :: .arr cs 1 0 :: (xg rs ++ p)) 64 [.sl 0 0 0 rs.length,.d (.int .i64 c)] k = k (.d (.int .i64 (c + x6 rs))) (.vec (xb 2 rs ++ xf 0) 1 0 :: .arr cs 1 0 :: (xg (x9m rs c) ++ p)) := by
 have hml := xr4 rs c
 have hrl := hs.1
 have hids : idsL [A.sl 0 0 0 rs.length,.d (.int .i64 c)] = [0] := by simp [idsL,idsA]
 have hk0 : kids (.vec (xb 2 rs ++ xf 0) 1 0 :: .arr cs 1 0 :: (xg rs ++ p)) 0 = List.range' 2 rs.length := by
  simp only [kids,List.getElem?_cons_zero,x6t,x6y,x85,List.append_nil]
 have hleaf : ∀ i ∈ List.range' 2 rs.length,∃ r : List Int,(O.vec (xb 2 rs ++ xf 0) 1 0 :: .arr cs 1 0 :: (xg rs ++ p))[i]? = some (.arr (ints r) 1 0) := by
  intro i hi
  simp only [List.mem_range'_1] at hi
  obtain ⟨j,rfl⟩ : ∃ j,i = j + 2 := ⟨i - 2,by omega⟩
  have hj : j < rs.length := by omega
  exact ⟨rs[j],by rw [List.getElem?_cons_succ,List.getElem?_cons_succ,List.getElem?_append_left (by rw [x1h]; exact hj)]; exact xb6 (List.getElem?_eq_getElem hj)⟩
 have hr : x5 x7 (.vec (xb 2 rs ++ xf 0) 1 0 :: .arr cs 1 0 :: (xg rs ++ p)) [0] [] = [0] ++ List.range' 2 rs.length := by
  refine xoh (P := [0]) (T := List.range' 2 rs.length) ?_ ?_ ?_ ?_ ?_ ?_
  ·simp [hk0]
  ·intro i hi
   obtain ⟨r,hr⟩ := hleaf i hi
   simp only [kids,hr]
  ·intro k hk; simp at hk; subst hk; simp
  ·simp only [List.cons_append,List.nil_append,List.nodup_cons]
   exact ⟨by simp,List.nodup_range'⟩
  ·intro i hi
   simp only [List.cons_append,List.nil_append,List.mem_cons] at hi
   rcases hi with rfl | hi
   ·exact ⟨_,rfl,by simp⟩
   ·obtain ⟨r,hr⟩ := hleaf i hi
    exact ⟨_,hr,by simp⟩
  ·simp only [List.length_append,List.length_cons,List.length_nil,List.length_range',x7]; omega
 have hpl : ∀ i,i < rs.length → x8 ([0] ++ List.range' 2 rs.length) (2 + i) = some (1 + i) := by
  intro i hi
  rw [x1gu (by simp),xhe _ _ _ hi]
  simp
 have hp : pack (.vec (xb 2 rs ++ xf 0) 1 0 :: .arr cs 1 0 :: (xg rs ++ p)) ([0] ++ List.range' 2 rs.length) = .vec (xb 1 rs ++ xf 0) 1 0 :: xg rs := by
  simp only [pack,List.map_append,List.map_cons,List.map_nil,List.cons_append,List.nil_append,List.getD_cons_zero]
  have e1 := xn5 (rs := rs) (f := x8 ([0] ++ List.range' 2 rs.length)) (b := 2) (d := 1) hpl
  simp only [List.cons_append,List.nil_append] at e1
  rw [e1]
  congr 1
  exact xnv fun i r hr => by
   rw [show 2 + i = i + 2 by omega,List.getElem?_cons_succ,List.getElem?_cons_succ,List.getElem?_append_left (by rw [x1h]; exact x9t hr)]; exact xb6 hr
 have hcl : closed (.vec (xb 2 rs ++ xf 0) 1 0 :: .arr cs 1 0 :: (xg rs ++ p)) ([0] ++ List.range' 2 rs.length) [0] = true := by
  simp only [closed,Bool.and_eq_true,List.all_eq_true,List.contains_eq_mem,decide_eq_true_eq]
  refine ⟨by simp,fun i hi => ?_⟩
  simp only [List.cons_append,List.nil_append,List.mem_cons] at hi
  rcases hi with rfl | hi
  ·simp only [List.getElem?_cons_zero,List.all_eq_true,decide_eq_true_eq,x6t,x6y,x85,List.append_nil]
   intro j hj; simpa using Or.inr (by simpa using hj)
  ·obtain ⟨r,hr⟩ := hleaf i hi
   simp only [hr]
 have hmap : xd (x8 ([0] ++ List.range' 2 rs.length)) [A.sl 0 0 0 rs.length,.d (.int .i64 c)] = [A.sl 0 0 0 rs.length,.d (.int .i64 c)] := rfl
 have hnd : ([0] ++ List.range' 2 rs.length).Nodup := by
  simp only [List.cons_append,List.nil_append,List.nodup_cons]
  exact ⟨by simp,List.nodup_range'⟩
 have hlt : ∀ i ∈ [0] ++ List.range' 2 rs.length,i < (O.vec (xb 2 rs ++ xf 0) 1 0 :: .arr cs 1 0 :: (xg rs ++ p)).length := by
  rw [← hr]; exact x6d x7 _ _ [] (by simp)
 have hlen : (O.vec (xb 1 rs ++ xf 0) 1 0 :: xg (x9m rs c)).length = ([0] ++ List.range' 2 rs.length).length := by
  simp [x1h,hml]
 unfold x4
 rw [hids,hr,hp,hmap]
 unfold x3e
 rw [xmf]
 simp only [x1l7 hn rs c hs hc0 hc1 hL,hcl,hlen,Nat.le_refl,and_self,if_true,mapA]
 congr 1
 apply List.ext_getElem?
 intro i
 rw [xb9 _ _ _ _ _ hnd hlt (by omega)]
 have hbk : ∀ j,j < rs.length + 1 → back ([0] ++ List.range' 2 rs.length) (O.vec (xb 2 rs ++ xf 0) 1 0 :: .arr cs 1 0 :: (xg rs ++ p)).length ([0] ++ List.range' 2 rs.length).length j = ([0] ++ List.range' 2 rs.length)[j]? := by
  intro j hj
  unfold back
  rw [if_pos (by simp; omega)]
 match i with
 | 0 =>
  simp only [List.cons_append,List.nil_append,x8,if_true,List.getElem?_cons_zero,Option.map_some]
  rw [xn5 (d := 2) fun i hi => by
   have := hbk (1 + i) (by omega)
   simp only [List.cons_append,List.nil_append] at this
   rw [this,Nat.add_comm 1,List.getElem?_cons_succ,List.getElem?_range' hi]
   simp]
 | 1 =>
  have : x8 ([0] ++ List.range' 2 rs.length) 1 = none := xas (by simp)
  rw [this]
  simp
 | i + 2 =>
  simp only [List.getElem?_cons_succ]
  by_cases hi : i < rs.length
  ·have := hpl i hi
   rw [show 2 + i = i + 2 by omega,show 1 + i = i + 1 by omega] at this
   rw [this]
   simp only [List.getElem?_cons_succ]
   rw [List.getElem?_append_left (by rw [x1h]; omega),x19t (by omega)]
   rfl
  ·have : x8 ([0] ++ List.range' 2 rs.length) (i + 2) = none := xas (by simp; omega)
   rw [this]
   simp only [List.length_cons,List.length_append,x1h,List.getElem?_cons_succ]
   rw [List.getElem?_append_right (by rw [x1h]; omega),List.getElem?_append_right (by rw [x1h]; omega),x1h,x1h,hml]
   split
   ·rfl
   ·rw [List.getElem?_eq_none (by simp [x1h,hml]; omega),List.getElem?_eq_none (by omega)]
    rfl
theorem x18y {L n : Nat} (hn : 4 ≤ n) (al : Int) (rs : List (List Int)) (ac : List Bool) (c : Int) (hs : xp rs) (ha : ac.length ≤ 4294967296) (hc0 : 0 ≤ c) (hc1 : c + x6 rs ≤ 100000000000) (hL : 2 ^ 60 ≤ L) : x2 env L n 22 [autA 0 al rs.length ac.length,.d (.int .i64 c)] (autO 0 rs ac) = some (.d (.int .i64 (c + x6 rs + ac.length)),autO 0 (x9m rs c) (xo1 ac.length (c + x6 rs))) := by
 have hml := xr4 rs c
 have hrf : xb 2 (x9m rs c) = xb 2 rs := x1cq (xwa rs c)
 have h1 : 0 ≤ c + (x6 rs : Int) := by omega
 have hro := x1h rs
 unfold autO autA
 rw [hrf]
 have en1 : ∀ {o : O} {p : H},(xg rs ++ o :: p)[rs.length]? = some o := x1lg rfl
 have en2 : ∀ {o : O} {p : H},(xg (x9m rs c) ++ o :: p)[rs.length]? = some o := x1lg hml.symm
 obtain _ | n := n; omega
 rw [x190]
 simp only [xva,Try.f22,SLM,simprocAttr]
 simp -implicitDefEqProofs (maxSteps := 2000000) (disch := first | assumption | exact ⟨by kernel_rfl⟩ | omega | (simp only [GT,LN] <;> omega) | fail) only [↓DN,↓kAsg,↓kRet,UP,simprocAttr,↓x1kx,↓x1mb,LA,x1h,↓x23y,↓x231,hml,en1,en2]
theorem x1mu {L n : Nat} (hn : 4 ≤ n) {h : H} {v : Nat} {al : Int} {rs : List (List Int)} {ac : List Bool} (k0 : Has h v rs ac) {c : Int} (hs : xp rs) (ha : ac.length ≤ 4294967296) (hc0 : 0 ≤ c) (hc1 : c + x6 rs ≤ 100000000000) (hL : 2 ^ 60 ≤ L) :
  ∃ h',(∀ (R : Type) (k : A → H → Option R),x4 env (x2 env L n) h 22 [autA v al rs.length ac.length,.d (.int .i64 c)] k = k (.d (.int .i64 (c + x6 rs + ac.length))) h') ∧ h'.length = h.length ∧ Has h' v (x9m rs c) (xo1 ac.length (c + x6 rs)) ∧ (∀ i,i < v ∨ v + 2 + rs.length ≤ i → h'[i]? = h[i]?) ∧ wgt h' ≤ wgt h :=
 x1rk xet k0 hs.1 (x18y hn al rs ac c hs ha hc0 hc1 hL) (xwa rs c)
end
end Ev
end Go.Proofs.Ytppdfjdfjfoddaa
