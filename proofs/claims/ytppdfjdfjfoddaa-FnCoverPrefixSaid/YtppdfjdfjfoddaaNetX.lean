/-
  Products as the reference searches them, walked: where a letter leads.
-/
import Derived.Test.YtppdfjdfjfoddaaNetW
import Derived.Test.YtppdfjdfjfoddaaAutoL
set_option linter.unusedSimpArgs false
set_option linter.unusedVariables false
set_option maxRecDepth 8000
set_option maxHeartbeats 4000000
namespace Go.Proofs.Ytppdfjdfjfoddaa
namespace Ev
theorem aIb {R : Type} {L n : Nat} (hn : 1 ≤ n) {l : List Int} {x : Int} (hl : l.length ≤ 4294967290) {k : Exit → List A → H → Option R} : ∀ (j i m : Nat) (hi : i + j = l.length) (hm : j < m),
  aO env (aA env L n) L 0 [] (U2 (Z2 (U2 (Z8 (Z4 ([])))))) (FI 0) (Z2 (U2 (Z2 (U8 (U4 ([])))))) m (.d (.ivs l.length (ints l)) :: .d (.int .i64 x) :: Y2 (.d (.bool false) :: .d (.int .i64 ((i : Int))) :: Y8 (Y4 ([])))) [] k
  = match seek (fun i => decide (l.getD i 0 = x)) j i with
   | none => k (.exit 0) (.d (.ivs l.length (ints l)) :: .d (.int .i64 x) :: Y2 (.d (.bool false) :: .d (.int .i64 (l.length)) :: Y8 (Y4 ([])))) []
   | some q => k .ret (.d (.ivs l.length (ints l)) :: .d (.int .i64 x) :: Y2 (.d (.bool true) :: .d (.int .i64 ((q : Int))) :: Y8 (Y4 ([])))) [] := by
 intro j
 induction j with
 | zero =>
  intro i m hi hm
  obtain _ | m := m; omega
  obtain rfl : i = l.length := by omega
  rw [F2]
  simp only [HH,Try.f119,SLM,simprocAttr]
  simp -implicitDefEqProofs (maxSteps := 2000000) (disch := try exact Dz) only [↓DN,↓kAsg,↓kRet,UP,simprocAttr,Int.lt_irrefl]
  rfl
 | succ j ih =>
  intro i m hi hm
  obtain _ | m := m; omega
  have hk : i < l.length := by omega
  have hc : (i : Int) < l.length := by omega
  have hi0 : (0 : Int) ≤ i := by omega
  by_cases he : l.getD i 0 = x
  ·rw [pU (p := fun i => decide (l.getD i 0 = x)) (by simpa using he)]
   rw [F2]
   simp only [HH,Try.f119,SLM,simprocAttr]
   simp -implicitDefEqProofs (maxSteps := 2000000) (disch := try exact Dz) only [↓DN,↓kAsg,↓kRet,UP,simprocAttr,hc,hi0,he,Int.toNat_natCast]
  ·rw [uU (p := fun i => decide (l.getD i 0 = x)) (by simpa using he)]
   have ih' := ih (i + 1) m (by omega) (by omega)
   rw [show ((i + 1 : Nat) : Int) = (i : Int) + 1 by omega] at ih'
   clear ih
   rw [F2]
   simp only [HH,Try.f119,SLM,simprocAttr]
   simp -implicitDefEqProofs (maxSteps := 2000000) (disch := try exact Dz) only [↓DN,↓kAsg,↓kRet,UP,simprocAttr,hc,hi0,he,Int.toNat_natCast,↓ih']
theorem aEO {L n : Nat} (hn : 2 ≤ n) (l : List Int) (x : Int) (hl : l.length ≤ 4294967290) (hL : 2 ^ 60 ≤ L) : aA env L n 119 [.d (.ivs l.length (ints l)),.d (.int .i64 x)] [] = some (.d (.bool (decide (x ∈ l))),[]) := by
 have loop_c := fun {R : Type} {n : Nat} {k : Exit → List A → H → Option R} (hn : 1 ≤ n) => @aIb R L n hn l x hl k l.length 0 L (by omega) (by omega)
 simp only [Int.natCast_zero] at loop_c
 cases hs : seek (fun i => decide (l.getD i 0 = x)) l.length 0 with
 | none =>
  have hx : ¬ x ∈ l := by
   intro hx
   obtain ⟨q,hq,e⟩ := List.getElem_of_mem hx
   have := t7.1 hs q (by omega) (by omega)
   simp only [decide_eq_false_iff_not] at this
   exact this (by rw [List.getD_eq_getElem?_getD,List.getElem?_eq_getElem hq,e]; rfl)
  simp only [hs] at loop_c
  obtain _ | n := n; omega
  rw [aEy]
  simp only [aAf,Try.f119,SLM,simprocAttr]
  simp -implicitDefEqProofs (maxSteps := 2000000) (disch := try exact Dz) only [↓DN,↓kAsg,↓kRet,UP,simprocAttr,↓loop_c,hx]
 | some q =>
  obtain ⟨h1,h2,h3,_⟩ := M0 hs
  have hx : x ∈ l := by
   simp only [decide_eq_true_eq] at h3
   rw [← h3]
   exact oO (by omega)
  simp only [hs] at loop_c
  obtain _ | n := n; omega
  rw [aEy]
  simp only [aAf,Try.f119,SLM,simprocAttr]
  simp -implicitDefEqProofs (maxSteps := 2000000) (disch := try exact Dz) only [↓DN,↓kAsg,↓kRet,UP,simprocAttr,↓loop_c,hx]
theorem j8 {R : Type} {L n : Nat} {hq : H} {k : A → H → Option R} (hn : 2 ≤ n) (l : List Int) (x : Int) (hl : l.length ≤ 4294967290) (hL : 2 ^ 60 ≤ L) : aM env (aA env L n) hq 119 [.d (.ivs l.length (ints l)),.d (.int .i64 x)] k = k (.d (.bool (decide (x ∈ l)))) hq :=
 aX rfl (aEO hn l x hl hL) rfl (.inl rfl)
theorem oB {R : Type} {L n : Nat} {k : A → Option R} (hn : 2 ≤ n) (l : List Int) (x : Int) (hl : l.length ≤ 4294967290) (hL : 2 ^ 60 ≤ L) : bH (aA env L n) 119 [.d (.ivs l.length (ints l)),.d (.int .i64 x)] k = k (.d (.bool (decide (x ∈ l)))) :=
 fB (aEO hn l x hl hL) rfl
theorem gW {R : Type} {L n : Nat} {hq : H} {k : A → H → Option R} {id0 g0 o0 len0 : Nat} {x : Int} : aM env (aA env L n) hq 119 [.sl id0 g0 o0 len0,.d (.int .i64 x)] k = match box (c7 hq [.sl id0 g0 o0 len0,.d (.int .i64 x)]) with
  | .mk (some fs) => bH (aA env L n) 119 fs fun r => k r hq
  | _ => none := aW NI
def QM (dist r : List Int) (d : Int) : Nat → Bool := fun i => decide (dist.getD (r.getD i 0).toNat 0 = d)
def L3 (dist : List Int) (mvs : List (List Int)) (d : Int) : Nat → Bool := fun k => (seek (QM dist (mvs.getD k []) d) (mvs.getD k []).length 0).isSome
theorem aHc {α : Type} {l : List α} {p : α → Bool} {q : Nat → Bool} {x : α} (hq : ∀ i,i < l.length → q i = p (l.getD i x)) : (seek q l.length 0).isSome = l.any p := by
 rw [Bool.eq_iff_iff,Option.isSome_iff_exists,List.any_eq_true]
 constructor
 ·rintro ⟨r,hr⟩
  obtain ⟨_,h2,h3,_⟩ := M0 hr
  refine ⟨l.getD r x,?_,by rw [← hq r (by omega)]; exact h3⟩
  rw [List.getD_eq_getElem?_getD,List.getElem?_eq_getElem (by omega)]
  exact List.getElem_mem (by omega)
 ·rintro ⟨y,hy,hp⟩
  obtain ⟨r,hr,e⟩ := List.getElem_of_mem hy
  cases hs : seek q l.length 0 with
  | some z => exact ⟨z,rfl⟩
  | none =>
   have := t7.1 hs r (by omega) (by omega)
   rw [hq r hr,List.getD_eq_getElem?_getD,List.getElem?_eq_getElem hr,Option.getD_some,e,hp] at this
   cases this
theorem aK6 {dist : List Int} {mvs : List (List Int)} {d : Int} : (seek (L3 dist mvs d) mvs.length 0).isSome = D9 mvs dist d := by
 unfold D9
 refine aHc (x := []) fun k hk => ?_
 unfold L3
 exact aHc (x := 0) fun i hi => rfl
theorem aA8 {R : Type} {L n : Nat} (hn : 1 ≤ n) {mvs : List (List Int)} {dist : List Int} {d : Int} {q : Nat} (hq : q < mvs.length) (hl : mvs.length ≤ 4294967290) (hr : (mvs.getD q []).length ≤ 4294967290) (hd : dist.length ≤ 4294967290) (hm' : ∀ x ∈ mvs.getD q [],0 ≤ x ∧ x < dist.length) {k : Exit → List A → H → Option R} : ∀ (j i m : Nat) (hi : i + j = (mvs.getD q []).length) (hm : j < m),
  aO env (aA env L n) L 0 [] (U2 (U1 (Z2 (Z1 (U2 (U1 (Z16 (Z8 (Z2 (Z1 ([]))))))))))) (mN 1) (Z2 (Z1 (U2 (U1 (Z2 (Z1 (U16 (U8 (U2 (U1 ([]))))))))))) m (.d (.ivs mvs.length (aK mvs)) :: .d (.ivs dist.length (ints dist)) :: .d (.int .i64 d) :: Y2 (Y1 (.d (.bool false) :: .d (.int .i64 ((q : Int))) :: .d (.int .i64 ((i : Int))) :: Y16 (Y8 (Y2 (Y1 ([]))))))) [] k
  = match seek (QM dist (mvs.getD q []) d) j i with
   | none => k (.exit 2) (.d (.ivs mvs.length (aK mvs)) :: .d (.ivs dist.length (ints dist)) :: .d (.int .i64 d) :: Y2 (Y1 (.d (.bool false) :: .d (.int .i64 ((q : Int))) :: .d (.int .i64 ((mvs.getD q []).length)) :: Y16 (Y8 (Y2 (Y1 ([]))))))) []
   | some r => k .ret (.d (.ivs mvs.length (aK mvs)) :: .d (.ivs dist.length (ints dist)) :: .d (.int .i64 d) :: Y2 (Y1 (.d (.bool true) :: .d (.int .i64 ((q : Int))) :: .d (.int .i64 ((r : Int))) :: Y16 (Y8 (Y2 (Y1 ([]))))))) [] := by
 intro j
 have hcq : (q : Int) < mvs.length := by omega
 have hq0 : (0 : Int) ≤ q := by omega
 induction j with
 | zero =>
  intro i m hi hm
  obtain _ | m := m; omega
  obtain rfl : i = (mvs.getD q []).length := by omega
  rw [BS]
  simp only [zV,Try.f141,SLM,simprocAttr]
  simp -implicitDefEqProofs (maxSteps := 2000000) (disch := try exact Dz) only [↓DN,↓kAsg,↓kRet,UP,simprocAttr,LA,hcq,hq0,Int.toNat_natCast,Int.lt_irrefl]
  rfl
 | succ j ih =>
  intro i m hi hm
  obtain _ | m := m; omega
  have hk : i < (mvs.getD q []).length := by omega
  have hc : (i : Int) < (mvs.getD q []).length := by omega
  have hi0 : (0 : Int) ≤ i := by omega
  obtain ⟨b1,b2⟩ := hm' _ (oO hk)
  have b3 : ((mvs.getD q []).getD i 0).toNat < dist.length := by omega
  by_cases he : dist.getD ((mvs.getD q []).getD i 0).toNat 0 = d
  ·rw [pU (p := QM dist (mvs.getD q []) d) (by simpa [QM] using he)]
   rw [BS]
   simp only [zV,Try.f141,SLM,simprocAttr]
   simp -implicitDefEqProofs (maxSteps := 2000000) (disch := try exact Dz) only [↓DN,↓kAsg,↓kRet,UP,simprocAttr,LA,hcq,hq0,hc,hi0,b1,b2,he,Int.toNat_natCast]
  ·rw [uU (p := QM dist (mvs.getD q []) d) (by simpa [QM] using he)]
   have ih' := ih (i + 1) m (by omega) (by omega)
   rw [show ((i + 1 : Nat) : Int) = (i : Int) + 1 by omega] at ih'
   clear ih
   rw [BS]
   simp only [zV,Try.f141,SLM,simprocAttr]
   simp -implicitDefEqProofs (maxSteps := 2000000) (disch := try exact Dz) only [↓DN,↓kAsg,↓kRet,UP,simprocAttr,LA,hcq,hq0,hc,hi0,b1,b2,he,Int.toNat_natCast,↓ih']
theorem aA1 {R : Type} {L n : Nat} (hn : 1 ≤ n) (hL : 2 ^ 60 ≤ L) {mvs : List (List Int)} {dist : List Int} {d : Int} (hl : mvs.length ≤ 4294967290) (hr : ∀ r ∈ mvs,r.length ≤ 4294967290 ∧ ∀ x ∈ r,0 ≤ x ∧ x < dist.length) (hd : dist.length ≤ 4294967290) {k : Exit → List A → H → Option R} : ∀ (j q m : Nat) (hi : q + j = mvs.length) (hm : j < m),
  aO env (aA env L n) L 0 [] (U2 (U1 (Z2 (Z1 (U2 (U1 (Z16 (Z8 (Z2 (Z1 ([]))))))))))) (mN 0) (Z2 (Z1 (U2 (U1 (Z2 (U16 (U8 (U4 ([]))))))))) m (.d (.ivs mvs.length (aK mvs)) :: .d (.ivs dist.length (ints dist)) :: .d (.int .i64 d) :: Y2 (Y1 (.d (.bool false) :: .d (.int .i64 ((q : Int))) :: Y16 (Y8 (Y4 ([])))))) [] k
  = match seek (L3 dist mvs d) j q with
   | none => k (.exit 0) (.d (.ivs mvs.length (aK mvs)) :: .d (.ivs dist.length (ints dist)) :: .d (.int .i64 d) :: Y2 (Y1 (.d (.bool false) :: .d (.int .i64 (mvs.length)) :: Y16 (Y8 (Y4 ([])))))) []
   | some r => k .ret (.d (.ivs mvs.length (aK mvs)) :: .d (.ivs dist.length (ints dist)) :: .d (.int .i64 d) :: Y2 (Y1 (.d (.bool true) :: .d (.int .i64 ((r : Int))) :: Y16 (Y8 (Y4 ([])))))) [] := by
 intro j
 induction j with
 | zero =>
  intro q m hi hm
  obtain _ | m := m; omega
  obtain rfl : q = mvs.length := by omega
  rw [AV]
  simp only [BP,Try.f141,SLM,simprocAttr]
  simp -implicitDefEqProofs (maxSteps := 2000000) (disch := try exact Dz) only [↓DN,↓kAsg,↓kRet,UP,simprocAttr,LA,Int.lt_irrefl]
  rfl
 | succ j ih =>
  intro q m hi hm
  obtain _ | m := m; omega
  have hk : q < mvs.length := by omega
  have hc : (q : Int) < mvs.length := by omega
  have hq0 : (0 : Int) ≤ q := by omega
  have hmem : mvs.getD q [] ∈ mvs := by rw [List.getD_eq_getElem?_getD,List.getElem?_eq_getElem hk]; exact List.getElem_mem hk
  obtain ⟨r1,r2⟩ := hr _ hmem
  have loop_c := fun {R : Type} {n : Nat} {k : Exit → List A → H → Option R} (hn : 1 ≤ n) => @aA8 R L n hn mvs dist d q hk hl r1 hd r2 k (mvs.getD q []).length 0 L (by omega) (by omega)
  simp only [Int.natCast_zero] at loop_c
  cases hs : seek (QM dist (mvs.getD q []) d) (mvs.getD q []).length 0 with
  | some z =>
   rw [pU (p := L3 dist mvs d) (by unfold L3; rw [hs]; rfl)]
   simp only [hs] at loop_c
   rw [AV]
   simp only [BP,Try.f141,SLM,simprocAttr]
   simp -implicitDefEqProofs (maxSteps := 2000000) (disch := try exact Dz) only [↓DN,↓kAsg,↓kRet,UP,simprocAttr,LA,hc,hq0,Int.toNat_natCast,↓loop_c]
  | none =>
   rw [uU (p := L3 dist mvs d) (by unfold L3; rw [hs]; rfl)]
   simp only [hs] at loop_c
   have ih' := ih (q + 1) m (by omega) (by omega)
   rw [show ((q + 1 : Nat) : Int) = (q : Int) + 1 by omega] at ih'
   clear ih
   rw [AV]
   simp only [BP,Try.f141,SLM,simprocAttr]
   simp -implicitDefEqProofs (maxSteps := 2000000) (disch := try exact Dz) only [↓DN,↓kAsg,↓kRet,UP,simprocAttr,LA,hc,hq0,Int.toNat_natCast,↓loop_c,↓ih']
theorem ZX {L n : Nat} (hn : 2 ≤ n) (mvs : List (List Int)) (dist : List Int) (d : Int) (hl : mvs.length ≤ 4294967290) (hr : ∀ r ∈ mvs,r.length ≤ 4294967290 ∧ ∀ x ∈ r,0 ≤ x ∧ x < dist.length) (hd : dist.length ≤ 4294967290) (hL : 2 ^ 60 ≤ L) : aA env L n 141 [.d (.ivs mvs.length (aK mvs)),.d (.ivs dist.length (ints dist)),.d (.int .i64 d)] [] = some (.d (.bool (D9 mvs dist d)),[]) := by
 have loop_c := fun {R : Type} {n : Nat} {k : Exit → List A → H → Option R} (hn : 1 ≤ n) => @aA1 R L n hn hL mvs dist d hl hr hd k mvs.length 0 L (by omega) (by omega)
 simp only [Int.natCast_zero] at loop_c
 rw [← aK6]
 cases hs : seek (L3 dist mvs d) mvs.length 0 with
 | none =>
  simp only [hs] at loop_c
  obtain _ | n := n; omega
  rw [ZC]
  simp only [QS,Try.f141,SLM,simprocAttr]
  simp -implicitDefEqProofs (maxSteps := 2000000) (disch := try exact Dz) only [↓DN,↓kAsg,↓kRet,UP,simprocAttr,↓loop_c,Option.isSome_none]
 | some q =>
  simp only [hs] at loop_c
  obtain _ | n := n; omega
  rw [ZC]
  simp only [QS,Try.f141,SLM,simprocAttr]
  simp -implicitDefEqProofs (maxSteps := 2000000) (disch := try exact Dz) only [↓DN,↓kAsg,↓kRet,UP,simprocAttr,↓loop_c,Option.isSome_some]
theorem n8 {R : Type} {L n : Nat} {hq : H} {k : A → H → Option R} (hn : 2 ≤ n) (mvs : List (List Int)) (dist : List Int) (d : Int) (hl : mvs.length ≤ 4294967290) (hr : ∀ r ∈ mvs,r.length ≤ 4294967290 ∧ ∀ x ∈ r,0 ≤ x ∧ x < dist.length) (hd : dist.length ≤ 4294967290) (hL : 2 ^ 60 ≤ L) : aM env (aA env L n) hq 141 [.d (.ivs mvs.length (aK mvs)),.d (.ivs dist.length (ints dist)),.d (.int .i64 d)] k = k (.d (.bool (D9 mvs dist d))) hq :=
 aX rfl (ZX hn mvs dist d hl hr hd hL) rfl (.inl rfl)
theorem sO {R : Type} {L n : Nat} {k : A → Option R} (hn : 2 ≤ n) (mvs : List (List Int)) (dist : List Int) (d : Int) (hl : mvs.length ≤ 4294967290) (hr : ∀ r ∈ mvs,r.length ≤ 4294967290 ∧ ∀ x ∈ r,0 ≤ x ∧ x < dist.length) (hd : dist.length ≤ 4294967290) (hL : 2 ^ 60 ≤ L) : bH (aA env L n) 141 [.d (.ivs mvs.length (aK mvs)),.d (.ivs dist.length (ints dist)),.d (.int .i64 d)] k = k (.d (.bool (D9 mvs dist d))) :=
 fB (ZX hn mvs dist d hl hr hd hL) rfl
theorem lJ {R : Type} {L n : Nat} {hq : H} {k : A → H → Option R} {id0 g0 o0 len0 : Nat} {dist : List Int} {d : Int} : aM env (aA env L n) hq 141 [.sl id0 g0 o0 len0,.d (.ivs dist.length (ints dist)),.d (.int .i64 d)] k = match box (c7 hq [.sl id0 g0 o0 len0,.d (.ivs dist.length (ints dist)),.d (.int .i64 d)]) with
  | .mk (some fs) => bH (aA env L n) 141 fs fun r => k r hq
  | _ => none := aW sN
theorem lP {R : Type} {L n : Nat} {hq : H} {k : A → H → Option R} {id1 g1 o1 len1 : Nat} {mvs : List (List Int)} {d : Int} : aM env (aA env L n) hq 141 [.d (.ivs mvs.length (aK mvs)),.sl id1 g1 o1 len1,.d (.int .i64 d)] k = match box (c7 hq [.d (.ivs mvs.length (aK mvs)),.sl id1 g1 o1 len1,.d (.int .i64 d)]) with
  | .mk (some fs) => bH (aA env L n) 141 fs fun r => k r hq
  | _ => none := aW sN
theorem lO {R : Type} {L n : Nat} {hq : H} {k : A → H → Option R} {id1 g1 o1 len1 : Nat} {id0 g0 o0 len0 : Nat} {d : Int} : aM env (aA env L n) hq 141 [.sl id0 g0 o0 len0,.sl id1 g1 o1 len1,.d (.int .i64 d)] k = match box (c7 hq [.sl id0 g0 o0 len0,.sl id1 g1 o1 len1,.d (.int .i64 d)]) with
  | .mk (some fs) => bH (aA env L n) 141 fs fun r => k r hq
  | _ => none := aW sN
theorem aNn {L n : Nat} (hn : 1 ≤ n) (N : Net) (states : List Int) (i : Nat) (hi : i < N.us.length) (h1 : N.ps.length ≤ 1000) (h2 : N.us.length ≤ 1000) (hs : N.ps.length + i < states.length) (hs2 : states.length ≤ 4000) (ha : (N.us.getD i default).ac.length ≤ 4294967290) (hq0 : 0 ≤ states.getD (N.ps.length + i) 0) (hq1 : states.getD (N.ps.length + i) 0 < (N.us.getD i default).ac.length) (hL : 2 ^ 60 ≤ L) : aA env L n 140 [.agg [.d (.ivs N.ps.length (sysD N.ps)),.d (.ivs N.us.length (eO N.us)),.d (.ivs N.start.length (ints N.start)),.d (.int .i64 N.ls),.d (.int .i64 N.kind),.d (.int .i64 N.goal)],.d (.ivs states.length (ints states)),.d (.int .i64 (i : Int))] [] = some (.d (.bool (okN N states i)),[]) := by
 have g := aR7 hi
 have e1 : IntKind.i64.wrap ((N.ps.length : Int) + i) = ((N.ps.length + i : Nat) : Int) := by
  rw [show (N.ps.length : Int) + i = ((N.ps.length + i : Nat) : Int) by omega]
  exact FO (by omega) (by omega)
 have hc1 : ((N.ps.length + i : Nat) : Int) < states.length := by omega
 have hc2 : (0 : Int) ≤ ((N.ps.length + i : Nat) : Int) := by omega
 have hi0 : (0 : Int) ≤ i := by omega
 have hi1 : (i : Int) < N.us.length := by omega
 have hq3 : (states.getD (N.ps.length + i) 0).toNat < (N.us.getD i default).ac.length := by omega
 unfold okN
 generalize N.us.getD i default = a at *
 generalize hz : N.ps.length + i = z at *
 obtain _ | n := n; omega
 rw [aNA]
 simp only [aGr,Try.f140,SLM,simprocAttr]
 simp -implicitDefEqProofs (maxSteps := 2000000) (disch := try exact Dz) only [↓DN,↓kAsg,↓kRet,UP,simprocAttr,NE,LA,List.length_map,List.length_drop,List.drop_drop,hi0,hi1,g,e1,hc1,hc2,hq0,hq1,hq3,Int.toNat_natCast]
theorem aLf {R : Type} {L n : Nat} {k : A → Option R} (hn : 1 ≤ n) (N : Net) (states : List Int) (i : Nat) (hi : i < N.us.length) (h1 : N.ps.length ≤ 1000) (h2 : N.us.length ≤ 1000) (hs : N.ps.length + i < states.length) (hs2 : states.length ≤ 4000) (ha : (N.us.getD i default).ac.length ≤ 4294967290) (hq0 : 0 ≤ states.getD (N.ps.length + i) 0) (hq1 : states.getD (N.ps.length + i) 0 < (N.us.getD i default).ac.length) (hL : 2 ^ 60 ≤ L) : bH (aA env L n) 140 [.agg [.d (.ivs N.ps.length (sysD N.ps)),.d (.ivs N.us.length (eO N.us)),.d (.ivs N.start.length (ints N.start)),.d (.int .i64 N.ls),.d (.int .i64 N.kind),.d (.int .i64 N.goal)],.d (.ivs states.length (ints states)),.d (.int .i64 (i : Int))] k = k (.d (.bool (okN N states i))) :=
 fB (aNn hn N states i hi h1 h2 hs hs2 ha hq0 hq1 hL) rfl
theorem aIh {R : Type} {L n : Nat} {hq : H} {k : A → H → Option R} {id0 g0 o0 len0 : Nat} {N : Net} {states : List Int} {i : Nat} : aM env (aA env L n) hq 140 [.agg [.sl id0 g0 o0 len0,.d (.ivs N.us.length (eO N.us)),.d (.ivs N.start.length (ints N.start)),.d (.int .i64 N.ls),.d (.int .i64 N.kind),.d (.int .i64 N.goal)],.d (.ivs states.length (ints states)),.d (.int .i64 (i : Int))] k = match box (c7 hq [.agg [.sl id0 g0 o0 len0,.d (.ivs N.us.length (eO N.us)),.d (.ivs N.start.length (ints N.start)),.d (.int .i64 N.ls),.d (.int .i64 N.kind),.d (.int .i64 N.goal)],.d (.ivs states.length (ints states)),.d (.int .i64 (i : Int))]) with
  | .mk (some fs) => bH (aA env L n) 140 fs fun r => k r hq
  | _ => none := aW eC
theorem aIN {R : Type} {L n : Nat} {hq : H} {k : A → H → Option R} {id1 g1 o1 len1 : Nat} {N : Net} {states : List Int} {i : Nat} : aM env (aA env L n) hq 140 [.agg [.d (.ivs N.ps.length (sysD N.ps)),.sl id1 g1 o1 len1,.d (.ivs N.start.length (ints N.start)),.d (.int .i64 N.ls),.d (.int .i64 N.kind),.d (.int .i64 N.goal)],.d (.ivs states.length (ints states)),.d (.int .i64 (i : Int))] k = match box (c7 hq [.agg [.d (.ivs N.ps.length (sysD N.ps)),.sl id1 g1 o1 len1,.d (.ivs N.start.length (ints N.start)),.d (.int .i64 N.ls),.d (.int .i64 N.kind),.d (.int .i64 N.goal)],.d (.ivs states.length (ints states)),.d (.int .i64 (i : Int))]) with
  | .mk (some fs) => bH (aA env L n) 140 fs fun r => k r hq
  | _ => none := aW eC
theorem aIE {R : Type} {L n : Nat} {hq : H} {k : A → H → Option R} {id1 g1 o1 len1 : Nat} {id0 g0 o0 len0 : Nat} {N : Net} {states : List Int} {i : Nat} : aM env (aA env L n) hq 140 [.agg [.sl id0 g0 o0 len0,.sl id1 g1 o1 len1,.d (.ivs N.start.length (ints N.start)),.d (.int .i64 N.ls),.d (.int .i64 N.kind),.d (.int .i64 N.goal)],.d (.ivs states.length (ints states)),.d (.int .i64 (i : Int))] k = match box (c7 hq [.agg [.sl id0 g0 o0 len0,.sl id1 g1 o1 len1,.d (.ivs N.start.length (ints N.start)),.d (.int .i64 N.ls),.d (.int .i64 N.kind),.d (.int .i64 N.goal)],.d (.ivs states.length (ints states)),.d (.int .i64 (i : Int))]) with
  | .mk (some fs) => bH (aA env L n) 140 fs fun r => k r hq
  | _ => none := aW eC
theorem aI1 {R : Type} {L n : Nat} {hq : H} {k : A → H → Option R} {id2 g2 o2 len2 : Nat} {N : Net} {states : List Int} {i : Nat} : aM env (aA env L n) hq 140 [.agg [.d (.ivs N.ps.length (sysD N.ps)),.d (.ivs N.us.length (eO N.us)),.sl id2 g2 o2 len2,.d (.int .i64 N.ls),.d (.int .i64 N.kind),.d (.int .i64 N.goal)],.d (.ivs states.length (ints states)),.d (.int .i64 (i : Int))] k = match box (c7 hq [.agg [.d (.ivs N.ps.length (sysD N.ps)),.d (.ivs N.us.length (eO N.us)),.sl id2 g2 o2 len2,.d (.int .i64 N.ls),.d (.int .i64 N.kind),.d (.int .i64 N.goal)],.d (.ivs states.length (ints states)),.d (.int .i64 (i : Int))]) with
  | .mk (some fs) => bH (aA env L n) 140 fs fun r => k r hq
  | _ => none := aW eC
theorem aIG {R : Type} {L n : Nat} {hq : H} {k : A → H → Option R} {id2 g2 o2 len2 : Nat} {id0 g0 o0 len0 : Nat} {N : Net} {states : List Int} {i : Nat} : aM env (aA env L n) hq 140 [.agg [.sl id0 g0 o0 len0,.d (.ivs N.us.length (eO N.us)),.sl id2 g2 o2 len2,.d (.int .i64 N.ls),.d (.int .i64 N.kind),.d (.int .i64 N.goal)],.d (.ivs states.length (ints states)),.d (.int .i64 (i : Int))] k = match box (c7 hq [.agg [.sl id0 g0 o0 len0,.d (.ivs N.us.length (eO N.us)),.sl id2 g2 o2 len2,.d (.int .i64 N.ls),.d (.int .i64 N.kind),.d (.int .i64 N.goal)],.d (.ivs states.length (ints states)),.d (.int .i64 (i : Int))]) with
  | .mk (some fs) => bH (aA env L n) 140 fs fun r => k r hq
  | _ => none := aW eC
theorem aII {R : Type} {L n : Nat} {hq : H} {k : A → H → Option R} {id2 g2 o2 len2 : Nat} {id1 g1 o1 len1 : Nat} {N : Net} {states : List Int} {i : Nat} : aM env (aA env L n) hq 140 [.agg [.d (.ivs N.ps.length (sysD N.ps)),.sl id1 g1 o1 len1,.sl id2 g2 o2 len2,.d (.int .i64 N.ls),.d (.int .i64 N.kind),.d (.int .i64 N.goal)],.d (.ivs states.length (ints states)),.d (.int .i64 (i : Int))] k = match box (c7 hq [.agg [.d (.ivs N.ps.length (sysD N.ps)),.sl id1 g1 o1 len1,.sl id2 g2 o2 len2,.d (.int .i64 N.ls),.d (.int .i64 N.kind),.d (.int .i64 N.goal)],.d (.ivs states.length (ints states)),.d (.int .i64 (i : Int))]) with
  | .mk (some fs) => bH (aA env L n) 140 fs fun r => k r hq
  | _ => none := aW eC
theorem aIi {R : Type} {L n : Nat} {hq : H} {k : A → H → Option R} {id2 g2 o2 len2 : Nat} {id1 g1 o1 len1 : Nat} {id0 g0 o0 len0 : Nat} {N : Net} {states : List Int} {i : Nat} : aM env (aA env L n) hq 140 [.agg [.sl id0 g0 o0 len0,.sl id1 g1 o1 len1,.sl id2 g2 o2 len2,.d (.int .i64 N.ls),.d (.int .i64 N.kind),.d (.int .i64 N.goal)],.d (.ivs states.length (ints states)),.d (.int .i64 (i : Int))] k = match box (c7 hq [.agg [.sl id0 g0 o0 len0,.sl id1 g1 o1 len1,.sl id2 g2 o2 len2,.d (.int .i64 N.ls),.d (.int .i64 N.kind),.d (.int .i64 N.goal)],.d (.ivs states.length (ints states)),.d (.int .i64 (i : Int))]) with
  | .mk (some fs) => bH (aA env L n) 140 fs fun r => k r hq
  | _ => none := aW eC
theorem aIC {R : Type} {L n : Nat} {hq : H} {k : A → H → Option R} {id3 g3 o3 len3 : Nat} {N : Net} {i : Nat} : aM env (aA env L n) hq 140 [.agg [.d (.ivs N.ps.length (sysD N.ps)),.d (.ivs N.us.length (eO N.us)),.d (.ivs N.start.length (ints N.start)),.d (.int .i64 N.ls),.d (.int .i64 N.kind),.d (.int .i64 N.goal)],.sl id3 g3 o3 len3,.d (.int .i64 (i : Int))] k = match box (c7 hq [.agg [.d (.ivs N.ps.length (sysD N.ps)),.d (.ivs N.us.length (eO N.us)),.d (.ivs N.start.length (ints N.start)),.d (.int .i64 N.ls),.d (.int .i64 N.kind),.d (.int .i64 N.goal)],.sl id3 g3 o3 len3,.d (.int .i64 (i : Int))]) with
  | .mk (some fs) => bH (aA env L n) 140 fs fun r => k r hq
  | _ => none := aW eC
theorem aIl {R : Type} {L n : Nat} {hq : H} {k : A → H → Option R} {id3 g3 o3 len3 : Nat} {id0 g0 o0 len0 : Nat} {N : Net} {i : Nat} : aM env (aA env L n) hq 140 [.agg [.sl id0 g0 o0 len0,.d (.ivs N.us.length (eO N.us)),.d (.ivs N.start.length (ints N.start)),.d (.int .i64 N.ls),.d (.int .i64 N.kind),.d (.int .i64 N.goal)],.sl id3 g3 o3 len3,.d (.int .i64 (i : Int))] k = match box (c7 hq [.agg [.sl id0 g0 o0 len0,.d (.ivs N.us.length (eO N.us)),.d (.ivs N.start.length (ints N.start)),.d (.int .i64 N.ls),.d (.int .i64 N.kind),.d (.int .i64 N.goal)],.sl id3 g3 o3 len3,.d (.int .i64 (i : Int))]) with
  | .mk (some fs) => bH (aA env L n) 140 fs fun r => k r hq
  | _ => none := aW eC
theorem aHp {R : Type} {L n : Nat} {hq : H} {k : A → H → Option R} {id3 g3 o3 len3 : Nat} {id1 g1 o1 len1 : Nat} {N : Net} {i : Nat} : aM env (aA env L n) hq 140 [.agg [.d (.ivs N.ps.length (sysD N.ps)),.sl id1 g1 o1 len1,.d (.ivs N.start.length (ints N.start)),.d (.int .i64 N.ls),.d (.int .i64 N.kind),.d (.int .i64 N.goal)],.sl id3 g3 o3 len3,.d (.int .i64 (i : Int))] k = match box (c7 hq [.agg [.d (.ivs N.ps.length (sysD N.ps)),.sl id1 g1 o1 len1,.d (.ivs N.start.length (ints N.start)),.d (.int .i64 N.ls),.d (.int .i64 N.kind),.d (.int .i64 N.goal)],.sl id3 g3 o3 len3,.d (.int .i64 (i : Int))]) with
  | .mk (some fs) => bH (aA env L n) 140 fs fun r => k r hq
  | _ => none := aW eC
theorem aGm {R : Type} {L n : Nat} {hq : H} {k : A → H → Option R} {id3 g3 o3 len3 : Nat} {id1 g1 o1 len1 : Nat} {id0 g0 o0 len0 : Nat} {N : Net} {i : Nat} : aM env (aA env L n) hq 140 [.agg [.sl id0 g0 o0 len0,.sl id1 g1 o1 len1,.d (.ivs N.start.length (ints N.start)),.d (.int .i64 N.ls),.d (.int .i64 N.kind),.d (.int .i64 N.goal)],.sl id3 g3 o3 len3,.d (.int .i64 (i : Int))] k = match box (c7 hq [.agg [.sl id0 g0 o0 len0,.sl id1 g1 o1 len1,.d (.ivs N.start.length (ints N.start)),.d (.int .i64 N.ls),.d (.int .i64 N.kind),.d (.int .i64 N.goal)],.sl id3 g3 o3 len3,.d (.int .i64 (i : Int))]) with
  | .mk (some fs) => bH (aA env L n) 140 fs fun r => k r hq
  | _ => none := aW eC
theorem aHg {R : Type} {L n : Nat} {hq : H} {k : A → H → Option R} {id3 g3 o3 len3 : Nat} {id2 g2 o2 len2 : Nat} {N : Net} {i : Nat} : aM env (aA env L n) hq 140 [.agg [.d (.ivs N.ps.length (sysD N.ps)),.d (.ivs N.us.length (eO N.us)),.sl id2 g2 o2 len2,.d (.int .i64 N.ls),.d (.int .i64 N.kind),.d (.int .i64 N.goal)],.sl id3 g3 o3 len3,.d (.int .i64 (i : Int))] k = match box (c7 hq [.agg [.d (.ivs N.ps.length (sysD N.ps)),.d (.ivs N.us.length (eO N.us)),.sl id2 g2 o2 len2,.d (.int .i64 N.ls),.d (.int .i64 N.kind),.d (.int .i64 N.goal)],.sl id3 g3 o3 len3,.d (.int .i64 (i : Int))]) with
  | .mk (some fs) => bH (aA env L n) 140 fs fun r => k r hq
  | _ => none := aW eC
theorem aGI {R : Type} {L n : Nat} {hq : H} {k : A → H → Option R} {id3 g3 o3 len3 : Nat} {id2 g2 o2 len2 : Nat} {id0 g0 o0 len0 : Nat} {N : Net} {i : Nat} : aM env (aA env L n) hq 140 [.agg [.sl id0 g0 o0 len0,.d (.ivs N.us.length (eO N.us)),.sl id2 g2 o2 len2,.d (.int .i64 N.ls),.d (.int .i64 N.kind),.d (.int .i64 N.goal)],.sl id3 g3 o3 len3,.d (.int .i64 (i : Int))] k = match box (c7 hq [.agg [.sl id0 g0 o0 len0,.d (.ivs N.us.length (eO N.us)),.sl id2 g2 o2 len2,.d (.int .i64 N.ls),.d (.int .i64 N.kind),.d (.int .i64 N.goal)],.sl id3 g3 o3 len3,.d (.int .i64 (i : Int))]) with
  | .mk (some fs) => bH (aA env L n) 140 fs fun r => k r hq
  | _ => none := aW eC
theorem aGc {R : Type} {L n : Nat} {hq : H} {k : A → H → Option R} {id3 g3 o3 len3 : Nat} {id2 g2 o2 len2 : Nat} {id1 g1 o1 len1 : Nat} {N : Net} {i : Nat} : aM env (aA env L n) hq 140 [.agg [.d (.ivs N.ps.length (sysD N.ps)),.sl id1 g1 o1 len1,.sl id2 g2 o2 len2,.d (.int .i64 N.ls),.d (.int .i64 N.kind),.d (.int .i64 N.goal)],.sl id3 g3 o3 len3,.d (.int .i64 (i : Int))] k = match box (c7 hq [.agg [.d (.ivs N.ps.length (sysD N.ps)),.sl id1 g1 o1 len1,.sl id2 g2 o2 len2,.d (.int .i64 N.ls),.d (.int .i64 N.kind),.d (.int .i64 N.goal)],.sl id3 g3 o3 len3,.d (.int .i64 (i : Int))]) with
  | .mk (some fs) => bH (aA env L n) 140 fs fun r => k r hq
  | _ => none := aW eC
theorem aGv {R : Type} {L n : Nat} {hq : H} {k : A → H → Option R} {id3 g3 o3 len3 : Nat} {id2 g2 o2 len2 : Nat} {id1 g1 o1 len1 : Nat} {id0 g0 o0 len0 : Nat} {N : Net} {i : Nat} : aM env (aA env L n) hq 140 [.agg [.sl id0 g0 o0 len0,.sl id1 g1 o1 len1,.sl id2 g2 o2 len2,.d (.int .i64 N.ls),.d (.int .i64 N.kind),.d (.int .i64 N.goal)],.sl id3 g3 o3 len3,.d (.int .i64 (i : Int))] k = match box (c7 hq [.agg [.sl id0 g0 o0 len0,.sl id1 g1 o1 len1,.sl id2 g2 o2 len2,.d (.int .i64 N.ls),.d (.int .i64 N.kind),.d (.int .i64 N.goal)],.sl id3 g3 o3 len3,.d (.int .i64 (i : Int))]) with
  | .mk (some fs) => bH (aA env L n) 140 fs fun r => k r hq
  | _ => none := aW eC
theorem OA {L n : Nat} (hn : 5 ≤ n) (N : Net) (i : Nat) (q l : Int) (hi : N.ps.length ≤ i) (hi2 : i - N.ps.length < N.us.length) (h1 : N.ps.length ≤ 1000) (h2 : N.us.length ≤ 1000) (u : Aut) (hu : N.us.getD (i - N.ps.length) default = u) (hs : a7 u.nx) (hw : oR (aC u.al).length u.nx) (hq0 : 0 ≤ q) (hq1 : q < u.nx.length) (h0 : 0 ≤ l) (h6 : l < 6) (hL : 2 ^ 60 ≤ L) : aA env L n 152 [.agg [.d (.ivs N.ps.length (sysD N.ps)),.d (.ivs N.us.length (eO N.us)),.d (.ivs N.start.length (ints N.start)),.d (.int .i64 N.ls),.d (.int .i64 N.kind),.d (.int .i64 N.goal)],.d (.int .i64 (i : Int)),.d (.int .i64 q),.d (.int .i64 l)] [] = some (.d (.ivs 1 (ints [goI u.al u.nx q l])),[]) := by
 have g := aRG hi2
 rw [hu] at g
 have e1 : IntKind.i64.wrap ((i : Int) - N.ps.length) = ((i - N.ps.length : Nat) : Int) := by
  rw [show (i : Int) - N.ps.length = ((i - N.ps.length : Nat) : Int) by omega]
  exact FO (by omega) (by omega)
 have hc : (N.ps.length : Int) ≤ i := by omega
 have hc1 : ((i - N.ps.length : Nat) : Int) < N.us.length := by omega
 have hc2 : (0 : Int) ≤ ((i - N.ps.length : Nat) : Int) := by omega
 have kc_g := fun {R : Type} {n : Nat} {hq : H} {k : A → H → Option R} (hn : 3 ≤ n) => @aLJ R L n hq k hn u.al q l u.nx u.ac.length (aJ u.ac) hs hw hq0 hq1 h0 h6 hL
 clear hu
 generalize i - N.ps.length = z at *
 obtain _ | n := n; omega
 rw [aDj]
 simp only [RG,Try.f152,SLM,simprocAttr]
 simp -implicitDefEqProofs (maxSteps := 2000000) (disch := try exact Dz) only [↓DN,↓kAsg,↓kRet,UP,simprocAttr,↓kX,↓aLG,↓aIo,↓aIJ,↓aIm,NE,LA,List.length_map,List.length_drop,List.drop_drop,hc,hc1,hc2,g,e1,↓kc_g,Int.toNat_natCast]
 rfl
theorem qL {R : Type} {L n : Nat} {hq : H} {k : A → H → Option R} (hn : 5 ≤ n) (N : Net) (i : Nat) (q l : Int) (hi : N.ps.length ≤ i) (hi2 : i - N.ps.length < N.us.length) (h1 : N.ps.length ≤ 1000) (h2 : N.us.length ≤ 1000) (u : Aut) (hu : N.us.getD (i - N.ps.length) default = u) (hs : a7 u.nx) (hw : oR (aC u.al).length u.nx) (hq0 : 0 ≤ q) (hq1 : q < u.nx.length) (h0 : 0 ≤ l) (h6 : l < 6) (hL : 2 ^ 60 ≤ L) : aM env (aA env L n) hq 152 [.agg [.d (.ivs N.ps.length (sysD N.ps)),.d (.ivs N.us.length (eO N.us)),.d (.ivs N.start.length (ints N.start)),.d (.int .i64 N.ls),.d (.int .i64 N.kind),.d (.int .i64 N.goal)],.d (.int .i64 (i : Int)),.d (.int .i64 q),.d (.int .i64 l)] k = k (.d (.ivs 1 (ints [goI u.al u.nx q l]))) hq :=
 aX rfl (OA hn N i q l hi hi2 h1 h2 u hu hs hw hq0 hq1 h0 h6 hL) rfl (.inr rfl)
end Ev
end Go.Proofs.Ytppdfjdfjfoddaa
