/-
  A search for a goal, walked: the word that was found, the loops.
-/
import Derived.Test.YtppdfjdfjfoddaaPathY
set_option linter.unusedSimpArgs false
set_option linter.unusedVariables false
set_option maxRecDepth 8000
set_option pp.maxSteps 6000
set_option maxHeartbeats 4000000
namespace Go.Proofs.Ytppdfjdfjfoddaa
namespace Ev
theorem swp_get {l : List UInt8} {i j p : Nat} (hi : i < l.length) (hj : j < l.length) : (swp l i j).getD p 0 = if p = j then l.getD i 0 else if p = i then l.getD j 0 else l.getD p 0 := by
 unfold swp
 simp only [List.getD_eq_getElem?_getD, List.getElem?_set, List.length_set]
 by_cases h1 : p = j
 ·subst h1
  simp [hj]
 ·have h1' : ¬ j = p := fun h => h1 h.symm
  by_cases h2 : p = i
  ·subst h2
   simp [hi, h1, h1']
  ·have h2' : ¬ i = p := fun h => h2 h.symm
   simp only [h1, h1', h2, h2', if_false]
theorem revG_get : ∀ (q : Nat) (i j : Int) (l : List UInt8), 0 ≤ i → j < l.length → j - i ≤ q → ∀ p : Nat, p < l.length → (revG q i j l).2.2.getD p 0 = if i ≤ p ∧ (p : Int) ≤ j then l.getD (i + j - p).toNat 0 else l.getD p 0
 | 0, i, j, l, h0, h1, h2, p, hp => by
  unfold revG
  split
  ·rename_i h
   rw [show (i + j - p).toNat = p by omega]
  ·rfl
 | q + 1, i, j, l, h0, h1, h2, p, hp => by
  unfold revG
  split
  ·rename_i hlt
   have hg := fun (x : Nat) => swp_get (l := l) (i := i.toNat) (j := j.toNat) (p := x) (by omega) (by omega)
   rw [revG_get q (i + 1) (j - 1) _ (by omega) (by rw [swp_len]; omega) (by omega) p (by rw [swp_len]; exact hp)]
   by_cases c1 : i + 1 ≤ (p : Int) ∧ (p : Int) ≤ j - 1
   ·rw [if_pos c1, hg, if_neg (by omega : ¬ (i + 1 + (j - 1) - (p : Int)).toNat = j.toNat), if_neg (by omega : ¬ (i + 1 + (j - 1) - (p : Int)).toNat = i.toNat), if_pos (by omega : i ≤ (p : Int) ∧ (p : Int) ≤ j)]
    congr 1
    omega
   ·rw [if_neg c1, hg]
    by_cases c2 : p = j.toNat
    ·rw [if_pos c2, if_pos (by omega : i ≤ (p : Int) ∧ (p : Int) ≤ j)]
     congr 1
     omega
    ·rw [if_neg c2]
     by_cases c3 : p = i.toNat
     ·rw [if_pos c3, if_pos (by omega : i ≤ (p : Int) ∧ (p : Int) ≤ j)]
      congr 1
      omega
     ·rw [if_neg c3, if_neg (by omega : ¬ (i ≤ (p : Int) ∧ (p : Int) ≤ j))]
  ·rename_i hlt
   split
   ·rename_i h
    rw [show (i + j - p).toNat = p by omega]
   ·rfl
theorem revG_rev (l : List UInt8) : (revG (l.length + 1) 0 ((l.length : Int) - 1) l).2.2 = l.reverse := by
 have hl := (revG_props (l.length + 1) 0 ((l.length : Int) - 1) l (Int.le_refl _) (by omega)).1
 apply List.ext_getElem
 ·rw [hl, List.length_reverse]
 ·intro p h1 h2
  rw [hl] at h1
  have := revG_get (l.length + 1) 0 ((l.length : Int) - 1) l (Int.le_refl _) (by omega) (by omega) p h1
  rw [if_pos (by omega), List.getD_eq_getElem?_getD, List.getElem?_eq_getElem (by rw [hl]; exact h1), List.getD_eq_getElem?_getD, List.getElem?_eq_getElem (by omega)] at this
  simp only [Option.getD_some] at this
  rw [this, List.getElem_reverse]
  congr 1
  omega
theorem steps_par {l : List PStep} {k : Nat} (h : k < l.length) : (((stepsD l).drop (k * 3)).map A.d).head? = some (.d (.int .i64 (l.getD k default).par)) := by
 rw [stepsD_drop, drop_go h (d := default)]; rfl
theorem steps_let {l : List PStep} {k : Nat} (h : k < l.length) : (((stepsD l).drop (k * 3 + 1)).map A.d).head? = some (.d (.int .i64 (l.getD k default).lt)) := by
 rw [← List.drop_drop, stepsD_drop, drop_go h (d := default)]; rfl
def rootP (st : List PStep) : Nat → Nat → Nat
 | 0, i => i
 | j + 1, i => if 0 ≤ (st.getD i default).par then rootP st j (st.getD i default).par.toNat else i
def Tree (st : List PStep) : Prop := ∀ k, k < st.length → ((st.getD k default).par < (k : Int)) ∧ (0 ≤ (st.getD k default).lt ∧ (st.getD k default).lt ≤ 5)
theorem wordP_len (st : List PStep) : ∀ (j i : Nat), (wordP st j i).length ≤ j
 | 0, i => Nat.le_refl _
 | j + 1, i => by
  unfold wordP
  split
  ·have := wordP_len st j (st.getD i default).par.toNat
   simp only [List.length_append, List.length_cons, List.length_nil]
   omega
  ·simp
theorem xq2 {R : Type} {L n : Nat} (hn : 2 ≤ n) {st : List PStep} (ht : Tree st) (hs : st.length ≤ 16777216) {k : Exit → List A → H → Option R} : ∀ (j i m : Nat) (o : List UInt8) (len : Nat) (hi : i < st.length) (hj : i < j) (hm : j ≤ m) (hlen : len = o.length) (ho : o.length + i ≤ 20000000),
  kLoop env (evCall env L n) L 0 [0, 0, 0, 2] (U1 (Z1 (U2 (U1 (Z16 (Z8 (Z2 (Z1 ([]))))))))) (x7h 0) (Z1 (U1 (Z2 (Z1 (U16 (U8 (U2 (U1 ([]))))))))) m (.d (.ivs st.length (stepsD st)) :: Y1 (.d (.str []) :: .sl 0 0 0 len :: .d (.int .i64 ((i : Int))) :: Y16 (Y8 (Y2 (Y1 ([])))))) [.arr (bytesL o) 1 0] k
  = k (.exit 0) (.d (.ivs st.length (stepsD st)) :: Y1 (.d (.str []) :: .sl 0 0 0 (o ++ (txt (wordP st j i)).reverse).length :: .d (.int .i64 (((rootP st j i : Nat) : Int))) :: Y16 (Y8 (Y2 (Y1 ([])))))) [.arr (bytesL (o ++ (txt (wordP st j i)).reverse)) 1 0] := by
 intro j
 induction j with
 | zero => intro i m o len hi hj; omega
 | succ j ih =>
  intro i m o len hi hj hm hlen ho
  obtain ⟨m, rfl⟩ : ∃ q, m = q + 1 := ⟨m - 1, by omega⟩
  subst hlen
  obtain ⟨t1, t2, t3⟩ := ht i hi
  have hc : (i : Int) < st.length := by omega
  by_cases hp : 0 ≤ (st.getD i default).par
  ·have ih' := ih (st.getD i default).par.toNat m (o ++ [byteI (st.getD i default).lt]) (o.length + 1) (by omega) (by omega) (by omega) (by simp) (by rw [List.length_append, List.length_singleton]; omega)
   rw [show (((st.getD i default).par.toNat : Nat) : Int) = (st.getD i default).par by omega] at ih'
   have h5 : (((st.getD i default).par.toNat : Nat) : Int) = (st.getD i default).par := by omega
   unfold wordP rootP
   rw [if_pos hp, if_pos hp]
   clear ih
   have e : (txt (wordP st j (st.getD i default).par.toNat ++ [(st.getD i default).lt])).reverse = [byteI (st.getD i default).lt] ++ (txt (wordP st j (st.getD i default).par.toNat)).reverse := by simp [txt]
   rw [e, ← List.append_assoc]
   have g1 := steps_par hi
   have g2 := steps_let hi
   generalize st.getD i default = s at *
   rw [xg8]
   simp only [xdj, Try.f143, SLM, simprocAttr]
   simp -implicitDefEqProofs (maxSteps := 2000000) (disch := first | assumption | (refine Shut.mk ?_; kernel_rfl) | omega | (simp only [GT]; done) | (simp only [LN] <;> omega) | fail) only [↓DN, ↓kAsg, ↓kRet, UP, simprocAttr, PE, List.length_drop, List.drop_drop, hc, hp, t2, t3, g1, g2, Int.toNat_natCast, ↓xbq, u_bytes, elemT_bytes, e_uint8, z_uint8, c_uint8, bytesL_length, bytesL_take, bytesL_snoc, ↓ih']
  ·unfold wordP rootP
   rw [if_neg hp, if_neg hp]
   have g1 := steps_par hi
   simp only [txt, List.map_nil, List.reverse_nil, List.append_nil]
   rw [xg8]
   simp only [xdj, Try.f143, SLM, simprocAttr]
   simp -implicitDefEqProofs (maxSteps := 2000000) (disch := first | assumption | (refine Shut.mk ?_; kernel_rfl) | omega | (simp only [GT]; done) | (simp only [LN] <;> omega) | fail) only [↓DN, ↓kAsg, ↓kRet, UP, simprocAttr, ↓xbq, PE, hc, hp, g1, Int.toNat_natCast]
theorem xlp {L n : Nat} (hn : 3 ≤ n) (st : List PStep) (ht : Tree st) (hs : st.length ≤ 16777216) (h0 : 0 < st.length) (hL : 2 ^ 60 ≤ L) : evCall env L n 143 [.d (.ivs st.length (stepsD st))] [] = some (.d (.str (lastW st)), []) := by
 have loop_w := fun {R : Type} {n : Nat} {k : Exit → List A → H → Option R} (hn : 2 ≤ n) => @xq2 R L n hn st ht hs k st.length (st.length - 1) L [] 0 (by omega) (by omega) (by omega) rfl (by simp; omega)
 simp only [List.nil_append, bytesL_nil] at loop_w
 have hwl := wordP_len st st.length (st.length - 1)
 have hb : (txt (wordP st st.length (st.length - 1))).reverse.length ≤ 2147483648 := by simp [txt]; omega
 have hrr : (txt (wordP st st.length (st.length - 1))).reverse.reverse = lastW st := by rw [List.reverse_reverse]; rfl
 have hwlen : (txt (wordP st st.length (st.length - 1))).reverse.length = (lastW st).length := by simp [lastW]
 generalize (txt (wordP st st.length (st.length - 1))).reverse = w at *
 have e1 : IntKind.i64.wrap ((st.length : Int) - 1) = ((st.length - 1 : Nat) : Int) := by
  rw [show (st.length : Int) - 1 = ((st.length - 1 : Nat) : Int) by omega]
  exact i64_id (by omega) (by omega)
 have kc_r := fun {R : Type} {n id g : Nat} {hq : H} {k : A → H → Option R} (hn : 1 ≤ n) (hi : hq[id]? = some (.arr (bytesL w) 1 g)) => @xws R L n id g hq k hn w hi hb hL
 have er := revG_rev w
 rw [hrr] at er
 simp only [er] at kc_r
 simp only [hwlen] at kc_r
 simp only [hwlen] at loop_w
 have h1 : (1 : Int) ≤ st.length := by omega
 obtain ⟨n, rfl⟩ : ∃ m, n = m + 1 := ⟨n - 1, by omega⟩
 rw [xta]
 simp only [xn8, Try.f143, SLM, simprocAttr]
 simp -implicitDefEqProofs (maxSteps := 2000000) (disch := first | assumption | (refine Shut.mk ?_; kernel_rfl) | omega | (simp only [GT]; done) | (simp only [LN] <;> omega) | fail) only [↓DN, ↓kAsg, ↓kRet, UP, simprocAttr, ↓xbq, PE, ↓loop_w, e1, h1, ↓kc_r, ↓conv_bytes_str]
theorem x3e {R : Type} {L n : Nat} {hq : H} {k : A → H → Option R} (hn : 3 ≤ n) (st : List PStep) (ht : Tree st) (hs : st.length ≤ 16777216) (h0 : 0 < st.length) (hL : 2 ^ 60 ≤ L) : kCall env (evCall env L n) hq 143 [.d (.ivs st.length (stepsD st))] k = k (.d (.str (lastW st))) hq :=
 kCall_still rfl (xlp hn st ht hs h0 hL) rfl (.inl rfl)
theorem x2v {R : Type} {L n : Nat} {k : A → Option R} (hn : 3 ≤ n) (st : List PStep) (ht : Tree st) (hs : st.length ≤ 16777216) (h0 : 0 < st.length) (hL : 2 ^ 60 ≤ L) : kLent (evCall env L n) 143 [.d (.ivs st.length (stepsD st))] k = k (.d (.str (lastW st))) :=
 kLent_ev (xlp hn st ht hs h0 hL) rfl
theorem x2d {R : Type} {L n : Nat} {hq : H} {k : A → H → Option R} {id0 g0 o0 len0 : Nat}  : kCall env (evCall env L n) hq 143 [.sl id0 g0 o0 len0] k = match box (lentA hq [.sl id0 g0 o0 len0]) with
  | .mk (some fs) => kLent (evCall env L n) 143 fs fun r => k r hq
  | _ => none := kCall_lent xbl
theorem addP_len {st : List PStep} {p l : Int} {f : List Int} : st.length ≤ (addP st p l f).length := by unfold addP; split <;> simp
theorem tree_add {st : List PStep} {i : Nat} {l : Int} {f : List Int} (ht : Tree st) (hi : i < st.length) (hl : 0 ≤ l ∧ l ≤ 5) : Tree (addP st i l f) := by
 unfold addP
 split
 ·exact ht
 ·intro k hk
  simp only [List.length_append, List.length_cons, List.length_nil] at hk
  by_cases h : k < st.length
  ·rw [getD_app h]; exact ht k h
  ·obtain rfl : k = st.length := by omega
   rw [getD_last]
   exact ⟨by show (i : Int) < _; omega, hl⟩
theorem xvr {R : Type} {L n : Nat} (hn : 5 ≤ n) (hL : 2 ^ 60 ≤ L) {I : Int → Prop} {gl : Int → Bool} {nf gf : FuncId} {caps gcaps : List D} {size : Nat} {nx : Int → Int → List Int} {ls ns : List Int} {ii : Nat}
  (kc_n : ∀ {R : Type} {n id : Nat} {hq : H} {k : A → H → Option R} (x c : Int) (o : List Int), 4 ≤ n → I x → 0 ≤ c → c < 6 → o.length ≤ 2147483648 → hq[id]? = some (.arr (ints o) 1 0) → kCall env (evCall env L n) hq nf (.d (.int .i64 x) :: .d (.int .i64 c) :: .sl id 0 0 o.length :: caps.map A.d) k = k (.sl id (nx x c).length 0 (o ++ nx x c).length) (hq.set id (.arr (ints (o ++ nx x c)) 1 (nx x c).length)))
  (kc_g : ∀ {R : Type} {n : Nat} {hq : H} {k : A → H → Option R} (x : Int), 2 ≤ n → I x → kCall env (evCall env L n) hq gf (.d (.int .i64 x) :: gcaps.map A.d) k = k (.d (.bool (gl x))) hq)
  (hr : ∀ x, I x → 0 ≤ x ∧ x < size) (hsz : size ≤ 16777216) (hI : ∀ x ∈ ns, I x) (hx : ∀ x c, I x → 0 ≤ c → c < 6 → ∀ y ∈ nx x c, I y) (hw : ∀ x c, (nx x c).length ≤ 64) (hls : ∀ c ∈ ls, 0 ≤ c ∧ c ≤ 5) (hll : ls.length ≤ 6) (hnl : ns.length ≤ size) {k : Exit → List A → H → Option R} : ∀ (j q m : Nat) (seen : List Bool) (st : List PStep) (sn : Nat) (hi : q + j = ls.length) (hm : j < m) (hg : PGood I size seen st) (htr : Tree st) (hii : ii < st.length) (hns : (st.getD ii default).ns = ns) (hsn : sn = st.length),
  kLoop env (evCall env L n) L 0 [0, 0, 0, 0, 0, 0, 0, 0, 0, 0, 0, 0, 0, 0, 0, 0, 0, 0, 2] (Z2 (U2 (Z4 (Z2 (U2 (Z1 (U2 (U1 (Z1 (U2 (Z8 (Z4 (Z2 (U2 (U1 (Z4 (Z2 (Z1 (U2 (U1 (Z16 (Z1 ([]))))))))))))))))))))))) (x1n 1) (U2 (Z2 (U4 (U2 (Z2 (U1 (Z2 (Z1 (U16 (U1 (Z2 (Z1 (U16 (U8 (U2 (U1 ([]))))))))))))))))) m (Y2 (.d (.ivs ls.length (ints ls)) :: .d (.fn nf caps) :: Y4 (Y2 (.d (.str []) :: .d (.bool false) :: Y1 (.ptr 0 0 0 :: .clo 142 [.ptr 1 0 0, .ptr 2 0 0, .ptr 0 0 0] :: .d (.int .i64 ((ii : Int))) :: Y16 (Y1 (.d (.ivs ls.length (ints ls)) :: .d (.int .i64 (ls.length)) :: .d (.int .i64 ((q : Int))) :: Y16 (Y8 (Y2 (Y1 ([]))))))))))) [.box [.sl 3 0 0 sn], .box [.sl 4 0 0 size], .box [.d (.fn gf gcaps)], .arr (stepsD st) 3 0, .arr (boolC seen) 1 0] k
  = if (ltG nx gl ns ii (ls.drop q) (seen, st)).1 = true then
    k .ret (Y2 (.d (.ivs ls.length (ints ls)) :: .d (.fn nf caps) :: Y4 (Y2 (.d (.str ((lastW (ltG nx gl ns ii (ls.drop q) (seen, st)).2.2))) :: .d (.bool true) :: Y1 (.ptr 0 0 0 :: .clo 142 [.ptr 1 0 0, .ptr 2 0 0, .ptr 0 0 0] :: .d (.int .i64 ((ii : Int))) :: Y16 (Y1 (.d (.ivs ls.length (ints ls)) :: .d (.int .i64 (ls.length)) :: .d (.int .i64 (((q + ltI nx gl ns ii (ls.drop q) (seen, st) : Nat) : Int))) :: Y16 (Y8 (Y2 (Y1 ([]))))))))))) [.box [.sl 3 0 0 (ltG nx gl ns ii (ls.drop q) (seen, st)).2.2.length], .box [.sl 4 0 0 size], .box [.d (.fn gf gcaps)], .arr (stepsD (ltG nx gl ns ii (ls.drop q) (seen, st)).2.2) 3 0, .arr (boolC (ltG nx gl ns ii (ls.drop q) (seen, st)).2.1) 1 0]
   else k (.exit 2) (Y2 (.d (.ivs ls.length (ints ls)) :: .d (.fn nf caps) :: Y4 (Y2 (.d (.str []) :: .d (.bool false) :: Y1 (.ptr 0 0 0 :: .clo 142 [.ptr 1 0 0, .ptr 2 0 0, .ptr 0 0 0] :: .d (.int .i64 ((ii : Int))) :: Y16 (Y1 (.d (.ivs ls.length (ints ls)) :: .d (.int .i64 (ls.length)) :: .d (.int .i64 (ls.length)) :: Y16 (Y8 (Y2 (Y1 ([]))))))))))) [.box [.sl 3 0 0 (ltG nx gl ns ii (ls.drop q) (seen, st)).2.2.length], .box [.sl 4 0 0 size], .box [.d (.fn gf gcaps)], .arr (stepsD (ltG nx gl ns ii (ls.drop q) (seen, st)).2.2) 3 0, .arr (boolC (ltG nx gl ns ii (ls.drop q) (seen, st)).2.1) 1 0] := by
 intro j
 induction j with
 | zero =>
  intro q m seen st sn hi hm hg htr hii hns hsn
  obtain ⟨m, rfl⟩ : ∃ q, m = q + 1 := ⟨m - 1, by omega⟩
  obtain rfl : q = ls.length := by omega
  subst hsn
  rw [x8e]
  simp only [x7v, Try.f117, SLM, simprocAttr]
  simp -implicitDefEqProofs (maxSteps := 2000000) (disch := first | assumption | (refine Shut.mk ?_; kernel_rfl) | omega | (simp only [GT]; done) | (simp only [LN] <;> omega) | fail) only [↓DN, ↓kAsg, ↓kRet, UP, simprocAttr, ↓x3e, ↓x2v, ↓x2d, PE, Int.lt_irrefl]
  simp only [List.drop_length, ltG, Bool.false_eq_true, if_false]
 | succ j ih =>
  intro q m seen st sn hi hm hg htr hii hns hsn
  obtain ⟨m, rfl⟩ : ∃ q, m = q + 1 := ⟨m - 1, by omega⟩
  subst hsn
  have hc : (q : Int) < ls.length := by omega
  have hk : q < ls.length := by omega
  have hmem : ls.getD q 0 ∈ ls := by rw [List.getD_eq_getElem?_getD, List.getElem?_eq_getElem hk]; exact List.getElem_mem hk
  obtain ⟨c0, c5⟩ := hls _ hmem
  have c6 : ls.getD q 0 < 6 := by omega
  have hiI : (ii : Int) < st.length := by omega
  have hroom := hg.room
  have hstl : st.length ≤ 4294967290 := by omega
  rw [drop_go hk (d := 0)]
  have hI2 : ∀ y ∈ flat nx ns (ls.getD q 0), I y := by
   intro y hy
   obtain ⟨x, h1, h2⟩ := List.mem_flatMap.1 hy
   exact hx x (ls.getD q 0) (hI x h1) c0 c6 y h2
  have hfl := flat_len (c := ls.getD q 0) hw ns
  have hfl2 : (flat nx ns (ls.getD q 0)).length ≤ 4294967290 := by omega
  obtain ⟨g1, g2, g3⟩ := good_visitG (gl := gl) hg hI2 hr (ii : Int) (ls.getD q 0)
  have htr2 : Tree (addP st ii (ls.getD q 0) (visG gl (flat nx ns (ls.getD q 0)) seen [] false).2.1) := tree_add htr hii ⟨c0, c5⟩
  have hlen2 := addP_len (st := st) (p := (ii : Int)) (l := ls.getD q 0) (f := (visG gl (flat nx ns (ls.getD q 0)) seen [] false).2.1)
  have ih' := ih (q + 1) m (visG gl (flat nx ns (ls.getD q 0)) seen [] false).1 (addP st ii (ls.getD q 0) (visG gl (flat nx ns (ls.getD q 0)) seen [] false).2.1) _ (by omega) (by omega) g1 htr2 (by omega) (by rw [addP_get hii]; exact hns) rfl
  have e4 : ((q + 1 : Nat) : Int) = (q : Int) + 1 := by omega
  rw [e4] at ih'
  have loop_c := fun {R : Type} {n : Nat} (hn : 4 ≤ n) {k : Exit → List A → H → Option R} => @xvf R L n hn hL I nf caps (.fn gf gcaps) size nx ls ns (stepsD st) seen st.length ii q (ls.getD q 0) (fun {R n id hq k} => kc_n) hI hw c0 c6 (by omega) k ns.length 0 L [] 0 (by omega) (by omega) (by simp) rfl
  simp only [List.drop_zero, List.nil_append, ints_nil, Int.natCast_zero] at loop_c
  have kc_v := fun {R : Type} {n : Nat} {k : A → H → Option R} (hn : 4 ≤ n) => @xwm R L n k hn hL I gl gf gcaps size (ii : Int) (ls.getD q 0) (flat nx ns (ls.getD q 0)) (fun {R n hq k} => kc_g) hI2 hr (by omega) hfl2 seen hg.len st hstl
  have hroom2 := g1.room
  have kl_w := fun {R : Type} {n : Nat} {k : A → Option R} (hn : 3 ≤ n) => @x2v R L n k hn _ htr2 (by omega) (by omega) hL
  simp only [ltG, ltI]
  clear ih hmem g1 g2 g3 hg hI hI2 hx hw hls hr kc_n kc_g hroom2
  generalize flat nx ns (ls.getD q 0) = fm at *
  generalize visG gl fm seen [] false = v at *
  obtain ⟨v1, v2, v3⟩ := v
  simp only at ih' kc_v kl_w ⊢
  cases v3 with
  | true =>
   rw [x8e]
   simp only [x7v, Try.f117, SLM, simprocAttr]
   simp -implicitDefEqProofs (maxSteps := 2000000) (disch := first | assumption | (refine Shut.mk ?_; kernel_rfl) | omega | (simp only [GT]; done) | (simp only [LN] <;> omega) | fail) only [↓DN, ↓kAsg, ↓kRet, UP, simprocAttr, ↓x3e, ↓x2v, ↓x2d, PE, hc, hiI, hns, Int.toNat_natCast, ↓loop_c, ↓kc_v, ↓kl_w]
  | false =>
   simp only [Bool.false_eq_true, if_false]
   generalize ltI nx gl ns (ii : Int) (ls.drop (q + 1)) (v1, addP st ii (ls.getD q 0) v2) = T at *
   rw [show q + (T + 1) = q + 1 + T by omega]
   rw [x8e]
   simp only [x7v, Try.f117, SLM, simprocAttr]
   simp -implicitDefEqProofs (maxSteps := 2000000) (disch := first | assumption | (refine Shut.mk ?_; kernel_rfl) | omega | (simp only [GT]; done) | (simp only [LN] <;> omega) | fail) only [↓DN, ↓kAsg, ↓kRet, UP, simprocAttr, ↓x3e, ↓x2v, ↓x2d, PE, hc, hiI, hns, Int.toNat_natCast, ↓loop_c, ↓kc_v, ↓ih']
theorem tree_letters {nx : Int → Int → List Int} {gl : Int → Bool} {ns : List Int} {i : Nat} : ∀ (ls : List Int) (hls : ∀ c ∈ ls, 0 ≤ c ∧ c ≤ 5) (seen : List Bool) (st : List PStep), Tree st → i < st.length → Tree (ltG nx gl ns i ls (seen, st)).2.2
 | [], _, _, _, h, _ => h
 | l :: ls, hls, seen, st, h, hi => by
  have h2 : Tree (addP st i l (visG gl (flat nx ns l) seen [] false).2.1) := tree_add h hi (hls l List.mem_cons_self)
  unfold ltG
  split
  ·exact h2
  ·exact tree_letters ls (fun c hc => hls c (List.mem_cons_of_mem _ hc)) _ _ h2 (Nat.lt_of_lt_of_le hi addP_len)
theorem xv9 {R : Type} {L n : Nat} (hn : 6 ≤ n) (hL : 2 ^ 60 ≤ L) {I : Int → Prop} {gl : Int → Bool} {nf gf : FuncId} {caps gcaps : List D} {size : Nat} {nx : Int → Int → List Int} {ls : List Int}
  (kc_n : ∀ {R : Type} {n id : Nat} {hq : H} {k : A → H → Option R} (x c : Int) (o : List Int), 4 ≤ n → I x → 0 ≤ c → c < 6 → o.length ≤ 2147483648 → hq[id]? = some (.arr (ints o) 1 0) → kCall env (evCall env L n) hq nf (.d (.int .i64 x) :: .d (.int .i64 c) :: .sl id 0 0 o.length :: caps.map A.d) k = k (.sl id (nx x c).length 0 (o ++ nx x c).length) (hq.set id (.arr (ints (o ++ nx x c)) 1 (nx x c).length)))
  (kc_g : ∀ {R : Type} {n : Nat} {hq : H} {k : A → H → Option R} (x : Int), 2 ≤ n → I x → kCall env (evCall env L n) hq gf (.d (.int .i64 x) :: gcaps.map A.d) k = k (.d (.bool (gl x))) hq)
  (hr : ∀ x, I x → 0 ≤ x ∧ x < size) (hsz : size ≤ 16777216) (hx : ∀ x c, I x → 0 ≤ c → c < 6 → ∀ y ∈ nx x c, I y) (hw : ∀ x c, (nx x c).length ≤ 64) (hls : ∀ c ∈ ls, 0 ≤ c ∧ c ≤ 5) (hll : ls.length ≤ 6) {k : Exit → List A → H → Option R} : ∀ (j i m : Nat) (seen : List Bool) (st : List PStep) (sn : Nat) (hi : st.length + unseen seen ≤ i + j) (hi2 : i ≤ st.length) (hm : j < m) (hg : PGood I size seen st) (htr : Tree st) (hsn : sn = st.length),
  kLoop env (evCall env L n) L 0 [0, 0, 0, 0, 0, 0, 0, 0, 0, 0, 0, 0, 0, 0, 0, 0, 0, 0, 2] (Z2 (U2 (Z4 (Z2 (U2 (Z1 (U2 (U1 (Z1 (U2 (Z8 (Z4 (Z2 (U2 (U1 (Z4 (Z2 (Z1 (U2 (U1 (Z16 (Z1 ([]))))))))))))))))))))))) (x1n 0) (U2 (Z2 (U4 (U2 (Z2 (U1 (Z2 (Z1 (U32 (U8 (U4 (U2 (U1 ([])))))))))))))) m (Y2 (.d (.ivs ls.length (ints ls)) :: .d (.fn nf caps) :: Y4 (Y2 (.d (.str []) :: .d (.bool false) :: Y1 (.ptr 0 0 0 :: .clo 142 [.ptr 1 0 0, .ptr 2 0 0, .ptr 0 0 0] :: .d (.int .i64 ((i : Int))) :: Y32 (Y8 (Y4 (Y2 (Y1 ([])))))))))) [.box [.sl 3 0 0 sn], .box [.sl 4 0 0 size], .box [.d (.fn gf gcaps)], .arr (stepsD st) 3 0, .arr (boolC seen) 1 0] k
  = if (outG nx gl ls j i (seen, st)).1 = true then
    k .ret (Y2 (.d (.ivs ls.length (ints ls)) :: .d (.fn nf caps) :: Y4 (Y2 (.d (.str ((lastW (outG nx gl ls j i (seen, st)).2.2))) :: .d (.bool true) :: Y1 (.ptr 0 0 0 :: .clo 142 [.ptr 1 0 0, .ptr 2 0 0, .ptr 0 0 0] :: .d (.int .i64 (((outI nx gl ls j i (seen, st) : Nat) : Int))) :: Y32 (Y8 (Y4 (Y2 (Y1 ([])))))))))) [.box [.sl 3 0 0 (outG nx gl ls j i (seen, st)).2.2.length], .box [.sl 4 0 0 size], .box [.d (.fn gf gcaps)], .arr (stepsD (outG nx gl ls j i (seen, st)).2.2) 3 0, .arr (boolC (outG nx gl ls j i (seen, st)).2.1) 1 0]
   else k (.exit 0) (Y2 (.d (.ivs ls.length (ints ls)) :: .d (.fn nf caps) :: Y4 (Y2 (.d (.str []) :: .d (.bool false) :: Y1 (.ptr 0 0 0 :: .clo 142 [.ptr 1 0 0, .ptr 2 0 0, .ptr 0 0 0] :: .d (.int .i64 (((outI nx gl ls j i (seen, st) : Nat) : Int))) :: Y32 (Y8 (Y4 (Y2 (Y1 ([])))))))))) [.box [.sl 3 0 0 (outG nx gl ls j i (seen, st)).2.2.length], .box [.sl 4 0 0 size], .box [.d (.fn gf gcaps)], .arr (stepsD (outG nx gl ls j i (seen, st)).2.2) 3 0, .arr (boolC (outG nx gl ls j i (seen, st)).2.1) 1 0] := by
 intro j
 induction j with
 | zero =>
  intro i m seen st sn hi hi2 hm hg htr hsn
  obtain ⟨m, rfl⟩ : ∃ q, m = q + 1 := ⟨m - 1, by omega⟩
  obtain rfl : i = st.length := by omega
  subst hsn
  simp only [outG, outI, Bool.false_eq_true, if_false]
  rw [x68]
  simp only [x63, Try.f117, SLM, simprocAttr]
  simp -implicitDefEqProofs (maxSteps := 2000000) (disch := first | assumption | (refine Shut.mk ?_; kernel_rfl) | omega | (simp only [GT]; done) | (simp only [LN] <;> omega) | fail) only [↓DN, ↓kAsg, ↓kRet, UP, simprocAttr, ↓x3e, ↓x2v, ↓x2d, PE, Int.lt_irrefl]
 | succ j ih =>
  intro i m seen st sn hi hi2 hm hg htr hsn
  obtain ⟨m, rfl⟩ : ∃ q, m = q + 1 := ⟨m - 1, by omega⟩
  subst hsn
  by_cases hc : i < st.length
  ·have hci : (i : Int) < st.length := by omega
   have hroom := hg.room
   have hmem : st.getD i default ∈ st := by rw [List.getD_eq_getElem?_getD, List.getElem?_eq_getElem hc]; exact List.getElem_mem hc
   have hI := hg.node _ hmem
   have hnl := hg.wide _ hmem
   obtain ⟨k1, k2, k3⟩ := good_lettersG (gl := gl) (nx := nx) (p := (i : Int)) hr hI ls (seen, st) (fun x c h1 h2 => hx x c h1 (hls c h2).1 (by have := (hls c h2).2; omega)) hg
   have ktr := tree_letters (gl := gl) (nx := nx) (ns := (st.getD i default).ns) ls hls seen st htr hc
   have loop_b := fun {R : Type} {n : Nat} (hn : 5 ≤ n) {k : Exit → List A → H → Option R} => @xvr R L n hn hL I gl nf gf caps gcaps size nx ls (st.getD i default).ns i (fun {R n id hq k} => kc_n) (fun {R n hq k} => kc_g) hr hsz hI hx hw hls hll hnl k ls.length 0 L seen st st.length (by omega) (by omega) hg htr hc rfl rfl
   simp only [List.drop_zero, Int.natCast_zero, Nat.zero_add] at loop_b
   have ih' := ih (i + 1) m (ltG nx gl (st.getD i default).ns i ls (seen, st)).2.1 (ltG nx gl (st.getD i default).ns i ls (seen, st)).2.2 _ (by have : (ltG nx gl (st.getD i default).ns i ls (seen, st)).2.2.length + unseen (ltG nx gl (st.getD i default).ns i ls (seen, st)).2.1 ≤ st.length + unseen seen := k2; omega) (by have : st.length ≤ (ltG nx gl (st.getD i default).ns i ls (seen, st)).2.2.length := k3; omega) (by omega) k1 ktr rfl
   have e4 : ((i + 1 : Nat) : Int) = (i : Int) + 1 := by omega
   rw [e4] at ih'
   simp only [outG, outI, hc, if_true]
   clear ih hmem k1 k2 k3 ktr hg hI hx hw hls hr kc_n kc_g hnl
   generalize ltI nx gl (st.getD i default).ns (i : Int) ls (seen, st) = T at *
   generalize ltG nx gl (st.getD i default).ns (i : Int) ls (seen, st) = w at *
   obtain ⟨w0, w1, w2⟩ := w
   simp only at ih' loop_b ⊢
   have hll3 : ls.length ≤ 4294967290 := by omega
   cases w0 with
   | true =>
    simp only [if_true] at loop_b
    rw [x68]
    simp only [x63, Try.f117, SLM, simprocAttr]
    simp -implicitDefEqProofs (maxSteps := 2000000) (disch := first | assumption | (refine Shut.mk ?_; kernel_rfl) | omega | (simp only [GT]; done) | (simp only [LN] <;> omega) | fail) only [↓DN, ↓kAsg, ↓kRet, UP, simprocAttr, ↓x3e, ↓x2v, ↓x2d, PE, hci, Int.toNat_natCast, ↓loop_b]
   | false =>
    simp only [Bool.false_eq_true, if_false] at loop_b ⊢
    rw [x68]
    simp only [x63, Try.f117, SLM, simprocAttr]
    simp -implicitDefEqProofs (maxSteps := 2000000) (disch := first | assumption | (refine Shut.mk ?_; kernel_rfl) | omega | (simp only [GT]; done) | (simp only [LN] <;> omega) | fail) only [↓DN, ↓kAsg, ↓kRet, UP, simprocAttr, ↓x3e, ↓x2v, ↓x2d, PE, hci, Int.toNat_natCast, ↓loop_b, ↓ih']
  ·obtain rfl : i = st.length := by omega
   simp only [outG, outI, hc, Bool.false_eq_true, if_false]
   rw [x68]
   simp only [x63, Try.f117, SLM, simprocAttr]
   simp -implicitDefEqProofs (maxSteps := 2000000) (disch := first | assumption | (refine Shut.mk ?_; kernel_rfl) | omega | (simp only [GT]; done) | (simp only [LN] <;> omega) | fail) only [↓DN, ↓kAsg, ↓kRet, UP, simprocAttr, ↓x3e, ↓x2v, ↓x2d, PE, Int.lt_irrefl]
theorem make_boolC {n : Int} {h : H} (h0 : 0 ≤ n) (h1 : n ≤ 4294967296) : aMakeSlice env.P h 24 n n = some (.sl h.length 0 0 n.toNat, h ++ [.arr (boolC (List.replicate n.toNat false)) 1 0]) := by
 have hm : n ≤ (maxNeed : Nat) := by unfold maxNeed; omega
 have he : elemT env.P 24 = some 4 := by kernel_rfl
 have hz : zeroA env.P 4 = some (.d (.bool false)) := by kernel_rfl
 have hok : elemOk env.P 4 = true := by kernel_rfl
 have hc : env.P.cellsOf 4 = 1 := by kernel_rfl
 simp only [aMakeSlice, he, hz, cellsA, dataOf, Option.map_some, hok, h0, hm, hc, Int.le_refl, and_self, if_true, boolC, List.map_replicate, List.flatten_replicate_singleton]
theorem xs6 {L n : Nat} (hn : 7 ≤ n) (hL : 2 ^ 60 ≤ L) {I : Int → Prop} {gl : Int → Bool} {nf gf : FuncId} {caps gcaps : List D} {size : Nat} {nx : Int → Int → List Int} {ls ns : List Int}
  (kc_n : ∀ {R : Type} {n id : Nat} {hq : H} {k : A → H → Option R} (x c : Int) (o : List Int), 4 ≤ n → I x → 0 ≤ c → c < 6 → o.length ≤ 2147483648 → hq[id]? = some (.arr (ints o) 1 0) → kCall env (evCall env L n) hq nf (.d (.int .i64 x) :: .d (.int .i64 c) :: .sl id 0 0 o.length :: caps.map A.d) k = k (.sl id (nx x c).length 0 (o ++ nx x c).length) (hq.set id (.arr (ints (o ++ nx x c)) 1 (nx x c).length)))
  (kc_g : ∀ {R : Type} {n : Nat} {hq : H} {k : A → H → Option R} (x : Int), 2 ≤ n → I x → kCall env (evCall env L n) hq gf (.d (.int .i64 x) :: gcaps.map A.d) k = k (.d (.bool (gl x))) hq)
  (hr : ∀ x, I x → 0 ≤ x ∧ x < size) (hsz : size ≤ 16777216) (hI : ∀ x ∈ ns, I x) (hx : ∀ x c, I x → 0 ≤ c → c < 6 → ∀ y ∈ nx x c, I y) (hw : ∀ x c, (nx x c).length ≤ 64) (hls : ∀ c ∈ ls, 0 ≤ c ∧ c ≤ 5) (hll : ls.length ≤ 6) (hne : ns ≠ []) (hnl : ns.length ≤ size) :
  evCall env L n 117 [.d (.int .i64 size), .d (.ivs ns.length (ints ns)), .d (.ivs ls.length (ints ls)), .d (.fn nf caps), .d (.fn gf gcaps)] [] = some (.tup [.d (.str (txt (pathG nx gl ls ns size).1)), .d (.bool (pathG nx gl ls ns size).2)], []) := by
 have hs0 : (0 : Int) ≤ size := by omega
 have hs1 : (size : Int) ≤ 4294967296 := by omega
 have kc_v := fun {R : Type} {n : Nat} {k : A → H → Option R} {p l : Int} (hn : 4 ≤ n) => @xwp R L n k hn hL I gl gf gcaps size p l ns (fun {R n hq k} => kc_g) hI hr (by omega) (by omega) hne
 have hu : unseen (List.replicate size false) = size := by simp [unseen]
 have hg0 : PGood I size (List.replicate size false) [] := ⟨by simp, by simp, by rw [hu]; simp, by simp⟩
 obtain ⟨g1, g2, g3⟩ := good_visitG (gl := gl) hg0 hI hr (-1) 0
 have hpos := visF_new (size := size) hne
 rw [← (visG_F gl ns (List.replicate size false) [] false).2] at hpos
 unfold pathG
 generalize visG gl ns (List.replicate size false) [] false = r at *
 obtain ⟨r0, r1, r2⟩ := r
 simp only at g1 g2 g3 hpos kc_v ⊢
 have ha : addP [] (-1) 0 r1 = [⟨-1, 0, r1⟩] := by
  unfold addP
  rw [if_neg (List.length_pos_iff.1 hpos)]; rfl
 rw [ha] at g1 g2
 have htr : Tree [⟨-1, 0, r1⟩] := by
  intro k hk
  obtain rfl : k = 0 := by simpa using hk
  exact ⟨by show (-1 : Int) < _; omega, by show (0 : Int) ≤ 0 ∧ (0 : Int) ≤ 5; decide⟩
 have loop_a := fun {R : Type} {n : Nat} (hn : 6 ≤ n) {k : Exit → List A → H → Option R} => @xv9 R L n hn hL I gl nf gf caps gcaps size nx ls (fun {R n id hq k} => kc_n) (fun {R n hq k} => kc_g) hr hsz hx hw hls hll k (size + 1) 0 L r0 [⟨-1, 0, r1⟩] 1 (by rw [hu] at g2; simp only [List.length_nil, Nat.zero_add] at g2; omega) (by simp) (by omega) g1 htr rfl
 simp only [Int.natCast_zero] at loop_a
 have ee : (stepsD [⟨-1, 0, r1⟩]) = [.int .i64 (-1), .int .i64 0, .ivs r1.length (ints r1)] := rfl
 rw [ha]
 clear g1 g2 g3 hg0 hI hx hw hls hr kc_n kc_g htr
 cases r2 with
 | true =>
  obtain ⟨n, rfl⟩ : ∃ m, n = m + 1 := ⟨n - 1, by omega⟩
  rw [xdr]
  simp only [xaj, Try.f117, SLM, simprocAttr]
  simp -implicitDefEqProofs (maxSteps := 2000000) (disch := first | assumption | (refine Shut.mk ?_; kernel_rfl) | omega | (simp only [GT]; done) | (simp only [LN] <;> omega) | fail) only [↓DN, ↓kAsg, ↓kRet, UP, simprocAttr, ↓x3e, ↓x2v, ↓x2d, PE, ↓make_boolC, Int.toNat_natCast, ↓kc_v]
  rfl
 | false =>
  simp only [Bool.false_eq_true, if_false]
  generalize outI nx gl ls (size + 1) 0 (r0, [⟨-1, 0, r1⟩]) = T at *
  generalize outG nx gl ls (size + 1) 0 (r0, [⟨-1, 0, r1⟩]) = w at *
  obtain ⟨w0, w1, w2⟩ := w
  simp only at loop_a ⊢
  cases w0 with
  | true =>
   simp only [if_true] at loop_a ⊢
   obtain ⟨n, rfl⟩ : ∃ m, n = m + 1 := ⟨n - 1, by omega⟩
   rw [xdr]
   simp only [xaj, Try.f117, SLM, simprocAttr]
   simp -implicitDefEqProofs (maxSteps := 2000000) (disch := first | assumption | (refine Shut.mk ?_; kernel_rfl) | omega | (simp only [GT]; done) | (simp only [LN] <;> omega) | fail) only [↓DN, ↓kAsg, ↓kRet, UP, simprocAttr, ↓x3e, ↓x2v, ↓x2d, PE, ↓make_boolC, Int.toNat_natCast, ↓kc_v, ↓loop_a]
   rfl
  | false =>
   simp only [Bool.false_eq_true, if_false] at loop_a ⊢
   obtain ⟨n, rfl⟩ : ∃ m, n = m + 1 := ⟨n - 1, by omega⟩
   rw [xdr]
   simp only [xaj, Try.f117, SLM, simprocAttr]
   simp -implicitDefEqProofs (maxSteps := 2000000) (disch := first | assumption | (refine Shut.mk ?_; kernel_rfl) | omega | (simp only [GT]; done) | (simp only [LN] <;> omega) | fail) only [↓DN, ↓kAsg, ↓kRet, UP, simprocAttr, ↓x3e, ↓x2v, ↓x2d, PE, ↓make_boolC, Int.toNat_natCast, ↓kc_v, ↓loop_a]
   rfl
end Ev
end Go.Proofs.Ytppdfjdfjfoddaa
