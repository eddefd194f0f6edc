/-
  A search for a goal, walked: the word that was found, the x1f.
-/
import Derived.Test.YtppdfjdfjfoddaaPathY
import Derived.Test.YtppdfjdfjfoddaaTwo
import Derived.Test.YtppdfjdfjfoddaaAutH
set_option linter.unusedSimpArgs false
set_option linter.unusedVariables false
set_option maxRecDepth 8000
set_option maxHeartbeats 4000000
namespace Go.Proofs.Ytppdfjdfjfoddaa
namespace Ev
theorem x20b {l : List UInt8} {i j p : Nat} (hi : i < l.length) (hj : j < l.length) : (swp l i j).getD p 0 = if p = j then l.getD i 0 else if p = i then l.getD j 0 else l.getD p 0 := by
 unfold swp
 simp only [List.getD_eq_getElem?_getD,List.getElem?_set,List.length_set]
 by_cases h1 : p = j
 ·subst h1
  simp [hj]
 ·have h1' : ¬ j = p := fun h => h1 h.symm
  by_cases h2 : p = i
  ·subst h2
   simp [hi,h1,h1']
  ·have h2' : ¬ i = p := fun h => h2 h.symm
   simp only [h1,h1',h2,h2',if_false]
theorem x1i1 : ∀ (q : Nat) (i j : Int) (l : List UInt8),0 ≤ i → j < l.length → j - i ≤ q → ∀ p : Nat,p < l.length → (revG q i j l).2.2.getD p 0 = if i ≤ p ∧ (p : Int) ≤ j then l.getD (i + j - p).toNat 0 else l.getD p 0
 | 0,i,j,l,h0,h1,h2,p,hp => by
  unfold revG
  split
  ·rename_i h
   rw [show (i + j - p).toNat = p by omega]
  ·rfl
 | q + 1,i,j,l,h0,h1,h2,p,hp => by
  unfold revG
  split
  ·rename_i hlt
   have hg := fun (x : Nat) => x20b (l := l) (i := i.toNat) (j := j.toNat) (p := x) (by omega) (by omega)
   rw [x1i1 q (i + 1) (j - 1) _ (by omega) (by rw [xo5]; omega) (by omega) p (by rw [xo5]; exact hp)]
   by_cases c1 : i + 1 ≤ (p : Int) ∧ (p : Int) ≤ j - 1
   ·rw [if_pos c1,hg,if_neg (by omega : ¬ (i + 1 + (j - 1) - (p : Int)).toNat = j.toNat),if_neg (by omega : ¬ (i + 1 + (j - 1) - (p : Int)).toNat = i.toNat),if_pos (by omega : i ≤ (p : Int) ∧ (p : Int) ≤ j)]
    congr 1
    omega
   ·rw [if_neg c1,hg]
    by_cases c2 : p = j.toNat
    ·rw [if_pos c2,if_pos (by omega : i ≤ (p : Int) ∧ (p : Int) ≤ j)]
     congr 1
     omega
    ·rw [if_neg c2]
     by_cases c3 : p = i.toNat
     ·rw [if_pos c3,if_pos (by omega : i ≤ (p : Int) ∧ (p : Int) ≤ j)]
      congr 1
      omega
     ·rw [if_neg c3,if_neg (by omega : ¬ (i ≤ (p : Int) ∧ (p : Int) ≤ j))]
  ·rename_i hlt
   split
   ·rename_i h
    rw [show (i + j - p).toNat = p by omega]
   ·rfl
theorem x1v9 (l : List UInt8) : (revG (l.length + 1) 0 ((l.length : Int) - 1) l).2.2 = l.reverse := by
 have hl := (x1ci (l.length + 1) 0 ((l.length : Int) - 1) l (Int.le_refl _) (by omega)).1
 apply List.ext_getElem
 ·rw [hl,List.length_reverse]
 ·intro p h1 h2
  rw [hl] at h1
  have := x1i1 (l.length + 1) 0 ((l.length : Int) - 1) l (Int.le_refl _) (by omega) (by omega) p h1
  rw [if_pos (by omega),List.getD_eq_getElem?_getD,List.getElem?_eq_getElem (by rw [hl]; exact h1),List.getD_eq_getElem?_getD,List.getElem?_eq_getElem (by omega)] at this
  simp only [Option.getD_some] at this
  rw [this,List.getElem_reverse]
  congr 1
  omega
theorem x1fe {l : List PStep} {k : Nat} (h : k < l.length) : (((x2v l).drop (k * 3)).map A.d).head? = some (.d (.int .i64 (l.getD k default).par)) := by
 rw [xoh,x4d h (d := default)]; rfl
theorem x1s3 {l : List PStep} {k : Nat} (h : k < l.length) : (((x2v l).drop (k * 3 + 1)).map A.d).head? = some (.d (.int .i64 (l.getD k default).lt)) := by
 rw [← List.drop_drop,xoh,x4d h (d := default)]; rfl
def x1hi (st : List PStep) : Nat → Nat → Nat
 | 0,i => i
 | j + 1,i => if 0 ≤ (st.getD i default).par then x1hi st j (st.getD i default).par.toNat else i
def Tree (st : List PStep) : Prop := ∀ k,k < st.length → ((st.getD k default).par < (k : Int)) ∧ (0 ≤ (st.getD k default).lt ∧ (st.getD k default).lt ≤ 5)
theorem x1ey (st : List PStep) : ∀ (j i : Nat),(x82 st j i).length ≤ j
 | 0,i => Nat.le_refl _
 | j + 1,i => by
  unfold x82
  split
  ·have := x1ey st j (st.getD i default).par.toNat
   simp only [List.length_append,List.length_cons,List.length_nil]
   omega
  ·simp
theorem x1ag {R : Type} {L n : Nat} (hn : 2 ≤ n) {st : List PStep} (ht : Tree st) (hs : st.length ≤ 16777216) {k : Exit → List A → H → Option R} : ∀ (j i m : Nat) (o : List UInt8) (len : Nat) (hi : i < st.length) (hj : i < j) (hm : j ≤ m) (hlen : len = o.length) (ho : o.length + i ≤ 20000000),
  xg env (x2 env L n) L 0 [0,0,0,2] (U1 (Z1 (U2 (U1 (Z16 (Z8 (Z2 (Z1 ([]))))))))) (xel 0) (Z1 (U1 (Z2 (Z1 (U16 (U8 (U2 (U1 ([]))))))))) m (.d (.ivs st.length (x2v st)) :: Y1 (.d (.str []) :: .sl 0 0 0 len :: .d (.int .i64 ((i : Int))) :: Y16 (Y8 (Y2 (Y1 ([])))))) [.arr (x19 o) 1 0] k
  = k (.exit 0) (.d (.ivs st.length (x2v st)) :: Y1 (.d (.str []) :: .sl 0 0 0 (o ++ (txt (x82 st j i)).reverse).length :: .d (.int .i64 (((x1hi st j i : Nat) : Int))) :: Y16 (Y8 (Y2 (Y1 ([])))))) [.arr (x19 (o ++ (txt (x82 st j i)).reverse)) 1 0] := by
 intro j
 induction j with
 | zero => intro i m o len hi hj; omega
 | succ j ih =>
  intro i m o len hi hj hm hlen ho
  obtain _ | m := m; omega
  subst hlen
  obtain ⟨t1,t2,t3⟩ := ht i hi
  have hc : (i : Int) < st.length := by omega
  by_cases hp : 0 ≤ (st.getD i default).par
  ·have ih' := ih (st.getD i default).par.toNat m (o ++ [xc7 (st.getD i default).lt]) (o.length + 1) (by omega) (by omega) (by omega) (by simp) (by rw [List.length_append,List.length_singleton]; omega)
   rw [show (((st.getD i default).par.toNat : Nat) : Int) = (st.getD i default).par by omega] at ih'
   have h5 : (((st.getD i default).par.toNat : Nat) : Int) = (st.getD i default).par := by omega
   unfold x82 x1hi
   rw [if_pos hp,if_pos hp]
   clear ih
   have e : (txt (x82 st j (st.getD i default).par.toNat ++ [(st.getD i default).lt])).reverse = [xc7 (st.getD i default).lt] ++ (txt (x82 st j (st.getD i default).par.toNat)).reverse := by simp [txt]
   rw [e,← List.append_assoc]
   have g1 := x1fe hi
   have g2 := x1s3 hi
   generalize st.getD i default = s at *
   rw [xqz]
   simp only [xo1,Try.f143,SLM,simprocAttr]
   simp -implicitDefEqProofs (maxSteps := 2000000) (disch := first | assumption | exact ⟨by kernel_rfl⟩ | omega | (simp only [GT,LN] <;> omega) | fail) only [↓DN,↓kAsg,↓kRet,UP,simprocAttr,PE,List.length_drop,List.drop_drop,hc,hp,t2,t3,g1,g2,Int.toNat_natCast,↓xl4,xy8,x1li,x20a,x202,x150,xby,xop,xwt,↓ih']
  ·unfold x82 x1hi
   rw [if_neg hp,if_neg hp]
   have g1 := x1fe hi
   simp only [txt,List.map_nil,List.reverse_nil,List.append_nil]
   rw [xqz]
   simp only [xo1,Try.f143,SLM,simprocAttr]
   simp -implicitDefEqProofs (maxSteps := 2000000) (disch := first | assumption | exact ⟨by kernel_rfl⟩ | omega | (simp only [GT,LN] <;> omega) | fail) only [↓DN,↓kAsg,↓kRet,UP,simprocAttr,↓xl4,PE,hc,hp,g1,Int.toNat_natCast]
theorem x10h {L n : Nat} (hn : 3 ≤ n) (st : List PStep) (ht : Tree st) (hs : st.length ≤ 16777216) (h0 : 0 < st.length) (hL : 2 ^ 60 ≤ L) : x2 env L n 143 [.d (.ivs st.length (x2v st))] [] = some (.d (.str (xuv st)),[]) := by
 have loop_w := fun {R : Type} {n : Nat} {k : Exit → List A → H → Option R} (hn : 2 ≤ n) => @x1ag R L n hn st ht hs k st.length (st.length - 1) L [] 0 (by omega) (by omega) (by omega) rfl (by simp; omega)
 simp only [List.nil_append,x1o1] at loop_w
 have hwl := x1ey st st.length (st.length - 1)
 have hb : (txt (x82 st st.length (st.length - 1))).reverse.length ≤ 2147483648 := by simp [txt]; omega
 have hrr : (txt (x82 st st.length (st.length - 1))).reverse.reverse = xuv st := by rw [List.reverse_reverse]; rfl
 have hwlen : (txt (x82 st st.length (st.length - 1))).reverse.length = (xuv st).length := by simp [xuv]
 generalize (txt (x82 st st.length (st.length - 1))).reverse = w at *
 have e1 : IntKind.i64.wrap ((st.length : Int) - 1) = ((st.length - 1 : Nat) : Int) := by
  rw [show (st.length : Int) - 1 = ((st.length - 1 : Nat) : Int) by omega]
  exact xkv (by omega) (by omega)
 have kc_r := fun {R : Type} {n id g : Nat} {hq : H} {k : A → H → Option R} (hn : 1 ≤ n) (hi : hq[id]? = some (.arr (x19 w) 1 g)) => @x21i R L n id g hq k hn w hi hb hL
 have er := x1v9 w
 rw [hrr] at er
 simp only [er] at kc_r
 simp only [hwlen] at kc_r
 simp only [hwlen] at loop_w
 have h1 : (1 : Int) ≤ st.length := by omega
 obtain _ | n := n; omega
 rw [x1hc]
 simp only [x13m,Try.f143,SLM,simprocAttr]
 simp -implicitDefEqProofs (maxSteps := 2000000) (disch := first | assumption | exact ⟨by kernel_rfl⟩ | omega | (simp only [GT,LN] <;> omega) | fail) only [↓DN,↓kAsg,↓kRet,UP,simprocAttr,↓xl4,PE,↓loop_w,e1,h1,↓kc_r,↓xy5]
theorem x6o {R : Type} {L n : Nat} {hq : H} {k : A → H → Option R} (hn : 3 ≤ n) (st : List PStep) (ht : Tree st) (hs : st.length ≤ 16777216) (h0 : 0 < st.length) (hL : 2 ^ 60 ≤ L) : xe env (x2 env L n) hq 143 [.d (.ivs st.length (x2v st))] k = k (.d (.str (xuv st))) hq :=
 xr rfl (x10h hn st ht hs h0 hL) rfl (.inl rfl)
theorem x5y {R : Type} {L n : Nat} {k : A → Option R} (hn : 3 ≤ n) (st : List PStep) (ht : Tree st) (hs : st.length ≤ 16777216) (h0 : 0 < st.length) (hL : 2 ^ 60 ≤ L) : x14 (x2 env L n) 143 [.d (.ivs st.length (x2v st))] k = k (.d (.str (xuv st))) :=
 x4l (x10h hn st ht hs h0 hL) rfl
theorem x5d {R : Type} {L n : Nat} {hq : H} {k : A → H → Option R} {id0 g0 o0 len0 : Nat}  : xe env (x2 env L n) hq 143 [.sl id0 g0 o0 len0] k = match box (x2m hq [.sl id0 g0 o0 len0]) with
  | .mk (some fs) => x14 (x2 env L n) 143 fs fun r => k r hq
  | _ => none := xp xl2
theorem x1iz {st : List PStep} {p l : Int} {f : List Int} : st.length ≤ (addP st p l f).length := by unfold addP; split <;> simp
theorem x1kb {st : List PStep} {i : Nat} {l : Int} {f : List Int} (ht : Tree st) (hi : i < st.length) (hl : 0 ≤ l ∧ l ≤ 5) : Tree (addP st i l f) := by
 unfold addP
 split
 ·exact ht
 ·intro k hk
  simp only [List.length_append,List.length_cons,List.length_nil] at hk
  by_cases h : k < st.length
  ·rw [xt7 h]; exact ht k h
  ·obtain rfl : k = st.length := by omega
   rw [x13b]
   exact ⟨by show (i : Int) < _; omega,hl⟩
theorem x1np {R : Type} {L n : Nat} (hn : 5 ≤ n) (hL : 2 ^ 60 ≤ L) {I : Int → Prop} {gl : Int → Bool} {nf gf : FuncId} {caps gcaps : List D} {size : Nat} {nx : Int → Int → List Int} {ls ns : List Int} {ii : Nat}
  (kc_n : ∀ {R : Type} {n id : Nat} {hq : H} {k : A → H → Option R} (x c : Int) (o : List Int),4 ≤ n → I x → 0 ≤ c → c < 6 → o.length ≤ 2147483648 → hq[id]? = some (.arr (ints o) 1 0) → xe env (x2 env L n) hq nf (.d (.int .i64 x) :: .d (.int .i64 c) :: .sl id 0 0 o.length :: caps.map A.d) k = k (.sl id (nx x c).length 0 (o ++ nx x c).length) (hq.set id (.arr (ints (o ++ nx x c)) 1 (nx x c).length)))
  (kc_g : ∀ {R : Type} {n : Nat} {hq : H} {k : A → H → Option R} (x : Int),2 ≤ n → I x → xe env (x2 env L n) hq gf (.d (.int .i64 x) :: gcaps.map A.d) k = k (.d (.bool (gl x))) hq)
  (hr : ∀ x,I x → 0 ≤ x ∧ x < size) (hsz : size ≤ 16777216) (hI : ∀ x ∈ ns,I x) (hx : ∀ x c,I x → 0 ≤ c → c < 6 → ∀ y ∈ nx x c,I y) (hw : ∀ x c,(nx x c).length ≤ 64) (hls : ∀ c ∈ ls,0 ≤ c ∧ c ≤ 5) (hll : ls.length ≤ 6) (hnl : ns.length ≤ size) {k : Exit → List A → H → Option R} : ∀ (j q m : Nat) (seen : List Bool) (st : List PStep) (sn : Nat) (hi : q + j = ls.length) (hm : j < m) (hg : PGood I size seen st) (htr : Tree st) (hii : ii < st.length) (hns : (st.getD ii default).ns = ns) (hsn : sn = st.length),
  xg env (x2 env L n) L 0 [0,0,0,0,0,0,0,0,0,0,0,0,0,0,0,0,0,0,2] (Z2 (U2 (Z4 (Z2 (U2 (Z1 (U2 (U1 (Z1 (U2 (Z8 (Z4 (Z2 (U2 (U1 (Z4 (Z2 (Z1 (U2 (U1 (Z16 (Z1 ([]))))))))))))))))))))))) (x3w 1) (U2 (Z2 (U4 (U2 (Z2 (U1 (Z2 (Z1 (U16 (U1 (Z2 (Z1 (U16 (U8 (U2 (U1 ([]))))))))))))))))) m (Y2 (.d (.ivs ls.length (ints ls)) :: .d (.fn nf caps) :: Y4 (Y2 (.d (.str []) :: .d (.bool false) :: Y1 (.ptr 0 0 0 :: .clo 142 [.ptr 1 0 0,.ptr 2 0 0,.ptr 0 0 0] :: .d (.int .i64 ((ii : Int))) :: Y16 (Y1 (.d (.ivs ls.length (ints ls)) :: .d (.int .i64 (ls.length)) :: .d (.int .i64 ((q : Int))) :: Y16 (Y8 (Y2 (Y1 ([]))))))))))) [.box [.sl 3 0 0 sn],.box [.sl 4 0 0 size],.box [.d (.fn gf gcaps)],.arr (x2v st) 3 0,.arr (x3x seen) 1 0] k
  = if (ltG nx gl ns ii (ls.drop q) (seen,st)).1 = true then
    k .ret (Y2 (.d (.ivs ls.length (ints ls)) :: .d (.fn nf caps) :: Y4 (Y2 (.d (.str ((xuv (ltG nx gl ns ii (ls.drop q) (seen,st)).2.2))) :: .d (.bool true) :: Y1 (.ptr 0 0 0 :: .clo 142 [.ptr 1 0 0,.ptr 2 0 0,.ptr 0 0 0] :: .d (.int .i64 ((ii : Int))) :: Y16 (Y1 (.d (.ivs ls.length (ints ls)) :: .d (.int .i64 (ls.length)) :: .d (.int .i64 (((q + ltI nx gl ns ii (ls.drop q) (seen,st) : Nat) : Int))) :: Y16 (Y8 (Y2 (Y1 ([]))))))))))) [.box [.sl 3 0 0 (ltG nx gl ns ii (ls.drop q) (seen,st)).2.2.length],.box [.sl 4 0 0 size],.box [.d (.fn gf gcaps)],.arr (x2v (ltG nx gl ns ii (ls.drop q) (seen,st)).2.2) 3 0,.arr (x3x (ltG nx gl ns ii (ls.drop q) (seen,st)).2.1) 1 0]
   else k (.exit 2) (Y2 (.d (.ivs ls.length (ints ls)) :: .d (.fn nf caps) :: Y4 (Y2 (.d (.str []) :: .d (.bool false) :: Y1 (.ptr 0 0 0 :: .clo 142 [.ptr 1 0 0,.ptr 2 0 0,.ptr 0 0 0] :: .d (.int .i64 ((ii : Int))) :: Y16 (Y1 (.d (.ivs ls.length (ints ls)) :: .d (.int .i64 (ls.length)) :: .d (.int .i64 (ls.length)) :: Y16 (Y8 (Y2 (Y1 ([]))))))))))) [.box [.sl 3 0 0 (ltG nx gl ns ii (ls.drop q) (seen,st)).2.2.length],.box [.sl 4 0 0 size],.box [.d (.fn gf gcaps)],.arr (x2v (ltG nx gl ns ii (ls.drop q) (seen,st)).2.2) 3 0,.arr (x3x (ltG nx gl ns ii (ls.drop q) (seen,st)).2.1) 1 0] := by
 intro j
 induction j with
 | zero =>
  intro q m seen st sn hi hm hg htr hii hns hsn
  obtain _ | m := m; omega
  obtain rfl : q = ls.length := by omega
  subst hsn
  rw [xfp]
  simp only [xfe,Try.f117,SLM,simprocAttr]
  simp -implicitDefEqProofs (maxSteps := 2000000) (disch := first | assumption | exact ⟨by kernel_rfl⟩ | omega | (simp only [GT,LN] <;> omega) | fail) only [↓DN,↓kAsg,↓kRet,UP,simprocAttr,↓x6o,↓x5y,↓x5d,PE,Int.lt_irrefl]
  simp only [List.drop_length,ltG,Bool.false_eq_true,if_false]
 | succ j ih =>
  intro q m seen st sn hi hm hg htr hii hns hsn
  obtain _ | m := m; omega
  subst hsn
  have hc : (q : Int) < ls.length := by omega
  have hk : q < ls.length := by omega
  have hmem : ls.getD q 0 ∈ ls := by rw [List.getD_eq_getElem?_getD,List.getElem?_eq_getElem hk]; exact List.getElem_mem hk
  obtain ⟨c0,c5⟩ := hls _ hmem
  have c6 : ls.getD q 0 < 6 := by omega
  have hiI : (ii : Int) < st.length := by omega
  have hroom := hg.room
  have hstl : st.length ≤ 4294967290 := by omega
  rw [x4d hk (d := 0)]
  have hI2 : ∀ y ∈ flat nx ns (ls.getD q 0),I y := by
   intro y hy
   obtain ⟨x,h1,h2⟩ := List.mem_flatMap.1 hy
   exact hx x (ls.getD q 0) (hI x h1) c0 c6 y h2
  have hfl := x1kf (c := ls.getD q 0) hw ns
  have hfl2 : (flat nx ns (ls.getD q 0)).length ≤ 4294967290 := by omega
  obtain ⟨g1,g2,g3⟩ := xwn (gl := gl) hg hI2 hr (ii : Int) (ls.getD q 0)
  have htr2 : Tree (addP st ii (ls.getD q 0) (visG gl (flat nx ns (ls.getD q 0)) seen [] false).2.1) := x1kb htr hii ⟨c0,c5⟩
  have hlen2 := x1iz (st := st) (p := (ii : Int)) (l := ls.getD q 0) (f := (visG gl (flat nx ns (ls.getD q 0)) seen [] false).2.1)
  have ih' := ih (q + 1) m (visG gl (flat nx ns (ls.getD q 0)) seen [] false).1 (addP st ii (ls.getD q 0) (visG gl (flat nx ns (ls.getD q 0)) seen [] false).2.1) _ (by omega) (by omega) g1 htr2 (by omega) (by rw [x1vi hii]; exact hns) rfl
  have e4 : ((q + 1 : Nat) : Int) = (q : Int) + 1 := by omega
  rw [e4] at ih'
  have loop_c := fun {R : Type} {n : Nat} (hn : 4 ≤ n) {k : Exit → List A → H → Option R} => @x1o9 R L n hn hL I nf caps (.fn gf gcaps) size nx ls ns (x2v st) seen st.length ii q (ls.getD q 0) (fun {R n id hq k} => kc_n) hI hw c0 c6 (by omega) k ns.length 0 L [] 0 (by omega) (by omega) (by simp) rfl
  simp only [List.drop_zero,List.nil_append,xfg,Int.natCast_zero] at loop_c
  have kc_v := fun {R : Type} {n : Nat} {k : A → H → Option R} (hn : 4 ≤ n) => @x1zl R L n k hn hL I gl gf gcaps size (ii : Int) (ls.getD q 0) (flat nx ns (ls.getD q 0)) (fun {R n hq k} => kc_g) hI2 hr (by omega) hfl2 seen hg.len st hstl
  have hroom2 := g1.room
  have kl_w := fun {R : Type} {n : Nat} {k : A → Option R} (hn : 3 ≤ n) => @x5y R L n k hn _ htr2 (by omega) (by omega) hL
  simp only [ltG,ltI]
  clear ih hmem g1 g2 g3 hg hI hI2 hx hw hls hr kc_n kc_g hroom2
  generalize flat nx ns (ls.getD q 0) = fm at *
  generalize visG gl fm seen [] false = v at *
  obtain ⟨v1,v2,v3⟩ := v
  simp only at ih' kc_v kl_w ⊢
  cases v3 with
  | true =>
   rw [xfp]
   simp only [xfe,Try.f117,SLM,simprocAttr]
   simp -implicitDefEqProofs (maxSteps := 2000000) (disch := first | assumption | exact ⟨by kernel_rfl⟩ | omega | (simp only [GT,LN] <;> omega) | fail) only [↓DN,↓kAsg,↓kRet,UP,simprocAttr,↓x6o,↓x5y,↓x5d,PE,hc,hiI,hns,Int.toNat_natCast,↓loop_c,↓kc_v,↓kl_w]
  | false =>
   simp only [Bool.false_eq_true,if_false]
   generalize ltI nx gl ns (ii : Int) (ls.drop (q + 1)) (v1,addP st ii (ls.getD q 0) v2) = T at *
   rw [show q + (T + 1) = q + 1 + T by omega]
   rw [xfp]
   simp only [xfe,Try.f117,SLM,simprocAttr]
   simp -implicitDefEqProofs (maxSteps := 2000000) (disch := first | assumption | exact ⟨by kernel_rfl⟩ | omega | (simp only [GT,LN] <;> omega) | fail) only [↓DN,↓kAsg,↓kRet,UP,simprocAttr,↓x6o,↓x5y,↓x5d,PE,hc,hiI,hns,Int.toNat_natCast,↓loop_c,↓kc_v,↓ih']
theorem x13y {nx : Int → Int → List Int} {gl : Int → Bool} {ns : List Int} {i : Nat} : ∀ (ls : List Int) (hls : ∀ c ∈ ls,0 ≤ c ∧ c ≤ 5) (seen : List Bool) (st : List PStep),Tree st → i < st.length → Tree (ltG nx gl ns i ls (seen,st)).2.2
 | [],_,_,_,h,_ => h
 | l :: ls,hls,seen,st,h,hi => by
  have h2 : Tree (addP st i l (visG gl (flat nx ns l) seen [] false).2.1) := x1kb h hi (hls l List.mem_cons_self)
  unfold ltG
  split
  ·exact h2
  ·exact x13y ls (fun c hc => hls c (List.mem_cons_of_mem _ hc)) _ _ h2 (Nat.lt_of_lt_of_le hi x1iz)
theorem x1om {R : Type} {L n : Nat} (hn : 6 ≤ n) (hL : 2 ^ 60 ≤ L) {I : Int → Prop} {gl : Int → Bool} {nf gf : FuncId} {caps gcaps : List D} {size : Nat} {nx : Int → Int → List Int} {ls : List Int}
  (kc_n : ∀ {R : Type} {n id : Nat} {hq : H} {k : A → H → Option R} (x c : Int) (o : List Int),4 ≤ n → I x → 0 ≤ c → c < 6 → o.length ≤ 2147483648 → hq[id]? = some (.arr (ints o) 1 0) → xe env (x2 env L n) hq nf (.d (.int .i64 x) :: .d (.int .i64 c) :: .sl id 0 0 o.length :: caps.map A.d) k = k (.sl id (nx x c).length 0 (o ++ nx x c).length) (hq.set id (.arr (ints (o ++ nx x c)) 1 (nx x c).length)))
  (kc_g : ∀ {R : Type} {n : Nat} {hq : H} {k : A → H → Option R} (x : Int),2 ≤ n → I x → xe env (x2 env L n) hq gf (.d (.int .i64 x) :: gcaps.map A.d) k = k (.d (.bool (gl x))) hq)
  (hr : ∀ x,I x → 0 ≤ x ∧ x < size) (hsz : size ≤ 16777216) (hx : ∀ x c,I x → 0 ≤ c → c < 6 → ∀ y ∈ nx x c,I y) (hw : ∀ x c,(nx x c).length ≤ 64) (hls : ∀ c ∈ ls,0 ≤ c ∧ c ≤ 5) (hll : ls.length ≤ 6) {k : Exit → List A → H → Option R} : ∀ (j i m : Nat) (seen : List Bool) (st : List PStep) (sn : Nat) (hi : st.length + x8m seen ≤ i + j) (hi2 : i ≤ st.length) (hm : j < m) (hg : PGood I size seen st) (htr : Tree st) (hsn : sn = st.length),
  xg env (x2 env L n) L 0 [0,0,0,0,0,0,0,0,0,0,0,0,0,0,0,0,0,0,2] (Z2 (U2 (Z4 (Z2 (U2 (Z1 (U2 (U1 (Z1 (U2 (Z8 (Z4 (Z2 (U2 (U1 (Z4 (Z2 (Z1 (U2 (U1 (Z16 (Z1 ([]))))))))))))))))))))))) (x3w 0) (U2 (Z2 (U4 (U2 (Z2 (U1 (Z2 (Z1 (U32 (U8 (U4 (U2 (U1 ([])))))))))))))) m (Y2 (.d (.ivs ls.length (ints ls)) :: .d (.fn nf caps) :: Y4 (Y2 (.d (.str []) :: .d (.bool false) :: Y1 (.ptr 0 0 0 :: .clo 142 [.ptr 1 0 0,.ptr 2 0 0,.ptr 0 0 0] :: .d (.int .i64 ((i : Int))) :: Y32 (Y8 (Y4 (Y2 (Y1 ([])))))))))) [.box [.sl 3 0 0 sn],.box [.sl 4 0 0 size],.box [.d (.fn gf gcaps)],.arr (x2v st) 3 0,.arr (x3x seen) 1 0] k
  = if (outG nx gl ls j i (seen,st)).1 = true then
    k .ret (Y2 (.d (.ivs ls.length (ints ls)) :: .d (.fn nf caps) :: Y4 (Y2 (.d (.str ((xuv (outG nx gl ls j i (seen,st)).2.2))) :: .d (.bool true) :: Y1 (.ptr 0 0 0 :: .clo 142 [.ptr 1 0 0,.ptr 2 0 0,.ptr 0 0 0] :: .d (.int .i64 (((outI nx gl ls j i (seen,st) : Nat) : Int))) :: Y32 (Y8 (Y4 (Y2 (Y1 ([])))))))))) [.box [.sl 3 0 0 (outG nx gl ls j i (seen,st)).2.2.length],.box [.sl 4 0 0 size],.box [.d (.fn gf gcaps)],.arr (x2v (outG nx gl ls j i (seen,st)).2.2) 3 0,.arr (x3x (outG nx gl ls j i (seen,st)).2.1) 1 0]
   else k (.exit 0) (Y2 (.d (.ivs ls.length (ints ls)) :: .d (.fn nf caps) :: Y4 (Y2 (.d (.str []) :: .d (.bool false) :: Y1 (.ptr 0 0 0 :: .clo 142 [.ptr 1 0 0,.ptr 2 0 0,.ptr 0 0 0] :: .d (.int .i64 (((outI nx gl ls j i (seen,st) : Nat) : Int))) :: Y32 (Y8 (Y4 (Y2 (Y1 ([])))))))))) [.box [.sl 3 0 0 (outG nx gl ls j i (seen,st)).2.2.length],.box [.sl 4 0 0 size],.box [.d (.fn gf gcaps)],.arr (x2v (outG nx gl ls j i (seen,st)).2.2) 3 0,.arr (x3x (outG nx gl ls j i (seen,st)).2.1) 1 0] := by
 intro j
 induction j with
 | zero =>
  intro i m seen st sn hi hi2 hm hg htr hsn
  obtain _ | m := m; omega
  obtain rfl : i = st.length := by omega
  subst hsn
  simp only [outG,outI,Bool.false_eq_true,if_false]
  rw [xc3]
  simp only [xc4,Try.f117,SLM,simprocAttr]
  simp -implicitDefEqProofs (maxSteps := 2000000) (disch := first | assumption | exact ⟨by kernel_rfl⟩ | omega | (simp only [GT,LN] <;> omega) | fail) only [↓DN,↓kAsg,↓kRet,UP,simprocAttr,↓x6o,↓x5y,↓x5d,PE,Int.lt_irrefl]
 | succ j ih =>
  intro i m seen st sn hi hi2 hm hg htr hsn
  obtain _ | m := m; omega
  subst hsn
  by_cases hc : i < st.length
  ·have hci : (i : Int) < st.length := by omega
   have hroom := hg.room
   have hmem : st.getD i default ∈ st := by rw [List.getD_eq_getElem?_getD,List.getElem?_eq_getElem hc]; exact List.getElem_mem hc
   have hI := hg.node _ hmem
   have hnl := hg.wide _ hmem
   obtain ⟨k1,k2,k3⟩ := x10e (gl := gl) (nx := nx) (p := (i : Int)) hr hI ls (seen,st) (fun x c h1 h2 => hx x c h1 (hls c h2).1 (by have := (hls c h2).2; omega)) hg
   have ktr := x13y (gl := gl) (nx := nx) (ns := (st.getD i default).ns) ls hls seen st htr hc
   have loop_b := fun {R : Type} {n : Nat} (hn : 5 ≤ n) {k : Exit → List A → H → Option R} => @x1np R L n hn hL I gl nf gf caps gcaps size nx ls (st.getD i default).ns i (fun {R n id hq k} => kc_n) (fun {R n hq k} => kc_g) hr hsz hI hx hw hls hll hnl k ls.length 0 L seen st st.length (by omega) (by omega) hg htr hc rfl rfl
   simp only [List.drop_zero,Int.natCast_zero,Nat.zero_add] at loop_b
   have ih' := ih (i + 1) m (ltG nx gl (st.getD i default).ns i ls (seen,st)).2.1 (ltG nx gl (st.getD i default).ns i ls (seen,st)).2.2 _ (by have : (ltG nx gl (st.getD i default).ns i ls (seen,st)).2.2.length + x8m (ltG nx gl (st.getD i default).ns i ls (seen,st)).2.1 ≤ st.length + x8m seen := k2; omega) (by have : st.length ≤ (ltG nx gl (st.getD i default).ns i ls (seen,st)).2.2.length := k3; omega) (by omega) k1 ktr rfl
   have e4 : ((i + 1 : Nat) : Int) = (i : Int) + 1 := by omega
   rw [e4] at ih'
   simp only [outG,outI,hc,if_true]
   clear ih hmem k1 k2 k3 ktr hg hI hx hw hls hr kc_n kc_g hnl
   generalize ltI nx gl (st.getD i default).ns (i : Int) ls (seen,st) = T at *
   generalize ltG nx gl (st.getD i default).ns (i : Int) ls (seen,st) = w at *
   obtain ⟨w0,w1,w2⟩ := w
   simp only at ih' loop_b ⊢
   have hll3 : ls.length ≤ 4294967290 := by omega
   cases w0 with
   | true =>
    simp only [if_true] at loop_b
    rw [xc3]
    simp only [xc4,Try.f117,SLM,simprocAttr]
    simp -implicitDefEqProofs (maxSteps := 2000000) (disch := first | assumption | exact ⟨by kernel_rfl⟩ | omega | (simp only [GT,LN] <;> omega) | fail) only [↓DN,↓kAsg,↓kRet,UP,simprocAttr,↓x6o,↓x5y,↓x5d,PE,hci,Int.toNat_natCast,↓loop_b]
   | false =>
    simp only [Bool.false_eq_true,if_false] at loop_b ⊢
    rw [xc3]
    simp only [xc4,Try.f117,SLM,simprocAttr]
    simp -implicitDefEqProofs (maxSteps := 2000000) (disch := first | assumption | exact ⟨by kernel_rfl⟩ | omega | (simp only [GT,LN] <;> omega) | fail) only [↓DN,↓kAsg,↓kRet,UP,simprocAttr,↓x6o,↓x5y,↓x5d,PE,hci,Int.toNat_natCast,↓loop_b,↓ih']
  ·obtain rfl : i = st.length := by omega
   simp only [outG,outI,hc,Bool.false_eq_true,if_false]
   rw [xc3]
   simp only [xc4,Try.f117,SLM,simprocAttr]
   simp -implicitDefEqProofs (maxSteps := 2000000) (disch := first | assumption | exact ⟨by kernel_rfl⟩ | omega | (simp only [GT,LN] <;> omega) | fail) only [↓DN,↓kAsg,↓kRet,UP,simprocAttr,↓x6o,↓x5y,↓x5d,PE,Int.lt_irrefl]
theorem x103 {n : Int} {h : H} (h0 : 0 ≤ n) (h1 : n ≤ 4294967296) : x8s env.P h 24 n n = some (.sl h.length 0 0 n.toNat,h ++ [.arr (x3x (List.replicate n.toNat false)) 1 0]) := by
 have hm : n ≤ (x2g : Nat) := by unfold x2g; omega
 have he : x12 env.P 24 = some 4 := by kernel_rfl
 have hz : x1g env.P 4 = some (.d (.bool false)) := by kernel_rfl
 have hok : x1b env.P 4 = true := by kernel_rfl
 have hc : env.P.cellsOf 4 = 1 := by kernel_rfl
 simp only [x8s,he,hz,xh,xlm,Option.map_some,hok,h0,hm,hc,Int.le_refl,and_self,if_true,x3x,List.map_replicate,List.flatten_replicate_singleton]
theorem x1d5 {L n : Nat} (hn : 7 ≤ n) (hL : 2 ^ 60 ≤ L) {I : Int → Prop} {gl : Int → Bool} {nf gf : FuncId} {caps gcaps : List D} {size : Nat} {nx : Int → Int → List Int} {ls ns : List Int}
  (kc_n : ∀ {R : Type} {n id : Nat} {hq : H} {k : A → H → Option R} (x c : Int) (o : List Int),4 ≤ n → I x → 0 ≤ c → c < 6 → o.length ≤ 2147483648 → hq[id]? = some (.arr (ints o) 1 0) → xe env (x2 env L n) hq nf (.d (.int .i64 x) :: .d (.int .i64 c) :: .sl id 0 0 o.length :: caps.map A.d) k = k (.sl id (nx x c).length 0 (o ++ nx x c).length) (hq.set id (.arr (ints (o ++ nx x c)) 1 (nx x c).length)))
  (kc_g : ∀ {R : Type} {n : Nat} {hq : H} {k : A → H → Option R} (x : Int),2 ≤ n → I x → xe env (x2 env L n) hq gf (.d (.int .i64 x) :: gcaps.map A.d) k = k (.d (.bool (gl x))) hq)
  (hr : ∀ x,I x → 0 ≤ x ∧ x < size) (hsz : size ≤ 16777216) (hI : ∀ x ∈ ns,I x) (hx : ∀ x c,I x → 0 ≤ c → c < 6 → ∀ y ∈ nx x c,I y) (hw : ∀ x c,(nx x c).length ≤ 64) (hls : ∀ c ∈ ls,0 ≤ c ∧ c ≤ 5) (hll : ls.length ≤ 6) (hne : ns ≠ []) (hnl : ns.length ≤ size) :
  x2 env L n 117 [.d (.int .i64 size),.d (.ivs ns.length (ints ns)),.d (.ivs ls.length (ints ls)),.d (.fn nf caps),.d (.fn gf gcaps)] [] = some (.tup [.d (.str (txt (xza nx gl ls ns size).1)),.d (.bool (xza nx gl ls ns size).2)],[]) := by
 have hs0 : (0 : Int) ≤ size := by omega
 have hs1 : (size : Int) ≤ 4294967296 := by omega
 have kc_v := fun {R : Type} {n : Nat} {k : A → H → Option R} {p l : Int} (hn : 4 ≤ n) => @x20y R L n k hn hL I gl gf gcaps size p l ns (fun {R n hq k} => kc_g) hI hr (by omega) (by omega) hne
 have hu : x8m (List.replicate size false) = size := by simp [x8m]
 have hg0 : PGood I size (List.replicate size false) [] := ⟨by simp,by simp,by rw [hu]; simp,by simp⟩
 obtain ⟨g1,g2,g3⟩ := xwn (gl := gl) hg0 hI hr (-1) 0
 have hpos := x1kd (size := size) hne
 rw [← (xlz gl ns (List.replicate size false) [] false).2] at hpos
 unfold xza
 generalize visG gl ns (List.replicate size false) [] false = r at *
 obtain ⟨r0,r1,r2⟩ := r
 simp only at g1 g2 g3 hpos kc_v ⊢
 have ha : addP [] (-1) 0 r1 = [⟨-1,0,r1⟩] := by
  unfold addP
  rw [if_neg (List.length_pos_iff.1 hpos)]; rfl
 rw [ha] at g1 g2
 have htr : Tree [⟨-1,0,r1⟩] := by
  intro k hk
  obtain rfl : k = 0 := by simpa using hk
  exact ⟨by show (-1 : Int) < _; omega,by show (0 : Int) ≤ 0 ∧ (0 : Int) ≤ 5; decide⟩
 have loop_a := fun {R : Type} {n : Nat} (hn : 6 ≤ n) {k : Exit → List A → H → Option R} => @x1om R L n hn hL I gl nf gf caps gcaps size nx ls (fun {R n id hq k} => kc_n) (fun {R n hq k} => kc_g) hr hsz hx hw hls hll k (size + 1) 0 L r0 [⟨-1,0,r1⟩] 1 (by rw [hu] at g2; simp only [List.length_nil,Nat.zero_add] at g2; omega) (by simp) (by omega) g1 htr rfl
 simp only [Int.natCast_zero] at loop_a
 have ee : (x2v [⟨-1,0,r1⟩]) = [.int .i64 (-1),.int .i64 0,.ivs r1.length (ints r1)] := rfl
 rw [ha]
 clear g1 g2 g3 hg0 hI hx hw hls hr kc_n kc_g htr
 cases r2 with
 | true =>
  obtain _ | n := n; omega
  rw [xnq]
  simp only [xj7,Try.f117,SLM,simprocAttr]
  simp -implicitDefEqProofs (maxSteps := 2000000) (disch := first | assumption | exact ⟨by kernel_rfl⟩ | omega | (simp only [GT,LN] <;> omega) | fail) only [↓DN,↓kAsg,↓kRet,UP,simprocAttr,↓x6o,↓x5y,↓x5d,PE,↓x103,Int.toNat_natCast,↓kc_v]
  rfl
 | false =>
  simp only [Bool.false_eq_true,if_false]
  generalize outI nx gl ls (size + 1) 0 (r0,[⟨-1,0,r1⟩]) = T at *
  generalize outG nx gl ls (size + 1) 0 (r0,[⟨-1,0,r1⟩]) = w at *
  obtain ⟨w0,w1,w2⟩ := w
  simp only at loop_a ⊢
  cases w0 with
  | true =>
   simp only [if_true] at loop_a ⊢
   obtain _ | n := n; omega
   rw [xnq]
   simp only [xj7,Try.f117,SLM,simprocAttr]
   simp -implicitDefEqProofs (maxSteps := 2000000) (disch := first | assumption | exact ⟨by kernel_rfl⟩ | omega | (simp only [GT,LN] <;> omega) | fail) only [↓DN,↓kAsg,↓kRet,UP,simprocAttr,↓x6o,↓x5y,↓x5d,PE,↓x103,Int.toNat_natCast,↓kc_v,↓loop_a]
   rfl
  | false =>
   simp only [Bool.false_eq_true,if_false] at loop_a ⊢
   obtain _ | n := n; omega
   rw [xnq]
   simp only [xj7,Try.f117,SLM,simprocAttr]
   simp -implicitDefEqProofs (maxSteps := 2000000) (disch := first | assumption | exact ⟨by kernel_rfl⟩ | omega | (simp only [GT,LN] <;> omega) | fail) only [↓DN,↓kAsg,↓kRet,UP,simprocAttr,↓x6o,↓x5y,↓x5d,PE,↓x103,Int.toNat_natCast,↓kc_v,↓loop_a]
   rfl
theorem x7b {a : Aut} (h : AOK a) : xt a.nx ∧ xbc (x8 a.al).length a.nx ∧ 1 ≤ a.nx.length ∧ a.nx.length ≤ 12 ∧ a.ac.length = a.nx.length := by
 obtain ⟨a1,a2,a3,a4⟩ := xkg h
 have aw := xrr h
 exact ⟨⟨by omega,fun r hr => by have := aw r hr; have := x4j a.al; omega⟩,aw,a1,a2,a3⟩
def tabP (a : Aut) : D := .iptr [.ivs a.nx.length (ints (xi0 a.al a.nx))]
def autP (a : Aut) : D := .iptr [.int .i64 a.al,.ivs a.nx.length (xc a.nx),.ivs a.ac.length (xb a.ac)]
def inP (a b : Aut) (x : Int) : Prop := 0 ≤ x ∧ x < (a.nx.length : Int) * b.nx.length
theorem x11m {L n : Nat} (hn : 1 ≤ n) {a b : Aut} (ha : AOK a) (hb : AOK b) {x c : Int} (hx : inP a b x) (hc0 : 0 ≤ c) (hc6 : c < 6) (o : List Int) (ho : o.length ≤ 2147483648) :
  x2 env L n 116 [.d (.int .i64 x),.d (.int .i64 c),.sl 0 0 0 o.length,.d (tabP a),.d (.iptr [.int .i64 b.nx.length]),.d (tabP b)] [.arr (ints o) 1 0] = some (.sl 0 (nxT a b x c).length 0 (o ++ nxT a b x c).length,[.arr (ints (o ++ nxT a b x c)) 1 (nxT a b x c).length]) := by
 obtain ⟨sa,wa,a1,a2,a3⟩ := x7b ha
 obtain ⟨sb,wb,b1,b2,b3⟩ := x7b hb
 obtain ⟨p,q⟩ := xoa (na := a.nx.length) (nb := b.nx.length) (by omega) hx.1 hx.2
 have ga := xo4 ha p.1 p.2 hc0 hc6
 have gb := xo4 hb q.1 q.2 hc0 hc6
 have hla := xgu a.al a.nx
 have hlb := xgu b.al b.nx
 have hta := x1mh (al := a.al) p.1 p.2 hc0 hc6
 have htb := x1mh (al := b.al) q.1 q.2 hc0 hc6
 rw [List.drop_drop] at hta htb
 have hprod : (a.nx.length : Int) * b.nx.length ≤ 144 := by
  have h1 : (a.nx.length : Int) * b.nx.length ≤ 12 * b.nx.length := Int.mul_le_mul_of_nonneg_right (by omega) (by omega)
  omega
 have hx1 := hx.2
 have hin := xsb ga gb
 have hm0 : 0 ≤ goI a.al a.nx (x.tdiv b.nx.length) c * b.nx.length := Int.mul_nonneg ga.1 (by omega)
 have hb0 : ¬ (b.nx.length : Int) = 0 := by omega
 unfold nxT tabP
 have d1 : (x.tdiv b.nx.length).toNat * 6 ≤ a.nx.length * 6 := by omega
 have d2 : (x.tmod b.nx.length).toNat * 6 ≤ b.nx.length * 6 := by omega
 have d3 : c.toNat < a.nx.length * 6 - (x.tdiv b.nx.length).toNat * 6 := by omega
 have d4 : c.toNat < b.nx.length * 6 - (x.tmod b.nx.length).toNat * 6 := by omega
 generalize goI a.al a.nx (x.tdiv b.nx.length) c = g1 at *
 generalize goI b.al b.nx (x.tmod b.nx.length) c = g2 at *
 obtain ⟨x0,x1⟩ := hx
 obtain ⟨p0,p1⟩ := p
 obtain ⟨q0,q1⟩ := q
 have xs : x ≤ 144 := by omega
 have hl1 : ((List.length [g1 * (b.nx.length : Int) + g2])) = 1 := rfl
 clear ha hb sa sb wa wb x1
 obtain _ | n := n; omega
 rw [x11n]
 simp only [xpp,Try.f116,SLM,simprocAttr]
 simp -implicitDefEqProofs (maxSteps := 2000000) (disch := first | assumption | exact ⟨by kernel_rfl⟩ | omega | (simp only [GT,LN] <;> omega) | fail) only [↓DN,↓kAsg,↓kRet,UP,simprocAttr,hla,hlb,hta,htb,hb0,p0,p1,q0,q1,d1,d2,d3,d4,u_t6,u_a6,c_a6,x15i,Int.toNat_natCast,List.length_drop,List.drop_drop,x2s,x5z,List.length_append,hl1]
theorem x1os {R : Type} {L n id : Nat} {hq : H} {k : A → H → Option R} (hn : 1 ≤ n) {a b : Aut} (ha : AOK a) (hb : AOK b) (x c : Int) (o : List Int) (hx : inP a b x) (hc0 : 0 ≤ c) (hc6 : c < 6) (ho : o.length ≤ 2147483648) (hid : hq[id]? = some (.arr (ints o) 1 0)) :
  xe env (x2 env L n) hq 116 (.d (.int .i64 x) :: .d (.int .i64 c) :: .sl id 0 0 o.length :: [tabP a,.iptr [.int .i64 b.nx.length],tabP b].map A.d) k
  = k (.sl id (nxT a b x c).length 0 (o ++ nxT a b x c).length) (hq.set id (.arr (ints (o ++ nxT a b x c)) 1 (nxT a b x c).length)) := by
 refine x1o5 hid (by simp [idsL,idsA]) xcy ?_
 have hpl : xa [id] id = some 0 := by simp [xa]
 simp only [List.map_cons,List.map_nil,x7,mapA,hpl]
 exact x11m hn ha hb hx hc0 hc6 o ho
theorem x22e : x1e env.P 97 = some false := by kernel_rfl
theorem x11l {L n : Nat} (hn : 2 ≤ n) {a b : Aut} {f : Bool → Bool → Bool} {go : FuncId} (hm : (env.hint go).mode = 0) (kc_o : ∀ (x y : Bool) {R : Type} {n : Nat} {hq : H} {k : A → H → Option R},1 ≤ n → xe env (x2 env L n) hq go [.d (.bool x),.d (.bool y)] k = k (.d (.bool (f x y))) hq) (ha : AOK a) (hb : AOK b) {x : Int} (hx : inP a b x) :
  x2 env L n 118 [.d (.int .i64 x),.d (.iptr [.fn go []]),.d (autP a),.d (.iptr [.int .i64 b.nx.length]),.d (autP b)] [] = some (.d (.bool (glT f a b x)),[]) := by
 obtain ⟨sa,wa,a1,a2,a3⟩ := x7b ha
 obtain ⟨sb,wb,b1,b2,b3⟩ := x7b hb
 obtain ⟨p,q⟩ := xoa (na := a.nx.length) (nb := b.nx.length) (by omega) hx.1 hx.2
 have hprod : (a.nx.length : Int) * b.nx.length ≤ 144 := by
  have h1 : (a.nx.length : Int) * b.nx.length ≤ 12 * b.nx.length := Int.mul_le_mul_of_nonneg_right (by omega) (by omega)
  omega
 have hb0 : ¬ (b.nx.length : Int) = 0 := by omega
 have e1 : (x.tdiv b.nx.length).toNat < a.ac.length := by omega
 have e2 : (x.tmod b.nx.length).toNat < b.ac.length := by omega
 have e3 : x.tdiv b.nx.length < (a.ac.length : Int) := by omega
 have e4 : x.tmod b.nx.length < (b.ac.length : Int) := by omega
 obtain ⟨x0,x1⟩ := hx
 obtain ⟨p0,p1⟩ := p
 obtain ⟨q0,q1⟩ := q
 have xs : x ≤ 144 := by omega
 have kc_p := fun {R : Type} {n : Nat} {hq : H} {k : A → H → Option R} (hn : 1 ≤ n) => kc_o (a.ac.getD (x.tdiv b.nx.length).toNat false) (b.ac.getD (x.tmod b.nx.length).toNat false) (R := R) (n := n) (hq := hq) (k := k) hn
 unfold glT autP
 clear ha hb sa sb wa wb x1 kc_o
 obtain _ | n := n; omega
 rw [x11r]
 simp only [xoz,Try.f118,SLM,simprocAttr]
 simp -implicitDefEqProofs (maxSteps := 2000000) (disch := first | assumption | exact ⟨by kernel_rfl⟩ | omega | (simp only [GT,LN] <;> omega) | fail) only [↓DN,↓kAsg,↓kRet,UP,simprocAttr,LA,x22e,hm,hb0,p0,e3,q0,e4,e1,e2,↓kc_p,List.length_drop,List.drop_drop]
theorem x1on {R : Type} {L n : Nat} {hq : H} {k : A → H → Option R} (hn : 2 ≤ n) {a b : Aut} {f : Bool → Bool → Bool} {go : FuncId} (hm : (env.hint go).mode = 0) (kc_o : ∀ (x y : Bool) {R : Type} {n : Nat} {hq : H} {k : A → H → Option R},1 ≤ n → xe env (x2 env L n) hq go [.d (.bool x),.d (.bool y)] k = k (.d (.bool (f x y))) hq) (ha : AOK a) (hb : AOK b) (x : Int) (hx : inP a b x) :
  xe env (x2 env L n) hq 118 (.d (.int .i64 x) :: [.iptr [.fn go []],autP a,.iptr [.int .i64 b.nx.length],autP b].map A.d) k = k (.d (.bool (glT f a b x))) hq :=
 xr rfl (x11l hn hm kc_o ha hb hx) rfl (.inl rfl)
theorem x18t {R : Type} {L n : Nat} {hq : H} {k : A → H → Option R} {a b : A} {id g o len f1 f2 : Nat} {c1 c2 : List A} : xe env (x2 env L n) hq 117 [a,.sl id g o len,b,.clo f1 c1,.clo f2 c2] k = match box (x2m hq [a,.sl id g o len,b,.clo f1 c1,.clo f2 c2]) with
  | .mk (some fs) => x14 (x2 env L n) 117 fs fun r => k r hq
  | _ => none := xp xjn
theorem x22a {v : Int} : ints [v] = [.int .i64 v] := rfl
theorem x17z {L n : Nat} (hn : 8 ≤ n) (hL : 2 ^ 60 ≤ L) {a b : Aut} {f : Bool → Bool → Bool} {go : FuncId} (hm : (env.hint go).mode = 0) (kc_o : ∀ (x y : Bool) {R : Type} {n : Nat} {hq : H} {k : A → H → Option R},1 ≤ n → xe env (x2 env L n) hq go [.d (.bool x),.d (.bool y)] k = k (.d (.bool (f x y))) hq) (ha : AOK a) (hb : AOK b) {i j : Int} (hi : 0 ≤ i ∧ i < a.nx.length) (hj : 0 ≤ j ∧ j < b.nx.length) :
  x2 env L n 88 [.agg [.d (.int .i64 a.al),.d (.ivs a.nx.length (xc a.nx)),.d (.ivs a.ac.length (xb a.ac))],.agg [.d (.int .i64 b.al),.d (.ivs b.nx.length (xc b.nx)),.d (.ivs b.ac.length (xb b.ac))],.d (.int .i64 i),.d (.int .i64 j),.d (.fn go [])] [] = some (.tup [.d (.str (txt (twoG f a b i j).1)),.d (.bool (twoG f a b i j).2)],[]) := by
 obtain ⟨sa,wa,a1,a2,a3⟩ := x7b ha
 obtain ⟨sb,wb,b1,b2,b3⟩ := x7b hb
 have hprod : (a.nx.length : Int) * b.nx.length ≤ 144 := by
  have h1 : (a.nx.length : Int) * b.nx.length ≤ 12 * b.nx.length := Int.mul_le_mul_of_nonneg_right (by omega) (by omega)
  omega
 have hprodN : a.nx.length * b.nx.length ≤ 144 := by
  have := hprod; rw [← Int.natCast_mul] at this; omega
 have hin := xsb hi hj
 have hp := fun {n : Nat} (hn : 7 ≤ n) => @x1d5 L n hn hL (inP a b) (glT f a b) 116 118 [tabP a,.iptr [.int .i64 b.nx.length],tabP b] [.iptr [.fn go []],autP a,.iptr [.int .i64 b.nx.length],autP b] (a.nx.length * b.nx.length) (nxT a b) (x8 a.al) [i * b.nx.length + j]
  (fun {R n id hq k} x c o h4 hI h0 h6 ho hid => x1os (by omega) ha hb x c o hI h0 h6 ho hid)
  (fun {R n hq k} x h2 hI => x1on h2 hm kc_o ha hb x hI)
  (fun x hI => by rw [Int.natCast_mul]; exact hI) (by omega) (fun x hx => by simp at hx; subst hx; exact hin) (fun x c hI h0 h6 y hy => x158 ha hb hI.1 hI.2 ⟨h0,h6⟩ y hy) (fun x c => by simp [nxT]) xay (x4j a.al) (by simp) (by
   have : 0 < (a.nx.length : Int) * b.nx.length := Int.mul_pos (by omega) (by omega)
   rw [← Int.natCast_mul] at this
   simp only [List.length_cons,List.length_nil]; omega)
 have kl_p := fun {R : Type} {n : Nat} {k : A → Option R} (hn : 7 ≤ n) => x4l (k := k) (hp (n := n) hn) rfl
 have er : xza (nxT a b) (glT f a b) (x8 a.al) [i * b.nx.length + j] (a.nx.length * b.nx.length) = twoG f a b i j := rfl
 rw [er] at kl_p
 simp only [x22a,List.length_cons,List.length_nil,Nat.zero_add,Int.natCast_mul,tabP,autP] at kl_p
 have hi2 : 0 ≤ i * (b.nx.length : Int) := Int.mul_nonneg hi.1 (by omega)
 obtain ⟨i0,i1⟩ := hi
 obtain ⟨j0,j1⟩ := hj
 obtain ⟨n0,n1⟩ := hin
 have hm0 : 0 ≤ (a.nx.length : Int) * b.nx.length := by omega
 have hla := xgu a.al a.nx
 have hlb := xgu b.al b.nx
 clear hp kc_o ha hb er
 generalize twoG f a b i j = r at *
 obtain _ | n := n; omega
 rw [x18r]
 simp only [xvx,Try.f88,SLM,simprocAttr]
 simp -implicitDefEqProofs (maxSteps := 2000000) (disch := first | assumption | exact ⟨by kernel_rfl⟩ | omega | (simp only [GT,LN] <;> omega) | fail) only [↓DN,↓kAsg,↓kRet,UP,simprocAttr,↓x1ho,↓x1m,LA,sa,wa,sb,wb,↓x18t,↓kl_p,Int.toNat_natCast,x3f,hla,hlb]
def xyl (a : Aut) (i j : Int) : Bool := x8j a.al a.nx a.ac && (decide (0 ≤ i) && decide (i < a.nx.length)) && (decide (0 ≤ j) && decide (j < a.nx.length))
def x5u (a : Aut) (i j : Int) : List Int × Bool := if xyl a i j = true then twoG (fun x y => x != y) a a i j else ([],false)
theorem x11k {L n : Nat} (hn : 1 ≤ n) (x y : Bool) : x2 env L n 89 [.d (.bool x),.d (.bool y)] [] = some (.d (.bool (x != y)),[]) := by
 obtain _ | n := n; omega
 rw [x11h]
 simp only [xpo,Try.f89,SLM,simprocAttr]
 simp -implicitDefEqProofs (maxSteps := 2000000) (disch := first | assumption | exact ⟨by kernel_rfl⟩ | omega | (simp only [GT,LN] <;> omega) | fail) only [↓DN,↓kAsg,↓kRet,UP,simprocAttr,xs0]
 all_goals (cases x <;> cases y <;> rfl)
theorem x61 {R : Type} {L n : Nat} {hq : H} {k : A → H → Option R} (hn : 1 ≤ n) (x y : Bool) : xe env (x2 env L n) hq 89 [.d (.bool x),.d (.bool y)] k = k (.d (.bool (x != y))) hq :=
 xr rfl (x11k hn x y) rfl (.inl rfl)
theorem xt1 {L n : Nat} (hn : 9 ≤ n) (a : Aut) (i j : Int) (hs : xt a.nx) (hac : a.ac.length ≤ 4294967296) (hL : 2 ^ 60 ≤ L) : x2 env L n 60 [.agg [.d (.int .i64 a.al),.d (.ivs a.nx.length (xc a.nx)),.d (.ivs a.ac.length (xb a.ac))],.d (.int .i64 i),.d (.int .i64 j)] [] = some (.tup [.d (.str (txt (x5u a i j).1)),.d (.bool (x5u a i j).2)],[]) := by
 have hrl := hs.1
 unfold x5u xyl
 cases hv : x8j a.al a.nx a.ac with
 | false =>
  simp only [Bool.false_and,Bool.false_eq_true,if_false,txt,List.map_nil]
  obtain _ | n := n; omega
  rw [x9n]
  simp only [x8q,Try.f60,SLM,simprocAttr]
  simp -implicitDefEqProofs (maxSteps := 2000000) (disch := first | assumption | exact ⟨by kernel_rfl⟩ | omega | (simp only [GT,LN] <;> omega) | fail) only [↓DN,↓kAsg,↓kRet,UP,simprocAttr,↓x2j,↓x61,↓x2i,↓x1q,↓x1p,↓x1o,LA,hv]
 | true =>
  by_cases h1 : 0 ≤ i
  ·by_cases h2 : i < a.nx.length
   ·by_cases h3 : 0 ≤ j
    ·by_cases h4 : j < a.nx.length
     ·simp only [h1,h2,h3,h4,decide_true,Bool.and_self,if_true]
      have kl_b := fun {R : Type} {n : Nat} {k : A → Option R} (hn : 8 ≤ n) => x4l (call := x2 env L n) (k := k) (f := 88) (@x17z L n hn hL a a (fun x y => x != y) 89 xd5 (fun x y {R n hq k} hn => x61 hn x y) hv hv i j ⟨h1,h2⟩ ⟨h3,h4⟩) rfl
      have kv_l := fun {R : Type} {n : Nat} {hq : H} {args : List A} {k : A → H → Option R} => xp (E := env) (call := x2 env L n) (h := hq) (k := k) (args := args) xg7
      generalize twoG (fun x y => x != y) a a i j = r at *
      have g1 : ¬ i < 0 := by omega
      have g2 : ¬ (a.nx.length : Int) ≤ i := by omega
      have g3 : ¬ j < 0 := by omega
      have g4 : ¬ (a.nx.length : Int) ≤ j := by omega
      obtain _ | n := n; omega
      rw [x9n]
      simp only [x8q,Try.f60,SLM,simprocAttr]
      simp -implicitDefEqProofs (maxSteps := 2000000) (disch := first | assumption | exact ⟨by kernel_rfl⟩ | omega | (simp only [GT,LN] <;> omega) | fail) only [↓DN,↓kAsg,↓kRet,UP,simprocAttr,↓x2j,↓x61,↓x2i,↓x1q,↓x1p,↓x1o,LA,hv,g1,g2,g3,g4,↓kv_l,↓kl_b]
     ·simp only [h1,h2,h3,h4,decide_true,decide_false,Bool.and_self,Bool.and_false,Bool.false_eq_true,if_false,txt,List.map_nil]
      have g1 : ¬ i < 0 := by omega
      have g2 : ¬ (a.nx.length : Int) ≤ i := by omega
      have g3 : ¬ j < 0 := by omega
      have g4 : (a.nx.length : Int) ≤ j := by omega
      obtain _ | n := n; omega
      rw [x9n]
      simp only [x8q,Try.f60,SLM,simprocAttr]
      simp -implicitDefEqProofs (maxSteps := 2000000) (disch := first | assumption | exact ⟨by kernel_rfl⟩ | omega | (simp only [GT,LN] <;> omega) | fail) only [↓DN,↓kAsg,↓kRet,UP,simprocAttr,↓x2j,↓x61,↓x2i,↓x1q,↓x1p,↓x1o,LA,hv,g1,g2,g3,g4]
    ·simp only [h1,h2,h3,decide_true,decide_false,Bool.and_self,Bool.and_false,Bool.false_and,Bool.false_eq_true,if_false,txt,List.map_nil]
     have g1 : ¬ i < 0 := by omega
     have g2 : ¬ (a.nx.length : Int) ≤ i := by omega
     have g3 : j < 0 := by omega
     obtain _ | n := n; omega
     rw [x9n]
     simp only [x8q,Try.f60,SLM,simprocAttr]
     simp -implicitDefEqProofs (maxSteps := 2000000) (disch := first | assumption | exact ⟨by kernel_rfl⟩ | omega | (simp only [GT,LN] <;> omega) | fail) only [↓DN,↓kAsg,↓kRet,UP,simprocAttr,↓x2j,↓x61,↓x2i,↓x1q,↓x1p,↓x1o,LA,hv,g1,g2,g3]
   ·simp only [h1,h2,decide_true,decide_false,Bool.and_self,Bool.and_false,Bool.false_and,Bool.false_eq_true,if_false,txt,List.map_nil]
    have g1 : ¬ i < 0 := by omega
    have g2 : (a.nx.length : Int) ≤ i := by omega
    obtain _ | n := n; omega
    rw [x9n]
    simp only [x8q,Try.f60,SLM,simprocAttr]
    simp -implicitDefEqProofs (maxSteps := 2000000) (disch := first | assumption | exact ⟨by kernel_rfl⟩ | omega | (simp only [GT,LN] <;> omega) | fail) only [↓DN,↓kAsg,↓kRet,UP,simprocAttr,↓x2j,↓x61,↓x2i,↓x1q,↓x1p,↓x1o,LA,hv,g1,g2]
  ·simp only [h1,decide_true,decide_false,Bool.and_self,Bool.and_false,Bool.false_and,Bool.false_eq_true,if_false,txt,List.map_nil]
   have g1 : i < 0 := by omega
   obtain _ | n := n; omega
   rw [x9n]
   simp only [x8q,Try.f60,SLM,simprocAttr]
   simp -implicitDefEqProofs (maxSteps := 2000000) (disch := first | assumption | exact ⟨by kernel_rfl⟩ | omega | (simp only [GT,LN] <;> omega) | fail) only [↓DN,↓kAsg,↓kRet,UP,simprocAttr,↓x2j,↓x61,↓x2i,↓x1q,↓x1p,↓x1o,LA,hv,g1]
theorem x9t {R : Type} {L n : Nat} {hq : H} {k : A → H → Option R} (hn : 9 ≤ n) (a : Aut) (i j : Int) (hs : xt a.nx) (hac : a.ac.length ≤ 4294967296) (hL : 2 ^ 60 ≤ L) : xe env (x2 env L n) hq 60 [.agg [.d (.int .i64 a.al),.d (.ivs a.nx.length (xc a.nx)),.d (.ivs a.ac.length (xb a.ac))],.d (.int .i64 i),.d (.int .i64 j)] k = k (.tup [.d (.str (txt (x5u a i j).1)),.d (.bool (x5u a i j).2)]) hq :=
 xr rfl (xt1 hn a i j hs hac hL) rfl (.inl rfl)
theorem x6m {R : Type} {L n : Nat} {k : A → Option R} (hn : 9 ≤ n) (a : Aut) (i j : Int) (hs : xt a.nx) (hac : a.ac.length ≤ 4294967296) (hL : 2 ^ 60 ≤ L) : x14 (x2 env L n) 60 [.agg [.d (.int .i64 a.al),.d (.ivs a.nx.length (xc a.nx)),.d (.ivs a.ac.length (xb a.ac))],.d (.int .i64 i),.d (.int .i64 j)] k = k (.tup [.d (.str (txt (x5u a i j).1)),.d (.bool (x5u a i j).2)]) :=
 x4l (xt1 hn a i j hs hac hL) rfl
theorem x5s {R : Type} {L n : Nat} {hq : H} {k : A → H → Option R} {id0 g0 o0 len0 : Nat} {a : Aut} {i j : Int} : xe env (x2 env L n) hq 60 [.agg [.d (.int .i64 a.al),.sl id0 g0 o0 len0,.d (.ivs a.ac.length (xb a.ac))],.d (.int .i64 i),.d (.int .i64 j)] k = match box (x2m hq [.agg [.d (.int .i64 a.al),.sl id0 g0 o0 len0,.d (.ivs a.ac.length (xb a.ac))],.d (.int .i64 i),.d (.int .i64 j)]) with
  | .mk (some fs) => x14 (x2 env L n) 60 fs fun r => k r hq
  | _ => none := xp xa6
theorem x5m {R : Type} {L n : Nat} {hq : H} {k : A → H → Option R} {id1 g1 o1 len1 : Nat} {a : Aut} {i j : Int} : xe env (x2 env L n) hq 60 [.agg [.d (.int .i64 a.al),.d (.ivs a.nx.length (xc a.nx)),.sl id1 g1 o1 len1],.d (.int .i64 i),.d (.int .i64 j)] k = match box (x2m hq [.agg [.d (.int .i64 a.al),.d (.ivs a.nx.length (xc a.nx)),.sl id1 g1 o1 len1],.d (.int .i64 i),.d (.int .i64 j)]) with
  | .mk (some fs) => x14 (x2 env L n) 60 fs fun r => k r hq
  | _ => none := xp xa6
theorem x5l {R : Type} {L n : Nat} {hq : H} {k : A → H → Option R} {id1 g1 o1 len1 : Nat} {id0 g0 o0 len0 : Nat} {a : Aut} {i j : Int} : xe env (x2 env L n) hq 60 [.agg [.d (.int .i64 a.al),.sl id0 g0 o0 len0,.sl id1 g1 o1 len1],.d (.int .i64 i),.d (.int .i64 j)] k = match box (x2m hq [.agg [.d (.int .i64 a.al),.sl id0 g0 o0 len0,.sl id1 g1 o1 len1],.d (.int .i64 i),.d (.int .i64 j)]) with
  | .mk (some fs) => x14 (x2 env L n) 60 fs fun r => k r hq
  | _ => none := xp xa6
theorem x14d {L n : Nat} (hn : 1 ≤ n) (al : Int) (rs : List (List Int)) (z : Nat) (cs : List D) (hrl : rs.length ≤ 4294967296) (i : Int) : x2 env L n 85 [.agg [.d (.int .i64 al),.d (.ivs rs.length (xc rs)),.d (.ivs z cs)],.d (.int .i64 i)] [] = some (.d (.bool (decide (0 ≤ i) && decide (i < rs.length))),[]) := by
 by_cases h1 : 0 ≤ i
 ·by_cases h2 : i < rs.length
  ·simp only [h1,h2,decide_true,Bool.and_self]
   obtain _ | n := n; omega
   rw [xug]
   simp only [xoe,Try.f85,SLM,simprocAttr]
   simp -implicitDefEqProofs (maxSteps := 2000000) (disch := first | assumption | exact ⟨by kernel_rfl⟩ | omega | (simp only [GT,LN] <;> omega) | fail) only [↓DN,↓kAsg,↓kRet,UP,simprocAttr,LA,h1,h2]
  ·simp only [h1,h2,decide_true,decide_false,Bool.and_false]
   obtain _ | n := n; omega
   rw [xug]
   simp only [xoe,Try.f85,SLM,simprocAttr]
   simp -implicitDefEqProofs (maxSteps := 2000000) (disch := first | assumption | exact ⟨by kernel_rfl⟩ | omega | (simp only [GT,LN] <;> omega) | fail) only [↓DN,↓kAsg,↓kRet,UP,simprocAttr,LA,h1,h2]
 ·simp only [h1,decide_false,Bool.false_and]
  obtain _ | n := n; omega
  rw [xug]
  simp only [xoe,Try.f85,SLM,simprocAttr]
  simp -implicitDefEqProofs (maxSteps := 2000000) (disch := first | assumption | exact ⟨by kernel_rfl⟩ | omega | (simp only [GT,LN] <;> omega) | fail) only [↓DN,↓kAsg,↓kRet,UP,simprocAttr,LA,h1]
theorem xl9 {R : Type} {L n : Nat} {hq : H} {k : A → H → Option R} (hn : 1 ≤ n) (al : Int) (rs : List (List Int)) (z : Nat) (cs : List D) (hrl : rs.length ≤ 4294967296) (i : Int) : xe env (x2 env L n) hq 85 [.agg [.d (.int .i64 al),.d (.ivs rs.length (xc rs)),.d (.ivs z cs)],.d (.int .i64 i)] k = k (.d (.bool (decide (0 ≤ i) && decide (i < rs.length)))) hq :=
 xr rfl (x14d hn al rs z cs hrl i) rfl (.inl rfl)
theorem xl7 {R : Type} {L n : Nat} {k : A → Option R} (hn : 1 ≤ n) (al : Int) (rs : List (List Int)) (z : Nat) (cs : List D) (hrl : rs.length ≤ 4294967296) (i : Int) : x14 (x2 env L n) 85 [.agg [.d (.int .i64 al),.d (.ivs rs.length (xc rs)),.d (.ivs z cs)],.d (.int .i64 i)] k = k (.d (.bool (decide (0 ≤ i) && decide (i < rs.length)))) :=
 x4l (x14d hn al rs z cs hrl i) rfl
theorem xgz {R : Type} {L n : Nat} {hq : H} {k : A → H → Option R} {id0 g0 o0 len0 : Nat} {al : Int} {z : Nat} {cs : List D} {i : Int} : xe env (x2 env L n) hq 85 [.agg [.d (.int .i64 al),.sl id0 g0 o0 len0,.d (.ivs z cs)],.d (.int .i64 i)] k = match box (x2m hq [.agg [.d (.int .i64 al),.sl id0 g0 o0 len0,.d (.ivs z cs)],.d (.int .i64 i)]) with
  | .mk (some fs) => x14 (x2 env L n) 85 fs fun r => k r hq
  | _ => none := xp xd7
theorem xgp {R : Type} {L n : Nat} {hq : H} {k : A → H → Option R} {id1 g1 o1 len1 : Nat} {al : Int} {rs : List (List Int)} {i : Int} : xe env (x2 env L n) hq 85 [.agg [.d (.int .i64 al),.d (.ivs rs.length (xc rs)),.sl id1 g1 o1 len1],.d (.int .i64 i)] k = match box (x2m hq [.agg [.d (.int .i64 al),.d (.ivs rs.length (xc rs)),.sl id1 g1 o1 len1],.d (.int .i64 i)]) with
  | .mk (some fs) => x14 (x2 env L n) 85 fs fun r => k r hq
  | _ => none := xp xd7
theorem xgr {R : Type} {L n : Nat} {hq : H} {k : A → H → Option R} {id1 g1 o1 len1 : Nat} {id0 g0 o0 len0 : Nat} {al : Int} {i : Int} : xe env (x2 env L n) hq 85 [.agg [.d (.int .i64 al),.sl id0 g0 o0 len0,.sl id1 g1 o1 len1],.d (.int .i64 i)] k = match box (x2m hq [.agg [.d (.int .i64 al),.sl id0 g0 o0 len0,.sl id1 g1 o1 len1],.d (.int .i64 i)]) with
  | .mk (some fs) => x14 (x2 env L n) 85 fs fun r => k r hq
  | _ => none := xp xd7
theorem xsj {L n : Nat} (hn : 12 ≤ n) (a : Aut) (i j : Int) (hs : xt a.nx) (hac : a.ac.length ≤ 4294967296) (hL : 2 ^ 60 ≤ L) : x2 env L n 56 [.agg [.d (.int .i64 a.al),.d (.ivs a.nx.length (xc a.nx)),.d (.ivs a.ac.length (xb a.ac))],.d (.int .i64 i),.d (.int .i64 j)] [] = some (.tup [.d (.str (txt (x5u a i j).1)),.d (.bool (x5u a i j).2)],[]) := by
 have hrl := hs.1
 unfold x5u xyl
 cases hv : x8j a.al a.nx a.ac with
 | false =>
  simp only [Bool.false_and,Bool.false_eq_true,if_false,txt,List.map_nil]
  obtain _ | n := n; omega
  rw [xed]
  simp only [xc0,Try.f56,SLM,simprocAttr]
  simp -implicitDefEqProofs (maxSteps := 2000000) (disch := first | assumption | exact ⟨by kernel_rfl⟩ | omega | (simp only [GT,LN] <;> omega) | fail) only [↓DN,↓kAsg,↓kRet,UP,simprocAttr,↓x33,↓xl9,↓x32,↓xl7,↓x2n,↓x2p,↓x2o,↓xgz,↓xgp,↓xgr,LA,hv]
 | true =>
  by_cases h1 : 0 ≤ i ∧ i < a.nx.length
  ·by_cases h3 : 0 ≤ j ∧ j < a.nx.length
   ·obtain ⟨h1,h2⟩ := h1
    obtain ⟨h3,h4⟩ := h3
    simp only [h1,h2,h3,h4,decide_true,Bool.and_self,if_true]
    have kc_b := fun {R : Type} {n : Nat} {k : A → Option R} (hn : 11 ≤ n) => x4l (call := x2 env L n) (k := k) (f := 86) (@x1gr L n hn hL a a i j 1 hv hv rfl ⟨h1,h2⟩ ⟨h3,h4⟩ (.inl rfl)) rfl
    simp only [if_true,x42,ints,List.map_cons,List.map_nil] at kc_b
    have kl_b := fun {R : Type} {n : Nat} {k : A → Option R} (hn : 11 ≤ n) => kc_b (R := R) (n := n) (k := k) hn
    have kv_l := fun {R : Type} {n : Nat} {hq : H} {args : List A} {k : A → H → Option R} => xp (E := env) (call := x2 env L n) (h := hq) (k := k) (args := args) xnv
    clear kc_b
    generalize twoG (fun x y => x != y) a a i j = r at *
    obtain _ | n := n; omega
    rw [xed]
    simp only [xc0,Try.f56,SLM,simprocAttr]
    simp -implicitDefEqProofs (maxSteps := 2000000) (disch := first | assumption | exact ⟨by kernel_rfl⟩ | omega | (simp only [GT,LN] <;> omega) | fail) only [↓DN,↓kAsg,↓kRet,UP,simprocAttr,↓x33,↓xl9,↓x32,↓xl7,↓x2n,↓x2p,↓x2o,↓xgz,↓xgp,↓xgr,LA,hv,h1,h2,h3,h4,decide_true,Bool.and_self,↓kv_l,↓kl_b]
   ·have e3 : (decide (0 ≤ j) && decide (j < a.nx.length)) = false := by
     rw [Bool.and_eq_false_iff,decide_eq_false_iff_not,decide_eq_false_iff_not]; omega
    obtain ⟨h1,h2⟩ := h1
    simp only [h1,h2,e3,decide_true,Bool.and_self,Bool.and_false,Bool.false_eq_true,if_false,txt,List.map_nil]
    obtain _ | n := n; omega
    rw [xed]
    simp only [xc0,Try.f56,SLM,simprocAttr]
    simp -implicitDefEqProofs (maxSteps := 2000000) (disch := first | assumption | exact ⟨by kernel_rfl⟩ | omega | (simp only [GT,LN] <;> omega) | fail) only [↓DN,↓kAsg,↓kRet,UP,simprocAttr,↓x33,↓xl9,↓x32,↓xl7,↓x2n,↓x2p,↓x2o,↓xgz,↓xgp,↓xgr,LA,hv,h1,h2,e3,decide_true,Bool.and_self]
  ·have e3 : (decide (0 ≤ i) && decide (i < a.nx.length)) = false := by
    rw [Bool.and_eq_false_iff,decide_eq_false_iff_not,decide_eq_false_iff_not]; omega
   simp only [e3,Bool.and_false,Bool.false_and,Bool.false_eq_true,if_false,txt,List.map_nil]
   obtain _ | n := n; omega
   rw [xed]
   simp only [xc0,Try.f56,SLM,simprocAttr]
   simp -implicitDefEqProofs (maxSteps := 2000000) (disch := first | assumption | exact ⟨by kernel_rfl⟩ | omega | (simp only [GT,LN] <;> omega) | fail) only [↓DN,↓kAsg,↓kRet,UP,simprocAttr,↓x33,↓xl9,↓x32,↓xl7,↓x2n,↓x2p,↓x2o,↓xgz,↓xgp,↓xgr,LA,hv,e3]
theorem x9p {R : Type} {L n : Nat} {hq : H} {k : A → H → Option R} (hn : 12 ≤ n) (a : Aut) (i j : Int) (hs : xt a.nx) (hac : a.ac.length ≤ 4294967296) (hL : 2 ^ 60 ≤ L) : xe env (x2 env L n) hq 56 [.agg [.d (.int .i64 a.al),.d (.ivs a.nx.length (xc a.nx)),.d (.ivs a.ac.length (xb a.ac))],.d (.int .i64 i),.d (.int .i64 j)] k = k (.tup [.d (.str (txt (x5u a i j).1)),.d (.bool (x5u a i j).2)]) hq :=
 xr rfl (xsj hn a i j hs hac hL) rfl (.inl rfl)
theorem x6n {R : Type} {L n : Nat} {k : A → Option R} (hn : 12 ≤ n) (a : Aut) (i j : Int) (hs : xt a.nx) (hac : a.ac.length ≤ 4294967296) (hL : 2 ^ 60 ≤ L) : x14 (x2 env L n) 56 [.agg [.d (.int .i64 a.al),.d (.ivs a.nx.length (xc a.nx)),.d (.ivs a.ac.length (xb a.ac))],.d (.int .i64 i),.d (.int .i64 j)] k = k (.tup [.d (.str (txt (x5u a i j).1)),.d (.bool (x5u a i j).2)]) :=
 x4l (xsj hn a i j hs hac hL) rfl
theorem x5r {R : Type} {L n : Nat} {hq : H} {k : A → H → Option R} {id0 g0 o0 len0 : Nat} {a : Aut} {i j : Int} : xe env (x2 env L n) hq 56 [.agg [.d (.int .i64 a.al),.sl id0 g0 o0 len0,.d (.ivs a.ac.length (xb a.ac))],.d (.int .i64 i),.d (.int .i64 j)] k = match box (x2m hq [.agg [.d (.int .i64 a.al),.sl id0 g0 o0 len0,.d (.ivs a.ac.length (xb a.ac))],.d (.int .i64 i),.d (.int .i64 j)]) with
  | .mk (some fs) => x14 (x2 env L n) 56 fs fun r => k r hq
  | _ => none := xp xa3
theorem x5q {R : Type} {L n : Nat} {hq : H} {k : A → H → Option R} {id1 g1 o1 len1 : Nat} {a : Aut} {i j : Int} : xe env (x2 env L n) hq 56 [.agg [.d (.int .i64 a.al),.d (.ivs a.nx.length (xc a.nx)),.sl id1 g1 o1 len1],.d (.int .i64 i),.d (.int .i64 j)] k = match box (x2m hq [.agg [.d (.int .i64 a.al),.d (.ivs a.nx.length (xc a.nx)),.sl id1 g1 o1 len1],.d (.int .i64 i),.d (.int .i64 j)]) with
  | .mk (some fs) => x14 (x2 env L n) 56 fs fun r => k r hq
  | _ => none := xp xa3
theorem x5n {R : Type} {L n : Nat} {hq : H} {k : A → H → Option R} {id1 g1 o1 len1 : Nat} {id0 g0 o0 len0 : Nat} {a : Aut} {i j : Int} : xe env (x2 env L n) hq 56 [.agg [.d (.int .i64 a.al),.sl id0 g0 o0 len0,.sl id1 g1 o1 len1],.d (.int .i64 i),.d (.int .i64 j)] k = match box (x2m hq [.agg [.d (.int .i64 a.al),.sl id0 g0 o0 len0,.sl id1 g1 o1 len1],.d (.int .i64 i),.d (.int .i64 j)]) with
  | .mk (some fs) => x14 (x2 env L n) 56 fs fun r => k r hq
  | _ => none := xp xa3
end Ev
end Go.Proofs.Ytppdfjdfjfoddaa
