/-
  A search for a goal, walked: the word that was found, the bS.
-/
import Derived.Test.YtppdfjdfjfoddaaPathY
import Derived.Test.YtppdfjdfjfoddaaTwo
import Derived.Test.YtppdfjdfjfoddaaAutH
set_option linter.unusedSimpArgs false
set_option linter.unusedVariables false
set_option maxRecDepth 8000
set_option maxHeartbeats 4000000
namespace Go.Proofs.Ytppdfjdfjfoddaa
namespace Ev
theorem aQ8 {l : List UInt8} {i j p : Nat} (hi : i < l.length) (hj : j < l.length) : (swp l i j).getD p 0 = if p = j then l.getD i 0 else if p = i then l.getD j 0 else l.getD p 0 := by
 unfold swp
 simp only [List.getD_eq_getElem?_getD,List.getElem?_set,List.length_set]
 by_cases h1 : p = j
 ·subst h1
  simp [hj]
 ·have h1' : ¬ j = p := fun h => h1 h.symm
  by_cases h2 : p = i
  ·subst h2
   simp [hi,h1,h1']
  ·have h2' : ¬ i = p := fun h => h2 h.symm
   simp only [h1,h1',h2,h2',if_false]
theorem aGX : ∀ (q : Nat) (i j : Int) (l : List UInt8),0 ≤ i → j < l.length → j - i ≤ q → ∀ p : Nat,p < l.length → (revG q i j l).2.2.getD p 0 = if i ≤ p ∧ (p : Int) ≤ j then l.getD (i + j - p).toNat 0 else l.getD p 0
 | 0,i,j,l,h0,h1,h2,p,hp => by
  unfold revG
  split
  ·rename_i h
   rw [show (i + j - p).toNat = p by omega]
  ·rfl
 | q + 1,i,j,l,h0,h1,h2,p,hp => by
  unfold revG
  split
  ·rename_i hlt
   have hg := fun (x : Nat) => aQ8 (l := l) (i := i.toNat) (j := j.toNat) (p := x) (by omega) (by omega)
   rw [aGX q (i + 1) (j - 1) _ (by omega) (by rw [CX]; omega) (by omega) p (by rw [CX]; exact hp)]
   by_cases c1 : i + 1 ≤ (p : Int) ∧ (p : Int) ≤ j - 1
   ·rw [if_pos c1,hg,if_neg (by omega : ¬ (i + 1 + (j - 1) - (p : Int)).toNat = j.toNat),if_neg (by omega : ¬ (i + 1 + (j - 1) - (p : Int)).toNat = i.toNat),if_pos (by omega : i ≤ (p : Int) ∧ (p : Int) ≤ j)]
    congr 1
    omega
   ·rw [if_neg c1,hg]
    by_cases c2 : p = j.toNat
    ·rw [if_pos c2,if_pos (by omega : i ≤ (p : Int) ∧ (p : Int) ≤ j)]
     congr 1
     omega
    ·rw [if_neg c2]
     by_cases c3 : p = i.toNat
     ·rw [if_pos c3,if_pos (by omega : i ≤ (p : Int) ∧ (p : Int) ≤ j)]
      congr 1
      omega
     ·rw [if_neg c3,if_neg (by omega : ¬ (i ≤ (p : Int) ∧ (p : Int) ≤ j))]
  ·rename_i hlt
   split
   ·rename_i h
    rw [show (i + j - p).toNat = p by omega]
   ·rfl
theorem aO3 (l : List UInt8) : (revG (l.length + 1) 0 ((l.length : Int) - 1) l).2.2 = l.reverse := by
 have hl := (aBI (l.length + 1) 0 ((l.length : Int) - 1) l (Int.le_refl _) (by omega)).1
 apply List.ext_getElem
 ·rw [hl,List.length_reverse]
 ·intro p h1 h2
  rw [hl] at h1
  have := aGX (l.length + 1) 0 ((l.length : Int) - 1) l (Int.le_refl _) (by omega) (by omega) p h1
  rw [if_pos (by omega),List.getD_eq_getElem?_getD,List.getElem?_eq_getElem (by rw [hl]; exact h1),List.getD_eq_getElem?_getD,List.getElem?_eq_getElem (by omega)] at this
  simp only [Option.getD_some] at this
  rw [this,List.getElem_reverse]
  congr 1
  omega
theorem aFf {l : List PStep} {k : Nat} (h : k < l.length) : (((dA l).drop (k * 3)).map A.d).head? = some (.d (.int .i64 (l.getD k default).par)) := by
 rw [ED,d4 h (d := default)]; rfl
theorem aNo {l : List PStep} {k : Nat} (h : k < l.length) : (((dA l).drop (k * 3 + 1)).map A.d).head? = some (.d (.int .i64 (l.getD k default).lt)) := by
 rw [← List.drop_drop,ED,d4 h (d := default)]; rfl
def aF0 (st : List PStep) : Nat → Nat → Nat
 | 0,i => i
 | j + 1,i => if 0 ≤ (st.getD i default).par then aF0 st j (st.getD i default).par.toNat else i
def Tree (st : List PStep) : Prop := ∀ k,k < st.length → ((st.getD k default).par < (k : Int)) ∧ (0 ≤ (st.getD k default).lt ∧ (st.getD k default).lt ≤ 5)
theorem aE0 (st : List PStep) : ∀ (j i : Nat),(kD st j i).length ≤ j
 | 0,i => Nat.le_refl _
 | j + 1,i => by
  unfold kD
  split
  ·have := aE0 st j (st.getD i default).par.toNat
   simp only [List.length_append,List.length_cons,List.length_nil]
   omega
  ·simp
theorem aCh {R : Type} {L n : Nat} (hn : 2 ≤ n) {st : List PStep} (ht : Tree st) (hs : st.length ≤ 16777216) {k : Exit → List A → H → Option R} : ∀ (j i m : Nat) (o : List UInt8) (len : Nat) (hi : i < st.length) (hj : i < j) (hm : j ≤ m) (hlen : len = o.length) (ho : o.length + i ≤ 20000000),
  aO env (aA env L n) L 0 [0,0,0,2] (U1 (Z1 (U2 (U1 (Z16 (Z8 (Z2 (Z1 ([]))))))))) (sE 0) (Z1 (U1 (Z2 (Z1 (U16 (U8 (U2 (U1 ([]))))))))) m (.d (.ivs st.length (dA st)) :: Y1 (.d (.str []) :: .sl 0 0 0 len :: .d (.int .i64 ((i : Int))) :: Y16 (Y8 (Y2 (Y1 ([])))))) [.arr (bL o) 1 0] k
  = k (.exit 0) (.d (.ivs st.length (dA st)) :: Y1 (.d (.str []) :: .sl 0 0 0 (o ++ (txt (kD st j i)).reverse).length :: .d (.int .i64 (((aF0 st j i : Nat) : Int))) :: Y16 (Y8 (Y2 (Y1 ([])))))) [.arr (bL (o ++ (txt (kD st j i)).reverse)) 1 0] := by
 intro j
 induction j with
 | zero => intro i m o len hi hj; omega
 | succ j ih =>
  intro i m o len hi hj hm hlen ho
  obtain _ | m := m; omega
  subst hlen
  obtain ⟨t1,t2,t3⟩ := ht i hi
  have hc : (i : Int) < st.length := by omega
  by_cases hp : 0 ≤ (st.getD i default).par
  ·have ih' := ih (st.getD i default).par.toNat m (o ++ [m8 (st.getD i default).lt]) (o.length + 1) (by omega) (by omega) (by omega) (by simp) (by rw [List.length_append,List.length_singleton]; omega)
   rw [show (((st.getD i default).par.toNat : Nat) : Int) = (st.getD i default).par by omega] at ih'
   have h5 : (((st.getD i default).par.toNat : Nat) : Int) = (st.getD i default).par := by omega
   unfold kD aF0
   rw [if_pos hp,if_pos hp]
   clear ih
   have e : (txt (kD st j (st.getD i default).par.toNat ++ [(st.getD i default).lt])).reverse = [m8 (st.getD i default).lt] ++ (txt (kD st j (st.getD i default).par.toNat)).reverse := by simp [txt]
   rw [e,← List.append_assoc]
   have g1 := aFf hi
   have g2 := aNo hi
   generalize st.getD i default = s at *
   rw [GM]
   simp only [DD,Try.f143,SLM,simprocAttr]
   simp -implicitDefEqProofs (maxSteps := 2000000) (disch := try exact Dz) only [↓DN,↓kAsg,↓kRet,UP,simprocAttr,PE,List.length_drop,List.drop_drop,hc,hp,t2,t3,g1,g2,Int.toNat_natCast,↓BD,PH,aIP,aRg,aRs,WU,o7,D3,M4,↓ih']
  ·unfold kD aF0
   rw [if_neg hp,if_neg hp]
   have g1 := aFf hi
   simp only [txt,List.map_nil,List.reverse_nil,List.append_nil]
   rw [GM]
   simp only [DD,Try.f143,SLM,simprocAttr]
   simp -implicitDefEqProofs (maxSteps := 2000000) (disch := try exact Dz) only [↓DN,↓kAsg,↓kRet,UP,simprocAttr,↓BD,PE,hc,hp,g1,Int.toNat_natCast]
theorem Q7 {L n : Nat} (hn : 3 ≤ n) (st : List PStep) (ht : Tree st) (hs : st.length ≤ 16777216) (h0 : 0 < st.length) (hL : 2 ^ 60 ≤ L) : aA env L n 143 [.d (.ivs st.length (dA st))] [] = some (.d (.str (L4 st)),[]) := by
 have loop_w := fun {R : Type} {n : Nat} {k : Exit → List A → H → Option R} (hn : 2 ≤ n) => @aCh R L n hn st ht hs k st.length (st.length - 1) L [] 0 (by omega) (by omega) (by omega) rfl (by simp; omega)
 simp only [List.nil_append,aKd] at loop_w
 have hwl := aE0 st st.length (st.length - 1)
 have hb : (txt (kD st st.length (st.length - 1))).reverse.length ≤ 2147483648 := by simp [txt]; omega
 have hrr : (txt (kD st st.length (st.length - 1))).reverse.reverse = L4 st := by rw [List.reverse_reverse]; rfl
 have hwlen : (txt (kD st st.length (st.length - 1))).reverse.length = (L4 st).length := by simp [L4]
 generalize (txt (kD st st.length (st.length - 1))).reverse = w at *
 have e1 : IntKind.i64.wrap ((st.length : Int) - 1) = ((st.length - 1 : Nat) : Int) := by
  rw [show (st.length : Int) - 1 = ((st.length - 1 : Nat) : Int) by omega]
  exact FO (by omega) (by omega)
 have kc_r := fun {R : Type} {n id g : Nat} {hq : H} {k : A → H → Option R} (hn : 1 ≤ n) (hi : hq[id]? = some (.arr (bL w) 1 g)) => @aSe R L n id g hq k hn w hi hb hL
 have er := aO3 w
 rw [hrr] at er
 simp only [er] at kc_r
 simp only [hwlen] at kc_r
 simp only [hwlen] at loop_w
 have h1 : (1 : Int) ≤ st.length := by omega
 obtain _ | n := n; omega
 rw [aFz]
 simp only [TR,Try.f143,SLM,simprocAttr]
 simp -implicitDefEqProofs (maxSteps := 2000000) (disch := try exact Dz) only [↓DN,↓kAsg,↓kRet,UP,simprocAttr,↓BD,PE,↓loop_w,e1,h1,↓kc_r,↓OF]
theorem iS {R : Type} {L n : Nat} {hq : H} {k : A → H → Option R} (hn : 3 ≤ n) (st : List PStep) (ht : Tree st) (hs : st.length ≤ 16777216) (h0 : 0 < st.length) (hL : 2 ^ 60 ≤ L) : aM env (aA env L n) hq 143 [.d (.ivs st.length (dA st))] k = k (.d (.str (L4 st))) hq :=
 aX rfl (Q7 hn st ht hs h0 hL) rfl (.inl rfl)
theorem gQ {R : Type} {L n : Nat} {k : A → Option R} (hn : 3 ≤ n) (st : List PStep) (ht : Tree st) (hs : st.length ≤ 16777216) (h0 : 0 < st.length) (hL : 2 ^ 60 ≤ L) : bH (aA env L n) 143 [.d (.ivs st.length (dA st))] k = k (.d (.str (L4 st))) :=
 fB (Q7 hn st ht hs h0 hL) rfl
theorem gH {R : Type} {L n : Nat} {hq : H} {k : A → H → Option R} {id0 g0 o0 len0 : Nat}  : aM env (aA env L n) hq 143 [.sl id0 g0 o0 len0] k = match box (c7 hq [.sl id0 g0 o0 len0]) with
  | .mk (some fs) => bH (aA env L n) 143 fs fun r => k r hq
  | _ => none := aW BV
theorem aF4 {st : List PStep} {p l : Int} {f : List Int} : st.length ≤ (addP st p l f).length := by unfold addP; split <;> simp
theorem aGp {st : List PStep} {i : Nat} {l : Int} {f : List Int} (ht : Tree st) (hi : i < st.length) (hl : 0 ≤ l ∧ l ≤ 5) : Tree (addP st i l f) := by
 unfold addP
 split
 ·exact ht
 ·intro k hk
  simp only [List.length_append,List.length_cons,List.length_nil] at hk
  by_cases h : k < st.length
  ·rw [oM h]; exact ht k h
  ·obtain rfl : k = st.length := by omega
   rw [TT]
   exact ⟨by show (i : Int) < _; omega,hl⟩
theorem aKH {R : Type} {L n : Nat} (hn : 5 ≤ n) (hL : 2 ^ 60 ≤ L) {I : Int → Prop} {gl : Int → Bool} {nf gf : FuncId} {caps gcaps : List D} {size : Nat} {nx : Int → Int → List Int} {ls ns : List Int} {ii : Nat}
  (kc_n : ∀ {R : Type} {n id : Nat} {hq : H} {k : A → H → Option R} (x c : Int) (o : List Int),4 ≤ n → I x → 0 ≤ c → c < 6 → o.length ≤ 2147483648 → hq[id]? = some (.arr (ints o) 1 0) → aM env (aA env L n) hq nf (.d (.int .i64 x) :: .d (.int .i64 c) :: .sl id 0 0 o.length :: caps.map A.d) k = k (.sl id (nx x c).length 0 (o ++ nx x c).length) (hq.set id (.arr (ints (o ++ nx x c)) 1 (nx x c).length)))
  (kc_g : ∀ {R : Type} {n : Nat} {hq : H} {k : A → H → Option R} (x : Int),2 ≤ n → I x → aM env (aA env L n) hq gf (.d (.int .i64 x) :: gcaps.map A.d) k = k (.d (.bool (gl x))) hq)
  (hr : ∀ x,I x → 0 ≤ x ∧ x < size) (hsz : size ≤ 16777216) (hI : ∀ x ∈ ns,I x) (hx : ∀ x c,I x → 0 ≤ c → c < 6 → ∀ y ∈ nx x c,I y) (hw : ∀ x c,(nx x c).length ≤ 64) (hls : ∀ c ∈ ls,0 ≤ c ∧ c ≤ 5) (hll : ls.length ≤ 6) (hnl : ns.length ≤ size) {k : Exit → List A → H → Option R} : ∀ (j q m : Nat) (seen : List Bool) (st : List PStep) (sn : Nat) (hi : q + j = ls.length) (hm : j < m) (hg : PGood I size seen st) (htr : Tree st) (hii : ii < st.length) (hns : (st.getD ii default).ns = ns) (hsn : sn = st.length),
  aO env (aA env L n) L 0 [0,0,0,0,0,0,0,0,0,0,0,0,0,0,0,0,0,0,2] (Z2 (U2 (Z4 (Z2 (U2 (Z1 (U2 (U1 (Z1 (U2 (Z8 (Z4 (Z2 (U2 (U1 (Z4 (Z2 (Z1 (U2 (U1 (Z16 (Z1 ([]))))))))))))))))))))))) (eD 1) (U2 (Z2 (U4 (U2 (Z2 (U1 (Z2 (Z1 (U16 (U1 (Z2 (Z1 (U16 (U8 (U2 (U1 ([]))))))))))))))))) m (Y2 (.d (.ivs ls.length (ints ls)) :: .d (.fn nf caps) :: Y4 (Y2 (.d (.str []) :: .d (.bool false) :: Y1 (.ptr 0 0 0 :: .clo 142 [.ptr 1 0 0,.ptr 2 0 0,.ptr 0 0 0] :: .d (.int .i64 ((ii : Int))) :: Y16 (Y1 (.d (.ivs ls.length (ints ls)) :: .d (.int .i64 (ls.length)) :: .d (.int .i64 ((q : Int))) :: Y16 (Y8 (Y2 (Y1 ([]))))))))))) [.box [.sl 3 0 0 sn],.box [.sl 4 0 0 size],.box [.d (.fn gf gcaps)],.arr (dA st) 3 0,.arr (eG seen) 1 0] k
  = if (ltG nx gl ns ii (ls.drop q) (seen,st)).1 = true then
    k .ret (Y2 (.d (.ivs ls.length (ints ls)) :: .d (.fn nf caps) :: Y4 (Y2 (.d (.str ((L4 (ltG nx gl ns ii (ls.drop q) (seen,st)).2.2))) :: .d (.bool true) :: Y1 (.ptr 0 0 0 :: .clo 142 [.ptr 1 0 0,.ptr 2 0 0,.ptr 0 0 0] :: .d (.int .i64 ((ii : Int))) :: Y16 (Y1 (.d (.ivs ls.length (ints ls)) :: .d (.int .i64 (ls.length)) :: .d (.int .i64 (((q + ltI nx gl ns ii (ls.drop q) (seen,st) : Nat) : Int))) :: Y16 (Y8 (Y2 (Y1 ([]))))))))))) [.box [.sl 3 0 0 (ltG nx gl ns ii (ls.drop q) (seen,st)).2.2.length],.box [.sl 4 0 0 size],.box [.d (.fn gf gcaps)],.arr (dA (ltG nx gl ns ii (ls.drop q) (seen,st)).2.2) 3 0,.arr (eG (ltG nx gl ns ii (ls.drop q) (seen,st)).2.1) 1 0]
   else k (.exit 2) (Y2 (.d (.ivs ls.length (ints ls)) :: .d (.fn nf caps) :: Y4 (Y2 (.d (.str []) :: .d (.bool false) :: Y1 (.ptr 0 0 0 :: .clo 142 [.ptr 1 0 0,.ptr 2 0 0,.ptr 0 0 0] :: .d (.int .i64 ((ii : Int))) :: Y16 (Y1 (.d (.ivs ls.length (ints ls)) :: .d (.int .i64 (ls.length)) :: .d (.int .i64 (ls.length)) :: Y16 (Y8 (Y2 (Y1 ([]))))))))))) [.box [.sl 3 0 0 (ltG nx gl ns ii (ls.drop q) (seen,st)).2.2.length],.box [.sl 4 0 0 size],.box [.d (.fn gf gcaps)],.arr (dA (ltG nx gl ns ii (ls.drop q) (seen,st)).2.2) 3 0,.arr (eG (ltG nx gl ns ii (ls.drop q) (seen,st)).2.1) 1 0] := by
 intro j
 induction j with
 | zero =>
  intro q m seen st sn hi hm hg htr hii hns hsn
  obtain _ | m := m; omega
  obtain rfl : q = ls.length := by omega
  subst hsn
  rw [uF]
  simp only [s9,Try.f117,SLM,simprocAttr]
  simp -implicitDefEqProofs (maxSteps := 2000000) (disch := try exact Dz) only [↓DN,↓kAsg,↓kRet,UP,simprocAttr,↓iS,↓gQ,↓gH,PE,Int.lt_irrefl]
  simp only [List.drop_length,ltG,Bool.false_eq_true,if_false]
 | succ j ih =>
  intro q m seen st sn hi hm hg htr hii hns hsn
  obtain _ | m := m; omega
  subst hsn
  have hc : (q : Int) < ls.length := by omega
  have hk : q < ls.length := by omega
  have hmem : ls.getD q 0 ∈ ls := by rw [List.getD_eq_getElem?_getD,List.getElem?_eq_getElem hk]; exact List.getElem_mem hk
  obtain ⟨c0,c5⟩ := hls _ hmem
  have c6 : ls.getD q 0 < 6 := by omega
  have hiI : (ii : Int) < st.length := by omega
  have hroom := hg.room
  have hstl : st.length ≤ 4294967290 := by omega
  rw [d4 hk (d := 0)]
  have hI2 : ∀ y ∈ flat nx ns (ls.getD q 0),I y := by
   intro y hy
   obtain ⟨x,h1,h2⟩ := List.mem_flatMap.1 hy
   exact hx x (ls.getD q 0) (hI x h1) c0 c6 y h2
  have hfl := aF8 (c := ls.getD q 0) hw ns
  have hfl2 : (flat nx ns (ls.getD q 0)).length ≤ 4294967290 := by omega
  obtain ⟨g1,g2,g3⟩ := NC (gl := gl) hg hI2 hr (ii : Int) (ls.getD q 0)
  have htr2 : Tree (addP st ii (ls.getD q 0) (visG gl (flat nx ns (ls.getD q 0)) seen [] false).2.1) := aGp htr hii ⟨c0,c5⟩
  have hlen2 := aF4 (st := st) (p := (ii : Int)) (l := ls.getD q 0) (f := (visG gl (flat nx ns (ls.getD q 0)) seen [] false).2.1)
  have ih' := ih (q + 1) m (visG gl (flat nx ns (ls.getD q 0)) seen [] false).1 (addP st ii (ls.getD q 0) (visG gl (flat nx ns (ls.getD q 0)) seen [] false).2.1) _ (by omega) (by omega) g1 htr2 (by omega) (by rw [aPm hii]; exact hns) rfl
  have e4 : ((q + 1 : Nat) : Int) = (q : Int) + 1 := by omega
  rw [e4] at ih'
  have loop_c := fun {R : Type} {n : Nat} (hn : 4 ≤ n) {k : Exit → List A → H → Option R} => @aKD R L n hn hL I nf caps (.fn gf gcaps) size nx ls ns (dA st) seen st.length ii q (ls.getD q 0) (fun {R n id hq k} => kc_n) hI hw c0 c6 (by omega) k ns.length 0 L [] 0 (by omega) (by omega) (by simp) rfl
  simp only [List.drop_zero,List.nil_append,rU,Int.natCast_zero] at loop_c
  have kc_v := fun {R : Type} {n : Nat} {k : A → H → Option R} (hn : 4 ≤ n) => @aQ7 R L n k hn hL I gl gf gcaps size (ii : Int) (ls.getD q 0) (flat nx ns (ls.getD q 0)) (fun {R n hq k} => kc_g) hI2 hr (by omega) hfl2 seen hg.len st hstl
  have hroom2 := g1.room
  have kl_w := fun {R : Type} {n : Nat} {k : A → Option R} (hn : 3 ≤ n) => @gQ R L n k hn _ htr2 (by omega) (by omega) hL
  simp only [ltG,ltI]
  clear ih hmem g1 g2 g3 hg hI hI2 hx hw hls hr kc_n kc_g hroom2
  generalize flat nx ns (ls.getD q 0) = fm at *
  generalize visG gl fm seen [] false = v at *
  obtain ⟨v1,v2,v3⟩ := v
  simp only at ih' kc_v kl_w ⊢
  cases v3 with
  | true =>
   rw [uF]
   simp only [s9,Try.f117,SLM,simprocAttr]
   simp -implicitDefEqProofs (maxSteps := 2000000) (disch := try exact Dz) only [↓DN,↓kAsg,↓kRet,UP,simprocAttr,↓iS,↓gQ,↓gH,PE,hc,hiI,hns,Int.toNat_natCast,↓loop_c,↓kc_v,↓kl_w]
  | false =>
   simp only [Bool.false_eq_true,if_false]
   generalize ltI nx gl ns (ii : Int) (ls.drop (q + 1)) (v1,addP st ii (ls.getD q 0) v2) = T at *
   rw [show q + (T + 1) = q + 1 + T by omega]
   rw [uF]
   simp only [s9,Try.f117,SLM,simprocAttr]
   simp -implicitDefEqProofs (maxSteps := 2000000) (disch := try exact Dz) only [↓DN,↓kAsg,↓kRet,UP,simprocAttr,↓iS,↓gQ,↓gH,PE,hc,hiI,hns,Int.toNat_natCast,↓loop_c,↓kc_v,↓ih']
theorem UX {nx : Int → Int → List Int} {gl : Int → Bool} {ns : List Int} {i : Nat} : ∀ (ls : List Int) (hls : ∀ c ∈ ls,0 ≤ c ∧ c ≤ 5) (seen : List Bool) (st : List PStep),Tree st → i < st.length → Tree (ltG nx gl ns i ls (seen,st)).2.2
 | [],_,_,_,h,_ => h
 | l :: ls,hls,seen,st,h,hi => by
  have h2 : Tree (addP st i l (visG gl (flat nx ns l) seen [] false).2.1) := aGp h hi (hls l List.mem_cons_self)
  unfold ltG
  split
  ·exact h2
  ·exact UX ls (fun c hc => hls c (List.mem_cons_of_mem _ hc)) _ _ h2 (Nat.lt_of_lt_of_le hi aF4)
theorem aKP {R : Type} {L n : Nat} (hn : 6 ≤ n) (hL : 2 ^ 60 ≤ L) {I : Int → Prop} {gl : Int → Bool} {nf gf : FuncId} {caps gcaps : List D} {size : Nat} {nx : Int → Int → List Int} {ls : List Int}
  (kc_n : ∀ {R : Type} {n id : Nat} {hq : H} {k : A → H → Option R} (x c : Int) (o : List Int),4 ≤ n → I x → 0 ≤ c → c < 6 → o.length ≤ 2147483648 → hq[id]? = some (.arr (ints o) 1 0) → aM env (aA env L n) hq nf (.d (.int .i64 x) :: .d (.int .i64 c) :: .sl id 0 0 o.length :: caps.map A.d) k = k (.sl id (nx x c).length 0 (o ++ nx x c).length) (hq.set id (.arr (ints (o ++ nx x c)) 1 (nx x c).length)))
  (kc_g : ∀ {R : Type} {n : Nat} {hq : H} {k : A → H → Option R} (x : Int),2 ≤ n → I x → aM env (aA env L n) hq gf (.d (.int .i64 x) :: gcaps.map A.d) k = k (.d (.bool (gl x))) hq)
  (hr : ∀ x,I x → 0 ≤ x ∧ x < size) (hsz : size ≤ 16777216) (hx : ∀ x c,I x → 0 ≤ c → c < 6 → ∀ y ∈ nx x c,I y) (hw : ∀ x c,(nx x c).length ≤ 64) (hls : ∀ c ∈ ls,0 ≤ c ∧ c ≤ 5) (hll : ls.length ≤ 6) {k : Exit → List A → H → Option R} : ∀ (j i m : Nat) (seen : List Bool) (st : List PStep) (sn : Nat) (hi : st.length + kO seen ≤ i + j) (hi2 : i ≤ st.length) (hm : j < m) (hg : PGood I size seen st) (htr : Tree st) (hsn : sn = st.length),
  aO env (aA env L n) L 0 [0,0,0,0,0,0,0,0,0,0,0,0,0,0,0,0,0,0,2] (Z2 (U2 (Z4 (Z2 (U2 (Z1 (U2 (U1 (Z1 (U2 (Z8 (Z4 (Z2 (U2 (U1 (Z4 (Z2 (Z1 (U2 (U1 (Z16 (Z1 ([]))))))))))))))))))))))) (eD 0) (U2 (Z2 (U4 (U2 (Z2 (U1 (Z2 (Z1 (U32 (U8 (U4 (U2 (U1 ([])))))))))))))) m (Y2 (.d (.ivs ls.length (ints ls)) :: .d (.fn nf caps) :: Y4 (Y2 (.d (.str []) :: .d (.bool false) :: Y1 (.ptr 0 0 0 :: .clo 142 [.ptr 1 0 0,.ptr 2 0 0,.ptr 0 0 0] :: .d (.int .i64 ((i : Int))) :: Y32 (Y8 (Y4 (Y2 (Y1 ([])))))))))) [.box [.sl 3 0 0 sn],.box [.sl 4 0 0 size],.box [.d (.fn gf gcaps)],.arr (dA st) 3 0,.arr (eG seen) 1 0] k
  = if (outG nx gl ls j i (seen,st)).1 = true then
    k .ret (Y2 (.d (.ivs ls.length (ints ls)) :: .d (.fn nf caps) :: Y4 (Y2 (.d (.str ((L4 (outG nx gl ls j i (seen,st)).2.2))) :: .d (.bool true) :: Y1 (.ptr 0 0 0 :: .clo 142 [.ptr 1 0 0,.ptr 2 0 0,.ptr 0 0 0] :: .d (.int .i64 (((outI nx gl ls j i (seen,st) : Nat) : Int))) :: Y32 (Y8 (Y4 (Y2 (Y1 ([])))))))))) [.box [.sl 3 0 0 (outG nx gl ls j i (seen,st)).2.2.length],.box [.sl 4 0 0 size],.box [.d (.fn gf gcaps)],.arr (dA (outG nx gl ls j i (seen,st)).2.2) 3 0,.arr (eG (outG nx gl ls j i (seen,st)).2.1) 1 0]
   else k (.exit 0) (Y2 (.d (.ivs ls.length (ints ls)) :: .d (.fn nf caps) :: Y4 (Y2 (.d (.str []) :: .d (.bool false) :: Y1 (.ptr 0 0 0 :: .clo 142 [.ptr 1 0 0,.ptr 2 0 0,.ptr 0 0 0] :: .d (.int .i64 (((outI nx gl ls j i (seen,st) : Nat) : Int))) :: Y32 (Y8 (Y4 (Y2 (Y1 ([])))))))))) [.box [.sl 3 0 0 (outG nx gl ls j i (seen,st)).2.2.length],.box [.sl 4 0 0 size],.box [.d (.fn gf gcaps)],.arr (dA (outG nx gl ls j i (seen,st)).2.2) 3 0,.arr (eG (outG nx gl ls j i (seen,st)).2.1) 1 0] := by
 intro j
 induction j with
 | zero =>
  intro i m seen st sn hi hi2 hm hg htr hsn
  obtain _ | m := m; omega
  obtain rfl : i = st.length := by omega
  subst hsn
  simp only [outG,outI,Bool.false_eq_true,if_false]
  rw [pN]
  simp only [pB,Try.f117,SLM,simprocAttr]
  simp -implicitDefEqProofs (maxSteps := 2000000) (disch := try exact Dz) only [↓DN,↓kAsg,↓kRet,UP,simprocAttr,↓iS,↓gQ,↓gH,PE,Int.lt_irrefl]
 | succ j ih =>
  intro i m seen st sn hi hi2 hm hg htr hsn
  obtain _ | m := m; omega
  subst hsn
  by_cases hc : i < st.length
  ·have hci : (i : Int) < st.length := by omega
   have hroom := hg.room
   have hmem : st.getD i default ∈ st := by rw [List.getD_eq_getElem?_getD,List.getElem?_eq_getElem hc]; exact List.getElem_mem hc
   have hI := hg.node _ hmem
   have hnl := hg.wide _ hmem
   obtain ⟨k1,k2,k3⟩ := RH (gl := gl) (nx := nx) (p := (i : Int)) hr hI ls (seen,st) (fun x c h1 h2 => hx x c h1 (hls c h2).1 (by have := (hls c h2).2; omega)) hg
   have ktr := UX (gl := gl) (nx := nx) (ns := (st.getD i default).ns) ls hls seen st htr hc
   have loop_b := fun {R : Type} {n : Nat} (hn : 5 ≤ n) {k : Exit → List A → H → Option R} => @aKH R L n hn hL I gl nf gf caps gcaps size nx ls (st.getD i default).ns i (fun {R n id hq k} => kc_n) (fun {R n hq k} => kc_g) hr hsz hI hx hw hls hll hnl k ls.length 0 L seen st st.length (by omega) (by omega) hg htr hc rfl rfl
   simp only [List.drop_zero,Int.natCast_zero,Nat.zero_add] at loop_b
   have ih' := ih (i + 1) m (ltG nx gl (st.getD i default).ns i ls (seen,st)).2.1 (ltG nx gl (st.getD i default).ns i ls (seen,st)).2.2 _ (by have : (ltG nx gl (st.getD i default).ns i ls (seen,st)).2.2.length + kO (ltG nx gl (st.getD i default).ns i ls (seen,st)).2.1 ≤ st.length + kO seen := k2; omega) (by have : st.length ≤ (ltG nx gl (st.getD i default).ns i ls (seen,st)).2.2.length := k3; omega) (by omega) k1 ktr rfl
   have e4 : ((i + 1 : Nat) : Int) = (i : Int) + 1 := by omega
   rw [e4] at ih'
   simp only [outG,outI,hc,if_true]
   clear ih hmem k1 k2 k3 ktr hg hI hx hw hls hr kc_n kc_g hnl
   generalize ltI nx gl (st.getD i default).ns (i : Int) ls (seen,st) = T at *
   generalize ltG nx gl (st.getD i default).ns (i : Int) ls (seen,st) = w at *
   obtain ⟨w0,w1,w2⟩ := w
   simp only at ih' loop_b ⊢
   have hll3 : ls.length ≤ 4294967290 := by omega
   cases w0 with
   | true =>
    simp only [if_true] at loop_b
    rw [pN]
    simp only [pB,Try.f117,SLM,simprocAttr]
    simp -implicitDefEqProofs (maxSteps := 2000000) (disch := try exact Dz) only [↓DN,↓kAsg,↓kRet,UP,simprocAttr,↓iS,↓gQ,↓gH,PE,hci,Int.toNat_natCast,↓loop_b]
   | false =>
    simp only [Bool.false_eq_true,if_false] at loop_b ⊢
    rw [pN]
    simp only [pB,Try.f117,SLM,simprocAttr]
    simp -implicitDefEqProofs (maxSteps := 2000000) (disch := try exact Dz) only [↓DN,↓kAsg,↓kRet,UP,simprocAttr,↓iS,↓gQ,↓gH,PE,hci,Int.toNat_natCast,↓loop_b,↓ih']
  ·obtain rfl : i = st.length := by omega
   simp only [outG,outI,hc,Bool.false_eq_true,if_false]
   rw [pN]
   simp only [pB,Try.f117,SLM,simprocAttr]
   simp -implicitDefEqProofs (maxSteps := 2000000) (disch := try exact Dz) only [↓DN,↓kAsg,↓kRet,UP,simprocAttr,↓iS,↓gQ,↓gH,PE,Int.lt_irrefl]
theorem P2 {n : Int} {h : H} (h0 : 0 ≤ n) (h1 : n ≤ 4294967296) : lB env.P h 24 n n = some (.sl h.length 0 0 n.toNat,h ++ [.arr (eG (List.replicate n.toNat false)) 1 0]) := by
 have hm : n ≤ (b5 : Nat) := by unfold b5; omega
 have he : bG env.P 24 = some 4 := by kernel_rfl
 have hz : bR env.P 4 = some (.d (.bool false)) := by kernel_rfl
 have hok : bM env.P 4 = true := by kernel_rfl
 have hc : env.P.cellsOf 4 = 1 := by kernel_rfl
 simp only [lB,he,hz,aQ,AB,Option.map_some,hok,h0,hm,hc,Int.le_refl,and_self,if_true,eG,List.map_replicate,List.flatten_replicate_singleton]
theorem aDs {L n : Nat} (hn : 7 ≤ n) (hL : 2 ^ 60 ≤ L) {I : Int → Prop} {gl : Int → Bool} {nf gf : FuncId} {caps gcaps : List D} {size : Nat} {nx : Int → Int → List Int} {ls ns : List Int}
  (kc_n : ∀ {R : Type} {n id : Nat} {hq : H} {k : A → H → Option R} (x c : Int) (o : List Int),4 ≤ n → I x → 0 ≤ c → c < 6 → o.length ≤ 2147483648 → hq[id]? = some (.arr (ints o) 1 0) → aM env (aA env L n) hq nf (.d (.int .i64 x) :: .d (.int .i64 c) :: .sl id 0 0 o.length :: caps.map A.d) k = k (.sl id (nx x c).length 0 (o ++ nx x c).length) (hq.set id (.arr (ints (o ++ nx x c)) 1 (nx x c).length)))
  (kc_g : ∀ {R : Type} {n : Nat} {hq : H} {k : A → H → Option R} (x : Int),2 ≤ n → I x → aM env (aA env L n) hq gf (.d (.int .i64 x) :: gcaps.map A.d) k = k (.d (.bool (gl x))) hq)
  (hr : ∀ x,I x → 0 ≤ x ∧ x < size) (hsz : size ≤ 16777216) (hI : ∀ x ∈ ns,I x) (hx : ∀ x c,I x → 0 ≤ c → c < 6 → ∀ y ∈ nx x c,I y) (hw : ∀ x c,(nx x c).length ≤ 64) (hls : ∀ c ∈ ls,0 ≤ c ∧ c ≤ 5) (hll : ls.length ≤ 6) (hne : ns ≠ []) (hnl : ns.length ≤ size) :
  aA env L n 117 [.d (.int .i64 size),.d (.ivs ns.length (ints ns)),.d (.ivs ls.length (ints ls)),.d (.fn nf caps),.d (.fn gf gcaps)] [] = some (.tup [.d (.str (txt (QW nx gl ls ns size).1)),.d (.bool (QW nx gl ls ns size).2)],[]) := by
 have hs0 : (0 : Int) ≤ size := by omega
 have hs1 : (size : Int) ≤ 4294967296 := by omega
 have kc_v := fun {R : Type} {n : Nat} {k : A → H → Option R} {p l : Int} (hn : 4 ≤ n) => @aRV R L n k hn hL I gl gf gcaps size p l ns (fun {R n hq k} => kc_g) hI hr (by omega) (by omega) hne
 have hu : kO (List.replicate size false) = size := by simp [kO]
 have hg0 : PGood I size (List.replicate size false) [] := ⟨by simp,by simp,by rw [hu]; simp,by simp⟩
 obtain ⟨g1,g2,g3⟩ := NC (gl := gl) hg0 hI hr (-1) 0
 have hpos := aHD (size := size) hne
 rw [← (BL gl ns (List.replicate size false) [] false).2] at hpos
 unfold QW
 generalize visG gl ns (List.replicate size false) [] false = r at *
 obtain ⟨r0,r1,r2⟩ := r
 simp only at g1 g2 g3 hpos kc_v ⊢
 have ha : addP [] (-1) 0 r1 = [⟨-1,0,r1⟩] := by
  unfold addP
  rw [if_neg (List.length_pos_iff.1 hpos)]; rfl
 rw [ha] at g1 g2
 have htr : Tree [⟨-1,0,r1⟩] := by
  intro k hk
  obtain rfl : k = 0 := by simpa using hk
  exact ⟨by show (-1 : Int) < _; omega,by show (0 : Int) ≤ 0 ∧ (0 : Int) ≤ 5; decide⟩
 have loop_a := fun {R : Type} {n : Nat} (hn : 6 ≤ n) {k : Exit → List A → H → Option R} => @aKP R L n hn hL I gl nf gf caps gcaps size nx ls (fun {R n id hq k} => kc_n) (fun {R n hq k} => kc_g) hr hsz hx hw hls hll k (size + 1) 0 L r0 [⟨-1,0,r1⟩] 1 (by rw [hu] at g2; simp only [List.length_nil,Nat.zero_add] at g2; omega) (by simp) (by omega) g1 htr rfl
 simp only [Int.natCast_zero] at loop_a
 have ee : (dA [⟨-1,0,r1⟩]) = [.int .i64 (-1),.int .i64 0,.ivs r1.length (ints r1)] := rfl
 rw [ha]
 clear g1 g2 g3 hg0 hI hx hw hls hr kc_n kc_g htr
 cases r2 with
 | true =>
  obtain _ | n := n; omega
  rw [DZ]
  simp only [xR,Try.f117,SLM,simprocAttr]
  simp -implicitDefEqProofs (maxSteps := 2000000) (disch := try exact Dz) only [↓DN,↓kAsg,↓kRet,UP,simprocAttr,↓iS,↓gQ,↓gH,PE,↓P2,Int.toNat_natCast,↓kc_v]
  rfl
 | false =>
  simp only [Bool.false_eq_true,if_false]
  generalize outI nx gl ls (size + 1) 0 (r0,[⟨-1,0,r1⟩]) = T at *
  generalize outG nx gl ls (size + 1) 0 (r0,[⟨-1,0,r1⟩]) = w at *
  obtain ⟨w0,w1,w2⟩ := w
  simp only at loop_a ⊢
  cases w0 with
  | true =>
   simp only [if_true] at loop_a ⊢
   obtain _ | n := n; omega
   rw [DZ]
   simp only [xR,Try.f117,SLM,simprocAttr]
   simp -implicitDefEqProofs (maxSteps := 2000000) (disch := try exact Dz) only [↓DN,↓kAsg,↓kRet,UP,simprocAttr,↓iS,↓gQ,↓gH,PE,↓P2,Int.toNat_natCast,↓kc_v,↓loop_a]
   rfl
  | false =>
   simp only [Bool.false_eq_true,if_false] at loop_a ⊢
   obtain _ | n := n; omega
   rw [DZ]
   simp only [xR,Try.f117,SLM,simprocAttr]
   simp -implicitDefEqProofs (maxSteps := 2000000) (disch := try exact Dz) only [↓DN,↓kAsg,↓kRet,UP,simprocAttr,↓iS,↓gQ,↓gH,PE,↓P2,Int.toNat_natCast,↓kc_v,↓loop_a]
   rfl
theorem gX {a : Aut} (h : AOK a) : a7 a.nx ∧ oR (aC a.al).length a.nx ∧ 1 ≤ a.nx.length ∧ a.nx.length ≤ 12 ∧ a.ac.length = a.nx.length := by
 obtain ⟨a1,a2,a3,a4⟩ := aES h
 have aw := PR h
 exact ⟨⟨by omega,fun r hr => by have := aw r hr; have := eZ a.al; omega⟩,aw,a1,a2,a3⟩
def tabP (a : Aut) : D := .iptr [.ivs a.nx.length (ints (wT a.al a.nx))]
theorem aSH {v : Int} : ints [v] = [.int .i64 v] := rfl
theorem TZ {L n : Nat} (hn : 1 ≤ n) (al : Int) (rs : List (List Int)) (z : Nat) (cs : List D) (hrl : rs.length ≤ 4294967296) (i : Int) : aA env L n 85 [.agg [.d (.int .i64 al),.d (.ivs rs.length (aK rs)),.d (.ivs z cs)],.d (.int .i64 i)] [] = some (.d (.bool (decide (0 ≤ i) && decide (i < rs.length))),[]) := by
 by_cases h1 : 0 ≤ i
 ·by_cases h2 : i < rs.length
  ·simp only [h1,h2,decide_true,Bool.and_self]
   obtain _ | n := n; omega
   rw [JE]
   simp only [D0,Try.f85,SLM,simprocAttr]
   simp -implicitDefEqProofs (maxSteps := 2000000) (disch := try exact Dz) only [↓DN,↓kAsg,↓kRet,UP,simprocAttr,LA,h1,h2]
  ·simp only [h1,h2,decide_true,decide_false,Bool.and_false]
   obtain _ | n := n; omega
   rw [JE]
   simp only [D0,Try.f85,SLM,simprocAttr]
   simp -implicitDefEqProofs (maxSteps := 2000000) (disch := try exact Dz) only [↓DN,↓kAsg,↓kRet,UP,simprocAttr,LA,h1,h2]
 ·simp only [h1,decide_false,Bool.false_and]
  obtain _ | n := n; omega
  rw [JE]
  simp only [D0,Try.f85,SLM,simprocAttr]
  simp -implicitDefEqProofs (maxSteps := 2000000) (disch := try exact Dz) only [↓DN,↓kAsg,↓kRet,UP,simprocAttr,LA,h1]
theorem KP {R : Type} {L n : Nat} {hq : H} {k : A → H → Option R} (hn : 1 ≤ n) (al : Int) (rs : List (List Int)) (z : Nat) (cs : List D) (hrl : rs.length ≤ 4294967296) (i : Int) : aM env (aA env L n) hq 85 [.agg [.d (.int .i64 al),.d (.ivs rs.length (aK rs)),.d (.ivs z cs)],.d (.int .i64 i)] k = k (.d (.bool (decide (0 ≤ i) && decide (i < rs.length)))) hq :=
 aX rfl (TZ hn al rs z cs hrl i) rfl (.inl rfl)
theorem IW {R : Type} {L n : Nat} {k : A → Option R} (hn : 1 ≤ n) (al : Int) (rs : List (List Int)) (z : Nat) (cs : List D) (hrl : rs.length ≤ 4294967296) (i : Int) : bH (aA env L n) 85 [.agg [.d (.int .i64 al),.d (.ivs rs.length (aK rs)),.d (.ivs z cs)],.d (.int .i64 i)] k = k (.d (.bool (decide (0 ≤ i) && decide (i < rs.length)))) :=
 fB (TZ hn al rs z cs hrl i) rfl
theorem C5 {R : Type} {L n : Nat} {hq : H} {k : A → H → Option R} {id0 g0 o0 len0 : Nat} {al : Int} {z : Nat} {cs : List D} {i : Int} : aM env (aA env L n) hq 85 [.agg [.d (.int .i64 al),.sl id0 g0 o0 len0,.d (.ivs z cs)],.d (.int .i64 i)] k = match box (c7 hq [.agg [.d (.int .i64 al),.sl id0 g0 o0 len0,.d (.ivs z cs)],.d (.int .i64 i)]) with
  | .mk (some fs) => bH (aA env L n) 85 fs fun r => k r hq
  | _ => none := aW qZ
theorem DV {R : Type} {L n : Nat} {hq : H} {k : A → H → Option R} {id1 g1 o1 len1 : Nat} {al : Int} {rs : List (List Int)} {i : Int} : aM env (aA env L n) hq 85 [.agg [.d (.int .i64 al),.d (.ivs rs.length (aK rs)),.sl id1 g1 o1 len1],.d (.int .i64 i)] k = match box (c7 hq [.agg [.d (.int .i64 al),.d (.ivs rs.length (aK rs)),.sl id1 g1 o1 len1],.d (.int .i64 i)]) with
  | .mk (some fs) => bH (aA env L n) 85 fs fun r => k r hq
  | _ => none := aW qZ
theorem DB {R : Type} {L n : Nat} {hq : H} {k : A → H → Option R} {id1 g1 o1 len1 : Nat} {id0 g0 o0 len0 : Nat} {al : Int} {i : Int} : aM env (aA env L n) hq 85 [.agg [.d (.int .i64 al),.sl id0 g0 o0 len0,.sl id1 g1 o1 len1],.d (.int .i64 i)] k = match box (c7 hq [.agg [.d (.int .i64 al),.sl id0 g0 o0 len0,.sl id1 g1 o1 len1],.d (.int .i64 i)]) with
  | .mk (some fs) => bH (aA env L n) 85 fs fun r => k r hq
  | _ => none := aW qZ
def nxS (a : Aut) (v l : Int) : List Int := [goI a.al a.nx v l]
def glS (st v : Int) : Bool := decide (v = st)
def inS (a : Aut) (x : Int) : Prop := 0 ≤ x ∧ x < (a.nx.length : Int)
def oneG (a : Aut) (st : Int) : List Int × Bool := QW (nxS a) (glS st) (aC a.al) [0] a.nx.length
def accG (a : Aut) (st : Int) : List Int × Bool := if iK a.al a.nx a.ac = true then oneG a st else ([],false)
theorem N6 {a : Aut} (ha : AOK a) {v c : Int} (h0 : 0 ≤ v) (h1 : v < (a.nx.length : Int)) (hc : 0 ≤ c ∧ c < 6) : ∀ m ∈ nxS a v c,0 ≤ m ∧ m < (a.nx.length : Int) := by
 intro m hm
 simp only [nxS,List.mem_singleton] at hm
 subst hm
 exact WX ha h0 h1 hc.1 hc.2
theorem H3 {a : Aut} (ha : AOK a) (st : Int) : LY (Hits (nxS a) (aC a.al) [0] (glS st)) (oneG a st) := by
 obtain ⟨_,_,h1,_,_⟩ := gX ha
 refine aRd (EC _) (fun p c h0 h1 hc => ?_) (fun n hn => ?_) (by simp)
 ·have := mO c hc
  exact N6 ha h0 h1 (by omega)
 ·simp only [List.mem_singleton] at hn
  omega
theorem aEo {a : Aut} (ha : AOK a) : ∀ (w : List Int) (v u : Int),0 ≤ v → v < (a.nx.length : Int) → Path (nxS a) (aC a.al) v w u → 0 ≤ u ∧ u < (a.nx.length : Int)
 | [],v,u,h0,h1,h => by simp only [Path] at h; subst h; exact ⟨h0,h1⟩
 | l :: w,v,u,h0,h1,h => by
  simp only [Path] at h
  obtain ⟨hl,m,hm,hp⟩ := h
  have := mO l hl
  have hr := N6 ha h0 h1 ⟨this.1,by omega⟩ m hm
  exact aEo ha w m u hr.1 hr.2 hp
theorem aRi {a : Aut} (ha : AOK a) {st : Int} (h : ¬ (0 ≤ st ∧ st < (a.nx.length : Int))) : oneG a st = ([],false) := by
 obtain ⟨_,_,h1,_,_⟩ := gX ha
 rcases H3 ha st with ⟨_,⟨u,⟨s,hs,hp⟩,hg⟩,_⟩ | ⟨he,_⟩
 ·simp only [List.mem_singleton] at hs
  subst hs
  have := aEo ha _ _ _ (by omega) (by omega) hp
  simp only [glS,decide_eq_true_eq] at hg
  subst hg
  exact absurd this h
 ·exact he
theorem XB {L n : Nat} (hn : 1 ≤ n) {a : Aut} (ha : AOK a) {x c : Int} (hx : inS a x) (hc0 : 0 ≤ c) (hc6 : c < 6) (o : List Int) (ho : o.length ≤ 2147483648) :
  aA env L n 120 [.d (.int .i64 x),.d (.int .i64 c),.sl 0 0 0 o.length,.d (tabP a)] [.arr (ints o) 1 0] = some (.sl 0 (nxS a x c).length 0 (o ++ nxS a x c).length,[.arr (ints (o ++ nxS a x c)) 1 (nxS a x c).length]) := by
 obtain ⟨sa,wa,a1,a2,a3⟩ := gX ha
 have ga := WX ha hx.1 hx.2 hc0 hc6
 have hla := HR a.al a.nx
 have hta := aRJ (al := a.al) hx.1 hx.2 hc0 hc6
 rw [List.drop_drop] at hta
 unfold nxS tabP
 obtain ⟨x0,x1⟩ := hx
 have d1 : x.toNat * 6 ≤ a.nx.length * 6 := by omega
 have d3 : c.toNat < a.nx.length * 6 - x.toNat * 6 := by omega
 generalize goI a.al a.nx x c = g1 at *
 have hl1 : (List.length [g1]) = 1 := rfl
 clear ha sa wa
 obtain _ | n := n; omega
 rw [XI]
 simp only [J4,Try.f120,SLM,simprocAttr]
 simp -implicitDefEqProofs (maxSteps := 2000000) (disch := try exact Dz) only [↓DN,↓kAsg,↓kRet,UP,simprocAttr,hla,hta,x0,x1,d1,d3,u_t6,u_a6,c_a6,aBU,Int.toNat_natCast,List.length_drop,List.drop_drop,b9,fO,List.length_append,hl1]
theorem aKI {R : Type} {L n id : Nat} {hq : H} {k : A → H → Option R} (hn : 1 ≤ n) {a : Aut} (ha : AOK a) (x c : Int) (o : List Int) (hx : inS a x) (hc0 : 0 ≤ c) (hc6 : c < 6) (ho : o.length ≤ 2147483648) (hid : hq[id]? = some (.arr (ints o) 1 0)) :
  aM env (aA env L n) hq 120 (.d (.int .i64 x) :: .d (.int .i64 c) :: .sl id 0 0 o.length :: [tabP a].map A.d) k
  = k (.sl id (nxS a x c).length 0 (o ++ nxS a x c).length) (hq.set id (.arr (ints (o ++ nxS a x c)) 1 (nxS a x c).length)) := by
 refine aJ2 hid (by simp [idsL,idsA]) s4 ?_
 have hpl : aI [id] id = some 0 := by simp [aI]
 simp only [List.map_cons,List.map_nil,aG,mapA,hpl]
 exact XB hn ha hx hc0 hc6 o ho
theorem TG {L n : Nat} (hn : 1 ≤ n) (x st : Int) : aA env L n 97 [.d (.int .i64 x),.d (.iptr [.int .i64 st])] [] = some (.d (.bool (glS st x)),[]) := by
 unfold glS
 by_cases h : x = st
 ·subst h
  obtain _ | n := n; omega
  rw [EO]
  simp only [wC,Try.f97,SLM,simprocAttr]
  simp -implicitDefEqProofs (maxSteps := 2000000) (disch := try exact Dz) only [↓DN,↓kAsg,↓kRet,UP,simprocAttr,LA,beq_self_eq_true,decide_true]
 ·have h2 : (x == st) = false := by simpa using h
  have h3 : decide (x = st) = false := by simpa using h
  obtain _ | n := n; omega
  rw [EO]
  simp only [wC,Try.f97,SLM,simprocAttr]
  simp -implicitDefEqProofs (maxSteps := 2000000) (disch := try exact Dz) only [↓DN,↓kAsg,↓kRet,UP,simprocAttr,LA,h2,h3]
theorem aC4 {L n : Nat} (hn : 8 ≤ n) (hL : 2 ^ 60 ≤ L) {a : Aut} (ha : AOK a) (st : Int) :
  aA env L n 96 [.agg [.d (.int .i64 a.al),.d (.ivs a.nx.length (aK a.nx)),.d (.ivs a.ac.length (aJ a.ac))],.d (.fn 97 [.iptr [.int .i64 st]])] [] = some (.tup [.d (.str (txt (oneG a st).1)),.d (.bool (oneG a st).2)],[]) := by
 obtain ⟨sa,wa,a1,a2,a3⟩ := gX ha
 have hp := fun {n : Nat} (hn : 7 ≤ n) => @aDs L n hn hL (inS a) (glS st) 120 97 [tabP a] [.iptr [.int .i64 st]] a.nx.length (nxS a) (aC a.al) [0]
  (fun {R n id hq k} x c o h4 hI h0 h6 ho hid => aKI (by omega) ha x c o hI h0 h6 ho hid)
  (fun {R n hq k} x h2 hI => aX rfl (TG (by omega) x st) rfl (.inl rfl))
  (fun x hI => hI) (by omega) (fun x hx => by simp at hx; subst hx; exact ⟨by omega,by omega⟩) (fun x c hI h0 h6 y hy => N6 ha hI.1 hI.2 ⟨h0,h6⟩ y hy) (fun x c => by simp [nxS]) mO (eZ a.al) (by simp) (by simp only [List.length_cons,List.length_nil]; omega)
 have kl_p := fun {R : Type} {n : Nat} {k : A → Option R} (hn : 7 ≤ n) => fB (k := k) (hp (n := n) hn) rfl
 have er : QW (nxS a) (glS st) (aC a.al) [0] a.nx.length = oneG a st := rfl
 rw [er] at kl_p
 simp only [aSH,List.length_cons,List.length_nil,Nat.zero_add,tabP] at kl_p
 have hla := HR a.al a.nx
 have kv_l := fun {R : Type} {n : Nat} {hq : H} {args : List A} {k : A → H → Option R} => aW (E := env) (call := aA env L n) (h := hq) (k := k) (args := args) yM
 clear hp ha er
 generalize oneG a st = r at *
 obtain _ | n := n; omega
 rw [aDi]
 simp only [SN,Try.f96,SLM,simprocAttr]
 simp -implicitDefEqProofs (maxSteps := 2000000) (disch := try exact Dz) only [↓DN,↓kAsg,↓kRet,UP,simprocAttr,↓aF5,↓bX,LA,sa,wa,↓kv_l,↓kl_p,Int.toNat_natCast,dT,hla]
theorem LT {L n : Nat} (hn : 9 ≤ n) (a : Aut) (st : Int) (hs : a7 a.nx) (hac : a.ac.length ≤ 4294967296) (hL : 2 ^ 60 ≤ L) : aA env L n 71 [.agg [.d (.int .i64 a.al),.d (.ivs a.nx.length (aK a.nx)),.d (.ivs a.ac.length (aJ a.ac))],.d (.int .i64 st)] [] = some (.tup [.d (.str (txt (accG a st).1)),.d (.bool (accG a st).2)],[]) := by
 have hrl := hs.1
 unfold accG
 cases hv : iK a.al a.nx a.ac with
 | false =>
  simp only [Bool.false_eq_true,if_false,txt,List.map_nil]
  obtain _ | n := n; omega
  rw [L8]
  simp only [DP,Try.f71,SLM,simprocAttr]
  simp -implicitDefEqProofs (maxSteps := 2000000) (disch := try exact Dz) only [↓DN,↓kAsg,↓kRet,UP,simprocAttr,↓hJ,↓hU,↓f5,↓gA,↓fX,LA,hv]
 | true =>
  simp only [if_true]
  have kl_b := fun {R : Type} {n : Nat} {k : A → Option R} (hn : 8 ≤ n) => fB (call := aA env L n) (k := k) (f := 96) (@aC4 L n hn hL a hv st) rfl
  have kv_l := fun {R : Type} {n : Nat} {hq : H} {args : List A} {k : A → H → Option R} => aW (E := env) (call := aA env L n) (h := hq) (k := k) (args := args) yP
  generalize oneG a st = r at *
  obtain _ | n := n; omega
  rw [L8]
  simp only [DP,Try.f71,SLM,simprocAttr]
  simp -implicitDefEqProofs (maxSteps := 2000000) (disch := try exact Dz) only [↓DN,↓kAsg,↓kRet,UP,simprocAttr,↓hJ,↓hU,↓f5,↓gA,↓fX,LA,hv,↓kv_l,↓kl_b]
theorem tF {R : Type} {L n : Nat} {hq : H} {k : A → H → Option R} (hn : 9 ≤ n) (a : Aut) (st : Int) (hs : a7 a.nx) (hac : a.ac.length ≤ 4294967296) (hL : 2 ^ 60 ≤ L) : aM env (aA env L n) hq 71 [.agg [.d (.int .i64 a.al),.d (.ivs a.nx.length (aK a.nx)),.d (.ivs a.ac.length (aJ a.ac))],.d (.int .i64 st)] k = k (.tup [.d (.str (txt (accG a st).1)),.d (.bool (accG a st).2)]) hq :=
 aX rfl (LT hn a st hs hac hL) rfl (.inl rfl)
theorem pC {R : Type} {L n : Nat} {k : A → Option R} (hn : 9 ≤ n) (a : Aut) (st : Int) (hs : a7 a.nx) (hac : a.ac.length ≤ 4294967296) (hL : 2 ^ 60 ≤ L) : bH (aA env L n) 71 [.agg [.d (.int .i64 a.al),.d (.ivs a.nx.length (aK a.nx)),.d (.ivs a.ac.length (aJ a.ac))],.d (.int .i64 st)] k = k (.tup [.d (.str (txt (accG a st).1)),.d (.bool (accG a st).2)]) :=
 fB (LT hn a st hs hac hL) rfl
theorem nP {R : Type} {L n : Nat} {hq : H} {k : A → H → Option R} {id0 g0 o0 len0 : Nat} {a : Aut} {st : Int} : aM env (aA env L n) hq 71 [.agg [.d (.int .i64 a.al),.sl id0 g0 o0 len0,.d (.ivs a.ac.length (aJ a.ac))],.d (.int .i64 st)] k = match box (c7 hq [.agg [.d (.int .i64 a.al),.sl id0 g0 o0 len0,.d (.ivs a.ac.length (aJ a.ac))],.d (.int .i64 st)]) with
  | .mk (some fs) => bH (aA env L n) 71 fs fun r => k r hq
  | _ => none := aW nJ
theorem nR {R : Type} {L n : Nat} {hq : H} {k : A → H → Option R} {id1 g1 o1 len1 : Nat} {a : Aut} {st : Int} : aM env (aA env L n) hq 71 [.agg [.d (.int .i64 a.al),.d (.ivs a.nx.length (aK a.nx)),.sl id1 g1 o1 len1],.d (.int .i64 st)] k = match box (c7 hq [.agg [.d (.int .i64 a.al),.d (.ivs a.nx.length (aK a.nx)),.sl id1 g1 o1 len1],.d (.int .i64 st)]) with
  | .mk (some fs) => bH (aA env L n) 71 fs fun r => k r hq
  | _ => none := aW nJ
theorem nK {R : Type} {L n : Nat} {hq : H} {k : A → H → Option R} {id1 g1 o1 len1 : Nat} {id0 g0 o0 len0 : Nat} {a : Aut} {st : Int} : aM env (aA env L n) hq 71 [.agg [.d (.int .i64 a.al),.sl id0 g0 o0 len0,.sl id1 g1 o1 len1],.d (.int .i64 st)] k = match box (c7 hq [.agg [.d (.int .i64 a.al),.sl id0 g0 o0 len0,.sl id1 g1 o1 len1],.d (.int .i64 st)]) with
  | .mk (some fs) => bH (aA env L n) 71 fs fun r => k r hq
  | _ => none := aW nJ
end Ev
end Go.Proofs.Ytppdfjdfjfoddaa
