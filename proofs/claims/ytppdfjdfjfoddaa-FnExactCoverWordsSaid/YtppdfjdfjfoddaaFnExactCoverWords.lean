/-
  The words that cover, walked: the reference's.
-/
import Derived.Test.YtppdfjdfjfoddaaAccessS
import Derived.Test.YtppdfjdfjfoddaaSortLayX
import Derived.Test.YtppdfjdfjfoddaaLeast
set_option linter.unusedSimpArgs false
set_option linter.unusedVariables false
set_option maxRecDepth 8000
set_option maxHeartbeats 4000000
namespace Go.Proofs.Ytppdfjdfjfoddaa
namespace Ev
theorem x1o9 {f : Int → Int} {r : List Int} {k : Nat} (h : k < r.length) : (r.drop k).map f = f (r.getD k 0) :: (r.drop (k + 1)).map f := by
 rw [x2k h (d := 0)]; rfl
theorem x17m {b : List Bool} {x : Bool} : bools b ++ [.bool x] = bools (b ++ [x]) := by simp [bools]
theorem x1bb {R : Type} {L n : Nat} (hn : 3 ≤ n) (hL : 2 ^ 60 ≤ L) {a : Aut} {o : List Int} {i : Nat} {v : Int} (hio : i < o.length) (hoi : o.getD i 0 = v) (v0 : 0 ≤ v) (v1 : v < a.nx.length) (hr : (rowA a v).length ≤ 100) (ho : o.length ≤ 100) (hal : a.nx.length ≤ 100) (hin : ∀ x ∈ rowA a v,x ∈ o) {al2 : Int} {d e : Nat} {cn cs2 : List D} {k : Exit → List A → H → Option R} : ∀ (j q m : Nat) (r : List Int) (len : Nat) (hq : q + j = (rowA a v).length) (hm : j < m) (hlen : len = r.length) (hr2 : r.length + j ≤ 1000),
  xc env (x2 env L n) L 0 [] (Z1 (U4 (U2 (U1 (Z32 (Z16 (Z8 (Z4 (Z1 ([])))))))))) (x8v 1) (U1 (Z4 (Z2 (Z1 (U32 (U16 (U8 (U4 (U1 ([])))))))))) m (Y1 (.ptr 0 0 0 :: .ptr 1 0 0 :: .d (.ivs o.length (ints o)) :: .ptr 2 0 0 :: .d (.int .i64 ((i : Int))) :: .sl 3 0 0 len :: .d (.int .i64 ((q : Int))) :: Y32 (Y16 (Y8 (Y4 (Y1 ([]))))))) [.box [.d (.int .i64 a.al),.d (.ivs a.nx.length (rowsD a.nx)),.d (.ivs a.ac.length (bools a.ac))],.box [.d (.int .i64 0),.sl 4 0 0 0,.sl 5 0 0 0],.box [.d (.int .i64 al2),.sl 6 0 0 d,.sl 7 0 0 d],.arr (ints r) 1 0,.arr [] 0 0,.arr [] 0 0,.arr cn e 0,.arr cs2 e 0] k
  = k (.exit 2) (Y1 (.ptr 0 0 0 :: .ptr 1 0 0 :: .d (.ivs o.length (ints o)) :: .ptr 2 0 0 :: .d (.int .i64 ((i : Int))) :: .sl 3 0 0 (r ++ ((rowA a v).drop q).map (idxU o)).length :: .d (.int .i64 ((rowA a v).length)) :: Y32 (Y16 (Y8 (Y4 (Y1 ([]))))))) [.box [.d (.int .i64 a.al),.d (.ivs a.nx.length (rowsD a.nx)),.d (.ivs a.ac.length (bools a.ac))],.box [.d (.int .i64 0),.sl 4 0 0 0,.sl 5 0 0 0],.box [.d (.int .i64 al2),.sl 6 0 0 d,.sl 7 0 0 d],.arr (ints (r ++ ((rowA a v).drop q).map (idxU o))) 1 0,.arr [] 0 0,.arr [] 0 0,.arr cn e 0,.arr cs2 e 0] := by
 have hio1 : (i : Int) < o.length := by omega
 have hi0 : (0 : Int) ≤ i := by omega
 have hvk : v.toNat < a.nx.length := by omega
 intro j
 induction j with
 | zero =>
  intro q m r len hq hm hlen hr2
  obtain _ | m := m; omega
  obtain rfl : q = (rowA a v).length := by omega
  subst hlen
  rw [List.drop_length]
  unfold rowA at *
  rw [xvs]
  simp only [xtd,Try.f69,SLM,simprocAttr]
  simp -implicitDefEqProofs (maxSteps := 2000000) (disch := first | assumption | exact ⟨by kernel_rfl⟩ | omega | (simp only [GT,LN] <;> omega) | fail) only [↓DN,↓kAsg,↓kRet,UP,simprocAttr,↓xce,↓xc6,↓xbr,↓xa1,LA,hio1,hi0,hoi,v0,v1,Int.toNat_natCast,Int.lt_irrefl,x2m,x5m,x60,x6l]
 | succ j ih =>
  intro q m r len hq hm hlen hr2
  obtain _ | m := m; omega
  subst hlen
  have hk : q < (rowA a v).length := by omega
  have hx : (rowA a v).getD q 0 ∈ o := hin _ (xfk hk)
  have ih' := ih (q + 1) m (r ++ [idxU o ((rowA a v).getD q 0)]) (r.length + 1) (by omega) (by omega) (by simp) (by simp; omega)
  rw [show ((q + 1 : Nat) : Int) = (q : Int) + 1 by omega] at ih'
  simp only [List.append_assoc,List.singleton_append] at ih'
  rw [x1o9 hk]
  have kc_x := fun {R : Type} {n : Nat} {hq : H} {k : A → H → Option R} (hn : 2 ≤ n) => @xc6 R L n hq k hn o ((rowA a v).getD q 0) hx (by omega) hL
  have hc : (q : Int) < (rowA a v).length := by omega
  have hq0 : (0 : Int) ≤ q := by omega
  clear ih hx hin
  generalize ((rowA a v).drop (q + 1)).map (idxU o) = w at *
  unfold rowA at *
  have hr100 : r.length ≤ 1000 := by omega
  rw [xvs]
  simp only [xtd,Try.f69,SLM,simprocAttr]
  simp -implicitDefEqProofs (maxSteps := 2000000) (disch := first | assumption | exact ⟨by kernel_rfl⟩ | omega | (simp only [GT,LN] <;> omega) | fail) only [↓DN,↓kAsg,↓kRet,UP,simprocAttr,↓xce,↓xbr,↓xa1,LA,hio1,hi0,hoi,v0,v1,hc,hq0,Int.toNat_natCast,x2m,x5m,x60,x6l,↓kc_x,x23,x53,List.length_append,↓ih']
theorem x1a8 {R : Type} {L n : Nat} (hn : 3 ≤ n) (hL : 2 ^ 60 ≤ L) {a : Aut} (ha : AOK a) {o : List Int} (ho : o.length ≤ 12) (hor : ∀ x ∈ o,0 ≤ x ∧ x < a.nx.length) (hin : ∀ v ∈ o,∀ x ∈ rowA a v,x ∈ o) {al2 : Int} {k : Exit → List A → H → Option R} : ∀ (j i m : Nat) (d : List (List Int)) (b : List Bool) (len e : Nat) (hi : i + j = o.length) (hm : j < m) (hd : d = (o.take i).map fun v => (rowA a v).map (idxU o)) (hb : b = (o.take i).map fun v => a.ac.getD v.toNat false) (hlen : i = len) (he : e = if i = 0 then 0 else 1),
  xc env (x2 env L n) L 0 [] (Z1 (U4 (U2 (U1 (Z32 (Z16 (Z8 (Z4 (Z1 ([])))))))))) (x8v 0) (U1 (Z4 (Z1 (U32 (U16 (U8 (U4 (U2 (U1 ([])))))))))) m (Y1 (.ptr 0 0 0 :: .ptr 1 0 0 :: .d (.ivs o.length (ints o)) :: .ptr 2 0 0 :: .d (.int .i64 ((i : Int))) :: Y32 (Y16 (Y8 (Y4 (Y2 (Y1 ([])))))))) [.box [.d (.int .i64 a.al),.d (.ivs a.nx.length (rowsD a.nx)),.d (.ivs a.ac.length (bools a.ac))],.box [.d (.int .i64 0),.sl 3 0 0 0,.sl 4 0 0 0],.box [.d (.int .i64 al2),.sl 5 0 0 len,.sl 6 0 0 len],.arr [] 0 0,.arr [] 0 0,.arr (rowsD d) e 0,.arr (bools b) e 0] k
  = k (.exit 0) (Y1 (.ptr 0 0 0 :: .ptr 1 0 0 :: .d (.ivs o.length (ints o)) :: .ptr 2 0 0 :: .d (.int .i64 ((o.length : Int))) :: Y32 (Y16 (Y8 (Y4 (Y2 (Y1 ([])))))))) [.box [.d (.int .i64 a.al),.d (.ivs a.nx.length (rowsD a.nx)),.d (.ivs a.ac.length (bools a.ac))],.box [.d (.int .i64 0),.sl 3 0 0 0,.sl 4 0 0 0],.box [.d (.int .i64 al2),.sl 5 0 0 o.length,.sl 6 0 0 o.length],.arr [] 0 0,.arr [] 0 0,.arr (rowsD (o.map fun v => (rowA a v).map (idxU o))) (if o.length = 0 then 0 else 1) 0,.arr (bools (o.map fun v => a.ac.getD v.toNat false)) (if o.length = 0 then 0 else 1) 0] := by
 obtain ⟨sa,wa,a1,a2,a3⟩ := x54 ha
 have hal := sa.1
 intro j
 induction j with
 | zero =>
  intro i m d b len e hi hm hd hb hlen he
  obtain _ | m := m; omega
  obtain rfl : i = o.length := by omega
  rw [List.take_length] at hd hb
  subst hd; subst hb; subst hlen; subst he
  rw [xl7]
  simp only [xl9,Try.f69,SLM,simprocAttr]
  simp -implicitDefEqProofs (maxSteps := 2000000) (disch := first | assumption | exact ⟨by kernel_rfl⟩ | omega | (simp only [GT,LN] <;> omega) | fail) only [↓DN,↓kAsg,↓kRet,UP,simprocAttr,↓xce,↓xc6,↓xbr,↓xa1,LA,Int.lt_irrefl]
 | succ j ih =>
  intro i m d b len e hi hm hd hb hlen he
  obtain _ | m := m; omega
  subst hlen
  have hio : i < o.length := by omega
  have hmem := xfk hio
  obtain ⟨v0,v1⟩ := hor _ hmem
  have hin1 := hin _ hmem
  have hrl := (xvb ha (i := (o.getD i 0).toNat) (by omega)).1
  have hll := x6j a.al
  have htk : o.take (i + 1) = o.take i ++ [o.getD i 0] := by
   rw [List.take_add_one,List.getElem?_eq_getElem hio,List.getD_eq_getElem?_getD,List.getElem?_eq_getElem hio]; rfl
  have hdl : d.length = i := by rw [hd,List.length_map,List.length_take]; omega
  have hbl : b.length = i := by rw [hb,List.length_map,List.length_take]; omega
  have ih' := ih (i + 1) m (d ++ [(rowA a (o.getD i 0)).map (idxU o)]) (b ++ [a.ac.getD (o.getD i 0).toNat false]) (i + 1) 1 (by omega) (by omega) (by rw [htk,hd,List.map_append]; rfl) (by rw [htk,hb,List.map_append]; rfl) rfl (by rw [if_neg (by omega)])
  rw [show ((i + 1 : Nat) : Int) = (i : Int) + 1 by omega] at ih'
  have loop_c := fun {R : Type} {n : Nat} {d e : Nat} {cn cs2 : List D} {k : Exit → List A → H → Option R} (hn : 3 ≤ n) => @x1bb R L n hn hL a o i (o.getD i 0) hio rfl v0 v1 (by unfold rowA; omega) (by omega) (by omega) hin1 al2 d e cn cs2 k (rowA a (o.getD i 0)).length 0 L [] 0 (by omega) (by unfold rowA; omega) rfl (by unfold rowA; rw [List.length_nil]; omega)
  rw [List.drop_zero] at loop_c
  simp only [Int.natCast_zero,List.nil_append,xhy] at loop_c
  have hc : (i : Int) < o.length := by omega
  have hi0 : (0 : Int) ≤ i := by omega
  have hrl2 : ((rowA a (o.getD i 0)).map (idxU o)).length ≤ 6 := by rw [List.length_map]; unfold rowA; omega
  clear ih hin hor hin1 hmem hd hb htk
  generalize (rowA a (o.getD i 0)).map (idxU o) = w at *
  generalize rowA a (o.getD i 0) = w0 at *
  generalize hv : o.getD i 0 = v at *
  have hvk : v.toNat < a.nx.length := by omega
  have hva : v.toNat < a.ac.length := by omega
  have hva2 : v < a.ac.length := by omega
  have ht : (rowsD d).take i = rowsD d := xob (by omega)
  have ht2 : (bools b).take i = bools b := xkw (by omega)
  have hwt : (ints w).take w.length = ints w := by rw [x23 (Nat.le_refl _)]
  have hi12 : i ≤ 12 := by omega
  by_cases hz : i = 0
  ·obtain rfl : e = 0 := by rw [he,if_pos hz]
   clear he hz
   rw [xl7]
   simp only [xl9,Try.f69,SLM,simprocAttr]
   simp -implicitDefEqProofs (maxSteps := 2000000) (disch := first | assumption | exact ⟨by kernel_rfl⟩ | omega | (simp only [GT,LN] <;> omega) | fail) only [↓DN,↓kAsg,↓kRet,UP,simprocAttr,↓xce,↓xc6,↓xbr,↓xa1,LA,hc,hi0,hv,v0,v1,hva2,x2m,x5m,x60,x6l,Int.toNat_natCast,↓loop_c,ht,ht2,hwt,x13d,x17m,↓ih']
  ·obtain rfl : e = 1 := by rw [he,if_neg hz]
   clear he hz
   rw [xl7]
   simp only [xl9,Try.f69,SLM,simprocAttr]
   simp -implicitDefEqProofs (maxSteps := 2000000) (disch := first | assumption | exact ⟨by kernel_rfl⟩ | omega | (simp only [GT,LN] <;> omega) | fail) only [↓DN,↓kAsg,↓kRet,UP,simprocAttr,↓xce,↓xc6,↓xbr,↓xa1,LA,hc,hi0,hv,v0,v1,hva2,x2m,x5m,x60,x6l,Int.toNat_natCast,↓loop_c,ht,ht2,hwt,x13d,x17m,↓ih']
theorem x1og {L n : Nat} (hn : 6 ≤ n) (a : Aut) (ha : AOK a) (hL : 2 ^ 60 ≤ L) : x2 env L n 69 [.agg [.d (.int .i64 a.al),.d (.ivs a.nx.length (rowsD a.nx)),.d (.ivs a.ac.length (bools a.ac))]] [] = some (.agg [.d (.int .i64 (x2x a).al),.d (.ivs (x2x a).nx.length (rowsD (x2x a).nx)),.d (.ivs (x2x a).ac.length (bools (x2x a).ac))],[]) := by
 obtain ⟨sa,wa,a1,a2,a3⟩ := x54 ha
 obtain ⟨W,hB⟩ := xmu ha
 have hl := x9v hB.nod hB.rng
 have hp := hB.pos
 have hin : ∀ v ∈ ordA a,∀ x ∈ rowA a v,x ∈ ordA a := by
  intro v hv x hx
  obtain ⟨v0,v1⟩ := hB.rng v hv
  rw [← x1fh ha v0 v1] at hx
  obtain ⟨l,hl,rfl⟩ := List.mem_map.1 hx
  exact xyw hB hv hl
 have loop_c := fun {R : Type} {n : Nat} {k : Exit → List A → H → Option R} (hn : 3 ≤ n) => @x1a8 R L n hn hL a ha (ordA a) (by omega) hB.rng hin a.al k (ordA a).length 0 L [] [] 0 0 (by omega) (by omega) rfl rfl rfl rfl
 have kc_o := fun {R : Type} {n : Nat} {hq : H} {k : A → H → Option R} (hn : 4 ≤ n) => @xce R L n hq k hn a ha hL
 simp only [Int.natCast_zero,x1i1,x1vq] at loop_c
 rw [if_neg (by omega)] at loop_c
 have hx1 : (x2x a).nx.length = (ordA a).length := List.length_map _
 have hx2 : (x2x a).ac.length = (ordA a).length := List.length_map _
 have hx3 : (x2x a).al = a.al := rfl
 have e1 : ((ordA a).map fun v => (rowA a v).map (idxU (ordA a))) = (x2x a).nx := rfl
 have e2 : ((ordA a).map fun v => a.ac.getD v.toNat false) = (x2x a).ac := rfl
 rw [e1,e2] at loop_c
 rw [hx1,hx2,hx3]
 have ht1 : (rowsD (x2x a).nx).take (ordA a).length = rowsD (x2x a).nx := xob (by omega)
 have ht2 : (bools (x2x a).ac).take (ordA a).length = bools (x2x a).ac := xkw (by omega)
 have hr1 : (rowsD (x2x a).nx).length = (ordA a).length := by rw [xk9,hx1]
 have hb1 : (bools (x2x a).ac).length = (ordA a).length := by rw [xbs,hx2]
 clear hB hin e1 e2
 generalize (x2x a).nx = w1 at *
 generalize (x2x a).ac = w2 at *
 generalize ordA a = w at *
 obtain _ | n := n; omega
 rw [x1p0]
 simp only [x1ai,Try.f69,SLM,simprocAttr]
 simp -implicitDefEqProofs (maxSteps := 2000000) (disch := first | assumption | exact ⟨by kernel_rfl⟩ | omega | (simp only [GT,LN] <;> omega) | fail) only [↓DN,↓kAsg,↓kRet,UP,simprocAttr,↓xc6,↓xbr,↓xa1,LA,↓kc_o,↓loop_c,ht1,ht2,hr1,hb1,Nat.le_refl]
theorem xnl {R : Type} {L n : Nat} {hq : H} {k : A → H → Option R} (hn : 6 ≤ n) (a : Aut) (ha : AOK a) (hL : 2 ^ 60 ≤ L) : x4 env (x2 env L n) hq 69 [.agg [.d (.int .i64 a.al),.d (.ivs a.nx.length (rowsD a.nx)),.d (.ivs a.ac.length (bools a.ac))]] k = k (.agg [.d (.int .i64 (x2x a).al),.d (.ivs (x2x a).nx.length (rowsD (x2x a).nx)),.d (.ivs (x2x a).ac.length (bools (x2x a).ac))]) hq :=
 xh rfl (x1og hn a ha hL) rfl (.inr rfl)
def xjj (x : Aut) (j i : Nat) : List Str := (List.range' i j).map fun q => txt (accG x (q : Nat)).1
theorem x1ou {x : Aut} {j i : Nat} : xjj x (j + 1) i = txt (accG x (i : Nat)).1 :: xjj x j (i + 1) := by
 simp [xjj,List.range'_succ]
theorem x1oe {a : Aut} (h : AOK a) : xjj (x2x a) (x2x a).nx.length 0 = xc3 a := by
 obtain ⟨W,hB⟩ := xmu h
 rw [x13s h hB]
 have hx1 : (x2x a).nx.length = (ordA a).length := List.length_map _
 unfold xjj
 rw [hx1,← List.range_eq_range']
 apply List.map_congr_left
 intro q hq
 unfold accG
 rw [if_pos (show x5e (x2x a).al (x2x a).nx (x2x a).ac = true from x195 h),x1x9 h hB (List.mem_range.1 hq)]
def xjc (a : Aut) : List Str := if x5e a.al a.nx a.ac = true then xc3 a else []
theorem xzq {a : Aut} (h : AOK a) : 1 ≤ (xc3 a).length ∧ (xc3 a).length ≤ 12 := by
 obtain ⟨W,hB⟩ := xmu h
 obtain ⟨sa,wa,a1,a2,a3⟩ := x54 h
 have hl := x9v hB.nod hB.rng
 have hp := hB.pos
 rw [x13s h hB,List.length_map,List.length_range]
 omega
theorem x15q {R : Type} {L n : Nat} (hn : 12 ≤ n) (hL : 2 ^ 60 ≤ L) {a : Aut} (ha : AOK a) {k : Exit → List A → H → Option R} : ∀ (q i m : Nat) (o : List Str) (len : Nat) (hq : i + q = a.nx.length) (hm : q < m) (hlen : len = o.length) (ho : o.length + q ≤ 100000),
  xc env (x2 env L n) L 0 [] (Z2 (U4 (Z16 (Z8 (Z2 ([])))))) (xaw 0) (U2 (Z4 (U16 (U8 (U2 ([])))))) m (Y2 (.d .nils :: .ptr 0 0 0 :: .sl 1 0 0 len :: .d (.int .i64 ((i : Int))) :: Y16 (Y8 (Y2 ([]))))) [.box [.d (.int .i64 a.al),.d (.ivs a.nx.length (rowsD a.nx)),.d (.ivs a.ac.length (bools a.ac))],.arr (xy o) 1 0] k
  = k (.exit 0) (Y2 (.d .nils :: .ptr 0 0 0 :: .sl 1 0 0 (o ++ xjj a q i).length :: .d (.int .i64 ((a.nx.length : Int))) :: Y16 (Y8 (Y2 ([]))))) [.box [.d (.int .i64 a.al),.d (.ivs a.nx.length (rowsD a.nx)),.d (.ivs a.ac.length (bools a.ac))],.arr (xy (o ++ xjj a q i)) 1 0] := by
 obtain ⟨sa,wa,a1,a2,a3⟩ := x54 ha
 have hac : a.ac.length ≤ 4294967296 := by omega
 have hal := sa.1
 intro q
 induction q with
 | zero =>
  intro i m o len hq hm hlen ho
  obtain _ | m := m; omega
  obtain rfl : i = a.nx.length := by omega
  subst hlen
  have e : xjj a 0 a.nx.length = [] := rfl
  rw [e,List.append_nil]
  rw [xls]
  simp only [xib,Try.f29,SLM,simprocAttr]
  simp -implicitDefEqProofs (maxSteps := 2000000) (disch := first | assumption | exact ⟨by kernel_rfl⟩ | omega | (simp only [GT,LN] <;> omega) | fail) only [↓DN,↓kAsg,↓kRet,UP,simprocAttr,↓x5b,↓xnl,↓xe3,↓x5c,↓xdy,↓x4d,↓x4a,↓x4c,↓xbm,↓xbj,↓xbo,LA,SE,Int.lt_irrefl]
 | succ q ih =>
  intro i m o len hq hm hlen ho
  obtain _ | m := m; omega
  subst hlen
  have hc : (i : Int) < a.nx.length := by omega
  have kc_s := fun {R : Type} {n : Nat} {hq : H} {k : A → H → Option R} (hn : 12 ≤ n) => @xe3 R L n hq k hn a i sa hac hL
  have ih' := ih (i + 1) m (o ++ [txt (accG a (i : Nat)).1]) (o.length + 1) (by omega) (by omega) (by simp) (by simp; omega)
  rw [show ((i + 1 : Nat) : Int) = (i : Int) + 1 by omega] at ih'
  simp only [List.append_assoc,List.singleton_append] at ih'
  rw [x1ou]
  clear ih
  generalize xjj a q (i + 1) = w2 at *
  generalize accG a (i : Nat) = r at *
  obtain ⟨w,b⟩ := r
  simp only at kc_s ih' ⊢
  rw [xls]
  simp only [xib,Try.f29,SLM,simprocAttr]
  simp -implicitDefEqProofs (maxSteps := 2000000) (disch := first | assumption | exact ⟨by kernel_rfl⟩ | omega | (simp only [GT,LN] <;> omega) | fail) only [↓DN,↓kAsg,↓kRet,UP,simprocAttr,↓x5b,↓xnl,↓x5c,↓xdy,↓x4d,↓x4a,↓x4c,↓xbm,↓xbj,↓xbo,LA,SE,hc,↓kc_s,xar,x1a6,List.length_append,↓ih']
theorem xk7 {L n : Nat} (hn : 13 ≤ n) (a : Aut) (hs : xp a.nx) (hac : a.ac.length ≤ 4294967296) (hL : 2 ^ 60 ≤ L) : x2 env L n 29 [.agg [.d (.int .i64 a.al),.d (.ivs a.nx.length (rowsD a.nx)),.d (.ivs a.ac.length (bools a.ac))]] [] = some (.d (.ivs (xjc a).length (xy (xjc a))),[]) := by
 have hrl := hs.1
 unfold xjc
 cases hv : x5e a.al a.nx a.ac with
 | false =>
  simp only [Bool.false_eq_true,if_false,List.length_nil,xuo]
  obtain _ | n := n; omega
  rw [xv1]
  simp only [xn3,Try.f29,SLM,simprocAttr]
  simp -implicitDefEqProofs (maxSteps := 2000000) (disch := first | assumption | exact ⟨by kernel_rfl⟩ | omega | (simp only [GT,LN] <;> omega) | fail) only [↓DN,↓kAsg,↓kRet,UP,simprocAttr,↓x5b,↓xnl,↓xe3,↓x5c,↓xdy,↓x4d,↓x4a,↓x4c,↓xbm,↓xbj,↓xbo,LA,hv]
 | true =>
  have htr := x195 (a := a) hv
  obtain ⟨sa,wa,a1,a2,a3⟩ := x54 htr
  have hl := xzq (a := a) hv
  have loop_c := fun {R : Type} {n : Nat} {k : Exit → List A → H → Option R} (hn : 12 ≤ n) => @x15q R L n hn hL (x2x a) htr k (x2x a).nx.length 0 L [] 0 (by omega) (by omega) rfl (by simp; omega)
  rw [List.nil_append,x1oe hv] at loop_c
  have kc_t := fun {R : Type} {n : Nat} {hq : H} {k : A → H → Option R} (hn : 6 ≤ n) => @xnl R L n hq k hn a hv hL
  simp only [if_true,Int.natCast_zero,xuo] at loop_c ⊢
  have hsn := sa.1
  clear htr wa
  generalize (x2x a) = x at *
  generalize xc3 a = w at *
  have e4 : (xy w).take w.length = xy w := xar (Nat.le_refl _)
  obtain _ | n := n; omega
  rw [xv1]
  simp only [xn3,Try.f29,SLM,simprocAttr]
  simp -implicitDefEqProofs (maxSteps := 2000000) (disch := first | assumption | exact ⟨by kernel_rfl⟩ | omega | (simp only [GT,LN] <;> omega) | fail) only [↓DN,↓kAsg,↓kRet,UP,simprocAttr,↓x5b,↓xe3,↓x5c,↓xdy,↓x4d,↓x4a,↓x4c,↓xbm,↓xbj,↓xbo,LA,SE,hv,e4,↓kc_t,↓loop_c]
theorem x1cz {R : Type} {L n : Nat} {hq : H} {k : A → H → Option R} (hn : 13 ≤ n) (a : Aut) (hs : xp a.nx) (hac : a.ac.length ≤ 4294967296) (hL : 2 ^ 60 ≤ L) : x4 env (x2 env L n) hq 29 [.agg [.d (.int .i64 a.al),.d (.ivs a.nx.length (rowsD a.nx)),.d (.ivs a.ac.length (bools a.ac))]] k = k (.d (.ivs (xjc a).length (xy (xjc a)))) hq :=
 xh rfl (xk7 hn a hs hac hL) rfl (.inr rfl)
theorem x1aj : ∀ l : List Str,xo5 (xy l) = some l
 | [] => rfl
 | s :: l => by
  show (xo5 (xy l)).map (s :: ·) = _
  rw [x1aj l]; rfl
theorem x1s8 {a : Aut} {j i : Nat} (h : (oneG a (i : Nat)).2 = true) : x7m a (j + 1) i = txt (oneG a (i : Nat)).1 :: x7m a j (i + 1) := by
 simp [x7m,List.range'_succ,h]
theorem x1rs {a : Aut} {j i : Nat} (h : (oneG a (i : Nat)).2 = false) : x7m a (j + 1) i = x7m a j (i + 1) := by
 simp [x7m,List.range'_succ,h]
theorem x1tp (l : List Str) : (x1bo l).length = l.length := List.length_mergeSort _
theorem x1qx {l : List Str} (hl : l.length ≤ 4294967296) : xso 73 [.sl 0 0 0 l.length,.clo 73 []] [.arr (xy l) 1 0] = some (.tup [],[.arr (xy (x1bo l)) 1 0]) := by
 have h1 : True ∧ True ∧ True ∧ (l.length = 0 ∨ True) ∧ l.length ≤ (xy l).length ∧ l.length ≤ x28 := by
  refine ⟨trivial,trivial,trivial,.inr trivial,by rw [xc0]; omega,by unfold x28; omega⟩
 have h2 : xo5 ((xy l).take l.length) = some l := by rw [xar (Nat.le_refl _),x1aj]
 have h3 : (xy l).drop l.length = [] := by rw [x1qo,List.drop_length]; rfl
 simp only [xso,List.getElem?_cons_zero]
 rw [if_pos h1]
 simp only [h2,h3,List.append_nil,List.set_cons_zero]
 rfl
theorem x3d {R : Type} {L n id : Nat} {hq : H} {k : A → H → Option R} (hn : 1 ≤ n) (l : List Str) (hi : hq[id]? = some (.arr (xy l) 1 0)) (hl : l.length ≤ 4294967296) :
  x4 env (x2 env L n) hq 72 [.sl id 0 0 l.length,.clo 73 []] k = k (.tup []) (hq.set id (.arr (xy (x1bo l)) 1 0)) := by
 obtain _ | n := n; omega
 exact xj9 hi (by simp [idsL,idsA]) x6b (by simp [idsA,idsL]) (by rw [xge]; simpa [xd,mapA,x8] using x1qx hl)
theorem x15t {R : Type} {L n : Nat} (hn : 9 ≤ n) (hL : 2 ^ 60 ≤ L) {a : Aut} (ha : AOK a) {k : Exit → List A → H → Option R} : ∀ (q i m : Nat) (o : List Str) (len : Nat) (hq : i + q = a.nx.length) (hm : q < m) (hlen : len = o.length) (ho : o.length + q ≤ 100000),
  xc env (x2 env L n) L 0 [0,0,0,2] (Z1 (U2 (U1 (Z8 (U2 (Z16 (Z1 ([])))))))) (xb7 0) (U1 (Z2 (Z1 (U8 (Z2 (U16 (U1 ([])))))))) m (Y1 (.ptr 0 0 0 :: .d .nils :: .sl 1 0 0 len :: Y8 (.d (.int .i64 (a.nx.length)) :: .d (.int .i64 ((i : Int))) :: Y16 (Y1 ([]))))) [.box [.d (.int .i64 a.al),.d (.ivs a.nx.length (rowsD a.nx)),.d (.ivs a.ac.length (bools a.ac))],.arr (xy o) 1 0] k
  = k (.exit 0) (Y1 (.ptr 0 0 0 :: .d .nils :: .sl 1 0 0 (o ++ x7m a q i).length :: Y8 (.d (.int .i64 (a.nx.length)) :: .d (.int .i64 ((a.nx.length : Int))) :: Y16 (Y1 ([]))))) [.box [.d (.int .i64 a.al),.d (.ivs a.nx.length (rowsD a.nx)),.d (.ivs a.ac.length (bools a.ac))],.arr (xy (o ++ x7m a q i)) 1 0] := by
 obtain ⟨sa,wa,a1,a2,a3⟩ := x54 ha
 have hac : a.ac.length ≤ 4294967296 := by omega
 have hal := sa.1
 intro q
 induction q with
 | zero =>
  intro i m o len hq hm hlen ho
  obtain _ | m := m; omega
  obtain rfl : i = a.nx.length := by omega
  subst hlen
  have e : x7m a 0 a.nx.length = [] := rfl
  rw [e,List.append_nil]
  rw [xds]
  simp only [xck,Try.f30,SLM,simprocAttr]
  simp -implicitDefEqProofs (maxSteps := 2000000) (disch := first | assumption | exact ⟨by kernel_rfl⟩ | omega | (simp only [GT,LN] <;> omega) | fail) only [↓DN,↓kAsg,↓kRet,UP,simprocAttr,↓x58,↓xdw,↓x3d,↓xd8,↓x59,↓xaz,↓x4b,↓x4g,↓x4j,↓x9l,↓x9e,↓x9j,LA,SE,Int.lt_irrefl]
 | succ q ih =>
  intro i m o len hq hm hlen ho
  obtain _ | m := m; omega
  subst hlen
  have hc : (i : Int) < a.nx.length := by omega
  have kc_s := fun {R : Type} {n : Nat} {hq : H} {k : A → H → Option R} (hn : 9 ≤ n) => @xdw R L n hq k hn a i sa hac hL
  have hacc : accG a (i : Nat) = oneG a (i : Nat) := by unfold accG; exact if_pos ha
  rw [hacc] at kc_s
  cases hb : (oneG a (i : Nat)).2 with
  | false =>
   have ih' := ih (i + 1) m o o.length (by omega) (by omega) rfl (by omega)
   rw [show ((i + 1 : Nat) : Int) = (i : Int) + 1 by omega] at ih'
   rw [x1rs hb]
   rw [hb] at kc_s
   clear ih
   generalize x7m a q (i + 1) = w2 at *
   generalize txt (oneG a (i : Nat)).1 = w at *
   rw [xds]
   simp only [xck,Try.f30,SLM,simprocAttr]
   simp -implicitDefEqProofs (maxSteps := 2000000) (disch := first | assumption | exact ⟨by kernel_rfl⟩ | omega | (simp only [GT,LN] <;> omega) | fail) only [↓DN,↓kAsg,↓kRet,UP,simprocAttr,↓x58,↓x3d,↓xd8,↓x59,↓xaz,↓x4b,↓x4g,↓x4j,↓x9l,↓x9e,↓x9j,LA,SE,hc,↓kc_s,↓ih']
  | true =>
   have ih' := ih (i + 1) m (o ++ [txt (oneG a (i : Nat)).1]) (o.length + 1) (by omega) (by omega) (by simp) (by simp; omega)
   rw [show ((i + 1 : Nat) : Int) = (i : Int) + 1 by omega] at ih'
   simp only [List.append_assoc,List.singleton_append] at ih'
   rw [x1s8 hb]
   rw [hb] at kc_s
   clear ih
   generalize x7m a q (i + 1) = w2 at *
   generalize txt (oneG a (i : Nat)).1 = w at *
   rw [xds]
   simp only [xck,Try.f30,SLM,simprocAttr]
   simp -implicitDefEqProofs (maxSteps := 2000000) (disch := first | assumption | exact ⟨by kernel_rfl⟩ | omega | (simp only [GT,LN] <;> omega) | fail) only [↓DN,↓kAsg,↓kRet,UP,simprocAttr,↓x58,↓x3d,↓xd8,↓x59,↓xaz,↓x4b,↓x4g,↓x4j,↓x9l,↓x9e,↓x9j,LA,SE,hc,↓kc_s,xar,x1a6,List.length_append,↓ih']
theorem x1br {L n : Nat} (hn : 10 ≤ n) (a : Aut) (hv : AOK a) (hL : 2 ^ 60 ≤ L) : x2 env L n 30 [.agg [.d (.int .i64 a.al),.d (.ivs a.nx.length (rowsD a.nx)),.d (.ivs a.ac.length (bools a.ac))]] [] = some (.sl 0 0 0 (xc3 a).length,[.arr (xy (xc3 a)) 1 0]) := by
 obtain ⟨sa,wa,a1,a2,a3⟩ := x54 hv
 have hrl := sa.1
 have hac : a.ac.length ≤ 4294967296 := by omega
 have loop_c := fun {R : Type} {n : Nat} {k : Exit → List A → H → Option R} (hn : 9 ≤ n) => @x15t R L n hn hL a hv k a.nx.length 0 L [] 0 (by omega) (by omega) rfl (by simp; omega)
 rw [List.nil_append] at loop_c
 have hcs := x1qv hv
 have hl := xzq hv
 have hl2 := x1tp (x7m a a.nx.length 0)
 rw [hcs] at hl2
 have hl3 : (x7m a a.nx.length 0).length ≤ 4294967296 := by omega
 simp only [Int.natCast_zero,xuo] at loop_c
 rw [← hl2] at loop_c
 have kc_q := fun {R : Type} {n id : Nat} {hq : H} {k : A → H → Option R} (hn : 1 ≤ n) (hi : hq[id]? = some (.arr (xy (x7m a a.nx.length 0)) 1 0)) => @x3d R L n id hq k hn (x7m a a.nx.length 0) hi hl3
 rw [hcs,← hl2] at kc_q
 unfold AOK at hv
 clear hcs
 generalize x7m a a.nx.length 0 = w0 at *
 generalize xc3 a = w at *
 have e4 : (xy w).take w.length = xy w := xar (Nat.le_refl _)
 obtain _ | n := n; omega
 rw [xvr]
 simp only [xmv,Try.f30,SLM,simprocAttr]
 simp -implicitDefEqProofs (maxSteps := 2000000) (disch := first | assumption | exact ⟨by kernel_rfl⟩ | omega | (simp only [GT,LN] <;> omega) | fail) only [↓DN,↓kAsg,↓kRet,UP,simprocAttr,↓x58,↓xdw,↓xd8,↓x59,↓xaz,↓x4b,↓x4g,↓x4j,↓x9l,↓x9e,↓x9j,LA,SE,hv,e4,↓loop_c,↓kc_q]
theorem x13x {L n : Nat} (hn : 10 ≤ n) (a : Aut) (hv : x5e a.al a.nx a.ac = false) (hs : xp a.nx) (hac : a.ac.length ≤ 4294967296) (hL : 2 ^ 60 ≤ L) : x2 env L n 30 [.agg [.d (.int .i64 a.al),.d (.ivs a.nx.length (rowsD a.nx)),.d (.ivs a.ac.length (bools a.ac))]] [] = some (.d (.ivs 0 []),[]) := by
 have hrl := hs.1
 obtain _ | n := n; omega
 rw [xvr]
 simp only [xmv,Try.f30,SLM,simprocAttr]
 simp -implicitDefEqProofs (maxSteps := 2000000) (disch := first | assumption | exact ⟨by kernel_rfl⟩ | omega | (simp only [GT,LN] <;> omega) | fail) only [↓DN,↓kAsg,↓kRet,UP,simprocAttr,↓x58,↓xdw,↓x3d,↓xd8,↓x59,↓xaz,↓x4b,↓x4g,↓x4j,↓x9l,↓x9e,↓x9j,LA,SE,hv]
theorem xyz {L n : Nat} (hn : 30 ≤ n) (al : Int) (rs : List (List Int)) (ac : List Bool) (hlen : rowsLen rs) (hla : ac.length ≤ 9223372036854775807) (hsz : ¬ szA rs ac 1048576 < 0) (hok : x5e al rs ac = true) (hL : 2 ^ 60 ≤ L) : x2 env L n 6 [.agg [.d (.int .i64 al),.d (.ivs (List.length rs) (rowsD rs)),.d (.ivs (List.length ac) (bools ac))]] [] = some (.d (.bool true),[]) := by
 obtain ⟨hr20,hc20,ha20⟩ := x1hl hsz
 have hs : xp rs := ⟨by omega,fun r hr => by have := hc20 r hr; omega⟩
 have ha : ac.length ≤ 4294967296 := by omega
 have ht1 := x1ij hsz
 have hS := xk7 (L := L) (n := n - 1) (by omega) ⟨al,rs,ac⟩ hs ha hL
 have hI := x1br (L := L) (n := n - 1) (by omega) ⟨al,rs,ac⟩ hok hL
 have hwl := xzq (a := ⟨al,rs,ac⟩) hok
 have hWR : xjc ⟨al,rs,ac⟩ = xc3 ⟨al,rs,ac⟩ := by unfold xjc; exact if_pos hok
 rw [hWR] at hS
 clear hWR
 generalize xc3 ⟨al,rs,ac⟩ = l at *
 simp only at hS hI
 have hG1 : Has (O.box [.d (.int .i64 al),.d (.ivs (List.length rs) (rowsD rs)),.d (.ivs (List.length ac) (bools ac))] :: autO 1 rs ac) 1 rs ac := xj2 (h := [O.box [.d (.int .i64 al),.d (.ivs (List.length rs) (rowsD rs)),.d (.ivs (List.length ac) (bools ac))]])
 have wG1 : wgt (O.box [.d (.int .i64 al),.d (.ivs (List.length rs) (rowsD rs)),.d (.ivs (List.length ac) (bools ac))] :: autO 1 rs ac) ≤ 1048576 := by
  have := x7w [O.box [.d (.int .i64 al),.d (.ivs (List.length rs) (rowsD rs)),.d (.ivs (List.length ac) (bools ac))]] (autO 1 rs ac)
  rw [xiw] at this
  have h2 : wgt [O.box [.d (.int .i64 al),.d (.ivs (List.length rs) (rowsD rs)),.d (.ivs (List.length ac) (bools ac))]] = 0 := by simp [wgt,idsL,idsA]
  have h3 : (O.box [.d (.int .i64 al),.d (.ivs (List.length rs) (rowsD rs)),.d (.ivs (List.length ac) (bools ac))] :: autO 1 rs ac) = [O.box [.d (.int .i64 al),.d (.ivs (List.length rs) (rowsD rs)),.d (.ivs (List.length ac) (bools ac))]] ++ autO 1 rs ac := rfl
  rw [h3]; omega
 have kc_1 : ∀ {R : Type} {k : A → H → Option R},x4 env (x2 env L (n - 1)) [O.box [.d (.int .i64 al),.d (.ivs (List.length rs) (rowsD rs)),.d (.ivs (List.length ac) (bools ac))]] 18 [.agg [.d (.int .i64 al),.d (.ivs (List.length rs) (rowsD rs)),.d (.ivs (List.length ac) (bools ac))]] k = k (.agg [.d (.int .i64 al),.sl 1 0 0 rs.length,.sl (1 + 1) 0 0 ac.length]) (O.box [.d (.int .i64 al),.d (.ivs (List.length rs) (rowsD rs)),.d (.ivs (List.length ac) (bools ac))] :: autO 1 rs ac) := fun {R k} => xim (h := [O.box [.d (.int .i64 al),.d (.ivs (List.length rs) (rowsD rs)),.d (.ivs (List.length ac) (bools ac))]]) (by omega) hs ha hL
 have hrd1 : rdAs (O.box [.d (.int .i64 al),.d (.ivs (List.length rs) (rowsD rs)),.d (.ivs (List.length ac) (bools ac))] :: autO 1 rs ac) [.agg [.d (.int .i64 al),.sl 1 0 0 rs.length,.sl (1 + 1) 0 0 ac.length]] = some [.agg [.d (.int .i64 al),.d (.ivs (List.length rs) (rowsD rs)),.d (.ivs (List.length ac) (bools ac))]] := by
  have h1 := xj4 (al := al) hG1
  simp only [rdAs,show A.agg [.d (.int .i64 al),.sl 1 0 0 rs.length,.sl (1 + 1) 0 0 ac.length] = autA 1 al rs.length ac.length from rfl,h1]; rfl
 obtain ⟨H1,c2,l1,w1,s1⟩ := x1cc (call := x2 env L (n - 1)) xbh hrd1 (by simp [idsL,xcy,xf6,idsA]; omega) hS (by simp [idsA,idsL])
 have kc_2 : ∀ {R : Type} {k : A → H → Option R},x4 env (x2 env L (n - 1)) (O.box [.d (.int .i64 al),.d (.ivs (List.length rs) (rowsD rs)),.d (.ivs (List.length ac) (bools ac))] :: autO 1 rs ac) 29 [.agg [.d (.int .i64 al),.sl 1 0 0 rs.length,.sl (1 + 1) 0 0 ac.length]] k = k (.d (.ivs l.length (xy l))) H1 := fun {R k} => c2 R k
 have b1_0 : H1[0]? = some (.box [.d (.int .i64 al),.d (.ivs (List.length rs) (rowsD rs)),.d (.ivs (List.length ac) (bools ac))]) := by
  have r1 := x12q hG1 (by omega)
  have hid1 : idsL [A.agg [.d (.int .i64 al),.sl 1 0 0 rs.length,.sl (1 + 1) 0 0 ac.length]] = [1,1 + 1] := by simp [idsL,idsA]
  rw [hid1,r1] at s1
  rw [s1 0 (by rw [List.mem_range'_1]; omega)]; rfl
 have hp0 : 0 < H1.length := by rw [l1]; exact Nat.succ_pos _
 clear s1 c2 hG1 hrd1
 obtain ⟨v1,hv1⟩ : ∃ v,v = List.length H1 := ⟨_,rfl⟩
 obtain ⟨H2,hH2⟩ : ∃ H,H = H1 ++ autO v1 rs ac := ⟨_,rfl⟩
 have kc_3 : ∀ {R : Type} {k : A → H → Option R},x4 env (x2 env L (n - 1)) H1 18 [.agg [.d (.int .i64 al),.d (.ivs (List.length rs) (rowsD rs)),.d (.ivs (List.length ac) (bools ac))]] k = k (.agg [.d (.int .i64 al),.sl v1 0 0 rs.length,.sl (v1 + 1) 0 0 ac.length]) H2 := by intro R k; rw [hH2,hv1]; exact xim (by omega) hs ha hL
 have gv1 : Has H2 v1 rs ac := by rw [hH2,hv1]; exact xj2
 have lH2 : H2.length = List.length H1 + rs.length + 2 := by rw [hH2,List.length_append,xf1]; omega
 have wH2 : wgt H2 ≤ wgt H1 + 1048576 := by rw [hH2,x7w,xiw]; omega
 have b2_0 : H2[0]? = some (.box [.d (.int .i64 al),.d (.ivs (List.length rs) (rowsD rs)),.d (.ivs (List.length ac) (bools ac))]) := by rw [hH2]; exact x8r b1_0
 have wE2 : wgt (H2 ++ [O.arr [] 0 0,O.arr [] 0 0,O.box [.d (.int .i64 al),.sl v1 0 0 rs.length,.sl (v1 + 1) 0 0 ac.length]]) ≤ wgt H2 + 2 := by rw [wgt3 rfl rfl]; simp [idsL,idsA]
 have gE2 : Has (H2 ++ [O.arr [] 0 0,O.arr [] 0 0,O.box [.d (.int .i64 al),.sl v1 0 0 rs.length,.sl (v1 + 1) 0 0 ac.length]]) v1 rs ac := xxi gv1
 have hrdg : ∀ {h : H} {v : Nat},Has h v rs ac → rdAs h [.agg [.d (.int .i64 al),.sl v 0 0 rs.length,.sl (v + 1) 0 0 ac.length]] = some [.agg [.d (.int .i64 al),.d (.ivs (List.length rs) (rowsD rs)),.d (.ivs (List.length ac) (bools ac))]] := by
  intro h v g
  have h1 := xj4 (al := al) g
  simp only [rdAs,show A.agg [.d (.int .i64 al),.sl v 0 0 rs.length,.sl (v + 1) 0 0 ac.length] = autA v al rs.length ac.length from rfl,h1]; rfl
 obtain ⟨vg,hvg⟩ : ∃ v,v = List.length (H2 ++ [O.arr [] 0 0,O.arr [] 0 0,O.box [.d (.int .i64 al),.sl v1 0 0 rs.length,.sl (v1 + 1) 0 0 ac.length]]) := ⟨_,rfl⟩
 obtain ⟨H3,hH3⟩ : ∃ H,H = (H2 ++ [O.arr [] 0 0,O.arr [] 0 0,O.box [.d (.int .i64 al),.sl v1 0 0 rs.length,.sl (v1 + 1) 0 0 ac.length]]) ++ [O.arr (xy l) 1 0] := ⟨_,rfl⟩
 have kc_4 : ∀ {R : Type} {k : A → H → Option R},x4 env (x2 env L (n - 1)) (H2 ++ [O.arr [] 0 0,O.arr [] 0 0,O.box [.d (.int .i64 al),.sl v1 0 0 rs.length,.sl (v1 + 1) 0 0 ac.length]]) 30 [.agg [.d (.int .i64 al),.sl v1 0 0 rs.length,.sl (v1 + 1) 0 0 ac.length]] k = k (.sl vg 0 0 l.length) H3 := by intro R k; rw [hH3,hvg]; exact x1k0 x7u (hrdg gE2) (by simp [idsL,xcy,xf6,idsA]; omega) hI
 have gvg : H3[vg]? = some (.arr (xy l) 1 0) := by rw [hH3,hvg]; simp
 have lH3 : H3.length = List.length (H2 ++ [O.arr [] 0 0,O.arr [] 0 0,O.box [.d (.int .i64 al),.sl v1 0 0 rs.length,.sl (v1 + 1) 0 0 ac.length]]) + 1 := by rw [hH3]; simp
 have wH3 : wgt H3 ≤ wgt (H2 ++ [O.arr [] 0 0,O.arr [] 0 0,O.box [.d (.int .i64 al),.sl v1 0 0 rs.length,.sl (v1 + 1) 0 0 ac.length]]) := by rw [hH3,x7w]; simp [wgt]
 have b3_0 : H3[0]? = some (.box [.d (.int .i64 al),.d (.ivs (List.length rs) (rowsD rs)),.d (.ivs (List.length ac) (bools ac))]) := by rw [hH3]; exact (x8r (x8r b2_0))
 have b3_x : H3[H2.length + 1 + 1]? = some (.box [.d (.int .i64 al),.sl v1 0 0 rs.length,.sl (v1 + 1) 0 0 ac.length]) := by rw [hH3]; exact (x8r xzp)
 have gE3x : Has H3 v1 rs ac := by rw [hH3]; exact xxi gE2
 have kc_5 : ∀ {R : Type} {k : A → H → Option R},x4 env (x2 env L (n - 1)) H3 20 [.sl vg 0 0 l.length,.d (.ivs l.length (xy l))] k = k (.d (.bool true)) H3 := fun {R k} => xr9 (by omega) (by omega) (rd2 (xsn gvg) xcn) (by simp [idsL,idsA]; omega) hL
 obtain ⟨vt,hvt⟩ : ∃ v,v = List.length H3 := ⟨_,rfl⟩
 obtain ⟨H4,hH4⟩ : ∃ H,H = H3 ++ autO vt rs ac := ⟨_,rfl⟩
 have kc_6 : ∀ {R : Type} {k : A → H → Option R},x4 env (x2 env L (n - 1)) H3 18 [.agg [.d (.int .i64 al),.d (.ivs (List.length rs) (rowsD rs)),.d (.ivs (List.length ac) (bools ac))]] k = k (.agg [.d (.int .i64 al),.sl vt 0 0 rs.length,.sl (vt + 1) 0 0 ac.length]) H4 := by intro R k; rw [hH4,hvt]; exact xim (by omega) hs ha hL
 have gvt : Has H4 vt rs ac := by rw [hH4,hvt]; exact xj2
 have lH4 : H4.length = List.length H3 + rs.length + 2 := by rw [hH4,List.length_append,xf1]; omega
 have wH4 : wgt H4 ≤ wgt H3 + 1048576 := by rw [hH4,x7w,xiw]; omega
 obtain ⟨fA,hfA⟩ : ∃ f : Foot,f = { ids := List.range' (List.length H3) (autO vt rs ac).length,ro := false } := ⟨_,rfl⟩
 have st_f6 : xbi env 18 H3 H4 [] = some (H4,fA) := by rw [hfA,hH4]; exact x1h2 xa7
 have st_f7 : ∀ {ord : List Nat},xbi env 21 H4 H4 ord = some (H4,{ ids := ord,ro := true }) := fun {ord} => x1ky x19
 obtain ⟨ord7,hord7⟩ : ∃ l,l = x5 x7 H4 (idsL [.agg [.d (.int .i64 al),.sl v1 0 0 rs.length,.sl (v1 + 1) 0 0 ac.length],.agg [.d (.int .i64 al),.sl vt 0 0 rs.length,.sl (vt + 1) 0 0 ac.length]]) [] := ⟨_,rfl⟩
 have st_r7 : x5 x7 H4 (idsL [.agg [.d (.int .i64 al),.sl v1 0 0 rs.length,.sl (v1 + 1) 0 0 ac.length],.agg [.d (.int .i64 al),.sl vt 0 0 rs.length,.sl (vt + 1) 0 0 ac.length]]) [] = ord7 := hord7.symm
 have gH4x : Has H4 v1 rs ac := by rw [hH4]; exact xxi gE3x
 have kc_7 : ∀ {R : Type} {k : A → H → Option R},x4 env (x2 env L (n - 1)) H4 21 [.agg [.d (.int .i64 al),.sl v1 0 0 rs.length,.sl (v1 + 1) 0 0 ac.length],.agg [.d (.int .i64 al),.sl vt 0 0 rs.length,.sl (vt + 1) 0 0 ac.length]] k = k (.d (.bool true)) H4 := fun {R k} => x1u7 (by omega) hs ha (rd2 (xj4 gH4x) (xj4 gvt)) (by simp [idsL,xcy,xf6,idsA]; omega) hL
 simp only [x1na] at lH2 lH3 lH4 hv1 hvt hvg
 have hclash : ∀ (ops : List Oper) (p q : Foot),x1ah 5 [(0,1),(0,2),(1,2)] ops = true → x8x ops ([] ++ [{ ids := idsA (A.ptr (H2.length + 2) 0 0) }] ++ [{ ids := idsA (A.ptr 0 0 0) }] ++ [fA] ++ [p] ++ [q]) = true := by
  intro ops p q hm
  refine x1li 5 [(0,1),(0,2),(1,2)] rfl hm ?_
  intro z hz
  simp only [List.mem_cons,List.not_mem_nil,or_false] at hz
  rcases hz with rfl | rfl | rfl
  ·exact x1n4 rfl rfl
  ·show xau { ids := idsA (A.ptr (H2.length + 2) 0 0) } fA = false; rw [hfA]; exact xze rfl (by omega)
  ·show xau { ids := idsA (A.ptr 0 0 0) } fA = false; rw [hfA]; exact xze rfl (by omega)
 have b4_0 : H4[0]? = some (.box [.d (.int .i64 al),.d (.ivs (List.length rs) (rowsD rs)),.d (.ivs (List.length ac) (bools ac))]) := by rw [hH4]; exact x8r b3_0
 have b4_x : H4[H2.length + 1 + 1]? = some (.box [.d (.int .i64 al),.sl v1 0 0 rs.length,.sl (v1 + 1) 0 0 ac.length]) := by rw [hH4]; exact x8r b3_x
 have b4_g : H4[vg]? = some (.arr (xy l) 1 0) := by rw [hH4]; exact x8r gvg
 obtain ⟨H5,c8,l5,gH5x,s5,w5⟩ := x1mu (L := L) (n := n - 1) (by omega) (al := al) gH4x (c := 1) hs ha (by omega) (by omega) hL
 have kc_8 : ∀ {R : Type} {k : A → H → Option R},x4 env (x2 env L (n - 1)) H4 22 [.agg [.d (.int .i64 al),.sl v1 0 0 rs.length,.sl (v1 + 1) 0 0 ac.length],.d (.int .i64 1)] k = k (.d (.int .i64 (1 + x6 rs + ac.length))) H5 := fun {R k} => c8 R k
 have b5_0 : H5[0]? = some (.box [.d (.int .i64 al),.d (.ivs (List.length rs) (rowsD rs)),.d (.ivs (List.length ac) (bools ac))]) := by rw [s5 0 (.inl (by omega))]; exact b4_0
 have b5_g : H5[vg]? = some (.arr (xy l) 1 0) := by rw [s5 _ (.inr (by omega))]; exact b4_g
 have kc_9 : ∀ {R : Type} {k : A → H → Option R},x4 env (x2 env L (n - 1)) H5 20 [.sl vg 0 0 l.length,.d (.ivs l.length (xy l))] k = k (.d (.bool true)) H5 := fun {R k} => xr9 (by omega) (by omega) (rd2 (xsn b5_g) xcn) (by simp [idsL,idsA]; omega) hL
 obtain ⟨H6,hH6⟩ : ∃ H,H = H5.set vg (.arr (xy (xa5 1 l.length)) 1 0) := ⟨_,rfl⟩
 have kc_10 : ∀ {R : Type} {k : A → H → Option R},x4 env (x2 env L (n - 1)) H5 23 [.sl vg 0 0 l.length,.d (.int .i64 1)] k = k (.d (.int .i64 (1 + l.length))) H6 := by
  intro R k
  rw [hH6]
  refine xj9 (id := vg) b5_g (by simp [idsL,idsA]) xhu rfl ?_
  have hpl : x8 [vg] vg = some 0 := by simp [x8]
  simp only [xd,mapA,hpl]
  exact x1fk (by omega) hL l (by omega)
 have vgl : vg < H5.length := by omega
 have b6_0 : H6[0]? = some (.box [.d (.int .i64 al),.d (.ivs (List.length rs) (rowsD rs)),.d (.ivs (List.length ac) (bools ac))]) := by rw [hH6,List.getElem?_set_ne (by omega)]; exact b5_0
 have b6_g : H6[vg]? = some (.arr (xy (xa5 1 l.length)) 1 0) := by rw [hH6,List.getElem?_set_self vgl]
 have w6 : wgt H6 ≤ wgt H5 := by rw [hH6]; exact x1b7 vgl rfl
 have l6 : H6.length = H5.length := by rw [hH6]; simp
 have kc_11 : ∀ {R : Type} {k : A → H → Option R},x4 env (x2 env L (n - 1)) H6 24 [.sl vg 0 0 l.length,.d (.int .i64 1)] k = k (.d (.int .i64 (1 + l.length))) H6 := by
  intro R k
  have hr := xsn b6_g
  rw [xfc] at hr
  exact xvk (by omega) (by omega) (rd2 hr xcn) (by simp [idsL,idsA]; omega) hL
 obtain ⟨vu,hvu⟩ : ∃ v,v = List.length H6 := ⟨_,rfl⟩
 obtain ⟨H7,hH7⟩ : ∃ H,H = H6 ++ autO vu rs ac := ⟨_,rfl⟩
 have kc_12 : ∀ {R : Type} {k : A → H → Option R},x4 env (x2 env L (n - 1)) H6 18 [.agg [.d (.int .i64 al),.d (.ivs (List.length rs) (rowsD rs)),.d (.ivs (List.length ac) (bools ac))]] k = k (.agg [.d (.int .i64 al),.sl vu 0 0 rs.length,.sl (vu + 1) 0 0 ac.length]) H7 := by intro R k; rw [hH7,hvu]; exact xim (by omega) hs ha hL
 have gvu : Has H7 vu rs ac := by rw [hH7,hvu]; exact xj2
 have lH7 : H7.length = List.length H6 + rs.length + 2 := by rw [hH7,List.length_append,xf1]; omega
 have wH7 : wgt H7 ≤ wgt H6 + 1048576 := by rw [hH7,x7w,xiw]; omega
 obtain ⟨vh,hvh⟩ : ∃ v,v = List.length H7 := ⟨_,rfl⟩
 obtain ⟨H8,hH8⟩ : ∃ H,H = H7 ++ [O.arr (xy l) 1 0] := ⟨_,rfl⟩
 have kc_13 : ∀ {R : Type} {k : A → H → Option R},x4 env (x2 env L (n - 1)) H7 30 [.agg [.d (.int .i64 al),.sl vu 0 0 rs.length,.sl (vu + 1) 0 0 ac.length]] k = k (.sl vh 0 0 l.length) H8 := by intro R k; rw [hH8,hvh]; exact x1k0 x7u (hrdg gvu) (by simp [idsL,xcy,xf6,idsA]; omega) hI
 have gvh : H8[vh]? = some (.arr (xy l) 1 0) := by rw [hH8,hvh]; simp
 have lH8 : H8.length = List.length H7 + 1 := by rw [hH8]; simp
 have wH8 : wgt H8 ≤ wgt H7 := by rw [hH8,x7w]; simp [wgt]
 have b8_g : H8[vg]? = some (.arr (xy (xa5 1 l.length)) 1 0) := by rw [hH8,hH7]; exact x8r (x8r b6_g)
 have kc_14 : ∀ {R : Type} {k : A → H → Option R},x4 env (x2 env L (n - 1)) H8 20 [.sl vh 0 0 l.length,.d (.ivs l.length (xy l))] k = k (.d (.bool true)) H8 := fun {R k} => xr9 (by omega) (by omega) (rd2 (xsn gvh) xcn) (by simp [idsL,idsA]; omega) hL
 have kc_15 : ∀ {R : Type} {k : A → H → Option R},x4 env (x2 env L (n - 1)) H8 24 [.sl vg 0 0 l.length,.d (.int .i64 1)] k = k (.d (.int .i64 (1 + l.length))) H8 := by
  intro R k
  have hr := xsn b8_g
  rw [xfc] at hr
  exact xvk (by omega) (by omega) (rd2 hr xcn) (by simp [idsL,idsA]; omega) hL
 have p1 : ¬ (1 : Int) + x6 rs + ac.length < 0 := by omega
 have p2 : ¬ (1 : Int) + l.length < 0 := by omega
 have hll : ac.length ≤ 9223372036854775807 := by omega
 clear hH2 hH3 hH4 hH7 hH8 hv1 hvt hvu lH2 lH3 lH4 lH7 lH8 gv1 gE2 gE3x gvt gH4x gH5x gvu s5 c8 w1 wG1 wE2 w5 wH2 wH3 wH4 wH7 wH8 l1 l5 hfA hord7 hS hI hrdg hvg hvh gvg gvh b8_g b4_g b5_g b6_g hH6 w6 l6 vgl
 obtain _ | n := n; omega
 simp only [Nat.add_sub_cancel] at kc_1 kc_2 kc_3 kc_4 kc_5 kc_6 kc_7 kc_8 kc_9 kc_10 kc_11 kc_12 kc_13 kc_14 kc_15
 have n1 : 1 ≤ n + 1 := by omega
 have hclash := fun ops p q h => x1ft (hclash ops p q h)
 obtain _ | n := n; omega
 rw [xcp]
 simp only [xah,Try.f6,SLM,simprocAttr]
 simp -implicitDefEqProofs (maxSteps := 2000000) (disch := first | assumption | (refine Shut.mk ?_; exact hclash _ _ _ (by kernel_rfl)) | (refine Shut.mk ?_; kernel_rfl) | omega | (simp only [GT]; done) | (simp only [LN] <;> omega) | fail) only [↓DN,↓kAsg,↓kRet,UP,simprocAttr,↓xm7,↓xmi,↓xi2,↓xi7,↓xif,LA,hsz,p1,p2,↓kc_1,↓kc_2,↓kc_3,↓kc_4,↓kc_5,↓kc_6,↓kc_7,↓kc_8,↓kc_9,↓kc_10,↓kc_11,↓kc_12,↓kc_13,↓kc_14,↓kc_15,↓st_f6,↓st_f7,↓st_r7,b1_0,b2_0,b3_0,b3_x,b4_x,b5_0,b6_0,List.append_assoc,List.cons_append,List.nil_append,xzp,x1lk,beq_self_eq_true,bne_self_eq_false]
theorem xz4 {L n : Nat} (hn : 30 ≤ n) (al : Int) (rs : List (List Int)) (ac : List Bool) (hlen : rowsLen rs) (hla : ac.length ≤ 9223372036854775807) (hsz : ¬ szA rs ac 1048576 < 0) (hok : x5e al rs ac = false) (hL : 2 ^ 60 ≤ L) : x2 env L n 6 [.agg [.d (.int .i64 al),.d (.ivs (List.length rs) (rowsD rs)),.d (.ivs (List.length ac) (bools ac))]] [] = some (.d (.bool true),[]) := by
 obtain ⟨hr20,hc20,ha20⟩ := x1hl hsz
 have hs : xp rs := ⟨by omega,fun r hr => by have := hc20 r hr; omega⟩
 have ha : ac.length ≤ 4294967296 := by omega
 have ht1 := x1ij hsz
 have hS := xk7 (L := L) (n := n - 1) (by omega) ⟨al,rs,ac⟩ hs ha hL
 have hI := x13x (L := L) (n := n - 1) (by omega) ⟨al,rs,ac⟩ hok hs ha hL
 have hWR : xjc ⟨al,rs,ac⟩ = [] := by unfold xjc; exact if_neg (by rw [hok]; exact Bool.false_ne_true)
 rw [hWR] at hS
 clear hWR
 simp only [List.length_nil,xuo] at hS
 simp only at hS hI
 have hG1 : Has (O.box [.d (.int .i64 al),.d (.ivs (List.length rs) (rowsD rs)),.d (.ivs (List.length ac) (bools ac))] :: autO 1 rs ac) 1 rs ac := xj2 (h := [O.box [.d (.int .i64 al),.d (.ivs (List.length rs) (rowsD rs)),.d (.ivs (List.length ac) (bools ac))]])
 have wG1 : wgt (O.box [.d (.int .i64 al),.d (.ivs (List.length rs) (rowsD rs)),.d (.ivs (List.length ac) (bools ac))] :: autO 1 rs ac) ≤ 1048576 := by
  have := x7w [O.box [.d (.int .i64 al),.d (.ivs (List.length rs) (rowsD rs)),.d (.ivs (List.length ac) (bools ac))]] (autO 1 rs ac)
  rw [xiw] at this
  have h2 : wgt [O.box [.d (.int .i64 al),.d (.ivs (List.length rs) (rowsD rs)),.d (.ivs (List.length ac) (bools ac))]] = 0 := by simp [wgt,idsL,idsA]
  have h3 : (O.box [.d (.int .i64 al),.d (.ivs (List.length rs) (rowsD rs)),.d (.ivs (List.length ac) (bools ac))] :: autO 1 rs ac) = [O.box [.d (.int .i64 al),.d (.ivs (List.length rs) (rowsD rs)),.d (.ivs (List.length ac) (bools ac))]] ++ autO 1 rs ac := rfl
  rw [h3]; omega
 have kc_1 : ∀ {R : Type} {k : A → H → Option R},x4 env (x2 env L (n - 1)) [O.box [.d (.int .i64 al),.d (.ivs (List.length rs) (rowsD rs)),.d (.ivs (List.length ac) (bools ac))]] 18 [.agg [.d (.int .i64 al),.d (.ivs (List.length rs) (rowsD rs)),.d (.ivs (List.length ac) (bools ac))]] k = k (.agg [.d (.int .i64 al),.sl 1 0 0 rs.length,.sl (1 + 1) 0 0 ac.length]) (O.box [.d (.int .i64 al),.d (.ivs (List.length rs) (rowsD rs)),.d (.ivs (List.length ac) (bools ac))] :: autO 1 rs ac) := fun {R k} => xim (h := [O.box [.d (.int .i64 al),.d (.ivs (List.length rs) (rowsD rs)),.d (.ivs (List.length ac) (bools ac))]]) (by omega) hs ha hL
 have hrd1 : rdAs (O.box [.d (.int .i64 al),.d (.ivs (List.length rs) (rowsD rs)),.d (.ivs (List.length ac) (bools ac))] :: autO 1 rs ac) [.agg [.d (.int .i64 al),.sl 1 0 0 rs.length,.sl (1 + 1) 0 0 ac.length]] = some [.agg [.d (.int .i64 al),.d (.ivs (List.length rs) (rowsD rs)),.d (.ivs (List.length ac) (bools ac))]] := by
  have h1 := xj4 (al := al) hG1
  simp only [rdAs,show A.agg [.d (.int .i64 al),.sl 1 0 0 rs.length,.sl (1 + 1) 0 0 ac.length] = autA 1 al rs.length ac.length from rfl,h1]; rfl
 obtain ⟨H1,c2,l1,w1,s1⟩ := x1cc (call := x2 env L (n - 1)) xbh hrd1 (by simp [idsL,xcy,xf6,idsA]; omega) hS (by simp [idsA,idsL])
 have kc_2 : ∀ {R : Type} {k : A → H → Option R},x4 env (x2 env L (n - 1)) (O.box [.d (.int .i64 al),.d (.ivs (List.length rs) (rowsD rs)),.d (.ivs (List.length ac) (bools ac))] :: autO 1 rs ac) 29 [.agg [.d (.int .i64 al),.sl 1 0 0 rs.length,.sl (1 + 1) 0 0 ac.length]] k = k (.d (.ivs 0 [])) H1 := fun {R k} => c2 R k
 have b1_0 : H1[0]? = some (.box [.d (.int .i64 al),.d (.ivs (List.length rs) (rowsD rs)),.d (.ivs (List.length ac) (bools ac))]) := by
  have r1 := x12q hG1 (by omega)
  have hid1 : idsL [A.agg [.d (.int .i64 al),.sl 1 0 0 rs.length,.sl (1 + 1) 0 0 ac.length]] = [1,1 + 1] := by simp [idsL,idsA]
  rw [hid1,r1] at s1
  rw [s1 0 (by rw [List.mem_range'_1]; omega)]; rfl
 have hp0 : 0 < H1.length := by rw [l1]; exact Nat.succ_pos _
 clear s1 c2 hG1 hrd1
 obtain ⟨v1,hv1⟩ : ∃ v,v = List.length H1 := ⟨_,rfl⟩
 obtain ⟨H2,hH2⟩ : ∃ H,H = H1 ++ autO v1 rs ac := ⟨_,rfl⟩
 have kc_3 : ∀ {R : Type} {k : A → H → Option R},x4 env (x2 env L (n - 1)) H1 18 [.agg [.d (.int .i64 al),.d (.ivs (List.length rs) (rowsD rs)),.d (.ivs (List.length ac) (bools ac))]] k = k (.agg [.d (.int .i64 al),.sl v1 0 0 rs.length,.sl (v1 + 1) 0 0 ac.length]) H2 := by intro R k; rw [hH2,hv1]; exact xim (by omega) hs ha hL
 have gv1 : Has H2 v1 rs ac := by rw [hH2,hv1]; exact xj2
 have lH2 : H2.length = List.length H1 + rs.length + 2 := by rw [hH2,List.length_append,xf1]; omega
 have wH2 : wgt H2 ≤ wgt H1 + 1048576 := by rw [hH2,x7w,xiw]; omega
 have b2_0 : H2[0]? = some (.box [.d (.int .i64 al),.d (.ivs (List.length rs) (rowsD rs)),.d (.ivs (List.length ac) (bools ac))]) := by rw [hH2]; exact x8r b1_0
 have wE2 : wgt (H2 ++ [O.arr [] 0 0,O.arr [] 0 0,O.box [.d (.int .i64 al),.sl v1 0 0 rs.length,.sl (v1 + 1) 0 0 ac.length]]) ≤ wgt H2 + 2 := by rw [wgt3 rfl rfl]; simp [idsL,idsA]
 have gE2 : Has (H2 ++ [O.arr [] 0 0,O.arr [] 0 0,O.box [.d (.int .i64 al),.sl v1 0 0 rs.length,.sl (v1 + 1) 0 0 ac.length]]) v1 rs ac := xxi gv1
 have hrdg : ∀ {h : H} {v : Nat},Has h v rs ac → rdAs h [.agg [.d (.int .i64 al),.sl v 0 0 rs.length,.sl (v + 1) 0 0 ac.length]] = some [.agg [.d (.int .i64 al),.d (.ivs (List.length rs) (rowsD rs)),.d (.ivs (List.length ac) (bools ac))]] := by
  intro h v g
  have h1 := xj4 (al := al) g
  simp only [rdAs,show A.agg [.d (.int .i64 al),.sl v 0 0 rs.length,.sl (v + 1) 0 0 ac.length] = autA v al rs.length ac.length from rfl,h1]; rfl
 obtain ⟨H3,hH3⟩ : ∃ H,H = (H2 ++ [O.arr [] 0 0,O.arr [] 0 0,O.box [.d (.int .i64 al),.sl v1 0 0 rs.length,.sl (v1 + 1) 0 0 ac.length]]) := ⟨_,rfl⟩
 have kc_4 : ∀ {R : Type} {k : A → H → Option R},x4 env (x2 env L (n - 1)) (H2 ++ [O.arr [] 0 0,O.arr [] 0 0,O.box [.d (.int .i64 al),.sl v1 0 0 rs.length,.sl (v1 + 1) 0 0 ac.length]]) 30 [.agg [.d (.int .i64 al),.sl v1 0 0 rs.length,.sl (v1 + 1) 0 0 ac.length]] k = k (.d (.ivs 0 [])) H3 := by intro R k; rw [hH3]; exact x219 x7u (hrdg gE2) (by simp [idsL,xcy,xf6,idsA]; omega) hI rfl
 have lH3 : H3.length = List.length (H2 ++ [O.arr [] 0 0,O.arr [] 0 0,O.box [.d (.int .i64 al),.sl v1 0 0 rs.length,.sl (v1 + 1) 0 0 ac.length]]) := by rw [hH3]
 have wH3 : wgt H3 ≤ wgt (H2 ++ [O.arr [] 0 0,O.arr [] 0 0,O.box [.d (.int .i64 al),.sl v1 0 0 rs.length,.sl (v1 + 1) 0 0 ac.length]]) := by rw [hH3]; exact Nat.le_refl _
 have b3_0 : H3[0]? = some (.box [.d (.int .i64 al),.d (.ivs (List.length rs) (rowsD rs)),.d (.ivs (List.length ac) (bools ac))]) := by rw [hH3]; exact (x8r b2_0)
 have b3_x : H3[H2.length + 1 + 1]? = some (.box [.d (.int .i64 al),.sl v1 0 0 rs.length,.sl (v1 + 1) 0 0 ac.length]) := by rw [hH3]; exact xzp
 have gE3x : Has H3 v1 rs ac := by rw [hH3]; exact gE2
 have kc_5 : ∀ {R : Type} {k : A → H → Option R},x4 env (x2 env L (n - 1)) H3 20 [.d (.ivs 0 []),.d (.ivs 0 [])] k = k (.d (.bool true)) H3 := fun {R k} => xr9 (l := []) (by omega) (by simp) (rd2 xcn xcn) (by simp [idsL,idsA]; omega) hL
 obtain ⟨vt,hvt⟩ : ∃ v,v = List.length H3 := ⟨_,rfl⟩
 obtain ⟨H4,hH4⟩ : ∃ H,H = H3 ++ autO vt rs ac := ⟨_,rfl⟩
 have kc_6 : ∀ {R : Type} {k : A → H → Option R},x4 env (x2 env L (n - 1)) H3 18 [.agg [.d (.int .i64 al),.d (.ivs (List.length rs) (rowsD rs)),.d (.ivs (List.length ac) (bools ac))]] k = k (.agg [.d (.int .i64 al),.sl vt 0 0 rs.length,.sl (vt + 1) 0 0 ac.length]) H4 := by intro R k; rw [hH4,hvt]; exact xim (by omega) hs ha hL
 have gvt : Has H4 vt rs ac := by rw [hH4,hvt]; exact xj2
 have lH4 : H4.length = List.length H3 + rs.length + 2 := by rw [hH4,List.length_append,xf1]; omega
 have wH4 : wgt H4 ≤ wgt H3 + 1048576 := by rw [hH4,x7w,xiw]; omega
 obtain ⟨fA,hfA⟩ : ∃ f : Foot,f = { ids := List.range' (List.length H3) (autO vt rs ac).length,ro := false } := ⟨_,rfl⟩
 have st_f6 : xbi env 18 H3 H4 [] = some (H4,fA) := by rw [hfA,hH4]; exact x1h2 xa7
 have st_f7 : ∀ {ord : List Nat},xbi env 21 H4 H4 ord = some (H4,{ ids := ord,ro := true }) := fun {ord} => x1ky x19
 obtain ⟨ord7,hord7⟩ : ∃ l,l = x5 x7 H4 (idsL [.agg [.d (.int .i64 al),.sl v1 0 0 rs.length,.sl (v1 + 1) 0 0 ac.length],.agg [.d (.int .i64 al),.sl vt 0 0 rs.length,.sl (vt + 1) 0 0 ac.length]]) [] := ⟨_,rfl⟩
 have st_r7 : x5 x7 H4 (idsL [.agg [.d (.int .i64 al),.sl v1 0 0 rs.length,.sl (v1 + 1) 0 0 ac.length],.agg [.d (.int .i64 al),.sl vt 0 0 rs.length,.sl (vt + 1) 0 0 ac.length]]) [] = ord7 := hord7.symm
 have gH4x : Has H4 v1 rs ac := by rw [hH4]; exact xxi gE3x
 have kc_7 : ∀ {R : Type} {k : A → H → Option R},x4 env (x2 env L (n - 1)) H4 21 [.agg [.d (.int .i64 al),.sl v1 0 0 rs.length,.sl (v1 + 1) 0 0 ac.length],.agg [.d (.int .i64 al),.sl vt 0 0 rs.length,.sl (vt + 1) 0 0 ac.length]] k = k (.d (.bool true)) H4 := fun {R k} => x1u7 (by omega) hs ha (rd2 (xj4 gH4x) (xj4 gvt)) (by simp [idsL,xcy,xf6,idsA]; omega) hL
 simp only [x1na] at lH2 lH3 lH4 hv1 hvt
 have hclash : ∀ (ops : List Oper) (p q : Foot),x1ah 5 [(0,1),(0,2),(1,2)] ops = true → x8x ops ([] ++ [{ ids := idsA (A.ptr (H2.length + 2) 0 0) }] ++ [{ ids := idsA (A.ptr 0 0 0) }] ++ [fA] ++ [p] ++ [q]) = true := by
  intro ops p q hm
  refine x1li 5 [(0,1),(0,2),(1,2)] rfl hm ?_
  intro z hz
  simp only [List.mem_cons,List.not_mem_nil,or_false] at hz
  rcases hz with rfl | rfl | rfl
  ·exact x1n4 rfl rfl
  ·show xau { ids := idsA (A.ptr (H2.length + 2) 0 0) } fA = false; rw [hfA]; exact xze rfl (by omega)
  ·show xau { ids := idsA (A.ptr 0 0 0) } fA = false; rw [hfA]; exact xze rfl (by omega)
 have b4_0 : H4[0]? = some (.box [.d (.int .i64 al),.d (.ivs (List.length rs) (rowsD rs)),.d (.ivs (List.length ac) (bools ac))]) := by rw [hH4]; exact x8r b3_0
 have b4_x : H4[H2.length + 1 + 1]? = some (.box [.d (.int .i64 al),.sl v1 0 0 rs.length,.sl (v1 + 1) 0 0 ac.length]) := by rw [hH4]; exact x8r b3_x
 obtain ⟨H5,c8,l5,gH5x,s5,w5⟩ := x1mu (L := L) (n := n - 1) (by omega) (al := al) gH4x (c := 1) hs ha (by omega) (by omega) hL
 have kc_8 : ∀ {R : Type} {k : A → H → Option R},x4 env (x2 env L (n - 1)) H4 22 [.agg [.d (.int .i64 al),.sl v1 0 0 rs.length,.sl (v1 + 1) 0 0 ac.length],.d (.int .i64 1)] k = k (.d (.int .i64 (1 + x6 rs + ac.length))) H5 := fun {R k} => c8 R k
 have b5_0 : H5[0]? = some (.box [.d (.int .i64 al),.d (.ivs (List.length rs) (rowsD rs)),.d (.ivs (List.length ac) (bools ac))]) := by rw [s5 0 (.inl (by omega))]; exact b4_0
 have kc_9 : ∀ {R : Type} {k : A → H → Option R},x4 env (x2 env L (n - 1)) H5 20 [.d (.ivs 0 []),.d (.ivs 0 [])] k = k (.d (.bool true)) H5 := fun {R k} => xr9 (l := []) (by omega) (by simp) (rd2 xcn xcn) (by simp [idsL,idsA]; omega) hL
 have kc_10 : ∀ {R : Type} {k : A → H → Option R},x4 env (x2 env L (n - 1)) H5 23 [.d (.ivs 0 []),.d (.int .i64 1)] k = k (.d (.int .i64 1)) H5 := fun {R k} => xh rfl (x165 (by omega) hL) rfl (.inl rfl)
 have kc_11 : ∀ {R : Type} {k : A → H → Option R},x4 env (x2 env L (n - 1)) H5 24 [.d (.ivs 0 []),.d (.int .i64 1)] k = k (.d (.int .i64 1)) H5 := by
  intro R k
  have := xvk (L := L) (n := n - 1) (h := H5) (R := R) (k := k) (l := []) (args := [.d (.ivs 0 []),.d (.int .i64 1)]) (by omega) (by simp) (rd2 xcn xcn) (by simp [idsL,idsA]; omega) hL
  simpa using this
 obtain ⟨vu,hvu⟩ : ∃ v,v = List.length H5 := ⟨_,rfl⟩
 obtain ⟨H7,hH7⟩ : ∃ H,H = H5 ++ autO vu rs ac := ⟨_,rfl⟩
 have kc_12 : ∀ {R : Type} {k : A → H → Option R},x4 env (x2 env L (n - 1)) H5 18 [.agg [.d (.int .i64 al),.d (.ivs (List.length rs) (rowsD rs)),.d (.ivs (List.length ac) (bools ac))]] k = k (.agg [.d (.int .i64 al),.sl vu 0 0 rs.length,.sl (vu + 1) 0 0 ac.length]) H7 := by intro R k; rw [hH7,hvu]; exact xim (by omega) hs ha hL
 have gvu : Has H7 vu rs ac := by rw [hH7,hvu]; exact xj2
 have lH7 : H7.length = List.length H5 + rs.length + 2 := by rw [hH7,List.length_append,xf1]; omega
 have wH7 : wgt H7 ≤ wgt H5 + 1048576 := by rw [hH7,x7w,xiw]; omega
 obtain ⟨H8,hH8⟩ : ∃ H,H = H7 := ⟨_,rfl⟩
 have kc_13 : ∀ {R : Type} {k : A → H → Option R},x4 env (x2 env L (n - 1)) H7 30 [.agg [.d (.int .i64 al),.sl vu 0 0 rs.length,.sl (vu + 1) 0 0 ac.length]] k = k (.d (.ivs 0 [])) H8 := by intro R k; rw [hH8]; exact x219 x7u (hrdg gvu) (by simp [idsL,xcy,xf6,idsA]; omega) hI rfl
 have lH8 : H8.length = List.length H7 := by rw [hH8]
 have wH8 : wgt H8 ≤ wgt H7 := by rw [hH8]; exact Nat.le_refl _
 have kc_14 : ∀ {R : Type} {k : A → H → Option R},x4 env (x2 env L (n - 1)) H8 20 [.d (.ivs 0 []),.d (.ivs 0 [])] k = k (.d (.bool true)) H8 := fun {R k} => xr9 (l := []) (by omega) (by simp) (rd2 xcn xcn) (by simp [idsL,idsA]; omega) hL
 have kc_15 : ∀ {R : Type} {k : A → H → Option R},x4 env (x2 env L (n - 1)) H8 24 [.d (.ivs 0 []),.d (.int .i64 1)] k = k (.d (.int .i64 1)) H8 := by
  intro R k
  have := xvk (L := L) (n := n - 1) (h := H8) (R := R) (k := k) (l := []) (args := [.d (.ivs 0 []),.d (.int .i64 1)]) (by omega) (by simp) (rd2 xcn xcn) (by simp [idsL,idsA]; omega) hL
  simpa using this
 have p1 : ¬ (1 : Int) + x6 rs + ac.length < 0 := by omega
 have hll : ac.length ≤ 9223372036854775807 := by omega
 clear hH2 hH3 hH4 hH7 hH8 hv1 hvt hvu lH2 lH3 lH4 lH7 lH8 gv1 gE2 gE3x gvt gH4x gH5x gvu s5 c8 w1 wG1 wE2 w5 wH2 wH3 wH4 wH7 wH8 l1 l5 hfA hord7 hS hI hrdg
 obtain _ | n := n; omega
 simp only [Nat.add_sub_cancel] at kc_1 kc_2 kc_3 kc_4 kc_5 kc_6 kc_7 kc_8 kc_9 kc_10 kc_11 kc_12 kc_13 kc_14 kc_15
 have n1 : 1 ≤ n + 1 := by omega
 have hclash := fun ops p q h => x1ft (hclash ops p q h)
 obtain _ | n := n; omega
 rw [xcp]
 simp only [xah,Try.f6,SLM,simprocAttr]
 simp -implicitDefEqProofs (maxSteps := 2000000) (disch := first | assumption | (refine Shut.mk ?_; exact hclash _ _ _ (by kernel_rfl)) | (refine Shut.mk ?_; kernel_rfl) | omega | (simp only [GT]; done) | (simp only [LN] <;> omega) | fail) only [↓DN,↓kAsg,↓kRet,UP,simprocAttr,↓xm7,↓xmi,↓xi2,↓xi7,↓xif,LA,hsz,p1,↓kc_1,↓kc_2,↓kc_3,↓kc_4,↓kc_5,↓kc_6,↓kc_7,↓kc_8,↓kc_9,↓kc_10,↓kc_11,↓kc_12,↓kc_13,↓kc_14,↓kc_15,↓st_f6,↓st_f7,↓st_r7,b1_0,b2_0,b3_0,b3_x,b4_x,b5_0,b5_0,List.append_assoc,List.cons_append,List.nil_append,xzp,x1lk,beq_self_eq_true,bne_self_eq_false]
theorem x10b {L n : Nat} (hn : 30 ≤ n) (al : Int) (rs : List (List Int)) (ac : List Bool) (hlen : rowsLen rs) (hla : ac.length ≤ 9223372036854775807) (hL : 2 ^ 60 ≤ L) : x2 env L n 6 [.agg [.d (.int .i64 al),.d (.ivs (List.length rs) (rowsD rs)),.d (.ivs (List.length ac) (bools ac))]] [] = some (.d (.bool true),[]) := by
 by_cases hsz : szA rs ac 1048576 < 0
 ·obtain _ | n := n; omega
  rw [xcp]
  simp only [xah,Try.f6,SLM,simprocAttr]
  simp -implicitDefEqProofs (maxSteps := 2000000) (disch := first | assumption | exact ⟨by kernel_rfl⟩ | omega | (simp only [GT,LN] <;> omega) | fail) only [↓DN,↓kAsg,↓kRet,UP,simprocAttr,↓xm7,↓x1cz,↓x1ln,↓x1fo,↓x1eu,↓xmi,↓x1la,↓xxw,↓x1eg,↓xi2,↓xi7,↓xif,↓x1ec,↓x1eo,↓x1f7,↓x19i,↓x15v,↓x162,↓x16a,↓x15r,↓x15z,↓x167,↓x19d,↓x18e,↓x1a3,↓x19n,↓x18g,↓x18q,↓x19w,↓x19g,↓x197,LA,hsz]
 ·cases hok : x5e al rs ac with
  | true => exact xyz hn al rs ac hlen hla hsz hok hL
  | false => exact xz4 hn al rs ac hlen hla hsz hok hL
end Ev
end Go.Proofs.Ytppdfjdfjfoddaa
