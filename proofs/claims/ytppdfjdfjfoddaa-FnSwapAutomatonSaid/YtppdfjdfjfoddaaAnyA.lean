/-
  The random source opened; arguments of the exchanges that are drawn.
-/
import Derived.Test.YtppdfjdfjfoddaaDraw2
import Derived.Test.YtppdfjdfjfoddaaWrongC
section
set_option linter.unusedSimpArgs false
set_option linter.unusedVariables false
set_option maxRecDepth 8000
set_option maxHeartbeats 4000000
set_option pp.maxSteps 6000
namespace Go.Proofs.Ytppdfjdfjfoddaa
namespace Ev
def src (c : List UInt8) : List UInt8 := if 2000 < c.length then c.take 2000 else c
theorem src_len (c : List UInt8) : (src c).length ≤ 2000 := by
 unfold src; split
 ·rw [List.length_take]; omega
 ·omega
theorem m_l19Open : (env.hint 32).mode = 2 := by kernel_rfl
theorem xpr {L n : Nat} (hn : 1 ≤ n) (c0 : List UInt8) (hc : c0.length ≤ 4294967296) : evCall env L n 32 [.d (.ivs c0.length (bytesL c0))] [] = some (.ptr 0 0 0, [O.box [A.d (D.ivs (src c0).length (bytesL (src c0))), A.d (D.int .i64 0)]]) := by
 unfold src
 by_cases h : (2000 : Int) < c0.length
 ·have h' : 2000 < c0.length := by omega
  obtain ⟨n, rfl⟩ : ∃ m, n = m + 1 := ⟨n - 1, by omega⟩
  rw [xiu]
  simp only [xfo, Try.f32, SLM, simprocAttr]
  simp -implicitDefEqProofs (maxSteps := 2000000) (disch := first | assumption | (refine Shut.mk ?_; kernel_rfl) | omega | (simp only [GT]; done) | (simp only [LN] <;> omega) | fail) only [↓DN, ↓kAsg, ↓kRet, UP, simprocAttr, h, h']
 ·have h' : ¬ 2000 < c0.length := by omega
  obtain ⟨n, rfl⟩ : ∃ m, n = m + 1 := ⟨n - 1, by omega⟩
  rw [xiu]
  simp only [xfo, Try.f32, SLM, simprocAttr]
  simp -implicitDefEqProofs (maxSteps := 2000000) (disch := first | assumption | (refine Shut.mk ?_; kernel_rfl) | omega | (simp only [GT]; done) | (simp only [LN] <;> omega) | fail) only [↓DN, ↓kAsg, ↓kRet, UP, simprocAttr, h, h']
theorem xpg {c : List UInt8} (hc : c.length ≤ 2000) (p : Int) (hp : 0 ≤ p) (hp2 : p ≤ 900000000) : ∃ (x y q : Int), -10 ≤ x ∧ x ≤ 10 ∧ -10 ≤ y ∧ y ≤ 10 ∧ p ≤ q ∧ q ≤ p + 6 ∧ (∀ (R : Type) (L n : Nat) (hq : H) (k : A → H → Option R), 4 ≤ n → 2 ^ 60 ≤ L → kCall env (evCall env L n) (O.box [A.d (D.ivs c.length (bytesL c)), A.d (D.int .i64 p)] :: hq) 34 (.ptr 0 0 0 :: []) k = k (.tup [.d (.int .i64 x), .d (.int .i64 y)]) (O.box [A.d (D.ivs c.length (bytesL c)), A.d (D.int .i64 q)] :: hq)) := by
 obtain ⟨x, x0, x1, _, kd1⟩ := x35 hc p 4 hp (by omega)
 obtain ⟨y, y0, y1, _, kd2⟩ := x35 hc (p + 1) 4 (by omega) (by omega)
 obtain ⟨u, u0, u1, _, kd3⟩ := x35 hc (p + 1 + 1) 16 (by omega) (by omega)
 by_cases h0 : u = 0
 ·subst h0
  obtain ⟨x2, hx2, kd4⟩ := x8x hc [5, 6, -1] (by simp) (by simp) (p + 1 + 1 + 1) (by omega) (by omega)
  obtain ⟨v, v0, v1, _, kd5⟩ := x35 hc (p + 1 + 1 + 1 + 1) 16 (by omega) (by omega)
  simp only [ints, List.map_cons, List.map_nil, List.length_cons, List.length_nil, Nat.zero_add, Nat.reduceAdd] at kd4
  by_cases h1 : v = 0
  ·subst h1
   obtain ⟨y2, hy2, kd6⟩ := x8x hc [5, 6, -1] (by simp) (by simp) (p + 1 + 1 + 1 + 1 + 1) (by omega) (by omega)
   simp only [ints, List.map_cons, List.map_nil, List.length_cons, List.length_nil, Nat.zero_add, Nat.reduceAdd] at kd6
   simp at hx2 hy2
   refine ⟨x2, y2, p + 1 + 1 + 1 + 1 + 1 + 1, by omega, by omega, by omega, by omega, by omega, by omega, fun R L n hq k hn hL => kCall_rd m_l17Two rfl rfl ?_⟩
   obtain ⟨n, rfl⟩ : ∃ m, n = m + 1 := ⟨n - 1, by omega⟩
   rw [xc2]
   simp only [xaa, Try.f34, SLM, simprocAttr]
   simp -implicitDefEqProofs (maxSteps := 2000000) (disch := first | assumption | (refine Shut.mk ?_; kernel_rfl) | omega | (simp only [GT]; done) | (simp only [LN] <;> omega) | fail) only [↓DN, ↓kAsg, ↓kRet, UP, simprocAttr, ↓kd1, ↓kd2, ↓kd3, ↓kd4, ↓kd5, ↓kd6]
  ·simp at hx2
   refine ⟨x2, y, p + 1 + 1 + 1 + 1 + 1, by omega, by omega, by omega, by omega, by omega, by omega, fun R L n hq k hn hL => kCall_rd m_l17Two rfl rfl ?_⟩
   obtain ⟨n, rfl⟩ : ∃ m, n = m + 1 := ⟨n - 1, by omega⟩
   rw [xc2]
   simp only [xaa, Try.f34, SLM, simprocAttr]
   simp -implicitDefEqProofs (maxSteps := 2000000) (disch := first | assumption | (refine Shut.mk ?_; kernel_rfl) | omega | (simp only [GT]; done) | (simp only [LN] <;> omega) | fail) only [↓DN, ↓kAsg, ↓kRet, UP, simprocAttr, ↓kd1, ↓kd2, ↓kd3, ↓kd4, ↓kd5, h1]
 ·obtain ⟨v, v0, v1, _, kd5⟩ := x35 hc (p + 1 + 1 + 1) 16 (by omega) (by omega)
  by_cases h1 : v = 0
  ·subst h1
   obtain ⟨y2, hy2, kd6⟩ := x8x hc [5, 6, -1] (by simp) (by simp) (p + 1 + 1 + 1 + 1) (by omega) (by omega)
   simp only [ints, List.map_cons, List.map_nil, List.length_cons, List.length_nil, Nat.zero_add, Nat.reduceAdd] at kd6
   simp at hy2
   refine ⟨x, y2, p + 1 + 1 + 1 + 1 + 1, by omega, by omega, by omega, by omega, by omega, by omega, fun R L n hq k hn hL => kCall_rd m_l17Two rfl rfl ?_⟩
   obtain ⟨n, rfl⟩ : ∃ m, n = m + 1 := ⟨n - 1, by omega⟩
   rw [xc2]
   simp only [xaa, Try.f34, SLM, simprocAttr]
   simp -implicitDefEqProofs (maxSteps := 2000000) (disch := first | assumption | (refine Shut.mk ?_; kernel_rfl) | omega | (simp only [GT]; done) | (simp only [LN] <;> omega) | fail) only [↓DN, ↓kAsg, ↓kRet, UP, simprocAttr, ↓kd1, ↓kd2, ↓kd3, h0, ↓kd5, ↓kd6]
  ·refine ⟨x, y, p + 1 + 1 + 1 + 1, by omega, by omega, by omega, by omega, by omega, by omega, fun R L n hq k hn hL => kCall_rd m_l17Two rfl rfl ?_⟩
   obtain ⟨n, rfl⟩ : ∃ m, n = m + 1 := ⟨n - 1, by omega⟩
   rw [xc2]
   simp only [xaa, Try.f34, SLM, simprocAttr]
   simp -implicitDefEqProofs (maxSteps := 2000000) (disch := first | assumption | (refine Shut.mk ?_; kernel_rfl) | omega | (simp only [GT]; done) | (simp only [LN] <;> omega) | fail) only [↓DN, ↓kAsg, ↓kRet, UP, simprocAttr, ↓kd1, ↓kd2, ↓kd3, h0, ↓kd5, h1]
end Ev
end Go.Proofs.Ytppdfjdfjfoddaa
end

/-!
  A function that draws, with its source at any place in memory; the source opened beside other things.
-/
section
set_option linter.unusedSimpArgs false
set_option linter.unusedVariables false
set_option maxRecDepth 8000
set_option maxHeartbeats 4000000
set_option pp.maxSteps 6000
namespace Go.Proofs.Ytppdfjdfjfoddaa
namespace Ev
mutual
theorem mapA_same {f g : Nat → Option Nat} (hfg : ∀ k, f k = none → g k = none) : ∀ a : A, idsA (mapA f a) = [] → mapA g a = mapA f a
 | .d x, _ => by simp only [mapA]
 | .sl id gen off len, h => by
  simp only [mapA] at h ⊢
  cases hf : f id with
  | none => rw [hfg id hf]
  | some m => rw [hf] at h; simp [idsA] at h
 | .ptr id gen off, h => by
  simp only [mapA] at h ⊢
  cases hf : f id with
  | none => rw [hfg id hf]
  | some m => rw [hf] at h; simp [idsA] at h
 | .mp id, h => by
  simp only [mapA] at h ⊢
  cases hf : f id with
  | none => rw [hfg id hf]
  | some m => rw [hf] at h; simp [idsA] at h
 | .clo c caps, h => by simp only [mapA, idsA] at h ⊢; rw [mapAs_same hfg caps h]
 | .agg cs, h => by simp only [mapA, idsA] at h ⊢; rw [mapAs_same hfg cs h]
 | .tup cs, h => by simp only [mapA, idsA] at h ⊢; rw [mapAs_same hfg cs h]
 | .junk, _ => by simp only [mapA]
theorem mapAs_same {f g : Nat → Option Nat} (hfg : ∀ k, f k = none → g k = none) : ∀ l : List A, idsL (mapAs f l) = [] → mapAs g l = mapAs f l
 | [], _ => by simp only [mapAs]
 | a :: l, h => by
  simp only [mapAs, idsL, List.append_eq_nil_iff] at h
  simp only [mapAs]
  rw [mapA_same hfg a h.1, mapAs_same hfg l h.2]
end
theorem mapA_d {f : Nat → Option Nat} {a : A} {x : D} (h : mapA f a = .d x) : a = .d x := by
 cases a with
 | d y => simpa [mapA] using h
 | sl id gen off len => simp only [mapA] at h; split at h <;> cases h
 | ptr id gen off => simp only [mapA] at h; split at h <;> cases h
 | mp id => simp only [mapA] at h; split at h <;> cases h
 | clo c caps => simp [mapA] at h
 | agg cs => simp [mapA] at h
 | tup cs => simp [mapA] at h
 | junk => simp [mapA] at h
theorem mapO_rd {f : Nat → Option Nat} {o : O} {c : List UInt8} {q : Int} (h : mapO f o = O.box [A.d (D.ivs c.length (bytesL c)), A.d (D.int .i64 q)]) : o = O.box [A.d (D.ivs c.length (bytesL c)), A.d (D.int .i64 q)] := by
 cases o with
 | box cs =>
  simp only [mapO, O.box.injEq] at h
  match cs, h with
  | [a, b], h =>
   simp only [mapAs, List.cons.injEq, and_true] at h
   rw [mapA_d h.1, mapA_d h.2]
  | [], h => simp [mapAs] at h
  | [_], h => simp [mapAs] at h
  | _ :: _ :: _ :: _, h => simp [mapAs] at h
 | _ => simp [mapO] at h
theorem kd_any {L n m : Nat} {f : FuncId} {args : List A} {c : List UInt8} {p q : Int} {r : A} (ha : idsL args = []) (hr : idsA r = [])
  (kd : ∀ (R : Type) (L n : Nat) (hq : H) (k : A → H → Option R), m ≤ n → 2 ^ 60 ≤ L → kCall env (evCall env L n) (O.box [A.d (D.ivs c.length (bytesL c)), A.d (D.int .i64 p)] :: hq) f (.ptr 0 0 0 :: args) k = k r (O.box [A.d (D.ivs c.length (bytesL c)), A.d (D.int .i64 q)] :: hq))
  {R : Type} {hq : H} {k : A → H → Option R} {i : Nat} (hn : m ≤ n) (hL : 2 ^ 60 ≤ L) (hi : hq[i]? = some (O.box [A.d (D.ivs c.length (bytesL c)), A.d (D.int .i64 p)])) :
  kCall env (evCall env L n) hq f (.ptr i 0 0 :: args) k = k r (hq.set i (O.box [A.d (D.ivs c.length (bytesL c)), A.d (D.int .i64 q)])) := by
 have h0 := kd (A × H) L n [] (fun a h => some (a, h)) hn hL
 generalize evCall env L n = call at h0 ⊢
 have hid : ∀ j, idsL (A.ptr j 0 0 :: args) = [j] := fun j => by simp [idsL, idsA, ha]
 have hre : ∀ (h : H) (j : Nat), h[j]? = some (O.box [A.d (D.ivs c.length (bytesL c)), A.d (D.int .i64 p)]) → reach fuelR h [j] [] = [j] := by
  intro h j hj
  have e1 : reach fuelR h [j] [] = match h[j]? with
   | some (.box cs) => reach (fuelR - 1) h ([] ++ idsL cs) ([] ++ [j])
   | some (.vec cs _ _) => reach (fuelR - 1) h ([] ++ idsL cs) ([] ++ [j])
   | some .void => reach (fuelR - 1) h [] []
   | some _ => reach (fuelR - 1) h [] ([] ++ [j])
   | none => reach (fuelR - 1) h [] [] := rfl
  rw [e1, hj]
  rfl
 have hpk : ∀ (h : H) (j : Nat), h[j]? = some (O.box [A.d (D.ivs c.length (bytesL c)), A.d (D.int .i64 p)]) → pack h [j] = [O.box [A.d (D.ivs c.length (bytesL c)), A.d (D.int .i64 p)]] := by
  intro h j hj
  simp only [pack, List.map_cons, List.map_nil, List.getD_eq_getElem?_getD, hj]
  rfl
 have hma : ∀ j, mapAs (place [j]) (A.ptr j 0 0 :: args) = A.ptr 0 0 0 :: args := by
  intro j
  simp only [mapAs, mapAs_none _ ha]
  simp [mapA, place]
 have hcl : ∀ (h : H) (j : Nat), h[j]? = some (O.box [A.d (D.ivs c.length (bytesL c)), A.d (D.int .i64 p)]) → closed h [j] [j] = true := by
  intro h j hj
  simp only [closed, List.all_cons, List.all_nil, hj]
  simp [idsL, idsA]
 unfold kCall at h0 ⊢
 rw [hid, hre hq i hi, hpk hq i hi, hma]
 rw [hid, hre [O.box [A.d (D.ivs c.length (bytesL c)), A.d (D.int .i64 p)]] 0 rfl, hpk [O.box [A.d (D.ivs c.length (bytesL c)), A.d (D.int .i64 p)]] 0 rfl, hma] at h0
 cases hc : aCall call env.hint [O.box [A.d (D.ivs c.length (bytesL c)), A.d (D.int .i64 p)]] f (A.ptr 0 0 0 :: args) with
 | none => rw [hc] at h0; simp at h0
 | some y =>
  obtain ⟨a, h1⟩ := y
  rw [hc] at h0
  simp only [hcl [O.box [A.d (D.ivs c.length (bytesL c)), A.d (D.int .i64 p)]] 0 rfl, hcl hq i hi, and_true, List.length_cons, List.length_nil] at h0 ⊢
  split at h0
  ·rename_i hlen
   rw [if_pos hlen]
   simp only [Option.some.injEq, Prod.mk.injEq] at h0
   obtain ⟨g1, g2⟩ := h0
   match h1, hlen, g1, g2 with
   | o :: rest, hlen, g1, g2 =>
    simp only [putBack, List.set_cons_zero, List.cons_append, List.nil_append, List.cons.injEq, List.map_eq_nil_iff] at g2
    obtain ⟨g2, rfl⟩ := g2
    have ho := mapO_rd g2
    subst ho
    have ga : mapA (back [i] hq.length 1) a = r := by
     rw [mapA_same (f := back [0] 1 1) (g := back [i] hq.length 1) ?_ a (by have := g1; simp only [List.length_cons, List.length_nil, Nat.zero_add] at this; rw [this]; exact hr)]
     ·simpa using g1
     ·intro j hj
      unfold back at hj ⊢
      by_cases h0 : j < [i].length
      ·have : j = 0 := by simp at h0; exact h0
       subst this
       simp at hj
      ·have h0' : ¬ j < [0].length := by simpa using h0
       rw [if_neg h0'] at hj
       rw [if_neg h0]
       split at hj
       ·cases hj
       ·rename_i h2; rw [if_neg h2]
    simp only [List.length_cons, List.length_nil, Nat.zero_add]
    rw [ga]
    congr 1
    simp [putBack, mapO, mapAs, mapA]
  ·simp at h0
theorem xpk {R : Type} {L n : Nat} {hq : H} {k : A → H → Option R} (c0 : List UInt8) (hn : 1 ≤ n) (hc : c0.length ≤ 4294967296) : kCall env (evCall env L n) hq 32 [.d (.ivs c0.length (bytesL c0))] k = k (.ptr hq.length 0 0) (hq ++ [O.box [A.d (D.ivs (src c0).length (bytesL (src c0))), A.d (D.int .i64 0)]]) := by
 have he := xpr (L := L) hn c0 hc
 unfold kCall
 have h1 : reach fuelR hq (idsL [A.d (D.ivs c0.length (bytesL c0))]) [] = [] := rfl
 have h2 : pack hq [] = [] := rfl
 have h3 : mapAs (place []) [A.d (D.ivs c0.length (bytesL c0))] = [A.d (D.ivs c0.length (bytesL c0))] := rfl
 rw [h1, h2, h3]
 have h4 : aCall (evCall env L n) env.hint [] 32 [A.d (D.ivs c0.length (bytesL c0))] = some (.ptr 0 0 0, [O.box [A.d (D.ivs (src c0).length (bytesL (src c0))), A.d (D.int .i64 0)]]) := by
  unfold aCall
  rw [m_l19Open]
  have h5 : frzAs ([] : H) [A.d (D.ivs c0.length (bytesL c0))] = some ([A.d (D.ivs c0.length (bytesL c0))], []) := rfl
  simp only [h5, he]
  rfl
 rw [h4]
 have hcl : closed hq [] (idsL [A.d (D.ivs c0.length (bytesL c0))]) = true := rfl
 simp only [hcl, List.length_nil, Nat.zero_le, and_self, if_true]
 congr 1
end Ev
end Go.Proofs.Ytppdfjdfjfoddaa
end

/-!
  Automata that are drawn, valid or not.
-/
section
set_option linter.unusedSimpArgs false
set_option linter.unusedVariables false
set_option maxRecDepth 8000
set_option pp.maxSteps 6000
set_option maxHeartbeats 4000000
namespace Go.Proofs.Ytppdfjdfjfoddaa
namespace Ev
structure AutB (B : Nat) (nx : List (List Int)) (ac : List Bool) : Prop where
 n : nx.length ≤ B
 a : ac.length ≤ B
 r : ∀ r ∈ nx, r.length ≤ B
theorem AutB.short {B : Nat} {nx : List (List Int)} {ac : List Bool} (h : AutB B nx ac) (hB : B ≤ 4294967000) : rowsShort nx := ⟨by have := h.n; omega, fun r hr => by have := h.r r hr; omega⟩
theorem AutB.mono {B C : Nat} {nx : List (List Int)} {ac : List Bool} (h : AutB B nx ac) (hB : B ≤ C) : AutB C nx ac := ⟨by have := h.n; omega, by have := h.a; omega, fun r hr => by have := h.r r hr; omega⟩
theorem AutB.at {B : Nat} {nx : List (List Int)} {ac : List Bool} (h : AutB B nx ac) (i : Nat) : (nx.getD i []).length ≤ B := by
 rw [List.getD_eq_getElem?_getD]
 cases hg : nx[i]? with
 | none => simp
 | some r => simpa using h.r r (List.mem_of_getElem? hg)
theorem xp3 {c : List UInt8} (hc : c.length ≤ 2000) {B : Nat} (hB : B ≤ 4294966000) (al : Int) (nx : List (List Int)) (ac : List Bool) (hb : AutB B nx ac) (h1 : 1 ≤ nx.length) (p : Int) (hp : 0 ≤ p) (hp2 : p ≤ 890000000) :
  ∃ (al2 : Int) (nx2 : List (List Int)) (ac2 : List Bool) (q : Int), AutB (B + 13) nx2 ac2 ∧ p ≤ q ∧ q ≤ p + 4 ∧ (∀ (R : Type) (L n : Nat) (hq : H) (k : A → H → Option R), 4 ≤ n → 2 ^ 60 ≤ L → kCall env (evCall env L n) (O.box [A.d (D.ivs c.length (bytesL c)), A.d (D.int .i64 p)] :: hq) 76 (.ptr 0 0 0 :: [autD al nx ac]) k = k (autD al2 nx2 ac2) (O.box [A.d (D.ivs c.length (bytesL c)), A.d (D.int .i64 q)] :: hq)) := by
 have hs := hb.short (by omega)
 have hn := hb.n
 have hba := hb.a
 obtain ⟨k, k0, k1, _, kd1⟩ := x35 hc p nx.length hp (by omega)
 obtain ⟨u, u0, u1, _, kd2⟩ := x35 hc (p + 1) 30 (by omega) (by omega)
 have k1 := k1 (by omega)
 obtain ⟨t, rfl⟩ : ∃ t : Nat, k = t := ⟨k.toNat, by omega⟩
 have ht : t < nx.length := by omega
 have hrt := hb.at t
 by_cases hu0 : u = 0
 ·subst hu0
  obtain ⟨al2, kd⟩ := l3Wrong_al hc al nx ac hs h1 (by omega) p t hp (by omega) kd1 kd2
  exact ⟨al2, nx, ac, _, hb.mono (by omega), by omega, by omega, kd⟩
 by_cases hu1 : u = 1
 ·subst hu1
  refine ⟨al, nx, ac ++ [true], _, ⟨by omega, by simp; omega, fun r hr => ?_⟩, by omega, by omega, l3Wrong_ac hc al nx ac hs h1 (by omega) p t kd1 kd2⟩
  have := hb.r r hr; omega
 by_cases hu2 : u = 2
 ·subst hu2
  refine ⟨al, _, ac, _, ⟨by rw [List.length_set]; omega, by omega, fun r hr => ?_⟩, by omega, by omega, l3Wrong_row hc al nx ac hs h1 (by omega) p t ht (by omega) kd1 kd2⟩
  rcases List.mem_or_eq_of_mem_set hr with h | h
  ·have := hb.r r h; omega
  ·rw [h, List.length_append, List.length_cons, List.length_nil]; omega
 by_cases hu3 : u = 3
 ·subst hu3
  by_cases h0 : (nx.getD t []).length = 0
  ·exact ⟨al, nx, ac, _, hb.mono (by omega), by omega, by omega, l3Wrong_e0 hc al nx ac hs h1 (by omega) p t ht h0 kd1 kd2⟩
  ·obtain ⟨v, v0, v1, _, kd4⟩ := x35 hc (p + 1 + 1) (nx.getD t []).length (by omega) (by omega)
   have v1 := v1 (by omega)
   obtain ⟨j, rfl⟩ : ∃ j : Nat, v = j := ⟨v.toNat, by omega⟩
   obtain ⟨w, kd⟩ := l3Wrong_ent hc al nx ac hs h1 (by omega) p hp (by omega) t ht j (by omega) kd1 kd2 kd4
   refine ⟨al, _, ac, _, ⟨by rw [List.length_set]; omega, by omega, fun r hr => ?_⟩, by omega, by omega, kd⟩
   rcases List.mem_or_eq_of_mem_set hr with h | h
   ·have := hb.r r h; omega
   ·rw [h, List.length_set]; omega
 by_cases hu4 : u = 4
 ·subst hu4
  exact ⟨al, [], [], _, ⟨by simp, by simp, by simp⟩, by omega, by omega, l3Wrong_none hc al nx ac hs h1 (by omega) p t kd1 kd2⟩
 by_cases hu5 : u = 5
 ·subst hu5
  have h0 : nx[0]? = some (nx[0]'(by omega)) := List.getElem?_eq_getElem _
  have hr0 := hb.r _ (List.getElem_mem (by omega : 0 < nx.length))
  refine ⟨al, _, _, _, ⟨?_, ?_, fun r hr => ?_⟩, by omega, by omega, l3Wrong_big hc al nx ac hs h1 (by omega) (by omega) p t h0 (by omega) (13 - nx.length) (by omega) kd1 kd2⟩
  ·simp; omega
  ·simp; omega
  ·rcases List.mem_append.1 hr with h | h
   ·have := hb.r r h; omega
   ·obtain ⟨_, rfl⟩ := List.mem_replicate.1 h; omega
 exact ⟨al, nx, ac, _, hb.mono (by omega), by omega, by omega, l3Wrong_same hc al nx ac hs h1 (by omega) p t u hu0 hu1 hu2 hu3 hu4 hu5 kd1 kd2⟩
theorem m_l3Big : (env.hint 75).mode = 0 := by kernel_rfl
theorem m_l3Any : (env.hint 33).mode = 0 := by kernel_rfl
theorem xpj {c : List UInt8} (hc : c.length ≤ 2000) (p : Int) (hp : 0 ≤ p) (hp2 : p ≤ 900000000) : ∃ (nx : List (List Int)) (ac : List Bool) (q : Int), nx.length = 12 ∧ ac.length = 12 ∧ (∀ r ∈ nx, r.length = (letters 3).length) ∧ p ≤ q ∧ q ≤ p + 40 ∧ (∀ (R : Type) (L n : Nat) (hq : H) (k : A → H → Option R), 3 ≤ n → 2 ^ 60 ≤ L → kCall env (evCall env L n) (O.box [A.d (D.ivs c.length (bytesL c)), A.d (D.int .i64 p)] :: hq) 75 (.ptr 0 0 0 :: []) k = k (autD 3 nx ac) (O.box [A.d (D.ivs c.length (bytesL c)), A.d (D.int .i64 q)] :: hq)) := by
 obtain ⟨nx, ac, q, g1, g2, g3, g4, g5, he⟩ := xoz hc p hp hp2
 exact ⟨nx, ac, q, g1, g2, g3, g4, g5, fun R L n hq k hn hL => kCall_rd m_l3Big (by simp [idsL, idsA]) (by simp [autD, idsA, idsL]) (he L n hn hL)⟩
theorem xph {c : List UInt8} (hc : c.length ≤ 2000) (p : Int) (hp : 0 ≤ p) (hp2 : p ≤ 700000000) :
  ∃ (al : Int) (nx : List (List Int)) (ac : List Bool) (q : Int), AutB 30 nx ac ∧ p ≤ q ∧ q ≤ p + 100 ∧ (∀ (R : Type) (L n : Nat) (hq : H) (k : A → H → Option R), 16 ≤ n → 2 ^ 60 ≤ L → kCall env (evCall env L n) (O.box [A.d (D.ivs c.length (bytesL c)), A.d (D.int .i64 p)] :: hq) 33 (.ptr 0 0 0 :: []) k = k (autD al nx ac) (O.box [A.d (D.ivs c.length (bytesL c)), A.d (D.int .i64 q)] :: hq)) := by
 obtain ⟨v, v0, v1, _, kd1⟩ := x35 hc p 12 hp (by omega)
 by_cases hv : v = 0
 ·subst hv
  obtain ⟨nx, ac, q, g1, g2, g3, g4, g5, kd2⟩ := xpj hc (p + 1) (by omega) (by omega)
  refine ⟨3, nx, ac, q, ⟨by omega, by omega, fun r hr => ?_⟩, by omega, by omega, fun R L n hq k hn hL => kCall_rd m_l3Any (by simp [idsL, idsA]) (by simp [autD, idsA, idsL]) ?_⟩
  ·have := g3 r hr; have := letters_len 3; omega
  unfold autD at kd2 ⊢
  clear g3
  obtain ⟨n, rfl⟩ : ∃ m, n = m + 1 := ⟨n - 1, by omega⟩
  rw [xkv]
  simp only [xif, Try.f33, SLM, simprocAttr]
  simp -implicitDefEqProofs (maxSteps := 2000000) (disch := first | assumption | (refine Shut.mk ?_; kernel_rfl) | omega | (simp only [GT]; done) | (simp only [LN] <;> omega) | fail) only [↓DN, ↓kAsg, ↓kRet, UP, simprocAttr, LA, ↓kd1, ↓kd2]
 ·obtain ⟨al, nx, ac, q, g1, g2, g3, g4, g5, g6, kd2⟩ := xp8 hc (p + 1) (by omega) (by omega)
  obtain ⟨al2, nx2, ac2, q2, b2, g7, g8, kd3⟩ := xp3 hc (B := 12) (by omega) al nx ac ⟨by omega, by omega, fun r hr => by have := g4 r hr; have := letters_len al; omega⟩ g1 q (by omega) (by omega)
  refine ⟨al2, nx2, ac2, q2, b2.mono (by omega), by omega, by omega, fun R L n hq k hn hL => kCall_rd m_l3Any (by simp [idsL, idsA]) (by simp [autD, idsA, idsL]) ?_⟩
  unfold autD at kd2 kd3 ⊢
  clear g4 b2
  obtain ⟨n, rfl⟩ : ∃ m, n = m + 1 := ⟨n - 1, by omega⟩
  rw [xkv]
  simp only [xif, Try.f33, SLM, simprocAttr]
  simp -implicitDefEqProofs (maxSteps := 2000000) (disch := first | assumption | (refine Shut.mk ?_; kernel_rfl) | omega | (simp only [GT]; done) | (simp only [LN] <;> omega) | fail) only [↓DN, ↓kAsg, ↓kRet, UP, simprocAttr, LA, hv, ↓kd1, ↓kd2, ↓kd3]
theorem xh6 (c0 : List UInt8) (hc0 : c0.length ≤ 4294967296) : ∃ (al : Int) (nx : List (List Int)) (ac : List Bool) (x y : Int), AutB 30 nx ac ∧ -10 ≤ x ∧ x ≤ 10 ∧ -10 ≤ y ∧ y ≤ 10 ∧ ∀ (R : Type) (L n : Nat) (hq : H) (k : A → H → Option R), 18 ≤ n → 2 ^ 60 ≤ L → kCall env (evCall env L n) hq 8 [.d (.ivs c0.length (bytesL c0))] k = k (.tup [autD al nx ac, .d (.int .i64 x), .d (.int .i64 y)]) hq := by
 have hc := src_len c0
 generalize hcs : src c0 = c at hc
 obtain ⟨al, nx, ac, q, b, g2, g3, kd1⟩ := xph hc 0 (by omega) (by omega)
 obtain ⟨x, y, q2, x1, x2, y1, y2, q5, q6, kd2⟩ := xpg hc q (by omega) (by omega)
 refine ⟨al, nx, ac, x, y, b, x1, x2, y1, y2, fun R L n hq k hn hL => kCall_still rfl ?_ rfl (.inr rfl)⟩
 have kd_a := fun {R : Type} {hq : H} {k : A → H → Option R} {i : Nat} {L n : Nat} => @kd_any L n _ _ _ _ _ _ _ rfl rfl kd1 R hq k i
 have kd_b := fun {R : Type} {hq : H} {k : A → H → Option R} {i : Nat} {L n : Nat} => @kd_any L n _ _ _ _ _ _ _ rfl rfl kd2 R hq k i
 clear kd1 kd2
 unfold autD at kd_a ⊢
 obtain ⟨n, rfl⟩ : ∃ m, n = m + 1 := ⟨n - 1, by omega⟩
 rw [xfx]
 simp only [x9q, Try.f8, SLM, simprocAttr]
 simp -implicitDefEqProofs (maxSteps := 2000000) (disch := first | assumption | (refine Shut.mk ?_; kernel_rfl) | omega | (simp only [GT]; done) | (simp only [LN] <;> omega) | fail) only [↓DN, ↓kAsg, ↓kRet, UP, simprocAttr, LA, ↓xpk, hcs, ↓kd_a, ↓kd_b]
end Ev
end Go.Proofs.Ytppdfjdfjfoddaa
end
