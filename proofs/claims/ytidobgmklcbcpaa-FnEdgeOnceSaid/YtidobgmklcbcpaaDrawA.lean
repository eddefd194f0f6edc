/-
  A function that draws, with its source at any place in memory; the source opened beside other things.
-/
import Derived.Test.YtidobgmklcbcpaaDrawU
set_option linter.unusedSimpArgs false
set_option linter.unusedVariables false
set_option maxRecDepth 8000
set_option maxHeartbeats 4000000
set_option pp.maxSteps 6000
namespace Go.Proofs.Ytidobgmklcbcpaa
namespace Ev

mutual
theorem mapA_same {f g : Nat → Option Nat} (hfg : ∀ k, f k = none → g k = none) : ∀ a : A, idsA (mapA f a) = [] → mapA g a = mapA f a
  | .d x, _ => by simp only [mapA]
  | .sl id gen off len, h => by
    simp only [mapA] at h ⊢
    cases hf : f id with
    | none => rw [hfg id hf]
    | some m => rw [hf] at h; simp [idsA] at h
  | .ptr id gen off, h => by
    simp only [mapA] at h ⊢
    cases hf : f id with
    | none => rw [hfg id hf]
    | some m => rw [hf] at h; simp [idsA] at h
  | .clo c caps, h => by simp only [mapA, idsA] at h ⊢; rw [mapAs_same hfg caps h]
  | .agg cs, h => by simp only [mapA, idsA] at h ⊢; rw [mapAs_same hfg cs h]
  | .tup cs, h => by simp only [mapA, idsA] at h ⊢; rw [mapAs_same hfg cs h]
  | .junk, _ => by simp only [mapA]
theorem mapAs_same {f g : Nat → Option Nat} (hfg : ∀ k, f k = none → g k = none) : ∀ l : List A, idsL (mapAs f l) = [] → mapAs g l = mapAs f l
  | [], _ => by simp only [mapAs]
  | a :: l, h => by
    simp only [mapAs, idsL, List.append_eq_nil_iff] at h
    simp only [mapAs]
    rw [mapA_same hfg a h.1, mapAs_same hfg l h.2]
end

theorem mapA_d {f : Nat → Option Nat} {a : A} {x : D} (h : mapA f a = .d x) : a = .d x := by
  cases a with
  | d y => simpa [mapA] using h
  | sl id gen off len => simp only [mapA] at h; split at h <;> cases h
  | ptr id gen off => simp only [mapA] at h; split at h <;> cases h
  | clo c caps => simp [mapA] at h
  | agg cs => simp [mapA] at h
  | tup cs => simp [mapA] at h
  | junk => simp [mapA] at h

theorem mapO_rd {f : Nat → Option Nat} {o : O} {c : List UInt8} {q : Int} (h : mapO f o = O.box [A.d (D.ivs c.length (bytesL c)), A.d (D.int .i64 q)]) : o = O.box [A.d (D.ivs c.length (bytesL c)), A.d (D.int .i64 q)] := by
  cases o with
  | box cs =>
    simp only [mapO, O.box.injEq] at h
    match cs, h with
    | [a, b], h =>
      simp only [mapAs, List.cons.injEq, and_true] at h
      rw [mapA_d h.1, mapA_d h.2]
    | [], h => simp [mapAs] at h
    | [_], h => simp [mapAs] at h
    | _ :: _ :: _ :: _, h => simp [mapAs] at h
  | _ => simp [mapO] at h

/-- What a drawing function does with its source alone, it does with the source at any place. -/
theorem kd_any {L n m : Nat} {f : FuncId} {args : List A} {c : List UInt8} {p q : Int} {r : A} (ha : idsL args = []) (hr : idsA r = [])
    (kd : ∀ (R : Type) (L n : Nat) (hq : H) (k : A → H → Option R), m ≤ n → 2 ^ 60 ≤ L → kCall env (evCall env L n) (O.box [A.d (D.ivs c.length (bytesL c)), A.d (D.int .i64 p)] :: hq) f (.ptr 0 0 0 :: args) k = k r (O.box [A.d (D.ivs c.length (bytesL c)), A.d (D.int .i64 q)] :: hq))
    {R : Type} {hq : H} {k : A → H → Option R} {i : Nat} (hn : m ≤ n) (hL : 2 ^ 60 ≤ L) (hi : hq[i]? = some (O.box [A.d (D.ivs c.length (bytesL c)), A.d (D.int .i64 p)])) :
    kCall env (evCall env L n) hq f (.ptr i 0 0 :: args) k = k r (hq.set i (O.box [A.d (D.ivs c.length (bytesL c)), A.d (D.int .i64 q)])) := by
  have h0 := kd (A × H) L n [] (fun a h => some (a, h)) hn hL
  generalize evCall env L n = call at h0 ⊢
  have hid : ∀ j, idsL (A.ptr j 0 0 :: args) = [j] := fun j => by simp [idsL, idsA, ha]
  have hre : ∀ (h : H) (j : Nat), h[j]? = some (O.box [A.d (D.ivs c.length (bytesL c)), A.d (D.int .i64 p)]) → reach fuelR h [j] [] = [j] := by
    intro h j hj
    have e1 : reach fuelR h [j] [] = match h[j]? with
      | some (.box cs) => reach (fuelR - 1) h ([] ++ idsL cs) ([] ++ [j])
      | some (.vec cs _ _) => reach (fuelR - 1) h ([] ++ idsL cs) ([] ++ [j])
      | some .void => reach (fuelR - 1) h [] []
      | some _ => reach (fuelR - 1) h [] ([] ++ [j])
      | none => reach (fuelR - 1) h [] [] := rfl
    rw [e1, hj]
    rfl
  have hpk : ∀ (h : H) (j : Nat), h[j]? = some (O.box [A.d (D.ivs c.length (bytesL c)), A.d (D.int .i64 p)]) → pack h [j] = [O.box [A.d (D.ivs c.length (bytesL c)), A.d (D.int .i64 p)]] := by
    intro h j hj
    simp only [pack, List.map_cons, List.map_nil, List.getD_eq_getElem?_getD, hj]
    rfl
  have hma : ∀ j, mapAs (place [j]) (A.ptr j 0 0 :: args) = A.ptr 0 0 0 :: args := by
    intro j
    simp only [mapAs, mapAs_none _ ha]
    simp [mapA, place]
  have hcl : ∀ (h : H) (j : Nat), h[j]? = some (O.box [A.d (D.ivs c.length (bytesL c)), A.d (D.int .i64 p)]) → closed h [j] [j] = true := by
    intro h j hj
    simp only [closed, List.all_cons, List.all_nil, hj]
    simp [idsL, idsA]
  unfold kCall at h0 ⊢
  rw [hid, hre hq i hi, hpk hq i hi, hma]
  rw [hid, hre [O.box [A.d (D.ivs c.length (bytesL c)), A.d (D.int .i64 p)]] 0 rfl, hpk [O.box [A.d (D.ivs c.length (bytesL c)), A.d (D.int .i64 p)]] 0 rfl, hma] at h0
  cases hc : aCall call env.hint [O.box [A.d (D.ivs c.length (bytesL c)), A.d (D.int .i64 p)]] f (A.ptr 0 0 0 :: args) with
  | none => rw [hc] at h0; simp at h0
  | some y =>
    obtain ⟨a, h1⟩ := y
    rw [hc] at h0
    simp only [hcl [O.box [A.d (D.ivs c.length (bytesL c)), A.d (D.int .i64 p)]] 0 rfl, hcl hq i hi, and_true, List.length_cons, List.length_nil] at h0 ⊢
    split at h0
    · rename_i hlen
      rw [if_pos hlen]
      simp only [Option.some.injEq, Prod.mk.injEq] at h0
      obtain ⟨g1, g2⟩ := h0
      match h1, hlen, g1, g2 with
      | o :: rest, hlen, g1, g2 =>
        simp only [putBack, List.set_cons_zero, List.cons_append, List.nil_append, List.cons.injEq, List.map_eq_nil_iff] at g2
        obtain ⟨g2, rfl⟩ := g2
        have ho := mapO_rd g2
        subst ho
        have ga : mapA (back [i] hq.length 1) a = r := by
          rw [mapA_same (f := back [0] 1 1) (g := back [i] hq.length 1) ?_ a (by have := g1; simp only [List.length_cons, List.length_nil, Nat.zero_add] at this; rw [this]; exact hr)]
          · simpa using g1
          · intro j hj
            unfold back at hj ⊢
            by_cases h0 : j < [i].length
            · have : j = 0 := by simp at h0; exact h0
              subst this
              simp at hj
            · have h0' : ¬ j < [0].length := by simpa using h0
              rw [if_neg h0'] at hj
              rw [if_neg h0]
              split at hj
              · cases hj
              · rename_i h2; rw [if_neg h2]
        simp only [List.length_cons, List.length_nil, Nat.zero_add]
        rw [ga]
        congr 1
        simp [putBack, mapO, mapAs, mapA]
    · simp at h0

/-- The source is opened beside other things. -/
theorem kc_openA {R : Type} {L n : Nat} {hq : H} {k : A → H → Option R} (c0 : List UInt8) (hn : 1 ≤ n) (hc : c0.length ≤ 4294967296) : kCall env (evCall env L n) hq 64 [.d (.ivs c0.length (bytesL c0))] k = k (.ptr hq.length 0 0) (hq ++ [O.box [A.d (D.ivs (src c0).length (bytesL (src c0))), A.d (D.int .i64 0)]]) := by
  have he := ev_open (L := L) hn c0 hc
  unfold kCall
  have h1 : reach fuelR hq (idsL [A.d (D.ivs c0.length (bytesL c0))]) [] = [] := rfl
  have h2 : pack hq [] = [] := rfl
  have h3 : mapAs (place []) [A.d (D.ivs c0.length (bytesL c0))] = [A.d (D.ivs c0.length (bytesL c0))] := rfl
  rw [h1, h2, h3]
  have h4 : aCall (evCall env L n) env.hint [] 64 [A.d (D.ivs c0.length (bytesL c0))] = some (.ptr 0 0 0, [O.box [A.d (D.ivs (src c0).length (bytesL (src c0))), A.d (D.int .i64 0)]]) := by
    unfold aCall
    rw [m_l19Open]
    have h5 : frzAs ([] : H) [A.d (D.ivs c0.length (bytesL c0))] = some ([A.d (D.ivs c0.length (bytesL c0))], []) := rfl
    simp only [h5, he]
    rfl
  rw [h4]
  have hcl : closed hq [] (idsL [A.d (D.ivs c0.length (bytesL c0))]) = true := rfl
  simp only [hcl, List.length_nil, Nat.zero_le, and_self, if_true]
  congr 1

end Ev
end Go.Proofs.Ytidobgmklcbcpaa
