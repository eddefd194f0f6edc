/-
  Regions that draw their order: every order ends where the order of the text ends.
-/
import Derived.Test.YtidobgmklcbcpaaEvDraw
namespace Go.Proofs.Ytidobgmklcbcpaa
namespace Ev

/-- What one operation yields and writes. -/
structure Ent where
  dst : Option Tmp
  base : Nat
  k : Nat
  a : A
  wr : List (Nat × O)
  fp : Foot

/-- The entries on a list, one after the other. -/
def runL (L : Nat → Bool) : Nat → List Ent → List A → H → List A × H
  | _, [], s, h => (s, h)
  | k, e :: es, s, h => if L k then runL L (k + 1) es (aPut s e.dst e.a) (putW e.wr h) else runL L (k + 1) es s h

/-! ### one place -/

section loc
variable {X : Type} (u : Ent → X → X) (m : Ent → Bool)

def loc (L : Nat → Bool) : Nat → List Ent → X → X
  | _, [], v => v
  | k, e :: es, v => loc L (k + 1) es (if L k then u e v else v)

variable {u m} (hu : ∀ e v, m e = false → u e v = v)
include hu

theorem loc_agree {L L' : Nat → Bool} : ∀ (es : List Ent) (k : Nat) (v : X), (∀ (j : Nat) (e : Ent), es[j]? = some e → m e = true → L (k + j) = L' (k + j)) → loc u L k es v = loc u L' k es v
  | [], _, _, _ => rfl
  | e :: es, k, v, h => by
    simp only [loc]
    have h0 : (if L k then u e v else v) = (if L' k then u e v else v) := by
      cases hm : m e with
      | false => rw [hu e v hm]; simp
      | true => have := h 0 e (by simp) hm; simp only [Nat.add_zero] at this; rw [this]
    rw [h0]
    exact loc_agree es (k + 1) _ fun j e' hj hm => by
      have := h (j + 1) e' (by simpa using hj) hm
      rw [show k + (j + 1) = k + 1 + j from by omega] at this
      exact this

theorem loc_insert {L : Nat → Bool} {e : Ent} : ∀ (es : List Ent) (k i : Nat) (v : X), es[i]? = some e → L (k + i) = false → (∀ (j : Nat) (e' : Ent), i < j → es[j]? = some e' → m e = true → m e' = true → L (k + j) = false) →
    loc u (fun j => j == k + i || L j) k es v = u e (loc u L k es v)
  | [], _, _, _, h, _, _ => by simp at h
  | e0 :: es, k, 0, v, h, hL, hlate => by
    simp only [List.getElem?_cons_zero, Option.some.injEq] at h
    subst h
    simp only [Nat.add_zero] at hL
    simp only [loc, Nat.add_zero, beq_self_eq_true, Bool.true_or, if_true, hL, Bool.false_eq_true, if_false]
    have e1 : loc u (fun j => j == k || L j) (k + 1) es (u e0 v) = loc u L (k + 1) es (u e0 v) := by
      refine loc_agree (m := fun _ => true) (fun _ _ h => by cases h) es (k + 1) _ fun j e' _ _ => ?_
      have : (k + 1 + j == k) = false := by simp; omega
      simp [this]
    rw [e1]
    cases hm : m e0 with
    | false => rw [hu e0 _ hm, hu e0 _ hm]
    | true =>
      have out : ∀ v, loc u L (k + 1) es v = loc u (fun _ => false) (k + 1) es v := fun v => loc_agree hu es (k + 1) v fun j e' hj hm' => by
        have := hlate (j + 1) e' (by omega) (by simpa using hj) hm hm'
        rw [show k + (j + 1) = k + 1 + j from by omega] at this
        exact this
      have non : ∀ (es : List Ent) (k : Nat) (v : X), loc u (fun _ => false) k es v = v := by
        intro es
        induction es with
        | nil => intro k v; rfl
        | cons e es ih => intro k v; simp only [loc]; exact ih _ _
      rw [out, out, non, non]
  | e0 :: es, k, i + 1, v, h, hL, hlate => by
    simp only [loc]
    have hne : (k == k + (i + 1)) = false := by simp
    simp only [hne, Bool.false_or]
    have ih := loc_insert (L := L) (e := e) es (k + 1) i (if L k then u e0 v else v) (by simpa using h) (by rw [show k + 1 + i = k + (i + 1) from by omega]; exact hL) (fun j e' hj he' => by
      have := hlate (j + 1) e' (by omega) (by simpa using he')
      rw [show k + (j + 1) = k + 1 + j from by omega] at this
      exact this)
    rw [show k + 1 + i = k + (i + 1) from by omega] at ih
    exact ih

end loc

def uS (t : Nat) (e : Ent) (v : Option A) : Option A := if e.dst = some t then v.map (fun _ => e.a) else v
def mS (t : Nat) (e : Ent) : Bool := decide (e.dst = some t)
def uW (id : Nat) (e : Ent) (v : Option O) : Option O := wrW id e.wr v
def mW (id : Nat) (e : Ent) : Bool := (e.wr.map (·.1)).contains id

theorem uS_out (t : Nat) (e : Ent) (v : Option A) (h : mS t e = false) : uS t e v = v := by
  simp only [mS, decide_eq_false_iff_not] at h
  simp only [uS, if_neg h]

theorem uW_out (id : Nat) (e : Ent) (v : Option O) (h : mW id e = false) : uW id e v = v :=
  wrW_out id e.wr v (fun hm => by simp only [mW] at h; rw [List.contains_iff_mem.2 hm] at h; cases h)

theorem aPut_get (s : List A) (dst : Option Tmp) (a : A) (t : Nat) : (aPut s dst a)[t]? = if dst = some t then s[t]?.map (fun _ => a) else s[t]? := by
  cases dst with
  | none => simp [aPut]
  | some d =>
    simp only [aPut, List.getElem?_set, Option.some.injEq]
    by_cases e : d = t
    · subst e
      simp only [if_true]
      by_cases hl : d < s.length
      · simp [hl]
      · simp [hl]
    · simp [e]

theorem runL_slot (L : Nat → Bool) (t : Nat) : ∀ (es : List Ent) (k : Nat) (s : List A) (h : H), (runL L k es s h).1[t]? = loc (uS t) L k es s[t]?
  | [], _, _, _ => rfl
  | e :: es, k, s, h => by
    simp only [runL, loc]
    cases hL : L k with
    | true => simp only [if_true]; rw [runL_slot L t es, aPut_get]; rfl
    | false => simp only [Bool.false_eq_true, if_false]; exact runL_slot L t es _ _ _

theorem runL_mem (L : Nat → Bool) (id : Nat) : ∀ (es : List Ent) (k : Nat) (s : List A) (h : H), (runL L k es s h).2[id]? = loc (uW id) L k es h[id]?
  | [], _, _, _ => rfl
  | e :: es, k, s, h => by
    simp only [runL, loc]
    cases hL : L k with
    | true => simp only [if_true]; rw [runL_mem L id es, putW_get]; rfl
    | false => simp only [Bool.false_eq_true, if_false]; exact runL_mem L id es _ _ _

theorem runL_congr {L L' : Nat → Bool} : ∀ (es : List Ent) (k : Nat) (s : List A) (h : H), (∀ j, j < es.length → L (k + j) = L' (k + j)) → runL L k es s h = runL L' k es s h
  | [], _, _, _, _ => rfl
  | e :: es, k, s, h, hl => by
    simp only [runL]
    have h0 := hl 0 (by simp)
    simp only [Nat.add_zero] at h0
    rw [h0]
    have ih := fun s h => runL_congr (L := L) (L' := L') es (k + 1) s h fun j hj => by
      have := hl (j + 1) (by simpa using hj)
      rw [show k + (j + 1) = k + 1 + j from by omega] at this
      exact this
    rw [ih, ih]

/-! ### the run in the order of the text -/

def Trace (E : Env) (call : CallF) (thaw : List Nat) (ops : List Oper) : List Oper → List Ent → List A → H → Prop
  | [], [], _, _ => True
  | o :: os, e :: es, s, h => e.dst = o.dst ∧ stepAt E call thaw ops e.base e.k o s h = some (e.a, e.wr, e.fp) ∧ Trace E call thaw ops os es (aPut s e.dst e.a) (putW e.wr h)
  | _, _, _, _ => False

theorem trace_at {E : Env} {call : CallF} {thaw : List Nat} {ops : List Oper} : ∀ (os : List Oper) (es : List Ent) (k : Nat) (s : List A) (h : H), Trace E call thaw ops os es s h →
    os.length = es.length ∧ ∀ (i : Nat) (o : Oper), os[i]? = some o → ∃ e, es[i]? = some e ∧ e.dst = o.dst ∧
      stepAt E call thaw ops e.base e.k o (runL (fun j => decide (j < k + i)) k es s h).1 (runL (fun j => decide (j < k + i)) k es s h).2 = some (e.a, e.wr, e.fp)
  | [], [], _, _, _, _ => ⟨rfl, fun i o h => by simp at h⟩
  | [], _ :: _, _, _, _, h => h.elim
  | _ :: _, [], _, _, _, h => h.elim
  | o :: os, e :: es, k, s, h, ht => by
    obtain ⟨hd, hst, ht⟩ := ht
    obtain ⟨hl, ih⟩ := trace_at os es (k + 1) _ _ ht
    refine ⟨by simp [hl], fun i o' ho => ?_⟩
    cases i with
    | zero =>
      simp only [List.getElem?_cons_zero, Option.some.injEq] at ho
      subst ho
      refine ⟨e, rfl, hd, ?_⟩
      have : runL (fun j => decide (j < k + 0)) k (e :: es) s h = (s, h) := by
        rw [runL_congr (L' := fun _ => false) _ _ _ _ fun j _ => by simp]
        have non : ∀ (es : List Ent) (k : Nat), runL (fun _ => false) k es s h = (s, h) := by
          intro es
          induction es with
          | nil => intro k; rfl
          | cons e es ih => intro k; simp only [runL]; exact ih _
        exact non _ _
      rw [this]
      exact hst
    | succ i =>
      obtain ⟨e', he', hd', hst'⟩ := ih i o' (by simpa using ho)
      refine ⟨e', by simpa using he', hd', ?_⟩
      have hlt : decide (k < k + (i + 1)) = true := by simp
      simp only [runL, hlt, if_true]
      rw [show k + (i + 1) = k + 1 + i from by omega]
      exact hst'

/-! ### the bits -/

theorem mask_bits (acc : List Nat) (j : Nat) : ∀ (es : List Edge) (s0 : Nat), (es.foldl (fun s e => if Region.binds .any e then s ||| 2 ^ e.on ||| acc.getD e.on 0 else s) s0).testBit j = true →
    s0.testBit j = true ∨ ∃ e ∈ es, Region.binds .any e = true ∧ (j = e.on ∨ (acc.getD e.on 0).testBit j = true)
  | [], s0, h => .inl h
  | e :: es, s0, h => by
    simp only [List.foldl_cons] at h
    rcases mask_bits acc j es _ h with h1 | ⟨e', he', h2⟩
    · split at h1
      · rename_i hb
        simp only [Nat.testBit_or, Bool.or_eq_true, Nat.testBit_two_pow, decide_eq_true_eq] at h1
        rcases h1 with (h1 | h1) | h1
        · exact .inl h1
        · exact .inr ⟨e, by simp, hb, .inl h1.symm⟩
        · exact .inr ⟨e, by simp, hb, .inr h1⟩
      · exact .inl h1
    · exact .inr ⟨e', by simp [he'], h2⟩

/-- What comes before is on the list. -/
def Heeds (ops : List Oper) (L : Nat → Bool) (m : Nat) : Prop := ∀ o, ops[m]? = some o → ∀ e ∈ o.after, Region.binds .any e = true → L e.on = true

theorem masks_spec {ops : List Oper} {L : Nat → Bool} (hL : ∀ m, L m = true → Heeds ops L m) : ∀ (os : List Oper) (acc : List Nat), (∀ j, os[j]? = ops[acc.length + j]?) →
    (∀ m j, (acc.getD m 0).testBit j = true → Heeds ops L m → L j = true) → ∀ m j, ((masks os acc).getD m 0).testBit j = true → Heeds ops L m → L j = true
  | [], acc, _, h => by simpa only [masks] using h
  | o :: os, acc, hops, h => by
    simp only [masks]
    refine masks_spec hL os _ (fun j => by have := hops (j + 1); simp only [List.getElem?_cons_succ] at this; rw [this]; congr 1; simp; omega) fun m j hb hm => ?_
    rw [List.getD_eq_getElem?_getD] at hb
    by_cases hlt : m < acc.length
    · rw [List.getElem?_append_left hlt, ← List.getD_eq_getElem?_getD] at hb
      exact h m j hb hm
    · by_cases he : m = acc.length
      · subst he
        simp only [List.getElem?_concat_length, Option.getD_some] at hb
        have ho : ops[acc.length]? = some o := by have := hops 0; simp at this; exact this.symm
        rcases mask_bits acc j _ _ hb with h0 | ⟨e, hem, hbd, h1⟩
        · simp at h0
        · have hon := hm o ho e (by simpa using hem) hbd
          rcases h1 with rfl | h1
          · exact hon
          · exact h e.on j h1 (hL e.on hon)
      · rw [List.getElem?_eq_none (by simp; omega)] at hb
        simp at hb

/-! ### the order of the text is an order -/

theorem lex_spec {ops : Array Oper} : ∀ (fuel k : Nat) (listed : Array Bool), listed.size = ops.size → k + fuel = ops.size → (∀ j, j < ops.size → ∀ d, listed.getD j d = decide (j < k)) → Region.lexFrom .any ops fuel k listed = true →
    ∀ m o, k ≤ m → ops[m]? = some o → (∀ e ∈ o.after, Region.binds .any e = true → e.on < m) ∧ ∀ j oj, m < j → ops[j]? = some oj → (∀ e ∈ oj.after, Region.binds .any e = true → e.on ≠ m) → o.apart ops oj = true
  | 0, k, listed, hs, hk, _, _ => by
    intro m o hm ho
    have := (Array.getElem?_eq_some_iff.1 ho).1
    omega
  | fuel + 1, k, listed, hs, hk, hl, h => by
    simp only [Region.lexFrom, Bool.and_eq_true] at h
    obtain ⟨⟨h1, h2⟩, h3⟩ := h
    intro m o hm ho
    have hkn : k < ops.size := by omega
    by_cases he : m = k
    · subst he
      have hr : m ∈ Region.ready .any ops listed := by simpa using h1
      obtain ⟨_, o', ho', hall⟩ := mem_ready.1 hr
      rw [ho] at ho'; cases ho'
      refine ⟨fun e hem hb => ?_, fun j oj hj hoj hno => ?_⟩
      · have h4 := hall e hem hb
        have hlt : e.on < ops.size := by
          rcases Nat.lt_or_ge e.on listed.size with h5 | h5
          · omega
          · simp [Array.getElem?_eq_none h5] at h4
        rw [hl _ hlt] at h4
        simpa using h4
      · refine Region.free_spec ho h2 j oj hoj (by omega) ?_ hno
        rw [hl j (Array.getElem?_eq_some_iff.1 hoj).1]
        simp; omega
    · refine lex_spec fuel (k + 1) _ (by simpa using hs) (by omega) (fun j hj d => ?_) h3 m o (by omega) ho
      by_cases e : k = j
      · subst e
        simp [hs, hkn]
      · rw [getD_set_ne d e, hl j hj]
        by_cases hjk : j < k
        · simp [hjk]; omega
        · simp [hjk]; omega

end Ev
end Go.Proofs.Ytidobgmklcbcpaa
