/-
  Regions that draw their order: what is owed of them is so.
-/
import Derived.Test.YtidobgmklcbcpaaEvDraw2
namespace Go.Proofs.Ytidobgmklcbcpaa
namespace Ev

section
variable {E : Env} {call : CallF} {thaw : List Nat}

/-- A region that was run in the order of the text. -/
structure Ran (E : Env) (call : CallF) (thaw : List Nat) (ops : Array Oper) (es : List Ent) (s : List A) (h : H) : Prop where
  len : es.length = ops.size
  at' : ∀ (i : Nat) (o : Oper), ops[i]? = some o → ∃ e, es[i]? = some e ∧ e.dst = o.dst ∧
      stepAt E call thaw ops.toList e.base e.k o (runL (fun j => decide (j < i)) 0 es s h).1 (runL (fun j => decide (j < i)) 0 es s h).2 = some (e.a, e.wr, e.fp)
  lex : ∀ m o, ops[m]? = some o → (∀ e ∈ o.after, Region.binds .any e = true → e.on < m) ∧ ∀ j oj, m < j → ops[j]? = some oj → (∀ e ∈ oj.after, Region.binds .any e = true → e.on ≠ m) → o.apart ops oj = true
  mem : ∀ i j ei ej, i < j → es[i]? = some ei → es[j]? = some ej → clash ei.fp ej.fp = true → ((masks ops.toList []).getD j 0).testBit i = true

theorem heeds_masks {ops : Array Oper} {L : Nat → Bool} (hL : ∀ m, L m = true → Heeds ops.toList L m) {m j : Nat} (hb : ((masks ops.toList []).getD m 0).testBit j = true) (hm : Heeds ops.toList L m) : L j = true :=
  masks_spec hL ops.toList [] (fun j => by simp) (fun m j h => by simp at h) m j hb hm

theorem clash_of {a b : Foot} {i : Nat} (ha : i ∈ a.ids) (hb : i ∈ b.ids) (hr : a.ro = false ∨ b.ro = false) : clash a b = true := by
  simp only [clash, Bool.and_eq_true, Bool.not_eq_true', Bool.and_eq_false_iff, List.any_eq_true, List.contains_iff_mem]
  exact ⟨hr, i, ha, hb⟩

/-- An operation whose turn may be now does what it does in the order of the text. -/
theorem ran_ready {ops : Array Oper} {es : List Ent} {s : List A} {h : H} (R : Ran E call thaw ops es s h) {L : Nat → Bool} (hL : ∀ m, L m = true → Heeds ops.toList L m) {i : Nat} {o : Oper} (ho : ops[i]? = some o) (hi : L i = false) (hh : Heeds ops.toList L i) :
    ∃ e, es[i]? = some e ∧ e.dst = o.dst ∧ stepAt E call thaw ops.toList e.base e.k o (runL L 0 es s h).1 (runL L 0 es s h).2 = some (e.a, e.wr, e.fp) ∧
      runL (fun j => j == i || L j) 0 es s h = (aPut (runL L 0 es s h).1 o.dst e.a, putW e.wr (runL L 0 es s h).2) := by
  obtain ⟨e, he, hd, hst⟩ := R.at' i o ho
  have hw := stepAt_writes hst
  have opAt : ∀ (j : Nat) (e' : Ent), es[j]? = some e' → ∃ o', ops[j]? = some o' ∧ e'.dst = o'.dst ∧ (e'.fp.ro = true → e'.wr = []) ∧ ∀ id ∈ e'.wr.map (·.1), id ∈ e'.fp.ids := by
    intro j e' hj
    have hlt : j < ops.size := by rw [← R.len]; exact (List.getElem?_eq_some_iff.1 hj).1
    obtain ⟨e2, he2, hd2, hst2⟩ := R.at' j ops[j] (by simp [hlt])
    rw [hj] at he2; cases he2
    exact ⟨ops[j], by simp [hlt], hd2, stepAt_writes hst2⟩
  -- what comes before and is not apart is on the list; what comes later and is not apart is not
  have before : ∀ (j : Nat) (oj : Oper), j < i → ops[j]? = some oj → (¬ (oj.apart ops o = true)) → L j = true := by
    intro j oj hj hoj hna
    by_cases hx : ∀ e ∈ o.after, Region.binds .any e = true → e.on ≠ j
    · exact absurd ((R.lex j oj hoj).2 i o hj ho hx) hna
    · obtain ⟨e', hx⟩ := Classical.not_forall.1 hx
      have : e' ∈ o.after ∧ Region.binds .any e' = true ∧ e'.on = j := by
        refine ⟨Classical.byContradiction fun h1 => hx fun h2 => absurd h2 h1, Classical.byContradiction fun h1 => hx fun _ h2 => absurd h2 h1, Classical.byContradiction fun h1 => hx fun _ _ => h1⟩
      rw [← this.2.2]
      exact hh o (by simpa using ho) e' this.1 this.2.1
  have later : ∀ (j : Nat) (oj : Oper), i < j → ops[j]? = some oj → (¬ (o.apart ops oj = true)) → L j = false := by
    intro j oj hj hoj hna
    cases hlj : L j with
    | false => rfl
    | true =>
      exfalso
      by_cases hx : ∀ e ∈ oj.after, Region.binds .any e = true → e.on ≠ i
      · exact hna ((R.lex i o ho).2 j oj hj hoj hx)
      · obtain ⟨e', hx⟩ := Classical.not_forall.1 hx
        have h3 : e' ∈ oj.after ∧ Region.binds .any e' = true ∧ e'.on = i := by
          refine ⟨Classical.byContradiction fun h1 => hx fun h2 => absurd h2 h1, Classical.byContradiction fun h1 => hx fun _ h2 => absurd h2 h1, Classical.byContradiction fun h1 => hx fun _ _ => h1⟩
        have := hL j hlj oj (by simpa using hoj) e' h3.1 h3.2.1
        rw [h3.2.2, hi] at this
        cases this
  have mbefore : ∀ (j : Nat) (e' : Ent), j < i → es[j]? = some e' → clash e'.fp e.fp = true → L j = true := fun j e' hj he' hc =>
    heeds_masks hL (R.mem j i e' e hj he' he hc) hh
  have mlater : ∀ (j : Nat) (e' : Ent), i < j → es[j]? = some e' → clash e.fp e'.fp = true → L j = false := by
    intro j e' hj he' hc
    cases hlj : L j with
    | false => rfl
    | true =>
      have := heeds_masks hL (R.mem i j e e' hj he he' hc) (hL j hlj)
      rw [hi] at this; cases this
  have nonro : ∀ (e' : Ent), (e'.fp.ro = true → e'.wr = []) → ∀ id ∈ e'.wr.map (·.1), e'.fp.ro = false := by
    intro e' h1 id hid
    cases hr : e'.fp.ro with
    | false => rfl
    | true => rw [h1 hr] at hid; simp at hid
  refine ⟨e, he, hd, stepAt_same hst (fun t ht => ?_) (fun id hid => ?_), Prod.ext (List.ext_getElem? fun t => ?_) (List.ext_getElem? fun id => ?_)⟩
  · rw [runL_slot, runL_slot]
    refine loc_agree (uS_out t) es 0 _ fun j e' hj hm => ?_
    simp only [Nat.zero_add]
    simp only [mS, decide_eq_true_eq] at hm
    obtain ⟨o', ho', hd', _⟩ := opAt j e' hj
    rw [hd'] at hm
    have ht : t ∈ o.looksAt ops := by simpa using ht
    rcases Nat.lt_trichotomy j i with h1 | h1 | h1
    · rw [before j o' h1 ho' fun hap => (Oper.apart_spec hap).1 t hm ht]; simp [h1]
    · subst h1; rw [hi]; simp
    · rw [later j o' h1 ho' fun hap => (Oper.apart_spec hap).2.2 t hm ht]; simp; omega
  · rw [runL_mem, runL_mem]
    refine loc_agree (uW_out id) es 0 _ fun j e' hj hm => ?_
    simp only [Nat.zero_add]
    simp only [mW, List.contains_iff_mem] at hm
    obtain ⟨o', ho', hd', hw1, hw2⟩ := opAt j e' hj
    have hro := nonro e' hw1 id hm
    rcases Nat.lt_trichotomy j i with h1 | h1 | h1
    · rw [mbefore j e' h1 hj (clash_of (hw2 id hm) hid (.inl hro))]; simp [h1]
    · subst h1; rw [hi]; simp
    · rw [mlater j e' h1 hj (clash_of hid (hw2 id hm) (.inr hro))]; simp; omega
  · simp only []
    rw [aPut_get, runL_slot, runL_slot]
    have := loc_insert (uS_out t) (L := L) (e := e) es 0 i s[t]? he (by simpa using hi) (fun j e' hj he' h1 h2 => by
      simp only [Nat.zero_add]
      simp only [mS, decide_eq_true_eq] at h1 h2
      obtain ⟨o', ho', hd', _⟩ := opAt j e' he'
      exact later j o' hj ho' fun hap => (Oper.apart_spec hap).2.1 t (by rw [← hd]; exact h1) (by rw [← hd']; exact h2))
    simp only [Nat.zero_add] at this
    rw [this]
    simp only [uS, hd]
  · simp only []
    rw [putW_get, runL_mem, runL_mem]
    have := loc_insert (uW_out id) (L := L) (e := e) es 0 i h[id]? he (by simpa using hi) (fun j e' hj he' h1 h2 => by
      simp only [Nat.zero_add]
      simp only [mW, List.contains_iff_mem] at h1 h2
      obtain ⟨o', ho', hd', hw1, hw2⟩ := opAt j e' he'
      exact mlater j e' hj he' (clash_of (hw.2 id h1) (hw2 id h2) (.inr (nonro e' hw1 id h2))))
    simp only [Nat.zero_add] at this
    rw [this]
    rfl

/-- How many have not come up. -/
def open' (n : Nat) (listed : Array Bool) : Nat := (List.range n).countP fun i => !listed.getD i false

theorem countP_lt {p q : Nat → Bool} : ∀ (l : List Nat) (i : Nat), i ∈ l → p i = true → q i = false → (∀ j, q j = true → p j = true) → l.countP q < l.countP p
  | [], i, h, _, _, _ => by simp at h
  | x :: l, i, h, hp, hq, hpq => by
    rw [List.countP_cons, List.countP_cons]
    have hle : l.countP q ≤ l.countP p := List.countP_mono_left fun j _ hj => hpq j hj
    rcases List.mem_cons.1 h with rfl | h
    · rw [hp, hq]; simp; omega
    · have := countP_lt l i h hp hq hpq
      cases hqx : q x with
      | false => simp; split <;> omega
      | true => rw [hpq x hqx]; simp; omega

theorem any_ok (hE : EnvOK E) (hc : CallOK E.P call) {ops : Array Oper} {es : List Ent} {s : List A} {h : H} {ρ0 : Rho} {w0 : World} {I0 : Nat → Prop} {act0 : Act} (R : Ran E call thaw ops es s h) {Q : Exit → Act → World → Prop}
    (hQ : ∀ act' ρ' w' I', Step h ρ0 w0 I0 (runL (fun _ => true) 0 es s h).2 ρ' w' I' → ARv (runL (fun _ => true) 0 es s h).2 ρ' w' I' (runL (fun _ => true) 0 es s h).1 act'.tmps.toList → act'.defers = act0.defers → Q .normal act' w') :
    ∀ (fuel : Nat) (listed : Array Bool) (act : Act) (ρ : Rho) (w : World) (I : Nat → Prop), listed.size = ops.size → (∀ m, listed.getD m false = true → Heeds ops.toList (fun j => listed.getD j false) m) → open' ops.size listed ≤ fuel →
      Step h ρ0 w0 I0 (runL (fun j => listed.getD j false) 0 es s h).2 ρ w I → ARv (runL (fun j => listed.getD j false) 0 es s h).2 ρ w I (runL (fun j => listed.getD j false) 0 es s h).1 act.tmps.toList → act.defers = act0.defers →
      wpAny E.P .any ops Q fuel listed act w := by
  have fin : ∀ (listed : Array Bool) (act : Act) (ρ : Rho) (w : World) (I : Nat → Prop), listed.size = ops.size → Region.ready .any ops listed = [] →
      Step h ρ0 w0 I0 (runL (fun j => listed.getD j false) 0 es s h).2 ρ w I → ARv (runL (fun j => listed.getD j false) 0 es s h).2 ρ w I (runL (fun j => listed.getD j false) 0 es s h).1 act.tmps.toList → act.defers = act0.defers → Q .normal act w := by
    intro listed act ρ w I hs hr st hsl hd
    have all : ∀ n, n ≤ ops.size → ∀ j, j < n → listed.getD j false = true := by
      intro n
      induction n with
      | zero => intro _ j hj; omega
      | succ n ih =>
        intro hn j hj
        by_cases hjn : j < n
        · exact ih (by omega) j hjn
        · have : j = n := by omega
          subst this
          cases hl : listed.getD j false with
          | true => rfl
          | false =>
            exfalso
            have hmem : j ∈ Region.ready .any ops listed := mem_ready.2 ⟨by
              have hlt : j < listed.size := by omega
              simp only [Array.getD_eq_getD_getElem?, Array.getElem?_eq_getElem hlt, Option.getD_some] at hl ⊢
              exact hl, ops[j], by simp, fun e he hb => ih (by omega) e.on ((R.lex j ops[j] (by simp)).1 e he hb)⟩
            rw [hr] at hmem
            cases hmem
    have : runL (fun j => listed.getD j false) 0 es s h = runL (fun _ => true) 0 es s h := runL_congr es 0 s h fun j hj => by
      simp only [Nat.zero_add]
      exact all ops.size (Nat.le_refl _) j (by rw [← R.len]; exact hj)
    rw [this] at st hsl
    exact hQ act ρ w I st hsl hd
  intro fuel
  induction fuel with
  | zero =>
    intro listed act ρ w I hs hdc ho st hsl hd
    have hr : Region.ready .any ops listed = [] := by
      apply List.eq_nil_iff_forall_not_mem.2
      intro j hj
      obtain ⟨h0, o, hoj, _⟩ := mem_ready.1 hj
      have hlt := (Array.getElem?_eq_some_iff.1 hoj).1
      have hz : open' ops.size listed = 0 := by omega
      unfold open' at hz
      rw [List.countP_eq_zero] at hz
      have := hz j (List.mem_range.2 hlt)
      have hlt' : j < listed.size := by omega
      simp only [Array.getD_eq_getD_getElem?, Array.getElem?_eq_getElem hlt', Option.getD_some] at this h0
      rw [h0] at this
      simp at this
    exact ⟨hr, fin listed act ρ w I hs hr st hsl hd⟩
  | succ fuel ih =>
    intro listed act ρ w I hs hdc ho st hsl hd
    refine ⟨fun hr => fin listed act ρ w I hs hr st hsl hd, fun i hi => ?_⟩
    obtain ⟨h0, o, hoi, hedges⟩ := mem_ready.1 hi
    have hlt := (Array.getElem?_eq_some_iff.1 hoi).1
    have hli : listed.getD i false = false := by
      have hlt' : i < listed.size := by omega
      simp only [Array.getD_eq_getD_getElem?, Array.getElem?_eq_getElem hlt', Option.getD_some] at h0 ⊢
      exact h0
    have hheed : Heeds ops.toList (fun j => listed.getD j false) i := fun o' ho' e he hb => by
      have : o' = o := by
        have : ops[i]? = some o' := by simpa using ho'
        rw [hoi] at this; cases this; rfl
      subst this
      exact hedges e he hb
    obtain ⟨e, he, hde, hst, hrun⟩ := ran_ready R hdc hoi hli hheed
    have newL : ∀ j, (listed.setIfInBounds i true).getD j false = (j == i || listed.getD j false) := by
      intro j
      by_cases hji : j = i
      · subst hji
        simp [hs, hlt]
      · rw [getD_set_ne false (Ne.symm hji)]
        simp [hji]
    have hL' : (fun j => (listed.setIfInBounds i true).getD j false) = fun j => (j == i || listed.getD j false) := funext newL
    unfold wpOp
    simp only [hoi]
    have key := stepAt_ok hE hc hst st.rel hsl (wpAny E.P .any ops Q fuel (listed.setIfInBounds i true)) Q fun act' ρ' w' I' s1 hs1 hd1 => by
      refine ih _ act' ρ' w' I' (by simpa using hs) (fun m hm => ?_) ?_ ?_ ?_ (hd1.trans hd)
      · rw [hL']
        intro o' ho' e' he' hb'
        rw [newL] at hm
        simp only [Bool.or_eq_true, beq_iff_eq] at hm ⊢
        rcases hm with rfl | hm
        · exact .inr (hheed o' ho' e' he' hb')
        · exact .inr (hdc m hm o' ho' e' he' hb')
      · have : open' ops.size (listed.setIfInBounds i true) < open' ops.size listed := by
          unfold open'
          refine countP_lt _ i (List.mem_range.2 hlt) (by simp only [hli]; rfl) (by simp only [newL]; simp) fun j hj => ?_
          simp only [newL] at hj
          simp only [Bool.not_eq_true', Bool.or_eq_false_iff] at hj ⊢
          exact hj.2
        omega
      · rw [hL', hrun]
        exact st.trans s1
      · rw [hL', hrun]
        exact hs1
    have htl : ops.toList.toArray = ops := by simp
    rw [htl] at key
    split
    · rename_i hw
      rw [if_pos hw] at key
      exact .inl key
    · rename_i hw
      rw [if_neg hw] at key
      exact key

/-! ### from the evaluator -/

def voids (n : Nat) : H := List.replicate n .void

theorem back_eq (ord : List Nat) (base n : Nat) : back ord base n = fun (j : Nat) => (ord ++ List.range' base (n - ord.length))[j]? := by
  funext j
  unfold back
  split
  · rename_i h; rw [List.getElem?_append_left h]
  · rename_i h
    rw [List.getElem?_append_right (by omega)]
    split
    · rename_i h2
      rw [List.getElem?_range' (by omega)]
      simp
    · rename_i h2
      rw [List.getElem?_eq_none (by simp; omega)]

theorem putW_new (f : Nat → Option Nat) : ∀ (rest : H) (h : H) (y : Nat), putW ((List.range' h.length rest.length).zip (rest.map (mapO f))) (h ++ voids (rest.length + y)) = h ++ rest.map (mapO f) ++ voids y
  | [], h, y => by simp [putW]
  | o :: rest, h, y => by
    have ih := putW_new f rest (h ++ [mapO f o]) y
    simp only [List.length_cons, List.range'_succ, List.map_cons, List.zip_cons_cons, putW]
    have : (h ++ voids (rest.length + 1 + y)).set h.length (mapO f o) = (h ++ [mapO f o]) ++ voids (rest.length + y) := by
      rw [show rest.length + 1 + y = (rest.length + y) + 1 from by omega]
      simp [voids, List.replicate_succ]
    rw [this]
    simp only [List.length_append, List.length_cons, List.length_nil, Nat.zero_add] at ih
    rw [ih]
    simp

theorem putW_back (f : Nat → Option Nat) : ∀ (ord : List Nat) (h h1 : H) (y : Nat), (∀ i ∈ ord, i < h.length) → ord.length ≤ h1.length →
    putW ((ord ++ List.range' h.length (h1.length - ord.length)).zip (h1.map (mapO f))) (h ++ voids (h1.length - ord.length + y)) = putBack f h ord h1 ++ voids y
  | [], h, h1, y, _, _ => by
    simp only [putBack, List.nil_append, List.length_nil, Nat.sub_zero]
    exact putW_new f h1 h y
  | i :: ord, h, [], y, _, hl => by simp at hl
  | i :: ord, h, o :: h1, y, hi, hl => by
    simp only [List.length_cons, Nat.add_sub_add_right, List.cons_append, List.map_cons, List.zip_cons_cons, putW, putBack]
    have hlt := hi i (by simp)
    have := putW_back f ord (h.set i (mapO f o)) h1 y (fun j hj => by simpa using hi j (by simp [hj])) (by simpa using hl)
    rw [List.set_append_left _ _ hlt]
    simpa using this

theorem get_voids {h : H} {n i : Nat} (hi : i < h.length) : (h ++ voids n)[i]? = h[i]? := List.getElem?_append_left hi

theorem evStepD_at {ops : List Oper} {o : Oper} {s s1 : List A} {h h1 : H} {c : Foot} (he : evStepD E call thaw ops o s h = some (s1, h1, c)) :
    ∃ k a W, h1.length = h.length + k ∧ s1 = aPut s o.dst a ∧ ∀ y, stepAt E call thaw ops h.length k o s (h ++ voids (k + y)) = some (a, W, c) ∧ putW W (h ++ voids (k + y)) = h1 ++ voids y := by
  unfold evStepD at he
  split at he
  · rename_i hw
    split at he
    · rename_i vs hvs
      split at he
      · rename_i hp
        split at he
        · rename_i a h2 hop
          cases he
          refine ⟨0, a, [], by simp, rfl, fun y => ⟨?_, by simp [putW]⟩⟩
          unfold stepAt
          simp only [hw, hvs, hp, if_true]
          rw [pure_same hp h, hop]
          rfl
        · cases he
      · rename_i hp
        split at he
        · rename_i a h' ord k hop
          unfold evOpF at hop
          simp only [] at hop
          split at hop
          · rename_i a1 h2 hop1
            split at hop
            · rename_i hcond
              obtain ⟨hlen, hcl⟩ := hcond
              simp only [Option.some.injEq, Prod.mk.injEq] at hop
              obtain ⟨rfl, rfl, rfl, rfl⟩ := hop
              have hl := reach_lt fuelR h (idsL vs) [] (by simp)
              have hb := closed_box hcl
              have big : ∀ n, stepAt E call thaw ops h.length (h2.length - (reach fuelR h (idsL vs) []).length) o s (h ++ voids (h2.length - (reach fuelR h (idsL vs) []).length + n)) =
                  (if readOp E o.op vs && (h2.length - (reach fuelR h (idsL vs) []).length) == 0 then some (mapA (fun (j : Nat) => (reach fuelR h (idsL vs) [])[j]?) a1, [], { ids := reach fuelR h (idsL vs) [], ro := true })
                    else some (mapA (fun (j : Nat) => (reach fuelR h (idsL vs) [] ++ List.range' h.length (h2.length - (reach fuelR h (idsL vs) []).length))[j]?) a1, (reach fuelR h (idsL vs) [] ++ List.range' h.length (h2.length - (reach fuelR h (idsL vs) []).length)).zip (h2.map (mapO (fun (j : Nat) => (reach fuelR h (idsL vs) [] ++ List.range' h.length (h2.length - (reach fuelR h (idsL vs) []).length))[j]?))), { ids := reach fuelR h (idsL vs) [] ++ List.range' h.length (h2.length - (reach fuelR h (idsL vs) []).length), ro := false })) := by
                intro n
                have hsm : ∀ i ∈ reach fuelR h (idsL vs) [], h[i]? = (h ++ voids (h2.length - (reach fuelR h (idsL vs) []).length + n))[i]? := fun i hi => (get_voids (hl i hi)).symm
                unfold stepAt
                simp only [hw, hvs, hp]
                rw [reach_same hsm hb.2 fuelR _ [] hb.1]
                unfold stepMem
                rw [pack_same hsm, closed_same hsm, hop1]
                have hv : (List.range' h.length (h2.length - (reach fuelR h (idsL vs) []).length)).all (isVoid (h ++ voids (h2.length - (reach fuelR h (idsL vs) []).length + n))) = true := by
                  rw [List.all_eq_true]
                  intro i hi
                  rw [isVoid_iff]
                  rw [List.mem_range'_1] at hi
                  rw [List.getElem?_append_right hi.1]
                  unfold voids
                  rw [List.getElem?_replicate_of_lt (by omega)]
                have hd : decide (h2.length = (reach fuelR h (idsL vs) []).length + (h2.length - (reach fuelR h (idsL vs) []).length)) = true := by simp; omega
                simp only [hd, hcl, hv, Bool.and_self, if_true, Bool.false_eq_true, if_false]
              split at he
              · rename_i hro
                cases he
                have hk : h2.length - (reach fuelR h (idsL vs) []).length = 0 := by
                  simp only [Bool.and_eq_true, beq_iff_eq] at hro; exact hro.2
                refine ⟨0, _, [], by simp, rfl, fun y => ⟨?_, by simp [putW]⟩⟩
                have := big y
                rw [if_pos hro, hk] at this
                rw [this, back_eq, hk]
                simp
              · rename_i hro
                cases he
                refine ⟨h2.length - (reach fuelR h (idsL vs) []).length, _, _, ?_, rfl, fun y => ⟨by rw [big y, if_neg hro, back_eq], ?_⟩⟩
                · have h3 := putW_back (back (reach fuelR h (idsL vs) []) h.length h2.length) (reach fuelR h (idsL vs) []) h h2 0 hl hlen
                  have h4 := congrArg List.length h3
                  rw [putW_length] at h4
                  simp [voids] at h4
                  omega
                · have h3 := putW_back (back (reach fuelR h (idsL vs) []) h.length h2.length) (reach fuelR h (idsL vs) []) h h2 y hl hlen
                  rw [back_eq] at h3 ⊢
                  exact h3
            · cases hop
          · cases hop
        · cases he
    · cases he
  · rename_i hw
    cases he
    refine ⟨0, .d .undef, [], by simp, rfl, fun y => ⟨?_, by simp [putW]⟩⟩
    unfold stepAt
    simp only [hw]
  · cases he

theorem trace_of {ops : List Oper} : ∀ (rest : List Oper) (s s' : List A) (h h' : H) (cs : List Foot), evOpsD E call thaw ops rest s h = some (s', h', cs) →
    ∃ K, ∀ x, ∃ es, Trace E call thaw ops rest es s (h ++ voids (K + x)) ∧ es.map (·.fp) = cs ∧ ∀ k, runL (fun _ => true) k es s (h ++ voids (K + x)) = (s', h' ++ voids x)
  | [], s, s', h, h', cs, he => by
    simp only [evOpsD, Option.some.injEq, Prod.mk.injEq] at he
    obtain ⟨rfl, rfl, rfl⟩ := he
    exact ⟨0, fun x => ⟨[], trivial, rfl, fun k => by simp [runL]⟩⟩
  | o :: rest, s, s', h, h', cs, he => by
    simp only [evOpsD] at he
    split at he
    · rename_i s1 h1 c hst
      split at he
      · rename_i s2 h2 cs2 hrest
        cases he
        obtain ⟨k, a, W, hlen, rfl, hat⟩ := evStepD_at hst
        obtain ⟨K, hK⟩ := trace_of rest _ _ _ _ _ hrest
        refine ⟨k + K, fun x => ?_⟩
        obtain ⟨es, ht, hc, hr⟩ := hK x
        obtain ⟨ha1, ha2⟩ := hat (K + x)
        rw [show k + K + x = k + (K + x) from by omega]
        refine ⟨⟨o.dst, h.length, k, a, W, c⟩ :: es, ⟨rfl, ha1, by rw [ha2]; exact ht⟩, by simp [hc], fun n => ?_⟩
        simp only [runL, if_true]
        rw [ha2]
        exact hr (n + 1)
      · cases he
    · cases he

theorem step_voids {h : H} {ρ : Rho} {w : World} {I : Nat → Prop} (r : Rel h ρ w I) : ∀ n, ∃ ρ', Step h ρ w I (h ++ voids n) ρ' w I
  | 0 => ⟨ρ, by simpa [voids] using Step.refl r⟩
  | n + 1 => by
    obtain ⟨ρ', s⟩ := step_voids r n
    have s1 := step_push s.rel (Grew.refl w) .void none (by simp) (fun _ => by simp [OR])
    have e : h ++ voids (n + 1) = h ++ voids n ++ [.void] := by simp [voids, List.replicate_succ']
    rw [e]
    exact ⟨_, s.trans s1⟩

theorem draw_ok (hE : EnvOK E) (hc : CallOK E.P call) : DrawOK E call := by
  intro id thaw ops s s' h h' he ρ w I act r hs Q hQ
  simp only [evRegion, if_true] at he
  split at he
  · rename_i s1 h1 cs hrun
    split at he
    · rename_i hcond
      cases he
      simp only [Bool.and_eq_true] at hcond
      obtain ⟨hlex, hclash⟩ := hcond
      obtain ⟨K, hK⟩ := trace_of _ _ _ _ _ _ hrun
      obtain ⟨es, ht, hcs, hr⟩ := hK 0
      have hr := hr 0
      simp only [Nat.add_zero] at ht hr
      obtain ⟨hlen, hat⟩ := trace_at _ _ 0 _ _ ht
      have hlen' : es.length = ops.size := by rw [← hlen]; simp
      simp only [Region.lexB, Bool.and_eq_true] at hlex
      have R : Ran E call thaw ops es s (h ++ voids K) := by
        refine ⟨hlen', fun i o ho => ?_, fun m o ho => ?_, fun i j ei ej hij hei hej hcl => ?_⟩
        · have := hat i o (by simpa using ho)
          simpa only [Nat.zero_add] using this
        · exact lex_spec ops.size 0 _ (by simp) (by omega) (fun j hj d => by simp [hj]) hlex.2 m o (Nat.zero_le _) ho
        · unfold clashFree at hclash
          simp only [List.all_eq_true, List.mem_range] at hclash
          have hcl' := hclash j (by rw [← hcs]; simpa using (List.getElem?_eq_some_iff.1 hej).1) i hij
          have g1 : cs.getD i {} = ei.fp := by rw [← hcs, List.getD_eq_getElem?_getD]; simp [hei]
          have g2 : cs.getD j {} = ej.fp := by rw [← hcs, List.getD_eq_getElem?_getD]; simp [hej]
          rw [g1, g2, hcl] at hcl'
          simpa using hcl'
      obtain ⟨ρ1, st⟩ := step_voids (r := (step_grew r (Grew.drew w)).rel) K
      have st0 := (step_grew r (Grew.drew w)).trans st
      refine wp_region_any hE.mixed ?_
      have non : ∀ (es : List Ent) (k : Nat) (s : List A) (h : H), runL (fun _ => false) k es s h = (s, h) := by
        intro es
        induction es with
        | nil => intro k s h; rfl
        | cons e es ih => intro k s h; simp only [runL]; exact ih _ _ _
      have hf : (fun j => (Array.replicate ops.size false).getD j false) = fun _ => false := by
        funext j
        simp only [Array.getD_eq_getD_getElem?, Array.getElem?_replicate]
        split <;> rfl
      refine any_ok hE hc (ρ0 := ρ1) (w0 := { w with drawn := w.drawn + 1 }) (I0 := I) (act0 := act) R (fun act' ρ' w' I' st' hs' hd' => ?_) ops.size _ act ρ1 _ I (by simp) (fun m hm => ?_) ?_ ?_ ?_ rfl
      · rw [hr] at st' hs'
        simp only [voids, List.replicate_zero, List.append_nil] at st' hs'
        exact hQ act' ρ' w' I' (st0.trans st') hs' hd'
      · have := congrFun hf m
        rw [this] at hm
        cases hm
      · exact Nat.le_trans List.countP_le_length (by simp)
      · rw [hf, non]
        exact .refl st.rel
      · rw [hf, non]
        exact ARv_ext st0.ext s _ hs
    · cases he
  · cases he

/-- **What the evaluator says of a call is so.** -/
theorem sound {E : Env} {L : Nat} (hE : EnvOK E) (hp : ∀ f g, E.prim f = some g → PrimOK E.P f g) (n : Nat) : CallOK E.P (evCall E L n) :=
  call_ok hE hp (fun _ hc => draw_ok hE hc) n

end

end Ev
end Go.Proofs.Ytidobgmklcbcpaa
