/-
  The steps that memory takes: a new object, an object turned; runs of loads and stores.
-/
import Derived.Test.YtppdfjdfjfoddaaEvRen
namespace Go.Proofs.Ytppdfjdfjfoddaa
namespace Ev
variable {G : Gnd}
def upd (ρ : Rho) (id : Nat) (rb : Option Nat) : Rho := fun k => if k = id then rb else ρ k
theorem upd_same (ρ : Rho) (id : Nat) (rb : Option Nat) : upd ρ id rb id = rb := by simp [upd]
theorem upd_other (ρ : Rho) {id k : Nat} (rb : Option Nat) (h : k ≠ id) : upd ρ id rb k = ρ k := by simp [upd, h]
structure Grew (w w' : World) : Prop where
 os : w'.os = w.os
 tape : w'.tape = w.tape
 output : w'.output = w.output
 size : w.heap.size ≤ w'.heap.size
 same : ∀ b, b < w.heap.size → w'.heap[b]? = w.heap[b]?
 drawn : w.drawn ≤ w'.drawn
theorem Grew.refl (w : World) : Grew w w := ⟨rfl, rfl, rfl, Nat.le_refl _, fun _ _ => rfl, Nat.le_refl _⟩
theorem Grew.drew (w : World) : Grew w { w with drawn := w.drawn + 1 } := ⟨rfl, rfl, rfl, Nat.le_refl _, fun _ _ => rfl, Nat.le_succ _⟩
theorem Grew.push (w : World) (o : Obj) : Grew w { w with heap := w.heap.push o } :=
 ⟨rfl, rfl, rfl, by simp, fun b hb => by simp only [Array.getElem?_push]; rw [if_neg (by omega)], Nat.le_refl _⟩
theorem Grew.trans {a b c : World} (x : Grew a b) (y : Grew b c) : Grew a c :=
 ⟨y.os.trans x.os, y.tape.trans x.tape, y.output.trans x.output, Nat.le_trans x.size y.size, fun k hk => (y.same k (Nat.lt_of_lt_of_le hk x.size)).trans (x.same k hk), Nat.le_trans x.drawn y.drawn⟩
theorem Grew.imm {h : H} {ρ : Rho} {w w' : World} {I : Nat → Prop} (r : Rel G h ρ w I) (g : Grew w w') : Imm w I w' I := fun b hb => ⟨hb, g.same b (r.imm b hb)⟩
theorem slOK_same {h h' : H} {ρ ρ' : Rho} {w w' : World} {I I' : Nat → Prop} {id : Nat} (hi : Imm w I w' I') (ho : h'[id]? = h[id]?) (hr : ρ' id = ρ id)
  (hb : ∀ b, ρ id = some b → (∃ o, h[id]? = some o ∧ live o) → w'.heap[b]? = w.heap[b]?) {gen off len : Nat} {a : Option Addr} {cap : Nat} (hs : slOK h ρ w I id gen off len a cap) : slOK h' ρ' w' I' id gen off len a cap := by
 unfold slOK at hs ⊢
 rw [ho]
 cases hid : h[id]? with
 | none => simp [hid] at hs
 | some o =>
  cases o with
  | arr cs e g =>
   simp only [hid, hr] at hs ⊢
   refine ⟨hs.1, fun hg => ⟨(hs.2 hg).1, ?_⟩⟩
   have h2 := (hs.2 hg).2
   cases hρ : ρ id with
   | none => rw [hρ] at h2; exact h2
   | some b =>
    rw [hρ] at h2
    simp only [] at h2 ⊢
    rw [hb b hρ ⟨_, hid, trivial⟩]
    exact h2
  | vec cs e g =>
   simp only [hid, hr] at hs ⊢
   refine ⟨hs.1, fun hg => ⟨(hs.2 hg).1, ?_⟩⟩
   have h2 := (hs.2 hg).2
   cases hρ : ρ id with
   | none => rw [hρ] at h2; exact h2
   | some b =>
    rw [hρ] at h2
    simp only [] at h2 ⊢
    rw [hb b hρ ⟨_, hid, trivial⟩]
    exact h2
  | box cs => simp only [hid] at hs
  | ice cs e g =>
   simp only [hid] at hs ⊢
   refine ⟨hs.1, fun hg => ⟨(hs.2 hg).1, ?_⟩⟩
   rcases (hs.2 hg).2 with h2 | ⟨h2, b, ha, hIb, hd⟩
   ·exact .inl h2
   ·exact .inr ⟨h2, b, ha, (hi b hIb).1, DRs_mono hi cs b 0 hIb hd⟩
  | mp es => simp [hid] at hs
  | void => simp [hid] at hs
theorem ptOK_same {h h' : H} {ρ ρ' : Rho} {w w' : World} {I I' : Nat → Prop} {id : Nat} (hi : Imm w I w' I') (ho : h'[id]? = h[id]?) (hr : ρ' id = ρ id) {gen b : Nat} (hs : ptOK h ρ w I id gen b) : ptOK h' ρ' w' I' id gen b := by
 unfold ptOK at hs ⊢
 rw [ho]
 cases hid : h[id]? with
 | none => simp [hid] at hs
 | some o =>
  cases o with
  | arr cs e g => simp only [hid, hr] at hs ⊢; exact hs
  | vec cs e g => simp only [hid, hr] at hs ⊢; exact hs
  | box cs => simp only [hid, hr] at hs ⊢; exact hs
  | ice cs e g =>
   simp only [hid] at hs ⊢
   exact ⟨hs.1, fun hg => ⟨(hi b (hs.2 hg).1).1, DRs_mono hi cs b 0 (hs.2 hg).1 (hs.2 hg).2⟩⟩
  | mp es => simp [hid] at hs
  | void => simp [hid] at hs
theorem mpOK_same {h h' : H} {ρ ρ' : Rho} {id : Nat} (ho : h'[id]? = h[id]?) (hr : ρ' id = ρ id) {b : Nat} (hs : mpOK h ρ id b) : mpOK h' ρ' id b := by
 unfold mpOK at hs ⊢
 rw [ho, hr]
 exact hs
theorem OR_same {h h' : H} {ρ ρ' : Rho} {w w' : World} {I I' : Nat → Prop} {id : Nat} {o : O} (hE : Ext h ρ w I h' ρ' w' I') (hr : ρ' id = ρ id)
  (hb : ∀ b, ρ id = some b → live o → w'.heap[b]? = w.heap[b]? ∧ ¬ I' b) (ho : OR h ρ w I id o) : OR h' ρ' w' I' id o := by
 cases o with
 | arr cs e g =>
  simp only [OR, hr] at ho ⊢
  cases hρ : ρ id with
  | none => rw [hρ] at ho; exact ho
  | some b =>
   rw [hρ] at ho
   obtain ⟨hez, hIb, C, E, fz, h2, h3, h4⟩ := ho
   obtain ⟨hk, hI'⟩ := hb b hρ trivial
   exact ⟨hez, hI', C, E, fz, by rw [hk]; exact h2, h3, DRs_cells hE.imm (fun k _ => cellAt_same hk) h4⟩
 | vec cs e g =>
  simp only [OR, hr] at ho ⊢
  cases hρ : ρ id with
  | none => rw [hρ] at ho; exact ho
  | some b =>
   rw [hρ] at ho
   obtain ⟨hez, hIb, C, E, fz, h2, h3, h4⟩ := ho
   obtain ⟨hk, hI'⟩ := hb b hρ trivial
   exact ⟨hez, hI', C, E, fz, by rw [hk]; exact h2, h3, fun m c hm => by
    obtain ⟨v, hv, ha, ho⟩ := h4 m c hm
    exact ⟨v, by rw [cellAt_same hk]; exact hv, AR_ext hE c v ha, ho⟩⟩
 | box cs =>
  simp only [OR, hr] at ho ⊢
  obtain ⟨b, hρ, hIb, C, E, fz, h2, h3, h4⟩ := ho
  obtain ⟨hk, hI'⟩ := hb b hρ trivial
  refine ⟨b, hρ, hI', C, E, fz, by rw [hk]; exact h2, h3, fun m c hm => ?_⟩
  obtain ⟨v, hv, ha, ho⟩ := h4 m c hm
  exact ⟨v, by rw [cellAt_same hk]; exact hv, AR_ext hE c v ha, ho⟩
 | mp es =>
  simp only [OR, hr] at ho ⊢
  obtain ⟨b, hρ, hIb, M, c, h2, h3⟩ := ho
  obtain ⟨hk, hI'⟩ := hb b hρ trivial
  exact ⟨b, hρ, hI', M, c, by rw [hk]; exact h2, h3⟩
 | ice cs e g => simp only [OR]
 | void => simp only [OR]
theorem xf8 {h : H} {ρ : Rho} {w w' : World} {I : Nat → Prop} (r : Rel G h ρ w I) (g : Grew w w') : Step G h ρ w I h ρ w' I := by
 have hblk : ∀ id o b, h[id]? = some o → live o → ρ id = some b → w'.heap[b]? = w.heap[b]? ∧ ¬ I b := fun id o b hid hlv hρ =>
  have h2 := r.own_not_imm ⟨id, o, hρ, hid, hlv⟩
  ⟨g.same b h2.2, h2.1⟩
 have ext : Ext h ρ w I h ρ w' I := ⟨g.imm r, fun id _ _ _ _ _ hs => slOK_same (g.imm r) rfl rfl (fun b hb ⟨o, ho, hl⟩ => (hblk id o b ho hl hb).1) hs, fun _ _ _ hs => ptOK_same (g.imm r) rfl rfl hs, fun _ _ hs => hs⟩
 exact ⟨⟨fun id o hid => OR_same ext rfl (fun b hb hl => hblk id o b hid hl hb) (r.obj id o hid), r.inj, fun b hb => Nat.lt_of_lt_of_le (r.imm b hb) g.size, r.ground.mono ext.imm⟩, ext,
  ⟨g.os, g.tape, g.output, g.size, fun b hb _ => g.same b hb, fun _ hb => .inl hb, g.drawn⟩, fun _ hb => .inl hb, Nat.le_refl _⟩
theorem x33 {h : H} {ρ : Rho} {w w' : World} {I : Nat → Prop} (r : Rel G h ρ w I) (g : Grew w w') (o : O) (rb : Option Nat) (hrb : ∀ b, rb = some b → w.heap.size ≤ b)
  (hor : Ext h ρ w I (h ++ [o]) (upd ρ h.length rb) w' I → OR (h ++ [o]) (upd ρ h.length rb) w' I h.length o) : Step G h ρ w I (h ++ [o]) (upd ρ h.length rb) w' I := by
 have look : ∀ id, id < h.length → (h ++ [o])[id]? = h[id]? := fun id hlt => List.getElem?_append_left hlt
 have lt_of : ∀ {id o'}, h[id]? = some o' → id < h.length := fun hid => (List.getElem?_eq_some_iff.1 hid).1
 have hblk : ∀ id o b, h[id]? = some o → live o → ρ id = some b → w'.heap[b]? = w.heap[b]? ∧ ¬ I b := fun id o b hid hlv hρ =>
  have h2 := r.own_not_imm ⟨id, o, hρ, hid, hlv⟩
  ⟨g.same b h2.2, h2.1⟩
 have ext : Ext h ρ w I (h ++ [o]) (upd ρ h.length rb) w' I := by
  refine ⟨g.imm r, fun id gen off len a cap hs => ?_, fun id gen b hs => ?_, fun id b hs => ?_⟩
  ·have hlt : id < h.length := by
    rcases Nat.lt_or_ge id h.length with h1 | h1
    ·exact h1
    ·simp [slOK, List.getElem?_eq_none h1] at hs
   exact slOK_same (g.imm r) (look id hlt) (upd_other ρ rb (by omega)) (fun b hb ⟨o, ho, hl⟩ => (hblk id o b ho hl hb).1) hs
  ·have hlt : id < h.length := by
    rcases Nat.lt_or_ge id h.length with h1 | h1
    ·exact h1
    ·simp [ptOK, List.getElem?_eq_none h1] at hs
   exact ptOK_same (g.imm r) (look id hlt) (upd_other ρ rb (by omega)) hs
  ·have hlt : id < h.length := by
    rcases Nat.lt_or_ge id h.length with h1 | h1
    ·exact h1
    ·simp [mpOK, List.getElem?_eq_none h1] at hs
   exact mpOK_same (look id hlt) (upd_other ρ rb (by omega)) hs
 have cases_of : ∀ id o', (h ++ [o])[id]? = some o' → (h[id]? = some o' ∧ id ≠ h.length) ∨ (id = h.length ∧ o' = o) := by
  intro id o' ho
  by_cases hlt : id < h.length
  ·exact .inl ⟨by rw [← look id hlt]; exact ho, by omega⟩
  ·rw [List.getElem?_append_right (by omega)] at ho
   have : id - h.length = 0 := by
    cases hk : id - h.length with
    | zero => rfl
    | succ k => rw [hk] at ho; simp at ho
   rw [this] at ho
   exact .inr ⟨by omega, by simpa using ho.symm⟩
 refine ⟨⟨fun id o' hid => ?_, fun id id' b o1 o2 hb hb' h1 h2 l1 l2 => ?_, fun b hb => Nat.lt_of_lt_of_le (r.imm b hb) g.size, r.ground.mono ext.imm⟩, ext,
  ⟨g.os, g.tape, g.output, g.size, fun b hb _ => g.same b hb, fun _ hb => .inl hb, g.drawn⟩, fun b hb => ?_, by simp⟩
 ·rcases cases_of id o' hid with ⟨h1, hne⟩ | ⟨rfl, rfl⟩
  ·exact OR_same ext (upd_other ρ rb hne) (fun b hb hl => hblk id o' b h1 hl hb) (r.obj id o' h1)
  ·exact hor ext
 ·rcases cases_of id o1 h1 with ⟨g1, n1⟩ | ⟨rfl, rfl⟩ <;> rcases cases_of id' o2 h2 with ⟨g2, n2⟩ | ⟨rfl, rfl⟩
  ·rw [upd_other ρ rb n1] at hb; rw [upd_other ρ rb n2] at hb'
   exact r.inj id id' b o1 o2 hb hb' g1 g2 l1 l2
  ·rw [upd_other ρ rb n1] at hb; rw [upd_same] at hb'
   have := (r.own_not_imm ⟨id, o1, hb, g1, l1⟩).2
   have := hrb b hb'
   omega
  ·rw [upd_same] at hb; rw [upd_other ρ rb n2] at hb'
   have := (r.own_not_imm ⟨id', o2, hb', g2, l2⟩).2
   have := hrb b hb
   omega
  ·rfl
 ·obtain ⟨id, o', hb, hid, hl⟩ := hb
  rcases cases_of id o' hid with ⟨g1, n1⟩ | ⟨rfl, rfl⟩
  ·rw [upd_other ρ rb n1] at hb; exact .inl ⟨id, o', hb, g1, hl⟩
  ·rw [upd_same] at hb; exact .inr (hrb b hb)
theorem x3m {h : H} {ρ : Rho} {w w' : World} {I I' : Nat → Prop} {id : Nat} {o o' : O} (r : Rel G h ρ w I) (hid : h[id]? = some o) (hlv : live o) (rb : Option Nat)
  (os : w'.os = w.os) (tape : w'.tape = w.tape) (output : w'.output = w.output) (size : w.heap.size ≤ w'.heap.size)
  (same : ∀ k, k < w.heap.size → ρ id ≠ some k → w'.heap[k]? = w.heap[k]?)
  (hI : ∀ b, I b → I' b) (hI' : ∀ b, I' b → I b ∨ (ρ id = some b ∧ ¬ live o')) (hrb : ∀ b, rb = some b → ρ id = some b ∨ w.heap.size ≤ b)
  (hsl : Imm w I w' I' → ∀ gen off len a cap, slOK h ρ w I id gen off len a cap → slOK (h.set id o') (upd ρ id rb) w' I' id gen off len a cap)
  (hpt : Imm w I w' I' → ∀ gen b, ptOK h ρ w I id gen b → ptOK (h.set id o') (upd ρ id rb) w' I' id gen b)
  (hor : Ext h ρ w I (h.set id o') (upd ρ id rb) w' I' → OR (h.set id o') (upd ρ id rb) w' I' id o')
  (drawn : w.drawn ≤ w'.drawn := by first | exact Nat.le_refl _ | exact Nat.le_succ _ | exact Nat.le_add_right _ _)
  (hmp : ∀ es, o = .mp es → (∃ es', o' = .mp es') ∧ rb = ρ id := by intro _ h; cases h) : Step G h ρ w I (h.set id o') (upd ρ id rb) w' I' := by
 have hlt : id < h.length := (List.getElem?_eq_some_iff.1 hid).1
 have ownNot := fun b (ho : owned h ρ b) => r.own_not_imm ho
 have imm : Imm w I w' I' := fun b hb => ⟨hI b hb, same b (r.imm b hb) (fun e => (ownNot b ⟨id, o, e, hid, hlv⟩).1 hb)⟩
 have hblk : ∀ k o2 b, k ≠ id → h[k]? = some o2 → live o2 → ρ k = some b → w'.heap[b]? = w.heap[b]? ∧ ¬ I' b := by
  intro k o2 b hne hk hl hb
  have h2 := ownNot b ⟨k, o2, hb, hk, hl⟩
  have hne' : ρ id ≠ some b := fun e => hne (r.inj k id b o2 o hb e hk hid hl hlv)
  exact ⟨same b h2.2 hne', fun h3 => (hI' b h3).elim h2.1 (fun e => hne' e.1)⟩
 have look : ∀ k, k ≠ id → (h.set id o')[k]? = h[k]? := fun k hne => List.getElem?_set_ne (Ne.symm hne)
 have ext : Ext h ρ w I (h.set id o') (upd ρ id rb) w' I' := by
  refine ⟨imm, fun k gen off len a cap hs => ?_, fun k gen b hs => ?_, fun k b hs => ?_⟩
  ·by_cases e : k = id
   ·subst e; exact hsl imm _ _ _ _ _ hs
   ·exact slOK_same imm (look k e) (upd_other ρ rb e) (fun b hb ⟨o2, ho, hl⟩ => (hblk k o2 b e ho hl hb).1) hs
  ·by_cases e : k = id
   ·subst e; exact hpt imm _ _ hs
   ·exact ptOK_same imm (look k e) (upd_other ρ rb e) hs
  ·by_cases e : k = id
   ·subst e
    cases o with
    | mp es =>
     obtain ⟨⟨es', rfl⟩, hr⟩ := hmp es rfl
     simp only [mpOK, hid] at hs
     simp only [mpOK, List.getElem?_set_self hlt, upd_same, hr]
     exact hs
    | _ => simp only [mpOK, hid] at hs
   ·exact mpOK_same (look k e) (upd_other ρ rb e) hs
 have at_id : (h.set id o')[id]? = some o' := by simp [hlt]
 refine ⟨⟨fun k o2 hk => ?_, fun k k' b o1 o2 hb hb' h1 h2 l1 l2 => ?_, fun b hb => ?_, r.ground.mono ext.imm⟩, ext,
  ⟨os, tape, output, size, fun b hb hno => same b hb (fun e => hno ⟨id, o, e, hid, hlv⟩), fun b hb => ?_, drawn⟩, fun b hb => ?_, by simp⟩
 ·by_cases e : k = id
  ·subst e; rw [at_id] at hk; cases hk; exact hor ext
  ·rw [look k e] at hk
   exact OR_same ext (upd_other ρ rb e) (fun b hb hl => hblk k o2 b e hk hl hb) (r.obj k o2 hk)
 ·by_cases e : k = id <;> by_cases e' : k' = id
  ·rw [e, e']
  ·subst e
   rw [upd_same] at hb; rw [upd_other ρ rb e'] at hb'; rw [look k' e'] at h2
   rcases hrb b hb with h3 | h3
   ·exact r.inj k k' b o o2 h3 hb' hid h2 hlv l2
   ·have := (ownNot b ⟨k', o2, hb', h2, l2⟩).2; omega
  ·subst e'
   rw [upd_same] at hb'; rw [upd_other ρ rb e] at hb; rw [look k e] at h1
   rcases hrb b hb' with h3 | h3
   ·exact r.inj k k' b o1 o hb h3 h1 hid l1 hlv
   ·have := (ownNot b ⟨k, o1, hb, h1, l1⟩).2; omega
  ·rw [upd_other ρ rb e] at hb; rw [upd_other ρ rb e'] at hb'; rw [look k e] at h1; rw [look k' e'] at h2
   exact r.inj k k' b o1 o2 hb hb' h1 h2 l1 l2
 ·rcases hI' b hb with h1 | h1
  ·exact Nat.lt_of_lt_of_le (r.imm b h1) size
  ·exact Nat.lt_of_lt_of_le (ownNot b ⟨id, o, h1.1, hid, hlv⟩).2 size
 ·rcases hI' b hb with h1 | h1
  ·exact .inl h1
  ·exact .inr (.inr ⟨id, o, h1.1, hid, hlv⟩)
 ·obtain ⟨k, o2, hb, hk, hl⟩ := hb
  by_cases e : k = id
  ·subst e
   rw [upd_same] at hb
   rcases hrb b hb with h3 | h3
   ·exact .inl ⟨k, o, h3, hid, hlv⟩
   ·exact .inr h3
  ·rw [upd_other ρ rb e] at hb; rw [look k e] at hk
   exact .inl ⟨k, o2, hb, hk, hl⟩
theorem upd_self (ρ : Rho) (id : Nat) : upd ρ id (ρ id) = ρ := by
 funext k; unfold upd; split
 ·rename_i e; rw [e]
 ·rfl
theorem DRs_set {w : World} {I I' : Nat → Prop} (hI : ∀ b, I b → I' b) {ds : List D} {b : Nat} (h : DRs w I ds b 0) : DRs w I' ds b 0 :=
 DRs_cells (w := w) (w' := w) (fun k hk => ⟨hI k hk, rfl⟩) (fun _ _ => rfl) h
theorem xo0 {h : H} {ρ : Rho} {w : World} {I : Nat → Prop} {id : Nat} {cs : List D} {esz g : Nat} (r : Rel G h ρ w I) (hid : h[id]? = some (.arr cs esz g)) :
  ∃ I', Step G h ρ w I (h.set id (.ice cs esz g)) ρ w I' ∧ ∀ b, ρ id = some b → I' b ∧ DRs w I' cs b 0 := by
 have hlt : id < h.length := (List.getElem?_eq_some_iff.1 hid).1
 have at_id : (h.set id (.ice cs esz g))[id]? = some (.ice cs esz g) := by simp [hlt]
 have hO := r.obj id _ hid
 have hd : ∀ b, ρ id = some b → DRs w (fun k => I k ∨ ρ id = some k) cs b 0 := fun b hb => by
  simp only [OR, hb] at hO
  obtain ⟨_, _, C, E, fz, _, _, h4⟩ := hO
  exact DRs_set (fun k hk => .inl hk) h4
 refine ⟨fun k => I k ∨ ρ id = some k, ?_, fun b hb => ⟨.inr hb, hd b hb⟩⟩
 have s := x3m (o' := .ice cs esz g) (I' := fun k => I k ∨ ρ id = some k) r hid trivial (ρ id) rfl rfl rfl (Nat.le_refl _) (fun _ _ _ => rfl) (fun _ hb => .inl hb)
  (fun b hb => hb.imp (fun x => x) fun e => ⟨e, fun h => h⟩) (fun b hb => .inl hb) (fun _ gen off len a cap hs => ?_) (fun _ gen b hs => ?_) (fun _ => by simp only [OR])
 ·rw [upd_self] at s; exact s
 ·simp only [slOK, hid] at hs
  simp only [slOK, at_id]
  refine ⟨hs.1, fun hg => ⟨(hs.2 hg).1, ?_⟩⟩
  have h1 := (hs.2 hg).1
  have h2 := (hs.2 hg).2
  cases hρ : ρ id with
  | none => rw [hρ] at h2; exact .inl (by omega)
  | some b =>
   rw [hρ] at h2
   rcases h2 with h2 | h2
   ·exact .inl (by omega)
   ·exact .inr ⟨h2.2.1, b, h2.1, .inr rfl, by have := hd b hρ; rw [hρ] at this; exact this⟩
 ·simp only [ptOK, hid] at hs
  simp only [ptOK, at_id]
  exact ⟨hs.1, fun hg => ⟨.inr (hs.2 hg), hd b (hs.2 hg)⟩⟩
theorem xis {h : H} {ρ : Rho} {w : World} {I : Nat → Prop} {id : Nat} {cs : List A} {ds : List D} {esz g : Nat} (r : Rel G h ρ w I) (hid : h[id]? = some (.vec cs esz g)) (hl : cs.length = ds.length) (hds : ∀ b, ρ id = some b → DRs w I ds b 0) :
  ∃ I', Step G h ρ w I (h.set id (.ice ds esz g)) ρ w I' ∧ ∀ b, ρ id = some b → I' b ∧ DRs w I' ds b 0 := by
 have hlt : id < h.length := (List.getElem?_eq_some_iff.1 hid).1
 have at_id : (h.set id (.ice ds esz g))[id]? = some (.ice ds esz g) := by simp [hlt]
 have hd : ∀ b, ρ id = some b → DRs w (fun k => I k ∨ ρ id = some k) ds b 0 := fun b hb => DRs_set (fun k hk => .inl hk) (hds b hb)
 refine ⟨fun k => I k ∨ ρ id = some k, ?_, fun b hb => ⟨.inr hb, hd b hb⟩⟩
 have s := x3m (o' := .ice ds esz g) (I' := fun k => I k ∨ ρ id = some k) r hid trivial (ρ id) rfl rfl rfl (Nat.le_refl _) (fun _ _ _ => rfl) (fun _ hb => .inl hb)
  (fun b hb => hb.imp (fun x => x) fun e => ⟨e, fun h => h⟩) (fun b hb => .inl hb) (fun _ gen off len a cap hs => ?_) (fun _ gen b hs => ?_) (fun _ => by simp only [OR])
 ·rw [upd_self] at s; exact s
 ·simp only [slOK, hid] at hs
  simp only [slOK, at_id]
  refine ⟨hs.1, fun hg => ⟨(hs.2 hg).1, ?_⟩⟩
  have h1 := (hs.2 hg).1
  have h2 := (hs.2 hg).2
  cases hρ : ρ id with
  | none => rw [hρ] at h2; exact .inl (by omega)
  | some b =>
   rw [hρ] at h2
   rcases h2 with h2 | h2
   ·exact .inl (by omega)
   ·exact .inr ⟨by rw [← hl]; exact h2.2.1, b, h2.1, .inr rfl, by have := hd b hρ; rw [hρ] at this; exact this⟩
 ·simp only [ptOK, hid] at hs
  simp only [ptOK, at_id]
  exact ⟨hs.1, fun hg => ⟨.inr (hs.2 hg), hd b (hs.2 hg)⟩⟩
theorem xnz {h : H} {ρ : Rho} {w : World} {I : Nat → Prop} {id : Nat} {cs : List A} {ds : List D} {b : Nat} (r : Rel G h ρ w I) (hid : h[id]? = some (.box cs)) (hb : ρ id = some b) (hd : DRs w I ds b 0) :
  ∃ I', Step G h ρ w I (h.set id (.ice ds 1 0)) ρ w I' ∧ I' b ∧ DRs w I' ds b 0 := by
 have hlt : id < h.length := (List.getElem?_eq_some_iff.1 hid).1
 have at_id : (h.set id (.ice ds 1 0))[id]? = some (.ice ds 1 0) := by simp [hlt]
 have hd' : DRs w (fun k => I k ∨ ρ id = some k) ds b 0 := DRs_set (fun k hk => .inl hk) hd
 refine ⟨fun k => I k ∨ ρ id = some k, ?_, .inr hb, hd'⟩
 have s := x3m (o' := .ice ds 1 0) (I' := fun k => I k ∨ ρ id = some k) r hid trivial (ρ id) rfl rfl rfl (Nat.le_refl _) (fun _ _ _ => rfl) (fun _ hb => .inl hb)
  (fun b hb => hb.imp (fun x => x) fun e => ⟨e, fun h => h⟩) (fun b hb => .inl hb) (fun _ gen off len a cap hs => ?_) (fun _ gen b' hs => ?_) (fun _ => by simp only [OR])
 ·rw [upd_self] at s; exact s
 ·simp only [slOK, hid] at hs
 ·simp only [ptOK, hid] at hs
  simp only [ptOK, at_id]
  refine ⟨by omega, fun _ => ⟨.inr hs.2, ?_⟩⟩
  have := hs.2; rw [hb] at this; cases this
  exact hd'
end Ev
end Go.Proofs.Ytppdfjdfjfoddaa
