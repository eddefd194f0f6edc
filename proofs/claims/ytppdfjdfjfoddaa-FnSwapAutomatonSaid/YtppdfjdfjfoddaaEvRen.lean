/-
  Objects renamed: a part of memory handed over, put back; objects numbered anew.
-/
import Derived.Test.YtppdfjdfjfoddaaEvRel
namespace Go.Proofs.Ytppdfjdfjfoddaa
namespace Ev
variable {G : Gnd}
theorem place_some : ∀ {ord : List Nat} {i k : Nat}, place ord i = some k → ord[k]? = some i
 | [], _, _, h => by simp [place] at h
 | j :: ord, i, k, h => by
  simp only [place] at h
  split at h
  ·rename_i e; cases h; simp [e]
  ·cases hp : place ord i with
   | none => rw [hp] at h; cases h
   | some m => rw [hp] at h; simp at h; subst h; simpa using place_some hp
theorem place_none : ∀ {ord : List Nat} {i : Nat}, i ∉ ord → place ord i = none
 | [], _, _ => rfl
 | j :: ord, i, h => by
  simp only [List.mem_cons, not_or] at h
  simp only [place, if_neg (Ne.symm h.1), place_none h.2, Option.map_none]
theorem place_lt {ord : List Nat} {i k : Nat} (h : place ord i = some k) : k < ord.length :=
 (List.getElem?_eq_some_iff.1 (place_some h)).1
theorem place_mem {ord : List Nat} {i k : Nat} (h : place ord i = some k) : i ∈ ord :=
 List.mem_of_getElem? (place_some h)
theorem place_at : ∀ {ord : List Nat}, ord.Nodup → ∀ {i k : Nat}, ord[k]? = some i → place ord i = some k
 | [], _, _, _, h => by simp at h
 | j :: ord, hn, i, k, h => by
  simp only [List.nodup_cons] at hn
  simp only [place]
  cases k with
  | zero => simp at h; simp [h]
  | succ k =>
   have h' : ord[k]? = some i := by simpa using h
   have hm : i ∈ ord := List.mem_of_getElem? h'
   rw [if_neg (fun (e : j = i) => hn.1 (e ▸ hm)), place_at hn.2 h']
   rfl
theorem place_is_some {ord : List Nat} {i : Nat} (h : i ∈ ord) : ∃ k, place ord i = some k := by
 induction ord with
 | nil => simp at h
 | cons j ord ih =>
  simp only [place]
  by_cases e : j = i
  ·exact ⟨0, by simp [e]⟩
  ·have : i ∈ ord := by simpa [Ne.symm e] using h
   obtain ⟨k, hk⟩ := ih this
   exact ⟨k + 1, by simp [e, hk]⟩
theorem reach_nodup : ∀ (n : Nat) (h : H) (todo acc : List Nat), acc.Nodup → (reach n h todo acc).Nodup
 | 0, _, _, _, hn => by simpa only [reach] using hn
 | _ + 1, _, [], _, hn => by simpa only [reach] using hn
 | n + 1, h, i :: todo, acc, hn => by
  simp only [reach]
  split
  ·exact reach_nodup n h todo acc hn
  ·rename_i hc
   have hc' : i ∉ acc := by simpa using hc
   have : (acc ++ [i]).Nodup := by
    rw [List.nodup_append]
    exact ⟨hn, by simp, by intro a ha b hb; simp at hb; subst hb; exact fun e => hc' (e ▸ ha)⟩
   split
   ·exact reach_nodup n h _ _ this
   ·exact reach_nodup n h _ _ this
   ·exact reach_nodup n h _ _ hn
   ·exact reach_nodup n h _ _ this
   ·exact reach_nodup n h _ _ hn
theorem reach_lt : ∀ (n : Nat) (h : H) (todo acc : List Nat), (∀ i ∈ acc, i < h.length) → ∀ i ∈ reach n h todo acc, i < h.length
 | 0, _, _, _, hn => by simpa only [reach] using hn
 | _ + 1, _, [], _, hn => by simpa only [reach] using hn
 | n + 1, h, i :: todo, acc, hn => by
  simp only [reach]
  split
  ·exact reach_lt n h todo acc hn
  ·have key : ∀ o, h[i]? = some o → ∀ j ∈ acc ++ [i], j < h.length := by
    intro o ho j hj
    simp only [List.mem_append, List.mem_singleton] at hj
    rcases hj with hj | rfl
    ·exact hn j hj
    ·exact (List.getElem?_eq_some_iff.1 ho).1
   split
   ·rename_i cs ho; exact reach_lt n h _ _ (key _ ho)
   ·rename_i cs _ _ ho; exact reach_lt n h _ _ (key _ ho)
   ·exact reach_lt n h _ _ hn
   ·rename_i o _ _ _ ho; exact reach_lt n h _ _ (key _ ho)
   ·exact reach_lt n h _ _ hn
theorem reach_front : ∀ (n : Nat) (h : H) (todo acc : List Nat), ∃ l, reach n h todo acc = acc ++ l
 | 0, _, _, acc => ⟨[], by simp [reach]⟩
 | _ + 1, _, [], acc => ⟨[], by simp [reach]⟩
 | n + 1, h, i :: todo, acc => by
  simp only [reach]
  split
  ·exact reach_front n h todo acc
  ·split
   ·obtain ⟨l, hl⟩ := reach_front n h (todo ++ idsL _) (acc ++ [i]); exact ⟨i :: l, by rw [hl]; simp⟩
   ·obtain ⟨l, hl⟩ := reach_front n h (todo ++ idsL _) (acc ++ [i]); exact ⟨i :: l, by rw [hl]; simp⟩
   ·exact reach_front n h todo acc
   ·obtain ⟨l, hl⟩ := reach_front n h todo (acc ++ [i]); exact ⟨i :: l, by rw [hl]; simp⟩
   ·exact reach_front n h todo acc
def sub (ord : List Nat) (ρ : Rho) : Rho := fun k => (ord[k]?).bind ρ
theorem live_mapO (f : Nat → Option Nat) (o : O) : live (mapO f o) ↔ live o := by
 cases o <;> simp [live, mapO]
theorem pack_get (h : H) (ord : List Nat) (k : Nat) : (pack h ord)[k]? = (ord[k]?).map fun i => mapO (place ord) (h.getD i default) := by
 simp [pack]
theorem pack_at {h : H} {ord : List Nat} {k i : Nat} {o : O} (hk : ord[k]? = some i) (ho : h[i]? = some o) : (pack h ord)[k]? = some (mapO (place ord) o) := by
 rw [pack_get, hk]
 simp [List.getD_eq_getElem?_getD, ho]
theorem mapAs_get {f : Nat → Option Nat} : ∀ (cs : List A) (m : Nat), (mapAs f cs)[m]? = (cs[m]?).map (mapA f)
 | [], m => by simp [mapAs]
 | c :: cs, m => by cases m <;> simp [mapAs, mapAs_get cs]
theorem mapAs_len {f : Nat → Option Nat} : ∀ (cs : List A), (mapAs f cs).length = cs.length
 | [] => by simp [mapAs]
 | c :: cs => by simp [mapAs, mapAs_len cs]
theorem refSame_of {h h' : H} {ρ ρ' : Rho} {w : World} {I : Nat → Prop} {i k : Nat} {f : Nat → Option Nat}
  (ho : ∀ o, h[i]? = some o → h'[k]? = some (mapO f o)) (hr : ρ' k = ρ i) : RefSame h ρ w I i h' ρ' w I k := by
 cases hi : h[i]? with
 | none => exact ⟨fun _ _ _ _ _ hs => by simp [slOK, hi] at hs, fun _ _ hs => by simp [ptOK, hi] at hs, fun _ hs => by simp [mpOK, hi] at hs⟩
 | some o =>
  have hk := ho o hi
  cases o with
  | arr cs e g =>
   simp only [mapO] at hk
   exact ⟨fun gen off len a cap hs => by simp only [slOK, hi] at hs; simp only [slOK, hk, hr]; exact hs, fun gen b hs => by simp only [ptOK, hi] at hs; simp only [ptOK, hk, hr]; exact hs, fun b hs => by simp only [mpOK, hi] at hs⟩
  | box cs =>
   simp only [mapO] at hk
   exact ⟨fun gen off len a cap hs => by simp only [slOK, hi] at hs, fun gen b hs => by simp only [ptOK, hi] at hs; simp only [ptOK, hk, hr]; exact hs, fun b hs => by simp only [mpOK, hi] at hs⟩
  | vec cs e g =>
   simp only [mapO] at hk
   exact ⟨fun gen off len a cap hs => by simp only [slOK, hi] at hs; simp only [slOK, hk, hr, mapAs_len]; exact hs, fun gen b hs => by simp only [ptOK, hi] at hs; simp only [ptOK, hk, hr]; exact hs, fun b hs => by simp only [mpOK, hi] at hs⟩
  | ice cs e g =>
   simp only [mapO] at hk
   exact ⟨fun gen off len a cap hs => by simp only [slOK, hi] at hs; simp only [slOK, hk]; exact hs, fun gen b hs => by simp only [ptOK, hi] at hs; simp only [ptOK, hk]; exact hs, fun b hs => by simp only [mpOK, hi] at hs⟩
  | mp es =>
   simp only [mapO] at hk
   exact ⟨fun gen off len a cap hs => by simp only [slOK, hi] at hs, fun gen b hs => by simp only [ptOK, hi] at hs, fun b hs => by simp only [mpOK, hi] at hs; simp only [mpOK, hk, hr]; exact hs⟩
  | void => exact ⟨fun _ _ _ _ _ hs => by simp [slOK, hi] at hs, fun _ _ hs => by simp [ptOK, hi] at hs, fun _ hs => by simp [mpOK, hi] at hs⟩
theorem imm_refl (w : World) (I : Nat → Prop) : Imm w I w I := fun _ h => ⟨h, rfl⟩
theorem OR_ren {h h' : H} {ρ ρ' : Rho} {w : World} {I : Nat → Prop} {i k : Nat} {f : Nat → Option Nat} {o : O} (hf : ∀ id k, f id = some k → RefSame h ρ w I id h' ρ' w I k)
  (hr : ρ' k = ρ i) (ho : OR h ρ w I i o) : OR h' ρ' w I k (mapO f o) := by
 cases o with
 | arr cs e g => simp only [OR, mapO, hr] at ho ⊢; exact ho
 | box cs =>
  simp only [OR, mapO, hr] at ho ⊢
  obtain ⟨b, hb, hi, C, E, fz, h1, h2, h3⟩ := ho
  refine ⟨b, hb, hi, C, E, fz, h1, h2, ?_⟩
  intro m c hm
  have hlen : (mapAs f cs)[m]? = (cs[m]?).map (mapA f) := by
   clear h3 hm
   induction cs generalizing m with
   | nil => simp [mapAs]
   | cons c cs ih => cases m <;> simp [mapAs, ih]
  rw [hlen] at hm
  cases hc : cs[m]? with
  | none => rw [hc] at hm; cases hm
  | some c0 =>
   rw [hc] at hm; simp at hm; subst hm
   obtain ⟨v, hv, ha, hk⟩ := h3 m c0 hc
   exact ⟨v, hv, AR_ren (imm_refl w I) hf c0 v ha, hk⟩
 | vec cs e g =>
  simp only [OR, mapO, hr] at ho ⊢
  cases hρ : ρ i with
  | none => rw [hρ] at ho; simp only at ho ⊢; subst ho; rfl
  | some b =>
   rw [hρ] at ho
   obtain ⟨hez, hi, C, E, fz, h1, h2, h3⟩ := ho
   refine ⟨hez, hi, C, E, fz, h1, h2, ?_⟩
   intro m c hm
   rw [mapAs_get] at hm
   cases hc : cs[m]? with
   | none => rw [hc] at hm; cases hm
   | some c0 =>
    rw [hc] at hm; simp at hm; subst hm
    obtain ⟨v, hv, ha, hk⟩ := h3 m c0 hc
    exact ⟨v, hv, AR_ren (imm_refl w I) hf c0 v ha, hk⟩
 | mp es => simp only [OR, mapO, hr] at ho ⊢; exact ho
 | ice cs e g => simp only [OR, mapO]
 | void => simp only [OR, mapO]
theorem rel_pack {h : H} {ρ : Rho} {w : World} {I : Nat → Prop} {ord : List Nat} (r : Rel G h ρ w I) (hn : ord.Nodup) (hl : ∀ i ∈ ord, i < h.length) : Rel G (pack h ord) (sub ord ρ) w I := by
 have hf : ∀ id k, place ord id = some k → RefSame h ρ w I id (pack h ord) (sub ord ρ) w I k := fun id k hk =>
  refSame_of (fun o ho => pack_at (place_some hk) ho) (by simp [sub, place_some hk])
 have look : ∀ (k : Nat) (o : O), (pack h ord)[k]? = some o → ∃ (i : Nat) (o' : O), ord[k]? = some i ∧ h[i]? = some o' ∧ o = mapO (place ord) o' := by
  intro k o ho
  rw [pack_get] at ho
  cases hk : ord[k]? with
  | none => rw [hk] at ho; cases ho
  | some i =>
   rw [hk] at ho
   have hi := hl i (List.mem_of_getElem? hk)
   exact ⟨i, h[i], rfl, by simp, by simpa [List.getD_eq_getElem?_getD, hi] using ho.symm⟩
 refine ⟨fun k o ho => ?_, fun k k' b o o' hk hk' ho ho' hlv hlv' => ?_, r.imm, r.ground⟩
 ·obtain ⟨i, o', hk, hi, rfl⟩ := look k o ho
  exact OR_ren hf (by simp [sub, hk]) (r.obj i o' hi)
 ·obtain ⟨i, o1, hi, h1, rfl⟩ := look k o ho
  obtain ⟨j, o2, hj, h2, rfl⟩ := look k' o' ho'
  have e : i = j := r.inj i j b o1 o2 (by simpa [sub, hi] using hk) (by simpa [sub, hj] using hk') h1 h2 ((live_mapO _ _).1 hlv) ((live_mapO _ _).1 hlv')
  subst e
  have a1 := place_at hn hi
  have a2 := place_at hn hj
  rw [a1] at a2; cases a2; rfl
theorem owned_pack {h : H} {ρ : Rho} {ord : List Nat} (hl : ∀ i ∈ ord, i < h.length) {b : Nat} (ho : owned (pack h ord) (sub ord ρ) b) : ∃ i o, i ∈ ord ∧ ρ i = some b ∧ h[i]? = some o ∧ live o := by
 obtain ⟨k, o, hk, ho, hlv⟩ := ho
 rw [pack_get] at ho
 cases hi : ord[k]? with
 | none => rw [hi] at ho; cases ho
 | some i =>
  have hm := List.mem_of_getElem? hi
  have hlt := hl i hm
  rw [hi] at ho
  simp [List.getD_eq_getElem?_getD, hlt] at ho
  subst ho
  exact ⟨i, h[i], hm, by simpa [sub, hi] using hk, by simp, (live_mapO _ _).1 hlv⟩
theorem putBack_get (f : Nat → Option Nat) : ∀ (ord : List Nat) (h rest : H) (id : Nat), ord.Nodup → (∀ i ∈ ord, i < h.length) → ord.length ≤ rest.length →
  (putBack f h ord rest)[id]? = match place ord id with
   | some k => (rest[k]?).map (mapO f)
   | none => if id < h.length then h[id]? else (rest[ord.length + (id - h.length)]?).map (mapO f)
 | [], h, rest, id, _, _, _ => by
  simp only [putBack, place, List.length_nil, Nat.zero_add]
  by_cases hlt : id < h.length
  ·rw [if_pos hlt, List.getElem?_append_left hlt]
  ·rw [if_neg hlt, List.getElem?_append_right (by omega)]; simp
 | i :: ord, h, [], id, _, _, hl => by simp at hl
 | i :: ord, h, o :: rest, id, hn, hr, hl => by
  simp only [List.nodup_cons] at hn
  have hi : i < h.length := hr i (by simp)
  simp only [putBack]
  rw [putBack_get f ord _ rest id hn.2 (fun j hj => by simpa using hr j (by simp [hj])) (by simpa using hl)]
  simp only [place, List.length_set, List.length_cons]
  by_cases e : i = id
  ·subst e
   rw [place_none hn.1]
   simp [hi]
  ·rw [if_neg e]
   cases hp : place ord id with
   | none =>
    simp only [Option.map_none]
    by_cases hlt : id < h.length
    ·rw [if_pos hlt, if_pos hlt, List.getElem?_set_ne e]
    ·rw [if_neg hlt, if_neg hlt, show ord.length + 1 + (id - h.length) = (ord.length + (id - h.length)) + 1 from by omega]
     simp
   | some k => simp
theorem putBack_length (f : Nat → Option Nat) : ∀ (ord : List Nat) (h rest : H), ord.length ≤ rest.length → h.length ≤ (putBack f h ord rest).length
 | [], h, rest, _ => by simp [putBack]
 | i :: ord, h, [], hl => by simp at hl
 | i :: ord, h, o :: rest, hl => by
  simp only [putBack]
  have := putBack_length f ord (h.set i (mapO f o)) rest (by simpa using hl)
  simpa using this
def mrg (ord : List Nat) (n : Nat) (ρ ρ1 : Rho) : Rho := fun id =>
 match place ord id with
 | some k => ρ1 k
 | none => if id < n then ρ id else ρ1 (ord.length + (id - n))
theorem xdq {h : H} {ρ : Rho} {w : World} {I : Nat → Prop} {ord : List Nat} {h1 : H} {ρ1 : Rho} {w' : World} {I' : Nat → Prop}
  (r : Rel G h ρ w I) (hn : ord.Nodup) (hr : ∀ i ∈ ord, i < h.length) (hlen : ord.length ≤ h1.length) (s : Step G (pack h ord) (sub ord ρ) w I h1 ρ1 w' I') :
  Step G h ρ w I (putBack (back ord h.length h1.length) h ord h1) (mrg ord h.length ρ ρ1) w' I' ∧
  ∀ id k, back ord h.length h1.length id = some k → RefSame h1 ρ1 w' I' id (putBack (back ord h.length h1.length) h ord h1) (mrg ord h.length ρ ρ1) w' I' k := by
 have get := fun id => putBack_get (back ord h.length h1.length) ord h h1 id hn hr hlen
 have loc : ∀ k id, back ord h.length h1.length k = some id → (putBack (back ord h.length h1.length) h ord h1)[id]? = (h1[k]?).map (mapO (back ord h.length h1.length)) ∧ mrg ord h.length ρ ρ1 id = ρ1 k := by
  intro k id hk
  unfold back at hk
  split at hk
  ·rename_i hlt
   have hp := place_at hn hk
   exact ⟨by rw [get, hp], by simp [mrg, hp]⟩
  ·split at hk
   ·rename_i hge hlt
    simp only [Option.some.injEq] at hk
    subst hk
    have hp : place ord (h.length + (k - ord.length)) = none := place_none fun hm => by have := hr _ hm; omega
    have e : ord.length + (h.length + (k - ord.length) - h.length) = k := by omega
    exact ⟨by rw [get, hp]; simp only []; rw [if_neg (by omega), e], by simp only [mrg, hp]; rw [if_neg (by omega), e]⟩
   ·cases hk
 have refs : ∀ k id, back ord h.length h1.length k = some id → RefSame h1 ρ1 w' I' k (putBack (back ord h.length h1.length) h ord h1) (mrg ord h.length ρ ρ1) w' I' id := fun k id hk =>
  refSame_of (fun o ho => by rw [(loc k id hk).1, ho]; rfl) (loc k id hk).2
 have orig : ∀ id o, (putBack (back ord h.length h1.length) h ord h1)[id]? = some o →
   (∃ k o', back ord h.length h1.length k = some id ∧ h1[k]? = some o' ∧ o = mapO (back ord h.length h1.length) o' ∧ mrg ord h.length ρ ρ1 id = ρ1 k) ∨
   (id ∉ ord ∧ h[id]? = some o ∧ mrg ord h.length ρ ρ1 id = ρ id) := by
  intro id o ho
  rw [get] at ho
  cases hp : place ord id with
  | some k =>
   rw [hp] at ho
   simp only [Option.map_eq_some_iff] at ho
   obtain ⟨o', ho', rfl⟩ := ho
   have hb : back ord h.length h1.length k = some id := by unfold back; rw [if_pos (place_lt hp)]; exact place_some hp
   exact .inl ⟨k, o', hb, ho', rfl, (loc k id hb).2⟩
  | none =>
   rw [hp] at ho
   simp only [] at ho
   have hni : id ∉ ord := fun hm => by obtain ⟨k, hk⟩ := place_is_some hm; rw [hk] at hp; cases hp
   by_cases hlt : id < h.length
   ·rw [if_pos hlt] at ho
    exact .inr ⟨hni, ho, by simp [mrg, hp, hlt]⟩
   ·rw [if_neg hlt] at ho
    simp only [Option.map_eq_some_iff] at ho
    obtain ⟨o', ho', rfl⟩ := ho
    have hk : ord.length + (id - h.length) < h1.length := (List.getElem?_eq_some_iff.1 ho').1
    have hb : back ord h.length h1.length (ord.length + (id - h.length)) = some id := by
     unfold back
     rw [if_neg (by omega), if_pos hk]
     congr 1; omega
    exact .inl ⟨_, o', hb, ho', rfl, (loc _ id hb).2⟩
 have other : ∀ id o b, id ∉ ord → h[id]? = some o → live o → ρ id = some b → ¬ owned (pack h ord) (sub ord ρ) b := by
  intro id o b hni hid hlv hρ ho
  obtain ⟨j, o2, hj, hρj, hjo, hlv2⟩ := owned_pack hr ho
  have := r.inj id j b o o2 hρ hρj hid hjo hlv hlv2
  subst this
  exact hni hj
 have keepOther : ∀ id o b, id ∉ ord → h[id]? = some o → live o → ρ id = some b → w'.heap[b]? = w.heap[b]? := fun id o b hni hid hlv hρ =>
  s.keep.same b (r.own_not_imm ⟨id, o, hρ, hid, hlv⟩).2 (other id o b hni hid hlv hρ)
 have ownSub : ∀ b, owned (pack h ord) (sub ord ρ) b → owned h ρ b := fun b ho => by
  obtain ⟨j, o2, _, hρj, hjo, hlv2⟩ := owned_pack hr ho
  exact ⟨j, o2, hρj, hjo, hlv2⟩
 have packRef : ∀ id k, place ord id = some k → RefSame h ρ w I id (pack h ord) (sub ord ρ) w I k := fun id k hk =>
  refSame_of (fun o ho => pack_at (place_some hk) ho) (by simp [sub, place_some hk])
 have backOf : ∀ id k, place ord id = some k → back ord h.length h1.length k = some id := fun id k hp => by
  unfold back; rw [if_pos (place_lt hp)]; exact place_some hp
 have ext : Ext h ρ w I (putBack (back ord h.length h1.length) h ord h1) (mrg ord h.length ρ ρ1) w' I' := by
  refine ⟨s.ext.imm, fun id gen off len a cap hs => ?_, fun id gen b hs => ?_, fun id b hs => ?_⟩
  ·cases hp : place ord id with
   | some k => exact (refs k id (backOf id k hp)).1 _ _ _ _ _ (s.ext.sl _ _ _ _ _ _ ((packRef id k hp).1 _ _ _ _ _ hs))
   | none =>
    have hni : id ∉ ord := fun hm => by obtain ⟨k, hk⟩ := place_is_some hm; rw [hk] at hp; cases hp
    cases hid : h[id]? with
    | none => simp [slOK, hid] at hs
    | some o =>
     have hlt := (List.getElem?_eq_some_iff.1 hid).1
     have hg : (putBack (back ord h.length h1.length) h ord h1)[id]? = some o := by rw [get, hp]; simp only []; rw [if_pos hlt, hid]
     have hm : mrg ord h.length ρ ρ1 id = ρ id := by simp [mrg, hp, hlt]
     cases o with
     | arr cs e g =>
      simp only [slOK, hid] at hs
      simp only [slOK, hg, hm]
      refine ⟨hs.1, fun hgen => ⟨(hs.2 hgen).1, ?_⟩⟩
      have h2 := (hs.2 hgen).2
      cases hρ : ρ id with
      | none => rw [hρ] at h2; exact h2
      | some b =>
       rw [hρ] at h2
       simp only [] at h2 ⊢
       rw [keepOther id _ b hni hid trivial hρ]
       exact h2
     | vec cs e g =>
      simp only [slOK, hid] at hs
      simp only [slOK, hg, hm]
      refine ⟨hs.1, fun hgen => ⟨(hs.2 hgen).1, ?_⟩⟩
      have h2 := (hs.2 hgen).2
      cases hρ : ρ id with
      | none => rw [hρ] at h2; exact h2
      | some b =>
       rw [hρ] at h2
       simp only [] at h2 ⊢
       rw [keepOther id _ b hni hid trivial hρ]
       exact h2
     | box cs => simp only [slOK, hid] at hs
     | ice cs e g =>
      simp only [slOK, hid] at hs
      simp only [slOK, hg]
      refine ⟨hs.1, fun hgen => ⟨(hs.2 hgen).1, ?_⟩⟩
      rcases (hs.2 hgen).2 with h2 | ⟨h2, b, hb, hIb, hd⟩
      ·exact .inl h2
      ·exact .inr ⟨h2, b, hb, (s.ext.imm b hIb).1, DRs_mono s.ext.imm cs b 0 hIb hd⟩
     | mp es => simp [slOK, hid] at hs
     | void => simp [slOK, hid] at hs
  ·cases hp : place ord id with
   | some k => exact (refs k id (backOf id k hp)).2.1 _ _ (s.ext.pt _ _ _ ((packRef id k hp).2.1 _ _ hs))
   | none =>
    cases hid : h[id]? with
    | none => simp [ptOK, hid] at hs
    | some o =>
     have hlt := (List.getElem?_eq_some_iff.1 hid).1
     have hg : (putBack (back ord h.length h1.length) h ord h1)[id]? = some o := by rw [get, hp]; simp only []; rw [if_pos hlt, hid]
     have hm : mrg ord h.length ρ ρ1 id = ρ id := by simp [mrg, hp, hlt]
     cases o with
     | arr cs e g => simp only [ptOK, hid] at hs; simp only [ptOK, hg, hm]; exact hs
     | vec cs e g => simp only [ptOK, hid] at hs; simp only [ptOK, hg, hm]; exact hs
     | box cs => simp only [ptOK, hid] at hs; simp only [ptOK, hg, hm]; exact hs
     | ice cs e g =>
      simp only [ptOK, hid] at hs
      simp only [ptOK, hg]
      exact ⟨hs.1, fun hgen => ⟨(s.ext.imm b (hs.2 hgen).1).1, DRs_mono s.ext.imm cs b 0 (hs.2 hgen).1 (hs.2 hgen).2⟩⟩
     | mp es => simp [ptOK, hid] at hs
     | void => simp [ptOK, hid] at hs
  ·cases hp : place ord id with
   | some k => exact (refs k id (backOf id k hp)).2.2 _ (s.ext.mp _ _ ((packRef id k hp).2.2 _ hs))
   | none =>
    cases hid : h[id]? with
    | none => simp [mpOK, hid] at hs
    | some o =>
     have hlt := (List.getElem?_eq_some_iff.1 hid).1
     have hg : (putBack (back ord h.length h1.length) h ord h1)[id]? = some o := by rw [get, hp]; simp only []; rw [if_pos hlt, hid]
     have hm : mrg ord h.length ρ ρ1 id = ρ id := by simp [mrg, hp, hlt]
     simp only [mpOK, hid] at hs
     simp only [mpOK, hg, hm]
     exact hs
 refine ⟨⟨⟨fun id o ho => ?_, fun id id' b o o' hb hb' ho ho' hlv hlv' => ?_, s.rel.imm, s.rel.ground⟩, ext, ⟨s.keep.os, s.keep.tape, s.keep.output, s.keep.size, fun b hb hno => s.keep.same b hb (fun h => hno (ownSub b h)), fun b hb => ?_, s.keep.drawn⟩, fun b hb => ?_, putBack_length _ _ _ _ hlen⟩, refs⟩
 ·rcases orig id o ho with ⟨k, o', hk, hk1, rfl, hm⟩ | ⟨hni, hid, hm⟩
  ·exact OR_ren refs hm (s.rel.obj k o' hk1)
  ·have hO := r.obj id o hid
   cases o with
   | arr cs e g =>
    simp only [OR, hm] at hO ⊢
    cases hρ : ρ id with
    | none => rw [hρ] at hO; exact hO
    | some b =>
     rw [hρ] at hO
     obtain ⟨hez, hIb, C, E, fz, h2, h3, h4⟩ := hO
     have hk := keepOther id _ b hni hid trivial hρ
     refine ⟨hez, fun hI' => ?_, C, E, fz, by rw [hk]; exact h2, h3, DRs_cells s.ext.imm (fun k _ => cellAt_same hk) h4⟩
     rcases s.keep.new b hI' with h | h | h
     ·exact hIb h
     ·have := (r.own_not_imm ⟨id, _, hρ, hid, trivial⟩).2; omega
     ·exact other id _ b hni hid trivial hρ h
   | vec cs e g =>
    simp only [OR, hm] at hO ⊢
    cases hρ : ρ id with
    | none => rw [hρ] at hO; exact hO
    | some b =>
     rw [hρ] at hO
     obtain ⟨hez, hIb, C, E, fz, h2, h3, h4⟩ := hO
     have hk := keepOther id _ b hni hid trivial hρ
     refine ⟨hez, fun hI' => ?_, C, E, fz, by rw [hk]; exact h2, h3, fun m c hm => ?_⟩
     rotate_left
     ·obtain ⟨v, hv, ha, ho⟩ := h4 m c hm
      exact ⟨v, by rw [cellAt_same hk]; exact hv, AR_ext ext c v ha, ho⟩
     rcases s.keep.new b hI' with h | h | h
     ·exact hIb h
     ·have := (r.own_not_imm ⟨id, _, hρ, hid, trivial⟩).2; omega
     ·exact other id _ b hni hid trivial hρ h
   | box cs =>
    simp only [OR, hm] at hO ⊢
    obtain ⟨b, hρ, hIb, C, E, fz, h2, h3, h4⟩ := hO
    have hk := keepOther id _ b hni hid trivial hρ
    refine ⟨b, hρ, fun hI' => ?_, C, E, fz, by rw [hk]; exact h2, h3, fun m c hm => ?_⟩
    ·rcases s.keep.new b hI' with h | h | h
     ·exact hIb h
     ·have := (r.own_not_imm ⟨id, _, hρ, hid, trivial⟩).2; omega
     ·exact other id _ b hni hid trivial hρ h
    ·obtain ⟨v, hv, ha, ho⟩ := h4 m c hm
     exact ⟨v, by rw [cellAt_same hk]; exact hv, AR_ext ext c v ha, ho⟩
   | mp es =>
    simp only [OR, hm] at hO ⊢
    obtain ⟨b, hρ, hIb, M, c, h2, h3⟩ := hO
    have hk := keepOther id _ b hni hid trivial hρ
    refine ⟨b, hρ, fun hI' => ?_, M, c, by rw [hk]; exact h2, h3⟩
    rcases s.keep.new b hI' with h | h | h
    ·exact hIb h
    ·have := (r.own_not_imm ⟨id, _, hρ, hid, trivial⟩).2; omega
    ·exact other id _ b hni hid trivial hρ h
   | ice cs e g => simp only [OR]
   | void => simp only [OR]
 ·rcases orig id o ho with ⟨k, o1, hk, hk1, rfl, hm⟩ | ⟨hni, hid, hm⟩ <;> rcases orig id' o' ho' with ⟨k', o1', hk', hk1', rfl, hm'⟩ | ⟨hni', hid', hm'⟩
  ·rw [hm] at hb; rw [hm'] at hb'
   have := s.rel.inj k k' b o1 o1' hb hb' hk1 hk1' ((live_mapO _ _).1 hlv) ((live_mapO _ _).1 hlv')
   subst this
   rw [hk] at hk'; cases hk'; rfl
  ·rw [hm] at hb; rw [hm'] at hb'
   exfalso
   rcases s.own b ⟨k, o1, hb, hk1, (live_mapO _ _).1 hlv⟩ with h | h
   ·exact other id' _ b hni' hid' hlv' hb' h
   ·have := (r.own_not_imm ⟨id', _, hb', hid', hlv'⟩).2; omega
  ·rw [hm] at hb; rw [hm'] at hb'
   exfalso
   rcases s.own b ⟨k', o1', hb', hk1', (live_mapO _ _).1 hlv'⟩ with h | h
   ·exact other id _ b hni hid hlv hb h
   ·have := (r.own_not_imm ⟨id, _, hb, hid, hlv⟩).2; omega
  ·rw [hm] at hb; rw [hm'] at hb'
   exact r.inj id id' b o o' hb hb' hid hid' hlv hlv'
 ·rcases s.keep.new b hb with h | h | h
  ·exact .inl h
  ·exact .inr (.inl h)
  ·exact .inr (.inr (ownSub b h))
 ·obtain ⟨id, o, hm0, ho, hlv⟩ := hb
  rcases orig id o ho with ⟨k, o1, hk, hk1, rfl, hm⟩ | ⟨hni, hid, hm⟩
  ·rw [hm] at hm0
   rcases s.own b ⟨k, o1, hm0, hk1, (live_mapO _ _).1 hlv⟩ with h | h
   ·exact .inl (ownSub b h)
   ·exact .inr h
  ·rw [hm] at hm0
   exact .inl ⟨id, o, hm0, hid, hlv⟩
theorem xpb {h0 : H} {ρ0 : Rho} {w0 : World} {I0 : Nat → Prop} {h : H} {ρ : Rho} {w : World} {I : Nat → Prop} {ord : List Nat}
  (s : Step G h0 ρ0 w0 I0 h ρ w I) (hn : ord.Nodup) (hl : ∀ i ∈ ord, i < h.length) (hf : ∀ i, i < h0.length → ord[i]? = some i) :
  Step G h0 ρ0 w0 I0 (pack h ord) (sub ord ρ) w I ∧ ∀ id k, place ord id = some k → RefSame h ρ w I id (pack h ord) (sub ord ρ) w I k := by
 have refs : ∀ id k, place ord id = some k → RefSame h ρ w I id (pack h ord) (sub ord ρ) w I k := fun id k hk =>
  refSame_of (fun o ho => pack_at (place_some hk) ho) (by simp [sub, place_some hk])
 refine ⟨⟨rel_pack s.rel hn hl, ⟨s.ext.imm, fun id gen off len a cap hs => ?_, fun id gen b hs => ?_, fun id b hs => ?_⟩, s.keep, fun b hb => ?_, ?_⟩, refs⟩
 ·have hlt : id < h0.length := by
   rcases Nat.lt_or_ge id h0.length with h | h
   ·exact h
   ·simp [slOK, List.getElem?_eq_none h] at hs
  exact (refs id id (place_at hn (hf id hlt))).1 _ _ _ _ _ (s.ext.sl _ _ _ _ _ _ hs)
 ·have hlt : id < h0.length := by
   rcases Nat.lt_or_ge id h0.length with h | h
   ·exact h
   ·simp [ptOK, List.getElem?_eq_none h] at hs
  exact (refs id id (place_at hn (hf id hlt))).2.1 _ _ (s.ext.pt _ _ _ hs)
 ·have hlt : id < h0.length := by
   rcases Nat.lt_or_ge id h0.length with h | h
   ·exact h
   ·simp [mpOK, List.getElem?_eq_none h] at hs
  exact (refs id id (place_at hn (hf id hlt))).2.2 _ (s.ext.mp _ _ hs)
 ·obtain ⟨j, o2, _, hρj, hjo, hlv2⟩ := owned_pack hl hb
  exact s.own b ⟨j, o2, hρj, hjo, hlv2⟩
 ·have e : (pack h ord).length = ord.length := by simp [pack]
  rw [e]
  rcases Nat.lt_or_ge ord.length h0.length with hlt | hge
  ·have := hf _ hlt
   rw [List.getElem?_eq_none (Nat.le_refl _)] at this; cases this
  ·exact hge
end Ev
end Go.Proofs.Ytppdfjdfjfoddaa
