/-
  Regions that draw their order: the order of the text serves every order.
-/
import Derived.Test.YtidobgmklcbcpaaEvCalls
namespace Go.Proofs.Ytidobgmklcbcpaa
namespace Ev

/-! ### objects put at given places -/

def putAt (f : Nat → Option Nat) : H → List Nat → H → H
  | h, p :: ps, o :: os => putAt f (h.set p (mapO f o)) ps os
  | h, _, _ => h

theorem putAt_length (f : Nat → Option Nat) : ∀ (pos : List Nat) (h os : H), (putAt f h pos os).length = h.length
  | [], h, os => by simp [putAt]
  | p :: ps, h, [] => by simp [putAt]
  | p :: ps, h, o :: os => by simp only [putAt]; rw [putAt_length f ps]; simp

theorem putAt_get (f : Nat → Option Nat) : ∀ (pos : List Nat) (h os : H) (id : Nat), pos.Nodup → (∀ p ∈ pos, p < h.length) → os.length = pos.length →
    (putAt f h pos os)[id]? = match place pos id with
      | some k => (os[k]?).map (mapO f)
      | none => h[id]?
  | [], h, os, id, _, _, _ => by simp [putAt, place]
  | p :: ps, h, [], id, _, _, hl => by simp at hl
  | p :: ps, h, o :: os, id, hn, hr, hl => by
    simp only [List.nodup_cons] at hn
    simp only [putAt]
    rw [putAt_get f ps _ os id hn.2 (fun q hq => by simpa using hr q (by simp [hq])) (by simpa using hl)]
    simp only [place]
    by_cases e : p = id
    · subst e
      rw [place_none hn.1, if_pos rfl]
      simp [hr p (by simp)]
    · rw [if_neg e]
      cases hp : place ps id with
      | none => simp [List.getElem?_set_ne e]
      | some k => simp

def mrgAt (pos : List Nat) (ρ ρ1 : Rho) : Rho := fun id =>
  match place pos id with
  | some k => ρ1 k
  | none => ρ id

theorem place_append {xs ys : List Nat} {i k : Nat} (h : place xs i = some k) : place (xs ++ ys) i = some k := by
  induction xs generalizing k with
  | nil => simp [place] at h
  | cons x xs ih =>
    simp only [List.cons_append, place] at h ⊢
    split at h
    · rename_i e; rw [if_pos e]; exact h
    · rename_i e
      rw [if_neg e]
      cases hp : place xs i with
      | none => rw [hp] at h; cases h
      | some m => rw [hp] at h; rw [ih hp]; exact h

/-- A step on a part of memory, what is new being laid at places that were kept free. -/
theorem step_place {h : H} {ρ : Rho} {w : World} {I : Nat → Prop} {ord fresh : List Nat} {h1 : H} {ρ1 : Rho} {w' : World} {I' : Nat → Prop}
    (r : Rel h ρ w I) (hn : (ord ++ fresh).Nodup) (hr : ∀ i ∈ ord, i < h.length) (hv : ∀ i ∈ fresh, h[i]? = some .void) (hlen : h1.length = ord.length + fresh.length) (s : Step (pack h ord) (sub ord ρ) w I h1 ρ1 w' I') :
    Step h ρ w I (putAt (fun (k : Nat) => (ord ++ fresh)[k]?) h (ord ++ fresh) h1) (mrgAt (ord ++ fresh) ρ ρ1) w' I' ∧
    ∀ (id k : Nat), (fun (k : Nat) => (ord ++ fresh)[k]?) id = some k → RefSame h1 ρ1 w' I' id (putAt (fun (k : Nat) => (ord ++ fresh)[k]?) h (ord ++ fresh) h1) (mrgAt (ord ++ fresh) ρ ρ1) w' I' k := by
  have hno : ord.Nodup := (List.nodup_append.1 hn).1
  have hrp : ∀ p ∈ ord ++ fresh, p < h.length := fun p hp => (List.mem_append.1 hp).elim (hr p) (fun h2 => (List.getElem?_eq_some_iff.1 (hv p h2)).1)
  have get := fun id => putAt_get (fun (k : Nat) => (ord ++ fresh)[k]?) (ord ++ fresh) h h1 id hn hrp (by simpa using hlen)
  generalize hf : (fun (k : Nat) => (ord ++ fresh)[k]?) = f at *
  have hfk : ∀ k, f k = (ord ++ fresh)[k]? := fun k => by rw [← hf]
  have loc : ∀ k id, f k = some id → (putAt f h (ord ++ fresh) h1)[id]? = (h1[k]?).map (mapO f) ∧ mrgAt (ord ++ fresh) ρ ρ1 id = ρ1 k := by
    intro k id hk
    rw [hfk] at hk
    have hp := place_at hn hk
    exact ⟨by rw [get, hp], by simp [mrgAt, hp]⟩
  have refs : ∀ k id, f k = some id → RefSame h1 ρ1 w' I' k (putAt f h (ord ++ fresh) h1) (mrgAt (ord ++ fresh) ρ ρ1) w' I' id := fun k id hk =>
    refSame_of (fun o ho => by rw [(loc k id hk).1, ho]; rfl) (loc k id hk).2
  have orig : ∀ id o, (putAt f h (ord ++ fresh) h1)[id]? = some o →
      (∃ k o', f k = some id ∧ h1[k]? = some o' ∧ o = mapO f o' ∧ mrgAt (ord ++ fresh) ρ ρ1 id = ρ1 k) ∨
      (id ∉ ord ∧ h[id]? = some o ∧ mrgAt (ord ++ fresh) ρ ρ1 id = ρ id) := by
    intro id o ho
    rw [get] at ho
    cases hp : place (ord ++ fresh) id with
    | some k =>
      rw [hp] at ho
      simp only [Option.map_eq_some_iff] at ho
      obtain ⟨o', ho', rfl⟩ := ho
      have hb : f k = some id := by rw [hfk]; exact place_some hp
      exact .inl ⟨k, o', hb, ho', rfl, (loc k id hb).2⟩
    | none =>
      rw [hp] at ho
      have hni : id ∉ ord := fun hm => by obtain ⟨k, hk⟩ := place_is_some (List.mem_append_left fresh hm); rw [hk] at hp; cases hp
      exact .inr ⟨hni, ho, by simp [mrgAt, hp]⟩
  have other : ∀ id o b, id ∉ ord → h[id]? = some o → live o → ρ id = some b → ¬ owned (pack h ord) (sub ord ρ) b := by
    intro id o b hni hid hlv hρ ho
    obtain ⟨j, o2, hj, hρj, hjo, hlv2⟩ := owned_pack hr ho
    have := r.inj id j b o o2 hρ hρj hid hjo hlv hlv2
    subst this
    exact hni hj
  have keepOther : ∀ id o b, id ∉ ord → h[id]? = some o → live o → ρ id = some b → w'.heap[b]? = w.heap[b]? := fun id o b hni hid hlv hρ =>
    s.keep.same b (r.own_not_imm ⟨id, o, hρ, hid, hlv⟩).2 (other id o b hni hid hlv hρ)
  have ownSub : ∀ b, owned (pack h ord) (sub ord ρ) b → owned h ρ b := fun b ho => by
    obtain ⟨j, o2, _, hρj, hjo, hlv2⟩ := owned_pack hr ho
    exact ⟨j, o2, hρj, hjo, hlv2⟩
  have packRef : ∀ id k, place ord id = some k → RefSame h ρ w I id (pack h ord) (sub ord ρ) w I k := fun id k hk =>
    refSame_of (fun o ho => pack_at (place_some hk) ho) (by simp [sub, place_some hk])
  have backOf : ∀ id k, place ord id = some k → f k = some id := fun id k hp => by
    rw [hfk]
    exact place_some (place_append hp)
  -- a number that is not of the part has a reference only if it is none of the new ones
  have notFresh : ∀ id, id ∉ ord → (∃ o, h[id]? = some o ∧ o ≠ .void) → place (ord ++ fresh) id = none := fun id hni ⟨o, ho, hne⟩ =>
    place_none fun hm => (List.mem_append.1 hm).elim hni fun h2 => hne (by have := hv id h2; rw [ho] at this; exact Option.some.inj this)
  have ext : Ext h ρ w I (putAt f h (ord ++ fresh) h1) (mrgAt (ord ++ fresh) ρ ρ1) w' I' := by
    refine ⟨s.ext.imm, fun id gen off len a cap hs => ?_, fun id gen b hs => ?_⟩
    · cases hp : place ord id with
      | some k => exact (refs k id (backOf id k hp)).1 _ _ _ _ _ (s.ext.sl _ _ _ _ _ _ ((packRef id k hp).1 _ _ _ _ _ hs))
      | none =>
        have hni : id ∉ ord := fun hm => by obtain ⟨k, hk⟩ := place_is_some hm; rw [hk] at hp; cases hp
        cases hid : h[id]? with
        | none => simp [slOK, hid] at hs
        | some o =>
          have hnv : o ≠ .void := fun e => by rw [e] at hid; simp [slOK, hid] at hs
          have hpn := notFresh id hni ⟨o, hid, hnv⟩
          have hg : (putAt f h (ord ++ fresh) h1)[id]? = h[id]? := by rw [get, hpn]
          have hm : mrgAt (ord ++ fresh) ρ ρ1 id = ρ id := by simp [mrgAt, hpn]
          exact slOK_same s.ext.imm hg hm (fun b hb ⟨o2, ho2, hl2⟩ => keepOther id o2 b hni ho2 hl2 hb) hs
    · cases hp : place ord id with
      | some k => exact (refs k id (backOf id k hp)).2 _ _ (s.ext.pt _ _ _ ((packRef id k hp).2 _ _ hs))
      | none =>
        have hni : id ∉ ord := fun hm => by obtain ⟨k, hk⟩ := place_is_some hm; rw [hk] at hp; cases hp
        cases hid : h[id]? with
        | none => simp [ptOK, hid] at hs
        | some o =>
          have hnv : o ≠ .void := fun e => by rw [e] at hid; simp [ptOK, hid] at hs
          have hpn := notFresh id hni ⟨o, hid, hnv⟩
          have hg : (putAt f h (ord ++ fresh) h1)[id]? = h[id]? := by rw [get, hpn]
          have hm : mrgAt (ord ++ fresh) ρ ρ1 id = ρ id := by simp [mrgAt, hpn]
          exact ptOK_same s.ext.imm hg hm hs
  refine ⟨⟨⟨fun id o ho => ?_, fun id id' b o o' hb hb' ho ho' hlv hlv' => ?_, s.rel.imm⟩, ext, ⟨s.keep.os, s.keep.tape, s.keep.output, s.keep.size, fun b hb hno => s.keep.same b hb (fun h => hno (ownSub b h)), fun b hb => ?_, s.keep.drawn⟩, fun b hb => ?_, by rw [putAt_length]; exact Nat.le_refl _⟩, refs⟩
  · rcases orig id o ho with ⟨k, o', hk, hk1, rfl, hm⟩ | ⟨hni, hid, hm⟩
    · exact OR_ren refs hm (s.rel.obj k o' hk1)
    · refine OR_same ext hm (fun b hb hl => ⟨keepOther id o b hni hid hl hb, fun hI' => ?_⟩) (r.obj id o hid)
      have hno := r.own_not_imm ⟨id, o, hb, hid, hl⟩
      rcases s.keep.new b hI' with h | h | h
      · exact hno.1 h
      · omega
      · exact other id o b hni hid hl hb h
  · rcases orig id o ho with ⟨k, o1, hk, hk1, rfl, hm⟩ | ⟨hni, hid, hm⟩ <;> rcases orig id' o' ho' with ⟨k', o1', hk', hk1', rfl, hm'⟩ | ⟨hni', hid', hm'⟩
    · rw [hm] at hb; rw [hm'] at hb'
      have := s.rel.inj k k' b o1 o1' hb hb' hk1 hk1' ((live_mapO _ _).1 hlv) ((live_mapO _ _).1 hlv')
      subst this
      rw [hk] at hk'; cases hk'; rfl
    · rw [hm] at hb; rw [hm'] at hb'
      exfalso
      rcases s.own b ⟨k, o1, hb, hk1, (live_mapO _ _).1 hlv⟩ with h | h
      · exact other id' _ b hni' hid' hlv' hb' h
      · have := (r.own_not_imm ⟨id', _, hb', hid', hlv'⟩).2; omega
    · rw [hm] at hb; rw [hm'] at hb'
      exfalso
      rcases s.own b ⟨k', o1', hb', hk1', (live_mapO _ _).1 hlv'⟩ with h | h
      · exact other id _ b hni hid hlv hb h
      · have := (r.own_not_imm ⟨id, _, hb, hid, hlv⟩).2; omega
    · rw [hm] at hb; rw [hm'] at hb'
      exact r.inj id id' b o o' hb hb' hid hid' hlv hlv'
  · rcases s.keep.new b hb with h | h | h
    · exact .inl h
    · exact .inr (.inl h)
    · exact .inr (.inr (ownSub b h))
  · obtain ⟨id, o, hm0, ho, hlv⟩ := hb
    rcases orig id o ho with ⟨k, o1, hk, hk1, rfl, hm⟩ | ⟨hni, hid, hm⟩
    · rw [hm] at hm0
      rcases s.own b ⟨k, o1, hm0, hk1, (live_mapO _ _).1 hlv⟩ with h | h
      · exact .inl (ownSub b h)
      · exact .inr h
    · rw [hm] at hm0
      exact .inl ⟨id, o, hm0, hid, hlv⟩

/-! ### what is written where -/

def putW : List (Nat × O) → H → H
  | [], h => h
  | (p, o) :: W, h => putW W (h.set p o)

theorem putAt_putW (f : Nat → Option Nat) : ∀ (pos : List Nat) (h os : H), putAt f h pos os = putW (pos.zip (os.map (mapO f))) h
  | [], h, os => by simp [putAt, putW]
  | p :: ps, h, [] => by simp [putAt, putW]
  | p :: ps, h, o :: os => by simp only [putAt, List.map_cons, List.zip_cons_cons, putW]; exact putAt_putW f ps _ os

theorem putW_length : ∀ (W : List (Nat × O)) (h : H), (putW W h).length = h.length
  | [], h => rfl
  | (p, o) :: W, h => by simp only [putW]; rw [putW_length W]; simp

def wrW (id : Nat) : List (Nat × O) → Option O → Option O
  | [], v => v
  | (p, o) :: W, v => wrW id W (if p = id then v.map (fun _ => o) else v)

theorem putW_get (id : Nat) : ∀ (W : List (Nat × O)) (h : H), (putW W h)[id]? = wrW id W h[id]?
  | [], h => rfl
  | (p, o) :: W, h => by
    simp only [putW, wrW]
    rw [putW_get id W]
    congr 1
    rw [List.getElem?_set]
    by_cases e : p = id
    · subst e
      simp only [if_true]
      by_cases hl : p < h.length
      · simp [hl]
      · simp [hl]
    · simp [e]

theorem wrW_out (id : Nat) : ∀ (W : List (Nat × O)) (v : Option O), id ∉ W.map (·.1) → wrW id W v = v
  | [], v, _ => rfl
  | (p, o) :: W, v, h => by
    simp only [List.map_cons, List.mem_cons, not_or] at h
    simp only [wrW]
    rw [if_neg (Ne.symm h.1)]
    exact wrW_out id W v h.2

/-! ### there and back -/

mutual
theorem mapA_back {ord : List Nat} : ∀ a : A, (∀ i ∈ idsA a, i ∈ ord) → mapA (fun (k : Nat) => ord[k]?) (mapA (place ord) a) = a
  | .d x, _ => by simp only [mapA]
  | .sl id gen off len, h => by
    obtain ⟨k, hk⟩ := place_is_some (h id (by simp [idsA]))
    simp only [mapA, hk, place_some hk]
  | .ptr id gen off, h => by
    obtain ⟨k, hk⟩ := place_is_some (h id (by simp [idsA]))
    simp only [mapA, hk, place_some hk]
  | .clo g caps, h => by simp only [mapA]; rw [mapAs_back caps (fun i hi => h i (by simpa only [idsA] using hi))]
  | .agg cs, h => by simp only [mapA]; rw [mapAs_back cs (fun i hi => h i (by simpa only [idsA] using hi))]
  | .tup cs, h => by simp only [mapA]; rw [mapAs_back cs (fun i hi => h i (by simpa only [idsA] using hi))]
  | .junk, _ => by simp only [mapA]
theorem mapAs_back {ord : List Nat} : ∀ as : List A, (∀ i ∈ idsL as, i ∈ ord) → mapAs (fun (k : Nat) => ord[k]?) (mapAs (place ord) as) = as
  | [], _ => by simp only [mapAs]
  | a :: as, h => by
    simp only [idsL, List.mem_append] at h
    simp only [mapAs]
    rw [mapA_back a (fun i hi => h i (.inl hi)), mapAs_back as (fun i hi => h i (.inr hi))]
end

/-- The objects that an object refers to. -/
def refsO : O → List Nat
  | .box cs => idsL cs
  | .vec cs _ _ => idsL cs
  | _ => []

theorem closed_box {h : H} {ord ids : List Nat} (hc : closed h ord ids = true) : (∀ i ∈ ids, i ∈ ord) ∧ ∀ i ∈ ord, ∀ o, h[i]? = some o → ∀ j ∈ refsO o, j ∈ ord := by
  simp only [closed, Bool.and_eq_true, List.all_eq_true, List.contains_iff_mem] at hc
  refine ⟨hc.1, fun i hi o ho j hj => ?_⟩
  have := hc.2 i hi
  rw [ho] at this
  cases o with
  | box cs =>
    simp only [List.all_eq_true, List.contains_iff_mem] at this
    exact this j hj
  | vec cs e g =>
    simp only [List.all_eq_true, List.contains_iff_mem] at this
    exact this j hj
  | _ => simp [refsO] at hj

theorem mapO_back {h : H} {ord ids : List Nat} (hc : closed h ord ids = true) {i : Nat} {o : O} (hi : i ∈ ord) (ho : h[i]? = some o) : mapO (fun (k : Nat) => ord[k]?) (mapO (place ord) o) = o := by
  cases o with
  | box cs => simp only [mapO]; rw [mapAs_back cs ((closed_box hc).2 i hi _ ho)]
  | vec cs e g => simp only [mapO]; rw [mapAs_back cs ((closed_box hc).2 i hi _ ho)]
  | _ => simp only [mapO]

theorem put_pack {h : H} {ord ids : List Nat} (hc : closed h ord ids = true) (hn : ord.Nodup) (hl : ∀ i ∈ ord, i < h.length) : putAt (fun (k : Nat) => ord[k]?) h ord (pack h ord) = h := by
  apply List.ext_getElem?
  intro id
  rw [putAt_get _ ord h _ id hn hl (by simp [pack])]
  cases hp : place ord id with
  | none => rfl
  | some k =>
    simp only []
    have hm := place_mem hp
    obtain ⟨o, ho⟩ : ∃ o, h[id]? = some o := ⟨h[id]'(hl id hm), List.getElem?_eq_getElem _⟩
    rw [pack_at (place_some hp) ho, ho, Option.map_some, mapO_back hc hm ho]

/-- What is reached, in a memory that is the same at all that is reached. -/
theorem reach_same {h h' : H} {S : List Nat} (hs : ∀ i ∈ S, h[i]? = h'[i]?) (hc : ∀ i ∈ S, ∀ o, h[i]? = some o → ∀ j ∈ refsO o, j ∈ S) : ∀ (n : Nat) (todo acc : List Nat), (∀ i ∈ todo, i ∈ S) → reach n h' todo acc = reach n h todo acc
  | 0, _, _, _ => rfl
  | _ + 1, [], _, _ => rfl
  | n + 1, i :: todo, acc, ht => by
    have hi := ht i (by simp)
    have ht' : ∀ j ∈ todo, j ∈ S := fun j hj => ht j (by simp [hj])
    simp only [reach]
    rw [← hs i hi]
    split
    · exact reach_same hs hc n _ _ ht'
    · split
      · rename_i cs ho
        exact reach_same hs hc n _ _ fun j hj => (List.mem_append.1 hj).elim (ht' j) (hc i hi _ ho j)
      · rename_i cs _ _ ho
        exact reach_same hs hc n _ _ fun j hj => (List.mem_append.1 hj).elim (ht' j) (hc i hi _ ho j)
      · exact reach_same hs hc n _ _ ht'
      · exact reach_same hs hc n _ _ ht'
      · exact reach_same hs hc n _ _ ht'

theorem pack_same {h h' : H} {S : List Nat} (hs : ∀ i ∈ S, h[i]? = h'[i]?) : pack h' S = pack h S := by
  unfold pack
  exact List.map_congr_left fun i hi => by rw [List.getD_eq_getElem?_getD, List.getD_eq_getElem?_getD, hs i hi]

theorem all_congr {α : Type} {f g : α → Bool} : ∀ {l : List α}, (∀ x ∈ l, f x = g x) → l.all f = l.all g
  | [], _ => rfl
  | x :: l, h => by simp only [List.all_cons]; rw [h x (by simp), all_congr fun y hy => h y (by simp [hy])]

theorem closed_same {h h' : H} {S ids : List Nat} (hs : ∀ i ∈ S, h[i]? = h'[i]?) : closed h' S ids = closed h S ids := by
  unfold closed
  congr 1
  exact all_congr fun i hi => by rw [hs i hi]

/-! ### an operation, at places kept free for it -/

def isVoid (h : H) (i : Nat) : Bool :=
  match h[i]? with
  | some .void => true
  | _ => false

theorem isVoid_iff {h : H} {i : Nat} : isVoid h i = true ↔ h[i]? = some .void := by
  unfold isVoid; split
  · rename_i e; simp [e]
  · rename_i e; simpa using e

/-- Off the objects on a list: what is yielded, what is written, what is touched. -/
def stepMem (E : Env) (call : CallF) (thaw : List Nat) (base k : Nat) (o : Oper) (vs : List A) (h : H) (ord : List Nat) : Option (A × List (Nat × O) × Foot) :=
  match evOp E call thaw (pack h ord) o (mapAs (place ord) vs) with
  | some (a, h1) =>
    if decide (h1.length = ord.length + k) && closed h ord (idsL vs) && (List.range' base k).all (isVoid h) then
      if readOp E o.op vs && k == 0 then some (mapA (fun (j : Nat) => ord[j]?) a, [], { ids := ord, ro := true })
      else some (mapA (fun (j : Nat) => (ord ++ List.range' base k)[j]?) a, (ord ++ List.range' base k).zip (h1.map (mapO (fun (j : Nat) => (ord ++ List.range' base k)[j]?))), { ids := ord ++ List.range' base k, ro := false })
    else none
  | none => none

def stepAt (E : Env) (call : CallF) (thaw : List Nat) (ops : List Oper) (base k : Nat) (o : Oper) (s : List A) (h : H) : Option (A × List (Nat × O) × Foot) :=
  match aWant ops s o with
  | some true => match aEvals s (opds o.op) with
    | some vs =>
      if pureOp o.op then
        match evOp E call thaw h o vs with
        | some (a, _) => some (a, [], {})
        | none => none
      else stepMem E call thaw base k o vs h (reach fuelR h (idsL vs) [])
    | none => none
  | some false => some (.d .undef, [], {})
  | none => none

theorem one_map {vs : List A} {k k' : A → Option (A × H)} {g : A × H → A × H} (h : ∀ a, k' a = (k a).map g) : one vs k' = (one vs k).map g := by
  unfold one; split
  · exact h _
  · rfl

theorem two_map {vs : List A} {k k' : A → A → Option (A × H)} {g : A × H → A × H} (h : ∀ a b, k' a b = (k a b).map g) : two vs k' = (two vs k).map g := by
  unfold two; split
  · exact h _ _
  · rfl

theorem withInt_map {a : A} {k k' : Int → Option (A × H)} {g : A × H → A × H} (h : ∀ i, k' i = (k i).map g) : withInt a k' = (withInt a k).map g := by
  unfold withInt; split
  · exact h _
  · rfl

theorem map_heap (h h2 : H) (x : Option A) : x.map (fun r => (r, h2)) = (x.map fun r => (r, h)).map (fun r => (r.1, h2)) := by cases x <;> rfl

theorem pure_same {E : Env} {call : CallF} {thaw : List Nat} {o : Oper} {vs : List A} (hp : pureOp o.op = true) (h h2 : H) : evOp E call thaw h2 o vs = (evOp E call thaw h o vs).map (fun r => (r.1, h2)) := by
  obtain ⟨dst, op, type, pos, after, guard⟩ := o
  cases op <;> simp only [pureOp, Bool.false_eq_true] at hp <;> simp only [evOp]
  case move x => exact one_map fun a => rfl
  case pick a b c => unfold evPick; split <;> rfl
  case build t ps => exact map_heap h h2 _
  case nilCheck x => exact one_map fun a => by unfold evNilCheck; split <;> rfl
  case binOp =>
    refine two_map fun a b => ?_
    unfold evBin
    split
    · rfl
    · split
      · rfl
      · exact map_heap h h2 _
  case unOp => exact one_map fun a => map_heap h h2 _
  case makeFunc f a b =>
    unfold evFunc; split
    · split <;> rfl
    · rfl
  case fieldAddr t x f => exact one_map fun a => by cases fieldOff E.P t f <;> first | rfl | exact map_heap h h2 _
  case field t x f =>
    refine one_map fun a => ?_
    unfold evField; split
    · exact map_heap h h2 _
    · rfl
  case index t x y => exact two_map fun a b => withInt_map fun i => map_heap h h2 _
  case extract x i =>
    refine one_map fun a => ?_
    unfold evExtract; split
    · exact map_heap h h2 _
    · rfl

theorem heap_of {h h1 : H} {x : Option A} {a : A} (he : x.map (fun r => (r, h)) = some (a, h1)) : h1 = h := by
  cases x with
  | none => cases he
  | some v => cases he; rfl

theorem pure_heap {E : Env} {call : CallF} {thaw : List Nat} {o : Oper} {vs : List A} (hp : pureOp o.op = true) {h h1 : H} {a : A} (he : evOp E call thaw h o vs = some (a, h1)) : h1 = h := by
  have := pure_same (E := E) (call := call) (thaw := thaw) (vs := vs) hp h h
  rw [he] at this
  simpa using this

theorem read_heap {E : Env} {call : CallF} {thaw : List Nat} {o : Oper} {vs : List A} {f : Nat → Option Nat} (hp : readOp E o.op vs = true) {h h1 : H} {a : A} (he : evOp E call thaw h o (mapAs f vs) = some (a, h1)) : h1 = h := by
  obtain ⟨dst, op, type, pos, after, guard⟩ := o
  cases op <;> simp only [readOp, Bool.false_eq_true] at hp <;> simp only [evOp] at he
  case load t x =>
    obtain ⟨b, _, he⟩ := one_some he
    exact heap_of he
  case convert s d x =>
    obtain ⟨b, _, he⟩ := one_some he
    unfold aConvert at he
    split at he <;> try (cases he; rfl)
    · rename_i hd _
      unfold elemT at hp
      rw [hd] at hp
      cases hp
    · cases he
    · repeat' split at he
      all_goals first
        | (cases he; done)
        | (simp only [Option.map_eq_some_iff, Prod.mk.injEq] at he
           obtain ⟨_, _, _, rfl⟩ := he
           rfl)
        | (rename_i hq; simp at hq; done)
    · cases he
  case slice t x lo hi mx =>
    split at he
    · unfold evSlice at he
      split at he <;> first
        | (cases he; done)
        | exact heap_of he
    · cases he
  case indexAddr t x y =>
    obtain ⟨a1, b, _, he⟩ := two_some he
    obtain ⟨_, i, _, he⟩ := withInt_some he
    exact heap_of he
  case call c =>
    have mode : ∀ (f : FuncId) (args : List A), (E.hint f).mode = 1 → aCall call E.hint h f args = some (a, h1) → h1 = h := by
      intro f args hm hcall
      unfold aCall at hcall
      rw [hm] at hcall
      simp only [] at hcall
      split at hcall
      · split at hcall
        · split at hcall
          · cases hcall; rfl
          · cases hcall
        · cases hcall
      · cases hcall
    unfold evCallee at he
    cases hcal : c.callee with
    | invoke r m => rw [hcal] at he; cases he
    | builtin b =>
      rw [hcal] at he hp
      cases b <;> simp only [Bool.false_eq_true] at hp
      case len =>
        simp only [aBuiltin] at he
        split at he
        · exact heap_of he
        · rename_i hq _ _; cases hq
        · cases he
    | value fv =>
      rw [hcal] at he hp
      simp only [] at he
      cases vs with
      | nil => simp at hp
      | cons g vs =>
        simp only [mapAs] at he
        cases g with
        | clo f caps =>
          simp only [beq_iff_eq] at hp
          simp only [mapA, aCallee] at he
          exact mode f _ hp he
        | d x =>
          cases x with
          | fn f caps =>
            simp only [beq_iff_eq] at hp
            simp only [mapA, aCallee] at he
            exact mode f _ hp he
          | _ => simp at hp
        | _ => simp at hp

theorem reach_real : ∀ (n : Nat) (h : H) (todo acc : List Nat), (∀ i ∈ acc, ∃ o, h[i]? = some o ∧ o ≠ .void) → ∀ i ∈ reach n h todo acc, ∃ o, h[i]? = some o ∧ o ≠ .void
  | 0, _, _, _, hn => by simpa only [reach] using hn
  | _ + 1, _, [], _, hn => by simpa only [reach] using hn
  | n + 1, h, i :: todo, acc, hn => by
    simp only [reach]
    split
    · exact reach_real n h todo acc hn
    · have key : ∀ o, h[i]? = some o → o ≠ .void → ∀ j ∈ acc ++ [i], ∃ o, h[j]? = some o ∧ o ≠ .void := by
        intro o ho hne j hj
        simp only [List.mem_append, List.mem_singleton] at hj
        rcases hj with hj | rfl
        · exact hn j hj
        · exact ⟨o, ho, hne⟩
      split
      · rename_i cs ho; exact reach_real n h _ _ (key _ ho (by simp))
      · rename_i cs _ _ ho; exact reach_real n h _ _ (key _ ho (by simp))
      · exact reach_real n h _ _ hn
      · rename_i o _ _ hne ho; exact reach_real n h _ _ (key _ ho (fun e => hne e))
      · exact reach_real n h _ _ hn

theorem pos_nodup {h : H} {ids : List Nat} {base k : Nat} (hv : ∀ i ∈ List.range' base k, h[i]? = some .void) : (reach fuelR h ids [] ++ List.range' base k).Nodup := by
  rw [List.nodup_append]
  refine ⟨reach_nodup _ _ _ _ (by simp), List.nodup_range', fun a ha b hb e => ?_⟩
  subst e
  obtain ⟨o, ho, hne⟩ := reach_real fuelR h ids [] (by simp) a ha
  rw [hv a hb] at ho
  cases ho
  exact hne rfl

section
variable {E : Env} {call : CallF}

theorem stepAt_ok (hE : EnvOK E) (hc : CallOK E.P call) {h : H} {ρ : Rho} {w : World} {I : Nat → Prop} {thaw : List Nat} {ops : List Oper} {base k : Nat} {o : Oper} {s : List A} {x : A} {W : List (Nat × O)} {fp : Foot} {act : Act} (he : stepAt E call thaw ops base k o s h = some (x, W, fp)) (r : Rel h ρ w I) (hs : ARv h ρ w I s act.tmps.toList)
    (K : Act → World → Prop) (Q : Exit → Act → World → Prop) (hK : ∀ act' ρ' w' I', Step h ρ w I (putW W h) ρ' w' I' → ARv (putW W h) ρ' w' I' (aPut s o.dst x) act'.tmps.toList → act'.defers = act.defers → K act' w') :
    if Region.wanted o (yielded ops.toArray act.tmps) then o.wp E.P act w K Q else K (act.put o.dst undef) w := by
  unfold stepAt at he
  split at he
  · rename_i hw
    rw [want_ok hw hs, if_pos rfl]
    split at he
    · rename_i vs hvs
      have ha := aEvals_ok hs hvs
      split at he
      · rename_i hp
        split at he
        · rename_i x1 h1 hop
          cases he
          have hh := pure_heap hp hop
          subst hh
          exact evOp_ok hE hc hop r ha K Q fun v ρ' w' I' s1 hx => hK _ ρ' w' I' s1 (put_ok (ARv_ext s1.ext s _ hs) hx) (put_defers _ _ _)
        · cases he
      · unfold stepMem at he
        split at he
        · rename_i x1 h1 hop
          split at he
          · rename_i hcond
            simp only [Bool.and_eq_true, decide_eq_true_eq, List.all_eq_true] at hcond
            obtain ⟨⟨hlen, hcl⟩, hv⟩ := hcond
            have hv : ∀ i ∈ List.range' base k, h[i]? = some .void := fun i hi => isVoid_iff.1 (hv i hi)
            have hl := reach_lt fuelR h (idsL vs) [] (by simp)
            have hn := pos_nodup (ids := idsL vs) hv
            have hno := (List.nodup_append.1 hn).1
            have hr := rel_pack r hno hl
            have hren : ∀ id k, place (reach fuelR h (idsL vs) []) id = some k → RefSame h ρ w I id (pack h (reach fuelR h (idsL vs) [])) (sub (reach fuelR h (idsL vs) []) ρ) w I k := fun id k hk =>
              refSame_of (fun o ho => pack_at (place_some hk) ho) (by simp [sub, place_some hk])
            have hleaf := evOp_ok hE hc hop hr (ARv_ren (imm_refl w I) hren vs _ ha)
            split at he
            · rename_i hro
              cases he
              simp only [Bool.and_eq_true, beq_iff_eq] at hro
              have hh := read_heap hro.1 hop
              refine hleaf K Q fun v ρ' w' I' s1 hx => ?_
              have hst := step_place (fresh := []) r (by simpa using hno) hl (by simp) (by rw [hlen, hro.2]; simp) s1
              rw [hh] at hst hx
              simp only [List.append_nil] at hst
              rw [put_pack hcl hno hl] at hst
              exact hK _ _ w' I' hst.1 (put_ok (ARv_ext hst.1.ext s _ hs) (AR_ren (imm_refl _ _) hst.2 x1 v hx)) (put_defers _ _ _)
            · cases he
              refine hleaf K Q fun v ρ' w' I' s1 hx => ?_
              obtain ⟨s2, refs⟩ := step_place r hn hl hv (by simpa using hlen) s1
              rw [putAt_putW] at s2 refs
              exact hK _ _ w' I' s2 (put_ok (ARv_ext s2.ext s _ hs) (AR_ren (imm_refl _ _) refs x1 v hx)) (put_defers _ _ _)
          · cases he
        · cases he
    · cases he
  · rename_i hw
    rw [want_ok hw hs]
    simp only [Bool.false_eq_true, if_false]
    cases he
    exact hK _ ρ w I (.refl r) (put_ok hs (by simp only [AR, DR])) (put_defers _ _ _)
  · cases he

/-! ### what an operation looks at -/

theorem opds_sub : ∀ (op : Op) (x : Operand), x ∈ opds op → x ∈ op.operands := by
  intro op x hx
  cases op <;> simp only [opds, Op.operands] at hx ⊢ <;> try (simp at hx; done)
  case slice t y lo hi mx =>
    simp only [List.mem_cons, List.mem_append, Option.mem_toList] at hx
    cases lo <;> cases hi <;> cases mx <;> simp only [Option.some.injEq, reduceCtorEq, or_false, false_or, Option.toArray_none, Option.toArray_some] at hx ⊢ <;> simp <;> grind
  case call c =>
    simp only [Call.operands]
    cases hcal : c.callee <;> rw [hcal] at hx <;> simp at hx ⊢
    · exact hx
    · exact hx
  all_goals (first | (simpa using hx) | (simp at hx ⊢; simp_all))

theorem aEvals_same {s s' : List A} : ∀ (xs : List Operand), (∀ t, .tmp t ∈ xs → s[t]? = s'[t]?) → aEvals s xs = aEvals s' xs
  | [], _ => rfl
  | x :: xs, h => by
    simp only [aEvals]
    rw [aEvals_same xs fun t ht => h t (by simp [ht])]
    have : aEval s x = aEval s' x := by
      cases x with
      | tmp t =>
        simp only [aEval]
        rw [List.getD_eq_getElem?_getD, List.getD_eq_getElem?_getD, h t (by simp)]
      | _ => rfl
    rw [this]

theorem aWant_same {ops : List Oper} {s s' : List A} {o : Oper} (h : ∀ t ∈ o.looksAt ops.toArray, s[t]? = s'[t]?) : aWant ops s o = aWant ops s' o := by
  unfold aWant
  cases hg : o.guard with
  | none => rfl
  | some jw =>
    obtain ⟨j, want⟩ := jw
    simp only []
    cases hd : (ops[j]?).bind (·.dst) with
    | none => rfl
    | some d =>
      simp only []
      rw [h d (by simp [Oper.looksAt, hg, hd])]

theorem stepMem_ids {thaw : List Nat} {base k : Nat} {o : Oper} {vs : List A} {h : H} {ord : List Nat} {a : A} {W : List (Nat × O)} {fp : Foot} (he : stepMem E call thaw base k o vs h ord = some (a, W, fp)) :
    (∀ i ∈ ord, i ∈ fp.ids) ∧ closed h ord (idsL vs) = true ∧ (∀ i ∈ List.range' base k, i ∈ fp.ids) ∧ (fp.ro = true → W = []) ∧ ∀ i ∈ W.map (·.1), i ∈ fp.ids := by
  unfold stepMem at he
  split at he
  · split at he
    · rename_i hcond
      simp only [Bool.and_eq_true] at hcond
      split at he
      · rename_i hro
        simp only [Bool.and_eq_true, beq_iff_eq] at hro
        cases he
        exact ⟨fun _ h => h, hcond.1.2, by rw [hro.2]; simp, fun _ => rfl, by simp⟩
      · cases he
        refine ⟨fun i hi => List.mem_append_left _ hi, hcond.1.2, fun i hi => List.mem_append_right _ hi, by simp, fun i hi => ?_⟩
        obtain ⟨p, hp, rfl⟩ := List.mem_map.1 hi
        exact (List.of_mem_zip hp).1
    · cases he
  · cases he

theorem stepMem_same {thaw : List Nat} {base k : Nat} {o : Oper} {vs : List A} {h h' : H} {ord : List Nat} (h1 : ∀ i ∈ ord, h[i]? = h'[i]?) (h2 : ∀ i ∈ List.range' base k, h[i]? = h'[i]?) : stepMem E call thaw base k o vs h' ord = stepMem E call thaw base k o vs h ord := by
  unfold stepMem
  rw [pack_same h1, closed_same h1, all_congr (f := isVoid h') (g := isVoid h) fun i hi => by unfold isVoid; rw [h2 i hi]]

theorem stepAt_writes {thaw : List Nat} {ops : List Oper} {base k : Nat} {o : Oper} {s : List A} {h : H} {a : A} {W : List (Nat × O)} {fp : Foot} (he : stepAt E call thaw ops base k o s h = some (a, W, fp)) :
    (fp.ro = true → W = []) ∧ ∀ i ∈ W.map (·.1), i ∈ fp.ids := by
  unfold stepAt at he
  split at he
  · split at he
    · split at he
      · split at he
        · cases he; simp
        · cases he
      · exact (stepMem_ids he).2.2.2
    · cases he
  · cases he; simp
  · cases he

theorem stepAt_same {thaw : List Nat} {ops : List Oper} {base k : Nat} {o : Oper} {s s' : List A} {h h' : H} {a : A} {W : List (Nat × O)} {fp : Foot} (he : stepAt E call thaw ops base k o s h = some (a, W, fp))
    (hs : ∀ t ∈ o.looksAt ops.toArray, s[t]? = s'[t]?) (hh : ∀ i ∈ fp.ids, h[i]? = h'[i]?) : stepAt E call thaw ops base k o s' h' = some (a, W, fp) := by
  unfold stepAt at he ⊢
  rw [← aWant_same hs]
  split at he
  · rw [← aEvals_same (opds o.op) fun t ht => hs t (List.mem_append_left _ (List.mem_filterMap.2 ⟨.tmp t, by simpa using opds_sub _ _ ht, rfl⟩))]
    split at he
    · split at he
      · rename_i hp
        split at he
        · rename_i x1 h1 hop
          cases he
          rw [if_pos hp, pure_same hp h h', hop]
          rfl
        · cases he
      · rename_i hp
        rw [if_neg hp]
        obtain ⟨i1, i2, i3, _⟩ := stepMem_ids he
        have hb := closed_box i2
        rw [reach_same (S := reach fuelR h (idsL _) []) (fun i hi => hh i (i1 i hi)) hb.2 fuelR _ [] hb.1]
        rw [stepMem_same (fun i hi => hh i (i1 i hi)) (fun i hi => hh i (i3 i hi))]
        exact he
    · cases he
  · exact he
  · cases he

end

end Ev
end Go.Proofs.Ytidobgmklcbcpaa
