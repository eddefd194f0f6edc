/-
  Lent calls: what is handed over is read off memory.
-/
import Derived.Test.YtojaohcpgelhmaaDoorEvWalk
set_option linter.unusedSimpArgs false
set_option linter.unusedVariables false
namespace Go.Proofs.YtojaohcpgelhmaaDoor
namespace Ev

/-! ### reading -/

theorem lt_of_get {α : Type} {l : List α} {i : Nat} {a : α} (h : l[i]? = some a) : i < l.length := (List.getElem?_eq_some_iff.1 h).1

/-! ### objects reached -/

def kids (h : H) (i : Nat) : List Nat := match h[i]? with
  | some (.box cs) => idsL cs
  | some (.vec cs _ _) => idsL cs
  | _ => []

/-- An object that is there, and all that it leads to. -/
inductive Okay (h : H) : Nat → Prop where
  | mk (i : Nat) (o : O) (hi : h[i]? = some o) (hv : o ≠ .void) (hk : ∀ j ∈ kids h i, Okay h j) : Okay h i

/-! ### reading what was packed -/

section
variable {h : H} {ord : List Nat}

end

section
variable {R : Type} {E : Env} {call : CallF} {h : H} {f : FuncId} {args : List A} {k : A → H → Option R}

/-! ### calls that lay memory -/

mutual
theorem mapA_mapA {f g q : Nat → Option Nat} (hq : ∀ i, (g i).bind f = q i) : ∀ a : A, mapA f (mapA g a) = mapA q a
  | .d x => by simp only [mapA]
  | .sl id gen off len => by
    simp only [mapA]
    have := hq id
    cases hg : g id with
    | none => rw [hg] at this; rw [← this]; simp only [mapA, Option.bind_none]
    | some j => rw [hg] at this; simp only [mapA, ← this, Option.bind_some]
  | .ptr id gen off => by
    simp only [mapA]
    have := hq id
    cases hg : g id with
    | none => rw [hg] at this; rw [← this]; simp only [mapA, Option.bind_none]
    | some j => rw [hg] at this; simp only [mapA, ← this, Option.bind_some]
  | .clo c caps => by simp only [mapA, mapAs_mapAs hq caps]
  | .agg cs => by simp only [mapA, mapAs_mapAs hq cs]
  | .tup cs => by simp only [mapA, mapAs_mapAs hq cs]
  | .junk => by simp only [mapA]
theorem mapAs_mapAs {f g q : Nat → Option Nat} (hq : ∀ i, (g i).bind f = q i) : ∀ as : List A, mapAs f (mapAs g as) = mapAs q as
  | [] => by simp only [mapAs]
  | a :: as => by simp only [mapAs, mapA_mapA hq a, mapAs_mapAs hq as]
end

theorem mapO_mapO {f g q : Nat → Option Nat} (hq : ∀ i, (g i).bind f = q i) (o : O) : mapO f (mapO g o) = mapO q o := by
  cases o <;> simp only [mapO, mapAs_mapAs hq]

theorem back_back (ord : List Nat) (b n : Nat) (i : Nat) : (back [] ord.length n i).bind (back ord b (ord.length + n)) = back [] b n i := by
  unfold back
  simp only [List.length_nil, Nat.not_lt_zero, if_false, Nat.sub_zero]
  by_cases h : i < n
  · simp only [if_pos h, Option.bind_some]
    rw [if_neg (by omega), if_pos (by omega)]
    congr 1; omega
  · simp only [if_neg h, Option.bind_none]

theorem putBack_same {h : H} {ord ids : List Nat} {rest : H} {f : Nat → Option Nat} (hf : ∀ i, i < ord.length → f i = ord[i]?) (hc : closed h ord ids = true) (hn : ord.Nodup) (hl : ∀ i ∈ ord, i < h.length) : putBack f h ord (pack h ord ++ rest) = h ++ rest.map (mapO f) := by
  have key : ∀ (ord' : List Nat) (p h' : H), p.length = ord'.length → putBack f h' ord' (p ++ rest) = putBack f h' ord' p ++ rest.map (mapO f) := by
    intro ord'
    induction ord' with
    | nil => intro p h' hp; have : p = [] := List.length_eq_zero_iff.1 hp; subst this; simp [putBack]
    | cons i ord' ih =>
      intro p h' hp
      cases p with
      | nil => simp at hp
      | cons o p => simp only [List.cons_append, putBack]; exact ih p _ (by simpa using hp)
  rw [key ord (pack h ord) h (by simp [pack])]
  congr 1
  have e : putBack f h ord (pack h ord) = putBack (fun (k : Nat) => ord[k]?) h ord (pack h ord) := by
    have aux : ∀ (ord' : List Nat) (p h' : H), (∀ o ∈ p, mapO f o = mapO (fun (k : Nat) => ord[k]?) o) → p.length = ord'.length → putBack f h' ord' p = putBack (fun (k : Nat) => ord[k]?) h' ord' p := by
      intro ord'
      induction ord' with
      | nil => intro p h' _ hp; have : p = [] := List.length_eq_zero_iff.1 hp; subst this; simp [putBack]
      | cons i ord' ih =>
        intro p h' ho hp
        cases p with
        | nil => simp at hp
        | cons o p => simp only [putBack, ho o (by simp)]; exact ih p _ (fun o ho' => ho o (by simp [ho'])) (by simpa using hp)
    refine aux ord _ h ?_ (by simp [pack])
    intro o ho
    simp only [pack, List.mem_map] at ho
    obtain ⟨i, hi, rfl⟩ := ho
    rw [mapO_mapO (q := fun j => (place ord j).bind f) (fun _ => rfl), mapO_mapO (q := fun j => (place ord j).bind f) (fun j => by
      cases hp : place ord j with
      | none => rfl
      | some k => simp only [Option.bind_some]; rw [hf k (place_lt hp)])]
  rw [e, putBack_pack hc hn hl]

end

end Ev
end Go.Proofs.YtojaohcpgelhmaaDoor
