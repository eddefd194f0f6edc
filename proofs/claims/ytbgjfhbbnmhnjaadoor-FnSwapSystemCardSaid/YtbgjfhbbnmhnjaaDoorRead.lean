/-
  Searching for an edge, dropping it.
-/
import Derived.Test.YtbgjfhbbnmhnjaaDoorBin
import Derived.Test.YtbgjfhbbnmhnjaaDoorSysI
import Derived.Test.YtbgjfhbbnmhnjaaDoorEvWalk
section
set_option linter.unusedSimpArgs false
set_option linter.unusedVariables false
set_option maxRecDepth 8000
set_option pp.maxSteps 6000
set_option maxHeartbeats 4000000
namespace Go.Proofs.YtbgjfhbbnmhnjaaDoor
namespace Ev

/-! ### copies, cuts -/

/-- A system that is handed back, or none. -/
def oS : Option Sys → Sys
  | none => ⟨0, 0, []⟩
  | some s => s
theorem oS_some {s : Sys} : oS (some s) = s := rfl
theorem oS_none : oS none = ⟨0, 0, []⟩ := rfl
end Ev
end Go.Proofs.YtbgjfhbbnmhnjaaDoor
end

/-!
  What the reference says of dropping an edge; both are the same.
-/
section
set_option linter.unusedSimpArgs false
set_option linter.unusedVariables false
set_option maxRecDepth 8000
set_option pp.maxSteps 6000
set_option maxHeartbeats 4000000
namespace Go.Proofs.YtbgjfhbbnmhnjaaDoor
namespace Ev

/-- A call with frozen arguments, one of which is a slice of data. -/
theorem kCall_frz1 {R : Type} {E : Env} {call : CallF} {h : H} {f : FuncId} {args fs : List A} {r : A} {k : A → H → Option R} {id e g : Nat} {cs : List D} (hi : h[id]? = some (.arr cs e g)) (hid : idsL args = [id]) (hm : (E.hint f).mode = 2) (hr : idsA r = []) (hf : frzAs [.arr cs e g] (mapAs (place [id]) args) = some (fs, [.ice cs e g])) (hc : call f fs [] = some (r, [])) :
    kCall E call h f args k = k r (h.set id (.ice cs e g)) := by
  have hre : reach fuelR h [id] [] = [id] := by
    have e1 : reach fuelR h [id] [] = match h[id]? with
      | some (.box cs) => reach (fuelR - 1) h ([] ++ idsL cs) ([] ++ [id])
      | some (.vec cs _ _) => reach (fuelR - 1) h ([] ++ idsL cs) ([] ++ [id])
      | some .void => reach (fuelR - 1) h [] []
      | some _ => reach (fuelR - 1) h [] ([] ++ [id])
      | none => reach (fuelR - 1) h [] [] := rfl
    rw [e1, hi]; rfl
  have hpk : pack h [id] = [.arr cs e g] := by
    simp only [pack, List.map_cons, List.map_nil, List.getD_eq_getElem?_getD, hi]; rfl
  unfold kCall
  rw [hid, hre, hpk]
  have hc : aCall call E.hint [.arr cs e g] f (mapAs (place [id]) args) = some (r, [.ice cs e g]) := by
    unfold aCall; rw [hm]
    simp only [hf, hc]
  rw [hc]
  have hcl : closed h [id] [id] = true := by
    simp only [closed, List.all_cons, List.all_nil, hi]; simp
  simp only [List.length_cons, List.length_nil, Nat.le_refl, hcl, and_self, if_true, mapA_none r hr]
  simp only [putBack, mapO, List.map_nil, List.append_nil]

theorem frz_sys {al st : Int} {l : List Edge} {id : Nat} {xs : List A} (hx : xs.all still = true) : frzAs [.arr (edgesD l) 3 0] (mapAs (place [id]) (.agg [.d (.int .i64 al), .d (.int .i64 st), .sl id 0 0 l.length] :: xs)) = some (.agg [.d (.int .i64 al), .d (.int .i64 st), .d (.ivs l.length (edgesD l))] :: xs, [.ice (edgesD l) 3 0]) := by
  have h1 : 0 + l.length * 3 ≤ (edgesD l).length := by rw [edgesD_length]; omega
  have h2 : mapAs (place [id]) (.agg [.d (.int .i64 al), .d (.int .i64 st), .sl id 0 0 l.length] :: xs) = .agg [.d (.int .i64 al), .d (.int .i64 st), .sl 0 0 0 l.length] :: xs := by
    simp [mapAs, mapA, place, mapAs_none _ (stills_ids hx)]
  have h3 : frzA [.arr (edgesD l) 3 0] (.agg [.d (.int .i64 al), .d (.int .i64 st), .sl 0 0 0 l.length]) = some (.agg [.d (.int .i64 al), .d (.int .i64 st), .d (.ivs l.length (edgesD l))], [.ice (edgesD l) 3 0]) := by
    simp only [frzA, frzL, listWith, frz, deep, frz0, List.getElem?_cons_zero, true_and, h1, if_true, List.drop_zero, edges_take (Nat.le_refl _), List.set_cons_zero, List.map_cons, List.map_nil]
  rw [h2]
  simp only [frzAs, h3, frzAs_still hx]

end Ev
end Go.Proofs.YtbgjfhbbnmhnjaaDoor
end

/-!
  Lent calls: what is handed over is read off memory.
-/
section
set_option linter.unusedSimpArgs false
set_option linter.unusedVariables false
namespace Go.Proofs.YtbgjfhbbnmhnjaaDoor
namespace Ev

/-! ### reading -/

theorem lt_of_get {α : Type} {l : List α} {i : Nat} {a : α} (h : l[i]? = some a) : i < l.length := (List.getElem?_eq_some_iff.1 h).1

/-! ### objects reached -/

def kids (h : H) (i : Nat) : List Nat := match h[i]? with
  | some (.box cs) => idsL cs
  | some (.vec cs _ _) => idsL cs
  | _ => []

/-- An object that is there, and all that it leads to. -/
inductive Okay (h : H) : Nat → Prop where
  | mk (i : Nat) (o : O) (hi : h[i]? = some o) (hv : o ≠ .void) (hk : ∀ j ∈ kids h i, Okay h j) : Okay h i

/-! ### reading what was packed -/

section
variable {h : H} {ord : List Nat}

end

section
variable {R : Type} {E : Env} {call : CallF} {h : H} {f : FuncId} {args : List A} {k : A → H → Option R}

/-! ### calls that lay memory -/

mutual
theorem mapA_mapA {f g q : Nat → Option Nat} (hq : ∀ i, (g i).bind f = q i) : ∀ a : A, mapA f (mapA g a) = mapA q a
  | .d x => by simp only [mapA]
  | .sl id gen off len => by
    simp only [mapA]
    have := hq id
    cases hg : g id with
    | none => rw [hg] at this; rw [← this]; simp only [mapA, Option.bind_none]
    | some j => rw [hg] at this; simp only [mapA, ← this, Option.bind_some]
  | .ptr id gen off => by
    simp only [mapA]
    have := hq id
    cases hg : g id with
    | none => rw [hg] at this; rw [← this]; simp only [mapA, Option.bind_none]
    | some j => rw [hg] at this; simp only [mapA, ← this, Option.bind_some]
  | .clo c caps => by simp only [mapA, mapAs_mapAs hq caps]
  | .agg cs => by simp only [mapA, mapAs_mapAs hq cs]
  | .tup cs => by simp only [mapA, mapAs_mapAs hq cs]
  | .junk => by simp only [mapA]
theorem mapAs_mapAs {f g q : Nat → Option Nat} (hq : ∀ i, (g i).bind f = q i) : ∀ as : List A, mapAs f (mapAs g as) = mapAs q as
  | [] => by simp only [mapAs]
  | a :: as => by simp only [mapAs, mapA_mapA hq a, mapAs_mapAs hq as]
end

theorem mapO_mapO {f g q : Nat → Option Nat} (hq : ∀ i, (g i).bind f = q i) (o : O) : mapO f (mapO g o) = mapO q o := by
  cases o <;> simp only [mapO, mapAs_mapAs hq]

theorem back_back (ord : List Nat) (b n : Nat) (i : Nat) : (back [] ord.length n i).bind (back ord b (ord.length + n)) = back [] b n i := by
  unfold back
  simp only [List.length_nil, Nat.not_lt_zero, if_false, Nat.sub_zero]
  by_cases h : i < n
  · simp only [if_pos h, Option.bind_some]
    rw [if_neg (by omega), if_pos (by omega)]
    congr 1; omega
  · simp only [if_neg h, Option.bind_none]

theorem putBack_same {h : H} {ord ids : List Nat} {rest : H} {f : Nat → Option Nat} (hf : ∀ i, i < ord.length → f i = ord[i]?) (hc : closed h ord ids = true) (hn : ord.Nodup) (hl : ∀ i ∈ ord, i < h.length) : putBack f h ord (pack h ord ++ rest) = h ++ rest.map (mapO f) := by
  have key : ∀ (ord' : List Nat) (p h' : H), p.length = ord'.length → putBack f h' ord' (p ++ rest) = putBack f h' ord' p ++ rest.map (mapO f) := by
    intro ord'
    induction ord' with
    | nil => intro p h' hp; have : p = [] := List.length_eq_zero_iff.1 hp; subst this; simp [putBack]
    | cons i ord' ih =>
      intro p h' hp
      cases p with
      | nil => simp at hp
      | cons o p => simp only [List.cons_append, putBack]; exact ih p _ (by simpa using hp)
  rw [key ord (pack h ord) h (by simp [pack])]
  congr 1
  have e : putBack f h ord (pack h ord) = putBack (fun (k : Nat) => ord[k]?) h ord (pack h ord) := by
    have aux : ∀ (ord' : List Nat) (p h' : H), (∀ o ∈ p, mapO f o = mapO (fun (k : Nat) => ord[k]?) o) → p.length = ord'.length → putBack f h' ord' p = putBack (fun (k : Nat) => ord[k]?) h' ord' p := by
      intro ord'
      induction ord' with
      | nil => intro p h' _ hp; have : p = [] := List.length_eq_zero_iff.1 hp; subst this; simp [putBack]
      | cons i ord' ih =>
        intro p h' ho hp
        cases p with
        | nil => simp at hp
        | cons o p => simp only [putBack, ho o (by simp)]; exact ih p _ (fun o ho' => ho o (by simp [ho'])) (by simpa using hp)
    refine aux ord _ h ?_ (by simp [pack])
    intro o ho
    simp only [pack, List.mem_map] at ho
    obtain ⟨i, hi, rfl⟩ := ho
    rw [mapO_mapO (q := fun j => (place ord j).bind f) (fun _ => rfl), mapO_mapO (q := fun j => (place ord j).bind f) (fun j => by
      cases hp : place ord j with
      | none => rfl
      | some k => simp only [Option.bind_some]; rw [hf k (place_lt hp)])]
  rw [e, putBack_pack hc hn hl]

end

end Ev
end Go.Proofs.YtbgjfhbbnmhnjaaDoor
end
