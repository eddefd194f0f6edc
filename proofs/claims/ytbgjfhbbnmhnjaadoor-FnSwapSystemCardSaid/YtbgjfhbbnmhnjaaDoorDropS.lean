/-
  Searching for an edge, dropping it.
-/
import Derived.Test.YtbgjfhbbnmhnjaaDoorBin
import Derived.Test.YtbgjfhbbnmhnjaaDoorSysI
section
set_option linter.unusedSimpArgs false
set_option linter.unusedVariables false
set_option maxRecDepth 8000
set_option pp.maxSteps 6000
set_option maxHeartbeats 4000000
namespace Go.Proofs.YtbgjfhbbnmhnjaaDoor
namespace Ev

/-! ### copies, cuts -/

/-- A system that is handed back, or none. -/
def oS : Option Sys → Sys
  | none => ⟨0, 0, []⟩
  | some s => s
theorem oS_some {s : Sys} : oS (some s) = s := rfl
theorem oS_none : oS none = ⟨0, 0, []⟩ := rfl
end Ev
end Go.Proofs.YtbgjfhbbnmhnjaaDoor
end

/-!
  What the reference says of dropping an edge; both are the same.
-/
section
set_option linter.unusedSimpArgs false
set_option linter.unusedVariables false
set_option maxRecDepth 8000
set_option pp.maxSteps 6000
set_option maxHeartbeats 4000000
namespace Go.Proofs.YtbgjfhbbnmhnjaaDoor
namespace Ev

/-- A call with frozen arguments, one of which is a slice of data. -/
theorem kCall_frz1 {R : Type} {E : Env} {call : CallF} {h : H} {f : FuncId} {args fs : List A} {r : A} {k : A → H → Option R} {id e g : Nat} {cs : List D} (hi : h[id]? = some (.arr cs e g)) (hid : idsL args = [id]) (hm : (E.hint f).mode = 2) (hr : idsA r = []) (hf : frzAs [.arr cs e g] (mapAs (place [id]) args) = some (fs, [.ice cs e g])) (hc : call f fs [] = some (r, [])) :
    kCall E call h f args k = k r (h.set id (.ice cs e g)) := by
  have hre : reach fuelR h [id] [] = [id] := by
    have e1 : reach fuelR h [id] [] = match h[id]? with
      | some (.box cs) => reach (fuelR - 1) h ([] ++ idsL cs) ([] ++ [id])
      | some (.vec cs _ _) => reach (fuelR - 1) h ([] ++ idsL cs) ([] ++ [id])
      | some .void => reach (fuelR - 1) h [] []
      | some _ => reach (fuelR - 1) h [] ([] ++ [id])
      | none => reach (fuelR - 1) h [] [] := rfl
    rw [e1, hi]; rfl
  have hpk : pack h [id] = [.arr cs e g] := by
    simp only [pack, List.map_cons, List.map_nil, List.getD_eq_getElem?_getD, hi]; rfl
  unfold kCall
  rw [hid, hre, hpk]
  have hc : aCall call E.hint [.arr cs e g] f (mapAs (place [id]) args) = some (r, [.ice cs e g]) := by
    unfold aCall; rw [hm]
    simp only [hf, hc]
  rw [hc]
  have hcl : closed h [id] [id] = true := by
    simp only [closed, List.all_cons, List.all_nil, hi]; simp
  simp only [List.length_cons, List.length_nil, Nat.le_refl, hcl, and_self, if_true, mapA_none r hr]
  simp only [putBack, mapO, List.map_nil, List.append_nil]

theorem frz_sys {al st : Int} {l : List Edge} {id : Nat} {xs : List A} (hx : xs.all still = true) : frzAs [.arr (edgesD l) 3 0] (mapAs (place [id]) (.agg [.d (.int .i64 al), .d (.int .i64 st), .sl id 0 0 l.length] :: xs)) = some (.agg [.d (.int .i64 al), .d (.int .i64 st), .d (.ivs l.length (edgesD l))] :: xs, [.ice (edgesD l) 3 0]) := by
  have h1 : 0 + l.length * 3 ≤ (edgesD l).length := by rw [edgesD_length]; omega
  have h2 : mapAs (place [id]) (.agg [.d (.int .i64 al), .d (.int .i64 st), .sl id 0 0 l.length] :: xs) = .agg [.d (.int .i64 al), .d (.int .i64 st), .sl 0 0 0 l.length] :: xs := by
    simp [mapAs, mapA, place, mapAs_none _ (stills_ids hx)]
  have h3 : frzA [.arr (edgesD l) 3 0] (.agg [.d (.int .i64 al), .d (.int .i64 st), .sl 0 0 0 l.length]) = some (.agg [.d (.int .i64 al), .d (.int .i64 st), .d (.ivs l.length (edgesD l))], [.ice (edgesD l) 3 0]) := by
    simp only [frzA, frzL, listWith, frz, deep, frz0, List.getElem?_cons_zero, true_and, h1, if_true, List.drop_zero, edges_take (Nat.le_refl _), List.set_cons_zero, List.map_cons, List.map_nil]
  rw [h2]
  simp only [frzAs, h3, frzAs_still hx]

end Ev
end Go.Proofs.YtbgjfhbbnmhnjaaDoor
end
