/-
  The exact laws' own functions, at edges and systems: copies, comparisons, marks.
-/
import Derived.Test.YtidobgmklcbcpaaEdges
set_option linter.unusedSimpArgs false
set_option linter.unusedVariables false
set_option maxRecDepth 8000
set_option pp.maxSteps 6000
set_option maxHeartbeats 4000000
namespace Go.Proofs.Ytidobgmklcbcpaa
namespace Ev

/-- A call that lays memory, its arguments being data. -/
theorem kCall_new {R : Type} {E : Env} {call : CallF} {h h2 : H} {f : FuncId} {args : List A} {r : A} {o : O} {k : A → H → Option R} (hs : args.all still = true) (hm : (E.hint f).mode = 2) (hc : call f args [] = some (r, o :: h2)) :
    kCall E call h f args k = k (mapA (back [] h.length (h2.length + 1)) (mapA (back [] 0 (h2.length + 1)) r)) (h ++ ((o :: h2).map (mapO (back [] 0 (h2.length + 1)))).map (mapO (back [] h.length (h2.length + 1)))) := by
  have hcall : aCall call E.hint [] f args = some (mapA (back [] 0 (h2.length + 1)) r, (o :: h2).map (mapO (back [] 0 (h2.length + 1)))) := by
    unfold aCall
    rw [hm]
    simp only [frzAs_still hs, hc, List.length_nil, List.length_cons, List.nil_append]
  unfold kCall
  rw [stills_ids hs, reach_none, mapAs_none _ (stills_ids hs)]
  have : pack h [] = [] := rfl
  rw [this, hcall]
  simp only [List.length_nil, Nat.zero_le, true_and, closed, List.all_nil, Bool.and_self, if_true, putBack, List.length_map, List.length_cons]

/-- Edges with numbers counted up. -/
def marks : Nat → Int → List Edge
  | 0, _ => []
  | j + 1, k => ⟨k, k + 1, k + 1 + 1⟩ :: marks j (k + 1 + 1 + 1)

/-- A call by reference that reaches one slice of data. -/
theorem kCall_ref {R : Type} {E : Env} {call : CallF} {h : H} {f : FuncId} {args : List A} {r : A} {k : A → H → Option R} {id e g e2 g2 : Nat} {cs cs2 : List D} (hi : h[id]? = some (.arr cs e g)) (hid : idsL args = [id]) (hm : (E.hint f).mode = 0) (hr : idsA r = []) (he : call f (mapAs (place [id]) args) [.arr cs e g] = some (r, [.arr cs2 e2 g2])) :
    kCall E call h f args k = k r (h.set id (.arr cs2 e2 g2)) := by
  have hre : reach fuelR h [id] [] = [id] := by
    have e1 : reach fuelR h [id] [] = match h[id]? with
      | some (.box cs) => reach (fuelR - 1) h ([] ++ idsL cs) ([] ++ [id])
      | some (.vec cs _ _) => reach (fuelR - 1) h ([] ++ idsL cs) ([] ++ [id])
      | some .void => reach (fuelR - 1) h [] []
      | some _ => reach (fuelR - 1) h [] ([] ++ [id])
      | none => reach (fuelR - 1) h [] [] := rfl
    rw [e1, hi]; rfl
  have hpk : pack h [id] = [.arr cs e g] := by
    simp only [pack, List.map_cons, List.map_nil, List.getD_eq_getElem?_getD, hi]; rfl
  unfold kCall
  rw [hid, hre, hpk]
  have hc : aCall call E.hint [.arr cs e g] f (mapAs (place [id]) args) = some (r, [.arr cs2 e2 g2]) := by
    unfold aCall; rw [hm]; exact he
  rw [hc]
  have hcl : closed h [id] [id] = true := by
    simp only [closed, List.all_cons, List.all_nil, hi]; simp
  simp only [List.length_cons, List.length_nil, Nat.le_refl, hcl, and_self, if_true, mapA_none r hr]
  simp only [putBack, mapO, List.map_nil, List.append_nil]

end Ev
end Go.Proofs.Ytidobgmklcbcpaa
