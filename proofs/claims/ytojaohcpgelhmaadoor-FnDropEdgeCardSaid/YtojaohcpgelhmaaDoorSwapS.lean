/-
  Edges in order: sorting at once, and one by one; the reference's sorting; systems with exchanged letters.
-/
import Derived.Test.YtojaohcpgelhmaaDoorDropS
import Derived.Test.YtojaohcpgelhmaaDoorRead
section
set_option linter.unusedSimpArgs false
set_option linter.unusedVariables false
set_option maxRecDepth 8000
set_option pp.maxSteps 6000
set_option maxHeartbeats 4000000
namespace Go.Proofs.YtojaohcpgelhmaaDoor
namespace Ev

def e3 (x : Int × Int × Int) : Edge := ⟨x.1, x.2.1, x.2.2⟩
def leE (a b : Edge) : Bool := !beforeE b a
def sortE (l : List Edge) : List Edge := l.mergeSort leE

theorem leE_trans (a b c : Edge) (h1 : leE a b = true) (h2 : leE b c = true) : leE a c = true := by
  unfold leE at *
  simp only [Bool.not_eq_true'] at *
  cases h : beforeE c a with
  | false => rfl
  | true =>
    cases h3 : beforeE a b with
    | true => have := beforeE_trans h h3; rw [this] at h2; cases h2
    | false =>
      have e := beforeE_total h1 h3
      subst e; rw [h] at h2; cases h2
theorem leE_total (a b : Edge) : (leE a b || leE b a) = true := by
  unfold leE
  cases h1 : beforeE b a with
  | false => rfl
  | true => rw [beforeE_asymm h1]; rfl

theorem sortE_perm (l : List Edge) : (sortE l).Perm l := List.mergeSort_perm l leE
theorem sortE_sorted (l : List Edge) : (sortE l).Pairwise fun a b => leE a b = true := List.pairwise_mergeSort leE_trans leE_total l
theorem sorted_unique {l m : List Edge} (h1 : l.Pairwise fun a b => leE a b = true) (h2 : m.Pairwise fun a b => leE a b = true) (hp : l.Perm m) : l = m :=
  hp.eq_of_pairwise (fun a b _ _ h3 h4 => by
    unfold leE at h3 h4
    simp only [Bool.not_eq_true'] at h3 h4
    exact beforeE_total h4 h3) h1 h2

/-- How many edges in front come before an edge. -/
def posE (e : Edge) : List Edge → Nat
  | [] => 0
  | f :: l => if beforeE f e = true then posE e l + 1 else 0

def insE (e : Edge) (l : List Edge) : List Edge := l.take (posE e l) ++ e :: l.drop (posE e l)

theorem posE_le (e : Edge) : ∀ l, posE e l ≤ l.length
  | [] => Nat.le_refl _
  | f :: l => by
    simp only [posE, List.length_cons]
    have := posE_le e l
    split <;> omega

theorem posE_before (e : Edge) : ∀ (l : List Edge) (k : Nat), k < posE e l → beforeE (l.getD k default) e = true
  | [], k, h => by simp [posE] at h
  | f :: l, k, h => by
    simp only [posE] at h
    split at h
    · rename_i hf
      cases k with
      | zero => simpa using hf
      | succ k => simpa using posE_before e l k (by omega)
    · omega

theorem posE_at (e : Edge) : ∀ (l : List Edge), posE e l < l.length → beforeE (l.getD (posE e l) default) e = false
  | [], h => by simp at h
  | f :: l, h => by
    simp only [posE] at h ⊢
    by_cases hf : beforeE f e = true
    · rw [if_pos hf] at h ⊢
      simp only [List.getD_cons_succ]
      exact posE_at e l (by simpa using h)
    · rw [if_neg hf]
      simpa using hf

theorem insE_perm (e : Edge) (l : List Edge) : (insE e l).Perm (e :: l) := by
  unfold insE
  refine (List.perm_middle).trans ?_
  rw [List.take_append_drop]

theorem insE_cons (e f : Edge) (l : List Edge) : insE e (f :: l) = if beforeE f e = true then f :: insE e l else e :: f :: l := by
  unfold insE
  simp only [posE]
  split <;> rfl

theorem insE_sorted (e : Edge) : ∀ l : List Edge, (l.Pairwise fun a b => leE a b = true) → (insE e l).Pairwise fun a b => leE a b = true
  | [], _ => by simp [insE, posE]
  | f :: l, h => by
    rw [insE_cons]
    obtain ⟨h1, h2⟩ := List.pairwise_cons.1 h
    by_cases hf : beforeE f e = true
    · rw [if_pos hf]
      refine List.Pairwise.cons ?_ (insE_sorted e l h2)
      intro x hx
      rcases List.mem_cons.1 ((insE_perm e l).mem_iff.1 hx) with rfl | hx
      · unfold leE; rw [beforeE_asymm hf]; rfl
      · exact h1 x hx
    · rw [if_neg hf]
      have hf' : leE e f = true := by unfold leE; simpa using hf
      refine List.Pairwise.cons ?_ h
      intro x hx
      rcases List.mem_cons.1 hx with rfl | hx
      · exact hf'
      · exact leE_trans _ _ _ hf' (h1 x hx)

/-! ### the reference's sorting -/

end Ev
end Go.Proofs.YtojaohcpgelhmaaDoor
end

/-!
  Systems with exchanged letters: the reference and the program.
-/
section
set_option linter.unusedSimpArgs false
set_option linter.unusedVariables false
set_option maxRecDepth 8000
set_option pp.maxSteps 6000
set_option maxHeartbeats 4000000
namespace Go.Proofs.YtojaohcpgelhmaaDoor
namespace Ev

/-- A lent call that reaches one slice of data and lays one object. -/
theorem kCall_lay1 {R : Type} {E : Env} {call : CallF} {h : H} {f : FuncId} {args fs : List A} {r : A} {o : O} {k : A → H → Option R} {id e g : Nat} {cs : List D} (hi : h[id]? = some (.arr cs e g)) (hid : idsL args = [id]) (hm : (E.hint f).mode = 3) (hf : frzAs [.arr cs e g] (mapAs (place [id]) args) = some (fs, [.ice cs e g])) (hc : call f fs [] = some (r, [o])) (hcl : (cleanA r && cleanO o) = true) :
    kCall E call h f args k = k (mapA (back [] h.length 1) r) (h ++ [mapO (back [] h.length 1) o]) := by
  have hre : reach fuelR h [id] [] = [id] := by
    have e1 : reach fuelR h [id] [] = match h[id]? with
      | some (.box cs) => reach (fuelR - 1) h ([] ++ idsL cs) ([] ++ [id])
      | some (.vec cs _ _) => reach (fuelR - 1) h ([] ++ idsL cs) ([] ++ [id])
      | some .void => reach (fuelR - 1) h [] []
      | some _ => reach (fuelR - 1) h [] ([] ++ [id])
      | none => reach (fuelR - 1) h [] [] := rfl
    rw [e1, hi]; rfl
  have hpk : pack h [id] = [.arr cs e g] := by
    simp only [pack, List.map_cons, List.map_nil, List.getD_eq_getElem?_getD, hi]; rfl
  have hcl' : closed h [id] [id] = true := by
    simp only [closed, List.all_cons, List.all_nil, hi]; simp
  have hl : ∀ i ∈ [id], i < h.length := by
    intro i hi'
    simp only [List.mem_singleton] at hi'
    subst hi'; exact lt_of_get hi
  unfold kCall
  rw [hid, hre, hpk]
  have hcc : aCall call E.hint [.arr cs e g] f (mapAs (place [id]) args) = some (mapA (back [] 1 1) r, [.arr cs e g, mapO (back [] 1 1) o]) := by
    unfold aCall; rw [hm]
    simp only [hf, hc, List.all_cons, List.all_nil, Bool.and_true, hcl, if_true]
    rfl
  rw [hcc]
  have hb : ∀ i, (back [] 1 1 i).bind (back [id] h.length 2) = back [] h.length 1 i := back_back [id] h.length 1
  have hp := putBack_same (rest := [mapO (back [] 1 1) o]) (f := back [id] h.length 2) (fun i hi => by unfold back; rw [if_pos hi]) hcl' (by simp) hl
  rw [hpk] at hp
  simp only [List.length_cons, List.length_nil, Nat.le_add_left, hcl', and_self, if_true]
  have hp' : putBack (back [id] h.length 2) h [id] [.arr cs e g, mapO (back [] 1 1) o] = h ++ [mapO (back [id] h.length 2) (mapO (back [] 1 1) o)] := hp
  show k (mapA (back [id] h.length 2) (mapA (back [] 1 1) r)) (putBack (back [id] h.length 2) h [id] [.arr cs e g, mapO (back [] 1 1) o]) = _
  rw [hp', mapA_mapA hb, mapO_mapO hb]

end Ev
end Go.Proofs.YtojaohcpgelhmaaDoor
end
