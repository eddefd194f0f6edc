/-
  Systems, edges, as they are handed to a law.
-/
import Derived.Test.YtidobgmklcbcpaaOpen
import Derived.Test.YtidobgmklcbcpaaEdges
set_option linter.unusedSimpArgs false
set_option linter.unusedVariables false
set_option maxRecDepth 1000000
namespace Go.Proofs.Ytidobgmklcbcpaa
namespace Ev

theorem shp_int {P : Program} {n : Nat} {t : TypeId} {k : IntKind} {ds : List D} (ht : P.underlying t = some (.int k)) (h : Shp P (n + 1) t ds) : ∃ m, ds = [.int k m] ∧ (Lit.int k m).wf = true := by
  simpa only [Shp, ht] using h
theorem shp_slice {P : Program} {n : Nat} {t e : TypeId} {ds : List D} (ht : P.underlying t = some (.slice e)) (h : Shp P (n + 1) t ds) : ∃ css : List (List D), ds = [.ivs css.length css.flatten] ∧ css.length ≤ maxLen ∧ ∀ c ∈ css, Shp P n e c := by
  simpa only [Shp, ht] using h
theorem shp_struct {P : Program} {n : Nat} {t : TypeId} {fs : Array Field} {ds : List D} (ht : P.underlying t = some (.struct fs)) (h : Shp P (n + 1) t ds) : shpL (Shp P n) fs.toList ds := by
  simpa only [Shp, ht] using h
theorem shpL_cons {p : TypeId → List D → Prop} {f : Field} {fs : List Field} {ds : List D} (h : shpL p (f :: fs) ds) : ∃ c r, ds = c ++ r ∧ p f.type c ∧ shpL p fs r := h
theorem shpL_nil {p : TypeId → List D → Prop} {ds : List D} (h : shpL p [] ds) : ds = [] := h

theorem under_lint : Try.prog.underlying 3 = some (.int .i64) := by kernel_rfl

theorem shp_Edge {n : Nat} {ds : List D} (h : Shp Try.prog (n + 2) 41 ds) : ∃ a b c, ds = [.int .i64 a, .int .i64 b, .int .i64 c] := by
  have h1 := shp_struct Try.underlying41 h
  obtain ⟨c0, r0, rfl, k0, h2⟩ := shpL_cons h1
  obtain ⟨c1, r1, rfl, k1, h3⟩ := shpL_cons h2
  obtain ⟨c2, r2, rfl, k2, h4⟩ := shpL_cons h3
  obtain rfl := shpL_nil h4
  obtain ⟨a, rfl, _⟩ := shp_int under_lint k0
  obtain ⟨b, rfl, _⟩ := shp_int under_lint k1
  obtain ⟨c, rfl, _⟩ := shp_int under_lint k2
  exact ⟨a, b, c, rfl⟩

theorem edges_of {p : List D → Prop} (hp : ∀ c, p c → ∃ x y z, c = [D.int .i64 x, .int .i64 y, .int .i64 z]) : ∀ css : List (List D), (∀ c ∈ css, p c) → ∃ l : List Edge, l.length = css.length ∧ css.flatten = edgesD l
  | [], _ => ⟨[], rfl, rfl⟩
  | c :: css, h => by
    obtain ⟨l, h1, h2⟩ := edges_of hp css fun c hc => h c (by simp [hc])
    obtain ⟨x, y, z, rfl⟩ := hp c (h c (by simp))
    exact ⟨⟨x, y, z⟩ :: l, by simp [h1], by rw [edgesD_cons, List.flatten_cons, h2]; rfl⟩

theorem shp_System {n : Nat} {ds : List D} (h : Shp Try.prog (n + 4) 39 ds) : ∃ al st l, ds = [.int .i64 al, .int .i64 st, .ivs (List.length l) (edgesD l)] ∧ l.length ≤ 9223372036854775807 := by
  have h1 := shp_struct Try.underlying39 h
  obtain ⟨c0, r0, rfl, k0, h2⟩ := shpL_cons h1
  obtain ⟨c1, r1, rfl, k1, h3⟩ := shpL_cons h2
  obtain ⟨c2, r2, rfl, k2, h4⟩ := shpL_cons h3
  obtain rfl := shpL_nil h4
  obtain ⟨al, rfl, _⟩ := shp_int under_lint k0
  obtain ⟨st, rfl, _⟩ := shp_int under_lint k1
  obtain ⟨css, rfl, hl, hc⟩ := shp_slice Try.underlying37 k2
  obtain ⟨l, h5, h6⟩ := edges_of (fun c hc => shp_Edge hc) css hc
  refine ⟨al, st, l, ?_, by rw [h5]; simpa [maxLen] using hl⟩
  rw [h6, h5]
  rfl

end Ev
end Go.Proofs.Ytidobgmklcbcpaa
