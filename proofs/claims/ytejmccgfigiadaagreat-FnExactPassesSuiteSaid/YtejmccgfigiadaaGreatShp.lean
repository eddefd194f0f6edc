/-
  Systems, edges, as they are handed to a law.
-/
import Derived.Test.YtejmccgfigiadaaGreatOpen
import Derived.Test.YtejmccgfigiadaaGreatSortLayX
set_option linter.unusedSimpArgs false
set_option linter.unusedVariables false
set_option maxRecDepth 1000000
namespace Go.Proofs.YtejmccgfigiadaaGreat
namespace Ev
theorem ar_int {h:H} {ρ:Rho} {w:World} {I:Nat → Prop} {n:Int}:AR h ρ w I (nI n) (.int .i64 n):=by simp only [AR,DR]
theorem aGe {P:Program} {n:Nat} {t:TypeId} {k:IntKind} {ds:List D} (ht:P.underlying t = some (.int k)) (h:Shp P (n + 1) t ds):∃ m,ds = [.int k m] ∧ (Lit.int k m).wf = true:=by
 simpa only [Shp,ht] using h
theorem aKS {P:Program} {n:Nat} {t:TypeId} {ds:List D} (ht:P.underlying t = some .bool) (h:Shp P (n + 1) t ds):∃ b,ds = [.bool b]:=by
 simpa only [Shp,ht] using h
theorem MS {P:Program} {n:Nat} {t e:TypeId} {ds:List D} (ht:P.underlying t = some (.slice e)) (h:Shp P (n + 1) t ds):∃ css:List (List D),ds = [.ivs css.length css.flatten] ∧ css.length ≤ maxLen ∧ ∀ c ∈ css,Shp P n e c:=by
 simpa only [Shp,ht] using h
theorem aGB {P:Program} {n:Nat} {t:TypeId} {fs:Array Field} {ds:List D} (ht:P.underlying t = some (.struct fs)) (h:Shp P (n + 1) t ds):shpL (Shp P n) fs.toList ds:=by
 simpa only [Shp,ht] using h
theorem LW {p:TypeId → List D → Prop} {f:Field} {fs:List Field} {ds:List D} (h:shpL p (f :: fs) ds):∃ c r,ds = c ++ r ∧ p f.type c ∧ shpL p fs r:=h
theorem aK1 {p:TypeId → List D → Prop} {ds:List D} (h:shpL p [] ds):ds = []:=h
end Ev
end Go.Proofs.YtejmccgfigiadaaGreat
