/-
  Automata, as they are handed to a law.
-/
import Derived.Test.YtejmccgfigiadaaGreatShp
import Derived.Test.YtejmccgfigiadaaGreatLett
set_option linter.unusedSimpArgs false
set_option linter.unusedVariables false
set_option maxRecDepth 1000000
namespace Go.Proofs.YtejmccgfigiadaaGreat
namespace Ev
theorem aFn:Tryz.prog.underlying 3 = some (.int .i64):=kr
theorem aO3:Tryz.prog.underlying 4 = some .bool:=kr
theorem aQm {p:List D → Prop} (hp:∀ c,p c → ∃ m,c = [D.int .i64 m]):∀ css:List (List D),(∀ c ∈ css,p c) → ∃ l:List Int,l.length = css.length ∧ css.flatten = ints l
 | [],_ => ⟨[],rfl,rfl⟩
 | c :: css,h => by
  obtain ⟨l,h1,h2⟩:=aQm hp css fun c hc => h c (by simp [hc])
  obtain ⟨m,rfl⟩:=hp c (h c (by simp))
  exact ⟨m :: l,by simp [h1],by rw [List.flatten_cons,h2]; rfl⟩
theorem aNH {p:List D → Prop} (hp:∀ c,p c → ∃ m,c = [D.bool m]):∀ css:List (List D),(∀ c ∈ css,p c) → ∃ l:List Bool,l.length = css.length ∧ css.flatten = bools l
 | [],_ => ⟨[],rfl,rfl⟩
 | c :: css,h => by
  obtain ⟨l,h1,h2⟩:=aNH hp css fun c hc => h c (by simp [hc])
  obtain ⟨m,rfl⟩:=hp c (h c (by simp))
  exact ⟨m :: l,by simp [h1],by rw [List.flatten_cons,h2]; rfl⟩
theorem aP5 {M:Nat} {p:List D → Prop} (hp:∀ c,p c → ∃ r:List Int,c = [rowD r] ∧ r.length ≤ M):∀ css:List (List D),(∀ c ∈ css,p c) → ∃ l:List (List Int),l.length = css.length ∧ css.flatten = rowsD l ∧ ∀ r ∈ l,r.length ≤ M
 | [],_ => ⟨[],rfl,rfl,by simp⟩
 | c :: css,h => by
  obtain ⟨l,h1,h2,h3⟩:=aP5 hp css fun c hc => h c (by simp [hc])
  obtain ⟨r,rfl,hr⟩:=hp c (h c (by simp))
  refine ⟨r :: l,by simp [h1],by rw [List.flatten_cons,h2]; rfl,?_⟩
  intro q hq
  rcases List.mem_cons.1 hq with h4 | h4
  ·subst h4; exact hr
  ·exact h3 q h4
theorem aXc {n:Nat} {ds:List D} (h:Shp Tryz.prog (n + 2) 90 ds):∃ r:List Int,ds = [rowD r] ∧ r.length ≤ 9223372036854775807:=by
 obtain ⟨css,rfl,hl,hc⟩:=aCK Tryz.underlying90 h
 obtain ⟨l,h5,h6⟩:=aQm (fun c hc => by obtain ⟨m,hm,_⟩:=aQq aFn hc; exact ⟨m,hm⟩) css hc
 exact ⟨l,by unfold rowD; rw [h6,h5],by rw [h5]; simpa [maxLen] using hl⟩
theorem shp_Automaton {n:Nat} {ds:List D} (h:Shp Tryz.prog (n + 5) 25 ds):∃ al rs ac,ds = [.int .i64 al,.ivs (List.length rs) (rowsD rs),.ivs (List.length ac) (bools ac)] ∧ rowsLen rs ∧ ac.length ≤ 9223372036854775807:=by
 have h1:=aRE Tryz.underlying25 h
 obtain ⟨c0,r0,rfl,k0,h2⟩:=aCA h1
 obtain ⟨c1,r1,rfl,k1,h3⟩:=aCA h2
 obtain ⟨c2,r2,rfl,k2,h4⟩:=aCA h3
 obtain rfl:=aXl h4
 obtain ⟨al,rfl,_⟩:=aQq aFn k0
 obtain ⟨css,rfl,hl,hc⟩:=aCK Tryz.underlying22 k1
 obtain ⟨rs,h5,h6,h7⟩:=aP5 (fun c hc => aXc hc) css hc
 obtain ⟨css2,rfl,hl2,hc2⟩:=aCK Tryz.underlying23 k2
 obtain ⟨ac,h8,h9⟩:=aNH (fun c hc => aW7 aO3 hc) css2 hc2
 refine ⟨al,rs,ac,?_,⟨by rw [h5]; simpa [maxLen] using hl,h7⟩,by rw [h8]; simpa [maxLen] using hl2⟩
 rw [h6,h5,h9,h8]
 rfl
end Ev
end Go.Proofs.YtejmccgfigiadaaGreat
