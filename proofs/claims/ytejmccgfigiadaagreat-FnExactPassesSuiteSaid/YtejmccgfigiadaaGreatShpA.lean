/-
  Automata, as they are handed to a law.
-/
import Derived.Test.YtejmccgfigiadaaGreatShp
import Derived.Test.YtejmccgfigiadaaGreatDistG
set_option linter.unusedSimpArgs false
set_option linter.unusedVariables false
set_option maxRecDepth 1000000
namespace Go.Proofs.YtejmccgfigiadaaGreat
namespace Ev
theorem Q8:Tryz.prog.underlying 3 = some (.int .i64):=kr
theorem aDL:Tryz.prog.underlying 4 = some .bool:=kr
theorem aFw {p:List D → Prop} (hp:∀ c,p c → ∃ m,c = [D.int .i64 m]):∀ css:List (List D),(∀ c ∈ css,p c) → ∃ l:List Int,l.length = css.length ∧ css.flatten = ints l
 | [],_ => ⟨[],rfl,rfl⟩
 | c :: css,h => by
  obtain ⟨l,h1,h2⟩:=aFw hp css fun c hc => h c (by simp [hc])
  obtain ⟨m,rfl⟩:=hp c (h c (by simp))
  exact ⟨m :: l,by simp [h1],by rw [List.flatten_cons,h2]; rfl⟩
theorem aD4 {p:List D → Prop} (hp:∀ c,p c → ∃ m,c = [D.bool m]):∀ css:List (List D),(∀ c ∈ css,p c) → ∃ l:List Bool,l.length = css.length ∧ css.flatten = bools l
 | [],_ => ⟨[],rfl,rfl⟩
 | c :: css,h => by
  obtain ⟨l,h1,h2⟩:=aD4 hp css fun c hc => h c (by simp [hc])
  obtain ⟨m,rfl⟩:=hp c (h c (by simp))
  exact ⟨m :: l,by simp [h1],by rw [List.flatten_cons,h2]; rfl⟩
theorem aF5 {M:Nat} {p:List D → Prop} (hp:∀ c,p c → ∃ r:List Int,c = [rowD r] ∧ r.length ≤ M):∀ css:List (List D),(∀ c ∈ css,p c) → ∃ l:List (List Int),l.length = css.length ∧ css.flatten = rowsD l ∧ ∀ r ∈ l,r.length ≤ M
 | [],_ => ⟨[],rfl,rfl,by simp⟩
 | c :: css,h => by
  obtain ⟨l,h1,h2,h3⟩:=aF5 hp css fun c hc => h c (by simp [hc])
  obtain ⟨r,rfl,hr⟩:=hp c (h c (by simp))
  refine ⟨r :: l,by simp [h1],by rw [List.flatten_cons,h2]; rfl,?_⟩
  intro q hq
  rcases List.mem_cons.1 hq with h4 | h4
  ·subst h4; exact hr
  ·exact h3 q h4
theorem aKV {n:Nat} {ds:List D} (h:Shp Tryz.prog (n + 2) 90 ds):∃ r:List Int,ds = [rowD r] ∧ r.length ≤ 9223372036854775807:=by
 obtain ⟨css,rfl,hl,hc⟩:=MS Tryz.underlying90 h
 obtain ⟨l,h5,h6⟩:=aFw (fun c hc => by obtain ⟨m,hm,_⟩:=aGe Q8 hc; exact ⟨m,hm⟩) css hc
 exact ⟨l,by unfold rowD; rw [h6,h5],by rw [h5]; simpa [maxLen] using hl⟩
theorem shp_Automaton {n:Nat} {ds:List D} (h:Shp Tryz.prog (n + 5) 25 ds):∃ al rs ac,ds = [.int .i64 al,.ivs (List.length rs) (rowsD rs),.ivs (List.length ac) (bools ac)] ∧ rowsLen rs ∧ ac.length ≤ 9223372036854775807:=by
 have h1:=aGB Tryz.underlying25 h
 obtain ⟨c0,r0,rfl,k0,h2⟩:=LW h1
 obtain ⟨c1,r1,rfl,k1,h3⟩:=LW h2
 obtain ⟨c2,r2,rfl,k2,h4⟩:=LW h3
 obtain rfl:=aK1 h4
 obtain ⟨al,rfl,_⟩:=aGe Q8 k0
 obtain ⟨css,rfl,hl,hc⟩:=MS Tryz.underlying22 k1
 obtain ⟨rs,h5,h6,h7⟩:=aF5 (fun c hc => aKV hc) css hc
 obtain ⟨css2,rfl,hl2,hc2⟩:=MS Tryz.underlying23 k2
 obtain ⟨ac,h8,h9⟩:=aD4 (fun c hc => aKS aDL hc) css2 hc2
 refine ⟨al,rs,ac,?_,⟨by rw [h5]; simpa [maxLen] using hl,h7⟩,by rw [h8]; simpa [maxLen] using hl2⟩
 rw [h6,h5,h9,h8]
 rfl
end Ev
end Go.Proofs.YtejmccgfigiadaaGreat
