/-
  From the evaluator to a run of the program.
-/
import Derived.Test.YtejmccgfigiadaaGreatLib
import Derived.Test.YtejmccgfigiadaaGreatGnd
import Derived.Test.YtejmccgfigiadaaGreatPrimK
import Derived.Test.YtejmccgfigiadaaGreatPrimX
import Derived.Laws.StructEq
import Derived.ChangeSlices
import Derived.RowKit3
namespace Go.Proofs.YtejmccgfigiadaaGreat
namespace Ev
open Go.RowKit
theorem aMN:aHb Tryz.prog ZJ:=by
 intro t n h
 unfold ZJ at h
 simp at h
theorem aHy:Tryz.prog.follows .mixedOrders = true:=kr
theorem aMt:EnvOK env:=⟨aMN,aHy⟩
theorem aKc:∀ f g,env.prim f = some g → A1 gnd env.P f g:=by
 have key:∀ (l:List (Nat × (List A → H → Option (A × H)))),(∀ p ∈ l,A1 gnd Tryz.prog p.1 p.2) → ∀ f g,l.lookup f = some g → A1 gnd Tryz.prog f g:=by
  intro l
  induction l with
  | nil => intro _ f g h; simp at h
  | cons p l ih =>
   intro hp f g h
   obtain ⟨k,q⟩:=p
   rw [List.lookup_cons] at h
   split at h
   ·rename_i he
    have he':f = k:=by simpa using he
    cases h
    subst he'
    exact hp (f,g) (by simp)
   ·exact ih (fun p hm => hp p (by simp [hm])) f g h
 refine key aCv ?_
 intro p hp
 unfold aCv at hp
 simp only [List.mem_cons,List.not_mem_nil,or_false] at hp
 rcases hp with rfl | rfl
 ·exact (aE2 rfl)
 ·exact aE6
def oQ (w:World):Nat → Prop:=fun b => b < w.heap.size
theorem run_law {L n:Nat} {f:FuncId} {args:List A} {vs:List Value} {w:World} (he:aA env L n f args [] = some (.d (.bool true),[])) (hg:xU gnd w (oQ w)) (ha:ARv [] (fun _ => none) w (oQ w) args vs) :
  Calls Tryz.prog f vs.toArray w fun e w' => e = .returned (.bool true) ∧ Below w.heap.size w w':=by
 obtain ⟨_,hc⟩:=aGU (L:=L) aMt aKc n f args [] _ _ he
 refine (hc (fun _ => none) w (oQ w) vs (sA (fun _ h => h) hg) ha).mono fun e w' hh => ?_
 obtain ⟨v,ρ',I',he',s,hv⟩:=hh
 have hv:v = .bool true:=by simpa only [AR,DR] using hv
 subst hv
 have g:=HZ s
 exact ⟨he',g.os,g.tape,g.output,g.size,g.same⟩
def roundsMax:Nat:=2 ^ 70
theorem rounds_le:2 ^ 60 ≤ roundsMax:=by unfold roundsMax; omega
structure IsBytes (w:World) (v:Value) (z:List UInt8):Prop where
 rel:DR w (oQ w) (.ivs z.length (bS z)) v
end Ev
end Go.Proofs.YtejmccgfigiadaaGreat
