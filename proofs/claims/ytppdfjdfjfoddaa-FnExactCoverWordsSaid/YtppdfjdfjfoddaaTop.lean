/-
  From the evaluator to a run of the program.
-/
import Derived.Test.YtppdfjdfjfoddaaLib
import Derived.Test.YtppdfjdfjfoddaaGnd
import Derived.Test.YtppdfjdfjfoddaaPrimX
import Derived.Laws.StructEq
import Derived.ChangeSlices
import Derived.RowKit3
namespace Go.Proofs.Ytppdfjdfjfoddaa
namespace Ev
open Go.RowKit
theorem x24d : x1qu Try.prog x1eh := by
 intro t n h
 unfold x1eh at h
 simp at h
theorem x1ri : Try.prog.follows .mixedOrders = true := by kernel_rfl
theorem x246 : EnvOK env := ⟨x24d,x1ri⟩
theorem x1zr : ∀ f g,env.prim f = some g → xy4 gnd env.P f g := by
 have key : ∀ (l : List (Nat × (List A → H → Option (A × H)))),(∀ p ∈ l,xy4 gnd Try.prog p.1 p.2) → ∀ f g,l.lookup f = some g → xy4 gnd Try.prog f g := by
  intro l
  induction l with
  | nil => intro _ f g h; simp at h
  | cons p l ih =>
   intro hp f g h
   obtain ⟨k,q⟩ := p
   rw [List.lookup_cons] at h
   split at h
   ·rename_i he
    have he' : f = k := by simpa using he
    cases h
    subst he'
    exact hp (f,g) (by simp)
   ·exact ih (fun p hm => hp p (by simp [hm])) f g h
 refine key x1jq ?_
 intro p hp
 unfold x1jq at hp
 simp only [List.mem_cons,List.not_mem_nil,or_false] at hp
 rcases hp with rfl
 ·exact x1p1
def xfi (w : World) : Nat → Prop := fun b => b < w.heap.size
theorem run_law {L n : Nat} {f : FuncId} {args : List A} {vs : List Value} {w : World} (he : x2 env L n f args [] = some (.d (.bool true),[])) (hg : xoz gnd w (xfi w)) (ha : ARv [] (fun _ => none) w (xfi w) args vs) :
  Calls Try.prog f vs.toArray w fun e w' => e = .returned (.bool true) ∧ Below w.heap.size w w' := by
 obtain ⟨_,hc⟩ := x1s2 (L := L) x246 x1zr n f args [] _ _ he
 refine (hc (fun _ => none) w (xfi w) vs (xix (fun _ h => h) hg) ha).mono fun e w' hh => ?_
 obtain ⟨v,ρ',I',he',s,hv⟩ := hh
 have hv : v = .bool true := by simpa only [AR,DR] using hv
 subst hv
 have g := xz9 s
 exact ⟨he',g.os,g.tape,g.output,g.size,g.same⟩
def roundsMax : Nat := 2 ^ 70
theorem rounds_le : 2 ^ 60 ≤ roundsMax := by unfold roundsMax; omega
structure IsBytes (w : World) (v : Value) (z : List UInt8) : Prop where
 rel : DR w (xfi w) (.ivs z.length (x26 z)) v
end Ev
end Go.Proofs.Ytppdfjdfjfoddaa
