/-
  The law: the program's AddEdge and the reference's answer the same, and share no memory.
-/
import Derived.Test.YtidobgmklcbcpaaAddL
import Derived.Test.YtidobgmklcbcpaaFnExactDropEdge
set_option linter.unusedSimpArgs false
set_option linter.unusedVariables false
set_option maxRecDepth 8000
set_option pp.maxSteps 6000
set_option maxHeartbeats 4000000
namespace Go.Proofs.Ytidobgmklcbcpaa
namespace Ev

theorem clean_edgesA : ∀ l : List Edge, (edgesD l).all cleanD = true
  | [] => rfl
  | e :: l => by rw [edgesD_cons]; simp [cleanD, clean_edgesA l]

theorem kc_i_AddEdge {R : Type} {L n id : Nat} {hq : H} {k : A → H → Option R} (hn : 7 ≤ n) (al st a b c : Int) (l : List Edge) (hi : hq[id]? = some (.arr (edgesD l) 3 0)) (hl : l.length ≤ 4294967290) (hL : 2 ^ 60 ≤ L) :
    kCall env (evCall env L n) hq 40 [.agg [.d (.int .i64 al), .d (.int .i64 st), .sl id 0 0 l.length], .agg [.d (.int .i64 a), .d (.int .i64 b), .d (.int .i64 c)]] k
    = k (.tup [.agg [.d (.int .i64 (oS (addS ⟨al, st, l⟩ ⟨a, b, c⟩)).al), .d (.int .i64 (oS (addS ⟨al, st, l⟩ ⟨a, b, c⟩)).st), .sl hq.length 0 0 (oS (addS ⟨al, st, l⟩ ⟨a, b, c⟩)).es.length], .d (.bool (addS ⟨al, st, l⟩ ⟨a, b, c⟩).isSome)]) (hq ++ [.arr (edgesD (oS (addS ⟨al, st, l⟩ ⟨a, b, c⟩)).es) (oZ (addS ⟨al, st, l⟩ ⟨a, b, c⟩)) 0]) := by
  rw [kCall_lay1 hi (by simp [idsL, idsA]) mode_i_AddEdge (frz_sys rfl) (ev_i_AddEdge hn al st a b c l hl hL _ (add_same _ _)) (by simp only [cleanA, cleanAs, cleanD, cleanO, clean_edgesA, Bool.and_self])]
  simp [mapA, mapAs, back, mapO]

end Ev
end Go.Proofs.Ytidobgmklcbcpaa
