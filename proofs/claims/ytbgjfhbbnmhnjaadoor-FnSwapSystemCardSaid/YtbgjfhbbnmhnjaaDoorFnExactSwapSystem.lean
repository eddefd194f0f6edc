/-
  The law: the program's SwapSystem and the reference's answer the same, and share no memory.
-/
import Derived.Test.YtbgjfhbbnmhnjaaDoorSwapS
import Derived.Test.YtbgjfhbbnmhnjaaDoorFnExactAddEdge
set_option linter.unusedSimpArgs false
set_option linter.unusedVariables false
set_option maxRecDepth 8000
set_option pp.maxSteps 6000
set_option maxHeartbeats 4000000
namespace Go.Proofs.YtbgjfhbbnmhnjaaDoor
namespace Ev

theorem kc_i_SwapSystem_m {R : Type} {L n id : Nat} {hq : H} {k : A → H → Option R} (hn : 7 ≤ n) (al st x y : Int) (l : List Edge) (hi : hq[id]? = some (.arr (edgesD l) 3 0)) (hl : l.length ≤ 4294967296) (hL : 2 ^ 60 ≤ L) :
    kCall env (evCall env L n) hq 7 [.agg [.d (.int .i64 al), .d (.int .i64 st), .sl id 0 0 l.length], .d (.int .i64 x), .d (.int .i64 y)] k
    = k (.tup [.agg [.d (.int .i64 (oS (swapS ⟨al, st, l⟩ x y)).al), .d (.int .i64 (oS (swapS ⟨al, st, l⟩ x y)).st), .sl hq.length 0 0 (oS (swapS ⟨al, st, l⟩ x y)).es.length], .d (.bool (swapS ⟨al, st, l⟩ x y).isSome)]) (hq ++ [.arr (edgesD (oS (swapS ⟨al, st, l⟩ x y)).es) (eL (oS (swapS ⟨al, st, l⟩ x y)).es) 0]) := by
  rw [kCall_lay1 hi (by simp [idsL, idsA]) mode_i_SwapSystem (frz_sys rfl) (ev_i_SwapSystem hn al st x y l hl hL _ rfl) (by simp only [cleanA, cleanAs, cleanD, cleanO, clean_edges, Bool.and_self])]
  simp [mapA, mapAs, back, mapO]

end Ev
end Go.Proofs.YtbgjfhbbnmhnjaaDoor
