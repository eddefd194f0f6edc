/-
  The states to which a word leads in a system.
-/
import Derived.Test.YtojaohcpgelhmaaDoorMoves
import Derived.Test.YtojaohcpgelhmaaDoorDropS
set_option linter.unusedSimpArgs false
set_option linter.unusedVariables false
set_option maxRecDepth 8000
set_option pp.maxSteps 6000
set_option maxHeartbeats 4000000
namespace Go.Proofs.YtojaohcpgelhmaaDoor
namespace Ev

theorem sys_bounds {al st : Int} {l : List Edge} (h : sysOK ⟨al, st, l⟩ = true) : ∀ e ∈ l, 0 ≤ e.fr ∧ e.fr < 16 ∧ 0 ≤ e.lt ∧ e.lt < 6 ∧ 0 ≤ e.to ∧ e.to < 16 := by
  intro e he
  have h1 := sysOK_edge h he
  have h' := h
  unfold sysOK at h'
  simp only [Bool.and_eq_true, decide_eq_true_eq] at h'
  unfold edgeOK at h1
  simp only [Bool.and_eq_true, decide_eq_true_eq] at h1
  omega

theorem mv16 {l : List Edge} (hv : ∀ e ∈ l, 0 ≤ e.fr ∧ e.fr < 16 ∧ 0 ≤ e.lt ∧ e.lt < 6 ∧ 0 ≤ e.to ∧ e.to < 16) : ∀ k, mvAt l k < 65536 := fun k => mvAt_lt (n := 16) fun e he => by
  have := hv e he; omega

theorem ev_i_moves_step {L n : Nat} (hn : 2 ≤ n) (l : List Edge) (s : Nat) (c : Int) (hc0 : 0 ≤ c) (hc6 : c < 6) (hm16 : ∀ k, mvAt l k < 65536) (hs : s < 65536) (hL : 2 ^ 60 ≤ L) : evCall env L n 41 [.d (.iptr (mvD l)), .d (.int .i64 (s : Nat)), .d (.int .i64 c)] [] = some (.d (.int .i64 (stepG (fun k => mvAt l (k * 6 + c.toNat)) s s 0 : Nat)), []) := by
  have loop_c := fun {R : Type} {n : Nat} {k : Exit → List A → H → Option R} (hn : 1 ≤ n) => @loop_moves_step R L n hn l c hc0 hc6 hm16 k s s 0 L hs (by omega) (Nat.le_refl _) (by omega)
  simp only [Int.natCast_zero] at loop_c
  obtain ⟨n, rfl⟩ : ∃ m, n = m + 1 := ⟨n - 1, by omega⟩
  rw [fn_i_moves_step]
  simp only [S_i_moves_step, Tryd.f41, SLM, simprocAttr]
  simp -implicitDefEqProofs (maxSteps := 2000000) (disch := first | assumption | (refine Shut.mk ?_; kernel_rfl) | omega | (simp only [GT]; done) | (simp only [LN] <;> omega) | fail) only [↓WD, ↓kAsg, ↓kRet, ↓clash_free, ↓WDD, ↓kOpD_callv, WK, UN, TY, LB, MD, i64_id, simprocAttr, ↓CV, ↓kc_math_bits_TrailingZeros, ↓loop_c]
theorem kc_i_moves_step {R : Type} {L n : Nat} {hq : H} {k : A → H → Option R} (hn : 2 ≤ n) (l : List Edge) (s : Nat) (c : Int) (hc0 : 0 ≤ c) (hc6 : c < 6) (hm16 : ∀ k, mvAt l k < 65536) (hs : s < 65536) (hL : 2 ^ 60 ≤ L) : kCall env (evCall env L n) hq 41 [.d (.iptr (mvD l)), .d (.int .i64 (s : Nat)), .d (.int .i64 c)] k = k (.d (.int .i64 (stepG (fun k => mvAt l (k * 6 + c.toNat)) s s 0 : Nat))) hq :=
  kCall_still rfl (ev_i_moves_step hn l s c hc0 hc6 hm16 hs hL) rfl (.inl rfl)

end Ev
end Go.Proofs.YtojaohcpgelhmaaDoor
