/-
  math/bits.TrailingZeros at the machine, off the table that was laid.
-/
import Derived.Test.YtojaohcpgelhmaaDoorPrimA
import Derived.Test.YtojaohcpgelhmaaDoorGnd
import Derived.Shelf.Spec.TrailingZeros
set_option linter.unusedSimpArgs false
set_option linter.unusedVariables false
namespace Go.Proofs.YtojaohcpgelhmaaDoor
namespace Ev
open Go.RowKit

set_option maxHeartbeats 1000000 in
theorem tz_core (x k idx : Nat) (w : World) (hx0 : ((x : Int) == 0) = false)
    (key : IntKind.u64.wrap (bits BinOp.and IntKind.u64 (x : Int) (IntKind.u64.wrap (-(x : Int))) * 285870213051353865) / 288230376151711744 = (idx : Int))
    (hi : idx < 64) (hk : k < 64) (hcell : w.cell? ⟨1, idx, none⟩ = some (.int .u8 k)) :
    Calls Tryd.prog 94 #[.int .u64 x] w fun e w' => e = .returned (.int .i64 k) ∧ w' = w := by
  go_enter Tryd.func94, Tryd.ntmps94
  go_wp2_with (simp only [key])
  go_ret
  exact ⟨rfl, rfl⟩

theorem tz_zero (w : World) : Calls Tryd.prog 94 #[.int .u64 0] w fun e w' => e = .returned (.int .i64 64) ∧ w' = w := by
  go_enter Tryd.func94, Tryd.ntmps94
  go_wp2
  go_ret
  exact ⟨rfl, rfl⟩

/-- Every number. -/
theorem tz_all (x : Nat) (hx : x < 18446744073709551616) (w : World) (hT : TabAt 1 Lib.deBruijn64tab w) :
    Calls Tryd.prog 94 #[.int .u64 x] w fun e w' => e = .returned (.int .i64 (Lib.ctz 64 x)) ∧ w' = w := by
  by_cases hx0 : x = 0
  · subst hx0
    exact tz_zero w
  · obtain ⟨hlow, hk⟩ := Lib.lowest_bit 64 x hx0 hx
    obtain ⟨hi, htab⟩ := Lib.deBruijn64_at _ hk
    have hcell := hT _ hi
    rw [htab] at hcell
    exact tz_core x _ _ w (by simp; omega) (tz64_key x _ hx hx0 hlow) hi hk hcell

theorem tz_run (x : Nat) (hx : x < 18446744073709551616) (w : World) (hT : TabAt 1 Lib.deBruijn64tab w) :
    Calls Tryd.prog 70 #[.int .u64 x] w fun e w' => e = .returned (.int .i64 (Lib.ctz 64 x)) ∧ w' = w := by
  have c64 := tz_all x hx w hT
  have e29 : ∀ args w, (callFunc 94 args).run Tryd.prog w = .ok (.enter 94 args) w := enters_of Tryd.func94 (by kernel_rfl) rfl
  have hw : IntKind.u64.wrap (x : Int) = (x : Int) := by rw [IntKind.wrap_u64]; omega
  go_enter Tryd.func70, Tryd.ntmps70
  go_wp2_with (go_at_fn 94; refine c64.mono ?_; rintro e w' ⟨rfl, hw'⟩; rw [hw'])
  go_ret
  exact ⟨rfl, rfl⟩

theorem tab_at {w : World} {I : Nat → Prop} (hg : Ground gnd w I) : TabAt 1 Lib.deBruijn64tab w := by
  intro j hj
  obtain ⟨_, h2⟩ := hg 1 _ (List.mem_singleton.2 rfl)
  have h3 := h2 j (.int .u8 (Lib.deBruijn64tab.getD j 0)) (by simp [List.getD_eq_getElem?_getD, hj])
  unfold cellAt at h3
  simp only [World.cell?]
  split at h3
  · rename_i C E fz hh
    simp [hh, h3]
  · cases h3

theorem ctz_ok : PrimOK gnd Tryd.prog 70 gCtz := by
  intro k args h x h' he
  simp only at he
  split at he
  · rename_i hk
    subst hk
    refine ⟨⟨_, Tryd.func70, by kernel_rfl, by kernel_rfl⟩, fun ρ w I vs r ha => ?_⟩
    unfold gCtz at he
    split at he
    · rename_i n
      split at he
      · rename_i hn
        cases he
        obtain ⟨xv, rest, rfl, hx, hr⟩ := ar_cons ha
        simp only [ARv] at hr
        subst hr
        have hx : xv = .int .u64 n := by simpa only [AR, DR] using hx
        subst hx
        have run := tz_run n.toNat (by omega) w (tab_at r.ground)
        have e1 : ((n.toNat : Nat) : Int) = n := by omega
        rw [e1] at run
        refine run.mono fun e w' hh => ?_
        obtain ⟨rfl, rfl⟩ := hh
        exact ⟨_, ρ, I, rfl, .refl r, by simp only [AR, DR]⟩
      · cases he
    · cases he
  · cases he

end Ev
end Go.Proofs.YtojaohcpgelhmaaDoor
