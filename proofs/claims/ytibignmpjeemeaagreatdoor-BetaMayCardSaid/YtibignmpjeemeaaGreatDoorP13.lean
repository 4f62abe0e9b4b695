/- Contracts of this program's functions and the laws that they need. -/
import Derived.Test.YtibignmpjeemeaaGreatDoorP5
import Derived.Test.YtibignmpjeemeaaGreatDoorP12
set_option linter.unusedVariables false
set_option linter.unusedSimpArgs false
set_option linter.unusedSectionVars false
/- BetaMay: the row's statement. -/
namespace Go.Proofs.YtibignmpjeemeaaGreatDoor
open Go
theorem betaMay_row (os : Os) (started : os.Started) (H : Type) (enc : TypeId × Value → H) : ReturnsInHanded Rows.betaMayRow.assume Tryz.pinned.checked os 12 .any (Rows.betaMayRow.pre enc Tryz.pinned.checked.prog Tryz.f12 (OpenSpec.ofChange Rows.betaMaySpec)) (Rows.betaMaySpec.post enc Tryz.pinned.checked.prog Tryz.f12 Rows.betaMayRow.apart Rows.betaMayRow.fresh Rows.betaMayRow.handsOn Rows.betaMayRow.again) := by
  have e : Rows.betaMayRow.pre enc Tryz.pinned.checked.prog Tryz.f12 (OpenSpec.ofChange Rows.betaMaySpec) = fun w args => (Rows.betaMaySpec.pre enc Tryz.prog Tryz.f12 [] false w args ∧ laidMetH Tryz.prog Tryz.laidL w) ∧ sizedMet enc Tryz.prog Tryz.f12 (OpenSpec.ofChange Rows.betaMaySpec) false w args := by
    funext w args
    unfold OpenClaim.pre OpenClaim.preLaid
    rfl
  rw [e]
  exact betaMay_lifted os started H enc
theorem betaMay_said : Rows.BetaMaySaid :=
  OpenClaim.holds_of_wide 12 Tryz.f12 rfl rfl rfl rfl rfl rfl rfl ⟨rfl, rfl, rfl, rfl, rfl⟩ rfl rfl rfl rfl rfl (by kernel_rfl) Tryz.func12 betaMay_closed
    (of_decide_eq_true (by kernel_rfl)) (by unfold Func.isWrapper; first | (rw [if_pos (by decide +kernel)]; kernel_rfl) | (rw [if_neg (by decide +kernel)]; exact ⟨rfl, rfl⟩))
    (fun os started H enc _ => betaMay_row os started H enc)
end Go.Proofs.YtibignmpjeemeaaGreatDoor
