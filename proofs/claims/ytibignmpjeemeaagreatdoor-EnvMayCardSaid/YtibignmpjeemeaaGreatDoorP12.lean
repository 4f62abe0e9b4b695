/- Contracts of this program's functions and the laws that they need. -/
import Derived.Test.YtibignmpjeemeaaGreatDoorP5
import Derived.Test.YtibignmpjeemeaaGreatDoorP11
set_option linter.unusedVariables false
set_option linter.unusedSimpArgs false
set_option linter.unusedSectionVars false
/- EnvMay: the row's statement. -/
namespace Go.Proofs.YtibignmpjeemeaaGreatDoor
open Go
theorem envMay_row (os : Os) (started : os.Started) (H : Type) (enc : TypeId × Value → H) : ReturnsInHanded Rows.envMayRow.assume Tryz.pinned.checked os 5 .any (Rows.envMayRow.pre enc Tryz.pinned.checked.prog Tryz.f5 (OpenSpec.ofChange Rows.envMaySpec)) (Rows.envMaySpec.post enc Tryz.pinned.checked.prog Tryz.f5 Rows.envMayRow.apart Rows.envMayRow.fresh Rows.envMayRow.handsOn Rows.envMayRow.again) := by
  have e : Rows.envMayRow.pre enc Tryz.pinned.checked.prog Tryz.f5 (OpenSpec.ofChange Rows.envMaySpec) = fun w args => (Rows.envMaySpec.pre enc Tryz.prog Tryz.f5 [] false w args ∧ laidMetH Tryz.prog Tryz.laidL w) ∧ sizedMet enc Tryz.prog Tryz.f5 (OpenSpec.ofChange Rows.envMaySpec) false w args := by
    funext w args
    unfold OpenClaim.pre OpenClaim.preLaid
    rfl
  rw [e]
  exact envMay_lifted os started H enc
theorem envMay_said : Rows.EnvMaySaid :=
  OpenClaim.holds_of_wide 5 Tryz.f5 rfl rfl rfl rfl rfl rfl rfl ⟨rfl, rfl, rfl, rfl, rfl⟩ rfl rfl rfl rfl rfl (by kernel_rfl) Tryz.func5 envMay_closed
    (of_decide_eq_true (by kernel_rfl)) (by unfold Func.isWrapper; first | (rw [if_pos (by decide +kernel)]; kernel_rfl) | (rw [if_neg (by decide +kernel)]; exact ⟨rfl, rfl⟩))
    (fun os started H enc _ => envMay_row os started H enc)
end Go.Proofs.YtibignmpjeemeaaGreatDoor
