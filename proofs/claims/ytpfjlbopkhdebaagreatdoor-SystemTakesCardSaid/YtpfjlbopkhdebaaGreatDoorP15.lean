/- Contracts of this program's functions and the laws that they need. -/
import Derived.Test.YtpfjlbopkhdebaaGreatDoorP5
import Derived.Test.YtpfjlbopkhdebaaGreatDoorP14
set_option linter.unusedVariables false
set_option linter.unusedSimpArgs false
set_option linter.unusedSectionVars false
/- SystemTakes: the row's statement. -/
namespace Go.Proofs.YtpfjlbopkhdebaaGreatDoor
open Go
theorem systemTakes_row (os : Os) (started : os.Started) (H : Type) (enc : TypeId × Value → H) : ReturnsInHanded Rows.systemTakesRow.assume Tryz.pinned.checked os 11 .any (Rows.systemTakesRow.pre enc Tryz.pinned.checked.prog Tryz.f11 (OpenSpec.ofChange Rows.systemTakesSpec)) (Rows.systemTakesSpec.post enc Tryz.pinned.checked.prog Tryz.f11 Rows.systemTakesRow.apart Rows.systemTakesRow.fresh Rows.systemTakesRow.handsOn Rows.systemTakesRow.again) := by
  have e : Rows.systemTakesRow.pre enc Tryz.pinned.checked.prog Tryz.f11 (OpenSpec.ofChange Rows.systemTakesSpec) = fun w args => (Rows.systemTakesSpec.pre enc Tryz.prog Tryz.f11 [] false w args ∧ laidMetH Tryz.prog Tryz.laidL w) ∧ sizedMet enc Tryz.prog Tryz.f11 (OpenSpec.ofChange Rows.systemTakesSpec) false w args := by
    funext w args
    unfold OpenClaim.pre OpenClaim.preLaid
    rfl
  rw [e]
  exact systemTakes_lifted os started H enc
theorem systemTakes_said : Rows.SystemTakesSaid :=
  OpenClaim.holds_of_wide 11 Tryz.f11 rfl rfl rfl rfl rfl rfl rfl ⟨rfl, rfl, rfl, rfl, rfl⟩ rfl rfl rfl rfl rfl (by kernel_rfl) Tryz.func11 systemTakes_closed
    (of_decide_eq_true (by kernel_rfl)) (by unfold Func.isWrapper; first | (rw [if_pos (by decide +kernel)]; kernel_rfl) | (rw [if_neg (by decide +kernel)]; exact ⟨rfl, rfl⟩))
    (fun os started H enc _ => systemTakes_row os started H enc)
end Go.Proofs.YtpfjlbopkhdebaaGreatDoor
