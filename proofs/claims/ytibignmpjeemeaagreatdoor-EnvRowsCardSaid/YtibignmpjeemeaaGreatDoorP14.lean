/- Contracts of this program's functions and the laws that they need. -/
import Derived.Test.YtibignmpjeemeaaGreatDoorP5
import Derived.Test.YtibignmpjeemeaaGreatDoorP13
set_option linter.unusedVariables false
set_option linter.unusedSimpArgs false
set_option linter.unusedSectionVars false
/- EnvRows: the row's statement. -/
namespace Go.Proofs.YtibignmpjeemeaaGreatDoor
open Go
theorem envRows_row (os : Os) (started : os.Started) (H : Type) (enc : TypeId × Value → H) : ReturnsInHanded Rows.envRowsRow.assume Tryz.pinned.checked os 6 .any (Rows.envRowsRow.pre enc Tryz.pinned.checked.prog Tryz.f6 (OpenSpec.ofChange Rows.envRowsSpec)) (Rows.envRowsSpec.post enc Tryz.pinned.checked.prog Tryz.f6 Rows.envRowsRow.apart Rows.envRowsRow.fresh Rows.envRowsRow.handsOn Rows.envRowsRow.again) := by
  have e : Rows.envRowsRow.pre enc Tryz.pinned.checked.prog Tryz.f6 (OpenSpec.ofChange Rows.envRowsSpec) = fun w args => (Rows.envRowsSpec.pre enc Tryz.prog Tryz.f6 [] false w args ∧ laidMetH Tryz.prog Tryz.laidL w) ∧ sizedMet enc Tryz.prog Tryz.f6 (OpenSpec.ofChange Rows.envRowsSpec) false w args := by
    funext w args
    unfold OpenClaim.pre OpenClaim.preLaid
    rfl
  rw [e]
  exact envRows_lifted os started H enc
theorem envRows_said : Rows.EnvRowsSaid :=
  OpenClaim.holds_of_wide 6 Tryz.f6 rfl rfl rfl rfl rfl rfl rfl ⟨rfl, rfl, rfl, rfl, rfl⟩ rfl rfl rfl rfl rfl (by kernel_rfl) Tryz.func6 envRows_closed
    (of_decide_eq_true (by kernel_rfl)) (by unfold Func.isWrapper; first | (rw [if_pos (by decide +kernel)]; kernel_rfl) | (rw [if_neg (by decide +kernel)]; exact ⟨rfl, rfl⟩))
    (fun os started H enc _ => envRows_row os started H enc)
end Go.Proofs.YtibignmpjeemeaaGreatDoor
