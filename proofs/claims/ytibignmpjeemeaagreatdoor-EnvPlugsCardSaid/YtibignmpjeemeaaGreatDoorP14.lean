/- Contracts of this program's functions and the laws that they need. -/
import Derived.Test.YtibignmpjeemeaaGreatDoorP5
import Derived.Test.YtibignmpjeemeaaGreatDoorP13
set_option linter.unusedVariables false
set_option linter.unusedSimpArgs false
set_option linter.unusedSectionVars false
/- EnvPlugs: the row's statement. -/
namespace Go.Proofs.YtibignmpjeemeaaGreatDoor
open Go
theorem envPlugs_row (os : Os) (started : os.Started) (H : Type) (enc : TypeId × Value → H) : ReturnsInHanded Rows.envPlugsRow.assume Tryz.pinned.checked os 13 .any (Rows.envPlugsRow.pre enc Tryz.pinned.checked.prog Tryz.f13 (OpenSpec.ofChange Rows.envPlugsSpec)) (Rows.envPlugsSpec.post enc Tryz.pinned.checked.prog Tryz.f13 Rows.envPlugsRow.apart Rows.envPlugsRow.fresh Rows.envPlugsRow.handsOn Rows.envPlugsRow.again) := by
  have e : Rows.envPlugsRow.pre enc Tryz.pinned.checked.prog Tryz.f13 (OpenSpec.ofChange Rows.envPlugsSpec) = fun w args => (Rows.envPlugsSpec.pre enc Tryz.prog Tryz.f13 [] false w args ∧ laidMetH Tryz.prog Tryz.laidL w) ∧ sizedMet enc Tryz.prog Tryz.f13 (OpenSpec.ofChange Rows.envPlugsSpec) false w args := by
    funext w args
    unfold OpenClaim.pre OpenClaim.preLaid
    rfl
  rw [e]
  exact envPlugs_lifted os started H enc
theorem envPlugs_said : Rows.EnvPlugsSaid :=
  OpenClaim.holds_of_wide 13 Tryz.f13 rfl rfl rfl rfl rfl rfl rfl ⟨rfl, rfl, rfl, rfl, rfl⟩ rfl rfl rfl rfl rfl (by kernel_rfl) Tryz.func13 envPlugs_closed
    (of_decide_eq_true (by kernel_rfl)) (by unfold Func.isWrapper; first | (rw [if_pos (by decide +kernel)]; kernel_rfl) | (rw [if_neg (by decide +kernel)]; exact ⟨rfl, rfl⟩))
    (fun os started H enc _ => envPlugs_row os started H enc)
end Go.Proofs.YtibignmpjeemeaaGreatDoor
