/- Contracts of this program's functions and the laws that they need. -/
import Derived.Test.YtibignmpjeemeaaGreatDoorP5
import Derived.Test.YtibignmpjeemeaaGreatDoorP11
set_option linter.unusedVariables false
set_option linter.unusedSimpArgs false
set_option linter.unusedSectionVars false
/- EnvId: the row's statement. -/
namespace Go.Proofs.YtibignmpjeemeaaGreatDoor
open Go
theorem envId_row (os : Os) (started : os.Started) (H : Type) (enc : TypeId × Value → H) : ReturnsInHanded Rows.envIdRow.assume Tryz.pinned.checked os 4 .any (Rows.envIdRow.pre enc Tryz.pinned.checked.prog Tryz.f4 (OpenSpec.ofChange Rows.envIdSpec)) (Rows.envIdSpec.post enc Tryz.pinned.checked.prog Tryz.f4 Rows.envIdRow.apart Rows.envIdRow.fresh Rows.envIdRow.handsOn Rows.envIdRow.again) := by
  have e : Rows.envIdRow.pre enc Tryz.pinned.checked.prog Tryz.f4 (OpenSpec.ofChange Rows.envIdSpec) = fun w args => (Rows.envIdSpec.pre enc Tryz.prog Tryz.f4 [] false w args ∧ laidMetH Tryz.prog Tryz.laidL w) ∧ sizedMet enc Tryz.prog Tryz.f4 (OpenSpec.ofChange Rows.envIdSpec) false w args := by
    funext w args
    unfold OpenClaim.pre OpenClaim.preLaid
    rfl
  rw [e]
  exact envId_lifted os started H enc
theorem envId_said : Rows.EnvIdSaid :=
  OpenClaim.holds_of_wide 4 Tryz.f4 rfl rfl rfl rfl rfl rfl rfl ⟨rfl, rfl, rfl, rfl, rfl⟩ rfl rfl rfl rfl rfl (by kernel_rfl) Tryz.func4 envId_closed
    (of_decide_eq_true (by kernel_rfl)) (by unfold Func.isWrapper; first | (rw [if_pos (by decide +kernel)]; kernel_rfl) | (rw [if_neg (by decide +kernel)]; exact ⟨rfl, rfl⟩))
    (fun os started H enc _ => envId_row os started H enc)
end Go.Proofs.YtibignmpjeemeaaGreatDoor
