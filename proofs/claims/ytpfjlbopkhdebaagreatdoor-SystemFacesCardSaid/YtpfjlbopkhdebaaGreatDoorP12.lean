/- Contracts of this program's functions and the laws that they need: a separation logic over the machine's rules, one theorem each (partly printed by a program of this repository). -/
import Derived.Test.YtpfjlbopkhdebaaGreatDoorRows
import Derived.Test.YtpfjlbopkhdebaaGreatDoorP10
import Derived.Test.YtpfjlbopkhdebaaGreatDoorP11
set_option linter.unusedVariables false
set_option linter.unusedSimpArgs false
set_option linter.unusedSectionVars false
/- SystemFaces: the row's statement. -/
namespace Go.Proofs.YtpfjlbopkhdebaaGreatDoor
open Go
theorem systemFaces_row (os : Os) (started : os.Started) (H : Type) (enc : TypeId × Value → H) : ReturnsInHanded Rows.systemFacesRow.assume Tryz.pinned.checked os 3 .any (Rows.systemFacesRow.pre enc Tryz.pinned.checked.prog Tryz.f3 (OpenSpec.ofChange Rows.systemFacesSpec)) (Rows.systemFacesSpec.post enc Tryz.pinned.checked.prog Tryz.f3 Rows.systemFacesRow.apart Rows.systemFacesRow.fresh Rows.systemFacesRow.handsOn Rows.systemFacesRow.again) := by
  have e : Rows.systemFacesRow.pre enc Tryz.pinned.checked.prog Tryz.f3 (OpenSpec.ofChange Rows.systemFacesSpec) = fun w args => (Rows.systemFacesSpec.pre enc Tryz.prog Tryz.f3 [] false w args ∧ laidMetH Tryz.prog Tryz.laidL w) ∧ sizedMet enc Tryz.prog Tryz.f3 (OpenSpec.ofChange Rows.systemFacesSpec) false w args := by
    funext w args
    unfold OpenClaim.pre OpenClaim.preLaid
    rfl
  rw [e]
  exact systemFaces_lifted os started H enc
theorem systemFaces_said : Rows.SystemFacesSaid :=
  OpenClaim.holds_of_wide 3 Tryz.f3 rfl rfl rfl rfl rfl rfl rfl ⟨rfl, rfl, rfl, rfl, rfl⟩ rfl rfl rfl rfl rfl (by kernel_rfl) Tryz.func3 systemFaces_closed
    (of_decide_eq_true (by kernel_rfl)) (by unfold Func.isWrapper; first | (rw [if_pos (by decide +kernel)]; kernel_rfl) | (rw [if_neg (by decide +kernel)]; exact ⟨rfl, rfl⟩))
    (fun os started H enc _ => systemFaces_row os started H enc)
end Go.Proofs.YtpfjlbopkhdebaaGreatDoor
