/- Contracts of this program's functions and the laws that they need: a separation logic over the machine's rules, one theorem each (partly printed by a program of this repository). -/
import Derived.Test.YtpfjlbopkhdebaaGreatDoorRows
import Derived.Test.YtpfjlbopkhdebaaGreatDoorP10
import Derived.Test.YtpfjlbopkhdebaaGreatDoorP11
set_option linter.unusedVariables false
set_option linter.unusedSimpArgs false
set_option linter.unusedSectionVars false
/- SystemRestricts: the row's statement. -/
namespace Go.Proofs.YtpfjlbopkhdebaaGreatDoor
open Go
theorem systemRestricts_row (os : Os) (started : os.Started) (H : Type) (enc : TypeId × Value → H) : ReturnsInHanded Rows.systemRestrictsRow.assume Tryz.pinned.checked os 7 .any (Rows.systemRestrictsRow.pre enc Tryz.pinned.checked.prog Tryz.f7 (OpenSpec.ofChange Rows.systemRestrictsSpec)) (Rows.systemRestrictsSpec.post enc Tryz.pinned.checked.prog Tryz.f7 Rows.systemRestrictsRow.apart Rows.systemRestrictsRow.fresh Rows.systemRestrictsRow.handsOn Rows.systemRestrictsRow.again) := by
  have e : Rows.systemRestrictsRow.pre enc Tryz.pinned.checked.prog Tryz.f7 (OpenSpec.ofChange Rows.systemRestrictsSpec) = fun w args => (Rows.systemRestrictsSpec.pre enc Tryz.prog Tryz.f7 [] false w args ∧ laidMetH Tryz.prog Tryz.laidL w) ∧ sizedMet enc Tryz.prog Tryz.f7 (OpenSpec.ofChange Rows.systemRestrictsSpec) false w args := by
    funext w args
    unfold OpenClaim.pre OpenClaim.preLaid
    rfl
  rw [e]
  exact systemRestricts_lifted os started H enc
theorem systemRestricts_said : Rows.SystemRestrictsSaid :=
  OpenClaim.holds_of_wide 7 Tryz.f7 rfl rfl rfl rfl rfl rfl rfl ⟨rfl, rfl, rfl, rfl, rfl⟩ rfl rfl rfl rfl rfl (by kernel_rfl) Tryz.func7 systemRestricts_closed
    (of_decide_eq_true (by kernel_rfl)) (by unfold Func.isWrapper; first | (rw [if_pos (by decide +kernel)]; kernel_rfl) | (rw [if_neg (by decide +kernel)]; exact ⟨rfl, rfl⟩))
    (fun os started H enc _ => systemRestricts_row os started H enc)
end Go.Proofs.YtpfjlbopkhdebaaGreatDoor
