/- Contracts of this program's functions and the laws that they need: a separation logic over the machine's rules, one theorem each (partly printed by a program of this repository). -/
import Derived.Test.YtpfjlbopkhdebaaGreatDoorRows
import Derived.Test.YtpfjlbopkhdebaaGreatDoorP13
import Derived.Test.YtpfjlbopkhdebaaGreatDoorP14
set_option linter.unusedVariables false
set_option linter.unusedSimpArgs false
set_option linter.unusedSectionVars false
/- DimsPlugs: the row's statement. -/
namespace Go.Proofs.YtpfjlbopkhdebaaGreatDoor
open Go
theorem dimsPlugs_row (os : Os) (started : os.Started) (H : Type) (enc : TypeId × Value → H) : ReturnsInHanded Rows.dimsPlugsRow.assume Tryz.pinned.checked os 14 .any (Rows.dimsPlugsRow.pre enc Tryz.pinned.checked.prog Tryz.f14 (OpenSpec.ofChange Rows.dimsPlugsSpec)) (Rows.dimsPlugsSpec.post enc Tryz.pinned.checked.prog Tryz.f14 Rows.dimsPlugsRow.apart Rows.dimsPlugsRow.fresh Rows.dimsPlugsRow.handsOn Rows.dimsPlugsRow.again) := by
  have e : Rows.dimsPlugsRow.pre enc Tryz.pinned.checked.prog Tryz.f14 (OpenSpec.ofChange Rows.dimsPlugsSpec) = fun w args => (Rows.dimsPlugsSpec.pre enc Tryz.prog Tryz.f14 [] false w args ∧ laidMetH Tryz.prog Tryz.laidL w) ∧ sizedMet enc Tryz.prog Tryz.f14 (OpenSpec.ofChange Rows.dimsPlugsSpec) false w args := by
    funext w args
    unfold OpenClaim.pre OpenClaim.preLaid
    rfl
  rw [e]
  exact dimsPlugs_lifted os started H enc
theorem dimsPlugs_said : Rows.DimsPlugsSaid :=
  OpenClaim.holds_of_wide 14 Tryz.f14 rfl rfl rfl rfl rfl rfl rfl ⟨rfl, rfl, rfl, rfl, rfl⟩ rfl rfl rfl rfl rfl (by kernel_rfl) Tryz.func14 dimsPlugs_closed
    (of_decide_eq_true (by kernel_rfl)) (by unfold Func.isWrapper; first | (rw [if_pos (by decide +kernel)]; kernel_rfl) | (rw [if_neg (by decide +kernel)]; exact ⟨rfl, rfl⟩))
    (fun os started H enc _ => dimsPlugs_row os started H enc)
end Go.Proofs.YtpfjlbopkhdebaaGreatDoor
