/- Contracts of this program's functions and the laws that they need: a separation logic over the machine's rules, one theorem each (partly printed by a program of this repository). -/
import Derived.Test.YtpfjlbopkhdebaaGreatDoorRows
import Derived.Test.YtpfjlbopkhdebaaGreatDoorP5
import Derived.Test.YtpfjlbopkhdebaaGreatDoorP13
set_option linter.unusedVariables false
set_option linter.unusedSimpArgs false
set_option linter.unusedSectionVars false
/- DimsUnders: the row's statement. -/
namespace Go.Proofs.YtpfjlbopkhdebaaGreatDoor
open Go
theorem dimsUnders_row (os : Os) (started : os.Started) (H : Type) (enc : TypeId × Value → H) : ReturnsInHanded Rows.dimsUndersRow.assume Tryz.pinned.checked os 5 .any (Rows.dimsUndersRow.pre enc Tryz.pinned.checked.prog Tryz.f5 (OpenSpec.ofChange Rows.dimsUndersSpec)) (Rows.dimsUndersSpec.post enc Tryz.pinned.checked.prog Tryz.f5 Rows.dimsUndersRow.apart Rows.dimsUndersRow.fresh Rows.dimsUndersRow.handsOn Rows.dimsUndersRow.again) := by
  have e : Rows.dimsUndersRow.pre enc Tryz.pinned.checked.prog Tryz.f5 (OpenSpec.ofChange Rows.dimsUndersSpec) = fun w args => (Rows.dimsUndersSpec.pre enc Tryz.prog Tryz.f5 [] false w args ∧ laidMetH Tryz.prog Tryz.laidL w) ∧ sizedMet enc Tryz.prog Tryz.f5 (OpenSpec.ofChange Rows.dimsUndersSpec) false w args := by
    funext w args
    unfold OpenClaim.pre OpenClaim.preLaid
    rfl
  rw [e]
  exact dimsUnders_lifted os started H enc
theorem dimsUnders_said : Rows.DimsUndersSaid :=
  OpenClaim.holds_of_wide 5 Tryz.f5 rfl rfl rfl rfl rfl rfl rfl ⟨rfl, rfl, rfl, rfl, rfl⟩ rfl rfl rfl rfl rfl (by kernel_rfl) Tryz.func5 dimsUnders_closed
    (of_decide_eq_true (by kernel_rfl)) (by unfold Func.isWrapper; first | (rw [if_pos (by decide +kernel)]; kernel_rfl) | (rw [if_neg (by decide +kernel)]; exact ⟨rfl, rfl⟩))
    (fun os started H enc _ => dimsUnders_row os started H enc)
end Go.Proofs.YtpfjlbopkhdebaaGreatDoor
