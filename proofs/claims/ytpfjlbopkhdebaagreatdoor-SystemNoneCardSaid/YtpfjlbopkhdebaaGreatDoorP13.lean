/- Contracts of this program's functions and the laws that they need: a separation logic over the machine's rules, one theorem each (partly printed by a program of this repository). -/
import Derived.Test.YtpfjlbopkhdebaaGreatDoorRows
import Derived.Test.YtpfjlbopkhdebaaGreatDoorP11
import Derived.Test.YtpfjlbopkhdebaaGreatDoorP12
set_option linter.unusedVariables false
set_option linter.unusedSimpArgs false
set_option linter.unusedSectionVars false
/- SystemNone: the row's statement. -/
namespace Go.Proofs.YtpfjlbopkhdebaaGreatDoor
open Go
theorem systemNone_row (os : Os) (started : os.Started) (H : Type) (enc : TypeId × Value → H) : ReturnsInHanded Rows.systemNoneRow.assume Tryz.pinned.checked os 12 .any (Rows.systemNoneRow.pre enc Tryz.pinned.checked.prog Tryz.f12 (OpenSpec.ofChange Rows.systemNoneSpec)) (Rows.systemNoneSpec.post enc Tryz.pinned.checked.prog Tryz.f12 Rows.systemNoneRow.apart Rows.systemNoneRow.fresh Rows.systemNoneRow.handsOn Rows.systemNoneRow.again) := by
  have e : Rows.systemNoneRow.pre enc Tryz.pinned.checked.prog Tryz.f12 (OpenSpec.ofChange Rows.systemNoneSpec) = fun w args => (Rows.systemNoneSpec.pre enc Tryz.prog Tryz.f12 [] false w args ∧ laidMetH Tryz.prog Tryz.laidL w) ∧ sizedMet enc Tryz.prog Tryz.f12 (OpenSpec.ofChange Rows.systemNoneSpec) false w args := by
    funext w args
    unfold OpenClaim.pre OpenClaim.preLaid
    rfl
  rw [e]
  exact systemNone_lifted os started H enc
theorem systemNone_said : Rows.SystemNoneSaid :=
  OpenClaim.holds_of_wide 12 Tryz.f12 rfl rfl rfl rfl rfl rfl rfl ⟨rfl, rfl, rfl, rfl, rfl⟩ rfl rfl rfl rfl rfl (by kernel_rfl) Tryz.func12 systemNone_closed
    (of_decide_eq_true (by kernel_rfl)) (by unfold Func.isWrapper; first | (rw [if_pos (by decide +kernel)]; kernel_rfl) | (rw [if_neg (by decide +kernel)]; exact ⟨rfl, rfl⟩))
    (fun os started H enc _ => systemNone_row os started H enc)
end Go.Proofs.YtpfjlbopkhdebaaGreatDoor
