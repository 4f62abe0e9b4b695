/- Contracts of this program's functions and the laws that they need: a separation logic over the machine's rules, one theorem each (partly printed by a program of this repository). -/
import Derived.Test.YtpfjlbopkhdebaaGreatDoorRows
import Derived.Test.YtpfjlbopkhdebaaGreatDoorP12
import Derived.Test.YtpfjlbopkhdebaaGreatDoorP13
set_option linter.unusedVariables false
set_option linter.unusedSimpArgs false
set_option linter.unusedSectionVars false
/- CtxMay: the row's statement. -/
namespace Go.Proofs.YtpfjlbopkhdebaaGreatDoor
open Go
theorem ctxMay_row (os : Os) (started : os.Started) (H : Type) (enc : TypeId × Value → H) : ReturnsInHanded Rows.ctxMayRow.assume Tryz.pinned.checked os 13 .any (Rows.ctxMayRow.pre enc Tryz.pinned.checked.prog Tryz.f13 (OpenSpec.ofChange Rows.ctxMaySpec)) (Rows.ctxMaySpec.post enc Tryz.pinned.checked.prog Tryz.f13 Rows.ctxMayRow.apart Rows.ctxMayRow.fresh Rows.ctxMayRow.handsOn Rows.ctxMayRow.again) := by
  have e : Rows.ctxMayRow.pre enc Tryz.pinned.checked.prog Tryz.f13 (OpenSpec.ofChange Rows.ctxMaySpec) = fun w args => (Rows.ctxMaySpec.pre enc Tryz.prog Tryz.f13 [] false w args ∧ laidMetH Tryz.prog Tryz.laidL w) ∧ sizedMet enc Tryz.prog Tryz.f13 (OpenSpec.ofChange Rows.ctxMaySpec) false w args := by
    funext w args
    unfold OpenClaim.pre OpenClaim.preLaid
    rfl
  rw [e]
  exact ctxMay_lifted os started H enc
theorem ctxMay_said : Rows.CtxMaySaid :=
  OpenClaim.holds_of_wide 13 Tryz.f13 rfl rfl rfl rfl rfl rfl rfl ⟨rfl, rfl, rfl, rfl, rfl⟩ rfl rfl rfl rfl rfl (by kernel_rfl) Tryz.func13 ctxMay_closed
    (of_decide_eq_true (by kernel_rfl)) (by unfold Func.isWrapper; first | (rw [if_pos (by decide +kernel)]; kernel_rfl) | (rw [if_neg (by decide +kernel)]; exact ⟨rfl, rfl⟩))
    (fun os started H enc _ => ctxMay_row os started H enc)
end Go.Proofs.YtpfjlbopkhdebaaGreatDoor
