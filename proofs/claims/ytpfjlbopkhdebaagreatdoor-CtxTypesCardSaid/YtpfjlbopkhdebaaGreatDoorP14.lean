/- Contracts of this program's functions and the laws that they need. -/
import Derived.Test.YtpfjlbopkhdebaaGreatDoorP5
import Derived.Test.YtpfjlbopkhdebaaGreatDoorP13
set_option linter.unusedVariables false
set_option linter.unusedSimpArgs false
set_option linter.unusedSectionVars false
/- CtxTypes: the row's statement. -/
namespace Go.Proofs.YtpfjlbopkhdebaaGreatDoor
open Go
theorem ctxTypes_row (os : Os) (started : os.Started) (H : Type) (enc : TypeId × Value → H) : ReturnsInHanded Rows.ctxTypesRow.assume Tryz.pinned.checked os 10 .any (Rows.ctxTypesRow.pre enc Tryz.pinned.checked.prog Tryz.f10 (OpenSpec.ofChange Rows.ctxTypesSpec)) (Rows.ctxTypesSpec.post enc Tryz.pinned.checked.prog Tryz.f10 Rows.ctxTypesRow.apart Rows.ctxTypesRow.fresh Rows.ctxTypesRow.handsOn Rows.ctxTypesRow.again) := by
  have e : Rows.ctxTypesRow.pre enc Tryz.pinned.checked.prog Tryz.f10 (OpenSpec.ofChange Rows.ctxTypesSpec) = fun w args => (Rows.ctxTypesSpec.pre enc Tryz.prog Tryz.f10 [] false w args ∧ laidMetH Tryz.prog Tryz.laidL w) ∧ sizedMet enc Tryz.prog Tryz.f10 (OpenSpec.ofChange Rows.ctxTypesSpec) false w args := by
    funext w args
    unfold OpenClaim.pre OpenClaim.preLaid
    rfl
  rw [e]
  exact ctxTypes_lifted os started H enc
theorem ctxTypes_said : Rows.CtxTypesSaid :=
  OpenClaim.holds_of_wide 10 Tryz.f10 rfl rfl rfl rfl rfl rfl rfl ⟨rfl, rfl, rfl, rfl, rfl⟩ rfl rfl rfl rfl rfl (by kernel_rfl) Tryz.func10 ctxTypes_closed
    (of_decide_eq_true (by kernel_rfl)) (by unfold Func.isWrapper; first | (rw [if_pos (by decide +kernel)]; kernel_rfl) | (rw [if_neg (by decide +kernel)]; exact ⟨rfl, rfl⟩))
    (fun os started H enc _ => ctxTypes_row os started H enc)
end Go.Proofs.YtpfjlbopkhdebaaGreatDoor
