/- Contracts of this program's functions and the laws that they need. -/
import Derived.Test.YtibignmpjeemeaaGreatDoorP5
import Derived.Test.YtibignmpjeemeaaGreatDoorP11
set_option linter.unusedVariables false
set_option linter.unusedSimpArgs false
set_option linter.unusedSectionVars false
/- BetaPlugs: the row's statement. -/
namespace Go.Proofs.YtibignmpjeemeaaGreatDoor
open Go
theorem betaPlugs_row (os : Os) (started : os.Started) (H : Type) (enc : TypeId × Value → H) : ReturnsInHanded Rows.betaPlugsRow.assume Tryz.pinned.checked os 10 .any (Rows.betaPlugsRow.pre enc Tryz.pinned.checked.prog Tryz.f10 (OpenSpec.ofChange Rows.betaPlugsSpec)) (Rows.betaPlugsSpec.post enc Tryz.pinned.checked.prog Tryz.f10 Rows.betaPlugsRow.apart Rows.betaPlugsRow.fresh Rows.betaPlugsRow.handsOn Rows.betaPlugsRow.again) := by
  have e : Rows.betaPlugsRow.pre enc Tryz.pinned.checked.prog Tryz.f10 (OpenSpec.ofChange Rows.betaPlugsSpec) = fun w args => (Rows.betaPlugsSpec.pre enc Tryz.prog Tryz.f10 [] false w args ∧ laidMetH Tryz.prog Tryz.laidL w) ∧ sizedMet enc Tryz.prog Tryz.f10 (OpenSpec.ofChange Rows.betaPlugsSpec) false w args := by
    funext w args
    unfold OpenClaim.pre OpenClaim.preLaid
    rfl
  rw [e]
  exact betaPlugs_lifted os started H enc
theorem betaPlugs_said : Rows.BetaPlugsSaid :=
  OpenClaim.holds_of_wide 10 Tryz.f10 rfl rfl rfl rfl rfl rfl rfl ⟨rfl, rfl, rfl, rfl, rfl⟩ rfl rfl rfl rfl rfl (by kernel_rfl) Tryz.func10 betaPlugs_closed
    (of_decide_eq_true (by kernel_rfl)) (by unfold Func.isWrapper; first | (rw [if_pos (by decide +kernel)]; kernel_rfl) | (rw [if_neg (by decide +kernel)]; exact ⟨rfl, rfl⟩))
    (fun os started H enc _ => betaPlugs_row os started H enc)
end Go.Proofs.YtibignmpjeemeaaGreatDoor
