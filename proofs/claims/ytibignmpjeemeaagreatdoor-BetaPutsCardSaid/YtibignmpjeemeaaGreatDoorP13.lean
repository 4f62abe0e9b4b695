/- Contracts of this program's functions and the laws that they need. -/
import Derived.Test.YtibignmpjeemeaaGreatDoorP5
import Derived.Test.YtibignmpjeemeaaGreatDoorP12
set_option linter.unusedVariables false
set_option linter.unusedSimpArgs false
set_option linter.unusedSectionVars false
/- BetaPuts: the row's statement. -/
namespace Go.Proofs.YtibignmpjeemeaaGreatDoor
open Go
theorem betaPuts_row (os : Os) (started : os.Started) (H : Type) (enc : TypeId × Value → H) : ReturnsInHanded Rows.betaPutsRow.assume Tryz.pinned.checked os 11 .any (Rows.betaPutsRow.pre enc Tryz.pinned.checked.prog Tryz.f11 (OpenSpec.ofChange Rows.betaPutsSpec)) (Rows.betaPutsSpec.post enc Tryz.pinned.checked.prog Tryz.f11 Rows.betaPutsRow.apart Rows.betaPutsRow.fresh Rows.betaPutsRow.handsOn Rows.betaPutsRow.again) := by
  have e : Rows.betaPutsRow.pre enc Tryz.pinned.checked.prog Tryz.f11 (OpenSpec.ofChange Rows.betaPutsSpec) = fun w args => (Rows.betaPutsSpec.pre enc Tryz.prog Tryz.f11 [] false w args ∧ laidMetH Tryz.prog Tryz.laidL w) ∧ sizedMet enc Tryz.prog Tryz.f11 (OpenSpec.ofChange Rows.betaPutsSpec) false w args := by
    funext w args
    unfold OpenClaim.pre OpenClaim.preLaid
    rfl
  rw [e]
  exact betaPuts_lifted os started H enc
theorem betaPuts_said : Rows.BetaPutsSaid :=
  OpenClaim.holds_of_wide 11 Tryz.f11 rfl rfl rfl rfl rfl rfl rfl ⟨rfl, rfl, rfl, rfl, rfl⟩ rfl rfl rfl rfl rfl (by kernel_rfl) Tryz.func11 betaPuts_closed
    (of_decide_eq_true (by kernel_rfl)) (by unfold Func.isWrapper; first | (rw [if_pos (by decide +kernel)]; kernel_rfl) | (rw [if_neg (by decide +kernel)]; exact ⟨rfl, rfl⟩))
    (fun os started H enc _ => betaPuts_row os started H enc)
end Go.Proofs.YtibignmpjeemeaaGreatDoor
