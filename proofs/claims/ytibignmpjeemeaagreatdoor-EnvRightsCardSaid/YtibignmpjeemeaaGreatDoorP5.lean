/- Contracts of this program's functions and the laws that they need. -/
import Derived.Test.YtibignmpjeemeaaGreatDoorRows
import Derived.JoinedOf
import Derived.KernelRfl
import Derived.Test.YtibignmpjeemeaaGreatDoorP1
set_option linter.unusedVariables false
set_option linter.unusedSimpArgs false
set_option linter.unusedSectionVars false
/- EnvRights: the row's closed facts. -/
namespace Go.Proofs.YtibignmpjeemeaaGreatDoor
theorem envRights_closed : joinedFacts Tryz.prog 8 Tryz.f8 Rows.envRightsSpec Rows.envRightsRow = true := by kernel_rfl
end Go.Proofs.YtibignmpjeemeaaGreatDoor
