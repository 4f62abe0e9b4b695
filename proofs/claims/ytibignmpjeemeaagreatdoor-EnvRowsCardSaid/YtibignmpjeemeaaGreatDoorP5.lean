/- Contracts of this program's functions and the laws that they need. -/
import Derived.Test.YtibignmpjeemeaaGreatDoorRows
import Derived.JoinedOf
import Derived.KernelRfl
import Derived.Test.YtibignmpjeemeaaGreatDoorP1
set_option linter.unusedVariables false
set_option linter.unusedSimpArgs false
set_option linter.unusedSectionVars false
/- EnvRows: the row's closed facts. -/
namespace Go.Proofs.YtibignmpjeemeaaGreatDoor
theorem envRows_closed : joinedFacts Tryz.prog 6 Tryz.f6 Rows.envRowsSpec Rows.envRowsRow = true := by kernel_rfl
end Go.Proofs.YtibignmpjeemeaaGreatDoor
