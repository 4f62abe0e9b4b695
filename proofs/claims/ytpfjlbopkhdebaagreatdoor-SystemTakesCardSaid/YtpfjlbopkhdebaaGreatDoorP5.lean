/- Contracts of this program's functions and the laws that they need. -/
import Derived.Test.YtpfjlbopkhdebaaGreatDoorRows
import Derived.JoinedOf
import Derived.KernelRfl
import Derived.Test.YtpfjlbopkhdebaaGreatDoorP1
set_option linter.unusedVariables false
set_option linter.unusedSimpArgs false
set_option linter.unusedSectionVars false
/- SystemTakes: the row's closed facts. -/
namespace Go.Proofs.YtpfjlbopkhdebaaGreatDoor
theorem systemTakes_closed : joinedFacts Tryz.prog 11 Tryz.f11 Rows.systemTakesSpec Rows.systemTakesRow = true := by kernel_rfl
end Go.Proofs.YtpfjlbopkhdebaaGreatDoor
