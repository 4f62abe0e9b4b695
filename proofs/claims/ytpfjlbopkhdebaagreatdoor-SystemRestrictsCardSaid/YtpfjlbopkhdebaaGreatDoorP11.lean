/- Contracts of this program's functions and the laws that they need: a separation logic over the machine's rules, one theorem each (partly printed by a program of this repository). -/
import Derived.Test.YtpfjlbopkhdebaaGreatDoorRows
import Derived.JoinedOf
import Derived.KernelRfl
set_option linter.unusedVariables false
set_option linter.unusedSimpArgs false
set_option linter.unusedSectionVars false
/- SystemRestricts: the row's closed facts. -/
namespace Go.Proofs.YtpfjlbopkhdebaaGreatDoor
theorem systemRestricts_closed : joinedFacts Tryz.prog 7 Tryz.f7 Rows.systemRestrictsSpec Rows.systemRestrictsRow = true := by kernel_rfl
end Go.Proofs.YtpfjlbopkhdebaaGreatDoor
