/- Contracts of this program's functions and the laws that they need: a separation logic over the machine's rules, one theorem each (partly printed by a program of this repository). -/
import Derived.Test.YtpfjlbopkhdebaaGreatDoorRows
import Derived.JoinedOf
import Derived.KernelRfl
set_option linter.unusedVariables false
set_option linter.unusedSimpArgs false
set_option linter.unusedSectionVars false
/- DimsUnders: the row's closed facts. -/
namespace Go.Proofs.YtpfjlbopkhdebaaGreatDoor
theorem dimsUnders_closed : joinedFacts Tryz.prog 5 Tryz.f5 Rows.dimsUndersSpec Rows.dimsUndersRow = true := by kernel_rfl
end Go.Proofs.YtpfjlbopkhdebaaGreatDoor
