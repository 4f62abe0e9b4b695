/- Contracts of this program's functions and the laws that they need: a separation logic over the machine's rules, one theorem each (partly printed by a program of this repository). -/
import Derived.Test.YtpfjlbopkhdebaaGreatDoorRows
import Derived.JoinedOf
import Derived.KernelRfl
import Derived.Test.YtpfjlbopkhdebaaGreatDoorP1
set_option linter.unusedVariables false
set_option linter.unusedSimpArgs false
set_option linter.unusedSectionVars false
/- DimsPuts: the row's closed facts. -/
namespace Go.Proofs.YtpfjlbopkhdebaaGreatDoor
theorem dimsPuts_closed : joinedFacts Tryz.prog 4 Tryz.f4 Rows.dimsPutsSpec Rows.dimsPutsRow = true := by kernel_rfl
end Go.Proofs.YtpfjlbopkhdebaaGreatDoor
