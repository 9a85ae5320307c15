/- Part of a proof: ZzG10. -/
import Derived.Test.YthlinepdlobodaaGreatDoorZzMl
import Derived.KernelRfl
set_option linter.unusedSimpArgs false
set_option linter.unusedVariables false
set_option linter.unusedSectionVars false
namespace Go.Vm
open Go Go.Proofs
set_option maxRecDepth 100000
theorem g10 : (GGq tab [] 40 61 [(.P 0 0), (.I .i64 2), (.I .i64 0)] hp27 = (.ret (.T []) hp28)) := by kernel_rfl
end Go.Vm
