/- Part of a proof: ZzG11. -/
import Derived.Test.YthlinepdlobodaaGreatDoorZzMl
import Derived.KernelRfl
set_option linter.unusedSimpArgs false
set_option linter.unusedVariables false
set_option linter.unusedSectionVars false
namespace Go.Vm
open Go Go.Proofs
set_option maxRecDepth 100000
theorem g11 : (GGq tab ml28 40 65 [(.P 0 0)] hp14 = (.ret (.T []) hp28)) := by kernel_rfl
end Go.Vm
