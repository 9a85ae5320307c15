/- Part of a proof: ZzG17. -/
import Derived.Test.YthlinepdlobodaaGreatDoorZzMl
import Derived.KernelRfl
set_option linter.unusedSimpArgs false
set_option linter.unusedVariables false
set_option linter.unusedSectionVars false
namespace Go.Vm
open Go Go.Proofs
set_option maxRecDepth 100000
theorem g17 : (GGq tab ml44 40 65 [(.P 0 0)] hp28 = (.ret (.T []) hp44)) := by kernel_rfl
end Go.Vm
