/- Part of a proof: ZzG22. -/
import Derived.Test.YthlinepdlobodaaGreatDoorZzMl
import Derived.KernelRfl
set_option linter.unusedSimpArgs false
set_option linter.unusedVariables false
set_option linter.unusedSectionVars false
namespace Go.Vm
open Go Go.Proofs
set_option maxRecDepth 100000
theorem g22 : (GGq tab ml53 40 9 [(.P 0 0), va17] hp2 = (.ret va18 hp52)) := by kernel_rfl
end Go.Vm
