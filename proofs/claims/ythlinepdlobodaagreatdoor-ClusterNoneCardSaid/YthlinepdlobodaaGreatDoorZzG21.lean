/- Part of a proof: ZzG21. -/
import Derived.Test.YthlinepdlobodaaGreatDoorZzMl
import Derived.KernelRfl
set_option linter.unusedSimpArgs false
set_option linter.unusedVariables false
set_option linter.unusedSectionVars false
namespace Go.Vm
open Go Go.Proofs
set_option maxRecDepth 100000
theorem g21 : (GGq tab ml52 40 41 [(.P 0 0), va17] hp2 = (.ret (.B true) hp51)) := by kernel_rfl
end Go.Vm
