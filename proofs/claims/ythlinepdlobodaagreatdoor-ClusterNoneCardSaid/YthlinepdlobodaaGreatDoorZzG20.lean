/- Part of a proof: ZzG20. -/
import Derived.Test.YthlinepdlobodaaGreatDoorZzMl
import Derived.KernelRfl
set_option linter.unusedSimpArgs false
set_option linter.unusedVariables false
set_option linter.unusedSectionVars false
namespace Go.Vm
open Go Go.Proofs
set_option maxRecDepth 100000
theorem g20 : (GGq tab ml51 40 65 [(.P 0 0)] hp44 = (.ret (.T []) hp51)) := by kernel_rfl
end Go.Vm
