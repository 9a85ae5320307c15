/- Part of a proof: ZzG23. -/
import Derived.Test.YthlinepdlobodaaGreatDoorZzMl
import Derived.KernelRfl
set_option linter.unusedSimpArgs false
set_option linter.unusedVariables false
set_option linter.unusedSectionVars false
namespace Go.Vm
open Go Go.Proofs
set_option maxRecDepth 100000
theorem g23 : (GGq tab ml54 40 4 [] [] = (.ret (.B true) [])) := by kernel_rfl
end Go.Vm
