/- Part of a proof: ZzG15. -/
import Derived.Test.YthlinepdlobodaaGreatDoorZzMl
import Derived.KernelRfl
set_option linter.unusedSimpArgs false
set_option linter.unusedVariables false
set_option linter.unusedSectionVars false
namespace Go.Vm
open Go Go.Proofs
set_option maxRecDepth 100000
theorem g15 : (GGq tab [] 40 54 [(.P 0 0), va9, (.I .i64 0)] hp38 = (.ret (.T []) hp39)) ∧ (GGq tab [] 40 54 [(.P 0 0), va5, (.I .i64 0)] hp39 = (.ret (.T []) hp40)) ∧ (GGq tab [] 40 54 [(.P 0 0), va6, (.I .i64 0)] hp40 = (.ret (.T []) hp41)) := ⟨by kernel_rfl, by kernel_rfl, by kernel_rfl⟩
end Go.Vm
