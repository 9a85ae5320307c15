/- Part of a proof: ZzG1. -/
import Derived.Test.YthlinepdlobodaaGreatDoorZzMl
import Derived.KernelRfl
set_option linter.unusedSimpArgs false
set_option linter.unusedVariables false
set_option linter.unusedSectionVars false
namespace Go.Vm
open Go Go.Proofs
set_option maxRecDepth 100000
theorem g1 : (GGq tab [] 40 51 [(.P 0 0), (.I .i64 0)] hp2 = (.ret (.T []) hp3)) ∧ (GGq tab [] 40 54 [(.P 0 0), va5, (.I .i64 0)] hp4 = (.ret (.T []) hp5)) ∧ (GGq tab [] 40 54 [(.P 0 0), va6, (.I .i64 0)] hp5 = (.ret (.T []) hp6)) := ⟨by kernel_rfl, by kernel_rfl, by kernel_rfl⟩
end Go.Vm
