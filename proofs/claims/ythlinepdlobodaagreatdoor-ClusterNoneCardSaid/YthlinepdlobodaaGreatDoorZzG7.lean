/- Part of a proof: ZzG7. -/
import Derived.Test.YthlinepdlobodaaGreatDoorZzMl
import Derived.KernelRfl
set_option linter.unusedSimpArgs false
set_option linter.unusedVariables false
set_option linter.unusedSectionVars false
namespace Go.Vm
open Go Go.Proofs
set_option maxRecDepth 100000
theorem g7 : (GGq tab [] 40 54 [(.P 0 0), va12, (.I .i64 0)] hp18 = (.ret (.T []) hp19)) ∧ (GGq tab [] 40 54 [(.P 0 0), va13, (.I .i64 0)] hp19 = (.ret (.T []) hp20)) ∧ (GGq tab [] 40 54 [(.P 0 0), va7, (.I .i64 0)] hp20 = (.ret (.T []) hp21)) := ⟨by kernel_rfl, by kernel_rfl, by kernel_rfl⟩
end Go.Vm
