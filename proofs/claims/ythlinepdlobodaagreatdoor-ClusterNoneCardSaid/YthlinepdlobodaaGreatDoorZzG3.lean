/- Part of a proof: ZzG3. -/
import Derived.Test.YthlinepdlobodaaGreatDoorZzMl
import Derived.KernelRfl
set_option linter.unusedSimpArgs false
set_option linter.unusedVariables false
set_option linter.unusedSectionVars false
namespace Go.Vm
open Go Go.Proofs
set_option maxRecDepth 100000
theorem g3 : (GGq tab [] 40 54 [(.P 0 0), va5, (.I .i64 0)] hp9 = (.ret (.T []) hp10)) ∧ (GGq tab [] 40 54 [(.P 0 0), va6, (.I .i64 0)] hp10 = (.ret (.T []) hp11)) ∧ (GGq tab [] 40 61 [(.P 0 0), (.I .i64 0), (.I .i64 0)] hp11 = (.ret (.T []) hp12)) := ⟨by kernel_rfl, by kernel_rfl, by kernel_rfl⟩
end Go.Vm
