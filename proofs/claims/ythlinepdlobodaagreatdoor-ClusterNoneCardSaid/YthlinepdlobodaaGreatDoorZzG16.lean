/- Part of a proof: ZzG16. -/
import Derived.Test.YthlinepdlobodaaGreatDoorZzMl
import Derived.KernelRfl
set_option linter.unusedSimpArgs false
set_option linter.unusedVariables false
set_option linter.unusedSectionVars false
namespace Go.Vm
open Go Go.Proofs
set_option maxRecDepth 100000
theorem g16 : (GGq tab [] 40 61 [(.P 0 0), (.I .i64 0), (.I .i64 0)] hp41 = (.ret (.T []) hp42)) ∧ (GGq tab [] 40 61 [(.P 0 0), (.I .i64 1), (.I .i64 0)] hp42 = (.ret (.T []) hp43)) ∧ (GGq tab [] 40 61 [(.P 0 0), (.I .i64 2), (.I .i64 0)] hp43 = (.ret (.T []) hp44)) := ⟨by kernel_rfl, by kernel_rfl, by kernel_rfl⟩
end Go.Vm
