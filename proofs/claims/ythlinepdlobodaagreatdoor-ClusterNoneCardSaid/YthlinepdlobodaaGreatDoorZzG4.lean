/- Part of a proof: ZzG4. -/
import Derived.Test.YthlinepdlobodaaGreatDoorZzMl
import Derived.KernelRfl
set_option linter.unusedSimpArgs false
set_option linter.unusedVariables false
set_option linter.unusedSectionVars false
namespace Go.Vm
open Go Go.Proofs
set_option maxRecDepth 100000
theorem g4 : (GGq tab [] 40 61 [(.P 0 0), (.I .i64 1), (.I .i64 0)] hp12 = (.ret (.T []) hp13)) ∧ (GGq tab [] 40 61 [(.P 0 0), (.I .i64 2), (.I .i64 0)] hp13 = (.ret (.T []) hp14)) := ⟨by kernel_rfl, by kernel_rfl⟩
end Go.Vm
