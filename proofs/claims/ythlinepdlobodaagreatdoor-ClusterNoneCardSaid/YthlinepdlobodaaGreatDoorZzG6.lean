/- Part of a proof: ZzG6. -/
import Derived.Test.YthlinepdlobodaaGreatDoorZzMl
import Derived.KernelRfl
set_option linter.unusedSimpArgs false
set_option linter.unusedVariables false
set_option linter.unusedSectionVars false
namespace Go.Vm
open Go Go.Proofs
set_option maxRecDepth 100000
theorem g6 : (GGq tab [] 40 51 [(.P 0 0), (.I .i64 0)] hp14 = (.ret (.T []) hp15)) ∧ (GGq tab [] 40 54 [(.P 0 0), va10, (.I .i64 0)] hp16 = (.ret (.T []) hp17)) ∧ (GGq tab [] 40 54 [(.P 0 0), va11, (.I .i64 0)] hp17 = (.ret (.T []) hp18)) := ⟨by kernel_rfl, by kernel_rfl, by kernel_rfl⟩
end Go.Vm
