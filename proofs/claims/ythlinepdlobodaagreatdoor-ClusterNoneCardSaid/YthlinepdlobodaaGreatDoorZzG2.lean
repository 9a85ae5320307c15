/- Part of a proof: ZzG2. -/
import Derived.Test.YthlinepdlobodaaGreatDoorZzMl
import Derived.KernelRfl
set_option linter.unusedSimpArgs false
set_option linter.unusedVariables false
set_option linter.unusedSectionVars false
namespace Go.Vm
open Go Go.Proofs
set_option maxRecDepth 100000
theorem g2 : (GGq tab [] 40 54 [(.P 0 0), va7, (.I .i64 0)] hp6 = (.ret (.T []) hp7)) ∧ (GGq tab [] 40 54 [(.P 0 0), va8, (.I .i64 0)] hp7 = (.ret (.T []) hp8)) ∧ (GGq tab [] 40 54 [(.P 0 0), va9, (.I .i64 0)] hp8 = (.ret (.T []) hp9)) := ⟨by kernel_rfl, by kernel_rfl, by kernel_rfl⟩
end Go.Vm
