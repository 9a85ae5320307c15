/- Part of a proof: ZzG8. -/
import Derived.Test.YthlinepdlobodaaGreatDoorZzMl
import Derived.KernelRfl
set_option linter.unusedSimpArgs false
set_option linter.unusedVariables false
set_option linter.unusedSectionVars false
namespace Go.Vm
open Go Go.Proofs
set_option maxRecDepth 100000
theorem g8 : (GGq tab [] 40 54 [(.P 0 0), va8, (.I .i64 0)] hp21 = (.ret (.T []) hp22)) ∧ (GGq tab [] 40 54 [(.P 0 0), va9, (.I .i64 0)] hp22 = (.ret (.T []) hp23)) ∧ (GGq tab [] 40 54 [(.P 0 0), va5, (.I .i64 0)] hp23 = (.ret (.T []) hp24)) := ⟨by kernel_rfl, by kernel_rfl, by kernel_rfl⟩
end Go.Vm
