/- Part of a proof: ZzG13. -/
import Derived.Test.YthlinepdlobodaaGreatDoorZzMl
import Derived.KernelRfl
set_option linter.unusedSimpArgs false
set_option linter.unusedVariables false
set_option linter.unusedSectionVars false
namespace Go.Vm
open Go Go.Proofs
set_option maxRecDepth 100000
theorem g13 : (GGq tab [] 40 54 [(.P 0 0), va16, (.I .i64 0)] hp32 = (.ret (.T []) hp33)) ∧ (GGq tab [] 40 54 [(.P 0 0), va10, (.I .i64 0)] hp33 = (.ret (.T []) hp34)) ∧ (GGq tab [] 40 54 [(.P 0 0), va11, (.I .i64 0)] hp34 = (.ret (.T []) hp35)) := ⟨by kernel_rfl, by kernel_rfl, by kernel_rfl⟩
end Go.Vm
