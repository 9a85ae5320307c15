/- Part of a proof: ZzG12. -/
import Derived.Test.YthlinepdlobodaaGreatDoorZzMl
import Derived.KernelRfl
set_option linter.unusedSimpArgs false
set_option linter.unusedVariables false
set_option linter.unusedSectionVars false
namespace Go.Vm
open Go Go.Proofs
set_option maxRecDepth 100000
theorem g12 : (GGq tab [] 40 51 [(.P 0 0), (.I .i64 0)] hp28 = (.ret (.T []) hp29)) ∧ (GGq tab [] 40 54 [(.P 0 0), va14, (.I .i64 0)] hp30 = (.ret (.T []) hp31)) ∧ (GGq tab [] 40 54 [(.P 0 0), va15, (.I .i64 0)] hp31 = (.ret (.T []) hp32)) := ⟨by kernel_rfl, by kernel_rfl, by kernel_rfl⟩
end Go.Vm
