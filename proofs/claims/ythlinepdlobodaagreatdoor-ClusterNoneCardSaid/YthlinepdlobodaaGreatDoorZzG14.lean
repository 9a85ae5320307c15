/- Part of a proof: ZzG14. -/
import Derived.Test.YthlinepdlobodaaGreatDoorZzMl
import Derived.KernelRfl
set_option linter.unusedSimpArgs false
set_option linter.unusedVariables false
set_option linter.unusedSectionVars false
namespace Go.Vm
open Go Go.Proofs
set_option maxRecDepth 100000
theorem g14 : (GGq tab [] 40 54 [(.P 0 0), va14, (.I .i64 0)] hp35 = (.ret (.T []) hp36)) ∧ (GGq tab [] 40 54 [(.P 0 0), va15, (.I .i64 0)] hp36 = (.ret (.T []) hp37)) ∧ (GGq tab [] 40 54 [(.P 0 0), va16, (.I .i64 0)] hp37 = (.ret (.T []) hp38)) := ⟨by kernel_rfl, by kernel_rfl, by kernel_rfl⟩
end Go.Vm
