/- Part of a proof: ZzG9. -/
import Derived.Test.YthlinepdlobodaaGreatDoorZzMl
import Derived.KernelRfl
set_option linter.unusedSimpArgs false
set_option linter.unusedVariables false
set_option linter.unusedSectionVars false
namespace Go.Vm
open Go Go.Proofs
set_option maxRecDepth 100000
theorem g9 : (GGq tab [] 40 54 [(.P 0 0), va6, (.I .i64 0)] hp24 = (.ret (.T []) hp25)) ∧ (GGq tab [] 40 61 [(.P 0 0), (.I .i64 0), (.I .i64 0)] hp25 = (.ret (.T []) hp26)) ∧ (GGq tab [] 40 61 [(.P 0 0), (.I .i64 1), (.I .i64 0)] hp26 = (.ret (.T []) hp27)) := ⟨by kernel_rfl, by kernel_rfl, by kernel_rfl⟩
end Go.Vm
