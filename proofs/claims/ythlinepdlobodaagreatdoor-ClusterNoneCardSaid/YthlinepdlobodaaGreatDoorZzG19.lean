/- Part of a proof: ZzG19. -/
import Derived.Test.YthlinepdlobodaaGreatDoorZzMl
import Derived.KernelRfl
set_option linter.unusedSimpArgs false
set_option linter.unusedVariables false
set_option linter.unusedSectionVars false
namespace Go.Vm
open Go Go.Proofs
set_option maxRecDepth 100000
theorem g19 : (GGq tab [] 40 61 [(.P 0 0), (.I .i64 0), (.I .i64 0)] hp48 = (.ret (.T []) hp49)) ∧ (GGq tab [] 40 61 [(.P 0 0), (.I .i64 1), (.I .i64 0)] hp49 = (.ret (.T []) hp50)) ∧ (GGq tab [] 40 61 [(.P 0 0), (.I .i64 2), (.I .i64 0)] hp50 = (.ret (.T []) hp51)) := ⟨by kernel_rfl, by kernel_rfl, by kernel_rfl⟩
end Go.Vm
