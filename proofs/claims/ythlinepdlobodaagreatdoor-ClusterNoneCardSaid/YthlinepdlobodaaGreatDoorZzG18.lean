/- Part of a proof: ZzG18. -/
import Derived.Test.YthlinepdlobodaaGreatDoorZzMl
import Derived.KernelRfl
set_option linter.unusedSimpArgs false
set_option linter.unusedVariables false
set_option linter.unusedSectionVars false
namespace Go.Vm
open Go Go.Proofs
set_option maxRecDepth 100000
theorem g18 : (GGq tab [] 40 54 [(.P 0 0), va14, (.I .i64 0)] hp45 = (.ret (.T []) hp46)) ∧ (GGq tab [] 40 54 [(.P 0 0), va15, (.I .i64 0)] hp46 = (.ret (.T []) hp47)) ∧ (GGq tab [] 40 54 [(.P 0 0), va16, (.I .i64 0)] hp47 = (.ret (.T []) hp48)) := ⟨by kernel_rfl, by kernel_rfl, by kernel_rfl⟩
end Go.Vm
