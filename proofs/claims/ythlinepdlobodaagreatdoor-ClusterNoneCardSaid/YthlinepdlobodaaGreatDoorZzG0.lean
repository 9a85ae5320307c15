/- Part of a proof: ZzG0. -/
import Derived.Test.YthlinepdlobodaaGreatDoorZzMl
import Derived.KernelRfl
set_option linter.unusedSimpArgs false
set_option linter.unusedVariables false
set_option linter.unusedSectionVars false
namespace Go.Vm
open Go Go.Proofs
set_option maxRecDepth 100000
theorem g0 : (GGq tab [] 40 6 [va0] [] = (.ret (.T [.P 0 0, .I .i64 0]) hp0)) ∧ (GGq tab [] 40 9 [(.P 0 0), va1] hp0 = (.ret va2 hp1)) ∧ (GGq tab [] 40 9 [(.P 0 0), va3] hp1 = (.ret va4 hp2)) := ⟨by kernel_rfl, by kernel_rfl, by kernel_rfl⟩
end Go.Vm
