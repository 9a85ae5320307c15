/- Part of a proof: ZzM3. -/
import Derived.Test.YtnibamjabiagnaaGreatDoorZzM2
import Derived.KernelRfl
set_option linter.unusedSimpArgs false
set_option linter.unusedVariables false
set_option linter.unusedSectionVars false
namespace Go.Vm
open Go Go.Proofs
set_option maxRecDepth 100000
theorem c3 : GGm tab ml2 60 14 [.A [.I .i64 1, .I .i64 4, .I .i64 6, .B false], .Y [97, 109, 110, 49, 0, 0, 0, 13, 1, 1, 1, 2, 1, 1, 1, 1, 1, 7, 1, 1, 97, 222, 59, 119, 71]] [] = .ret (.T [.A [.I .i64 1, .I .i64 0, .I .i64 0, .I .i64 2, .I .i64 1, .I .i64 1, .I .i64 7, .S [97], .I .i64 0, .I .i64 0, .S [], .I .i64 0, .I .i64 0, .I .i64 0, .I .u64 0, .I .u64 0, .L 5 [], .L 2 []], .I .i64 0]) [] := by kernel_rfl
def ml3 : ML := (14, [.A [.I .i64 1, .I .i64 4, .I .i64 6, .B false], .Y [97, 109, 110, 49, 0, 0, 0, 13, 1, 1, 1, 2, 1, 1, 1, 1, 1, 7, 1, 1, 97, 222, 59, 119, 71]], [], .ret (.T [.A [.I .i64 1, .I .i64 0, .I .i64 0, .I .i64 2, .I .i64 1, .I .i64 1, .I .i64 7, .S [97], .I .i64 0, .I .i64 0, .S [], .I .i64 0, .I .i64 0, .I .i64 0, .I .u64 0, .I .u64 0, .L 5 [], .L 2 []], .I .i64 0]) []) :: ml2
theorem off3 : memOff cx.eats ml3 = true := by kernel_rfl
theorem ok3 : ∀ p ∈ ml3, ∃ S, Sound cx p.1 S ∧ S p.2.1 p.2.2.1 = p.2.2.2 := by
  intro p hp
  rcases List.mem_cons.1 hp with rfl | hp
  · exact ⟨GGm tab ml2 60 14, GGm_sound tab_sound off2 ok2 60 14, c3⟩
  · exact ok2 p hp
end Go.Vm
