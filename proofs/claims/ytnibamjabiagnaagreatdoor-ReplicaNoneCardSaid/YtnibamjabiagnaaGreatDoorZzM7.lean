/- Part of a proof: ZzM7. -/
import Derived.Test.YtnibamjabiagnaaGreatDoorZzM6
import Derived.KernelRfl
set_option linter.unusedSimpArgs false
set_option linter.unusedVariables false
set_option linter.unusedSectionVars false
namespace Go.Vm
open Go Go.Proofs
set_option maxRecDepth 100000
theorem c7 : GGm tab ml6 60 14 [.A [.I .i64 1, .I .i64 4, .I .i64 6, .B false], .Y [97, 109, 110, 49, 0, 0, 0, 15, 1, 4, 1, 1, 0, 1, 1, 1, 3, 0, 0, 0, 0, 0, 0, 80, 220, 41, 28]] [] = .ret (.T [.A [.I .i64 4, .I .i64 1, .I .i64 0, .I .i64 0, .I .i64 0, .I .i64 0, .I .i64 0, .S [], .I .i64 0, .I .i64 0, .S [], .I .i64 1, .I .i64 0, .I .i64 0, .I .u64 0, .I .u64 0, .L 5 [], .L 2 [[.I .u64 0, .I .u64 0], [.I .u64 0, .I .u64 0], [.I .u64 0, .I .u64 0]]], .I .i64 0]) [] := by kernel_rfl
def ml7 : ML := (14, [.A [.I .i64 1, .I .i64 4, .I .i64 6, .B false], .Y [97, 109, 110, 49, 0, 0, 0, 15, 1, 4, 1, 1, 0, 1, 1, 1, 3, 0, 0, 0, 0, 0, 0, 80, 220, 41, 28]], [], .ret (.T [.A [.I .i64 4, .I .i64 1, .I .i64 0, .I .i64 0, .I .i64 0, .I .i64 0, .I .i64 0, .S [], .I .i64 0, .I .i64 0, .S [], .I .i64 1, .I .i64 0, .I .i64 0, .I .u64 0, .I .u64 0, .L 5 [], .L 2 [[.I .u64 0, .I .u64 0], [.I .u64 0, .I .u64 0], [.I .u64 0, .I .u64 0]]], .I .i64 0]) []) :: ml6
theorem off7 : memOff cx.eats ml7 = true := by kernel_rfl
theorem ok7 : ∀ p ∈ ml7, ∃ S, Sound cx p.1 S ∧ S p.2.1 p.2.2.1 = p.2.2.2 := by
  intro p hp
  rcases List.mem_cons.1 hp with rfl | hp
  · exact ⟨GGm tab ml6 60 14, GGm_sound tab_sound off6 ok6 60 14, c7⟩
  · exact ok6 p hp
end Go.Vm
