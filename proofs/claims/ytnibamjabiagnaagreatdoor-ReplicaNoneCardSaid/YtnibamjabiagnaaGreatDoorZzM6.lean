/- Part of a proof: ZzM6. -/
import Derived.Test.YtnibamjabiagnaaGreatDoorZzM5
import Derived.KernelRfl
set_option linter.unusedSimpArgs false
set_option linter.unusedVariables false
set_option linter.unusedSectionVars false
namespace Go.Vm
open Go Go.Proofs
set_option maxRecDepth 100000
theorem c6 : GGm tab ml5 60 27 [.A [.I .i64 1, .I .i64 4, .I .i64 6, .B false], .A [.I .i64 4, .I .i64 1, .I .i64 0, .I .i64 0, .I .i64 0, .I .i64 0, .I .i64 0, .S [], .I .i64 0, .I .i64 0, .S [], .I .i64 1, .I .i64 0, .I .i64 0, .I .u64 0, .I .u64 0, .L 5 [], .L 2 [[.I .u64 0, .I .u64 0], [.I .u64 0, .I .u64 0], [.I .u64 0, .I .u64 0]]]] [] = .ret (.Y [97, 109, 110, 49, 0, 0, 0, 15, 1, 4, 1, 1, 0, 1, 1, 1, 3, 0, 0, 0, 0, 0, 0, 80, 220, 41, 28]) [] := by kernel_rfl
def ml6 : ML := (27, [.A [.I .i64 1, .I .i64 4, .I .i64 6, .B false], .A [.I .i64 4, .I .i64 1, .I .i64 0, .I .i64 0, .I .i64 0, .I .i64 0, .I .i64 0, .S [], .I .i64 0, .I .i64 0, .S [], .I .i64 1, .I .i64 0, .I .i64 0, .I .u64 0, .I .u64 0, .L 5 [], .L 2 [[.I .u64 0, .I .u64 0], [.I .u64 0, .I .u64 0], [.I .u64 0, .I .u64 0]]]], [], .ret (.Y [97, 109, 110, 49, 0, 0, 0, 15, 1, 4, 1, 1, 0, 1, 1, 1, 3, 0, 0, 0, 0, 0, 0, 80, 220, 41, 28]) []) :: ml5
theorem off6 : memOff cx.eats ml6 = true := by kernel_rfl
theorem ok6 : ∀ p ∈ ml6, ∃ S, Sound cx p.1 S ∧ S p.2.1 p.2.2.1 = p.2.2.2 := by
  intro p hp
  rcases List.mem_cons.1 hp with rfl | hp
  · exact ⟨GGm tab ml5 60 27, GGm_sound tab_sound off5 ok5 60 27, c6⟩
  · exact ok5 p hp
end Go.Vm
