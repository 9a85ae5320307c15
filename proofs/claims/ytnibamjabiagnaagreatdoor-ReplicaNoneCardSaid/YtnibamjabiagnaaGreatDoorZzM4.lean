/- Part of a proof: ZzM4. -/
import Derived.Test.YtnibamjabiagnaaGreatDoorZzM3
import Derived.KernelRfl
set_option linter.unusedSimpArgs false
set_option linter.unusedVariables false
set_option linter.unusedSectionVars false
namespace Go.Vm
open Go Go.Proofs
set_option maxRecDepth 100000
theorem c4 : GGm tab ml3 60 118 [.A [.I .i64 1, .I .i64 4, .I .i64 6, .B false], .A [.I .i64 0, .I .i64 1, .I .i64 0, .I .i64 0, .L 5 [], .I .i64 0, .L 2 [[.I .u64 0, .I .u64 0], [.I .u64 0, .I .u64 0], [.I .u64 0, .I .u64 0]], .I .i64 0, .L 4 [], .L 3 [], .L 6 [], .L 6 []], .A [.I .i64 1, .I .i64 0, .I .i64 0, .I .i64 2, .I .i64 1, .I .i64 1, .I .i64 7, .S [97], .I .i64 0, .I .i64 0, .S [], .I .i64 0, .I .i64 0, .I .i64 0, .I .u64 0, .I .u64 0, .L 5 [], .L 2 []]] [] = .ret (.T [.A [.I .i64 0, .I .i64 1, .I .i64 0, .I .i64 0, .L 5 [[.I .i64 2, .I .i64 1, .I .i64 1, .I .i64 7, .S [97]]], .I .i64 0, .L 2 [[.I .u64 0, .I .u64 0], [.I .u64 0, .I .u64 0], [.I .u64 0, .I .u64 0]], .I .i64 0, .L 4 [], .L 3 [], .L 6 [], .L 6 []], .L 19 [[.I .i64 1, .I .i64 3, .I .i64 0, .I .i64 0, .I .i64 2, .I .i64 1, .I .i64 1, .I .i64 7, .S [97], .I .i64 0, .I .i64 0, .S [], .I .i64 1, .I .i64 0, .I .i64 0, .I .u64 0, .I .u64 0, .L 5 [], .L 2 [[.I .u64 0, .I .u64 0], [.I .u64 0, .I .u64 0], [.I .u64 0, .I .u64 0]]], [.I .i64 2, .I .i64 3, .I .i64 0, .I .i64 0, .I .i64 2, .I .i64 1, .I .i64 1, .I .i64 7, .S [97], .I .i64 0, .I .i64 0, .S [], .I .i64 1, .I .i64 0, .I .i64 0, .I .u64 0, .I .u64 0, .L 5 [], .L 2 [[.I .u64 0, .I .u64 0], [.I .u64 0, .I .u64 0], [.I .u64 0, .I .u64 0]]]], .I .i64 0]) [] := by kernel_rfl
def ml4 : ML := (118, [.A [.I .i64 1, .I .i64 4, .I .i64 6, .B false], .A [.I .i64 0, .I .i64 1, .I .i64 0, .I .i64 0, .L 5 [], .I .i64 0, .L 2 [[.I .u64 0, .I .u64 0], [.I .u64 0, .I .u64 0], [.I .u64 0, .I .u64 0]], .I .i64 0, .L 4 [], .L 3 [], .L 6 [], .L 6 []], .A [.I .i64 1, .I .i64 0, .I .i64 0, .I .i64 2, .I .i64 1, .I .i64 1, .I .i64 7, .S [97], .I .i64 0, .I .i64 0, .S [], .I .i64 0, .I .i64 0, .I .i64 0, .I .u64 0, .I .u64 0, .L 5 [], .L 2 []]], [], .ret (.T [.A [.I .i64 0, .I .i64 1, .I .i64 0, .I .i64 0, .L 5 [[.I .i64 2, .I .i64 1, .I .i64 1, .I .i64 7, .S [97]]], .I .i64 0, .L 2 [[.I .u64 0, .I .u64 0], [.I .u64 0, .I .u64 0], [.I .u64 0, .I .u64 0]], .I .i64 0, .L 4 [], .L 3 [], .L 6 [], .L 6 []], .L 19 [[.I .i64 1, .I .i64 3, .I .i64 0, .I .i64 0, .I .i64 2, .I .i64 1, .I .i64 1, .I .i64 7, .S [97], .I .i64 0, .I .i64 0, .S [], .I .i64 1, .I .i64 0, .I .i64 0, .I .u64 0, .I .u64 0, .L 5 [], .L 2 [[.I .u64 0, .I .u64 0], [.I .u64 0, .I .u64 0], [.I .u64 0, .I .u64 0]]], [.I .i64 2, .I .i64 3, .I .i64 0, .I .i64 0, .I .i64 2, .I .i64 1, .I .i64 1, .I .i64 7, .S [97], .I .i64 0, .I .i64 0, .S [], .I .i64 1, .I .i64 0, .I .i64 0, .I .u64 0, .I .u64 0, .L 5 [], .L 2 [[.I .u64 0, .I .u64 0], [.I .u64 0, .I .u64 0], [.I .u64 0, .I .u64 0]]]], .I .i64 0]) []) :: ml3
theorem off4 : memOff cx.eats ml4 = true := by kernel_rfl
theorem ok4 : ∀ p ∈ ml4, ∃ S, Sound cx p.1 S ∧ S p.2.1 p.2.2.1 = p.2.2.2 := by
  intro p hp
  rcases List.mem_cons.1 hp with rfl | hp
  · exact ⟨GGm tab ml3 60 118, GGm_sound tab_sound off3 ok3 60 118, c4⟩
  · exact ok3 p hp
end Go.Vm
