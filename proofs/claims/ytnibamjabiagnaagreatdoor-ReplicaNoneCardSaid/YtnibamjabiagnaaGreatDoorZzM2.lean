/- Part of a proof: ZzM2. -/
import Derived.Test.YtnibamjabiagnaaGreatDoorZzM1
import Derived.KernelRfl
set_option linter.unusedSimpArgs false
set_option linter.unusedVariables false
set_option linter.unusedSectionVars false
namespace Go.Vm
open Go Go.Proofs
set_option maxRecDepth 100000
theorem c2 : GGm tab ml1 60 27 [.A [.I .i64 1, .I .i64 4, .I .i64 6, .B false], .A [.I .i64 1, .I .i64 0, .I .i64 0, .I .i64 2, .I .i64 1, .I .i64 1, .I .i64 7, .S [97], .I .i64 0, .I .i64 0, .S [], .I .i64 0, .I .i64 0, .I .i64 0, .I .u64 0, .I .u64 0, .L 5 [], .L 2 []]] [] = .ret (.Y [97, 109, 110, 49, 0, 0, 0, 13, 1, 1, 1, 2, 1, 1, 1, 1, 1, 7, 1, 1, 97, 222, 59, 119, 71]) [] := by kernel_rfl
def ml2 : ML := (27, [.A [.I .i64 1, .I .i64 4, .I .i64 6, .B false], .A [.I .i64 1, .I .i64 0, .I .i64 0, .I .i64 2, .I .i64 1, .I .i64 1, .I .i64 7, .S [97], .I .i64 0, .I .i64 0, .S [], .I .i64 0, .I .i64 0, .I .i64 0, .I .u64 0, .I .u64 0, .L 5 [], .L 2 []]], [], .ret (.Y [97, 109, 110, 49, 0, 0, 0, 13, 1, 1, 1, 2, 1, 1, 1, 1, 1, 7, 1, 1, 97, 222, 59, 119, 71]) []) :: ml1
theorem off2 : memOff cx.eats ml2 = true := by kernel_rfl
theorem ok2 : ∀ p ∈ ml2, ∃ S, Sound cx p.1 S ∧ S p.2.1 p.2.2.1 = p.2.2.2 := by
  intro p hp
  rcases List.mem_cons.1 hp with rfl | hp
  · exact ⟨GGm tab ml1 60 27, GGm_sound tab_sound off1 ok1 60 27, c2⟩
  · exact ok1 p hp
end Go.Vm
