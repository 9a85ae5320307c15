/- Part of a proof: ZzM1. -/
import Derived.Test.YtnibamjabiagnaaGreatDoorZzM0
import Derived.KernelRfl
set_option linter.unusedSimpArgs false
set_option linter.unusedVariables false
set_option linter.unusedSectionVars false
namespace Go.Vm
open Go Go.Proofs
set_option maxRecDepth 100000
theorem c1 : GGm tab ml0 60 25 [.A [.I .i64 1, .I .i64 4, .I .i64 6, .B false], .I .i64 0] [] = .ret (.T [.P 0 0, .I .i64 0]) [.cells [.a (.I .i64 1), .a (.I .i64 4), .a (.I .i64 6), .a (.B false), .a (.I .i64 0), .a (.I .i64 1), .a (.I .i64 0), .a (.I .i64 0), .a (.L 5 []), .a (.I .i64 0), .a (.L 2 [[.I .u64 0, .I .u64 0], [.I .u64 0, .I .u64 0], [.I .u64 0, .I .u64 0]]), .a (.I .i64 0), .a (.L 4 []), .a (.L 3 []), .a (.L 6 []), .a (.L 6 []), .a (.B true)]] := by kernel_rfl
def ml1 : ML := (25, [.A [.I .i64 1, .I .i64 4, .I .i64 6, .B false], .I .i64 0], [], .ret (.T [.P 0 0, .I .i64 0]) [.cells [.a (.I .i64 1), .a (.I .i64 4), .a (.I .i64 6), .a (.B false), .a (.I .i64 0), .a (.I .i64 1), .a (.I .i64 0), .a (.I .i64 0), .a (.L 5 []), .a (.I .i64 0), .a (.L 2 [[.I .u64 0, .I .u64 0], [.I .u64 0, .I .u64 0], [.I .u64 0, .I .u64 0]]), .a (.I .i64 0), .a (.L 4 []), .a (.L 3 []), .a (.L 6 []), .a (.L 6 []), .a (.B true)]]) :: ml0
theorem off1 : memOff cx.eats ml1 = true := by kernel_rfl
theorem ok1 : ∀ p ∈ ml1, ∃ S, Sound cx p.1 S ∧ S p.2.1 p.2.2.1 = p.2.2.2 := by
  intro p hp
  rcases List.mem_cons.1 hp with rfl | hp
  · exact ⟨GGm tab ml0 60 25, GGm_sound tab_sound off0 ok0 60 25, c1⟩
  · exact ok0 p hp
end Go.Vm
