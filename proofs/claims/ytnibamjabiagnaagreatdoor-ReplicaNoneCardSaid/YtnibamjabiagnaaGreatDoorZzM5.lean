/- Part of a proof: ZzM5. -/
import Derived.Test.YtnibamjabiagnaaGreatDoorZzM4
import Derived.KernelRfl
set_option linter.unusedSimpArgs false
set_option linter.unusedVariables false
set_option linter.unusedSectionVars false
namespace Go.Vm
open Go Go.Proofs
set_option maxRecDepth 100000
theorem c5 : GGm tab ml4 60 12 [.P 0 0, .Y [97, 109, 110, 49, 0, 0, 0, 13, 1, 1, 1, 2, 1, 1, 1, 1, 1, 7, 1, 1, 97, 222, 59, 119, 71]] [.cells [.a (.I .i64 1), .a (.I .i64 4), .a (.I .i64 6), .a (.B false), .a (.I .i64 0), .a (.I .i64 1), .a (.I .i64 0), .a (.I .i64 0), .a (.L 5 []), .a (.I .i64 0), .a (.L 2 [[.I .u64 0, .I .u64 0], [.I .u64 0, .I .u64 0], [.I .u64 0, .I .u64 0]]), .a (.I .i64 0), .a (.L 4 []), .a (.L 3 []), .a (.L 6 []), .a (.L 6 []), .a (.B true)]] = .ret (.T [.L 3 [[.I .i64 0, .I .i64 1, .Y [97, 109, 110, 49, 0, 0, 0, 26, 1, 3, 0, 0, 1, 1, 0, 1, 2, 1, 1, 1, 1, 1, 7, 1, 1, 97, 1, 3, 0, 0, 0, 0, 0, 0, 162, 57, 210, 119]], [.I .i64 0, .I .i64 2, .Y [97, 109, 110, 49, 0, 0, 0, 26, 1, 3, 0, 0, 1, 1, 0, 1, 2, 1, 1, 1, 1, 1, 7, 1, 1, 97, 1, 3, 0, 0, 0, 0, 0, 0, 162, 57, 210, 119]]], .I .i64 0]) [.cells [.a (.I .i64 1), .a (.I .i64 4), .a (.I .i64 6), .a (.B false), .a (.I .i64 0), .a (.I .i64 1), .a (.I .i64 0), .a (.I .i64 0), .a (.L 5 [[.I .i64 2, .I .i64 1, .I .i64 1, .I .i64 7, .S [97]]]), .a (.I .i64 0), .a (.L 2 [[.I .u64 0, .I .u64 0], [.I .u64 0, .I .u64 0], [.I .u64 0, .I .u64 0]]), .a (.I .i64 0), .a (.L 4 []), .a (.L 3 []), .a (.L 6 []), .a (.L 6 []), .a (.B true)], .cells [.a (.I .i64 0)]] := by kernel_rfl
def ml5 : ML := (12, [.P 0 0, .Y [97, 109, 110, 49, 0, 0, 0, 13, 1, 1, 1, 2, 1, 1, 1, 1, 1, 7, 1, 1, 97, 222, 59, 119, 71]], [.cells [.a (.I .i64 1), .a (.I .i64 4), .a (.I .i64 6), .a (.B false), .a (.I .i64 0), .a (.I .i64 1), .a (.I .i64 0), .a (.I .i64 0), .a (.L 5 []), .a (.I .i64 0), .a (.L 2 [[.I .u64 0, .I .u64 0], [.I .u64 0, .I .u64 0], [.I .u64 0, .I .u64 0]]), .a (.I .i64 0), .a (.L 4 []), .a (.L 3 []), .a (.L 6 []), .a (.L 6 []), .a (.B true)]], .ret (.T [.L 3 [[.I .i64 0, .I .i64 1, .Y [97, 109, 110, 49, 0, 0, 0, 26, 1, 3, 0, 0, 1, 1, 0, 1, 2, 1, 1, 1, 1, 1, 7, 1, 1, 97, 1, 3, 0, 0, 0, 0, 0, 0, 162, 57, 210, 119]], [.I .i64 0, .I .i64 2, .Y [97, 109, 110, 49, 0, 0, 0, 26, 1, 3, 0, 0, 1, 1, 0, 1, 2, 1, 1, 1, 1, 1, 7, 1, 1, 97, 1, 3, 0, 0, 0, 0, 0, 0, 162, 57, 210, 119]]], .I .i64 0]) [.cells [.a (.I .i64 1), .a (.I .i64 4), .a (.I .i64 6), .a (.B false), .a (.I .i64 0), .a (.I .i64 1), .a (.I .i64 0), .a (.I .i64 0), .a (.L 5 [[.I .i64 2, .I .i64 1, .I .i64 1, .I .i64 7, .S [97]]]), .a (.I .i64 0), .a (.L 2 [[.I .u64 0, .I .u64 0], [.I .u64 0, .I .u64 0], [.I .u64 0, .I .u64 0]]), .a (.I .i64 0), .a (.L 4 []), .a (.L 3 []), .a (.L 6 []), .a (.L 6 []), .a (.B true)], .cells [.a (.I .i64 0)]]) :: ml4
theorem off5 : memOff cx.eats ml5 = true := by kernel_rfl
theorem ok5 : ∀ p ∈ ml5, ∃ S, Sound cx p.1 S ∧ S p.2.1 p.2.2.1 = p.2.2.2 := by
  intro p hp
  rcases List.mem_cons.1 hp with rfl | hp
  · exact ⟨GGm tab ml4 60 12, GGm_sound tab_sound off4 ok4 60 12, c5⟩
  · exact ok4 p hp
end Go.Vm
