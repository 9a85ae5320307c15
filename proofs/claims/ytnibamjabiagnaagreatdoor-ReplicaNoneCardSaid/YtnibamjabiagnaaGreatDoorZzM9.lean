/- Part of a proof: ZzM9. -/
import Derived.Test.YtnibamjabiagnaaGreatDoorZzM8
import Derived.KernelRfl
set_option linter.unusedSimpArgs false
set_option linter.unusedVariables false
set_option linter.unusedSectionVars false
namespace Go.Vm
open Go Go.Proofs
set_option maxRecDepth 100000
theorem c9 : GGm tab ml8 60 12 [.P 0 0, .Y [97, 109, 110, 49, 0, 0, 0, 15, 1, 4, 1, 1, 0, 1, 1, 1, 3, 0, 0, 0, 0, 0, 0, 80, 220, 41, 28]] [.cells [.a (.I .i64 1), .a (.I .i64 4), .a (.I .i64 6), .a (.B false), .a (.I .i64 0), .a (.I .i64 1), .a (.I .i64 0), .a (.I .i64 0), .a (.L 5 [[.I .i64 2, .I .i64 1, .I .i64 1, .I .i64 7, .S [97]]]), .a (.I .i64 0), .a (.L 2 [[.I .u64 0, .I .u64 0], [.I .u64 0, .I .u64 0], [.I .u64 0, .I .u64 0]]), .a (.I .i64 0), .a (.L 4 []), .a (.L 3 []), .a (.L 6 []), .a (.L 6 []), .a (.B true)], .cells [.a (.I .i64 0)]] = .ret (.T [.L 3 [[.I .i64 0, .I .i64 9, .Y [97, 109, 110, 49, 0, 0, 0, 17, 1, 2, 0, 0, 1, 1, 1, 2, 1, 1, 1, 1, 1, 7, 1, 1, 97, 168, 89, 225, 15]], [.I .i64 0, .I .i64 1, .Y [97, 109, 110, 49, 0, 0, 0, 14, 1, 5, 0, 0, 1, 1, 1, 3, 0, 0, 0, 0, 0, 0, 12, 219, 88, 138]], [.I .i64 0, .I .i64 2, .Y [97, 109, 110, 49, 0, 0, 0, 14, 1, 5, 0, 0, 1, 1, 1, 3, 0, 0, 0, 0, 0, 0, 12, 219, 88, 138]]], .I .i64 0]) [.cells [.a (.I .i64 1), .a (.I .i64 4), .a (.I .i64 6), .a (.B false), .a (.I .i64 0), .a (.I .i64 1), .a (.I .i64 0), .a (.I .i64 0), .a (.L 5 [[.I .i64 2, .I .i64 1, .I .i64 1, .I .i64 7, .S [97]]]), .a (.I .i64 1), .a (.L 2 [[.I .u64 0, .I .u64 0], [.I .u64 0, .I .u64 0], [.I .u64 0, .I .u64 0]]), .a (.I .i64 0), .a (.L 4 [[.I .i64 1, .I .u64 0, .I .u64 0, .I .i64 1]]), .a (.L 3 []), .a (.L 6 []), .a (.L 6 []), .a (.B true)], .cells [.a (.I .i64 0)], .cells [.a (.I .i64 0)]] := by kernel_rfl
def ml9 : ML := (12, [.P 0 0, .Y [97, 109, 110, 49, 0, 0, 0, 15, 1, 4, 1, 1, 0, 1, 1, 1, 3, 0, 0, 0, 0, 0, 0, 80, 220, 41, 28]], [.cells [.a (.I .i64 1), .a (.I .i64 4), .a (.I .i64 6), .a (.B false), .a (.I .i64 0), .a (.I .i64 1), .a (.I .i64 0), .a (.I .i64 0), .a (.L 5 [[.I .i64 2, .I .i64 1, .I .i64 1, .I .i64 7, .S [97]]]), .a (.I .i64 0), .a (.L 2 [[.I .u64 0, .I .u64 0], [.I .u64 0, .I .u64 0], [.I .u64 0, .I .u64 0]]), .a (.I .i64 0), .a (.L 4 []), .a (.L 3 []), .a (.L 6 []), .a (.L 6 []), .a (.B true)], .cells [.a (.I .i64 0)]], .ret (.T [.L 3 [[.I .i64 0, .I .i64 9, .Y [97, 109, 110, 49, 0, 0, 0, 17, 1, 2, 0, 0, 1, 1, 1, 2, 1, 1, 1, 1, 1, 7, 1, 1, 97, 168, 89, 225, 15]], [.I .i64 0, .I .i64 1, .Y [97, 109, 110, 49, 0, 0, 0, 14, 1, 5, 0, 0, 1, 1, 1, 3, 0, 0, 0, 0, 0, 0, 12, 219, 88, 138]], [.I .i64 0, .I .i64 2, .Y [97, 109, 110, 49, 0, 0, 0, 14, 1, 5, 0, 0, 1, 1, 1, 3, 0, 0, 0, 0, 0, 0, 12, 219, 88, 138]]], .I .i64 0]) [.cells [.a (.I .i64 1), .a (.I .i64 4), .a (.I .i64 6), .a (.B false), .a (.I .i64 0), .a (.I .i64 1), .a (.I .i64 0), .a (.I .i64 0), .a (.L 5 [[.I .i64 2, .I .i64 1, .I .i64 1, .I .i64 7, .S [97]]]), .a (.I .i64 1), .a (.L 2 [[.I .u64 0, .I .u64 0], [.I .u64 0, .I .u64 0], [.I .u64 0, .I .u64 0]]), .a (.I .i64 0), .a (.L 4 [[.I .i64 1, .I .u64 0, .I .u64 0, .I .i64 1]]), .a (.L 3 []), .a (.L 6 []), .a (.L 6 []), .a (.B true)], .cells [.a (.I .i64 0)], .cells [.a (.I .i64 0)]]) :: ml8
theorem off9 : memOff cx.eats ml9 = true := by kernel_rfl
theorem ok9 : ∀ p ∈ ml9, ∃ S, Sound cx p.1 S ∧ S p.2.1 p.2.2.1 = p.2.2.2 := by
  intro p hp
  rcases List.mem_cons.1 hp with rfl | hp
  · exact ⟨GGm tab ml8 60 12, GGm_sound tab_sound off8 ok8 60 12, c9⟩
  · exact ok8 p hp
end Go.Vm
