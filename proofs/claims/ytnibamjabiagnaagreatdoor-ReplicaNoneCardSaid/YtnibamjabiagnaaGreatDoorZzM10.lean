/- Part of a proof: ZzM10. -/
import Derived.Test.YtnibamjabiagnaaGreatDoorZzM9
import Derived.KernelRfl
set_option linter.unusedSimpArgs false
set_option linter.unusedVariables false
set_option linter.unusedSectionVars false
namespace Go.Vm
open Go Go.Proofs
set_option maxRecDepth 100000
theorem c10 : GGm tab ml9 60 15 [.P 0 0] [.cells [.a (.I .i64 1), .a (.I .i64 4), .a (.I .i64 6), .a (.B false), .a (.I .i64 0), .a (.I .i64 1), .a (.I .i64 0), .a (.I .i64 0), .a (.L 5 [[.I .i64 2, .I .i64 1, .I .i64 1, .I .i64 7, .S [97]]]), .a (.I .i64 1), .a (.L 2 [[.I .u64 0, .I .u64 0], [.I .u64 0, .I .u64 0], [.I .u64 0, .I .u64 0]]), .a (.I .i64 0), .a (.L 4 [[.I .i64 1, .I .u64 0, .I .u64 0, .I .i64 1]]), .a (.L 3 []), .a (.L 6 []), .a (.L 6 []), .a (.B true)], .cells [.a (.I .i64 0)], .cells [.a (.I .i64 0)]] = .ret (.A [.I .i64 0, .I .i64 1, .I .i64 0, .I .i64 0, .L 5 [[.I .i64 2, .I .i64 1, .I .i64 1, .I .i64 7, .S [97]]], .I .i64 1, .L 2 [[.I .u64 0, .I .u64 0], [.I .u64 0, .I .u64 0], [.I .u64 0, .I .u64 0]], .I .i64 0, .L 4 [[.I .i64 1, .I .u64 0, .I .u64 0, .I .i64 1]], .L 3 [], .L 6 [], .L 6 []]) [.cells [.a (.I .i64 1), .a (.I .i64 4), .a (.I .i64 6), .a (.B false), .a (.I .i64 0), .a (.I .i64 1), .a (.I .i64 0), .a (.I .i64 0), .a (.L 5 [[.I .i64 2, .I .i64 1, .I .i64 1, .I .i64 7, .S [97]]]), .a (.I .i64 1), .a (.L 2 [[.I .u64 0, .I .u64 0], [.I .u64 0, .I .u64 0], [.I .u64 0, .I .u64 0]]), .a (.I .i64 0), .a (.L 4 [[.I .i64 1, .I .u64 0, .I .u64 0, .I .i64 1]]), .a (.L 3 []), .a (.L 6 []), .a (.L 6 []), .a (.B true)], .cells [.a (.I .i64 0)], .cells [.a (.I .i64 0)]] := by kernel_rfl
def ml10 : ML := (15, [.P 0 0], [.cells [.a (.I .i64 1), .a (.I .i64 4), .a (.I .i64 6), .a (.B false), .a (.I .i64 0), .a (.I .i64 1), .a (.I .i64 0), .a (.I .i64 0), .a (.L 5 [[.I .i64 2, .I .i64 1, .I .i64 1, .I .i64 7, .S [97]]]), .a (.I .i64 1), .a (.L 2 [[.I .u64 0, .I .u64 0], [.I .u64 0, .I .u64 0], [.I .u64 0, .I .u64 0]]), .a (.I .i64 0), .a (.L 4 [[.I .i64 1, .I .u64 0, .I .u64 0, .I .i64 1]]), .a (.L 3 []), .a (.L 6 []), .a (.L 6 []), .a (.B true)], .cells [.a (.I .i64 0)], .cells [.a (.I .i64 0)]], .ret (.A [.I .i64 0, .I .i64 1, .I .i64 0, .I .i64 0, .L 5 [[.I .i64 2, .I .i64 1, .I .i64 1, .I .i64 7, .S [97]]], .I .i64 1, .L 2 [[.I .u64 0, .I .u64 0], [.I .u64 0, .I .u64 0], [.I .u64 0, .I .u64 0]], .I .i64 0, .L 4 [[.I .i64 1, .I .u64 0, .I .u64 0, .I .i64 1]], .L 3 [], .L 6 [], .L 6 []]) [.cells [.a (.I .i64 1), .a (.I .i64 4), .a (.I .i64 6), .a (.B false), .a (.I .i64 0), .a (.I .i64 1), .a (.I .i64 0), .a (.I .i64 0), .a (.L 5 [[.I .i64 2, .I .i64 1, .I .i64 1, .I .i64 7, .S [97]]]), .a (.I .i64 1), .a (.L 2 [[.I .u64 0, .I .u64 0], [.I .u64 0, .I .u64 0], [.I .u64 0, .I .u64 0]]), .a (.I .i64 0), .a (.L 4 [[.I .i64 1, .I .u64 0, .I .u64 0, .I .i64 1]]), .a (.L 3 []), .a (.L 6 []), .a (.L 6 []), .a (.B true)], .cells [.a (.I .i64 0)], .cells [.a (.I .i64 0)]]) :: ml9
theorem off10 : memOff cx.eats ml10 = true := by kernel_rfl
theorem ok10 : ∀ p ∈ ml10, ∃ S, Sound cx p.1 S ∧ S p.2.1 p.2.2.1 = p.2.2.2 := by
  intro p hp
  rcases List.mem_cons.1 hp with rfl | hp
  · exact ⟨GGm tab ml9 60 15, GGm_sound tab_sound off9 ok9 60 15, c10⟩
  · exact ok9 p hp
end Go.Vm
