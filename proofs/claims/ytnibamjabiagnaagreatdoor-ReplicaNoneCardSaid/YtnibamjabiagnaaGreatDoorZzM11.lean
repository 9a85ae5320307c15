/- Part of a proof: ZzM11. -/
import Derived.Test.YtnibamjabiagnaaGreatDoorZzM10
import Derived.KernelRfl
set_option linter.unusedSimpArgs false
set_option linter.unusedVariables false
set_option linter.unusedSectionVars false
namespace Go.Vm
open Go Go.Proofs
set_option maxRecDepth 100000
theorem c11 : GGm tab ml10 60 7 [] [] = .ret (.B true) [] := by kernel_rfl
def ml11 : ML := (7, [], [], .ret (.B true) []) :: ml10
theorem off11 : memOff cx.eats ml11 = true := by kernel_rfl
theorem ok11 : ∀ p ∈ ml11, ∃ S, Sound cx p.1 S ∧ S p.2.1 p.2.2.1 = p.2.2.2 := by
  intro p hp
  rcases List.mem_cons.1 hp with rfl | hp
  · exact ⟨GGm tab ml10 60 7, GGm_sound tab_sound off10 ok10 60 7, c11⟩
  · exact ok10 p hp
end Go.Vm
