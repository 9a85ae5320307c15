/- Part of a proof: ZzG25. -/
import Derived.Test.YtmcocdbkonefjaaGreatDoorZzMl
import Derived.KernelRfl
set_option linter.unusedSimpArgs false
set_option linter.unusedVariables false
set_option linter.unusedSectionVars false
namespace Go.Vm
open Go Go.Proofs
set_option maxRecDepth 100000
theorem g25:Ok [] e11∧Ok [] e220∧Ok [] e359∧Ok [] e442∧Ok [] e6∧Ok [] e17∧Ok [] e21∧Ok [] e27∧Ok [] e37∧Ok [] e41∧Ok [] e48∧Ok [] e56∧Ok [] e76∧Ok [] e80∧Ok [] e87∧Ok [] e96∧Ok [] e103∧Ok [] e123∧Ok [] e130∧Ok [] e144∧Ok [] e148∧Ok [] e157∧Ok [] e170∧Ok [] e177∧Ok [] e183∧Ok [] e190∧Ok [] e196∧Ok [] e209∧Ok [] e230∧Ok [] e235∧Ok [] e240∧Ok [] e245∧Ok [] e252∧Ok [] e260∧Ok [] e288∧Ok [] e297∧Ok [] e310∧Ok [] e339∧Ok [] e348∧Ok [] e373∧Ok [] e385∧Ok [] e394∧Ok [] e408∧Ok [] e423∧Ok [] e431∧Ok [] e448:=⟨ok (by kernel_rfl),ok (by kernel_rfl),ok (by kernel_rfl),ok (by kernel_rfl),ok (by kernel_rfl),ok (by kernel_rfl),ok (by kernel_rfl),ok (by kernel_rfl),ok (by kernel_rfl),ok (by kernel_rfl),ok (by kernel_rfl),ok (by kernel_rfl),ok (by kernel_rfl),ok (by kernel_rfl),ok (by kernel_rfl),ok (by kernel_rfl),ok (by kernel_rfl),ok (by kernel_rfl),ok (by kernel_rfl),ok (by kernel_rfl),ok (by kernel_rfl),ok (by kernel_rfl),ok (by kernel_rfl),ok (by kernel_rfl),ok (by kernel_rfl),ok (by kernel_rfl),ok (by kernel_rfl),ok (by kernel_rfl),ok (by kernel_rfl),ok (by kernel_rfl),ok (by kernel_rfl),ok (by kernel_rfl),ok (by kernel_rfl),ok (by kernel_rfl),ok (by kernel_rfl),ok (by kernel_rfl),ok (by kernel_rfl),ok (by kernel_rfl),ok (by kernel_rfl),ok (by kernel_rfl),ok (by kernel_rfl),ok (by kernel_rfl),ok (by kernel_rfl),ok (by kernel_rfl),ok (by kernel_rfl),ok (by kernel_rfl)⟩
end Go.Vm
